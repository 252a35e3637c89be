/- What the law's row needs of these texts, taken out of them by wip/tool/mini.py: QAt P79 QEndsLaw QRightOf QEndsRight QMaxLaw QFillWalk P119 P67 P68. -/
import Derived.Test.YtkcpanpdipmmmaaMoafmie
import Derived.Test.YtkcpanpdipmmmaaMkknlne
import Derived.Test.YtkcpanpdipmmmaaMdcalel
import Derived.Deep.RegionHeld3
import Derived.Deep.DeepCutAuto
set_option linter.unusedVariables false
set_option linter.unusedSimpArgs false
open Go.RowKit Go.Proofs.YtkcpanpdipmmmaaW.PrintWords Go.Proofs.YtkcpanpdipmmmaaW.PrintLast Go.Proofs.YtkcpanpdipmmmaaW.PrintMore
namespace Go.Proofs.Ytkcpanpdipmmmaa
namespace H
open Go.RowKit Go.Proofs.YtkcpanpdipmmmaaW.PrintWords Go.Proofs.YtkcpanpdipmmmaaW.PrintLast Go.Proofs.YtkcpanpdipmmmaaW.PrintMore P
theorem infoRowS:(Try.prog.info? 34).map (fun i=>(i.zero,i.size,i.bytes))=some (some (.slice none 0 0),1,24):=by kernel_rfl
set_option maxHeartbeats 2000000 in
set_option maxRecDepth 100000 in
theorem at_calls (n0:Nat) (a0_1:Bool) (A0_2:Option Addr) (c0_2:Nat) (l0_2:List S74) (A1:Option Addr) (c1 n1:Nat) (w:World) (hr0_2:Kd.C k74 w A0_2 l0_2.length l0_2) (hc0_2:l0_2.length≤c0_2) (h0:0≤(n0:Int)) (h1:(n0:Int)≤1000000) (hl:l0_2.length≤500000) (hE0: ∀ k:Nat,k<l0_2.length→0≤eFrom (rd_T74 l0_2 k)∧eFrom (rd_T74 l0_2 k)<(n0:Int)) (hE1: ∀ k:Nat,k<l0_2.length→0≤eTo (rd_T74 l0_2 k)∧eTo (rd_T74 l0_2 k)<(n0:Int)):
  Calls Try.prog 101 #[.agg #[.int .i64 (n0:Int), .bool a0_1, .slice A0_2 l0_2.length c0_2], .slice A1 n1 c1] w fun e w'=> ∃ v0_:Value,e= .returned (.agg #[.int .i64 (n0:Int), .bool a0_1, .slice A0_2 l0_2.length c0_2, .slice A1 n1 c1,v0_])∧Kd.S (Kd.slice 38 k38) 34 w' w.heap.size (fun _=>True) v0_ (rowsAt l0_2 n0 n0)∧Below w.heap.size w w':=by
 have hu24:=Try.underlying24;have hu118:=Try.underlying118;have HR0_2:=Aside0.mk hr0_2;have HC0_2:=Aside0.mk hc0_2;have HH0:=Aside0.mk h0;have HH1:=Aside0.mk h1;have HE0:=Aside0.mk hE0;have HE1:=Aside0.mk hE1;have HR0:=Aside0.mk hr0_2;clear hr0_2 hc0_2 h0 h1 hE0 hE1;have HB:=Aside0.mk (Below.refl w.heap.size w);go_enter Try.func101,Try.ntmps101;go_wp2_with (first|((with_reducible refine gate_dst (N:=2) rfl ?_);refine box_event ?hg (N:=2) ?hd (cs:= #[.int .i64 (n0:Int), .bool a0_1, .slice A0_2 l0_2.length c0_2]) (t:=24) ?hr ?_;(case hd=>rfl);(case hg=>rfl);(case hr=>first|(go_simp;done)|(go_simp;rfl));intro gb111 hg w4 hbox hb;have n0_:=Aside0.mk (below_step (by repeat(first|(with_reducible first|exact HB.out|apply below_alloc|apply pw_below_drewN|apply below_drew1)|exact HB.out)) hb);have n1_:=Aside0.mk (hbox);have n2_:=Aside0.mk (Kd.C_below HR0_2.out hb);clear HB HR0_2;have HB:=n0_;have BK111:=n1_;have HR0_2:=n2_;clear n0_ n1_ n2_;clear hb hbox hg)|((with_reducible refine gate_dst (N:=4) rfl ?_);refine box_event ?hg (N:=4) ?hd (cs:= #[.int .i64 0, .bool false, .slice none 0 0, .slice none 0 0, .slice none 0 0]) (t:=118) ?hr ?_;(case hd=>rfl);(case hg=>rfl);(case hr=>first|(go_simp;done)|(go_simp;rfl));intro gb4 hg w5 hbox hb;have GE4:Aside0 (w.heap.size≤gb4):=⟨by rw[hg];exact HB.out.size⟩;have n0_:=Aside0.mk (below_step (by repeat(first|(with_reducible first|exact HB.out|apply below_alloc|apply pw_below_drewN|apply below_drew1)|exact HB.out)) hb);have n1_:=Aside0.mk (hbox);have n2_:=Aside0.mk (Kd.C_below HR0_2.out hb);have n3_:=Aside0.mk (blk_below BK111.out hb);clear HB HR0_2 BK111;have HB:=n0_;have BK4:=n1_;have HR0_2:=n2_;have BK111:=n3_;clear n0_ n1_ n2_ n3_;clear hb hbox hg)|fail);obtain⟨R0,hR0⟩: ∃ y_:List (List S38),y_=List.replicate (n0:Int).toNat []:=⟨_,rfl⟩;have NR0:=Aside0.mk hR0;clear hR0;refine start_ (n:=9) (S:=(fun w'=>w'.cell? ⟨gb111,0,none⟩=some (.int .i64 (n0:Int))∧w'.cell? ⟨gb111,1,none⟩=some (.bool a0_1)∧w'.cell? ⟨gb111,2,none⟩=some (.slice A0_2 l0_2.length c0_2))) (ds:=[]) #[false,false,false,false,false,false,false,false,false] (by kernel_rfl) rfl rfl ⟨(blk_cell BK111.out 0).trans rfl,(blk_cell BK111.out 1).trans rfl,(blk_cell BK111.out 2).trans rfl⟩ (fun hHeld=> ?_);have n0_:=Aside0.mk (below_drew HB.out);have n1_:Aside0 (w5.drew.heap[gb111]? =some (.cells #[.int .i64 (n0:Int), .bool a0_1, .slice A0_2 l0_2.length c0_2] 24 (0,0))):=⟨BK111.out⟩;have n2_:Aside0 (w5.drew.heap[gb4]? =some (.cells #[.int .i64 0, .bool false, .slice none 0 0, .slice none 0 0, .slice none 0 0] 118 (0,0))):=⟨BK4.out⟩;clear HB BK111 BK4;have HB:=n0_;have BK111:=n1_;have BK4:=n2_;clear n0_ n1_ n2_;generalize w5.drew=w6 at BK111 HB BK4 hHeld ⊢;refine pure_ (i:=1) (N:=some 14) (v:= ?_) (a':= ?_) #[false,true,false,false,false,false,false,false,false] rfl rfl (by kernel_rfl) (fun _ _ _ h=>h) (Or.inl ⟨by rfl,?_⟩) ?_ ?_
 rotate_left
 ·intro w'
  go_simp
  with_reducible rfl
 rotate_left
 ·simp only[Act.put,List.setIfInBounds_toArray,List.set_cons_zero,List.set_cons_succ,i64_w,i32_w]
  rfl
 refine pure_ (i:=3) (N:=some 16) (v:= ?_) (a':= ?_) #[false,true,false,true,false,false,false,false,false] rfl rfl (by kernel_rfl) (fun _ _ _ h=>h) (Or.inl ⟨by rfl,?_⟩) ?_ ?_
 rotate_left
 ·intro w'
  go_simp
  with_reducible rfl
 rotate_left
 ·simp only[Act.put,List.setIfInBounds_toArray,List.set_cons_zero,List.set_cons_succ,i64_w,i32_w]
  rfl
 refine take_ (i:=0) (N:=some 13) (v:= ?_) (a':= ?_) #[true,true,false,true,false,false,false,false,false] rfl rfl (by kernel_rfl) (fun _ _ _ h=>h) (Or.inl ⟨by rfl,?_⟩) hHeld ?_ ?_
 rotate_left
 ·rintro w' ⟨s0,s1,s2⟩
  go_simp
  with_reducible rfl
 rotate_left
 ·simp only[Act.put,List.setIfInBounds_toArray,List.set_cons_zero,List.set_cons_succ,i64_w,i32_w]
  rfl
 refine take_ (i:=4) (N:=some 17) (v:= ?_) (a':= ?_) #[true,true,false,true,true,false,false,false,false] rfl rfl (by kernel_rfl) (fun _ _ _ h=>h) (Or.inl ⟨by rfl,?_⟩) hHeld ?_ ?_
 rotate_left
 ·rintro w' ⟨s0,s1,s2⟩
  go_simp
  with_reducible rfl
 rotate_left
 ·simp only[Act.put,List.setIfInBounds_toArray,List.set_cons_zero,List.set_cons_succ,i64_w,i32_w]
  rfl
 refine pure_ (i:=2) (N:=some 15) (v:= ?_) (a':= ?_) #[true,true,true,true,true,false,false,false,false] rfl rfl (by kernel_rfl) (fun _ _ _ h=>h) (Or.inl ⟨by rfl,?_⟩) ?_ ?_
 rotate_left
 ·intro w'
  go_simp
  with_reducible rfl
 rotate_left
 ·simp only[Act.put,List.setIfInBounds_toArray,List.set_cons_zero,List.set_cons_succ,i64_w,i32_w]
  rfl
 refine join_ (σ:=Value × Nat) 1 #[true,true,true,true,true,true,true,true,false] (fun s_=>[(18,s_.1),(19, .agg #[.int .i64 (n0:Int), .bool a0_1, .slice A0_2 l0_2.length c0_2, .slice A1 n1 c1,s_.1]),(5, .pointer (some ⟨s_.2,0,none⟩))]) (fun s_ w'=>(w'.cell? ⟨gb111,0,none⟩=some (.int .i64 (n0:Int))∧w'.cell? ⟨gb111,1,none⟩=some (.bool a0_1)∧w'.cell? ⟨gb111,2,none⟩=some (.slice A0_2 l0_2.length c0_2))∧Kd.S (Kd.slice 38 k38) 34 w' w.heap.size (fun _=>True) s_.1 R0∧w'.heap[gb111]? =some (.cells #[.int .i64 (n0:Int), .bool a0_1, .slice A0_2 l0_2.length c0_2] 24 (0,0))∧w'.heap[s_.2]? =some (.cells #[.int .i64 0, .bool false, .slice none 0 0, .slice none 0 0, .slice none 0 0] 118 (0,0))∧w'.heap[gb4]? =some (.cells #[.int .i64 0, .bool false, .slice none 0 0, .slice none 0 0, .slice none 0 0] 118 (0,0))∧w.heap.size≤s_.2∧gb111≠s_.2∧gb4≠s_.2∧Below w.heap.size w w') ?_ ?_
 rotate_left
 ·intro hCont
  refine two_ (i:=5) (j:=7) (Ni:=some 18) (Nj:=some 5) #[true,true,true,true,true,true,false,false,false] #[true,true,true,true,true,false,false,true,false] rfl rfl rfl rfl (by kernel_rfl) (by decide) (by decide) (fun K hK=> ?_) (fun K hK=> ?_)
  ·skip
   refine Kd.S_make_step (Kd.slice 38 k38) _ 34 (by rfl) (N:=18) rfl 116 _ _ rfl (n0:Int) rfl rfl Try.underlying116 (.slice none 0 0) 24 infoRowS rfl (by decide) (by omega) [] (ok:=fun _=>True) (okp:=fun _=>True) ⟨_,rfl,Kd.R_nil _ _ _ _ _⟩ (fun _ hk=>hk) trivial HH0.out (by have:=HH1.out;omega) (Below.refl _ _) (Nat.le_refl _) ?_;intro v18 w7 ho hb _ _;rw[← NR0.out] at ho;obtain⟨Ao,co,eo⟩:=Kd.S_slice ho;subst eo;have n0_:=Aside0.mk (Kd.S_lower ho HB.out.size);have n1_:=Aside0.mk (blk_below BK111.out hb);have n2_:=Aside0.mk (blk_below BK4.out hb);have n3_:=Aside0.mk (below_step HB.out hb);clear BK111 BK4 HB ho hb;have HO:=n0_;have BK111:=n1_;have BK4:=n2_;have HB:=n3_;clear n0_ n1_ n2_ n3_;refine hK.out _ _ ⟨(blk_cell BK111.out 0).trans rfl,(blk_cell BK111.out 1).trans rfl,(blk_cell BK111.out 2).trans rfl⟩ (fun hHeld=> ?_);clear hK K;refine norm_ (a':= ?_) ?_ ?_
   rotate_left
   ·show Act.put _ (some 18) _=_
    simp only[Act.put,List.setIfInBounds_toArray,List.set_cons_zero,List.set_cons_succ,i64_w,i32_w];rfl
   refine pure_ (i:=6) (N:=some 19) (v:= ?_) (a':= ?_) #[true,true,true,true,true,true,true,false,false] rfl rfl (by kernel_rfl) (fun _ _ _ h=>h) (Or.inl ⟨by rfl,?_⟩) ?_ ?_
   rotate_left
   ·intro w'
    go_simp
    with_reducible rfl
   rotate_left
   ·simp only[Act.put,List.setIfInBounds_toArray,List.set_cons_zero,List.set_cons_succ,i64_w,i32_w]
    rfl
   refine one_ (i:=7) (N:=some 5) #[true,true,true,true,true,true,true,true,false] rfl rfl (by kernel_rfl) (by decide) (fun K hK=> ?_);refine box_step ?hg (N:=5) ?hd (cs:= #[.int .i64 0, .bool false, .slice none 0 0, .slice none 0 0, .slice none 0 0]) (t:=118) ?hr ?_;(case hd=>rfl);(case hg=>rfl);(case hr=>first|(go_simp;done)|(go_simp;rfl));intro gb5 hg w8 hbox hb;have n0_:=Aside0.mk hbox;have n1_:=Aside0.mk (blk_below BK111.out hb);have n2_:=Aside0.mk (blk_below BK4.out hb);have n3_:=Aside0.mk (below_step HB.out hb);have n5_:Aside0 (w.heap.size≤gb5):=⟨by rw[hg];exact HB.out.size⟩;have n6_:Aside0 (gb111≠gb5):=⟨by rw[hg];exact Nat.ne_of_lt (blk_lt BK111.out)⟩;have n7_:Aside0 (gb4≠gb5):=⟨by rw[hg];exact Nat.ne_of_lt (blk_lt BK4.out)⟩;have n4_:=Aside0.mk (Kd.S_below HO.out hb);clear HO;have HO:=n4_;clear n4_;clear BK111 BK4 HB hbox hb hg;have BK5:=n0_;have BK111:=n1_;have BK4:=n2_;have HB:=n3_;have GE5:=n5_;have NB111:=n6_;have NB4:=n7_;clear n0_ n1_ n2_ n3_ n5_ n6_ n7_;refine hK.out _ _ ⟨(blk_cell BK111.out 0).trans rfl,(blk_cell BK111.out 1).trans rfl,(blk_cell BK111.out 2).trans rfl⟩ (fun hHeld=> ?_);clear hK K;refine norm_ (a':= ?_) ?_ ?_
   rotate_left
   ·show Act.put _ (some 5) _=_
    simp only[Act.put,List.setIfInBounds_toArray,List.set_cons_zero,List.set_cons_succ,i64_w,i32_w];rfl
   exact norm_ (by(simp only[putAll,Act.put,List.setIfInBounds_toArray,List.set_cons_zero,List.set_cons_succ])<;>rfl) (hCont (.slice Ao R0.length co,gb5) _ ⟨hHeld,HO.out,BK111.out,BK5.out,BK4.out,GE5.out,NB111.out,NB4.out,HB.out⟩)
  ·skip
   refine box_step ?hg (N:=5) ?hd (cs:= #[.int .i64 0, .bool false, .slice none 0 0, .slice none 0 0, .slice none 0 0]) (t:=118) ?hr ?_;(case hd=>rfl);(case hg=>rfl);(case hr=>first|(go_simp;done)|(go_simp;rfl));intro gb5 hg w7 hbox hb;have n0_:=Aside0.mk hbox;have n1_:=Aside0.mk (blk_below BK111.out hb);have n2_:=Aside0.mk (blk_below BK4.out hb);have n3_:=Aside0.mk (below_step HB.out hb);have n5_:Aside0 (w.heap.size≤gb5):=⟨by rw[hg];exact HB.out.size⟩;have n6_:Aside0 (gb111≠gb5):=⟨by rw[hg];exact Nat.ne_of_lt (blk_lt BK111.out)⟩;have n7_:Aside0 (gb4≠gb5):=⟨by rw[hg];exact Nat.ne_of_lt (blk_lt BK4.out)⟩;clear BK111 BK4 HB hbox hb hg;have BK5:=n0_;have BK111:=n1_;have BK4:=n2_;have HB:=n3_;have GE5:=n5_;have NB111:=n6_;have NB4:=n7_;clear n0_ n1_ n2_ n3_ n5_ n6_ n7_;refine hK.out _ _ ⟨(blk_cell BK111.out 0).trans rfl,(blk_cell BK111.out 1).trans rfl,(blk_cell BK111.out 2).trans rfl⟩ (fun hHeld=> ?_);clear hK K;refine norm_ (a':= ?_) ?_ ?_
   rotate_left
   ·show Act.put _ (some 5) _=_
    simp only[Act.put,List.setIfInBounds_toArray,List.set_cons_zero,List.set_cons_succ,i64_w,i32_w];rfl
   refine one_ (i:=5) (N:=some 18) #[true,true,true,true,true,true,false,true,false] rfl rfl (by kernel_rfl) (by decide) (fun K hK=> ?_);refine Kd.S_make_step (Kd.slice 38 k38) _ 34 (by rfl) (N:=18) rfl 116 _ _ rfl (n0:Int) rfl rfl Try.underlying116 (.slice none 0 0) 24 infoRowS rfl (by decide) (by omega) [] (ok:=fun _=>True) (okp:=fun _=>True) ⟨_,rfl,Kd.R_nil _ _ _ _ _⟩ (fun _ hk=>hk) trivial HH0.out (by have:=HH1.out;omega) (Below.refl _ _) (Nat.le_refl _) ?_;intro v18 w8 ho hb _ _;rw[← NR0.out] at ho;obtain⟨Ao,co,eo⟩:=Kd.S_slice ho;subst eo;have n0_:=Aside0.mk (Kd.S_lower ho HB.out.size);have n1_:=Aside0.mk (blk_below BK111.out hb);have n2_:=Aside0.mk (blk_below BK4.out hb);have n3_:=Aside0.mk (below_step HB.out hb);have n4_:=Aside0.mk (blk_below BK5.out hb);clear BK5;have BK5:=n4_;clear n4_;clear BK111 BK4 HB ho hb;have HO:=n0_;have BK111:=n1_;have BK4:=n2_;have HB:=n3_;clear n0_ n1_ n2_ n3_;refine hK.out _ _ ⟨(blk_cell BK111.out 0).trans rfl,(blk_cell BK111.out 1).trans rfl,(blk_cell BK111.out 2).trans rfl⟩ (fun hHeld=> ?_);clear hK K;refine norm_ (a':= ?_) ?_ ?_
   rotate_left
   ·show Act.put _ (some 18) _=_
    simp only[Act.put,List.setIfInBounds_toArray,List.set_cons_zero,List.set_cons_succ,i64_w,i32_w];rfl
   refine pure_ (i:=6) (N:=some 19) (v:= ?_) (a':= ?_) #[true,true,true,true,true,true,true,true,false] rfl rfl (by kernel_rfl) (fun _ _ _ h=>h) (Or.inl ⟨by rfl,?_⟩) ?_ ?_
   rotate_left
   ·intro w'
    go_simp
    with_reducible rfl
   rotate_left
   ·simp only[Act.put,List.setIfInBounds_toArray,List.set_cons_zero,List.set_cons_succ,i64_w,i32_w]
    rfl
   exact norm_ (by(simp only[putAll,Act.put,List.setIfInBounds_toArray,List.set_cons_zero,List.set_cons_succ])<;>rfl) (hCont (.slice Ao R0.length co,gb5) _ ⟨hHeld,HO.out,BK111.out,BK5.out,BK4.out,GE5.out,NB111.out,NB4.out,HB.out⟩)
 rintro⟨v18,gb5⟩ w9 ⟨hHeld,h0_,h1_,h2_,h3_,h4_,h5_,h6_,h7_⟩;clear BK111 BK4 HB;have HO:=Aside0.mk h0_;clear h0_;have BK111:=Aside0.mk h1_;clear h1_;have BK5:=Aside0.mk h2_;clear h2_;have BK4:=Aside0.mk h3_;clear h3_;have GE5:=Aside0.mk h4_;clear h4_;have NB111:=Aside0.mk h5_;clear h5_;have NB4:=Aside0.mk h6_;clear h6_;have HB:=Aside0.mk h7_;clear h7_;obtain⟨Ao,co,eo⟩:=Kd.S_slice HO.out;dsimp only at eo HO BK5 GE5 NB111 NB4;subst eo;refine norm_ (a':= ?_) ?_ ?_
 rotate_left
 ·simp only[putAll,Act.put,List.setIfInBounds_toArray,List.set_cons_zero,List.set_cons_succ]
  rfl
 refine one_ (i:=8) (N:=none) #[true,true,true,true,true,true,true,true,true] rfl rfl (by kernel_rfl) (by decide) (fun K hK=> ?_);have hs0:w9.cell? ⟨gb5,0,none⟩=some (.int .i64 0):=(blk_cell BK5.out 0).trans rfl;have hfs0:=blk_frozen BK5.out 0;have hs1:w9.cell? ⟨gb5,1,none⟩=some (.bool false):=(blk_cell BK5.out 1).trans rfl;have hfs1:=blk_frozen BK5.out 1;have hs2:w9.cell? ⟨gb5,2,none⟩=some (.slice none 0 0):=(blk_cell BK5.out 2).trans rfl;have hfs2:=blk_frozen BK5.out 2;have hs3:w9.cell? ⟨gb5,3,none⟩=some (.slice none 0 0):=(blk_cell BK5.out 3).trans rfl;have hfs3:=blk_frozen BK5.out 3;have hs4:w9.cell? ⟨gb5,4,none⟩=some (.slice none 0 0):=(blk_cell BK5.out 4).trans rfl;have hfs4:=blk_frozen BK5.out 4;have n0_:Aside0 ((((((w9.setCell ⟨gb5,0,none⟩ (.int .i64 (n0:Int))).setCell ⟨gb5,1,none⟩ (.bool a0_1)).setCell ⟨gb5,2,none⟩ (.slice A0_2 l0_2.length c0_2)).setCell ⟨gb5,3,none⟩ (.slice A1 n1 c1)).setCell ⟨gb5,4,none⟩ (.slice Ao R0.length co)).heap[gb5]? =some (.cells #[.int .i64 (n0:Int), .bool a0_1, .slice A0_2 l0_2.length c0_2, .slice A1 n1 c1, .slice Ao R0.length co] 118 (0,0))):=⟨by
  refine blk_put (cs:= #[.int .i64 (n0:Int), .bool a0_1, .slice A0_2 l0_2.length c0_2, .slice A1 n1 c1, .slice none 0 0]) ?_ 4 _ rfl;refine blk_put (cs:= #[.int .i64 (n0:Int), .bool a0_1, .slice A0_2 l0_2.length c0_2, .slice none 0 0, .slice none 0 0]) ?_ 3 _ rfl;refine blk_put (cs:= #[.int .i64 (n0:Int), .bool a0_1, .slice none 0 0, .slice none 0 0, .slice none 0 0]) ?_ 2 _ rfl;refine blk_put (cs:= #[.int .i64 (n0:Int), .bool false, .slice none 0 0, .slice none 0 0, .slice none 0 0]) ?_ 1 _ rfl;refine blk_put (cs:= #[.int .i64 0, .bool false, .slice none 0 0, .slice none 0 0, .slice none 0 0]) ?_ 0 _ rfl;exact BK5.out⟩
 have n1_:Aside0 ((((((w9.setCell ⟨gb5,0,none⟩ (.int .i64 (n0:Int))).setCell ⟨gb5,1,none⟩ (.bool a0_1)).setCell ⟨gb5,2,none⟩ (.slice A0_2 l0_2.length c0_2)).setCell ⟨gb5,3,none⟩ (.slice A1 n1 c1)).setCell ⟨gb5,4,none⟩ (.slice Ao R0.length co)).heap[gb111]? =some (.cells #[.int .i64 (n0:Int), .bool a0_1, .slice A0_2 l0_2.length c0_2] 24 (0,0))):=⟨by
  refine blk_far ?_ NB111.out _;refine blk_far ?_ NB111.out _;refine blk_far ?_ NB111.out _;refine blk_far ?_ NB111.out _;refine blk_far ?_ NB111.out _;exact BK111.out⟩
 have n2_:Aside0 ((((((w9.setCell ⟨gb5,0,none⟩ (.int .i64 (n0:Int))).setCell ⟨gb5,1,none⟩ (.bool a0_1)).setCell ⟨gb5,2,none⟩ (.slice A0_2 l0_2.length c0_2)).setCell ⟨gb5,3,none⟩ (.slice A1 n1 c1)).setCell ⟨gb5,4,none⟩ (.slice Ao R0.length co)).heap[gb4]? =some (.cells #[.int .i64 0, .bool false, .slice none 0 0, .slice none 0 0, .slice none 0 0] 118 (0,0))):=⟨by
  refine blk_far ?_ NB4.out _;refine blk_far ?_ NB4.out _;refine blk_far ?_ NB4.out _;refine blk_far ?_ NB4.out _;refine blk_far ?_ NB4.out _;exact BK4.out⟩
 have n3_:Aside0 (Kd.S (Kd.slice 38 k38) 34 (((((w9.setCell ⟨gb5,0,none⟩ (.int .i64 (n0:Int))).setCell ⟨gb5,1,none⟩ (.bool a0_1)).setCell ⟨gb5,2,none⟩ (.slice A0_2 l0_2.length c0_2)).setCell ⟨gb5,3,none⟩ (.slice A1 n1 c1)).setCell ⟨gb5,4,none⟩ (.slice Ao R0.length co)) w.heap.size (fun _=>True) (.slice Ao R0.length co) R0):=⟨Kd.S_mono (Kd.S_far (p:=⟨gb5,4,none⟩) (Kd.S_far (p:=⟨gb5,3,none⟩) (Kd.S_far (p:=⟨gb5,2,none⟩) (Kd.S_far (p:=⟨gb5,1,none⟩) (Kd.S_far (p:=⟨gb5,0,none⟩) (Kd.S_types HO.out BK5.out (by decide)) (fun _ hk=>hk.2) (.int .i64 (n0:Int))) (fun _ hk=>hk.2) (.bool a0_1)) (fun _ hk=>hk.2) (.slice A0_2 l0_2.length c0_2)) (fun _ hk=>hk.2) (.slice A1 n1 c1)) (fun _ hk=>hk.2) (.slice Ao R0.length co)) (fun _ _=>trivial)⟩;have n4_:Aside0 (Below w.heap.size w (((((w9.setCell ⟨gb5,0,none⟩ (.int .i64 (n0:Int))).setCell ⟨gb5,1,none⟩ (.bool a0_1)).setCell ⟨gb5,2,none⟩ (.slice A0_2 l0_2.length c0_2)).setCell ⟨gb5,3,none⟩ (.slice A1 n1 c1)).setCell ⟨gb5,4,none⟩ (.slice Ao R0.length co))):=⟨by repeat(first|exact HB.out|refine below_set ?_ GE5.out)⟩;refine skip_ (w1:=(((((w9.setCell ⟨gb5,0,none⟩ (.int .i64 (n0:Int))).setCell ⟨gb5,1,none⟩ (.bool a0_1)).setCell ⟨gb5,2,none⟩ (.slice A0_2 l0_2.length c0_2)).setCell ⟨gb5,3,none⟩ (.slice A1 n1 c1)).setCell ⟨gb5,4,none⟩ (.slice Ao R0.length co))) (by rfl) rfl ?_ ?_
 ·go_simp
 clear hs0 hfs0 hs1 hfs1 hs2 hfs2 hs3 hfs3 hs4 hfs4;refine hK.out _ _ ⟨(blk_cell n1_.out 0).trans rfl,(blk_cell n1_.out 1).trans rfl,(blk_cell n1_.out 2).trans rfl⟩ (fun hHeld=> ?_);clear hK K BK5 BK111 BK4 HO HB hHeld;have BK5:=n0_;have BK111:=n1_;have BK4:=n2_;have HO:=n3_;have HB:=n4_;clear n0_ n1_ n2_ n3_ n4_;refine done_ (by kernel_rfl) ?_;generalize (((((w9.setCell ⟨gb5,0,none⟩ (.int .i64 (n0:Int))).setCell ⟨gb5,1,none⟩ (.bool a0_1)).setCell ⟨gb5,2,none⟩ (.slice A0_2 l0_2.length c0_2)).setCell ⟨gb5,3,none⟩ (.slice A1 n1 c1)).setCell ⟨gb5,4,none⟩ (.slice Ao R0.length co))=w10 at BK5 BK111 BK4 HO HB ⊢;go_wp2_with fail;refine start_ (n:=6) (S:=(fun w'=>w'.cell? ⟨gb111,0,none⟩=some (.int .i64 (n0:Int))∧w'.cell? ⟨gb111,1,none⟩=some (.bool a0_1)∧w'.cell? ⟨gb111,2,none⟩=some (.slice A0_2 l0_2.length c0_2))) (ds:=[]) #[false,false,false,false,false,false] (by kernel_rfl) rfl rfl ⟨(blk_cell BK111.out 0).trans rfl,(blk_cell BK111.out 1).trans rfl,(blk_cell BK111.out 2).trans rfl⟩ (fun hHeld=> ?_);have n0_:=Aside0.mk (below_drew HB.out);have n1_:Aside0 (w10.drew.heap[gb111]? =some (.cells #[.int .i64 (n0:Int), .bool a0_1, .slice A0_2 l0_2.length c0_2] 24 (0,0))):=⟨BK111.out⟩;have n2_:Aside0 (w10.drew.heap[gb4]? =some (.cells #[.int .i64 0, .bool false, .slice none 0 0, .slice none 0 0, .slice none 0 0] 118 (0,0))):=⟨BK4.out⟩;have n3_:Aside0 (w10.drew.heap[gb5]? =some (.cells #[.int .i64 (n0:Int), .bool a0_1, .slice A0_2 l0_2.length c0_2, .slice A1 n1 c1, .slice Ao R0.length co] 118 (0,0))):=⟨BK5.out⟩;have n4_:=Aside0.mk (Kd.S_drew HO.out);clear HB BK111 BK4 BK5 HO;have HB:=n0_;have BK111:=n1_;have BK4:=n2_;have BK5:=n3_;have HO:=n4_;clear n0_ n1_ n2_ n3_ n4_;generalize w10.drew=w11 at BK111 HB BK4 BK5 HO hHeld ⊢;refine take_ (i:=0) (N:=some 20) (v:= ?_) (a':= ?_) #[true,false,false,false,false,false] rfl rfl (by kernel_rfl) (fun _ _ _ h=>h) (Or.inl ⟨by rfl,?_⟩) hHeld ?_ ?_
 rotate_left
 ·rintro w' ⟨s0,s1,s2⟩
  go_simp
  with_reducible rfl
 rotate_left
 ·simp only[Act.put,List.setIfInBounds_toArray,List.set_cons_zero,List.set_cons_succ,i64_w,i32_w]
  rfl
 refine take_ (i:=2) (N:=some 22) (v:= ?_) (a':= ?_) #[true,false,true,false,false,false] rfl rfl (by kernel_rfl) (fun _ _ _ h=>h) (Or.inl ⟨by rfl,?_⟩) hHeld ?_ ?_
 rotate_left
 ·rintro w' ⟨s0,s1,s2⟩
  go_simp
  with_reducible rfl
 rotate_left
 ·simp only[Act.put,List.setIfInBounds_toArray,List.set_cons_zero,List.set_cons_succ,i64_w,i32_w]
  rfl
 refine one_ (i:=1) (N:=some 21) #[true,true,true,false,false,false] rfl rfl (by kernel_rfl) (by decide) (fun K hK=> ?_);refine goes_ Try.func141 (by kernel_rfl) rfl #[.agg #[.int .i64 (n0:Int), .bool a0_1, .slice A0_2 l0_2.length c0_2]] (by rfl) rfl rfl (by(try simp only[List.map_toArray,List.map_cons,List.map_nil]);first|done|rfl) ?_
 refine(leaving_calls (n0:Int) a0_1 A0_2 c0_2 l0_2 _ (Kd.C_below HR0.out HB.out) HC0_2.out HH0.out HH1.out (by omega) HE0.out).mono ?_;rintro e w12 ⟨v21,rfl,hS,hb⟩;refine⟨_,rfl,?_⟩;have n0_:=Aside0.mk (below_step HB.out hb);have n1_:=Aside0.mk (blk_below BK111.out hb);have n2_:=Aside0.mk (blk_below BK4.out hb);have n3_:=Aside0.mk (blk_below BK5.out hb);have n4_:=Aside0.mk (Kd.S_below HO.out hb);have n5_:=Aside0.mk (Kd.S_lower hS HB.out.size);clear HB BK111 BK4 BK5 HO hS hb;have HB:=n0_;have BK111:=n1_;have BK4:=n2_;have BK5:=n3_;have HO:=n4_;have Hv21:=n5_;clear n0_ n1_ n2_ n3_ n4_ n5_;obtain⟨Av21,cv21,ev21⟩:=Kd.S_slice Hv21.out;subst ev21;refine hK.out _ _ ⟨(blk_cell BK111.out 0).trans rfl,(blk_cell BK111.out 1).trans rfl,(blk_cell BK111.out 2).trans rfl⟩ (fun hHeld=> ?_);clear hK K;refine norm_ (a':= ?_) ?_ ?_
 rotate_left
 ·show Act.put _ (some 21) _=_
  simp only[Act.put,List.setIfInBounds_toArray,List.set_cons_zero,List.set_cons_succ,i64_w,i32_w];rfl
 refine one_ (i:=3) (N:=some 23) #[true,true,true,true,false,false] rfl rfl (by kernel_rfl) (by decide) (fun K hK=> ?_);refine goes_ Try.func142 (by kernel_rfl) rfl #[.agg #[.int .i64 (n0:Int), .bool a0_1, .slice A0_2 l0_2.length c0_2]] (by rfl) rfl rfl (by(try simp only[List.map_toArray,List.map_cons,List.map_nil]);first|done|rfl) ?_
 refine(coming_calls (n0:Int) a0_1 A0_2 c0_2 l0_2 _ (Kd.C_below HR0.out HB.out) HC0_2.out HH0.out HH1.out (by omega) HE1.out).mono ?_;rintro e w13 ⟨v23,rfl,hS,hb⟩;refine⟨_,rfl,?_⟩;have n0_:=Aside0.mk (below_step HB.out hb);have n1_:=Aside0.mk (blk_below BK111.out hb);have n2_:=Aside0.mk (blk_below BK4.out hb);have n3_:=Aside0.mk (blk_below BK5.out hb);have n4_:=Aside0.mk (Kd.S_below HO.out hb);have n5_:=Aside0.mk (Kd.S_lower hS HB.out.size);have m_:=Aside0.mk (Kd.S_below Hv21.out hb);clear Hv21;have Hv21:=m_;clear m_;clear HB BK111 BK4 BK5 HO hS hb;have HB:=n0_;have BK111:=n1_;have BK4:=n2_;have BK5:=n3_;have HO:=n4_;have Hv23:=n5_;clear n0_ n1_ n2_ n3_ n4_ n5_;obtain⟨Av23,cv23,ev23⟩:=Kd.S_slice Hv23.out;subst ev23;refine hK.out _ _ ⟨(blk_cell BK111.out 0).trans rfl,(blk_cell BK111.out 1).trans rfl,(blk_cell BK111.out 2).trans rfl⟩ (fun hHeld=> ?_);clear hK K;refine norm_ (a':= ?_) ?_ ?_
 rotate_left
 ·show Act.put _ (some 23) _=_
  simp only[Act.put,List.setIfInBounds_toArray,List.set_cons_zero,List.set_cons_succ,i64_w,i32_w];rfl
 refine pure_ (i:=4) (N:=some 6) (v:= ?_) (a':= ?_) #[true,true,true,true,true,false] rfl rfl (by kernel_rfl) (fun _ _ _ h=>h) (Or.inl ⟨by rfl,?_⟩) ?_ ?_
 rotate_left
 ·intro w'
  go_simp
  with_reducible rfl
 rotate_left
 ·simp only[Act.put,List.setIfInBounds_toArray,List.set_cons_zero,List.set_cons_succ,i64_w,i32_w]
  rfl
 refine pure_ (i:=5) (N:=some 7) (v:= ?_) (a':= ?_) #[true,true,true,true,true,true] rfl rfl (by kernel_rfl) (fun _ _ _ h=>h) (Or.inl ⟨by rfl,?_⟩) ?_ ?_
 rotate_left
 ·intro w'
  go_simp
  with_reducible rfl
 rotate_left
 ·simp only[Act.put,List.setIfInBounds_toArray,List.set_cons_zero,List.set_cons_succ,i64_w,i32_w]
  rfl
 refine done_ (by kernel_rfl) ?_;go_wp2_with fail;have HR0':Aside0 (R0=rowsAt l0_2 n0 0):=⟨by rw[NR0.out,rowsAt_zero,Int.toNat_natCast]⟩;have hlR:R0.length=n0:=by rw[HR0'.out,rowsAt_len]
 rw[hlR] at HO BK5 ⊢;rw[HR0'.out] at HO;simp only[Int.toNat_natCast] at Hv21 Hv23 ⊢;clear hHeld;obtain⟨L0,hL0⟩: ∃ L,L=lsAt eFrom l0_2 n0 l0_2.length:=⟨_,rfl⟩;obtain⟨L1,hL1⟩: ∃ L,L=lsAt eTo l0_2 n0 l0_2.length:=⟨_,rfl⟩;have hn0:L0.length=n0:=by rw[hL0,lsAt_len]
 have hn1:L1.length=n0:=by rw[hL1,lsAt_len]
 rw[← hL0,hn0] at Hv21 ⊢;rw[← hL1,hn1] at Hv23 ⊢;have HL0:=Aside0.mk hL0;have HL1:=Aside0.mk hL1;clear hL0 hL1;clear HR0' hlR HR0_2;have hn6:n0≤1000000:=by have:=HH1.out;omega
 go_loopw [26] (fun v26 w'=> ∃ k:Nat,k≤n0∧v26= .int .i64 k∧Aside0 (Kd.S (Kd.slice 38 k38) 34 w' w.heap.size (fun _=>True) (.slice Ao n0 co) (rowsAt l0_2 n0 k))∧Aside0 (w'.heap[gb111]? =some (.cells #[.int .i64 (n0:Int), .bool a0_1, .slice A0_2 l0_2.length c0_2] 24 (0,0)))∧Aside0 (w'.heap[gb4]? =some (.cells #[.int .i64 0, .bool false, .slice none 0 0, .slice none 0 0, .slice none 0 0] 118 (0,0)))∧Aside0 (w'.heap[gb5]? =some (.cells #[.int .i64 (n0:Int), .bool a0_1, .slice A0_2 l0_2.length c0_2, .slice A1 n1 c1, .slice Ao n0 co] 118 (0,0)))∧Aside0 (Kd.S (Kd.slice 3 (Kd.int .i64)) 25 w' w.heap.size (fun _=>True) (.slice Av21 n0 cv21) L0)∧Aside0 (Kd.S (Kd.slice 3 (Kd.int .i64)) 25 w' w.heap.size (fun _=>True) (.slice Av23 n0 cv23) L1)∧Aside0 (Below w.heap.size w w')) (fun v26 _=>n0 - (intOf v26).toNat)
 case atStart=>exact⟨0,Nat.zero_le _,rfl,HO,BK111,BK4,BK5,Hv21,Hv23,HB⟩
 case round=>
  clear HO BK111 BK4 BK5 Hv21 Hv23 HB;obtain⟨k,hk,rfl,HO,BK111,BK4,BK5,Hv21,Hv23,HB⟩:=hrel;by_cases hlt:k<n0
  ·have pk:0≤((k:Nat):Int):=by omega
   have qk:((k:Nat):Int)<(n0:Int):=by omega
   have c27:decide ((k:Int)<(n0:Int))=true:=decide_eq_true qk;obtain⟨ad0,AA0,cc0,e_,hx_,hl_,_⟩:=at_L7 (Kd.S_reads' Hv21.out).2.2 (k:Int) pk (by rw[hn0];omega);cases e_;obtain⟨ce_,hce_,hM_,hcc_⟩:=Kd.S_get Hv21.out [] (k:Int) pk qk;obtain⟨ve_,rfl,ge_⟩:=hM_;have hv_:=hcc_ 0 _ rfl;rw[Nat.add_zero,show ((Kd.slice 3 (Kd.int .i64))).sz=1 from rfl,Nat.mul_one] at hv_;replace hv_:=Option.some.inj (hv_.symm.trans hx_);rw[hv_] at ge_;obtain⟨LL0,hLL0⟩: ∃ L,L=rd_L7 L0 (k:Int):=⟨_,rfl⟩;have HLL0:Aside0 (Kd.R (Kd.int .i64) 3 wr w.heap.size (fun _=>True) (.slice AA0 LL0.length cc0) LL0):=⟨by rw[hLL0];exact Kd.R_mono ge_ (fun _ _=>trivial)⟩;rw[← hLL0] at hx_;simp only[Int.toNat_natCast] at hx_;have HELL0:=Aside0.mk hLL0;clear ge_ hv_ hcc_ hce_ hl_ hLL0;have hxLL0:=hx_;clear hx_;obtain⟨go,co2,eo,gbase,glt,cl,HG⟩:=Kd.S_form HO.out (by rw[rowsAt_len];omega);rw[rowsAt_len] at eo;injection eo with ea _ ec
   subst ea;subst ec;have GBO:=Aside0.mk gbase;clear gbase glt HG;have HLE0:Aside0 (LL0.length≤500000):=⟨by rw[HELL0.out,HL0.out];exact Nat.le_trans (lsAt_row _ _ _ _ _) hl⟩;go_wp2_with fail;have hLL0:=HLE0.out;obtain⟨wo1,hwo1⟩: ∃ x_:World,x_=wr:=⟨_,rfl⟩;subst hwo1;go_loopw [34] (fun v_ w'=> ∃ j:Nat,j≤LL0.length∧v_= .int .i64 j∧Aside0 (Kd.S (Kd.slice 38 k38) 34 w' w.heap.size (fun _=>True) (.slice (some ⟨go,0,none⟩) n0 co) ((rowsAt l0_2 n0 k).set k (([]:List S38) ++ (LL0.take j).map (fun i=>(⟨i,false⟩:S38)))))∧Aside0 (w'.heap[gb111]? =some (.cells #[.int .i64 (n0:Int), .bool a0_1, .slice A0_2 l0_2.length c0_2] 24 (0,0)))∧Aside0 (w'.heap[gb4]? =some (.cells #[.int .i64 0, .bool false, .slice none 0 0, .slice none 0 0, .slice none 0 0] 118 (0,0)))∧Aside0 (w'.heap[gb5]? =some (.cells #[.int .i64 (n0:Int), .bool a0_1, .slice A0_2 l0_2.length c0_2, .slice A1 n1 c1, .slice (some ⟨go,0,none⟩) n0 co] 118 (0,0)))∧Aside0 (Kd.S (Kd.slice 3 (Kd.int .i64)) 25 w' w.heap.size (fun _=>True) (.slice (some ad0) n0 cv21) L0)∧Aside0 (Kd.S (Kd.slice 3 (Kd.int .i64)) 25 w' w.heap.size (fun _=>True) (.slice Av23 n0 cv23) L1)∧Aside0 (Kd.R (Kd.int .i64) 3 w' w.heap.size (fun _=>True) (.slice AA0 LL0.length cc0) LL0)∧Aside0 (Below w.heap.size w w')) (fun v_ _=>LL0.length - (intOf v_).toNat)
   case atStart=>exact⟨0,Nat.zero_le _,rfl,⟨by rw[List.take_zero,List.map_nil,List.append_nil,rowsAt_self l0_2 n0 k hlt];exact HO.out⟩,BK111,BK4,BK5,Hv21,Hv23,HLL0,HB⟩
   case round=>
    clear HO BK111 BK4 BK5 Hv21 Hv23 HLL0 HB;obtain⟨j,hj,rfl,HO,BK111,BK4,BK5,Hv21,Hv23,HLL0,HB⟩:=hrel;by_cases hltj:j<LL0.length
    ·have pj:0≤((j:Nat):Int):=by omega
     have qj:((j:Nat):Int)<(LL0.length:Int):=by omega
     have cj:decide ((j:Int)<(LL0.length:Int))=true:=decide_eq_true qj;obtain⟨adj,eadj,hxj⟩:=Kd.at_int (Kd.R_reads' HLL0.out).2.2 (j:Int) pj qj;cases eadj;simp only[Int.toNat_natCast] at hxj;have HST:=Aside0.mk (row_step ([]:List S38) LL0 false j hltj);obtain⟨xj,hxv⟩: ∃ x_,x_=rd LL0 (j:Int):=⟨_,rfl⟩;obtain⟨RW,hRW⟩: ∃ r_,r_=(([]:List S38) ++ (LL0.take j).map (fun i=>(⟨i,false⟩:S38))):=⟨_,rfl⟩;have HRL:Aside0 (RW.length≤1000000):=⟨by rw[hRW];simp;have:=HLE0.out;omega⟩;rw[← hRW, ← hxv] at HST;obtain⟨RW2,hRW2⟩: ∃ r_,r_=(([]:List S38) ++ (LL0.take (j+1)).map (fun i=>(⟨i,false⟩:S38))):=⟨_,rfl⟩;rw[← hRW2] at HST;have HRW2:=Aside0.mk hRW2;clear hRW2;rw[← hxv] at hxj;rw[← hRW] at HO;have HRW:=Aside0.mk hRW;have HXV:=Aside0.mk hxv;clear hRW hxv;obtain⟨oki,c_,_,hM_,hcc_,_,_,hH_⟩:=Kd.S_elem HO.out [] (k:Int) pk qk;obtain⟨vr,rfl,hR_⟩:=hM_;rw[show ((rowsAt l0_2 n0 k).set k RW).getD (k:Int).toNat []=RW from rd_set (rowsAt l0_2 n0 k) k RW (by rw[rowsAt_len];exact hlt)] at hR_;obtain⟨Ar,cr,er⟩:=Kd.R_slice hR_;subst er;have hx4:=hcc_ 0 _ rfl;rw[show ((Kd.slice 38 k38)).sz=1 from rfl,Nat.mul_one,Nat.add_zero,Int.toNat_natCast] at hx4;have UU:=Aside0.mk hR_;have HH:=Aside0.mk hH_;clear hcc_ hR_ hH_;have hx5:wr.cell? ⟨gb5,4,none⟩=some (.slice (some ⟨go,0,none⟩) n0 co):=(blk_cell BK5.out 4).trans rfl;go_wp2_with fail;refine start_ (n:=14) (S:=fun w'=>w'.cell? ⟨gb5,4,none⟩=some (.slice (some ⟨go,0,none⟩) n0 co)∧w'.cell? ⟨go,k,none⟩=some (.slice Ar RW.length cr)) (ds:=[13]) #[false,false,false,false,false,false,false,false,false,false,false,false,false,false] (by kernel_rfl) rfl rfl ⟨hx5,hx4⟩ (fun hHeld=> ?_);have m0_:=Aside0.mk (below_drew HB.out);have m1_:=Aside0.mk ((show wr.drew.heap[gb111]? =_ from BK111.out));have m2_:=Aside0.mk ((show wr.drew.heap[gb4]? =_ from BK4.out));have m3_:=Aside0.mk ((show wr.drew.heap[gb5]? =_ from BK5.out));have m4_:=Aside0.mk (Kd.S_drew Hv21.out);have m5_:=Aside0.mk (Kd.S_drew Hv23.out);have m6_:=Aside0.mk (Kd.R_drew HLL0.out);have m7_:=Aside0.mk (Kd.R_drew UU.out);have m8_:=Aside0.mk (Kd.H_drew HH.out);clear HB BK111 BK4 BK5 Hv21 Hv23 HLL0 UU HH;have HB:=m0_;clear m0_;have BK111:=m1_;clear m1_;have BK4:=m2_;clear m2_;have BK5:=m3_;clear m3_;have Hv21:=m4_;clear m4_;have Hv23:=m5_;clear m5_;have HLL0:=m6_;clear m6_;have UU:=m7_;clear m7_;have HH:=m8_;clear m8_;clear HO hxj hx5 hx4;generalize wr.drew=w14 at HB BK111 BK4 BK5 Hv21 Hv23 HLL0 UU HH hHeld ⊢;refine pure_ (i:=0) (N:=some 38) (v:= ?_) (a':= ?_) #[true,false,false,false,false,false,false,false,false,false,false,false,false,false] rfl rfl (by kernel_rfl) (fun _ _ _ h=>h) (Or.inl ⟨by rfl,?_⟩) ?_ ?_
     rotate_left
     ·intro w'
      go_simp
      with_reducible rfl
     rotate_left
     ·simp only[Act.put,List.setIfInBounds_toArray,List.set_cons_zero,List.set_cons_succ,i64_w,i32_w]
      rfl
     refine pure_ (i:=2) (N:=some 40) (v:= ?_) (a':= ?_) #[true,false,true,false,false,false,false,false,false,false,false,false,false,false] rfl rfl (by kernel_rfl) (fun _ _ _ h=>h) (Or.inl ⟨by rfl,?_⟩) ?_ ?_
     rotate_left
     ·intro w'
      go_simp
      with_reducible rfl
     rotate_left
     ·simp only[Act.put,List.setIfInBounds_toArray,List.set_cons_zero,List.set_cons_succ,i64_w,i32_w]
      rfl
     refine pure_ (i:=3) (N:=some 41) (v:= ?_) (a':= ?_) #[true,false,true,true,false,false,false,false,false,false,false,false,false,false] rfl rfl (by kernel_rfl) (fun _ _ _ h=>h) (Or.inl ⟨by rfl,?_⟩) ?_ ?_
     rotate_left
     ·intro w'
      go_simp
      with_reducible rfl
     rotate_left
     ·simp only[Act.put,List.setIfInBounds_toArray,List.set_cons_zero,List.set_cons_succ,i64_w,i32_w]
      rfl
     refine pure_ (i:=5) (N:=some 43) (v:= ?_) (a':= ?_) #[true,false,true,true,false,true,false,false,false,false,false,false,false,false] rfl rfl (by kernel_rfl) (fun _ _ _ h=>h) (Or.inl ⟨by rfl,?_⟩) ?_ ?_
     rotate_left
     ·intro w'
      go_simp
      with_reducible rfl
     rotate_left
     ·simp only[Act.put,List.setIfInBounds_toArray,List.set_cons_zero,List.set_cons_succ,i64_w,i32_w]
      rfl
     refine pure_ (i:=8) (N:=some 46) (v:= ?_) (a':= ?_) #[true,false,true,true,false,true,false,false,true,false,false,false,false,false] rfl rfl (by kernel_rfl) (fun _ _ _ h=>h) (Or.inl ⟨by rfl,?_⟩) ?_ ?_
     rotate_left
     ·intro w'
      go_simp
      with_reducible rfl
     rotate_left
     ·simp only[Act.put,List.setIfInBounds_toArray,List.set_cons_zero,List.set_cons_succ,i64_w,i32_w]
      rfl
     refine pure_ (i:=9) (N:=some 47) (v:= ?_) (a':= ?_) #[true,false,true,true,false,true,false,false,true,true,false,false,false,false] rfl rfl (by kernel_rfl) (fun _ _ _ h=>h) (Or.inl ⟨by rfl,?_⟩) ?_ ?_
     rotate_left
     ·intro w'
      go_simp
      with_reducible rfl
     rotate_left
     ·simp only[Act.put,List.setIfInBounds_toArray,List.set_cons_zero,List.set_cons_succ,i64_w,i32_w]
      rfl
     refine take_ (i:=1) (N:=some 39) (v:= ?_) (a':= ?_) #[true,true,true,true,false,true,false,false,true,true,false,false,false,false] rfl rfl (by kernel_rfl) (fun _ _ _ h=>h) (Or.inl ⟨by rfl,?_⟩) hHeld ?_ ?_
     rotate_left
     ·rintro w' ⟨s0,s1⟩
      go_simp
      with_reducible rfl
     rotate_left
     ·simp only[Act.put,List.setIfInBounds_toArray,List.set_cons_zero,List.set_cons_succ,i64_w,i32_w]
      rfl
     refine take_ (i:=4) (N:=some 42) (v:= ?_) (a':= ?_) #[true,true,true,true,true,true,false,false,true,true,false,false,false,false] rfl rfl (by kernel_rfl) (fun _ _ _ h=>h) (Or.inl ⟨by rfl,?_⟩) hHeld ?_ ?_
     rotate_left
     ·rintro w' ⟨s0,s1⟩
      go_simp
      with_reducible rfl
     rotate_left
     ·simp only[Act.put,List.setIfInBounds_toArray,List.set_cons_zero,List.set_cons_succ,i64_w,i32_w]
      rfl
     refine pure_ (i:=6) (N:=some 44) (v:= ?_) (a':= ?_) #[true,true,true,true,true,true,true,false,true,true,false,false,false,false] rfl rfl (by kernel_rfl) (fun _ _ _ h=>h) (Or.inl ⟨by rfl,?_⟩) ?_ ?_
     rotate_left
     ·intro w'
      go_simp
      with_reducible rfl
     rotate_left
     ·simp only[Act.put,List.setIfInBounds_toArray,List.set_cons_zero,List.set_cons_succ,i64_w,i32_w]
      rfl
     refine take_ (i:=7) (N:=some 45) (v:= ?_) (a':= ?_) #[true,true,true,true,true,true,true,true,true,true,false,false,false,false] rfl rfl (by kernel_rfl) (fun _ _ _ h=>h) (Or.inl ⟨by rfl,?_⟩) hHeld ?_ ?_
     rotate_left
     ·rintro w' ⟨s0,s1⟩
      go_simp
      with_reducible rfl
     rotate_left
     ·simp only[Act.put,List.setIfInBounds_toArray,List.set_cons_zero,List.set_cons_succ,i64_w,i32_w]
      rfl
     refine one_ (i:=10) (N:=some 48) #[true,true,true,true,true,true,true,true,true,true,true,false,false,false] rfl rfl (by kernel_rfl) (by decide) (fun K hK=> ?_);refine value_ (w1:= ?_) (v:= ?_) (by rfl) rfl ?_ ?_
     rotate_left 2
     ·go_simp
      constructor
      ·rfl
      ·rfl
     refine hK.out _ _ ⟨(blk_cell (blk_alloc BK5.out _) 4).trans rfl,(World.cell?_alloc_lt _ _ _ (World.block_lt_of_cell? _ _ hHeld.2)).trans hHeld.2⟩ (fun hHeld2=> ?_);clear hK K hHeld2;refine norm_ (a':= ?_) ?_ ?_
     rotate_left
     ·show Act.put _ (some 48) _=_
      simp only[Act.put,List.setIfInBounds_toArray,List.set_cons_zero,List.set_cons_succ,i64_w,i32_w];rfl
     refine one_ (i:=11) (N:=some 49) #[true,true,true,true,true,true,true,true,true,true,true,true,false,false] rfl rfl (by kernel_rfl) (by decide) (fun K hK=> ?_);refine Kd.R_append_step k38 (w0:=w) w.heap.size (by rfl) (.tmp 45) (.tmp 48) 34 38 (.agg #[(.int .i64 0),(.bool false)]) 16 rfl Try.underlying34 info38 rfl (by decide) (by omega) (.slice Ar RW.length cr) RW (⟨xj,false⟩:S38) [.int .i64 xj, .bool false] (fun k_=>oki k_∨((fun _=>True)) k_∧w14.heap.size≤k_) (fun _=>False) rfl rfl ?aP (fun _ hk=>hk.elim) ?aF ?aO ?aB ?aS ?aL ?_
     (case aP=>exact k38_mkM _ _ _ (⟨xj,false⟩:S38))
     (case aF=>exact fun k_ hk=> .inr ⟨trivial,hk⟩)
     (case aO=>exact Kd.R_mono UU.out (fun _ hk=> .inl hk))
     (case aB=>exact HB.out)
     (case aS=>exact HB.out.size)
     (case aL=>have:=HRL.out;omega)
     intro v_ w16 ho hb hg hat
     clear hat
     have m0_:=Aside0.mk (blk_grown BK111.out hg (Kd.R_ne UU.out BK111.out (by decide)));have m1_:=Aside0.mk (blk_grown BK4.out hg (Kd.R_ne UU.out BK4.out (by decide)));have m2_:=Aside0.mk (blk_grown BK5.out hg (Kd.R_ne UU.out BK5.out (by decide)));have m3_:=Aside0.mk (Kd.S_over' Hv21.out (Kd.R_typed UU.out) (by decide) hg);have m4_:=Aside0.mk (Kd.S_over' Hv23.out (Kd.R_typed UU.out) (by decide) hg);have m5_:=Aside0.mk (Kd.R_over' HLL0.out (Kd.R_typed UU.out) (by decide) hg);have m6_:=Aside0.mk (Kd.H_grown (Kd.H_widen HH.out) hg (fun k_ e_=> .inl (UU.out.1 k_ e_)));have m7_:=Aside0.mk (hb);have m8_:=Aside0.mk (ho);clear BK111 BK4 BK5 Hv21 Hv23 HLL0 HH HB UU;have BK111:=m0_;clear m0_;have BK4:=m1_;clear m1_;have BK5:=m2_;clear m2_;have Hv21:=m3_;clear m3_;have Hv23:=m4_;clear m4_;have HLL0:=m5_;clear m5_;have HH:=m6_;clear m6_;have HB:=m7_;clear m7_;have UU:=m8_;clear m8_;rw[← HST.out] at UU;obtain⟨A2,c2,e2⟩:=Kd.R_slice UU.out;subst e2;obtain⟨_,_,hraw,_,_,hcc_,_⟩:=Kd.H_raw HH.out pk qk;obtain⟨_,hfr_⟩:=Kd.H_at HH.out pk qk;have hx4:=hcc_ 0 _ rfl;have hf4:=hfr_ 0;rw[show ((Kd.slice 38 k38)).sz=1 from rfl,Nat.mul_one,Nat.add_zero,Int.toNat_natCast] at hx4 hf4;have HRAW:=Aside0.mk hraw;clear hcc_ hfr_ hraw ho hb hg;refine hK.out _ _ ⟨(blk_cell BK5.out 4).trans rfl,hx4⟩ (fun hHeld=> ?_);clear hK K;refine norm_ (a':= ?_) ?_ ?_
     rotate_left
     ·show Act.put _ (some 49) _=_
      simp only[Act.put,List.setIfInBounds_toArray,List.set_cons_zero,List.set_cons_succ,i64_w,i32_w];rfl
     refine pure_ (i:=12) (N:=some 50) (v:= ?_) (a':= ?_) #[true,true,true,true,true,true,true,true,true,true,true,true,true,false] rfl rfl (by kernel_rfl) (fun _ _ _ h=>h) (Or.inl ⟨by rfl,?_⟩) ?_ ?_
     rotate_left
     ·intro w'
      go_simp
      with_reducible rfl
     rotate_left
     ·simp only[Act.put,List.setIfInBounds_toArray,List.set_cons_zero,List.set_cons_succ,i64_w,i32_w]
      rfl
     have HP:=Kd.S_seg0 HH.out pk qk (seg:=[.slice A2 RW2.length c2]) (j:=0) (show 1≤1 from by decide) (x':=RW2) (Kd.M_row UU.out) (fun _ hk=>hk);rw[show ((Kd.slice 38 k38)).sz=1 from rfl,Nat.mul_one,Nat.add_zero,Int.toNat_natCast,List.set_set] at HP;have HG2:w16.grownBy (w16.setCell ⟨go,k,none⟩ (.slice A2 RW2.length c2)) (some go):=HP.2;have HO:=Aside0.mk (show Kd.S (Kd.slice 38 k38) 34 (w16.setCell ⟨go,k,none⟩ (.slice A2 RW2.length c2)) w.heap.size (fun _=>True) (.slice (some ⟨go,0,none⟩) n0 co) ((rowsAt l0_2 n0 k).set k RW2) from HP.1);refine last_ (i:=13) (N:=none) #[true,true,true,true,true,true,true,true,true,true,true,true,true,true] rfl rfl (by kernel_rfl) (by decide) (fun K hK=> ?_);refine skip_ (w1:=w16.setCell ⟨go,k,none⟩ (.slice A2 RW2.length c2)) (by rfl) rfl ?_ ?_
     ·go_simp
     refine hK.out _ _ ?_;clear hK K;have m0_:=Aside0.mk (blk_grown BK111.out HG2 (Kd.R_ne HRAW.out BK111.out (by decide)));have m1_:=Aside0.mk (blk_grown BK4.out HG2 (Kd.R_ne HRAW.out BK4.out (by decide)));have m2_:=Aside0.mk (blk_grown BK5.out HG2 (Kd.R_ne HRAW.out BK5.out (by decide)));have m3_:=Aside0.mk (Kd.S_over' Hv21.out (Kd.R_typed HRAW.out) (by decide) HG2);have m4_:=Aside0.mk (Kd.S_over' Hv23.out (Kd.R_typed HRAW.out) (by decide) HG2);have m5_:=Aside0.mk (Kd.R_over' HLL0.out (Kd.R_typed HRAW.out) (by decide) HG2);have m6_:=Aside0.mk ((below_set HB.out GBO.out:Below w.heap.size w (w16.setCell ⟨go,k,none⟩ (.slice A2 RW2.length c2))));clear BK111 BK4 BK5 Hv21 Hv23 HLL0 HB;have BK111:=m0_;clear m0_;have BK4:=m1_;clear m1_;have BK5:=m2_;clear m2_;have Hv21:=m3_;clear m3_;have Hv23:=m4_;clear m4_;have HLL0:=m5_;clear m5_;have HB:=m6_;clear m6_;clear HP HG2 HRAW UU HH hHeld hx4 hf4;refine done_ (by kernel_rfl) ?_;generalize w16.setCell ⟨go,k,none⟩ (.slice A2 RW2.length c2)=w17 at HO BK111 BK4 BK5 Hv21 Hv23 HLL0 HB ⊢;rw[HRW2.out] at HO;clear HRW2 HST HRW;go_wp2_with fail;go_roundw
     case rel=>exact⟨j+1,by omega,by first|rfl|go_num,HO,BK111,BK4,BK5,Hv21,Hv23,HLL0,HB⟩
     case measure=>simp[intOf]<;>omega
    ·have ej:j=LL0.length:=by omega
     subst ej;rw[List.take_length] at HO;have cj:decide ((LL0.length:Int)<(LL0.length:Int))=false:=decide_eq_false (by omega);have hlenx:True:=trivial;obtain⟨ad1,AA1,cc1,e_,hx_,hl_,_⟩:=at_L7 (Kd.S_reads' Hv23.out).2.2 (k:Int) pk (by rw[hn1];omega);cases e_;obtain⟨ce_,hce_,hM_,hcc_⟩:=Kd.S_get Hv23.out [] (k:Int) pk qk;obtain⟨ve_,rfl,ge_⟩:=hM_;have hv_:=hcc_ 0 _ rfl;rw[Nat.add_zero,show ((Kd.slice 3 (Kd.int .i64))).sz=1 from rfl,Nat.mul_one] at hv_;replace hv_:=Option.some.inj (hv_.symm.trans hx_);rw[hv_] at ge_;obtain⟨LL1,hLL1⟩: ∃ L,L=rd_L7 L1 (k:Int):=⟨_,rfl⟩;have HLL1:Aside0 (Kd.R (Kd.int .i64) 3 wr w.heap.size (fun _=>True) (.slice AA1 LL1.length cc1) LL1):=⟨by rw[hLL1];exact Kd.R_mono ge_ (fun _ _=>trivial)⟩;rw[← hLL1] at hx_;simp only[Int.toNat_natCast] at hx_;have HELL1:=Aside0.mk hLL1;clear ge_ hv_ hcc_ hce_ hl_ hLL1;have hxLL1:=hx_;clear hx_;have HLE1:Aside0 (LL1.length≤500000):=⟨by rw[HELL1.out,HL1.out];exact Nat.le_trans (lsAt_row _ _ _ _ _) hl⟩;go_wp2_with fail;have hLL1:=HLE1.out;obtain⟨wo2,hwo2⟩: ∃ x_:World,x_=wr:=⟨_,rfl⟩;subst hwo2;go_loopw [57] (fun v_ w'=> ∃ j:Nat,j≤LL1.length∧v_= .int .i64 j∧Aside0 (Kd.S (Kd.slice 38 k38) 34 w' w.heap.size (fun _=>True) (.slice (some ⟨go,0,none⟩) n0 co) ((rowsAt l0_2 n0 k).set k ((([]:List S38) ++ LL0.map (fun i=>(⟨i,false⟩:S38))) ++ (LL1.take j).map (fun i=>(⟨i,true⟩:S38)))))∧Aside0 (w'.heap[gb111]? =some (.cells #[.int .i64 (n0:Int), .bool a0_1, .slice A0_2 l0_2.length c0_2] 24 (0,0)))∧Aside0 (w'.heap[gb4]? =some (.cells #[.int .i64 0, .bool false, .slice none 0 0, .slice none 0 0, .slice none 0 0] 118 (0,0)))∧Aside0 (w'.heap[gb5]? =some (.cells #[.int .i64 (n0:Int), .bool a0_1, .slice A0_2 l0_2.length c0_2, .slice A1 n1 c1, .slice (some ⟨go,0,none⟩) n0 co] 118 (0,0)))∧Aside0 (Kd.S (Kd.slice 3 (Kd.int .i64)) 25 w' w.heap.size (fun _=>True) (.slice (some ad0) n0 cv21) L0)∧Aside0 (Kd.S (Kd.slice 3 (Kd.int .i64)) 25 w' w.heap.size (fun _=>True) (.slice (some ad1) n0 cv23) L1)∧Aside0 (Kd.R (Kd.int .i64) 3 w' w.heap.size (fun _=>True) (.slice AA1 LL1.length cc1) LL1)∧Aside0 (Below w.heap.size w w')) (fun v_ _=>LL1.length - (intOf v_).toNat)
     case atStart=>exact⟨0,Nat.zero_le _,rfl,⟨by rw[List.take_zero,List.map_nil,List.append_nil];exact HO.out⟩,BK111,BK4,BK5,Hv21,Hv23,HLL1,HB⟩
     case round=>
      clear HO BK111 BK4 BK5 Hv21 Hv23 HLL1 HB;obtain⟨j,hj,rfl,HO,BK111,BK4,BK5,Hv21,Hv23,HLL1,HB⟩:=hrel;by_cases hltj:j<LL1.length
      ·have pj:0≤((j:Nat):Int):=by omega
       have qj:((j:Nat):Int)<(LL1.length:Int):=by omega
       have cj:decide ((j:Int)<(LL1.length:Int))=true:=decide_eq_true qj;obtain⟨adj,eadj,hxj⟩:=Kd.at_int (Kd.R_reads' HLL1.out).2.2 (j:Int) pj qj;cases eadj;simp only[Int.toNat_natCast] at hxj;have HST:=Aside0.mk (row_step (([]:List S38) ++ LL0.map (fun i=>(⟨i,false⟩:S38))) LL1 true j hltj);obtain⟨xj,hxv⟩: ∃ x_,x_=rd LL1 (j:Int):=⟨_,rfl⟩;obtain⟨RW,hRW⟩: ∃ r_,r_=((([]:List S38) ++ LL0.map (fun i=>(⟨i,false⟩:S38))) ++ (LL1.take j).map (fun i=>(⟨i,true⟩:S38))):=⟨_,rfl⟩;have HRL:Aside0 (RW.length≤1000000):=⟨by rw[hRW];simp;have:=HLE0.out;have:=HLE1.out;omega⟩;rw[← hRW, ← hxv] at HST;obtain⟨RW2,hRW2⟩: ∃ r_,r_=((([]:List S38) ++ LL0.map (fun i=>(⟨i,false⟩:S38))) ++ (LL1.take (j+1)).map (fun i=>(⟨i,true⟩:S38))):=⟨_,rfl⟩;rw[← hRW2] at HST;have HRW2:=Aside0.mk hRW2;clear hRW2;rw[← hxv] at hxj;rw[← hRW] at HO;have HRW:=Aside0.mk hRW;have HXV:=Aside0.mk hxv;clear hRW hxv;obtain⟨oki,c_,_,hM_,hcc_,_,_,hH_⟩:=Kd.S_elem HO.out [] (k:Int) pk qk;obtain⟨vr,rfl,hR_⟩:=hM_;rw[show ((rowsAt l0_2 n0 k).set k RW).getD (k:Int).toNat []=RW from rd_set (rowsAt l0_2 n0 k) k RW (by rw[rowsAt_len];exact hlt)] at hR_;obtain⟨Ar,cr,er⟩:=Kd.R_slice hR_;subst er;have hx4:=hcc_ 0 _ rfl;rw[show ((Kd.slice 38 k38)).sz=1 from rfl,Nat.mul_one,Nat.add_zero,Int.toNat_natCast] at hx4;have UU:=Aside0.mk hR_;have HH:=Aside0.mk hH_;clear hcc_ hR_ hH_;have hx5:wr.cell? ⟨gb5,4,none⟩=some (.slice (some ⟨go,0,none⟩) n0 co):=(blk_cell BK5.out 4).trans rfl;go_wp2_with fail;refine start_ (n:=14) (S:=fun w'=>w'.cell? ⟨gb5,4,none⟩=some (.slice (some ⟨go,0,none⟩) n0 co)∧w'.cell? ⟨go,k,none⟩=some (.slice Ar RW.length cr)) (ds:=[13]) #[false,false,false,false,false,false,false,false,false,false,false,false,false,false] (by kernel_rfl) rfl rfl ⟨hx5,hx4⟩ (fun hHeld=> ?_);have m0_:=Aside0.mk (below_drew HB.out);have m1_:=Aside0.mk ((show wr.drew.heap[gb111]? =_ from BK111.out));have m2_:=Aside0.mk ((show wr.drew.heap[gb4]? =_ from BK4.out));have m3_:=Aside0.mk ((show wr.drew.heap[gb5]? =_ from BK5.out));have m4_:=Aside0.mk (Kd.S_drew Hv21.out);have m5_:=Aside0.mk (Kd.S_drew Hv23.out);have m6_:=Aside0.mk (Kd.R_drew HLL1.out);have m7_:=Aside0.mk (Kd.R_drew UU.out);have m8_:=Aside0.mk (Kd.H_drew HH.out);clear HB BK111 BK4 BK5 Hv21 Hv23 HLL1 UU HH;have HB:=m0_;clear m0_;have BK111:=m1_;clear m1_;have BK4:=m2_;clear m2_;have BK5:=m3_;clear m3_;have Hv21:=m4_;clear m4_;have Hv23:=m5_;clear m5_;have HLL1:=m6_;clear m6_;have UU:=m7_;clear m7_;have HH:=m8_;clear m8_;clear HO hxj hx5 hx4;generalize wr.drew=w14 at HB BK111 BK4 BK5 Hv21 Hv23 HLL1 UU HH hHeld ⊢;refine pure_ (i:=0) (N:=some 61) (v:= ?_) (a':= ?_) #[true,false,false,false,false,false,false,false,false,false,false,false,false,false] rfl rfl (by kernel_rfl) (fun _ _ _ h=>h) (Or.inl ⟨by rfl,?_⟩) ?_ ?_
       rotate_left
       ·intro w'
        go_simp
        with_reducible rfl
       rotate_left
       ·simp only[Act.put,List.setIfInBounds_toArray,List.set_cons_zero,List.set_cons_succ,i64_w,i32_w]
        rfl
       refine pure_ (i:=2) (N:=some 63) (v:= ?_) (a':= ?_) #[true,false,true,false,false,false,false,false,false,false,false,false,false,false] rfl rfl (by kernel_rfl) (fun _ _ _ h=>h) (Or.inl ⟨by rfl,?_⟩) ?_ ?_
       rotate_left
       ·intro w'
        go_simp
        with_reducible rfl
       rotate_left
       ·simp only[Act.put,List.setIfInBounds_toArray,List.set_cons_zero,List.set_cons_succ,i64_w,i32_w]
        rfl
       refine pure_ (i:=3) (N:=some 64) (v:= ?_) (a':= ?_) #[true,false,true,true,false,false,false,false,false,false,false,false,false,false] rfl rfl (by kernel_rfl) (fun _ _ _ h=>h) (Or.inl ⟨by rfl,?_⟩) ?_ ?_
       rotate_left
       ·intro w'
        go_simp
        with_reducible rfl
       rotate_left
       ·simp only[Act.put,List.setIfInBounds_toArray,List.set_cons_zero,List.set_cons_succ,i64_w,i32_w]
        rfl
       refine pure_ (i:=5) (N:=some 66) (v:= ?_) (a':= ?_) #[true,false,true,true,false,true,false,false,false,false,false,false,false,false] rfl rfl (by kernel_rfl) (fun _ _ _ h=>h) (Or.inl ⟨by rfl,?_⟩) ?_ ?_
       rotate_left
       ·intro w'
        go_simp
        with_reducible rfl
       rotate_left
       ·simp only[Act.put,List.setIfInBounds_toArray,List.set_cons_zero,List.set_cons_succ,i64_w,i32_w]
        rfl
       refine pure_ (i:=8) (N:=some 69) (v:= ?_) (a':= ?_) #[true,false,true,true,false,true,false,false,true,false,false,false,false,false] rfl rfl (by kernel_rfl) (fun _ _ _ h=>h) (Or.inl ⟨by rfl,?_⟩) ?_ ?_
       rotate_left
       ·intro w'
        go_simp
        with_reducible rfl
       rotate_left
       ·simp only[Act.put,List.setIfInBounds_toArray,List.set_cons_zero,List.set_cons_succ,i64_w,i32_w]
        rfl
       refine pure_ (i:=9) (N:=some 70) (v:= ?_) (a':= ?_) #[true,false,true,true,false,true,false,false,true,true,false,false,false,false] rfl rfl (by kernel_rfl) (fun _ _ _ h=>h) (Or.inl ⟨by rfl,?_⟩) ?_ ?_
       rotate_left
       ·intro w'
        go_simp
        with_reducible rfl
       rotate_left
       ·simp only[Act.put,List.setIfInBounds_toArray,List.set_cons_zero,List.set_cons_succ,i64_w,i32_w]
        rfl
       refine take_ (i:=1) (N:=some 62) (v:= ?_) (a':= ?_) #[true,true,true,true,false,true,false,false,true,true,false,false,false,false] rfl rfl (by kernel_rfl) (fun _ _ _ h=>h) (Or.inl ⟨by rfl,?_⟩) hHeld ?_ ?_
       rotate_left
       ·rintro w' ⟨s0,s1⟩
        go_simp
        with_reducible rfl
       rotate_left
       ·simp only[Act.put,List.setIfInBounds_toArray,List.set_cons_zero,List.set_cons_succ,i64_w,i32_w]
        rfl
       refine take_ (i:=4) (N:=some 65) (v:= ?_) (a':= ?_) #[true,true,true,true,true,true,false,false,true,true,false,false,false,false] rfl rfl (by kernel_rfl) (fun _ _ _ h=>h) (Or.inl ⟨by rfl,?_⟩) hHeld ?_ ?_
       rotate_left
       ·rintro w' ⟨s0,s1⟩
        go_simp
        with_reducible rfl
       rotate_left
       ·simp only[Act.put,List.setIfInBounds_toArray,List.set_cons_zero,List.set_cons_succ,i64_w,i32_w]
        rfl
       refine pure_ (i:=6) (N:=some 67) (v:= ?_) (a':= ?_) #[true,true,true,true,true,true,true,false,true,true,false,false,false,false] rfl rfl (by kernel_rfl) (fun _ _ _ h=>h) (Or.inl ⟨by rfl,?_⟩) ?_ ?_
       rotate_left
       ·intro w'
        go_simp
        with_reducible rfl
       rotate_left
       ·simp only[Act.put,List.setIfInBounds_toArray,List.set_cons_zero,List.set_cons_succ,i64_w,i32_w]
        rfl
       refine take_ (i:=7) (N:=some 68) (v:= ?_) (a':= ?_) #[true,true,true,true,true,true,true,true,true,true,false,false,false,false] rfl rfl (by kernel_rfl) (fun _ _ _ h=>h) (Or.inl ⟨by rfl,?_⟩) hHeld ?_ ?_
       rotate_left
       ·rintro w' ⟨s0,s1⟩
        go_simp
        with_reducible rfl
       rotate_left
       ·simp only[Act.put,List.setIfInBounds_toArray,List.set_cons_zero,List.set_cons_succ,i64_w,i32_w]
        rfl
       refine one_ (i:=10) (N:=some 71) #[true,true,true,true,true,true,true,true,true,true,true,false,false,false] rfl rfl (by kernel_rfl) (by decide) (fun K hK=> ?_);refine value_ (w1:= ?_) (v:= ?_) (by rfl) rfl ?_ ?_
       rotate_left 2
       ·go_simp
        constructor
        ·rfl
        ·rfl
       refine hK.out _ _ ⟨(blk_cell (blk_alloc BK5.out _) 4).trans rfl,(World.cell?_alloc_lt _ _ _ (World.block_lt_of_cell? _ _ hHeld.2)).trans hHeld.2⟩ (fun hHeld2=> ?_);clear hK K hHeld2;refine norm_ (a':= ?_) ?_ ?_
       rotate_left
       ·show Act.put _ (some 71) _=_
        simp only[Act.put,List.setIfInBounds_toArray,List.set_cons_zero,List.set_cons_succ,i64_w,i32_w];rfl
       refine one_ (i:=11) (N:=some 72) #[true,true,true,true,true,true,true,true,true,true,true,true,false,false] rfl rfl (by kernel_rfl) (by decide) (fun K hK=> ?_);refine Kd.R_append_step k38 (w0:=w) w.heap.size (by rfl) (.tmp 68) (.tmp 71) 34 38 (.agg #[(.int .i64 0),(.bool false)]) 16 rfl Try.underlying34 info38 rfl (by decide) (by omega) (.slice Ar RW.length cr) RW (⟨xj,true⟩:S38) [.int .i64 xj, .bool true] (fun k_=>oki k_∨((fun _=>True)) k_∧w14.heap.size≤k_) (fun _=>False) rfl rfl ?aP (fun _ hk=>hk.elim) ?aF ?aO ?aB ?aS ?aL ?_
       (case aP=>exact k38_mkM _ _ _ (⟨xj,true⟩:S38))
       (case aF=>exact fun k_ hk=> .inr ⟨trivial,hk⟩)
       (case aO=>exact Kd.R_mono UU.out (fun _ hk=> .inl hk))
       (case aB=>exact HB.out)
       (case aS=>exact HB.out.size)
       (case aL=>have:=HRL.out;omega)
       intro v_ w16 ho hb hg hat
       clear hat
       have m0_:=Aside0.mk (blk_grown BK111.out hg (Kd.R_ne UU.out BK111.out (by decide)));have m1_:=Aside0.mk (blk_grown BK4.out hg (Kd.R_ne UU.out BK4.out (by decide)));have m2_:=Aside0.mk (blk_grown BK5.out hg (Kd.R_ne UU.out BK5.out (by decide)));have m3_:=Aside0.mk (Kd.S_over' Hv21.out (Kd.R_typed UU.out) (by decide) hg);have m4_:=Aside0.mk (Kd.S_over' Hv23.out (Kd.R_typed UU.out) (by decide) hg);have m5_:=Aside0.mk (Kd.R_over' HLL1.out (Kd.R_typed UU.out) (by decide) hg);have m6_:=Aside0.mk (Kd.H_grown (Kd.H_widen HH.out) hg (fun k_ e_=> .inl (UU.out.1 k_ e_)));have m7_:=Aside0.mk (hb);have m8_:=Aside0.mk (ho);clear BK111 BK4 BK5 Hv21 Hv23 HLL1 HH HB UU;have BK111:=m0_;clear m0_;have BK4:=m1_;clear m1_;have BK5:=m2_;clear m2_;have Hv21:=m3_;clear m3_;have Hv23:=m4_;clear m4_;have HLL1:=m5_;clear m5_;have HH:=m6_;clear m6_;have HB:=m7_;clear m7_;have UU:=m8_;clear m8_;rw[← HST.out] at UU;obtain⟨A2,c2,e2⟩:=Kd.R_slice UU.out;subst e2;obtain⟨_,_,hraw,_,_,hcc_,_⟩:=Kd.H_raw HH.out pk qk;obtain⟨_,hfr_⟩:=Kd.H_at HH.out pk qk;have hx4:=hcc_ 0 _ rfl;have hf4:=hfr_ 0;rw[show ((Kd.slice 38 k38)).sz=1 from rfl,Nat.mul_one,Nat.add_zero,Int.toNat_natCast] at hx4 hf4;have HRAW:=Aside0.mk hraw;clear hcc_ hfr_ hraw ho hb hg;refine hK.out _ _ ⟨(blk_cell BK5.out 4).trans rfl,hx4⟩ (fun hHeld=> ?_);clear hK K;refine norm_ (a':= ?_) ?_ ?_
       rotate_left
       ·show Act.put _ (some 72) _=_
        simp only[Act.put,List.setIfInBounds_toArray,List.set_cons_zero,List.set_cons_succ,i64_w,i32_w];rfl
       refine pure_ (i:=12) (N:=some 73) (v:= ?_) (a':= ?_) #[true,true,true,true,true,true,true,true,true,true,true,true,true,false] rfl rfl (by kernel_rfl) (fun _ _ _ h=>h) (Or.inl ⟨by rfl,?_⟩) ?_ ?_
       rotate_left
       ·intro w'
        go_simp
        with_reducible rfl
       rotate_left
       ·simp only[Act.put,List.setIfInBounds_toArray,List.set_cons_zero,List.set_cons_succ,i64_w,i32_w]
        rfl
       have HP:=Kd.S_seg0 HH.out pk qk (seg:=[.slice A2 RW2.length c2]) (j:=0) (show 1≤1 from by decide) (x':=RW2) (Kd.M_row UU.out) (fun _ hk=>hk);rw[show ((Kd.slice 38 k38)).sz=1 from rfl,Nat.mul_one,Nat.add_zero,Int.toNat_natCast,List.set_set] at HP;have HG2:w16.grownBy (w16.setCell ⟨go,k,none⟩ (.slice A2 RW2.length c2)) (some go):=HP.2;have HO:=Aside0.mk (show Kd.S (Kd.slice 38 k38) 34 (w16.setCell ⟨go,k,none⟩ (.slice A2 RW2.length c2)) w.heap.size (fun _=>True) (.slice (some ⟨go,0,none⟩) n0 co) ((rowsAt l0_2 n0 k).set k RW2) from HP.1);refine last_ (i:=13) (N:=none) #[true,true,true,true,true,true,true,true,true,true,true,true,true,true] rfl rfl (by kernel_rfl) (by decide) (fun K hK=> ?_);refine skip_ (w1:=w16.setCell ⟨go,k,none⟩ (.slice A2 RW2.length c2)) (by rfl) rfl ?_ ?_
       ·go_simp
       refine hK.out _ _ ?_;clear hK K;have m0_:=Aside0.mk (blk_grown BK111.out HG2 (Kd.R_ne HRAW.out BK111.out (by decide)));have m1_:=Aside0.mk (blk_grown BK4.out HG2 (Kd.R_ne HRAW.out BK4.out (by decide)));have m2_:=Aside0.mk (blk_grown BK5.out HG2 (Kd.R_ne HRAW.out BK5.out (by decide)));have m3_:=Aside0.mk (Kd.S_over' Hv21.out (Kd.R_typed HRAW.out) (by decide) HG2);have m4_:=Aside0.mk (Kd.S_over' Hv23.out (Kd.R_typed HRAW.out) (by decide) HG2);have m5_:=Aside0.mk (Kd.R_over' HLL1.out (Kd.R_typed HRAW.out) (by decide) HG2);have m6_:=Aside0.mk ((below_set HB.out GBO.out:Below w.heap.size w (w16.setCell ⟨go,k,none⟩ (.slice A2 RW2.length c2))));clear BK111 BK4 BK5 Hv21 Hv23 HLL1 HB;have BK111:=m0_;clear m0_;have BK4:=m1_;clear m1_;have BK5:=m2_;clear m2_;have Hv21:=m3_;clear m3_;have Hv23:=m4_;clear m4_;have HLL1:=m5_;clear m5_;have HB:=m6_;clear m6_;clear HP HG2 HRAW UU HH hHeld hx4 hf4;refine done_ (by kernel_rfl) ?_;generalize w16.setCell ⟨go,k,none⟩ (.slice A2 RW2.length c2)=w17 at HO BK111 BK4 BK5 Hv21 Hv23 HLL1 HB ⊢;rw[HRW2.out] at HO;clear HRW2 HST HRW;go_wp2_with fail;go_roundw
       case rel=>exact⟨j+1,by omega,by first|rfl|go_num,HO,BK111,BK4,BK5,Hv21,Hv23,HLL1,HB⟩
       case measure=>simp[intOf]<;>omega
      ·have ej:j=LL1.length:=by omega
       subst ej;rw[List.take_length] at HO;have cj:decide ((LL1.length:Int)<(LL1.length:Int))=false:=decide_eq_false (by omega);obtain⟨RW,hRW⟩: ∃ r_,r_=((([]:List S38) ++ LL0.map (fun i=>(⟨i,false⟩:S38))) ++ LL1.map (fun i=>(⟨i,true⟩:S38))):=⟨_,rfl⟩;have HRU:Aside0 (RW=stepsU l0_2 n0 (k:Int)):=⟨by rw[hRW,HELL0.out,HELL1.out,HL0.out,HL1.out];rfl⟩;have HRL:Aside0 (RW.length≤1000000):=⟨by rw[hRW];simp;have:=HLE0.out;have:=HLE1.out;omega⟩;rw[← hRW] at HO;clear hRW;obtain⟨oki,c_,_,hM_,hcc_,_,_,hH_⟩:=Kd.S_elem HO.out [] (k:Int) pk qk;obtain⟨vr,rfl,hR_⟩:=hM_;rw[show ((rowsAt l0_2 n0 k).set k RW).getD (k:Int).toNat []=RW from rd_set (rowsAt l0_2 n0 k) k RW (by rw[rowsAt_len];exact hlt)] at hR_;obtain⟨Ar,cr,er⟩:=Kd.R_slice hR_;subst er;have hx4:=hcc_ 0 _ rfl;rw[show ((Kd.slice 38 k38)).sz=1 from rfl,Nat.mul_one,Nat.add_zero,Int.toNat_natCast] at hx4;have UU:=Aside0.mk hR_;have HH:=Aside0.mk hH_;clear hcc_ hR_ hH_;have hx5:wr.cell? ⟨gb5,4,none⟩=some (.slice (some ⟨go,0,none⟩) n0 co):=(blk_cell BK5.out 4).trans rfl;have HEN:Aside0 (ends l0_2 n0):=⟨fun i hi=>⟨HE0.out i hi,HE1.out i hi⟩⟩;go_wp2_with (first|(go_at_call 143;refine(sort_row HH.out UU.out HRU.out hlt HEN.out (by omega) HRL.out).mono ?_;rintro e_ w20 ⟨rfl,vv,hg,hty,hS⟩;rw[List.set_set,rowsAt_set l0_2 n0 k hlt] at hS;have m0_:=Aside0.mk (blk_grown BK111.out hg (fun he=>by obtain⟨_,cells_,hc_⟩:=hty _ he.symm;have t_:=BK111.out.symm.trans hc_;simp at t_));have m1_:=Aside0.mk (blk_grown BK4.out hg (fun he=>by obtain⟨_,cells_,hc_⟩:=hty _ he.symm;have t_:=BK4.out.symm.trans hc_;simp at t_));have m2_:=Aside0.mk (blk_grown BK5.out hg (fun he=>by obtain⟨_,cells_,hc_⟩:=hty _ he.symm;have t_:=BK5.out.symm.trans hc_;simp at t_));have m3_:=Aside0.mk (Kd.S_over' (v:=vv) Hv21.out (fun k_ hk_=>(hty k_ hk_).2) (by decide) hg);have m4_:=Aside0.mk (Kd.S_over' (v:=vv) Hv23.out (fun k_ hk_=>(hty k_ hk_).2) (by decide) hg);have m5_:=Aside0.mk (HB.out.grown hg HB.out.size (fun k_ hk_=>(hty k_ hk_).1));have m6_:=Aside0.mk hS;clear hg hty hS HO BK111 BK4 BK5 Hv21 Hv23 HLL1 HB UU HH hx4 hx5;have HO:=m6_;have BK111:=m0_;have BK4:=m1_;have BK5:=m2_;have Hv21:=m3_;have Hv23:=m4_;have HB:=m5_;clear m0_ m1_ m2_ m3_ m4_ m5_ m6_)|fail);go_roundw
       case rel=>exact⟨k+1,by omega,by first|rfl|go_num,HO,BK111,BK4,BK5,Hv21,Hv23,HB⟩
       case measure=>simp[intOf]<;>omega
  ·have ek:n0=k:=by omega
   subst ek;have hx0:wr.cell? ⟨gb5,0,none⟩=some (.int .i64 (n0:Int)):=(blk_cell BK5.out 0).trans rfl;have hx1:wr.cell? ⟨gb5,1,none⟩=some (.bool a0_1):=(blk_cell BK5.out 1).trans rfl;have hx2:wr.cell? ⟨gb5,2,none⟩=some (.slice A0_2 l0_2.length c0_2):=(blk_cell BK5.out 2).trans rfl;have hx3:wr.cell? ⟨gb5,3,none⟩=some (.slice A1 n1 c1):=(blk_cell BK5.out 3).trans rfl;have hx4:wr.cell? ⟨gb5,4,none⟩=some (.slice Ao n0 co):=(blk_cell BK5.out 4).trans rfl;have hy0:wr.cell? ⟨gb4,0,none⟩=some (.int .i64 0):=(blk_cell BK4.out 0).trans rfl;have hf0:=blk_frozen BK4.out 0;have hy1:wr.cell? ⟨gb4,1,none⟩=some (.bool false):=(blk_cell BK4.out 1).trans rfl;have hf1:=blk_frozen BK4.out 1;have hy2:wr.cell? ⟨gb4,2,none⟩=some (.slice none 0 0):=(blk_cell BK4.out 2).trans rfl;have hf2:=blk_frozen BK4.out 2;have hy3:wr.cell? ⟨gb4,3,none⟩=some (.slice none 0 0):=(blk_cell BK4.out 3).trans rfl;have hf3:=blk_frozen BK4.out 3;have hy4:wr.cell? ⟨gb4,4,none⟩=some (.slice none 0 0):=(blk_cell BK4.out 4).trans rfl;have hf4:=blk_frozen BK4.out 4;have GE4':=GE4.out;go_wp2;refine bodyPost_ret (results_cell_row rfl _ _ gb4 118 #[.int .i64 (n0:Int), .bool a0_1, .slice A0_2 l0_2.length c0_2, .slice A1 n1 c1, .slice Ao n0 co] (0,0) _ rfl (by refine blk_put (cs:= #[.int .i64 (n0:Int), .bool a0_1, .slice A0_2 l0_2.length c0_2, .slice A1 n1 c1, .slice none 0 0]) ?_ 4 _ rfl;refine blk_put (cs:= #[.int .i64 (n0:Int), .bool a0_1, .slice A0_2 l0_2.length c0_2, .slice none 0 0, .slice none 0 0]) ?_ 3 _ rfl;refine blk_put (cs:= #[.int .i64 (n0:Int), .bool a0_1, .slice none 0 0, .slice none 0 0, .slice none 0 0]) ?_ 2 _ rfl;refine blk_put (cs:= #[.int .i64 (n0:Int), .bool false, .slice none 0 0, .slice none 0 0, .slice none 0 0]) ?_ 1 _ rfl;refine blk_put (cs:= #[.int .i64 0, .bool false, .slice none 0 0, .slice none 0 0, .slice none 0 0]) ?_ 0 _ rfl;exact BK4.out) Try.underlying118 rfl (by kernel_rfl)) rfl ?_;exact⟨_,rfl,Kd.S_mono (Kd.S_far (p:=⟨gb4,4,none⟩) (Kd.S_far (p:=⟨gb4,3,none⟩) (Kd.S_far (p:=⟨gb4,2,none⟩) (Kd.S_far (p:=⟨gb4,1,none⟩) (Kd.S_far (p:=⟨gb4,0,none⟩) (Kd.S_types HO.out BK4.out (by decide)) (fun _ hk=>hk.2) (.int .i64 (n0:Int))) (fun _ hk=>hk.2) (.bool a0_1)) (fun _ hk=>hk.2) (.slice A0_2 l0_2.length c0_2)) (fun _ hk=>hk.2) (.slice A1 n1 c1)) (fun _ hk=>hk.2) (.slice Ao n0 co)) (fun _ _=>trivial),by repeat(first|exact HB.out|refine below_set ?_ GE4.out)⟩
end H
namespace P
attribute [local go_sem] max2_int min2_int max_two min_two max_three min_three max_four min_four
def ebbtideref07_Ends.f (k:Nat) (Zc:Int) (Zb:Bool) (Za:List (S74)) (a1:Int) (a2:Int):Option (Int):=(ebbtideref05_Check.f k Zc Zb Za).bind fun t562=>(if t562=0 then((ebbtideref06_Node.f Zc Zb Za a1).bind fun t563=>(if t563=true then((ebbtideref06_Node.f Zc Zb Za a2).bind fun t564=>(if t564=true then(if a1=a2 then(some 70) else(some 0)) else(some 70))) else(some 70))) else(some t562))
set_option maxHeartbeats 8000000 in
set_option maxRecDepth 100000 in
theorem ebbtideref07_Ends.calls (k:Nat) (Zc:Int) (Zb:Bool) (Ze:Option Addr) (Zd:Nat) (Za:List (S74)) (a1:Int) (a2:Int) (r:Int) (w:World) (Zr:Kd.C k74 w Ze Za.length Za) (Zs:Za.length≤Zd) (h:ebbtideref07_Ends.f k Zc Zb Za a1 a2=some r):
  Calls Try.prog 77 #[.agg #[.int .i64 Zc, .bool Zb, .slice Ze Za.length Zd], .int .i64 a1, .int .i64 a2] w fun e w'=>e= .returned (.int .i64 r)∧Below w.heap.size w w':=by
 have hu24:=Try.underlying24;have Zl:=Ya Zr;have Zv:=Ya Zs;clear Zr Zs;have HB:=Ya (Yo w.heap.size w);have H:((ebbtideref05_Check.f k Zc Zb Za).bind fun t562=>(if t562=0 then((ebbtideref06_Node.f Zc Zb Za a1).bind fun t563=>(if t563=true then((ebbtideref06_Node.f Zc Zb Za a2).bind fun t564=>(if t564=true then(if a1=a2 then(some 70) else(some 0)) else(some 70))) else(some 70))) else(some t562)))=some r:=h;clear h;replace H:=Option.bind_eq_some_iff.mp H;obtain⟨t562,A40,H⟩:=H;replace H:(if t562=0 then((ebbtideref06_Node.f Zc Zb Za a1).bind fun t563=>(if t563=true then((ebbtideref06_Node.f Zc Zb Za a2).bind fun t564=>(if t564=true then(if a1=a2 then(some 70) else(some 0)) else(some 70))) else(some 70))) else(some t562))=some r:=H;have A4:=Ya A40;clear A40;by_cases c5:t562=0
 rotate_left
 ·rw[Yy c5] at H
  have c5b0:(t562 == 0)=false:=beq_eq_false_iff_ne.mpr c5;have c5b1:(t562 != 0)=true:=bne_iff_ne.mpr c5;obtain rfl:=Option.some.inj H;go_enter Try.func77,Try.ntmps77;go_wp2_with (first|((with_reducible refine gate_dst (N:=3) rfl ?_);refine Yz ?hg (N:=3) ?hd (cs:= #[.int .i64 Zc, .bool Zb, .slice Ze Za.length Zd]) (t:=24) ?hr ?_;(case hd=>rfl);(case hg=>rfl);(case hr=>first|(go_simp;done)|(go_simp;rfl));intro Xk hg w37 Zf hb;have n0_:=Ya (Yk (by repeat(first|(with_reducible first|exact HB.out|apply Ye|apply Yd|apply Yg)|exact HB.out)) hb);have n1_:=Ya (Zf);have n2_:=Ya ((by rw[hg];exact(Yi (by repeat(first|(with_reducible first|exact HB.out|apply Ye|apply Yd|apply Yg)|exact HB.out))):w.heap.size≤Xk));have n3_:=Ya ((by rw[hg];exact(Yi (by repeat(first|(with_reducible first|exact HB.out|apply Ye|apply Yd|apply Yg)|exact HB.out))):w.heap.size≤Xk));clear HB;have HB:=n0_;have Zo:=n1_;have GW561:=n2_;have Jx:=n3_;clear n0_ n1_ n2_ n3_;clear hb Zf hg;have hcz38_0:w37.cell? ⟨Xk,0,none⟩=some (.int .i64 Zc):=(Yc Zo.out 0).trans rfl;have hcz38_1:w37.cell? ⟨Xk,1,none⟩=some (.bool Zb):=(Yc Zo.out 1).trans rfl;have hcz38_2:w37.cell? ⟨Xk,2,none⟩=some (.slice Ze Za.length Zd):=(Yc Zo.out 2).trans rfl;have hfz38_0:=Yf Zo.out 0;have hfz38_1:=Yf Zo.out 1;have hfz38_2:=Yf Zo.out 2)|((with_reducible refine gate_callee (f:=78) rfl ?_);refine goesL_ (some 9) rfl rfl Try.func78 (by kernel_rfl) rfl #[.agg #[.int .i64 Zc, .bool Zb, .slice Ze Za.length Zd]] rfl (by(try simp only[List.map_toArray,List.map_cons,List.map_nil]);first|done|rfl|(simp only[List.length_drop,List.length_take];rfl)) ?_;(with_reducible refine(ebbtideref05_Check.calls k Zc Zb _ _ Za t562 _ ?side1 ?side2 A4.out).mono ?_);(case side1=>repeat(first|exact(Yt Zl.out HB.out)|(with_reducible refine Kd.C_alloc ?_ _)|(with_reducible refine Kd.C_drewN ?_ _)|(with_reducible refine Kd.C_drew ?_)));(case side2=>exact Zv.out);rintro e w39 ⟨rfl,hb⟩;refine⟨_,rfl,?_⟩;have n0_:=Ya (Yn (g:=Xk) (o:= .cells #[.int .i64 Zc, .bool Zb, .slice Ze Za.length Zd] 24 (0,0)) (by(with_reducible repeat(first|refine Yl ?_ _|refine Ym ?_|refine Yj ?_ _));exact Zo.out) hb);have n1_:=Ya (Yk (by repeat(first|(with_reducible first|exact HB.out|apply Ye|apply Yd|apply Yg|refine Yh ?_ Jx.out)|exact HB.out)) hb);clear Zo;clear HB;have Zo:=n0_;have HB:=n1_;clear n0_ n1_;(try clear hb);(try clear hb2);(try clear hk);(try clear hi)));go_ret;exact⟨by first|rfl|(simp[errW_none,errW_some]<;>rfl)|(simp[*,errW_none,errW_some]<;>rfl),by repeat(first|(with_reducible first|exact HB.out|apply Ye|apply Yd|apply Yg|refine Yh ?_ Jx.out)|exact HB.out)⟩
 rw[Yx c5] at H;have c5b0:(t562 == 0)=true:=beq_iff_eq.mpr c5;have c5b1:(t562 != 0)=false:=bne_eq_false_iff_eq.mpr c5;clear c5;replace H:=Option.bind_eq_some_iff.mp H;obtain⟨t563,A60,H⟩:=H;replace H:(if t563=true then((ebbtideref06_Node.f Zc Zb Za a2).bind fun t564=>(if t564=true then(if a1=a2 then(some 70) else(some 0)) else(some 70))) else(some 70))=some r:=H;have A6:=Ya A60;clear A60;by_cases c7:t563=true
 rotate_left
 ·replace c7:=Bool.eq_false_iff.mpr c7
  subst c7;have H1:(some 70)=some r:=by rw[Yy (show ¬ (false=true) by decide)] at H;exact H
  clear H;have H:=H1;clear H1;obtain rfl:=Option.some.inj H;go_enter Try.func77,Try.ntmps77;go_wp2_with (first|((with_reducible refine gate_dst (N:=3) rfl ?_);refine Yz ?hg (N:=3) ?hd (cs:= #[.int .i64 Zc, .bool Zb, .slice Ze Za.length Zd]) (t:=24) ?hr ?_;(case hd=>rfl);(case hg=>rfl);(case hr=>first|(go_simp;done)|(go_simp;rfl));intro Xk hg w32 Zf hb;have n0_:=Ya (Yk (by repeat(first|(with_reducible first|exact HB.out|apply Ye|apply Yd|apply Yg)|exact HB.out)) hb);have n1_:=Ya (Zf);have n2_:=Ya ((by rw[hg];exact(Yi (by repeat(first|(with_reducible first|exact HB.out|apply Ye|apply Yd|apply Yg)|exact HB.out))):w.heap.size≤Xk));have n3_:=Ya ((by rw[hg];exact(Yi (by repeat(first|(with_reducible first|exact HB.out|apply Ye|apply Yd|apply Yg)|exact HB.out))):w.heap.size≤Xk));clear HB;have HB:=n0_;have Zo:=n1_;have GW561:=n2_;have Jx:=n3_;clear n0_ n1_ n2_ n3_;clear hb Zf hg;have hcz33_0:w32.cell? ⟨Xk,0,none⟩=some (.int .i64 Zc):=(Yc Zo.out 0).trans rfl;have hcz33_1:w32.cell? ⟨Xk,1,none⟩=some (.bool Zb):=(Yc Zo.out 1).trans rfl;have hcz33_2:w32.cell? ⟨Xk,2,none⟩=some (.slice Ze Za.length Zd):=(Yc Zo.out 2).trans rfl;have hfz33_0:=Yf Zo.out 0;have hfz33_1:=Yf Zo.out 1;have hfz33_2:=Yf Zo.out 2)|((with_reducible refine gate_callee (f:=78) rfl ?_);refine goesL_ (some 9) rfl rfl Try.func78 (by kernel_rfl) rfl #[.agg #[.int .i64 Zc, .bool Zb, .slice Ze Za.length Zd]] rfl (by(try simp only[List.map_toArray,List.map_cons,List.map_nil]);first|done|rfl|(simp only[List.length_drop,List.length_take];rfl)) ?_;(with_reducible refine(ebbtideref05_Check.calls k Zc Zb _ _ Za t562 _ ?side1 ?side2 A4.out).mono ?_);(case side1=>repeat(first|exact(Yt Zl.out HB.out)|(with_reducible refine Kd.C_alloc ?_ _)|(with_reducible refine Kd.C_drewN ?_ _)|(with_reducible refine Kd.C_drew ?_)));(case side2=>exact Zv.out);rintro e w34 ⟨rfl,hb⟩;refine⟨_,rfl,?_⟩;have n0_:=Ya (Yn (g:=Xk) (o:= .cells #[.int .i64 Zc, .bool Zb, .slice Ze Za.length Zd] 24 (0,0)) (by(with_reducible repeat(first|refine Yl ?_ _|refine Ym ?_|refine Yj ?_ _));exact Zo.out) hb);have n1_:=Ya (Yk (by repeat(first|(with_reducible first|exact HB.out|apply Ye|apply Yd|apply Yg|refine Yh ?_ Jx.out)|exact HB.out)) hb);clear Zo;clear HB;have Zo:=n0_;have HB:=n1_;clear n0_ n1_;(try clear hb);(try clear hb2);(try clear hk);(try clear hi);have hcz35_0:w34.cell? ⟨Xk,0,none⟩=some (.int .i64 Zc):=(Yc Zo.out 0).trans rfl;have hcz35_1:w34.cell? ⟨Xk,1,none⟩=some (.bool Zb):=(Yc Zo.out 1).trans rfl;have hcz35_2:w34.cell? ⟨Xk,2,none⟩=some (.slice Ze Za.length Zd):=(Yc Zo.out 2).trans rfl;have hfz35_0:=Yf Zo.out 0;have hfz35_1:=Yf Zo.out 1;have hfz35_2:=Yf Zo.out 2)|((with_reducible refine gate_callee (f:=99) rfl ?_);refine goesL_ (some 15) rfl rfl Try.func99 (by kernel_rfl) rfl #[.agg #[.int .i64 Zc, .bool Zb, .slice Ze Za.length Zd], .int .i64 a1] rfl (by(try simp only[List.map_toArray,List.map_cons,List.map_nil]);first|done|rfl|(simp only[List.length_drop,List.length_take];rfl)) ?_;(with_reducible refine(ebbtideref06_Node.calls Zc Zb _ _ Za a1 false _ ?side1 ?side2 A6.out).mono ?_);(case side1=>repeat(first|exact(Yt Zl.out HB.out)|(with_reducible refine Kd.C_alloc ?_ _)|(with_reducible refine Kd.C_drewN ?_ _)|(with_reducible refine Kd.C_drew ?_)));(case side2=>exact Zv.out);rintro e w36 ⟨rfl,hb⟩;refine⟨_,rfl,?_⟩;have n0_:=Ya (Yn (g:=Xk) (o:= .cells #[.int .i64 Zc, .bool Zb, .slice Ze Za.length Zd] 24 (0,0)) (by(with_reducible repeat(first|refine Yl ?_ _|refine Ym ?_|refine Yj ?_ _));exact Zo.out) hb);have n1_:=Ya (Yk (by repeat(first|(with_reducible first|exact HB.out|apply Ye|apply Yd|apply Yg|refine Yh ?_ Jx.out)|exact HB.out)) hb);clear Zo;clear HB;have Zo:=n0_;have HB:=n1_;clear n0_ n1_;(try clear hb);(try clear hb2);(try clear hk);(try clear hi)));go_ret;exact⟨by first|rfl|(simp[errW_none,errW_some]<;>rfl)|(simp[*,errW_none,errW_some]<;>rfl),by repeat(first|(with_reducible first|exact HB.out|apply Ye|apply Yd|apply Yg|refine Yh ?_ Jx.out)|exact HB.out)⟩
 subst c7;have H1:((ebbtideref06_Node.f Zc Zb Za a2).bind fun t564=>(if t564=true then(if a1=a2 then(some 70) else(some 0)) else(some 70)))=some r:=by first|(rw[Yx rfl] at H;exact H)|(rw[Yx trivial] at H;exact H)
 clear H;have H:=H1;clear H1;replace H:=Option.bind_eq_some_iff.mp H;obtain⟨t564,A80,H⟩:=H;replace H:(if t564=true then(if a1=a2 then(some 70) else(some 0)) else(some 70))=some r:=H;have A8:=Ya A80;clear A80;by_cases c9:t564=true
 rotate_left
 ·replace c9:=Bool.eq_false_iff.mpr c9
  subst c9;have H1:(some 70)=some r:=by rw[Yy (show ¬ (false=true) by decide)] at H;exact H
  clear H;have H:=H1;clear H1;obtain rfl:=Option.some.inj H;go_enter Try.func77,Try.ntmps77;go_wp2_with (first|((with_reducible refine gate_dst (N:=3) rfl ?_);refine Yz ?hg (N:=3) ?hd (cs:= #[.int .i64 Zc, .bool Zb, .slice Ze Za.length Zd]) (t:=24) ?hr ?_;(case hd=>rfl);(case hg=>rfl);(case hr=>first|(go_simp;done)|(go_simp;rfl));intro Xk hg w25 Zf hb;have n0_:=Ya (Yk (by repeat(first|(with_reducible first|exact HB.out|apply Ye|apply Yd|apply Yg)|exact HB.out)) hb);have n1_:=Ya (Zf);have n2_:=Ya ((by rw[hg];exact(Yi (by repeat(first|(with_reducible first|exact HB.out|apply Ye|apply Yd|apply Yg)|exact HB.out))):w.heap.size≤Xk));have n3_:=Ya ((by rw[hg];exact(Yi (by repeat(first|(with_reducible first|exact HB.out|apply Ye|apply Yd|apply Yg)|exact HB.out))):w.heap.size≤Xk));clear HB;have HB:=n0_;have Zo:=n1_;have GW561:=n2_;have Jx:=n3_;clear n0_ n1_ n2_ n3_;clear hb Zf hg;have hcz26_0:w25.cell? ⟨Xk,0,none⟩=some (.int .i64 Zc):=(Yc Zo.out 0).trans rfl;have hcz26_1:w25.cell? ⟨Xk,1,none⟩=some (.bool Zb):=(Yc Zo.out 1).trans rfl;have hcz26_2:w25.cell? ⟨Xk,2,none⟩=some (.slice Ze Za.length Zd):=(Yc Zo.out 2).trans rfl;have hfz26_0:=Yf Zo.out 0;have hfz26_1:=Yf Zo.out 1;have hfz26_2:=Yf Zo.out 2)|((with_reducible refine gate_callee (f:=78) rfl ?_);refine goesL_ (some 9) rfl rfl Try.func78 (by kernel_rfl) rfl #[.agg #[.int .i64 Zc, .bool Zb, .slice Ze Za.length Zd]] rfl (by(try simp only[List.map_toArray,List.map_cons,List.map_nil]);first|done|rfl|(simp only[List.length_drop,List.length_take];rfl)) ?_;(with_reducible refine(ebbtideref05_Check.calls k Zc Zb _ _ Za t562 _ ?side1 ?side2 A4.out).mono ?_);(case side1=>repeat(first|exact(Yt Zl.out HB.out)|(with_reducible refine Kd.C_alloc ?_ _)|(with_reducible refine Kd.C_drewN ?_ _)|(with_reducible refine Kd.C_drew ?_)));(case side2=>exact Zv.out);rintro e w27 ⟨rfl,hb⟩;refine⟨_,rfl,?_⟩;have n0_:=Ya (Yn (g:=Xk) (o:= .cells #[.int .i64 Zc, .bool Zb, .slice Ze Za.length Zd] 24 (0,0)) (by(with_reducible repeat(first|refine Yl ?_ _|refine Ym ?_|refine Yj ?_ _));exact Zo.out) hb);have n1_:=Ya (Yk (by repeat(first|(with_reducible first|exact HB.out|apply Ye|apply Yd|apply Yg|refine Yh ?_ Jx.out)|exact HB.out)) hb);clear Zo;clear HB;have Zo:=n0_;have HB:=n1_;clear n0_ n1_;(try clear hb);(try clear hb2);(try clear hk);(try clear hi);have hcz28_0:w27.cell? ⟨Xk,0,none⟩=some (.int .i64 Zc):=(Yc Zo.out 0).trans rfl;have hcz28_1:w27.cell? ⟨Xk,1,none⟩=some (.bool Zb):=(Yc Zo.out 1).trans rfl;have hcz28_2:w27.cell? ⟨Xk,2,none⟩=some (.slice Ze Za.length Zd):=(Yc Zo.out 2).trans rfl;have hfz28_0:=Yf Zo.out 0;have hfz28_1:=Yf Zo.out 1;have hfz28_2:=Yf Zo.out 2)|((with_reducible refine gate_callee (f:=99) rfl ?_);refine goesL_ (some 15) rfl rfl Try.func99 (by kernel_rfl) rfl #[.agg #[.int .i64 Zc, .bool Zb, .slice Ze Za.length Zd], .int .i64 a1] rfl (by(try simp only[List.map_toArray,List.map_cons,List.map_nil]);first|done|rfl|(simp only[List.length_drop,List.length_take];rfl)) ?_;(with_reducible refine(ebbtideref06_Node.calls Zc Zb _ _ Za a1 true _ ?side1 ?side2 A6.out).mono ?_);(case side1=>repeat(first|exact(Yt Zl.out HB.out)|(with_reducible refine Kd.C_alloc ?_ _)|(with_reducible refine Kd.C_drewN ?_ _)|(with_reducible refine Kd.C_drew ?_)));(case side2=>exact Zv.out);rintro e w29 ⟨rfl,hb⟩;refine⟨_,rfl,?_⟩;have n0_:=Ya (Yn (g:=Xk) (o:= .cells #[.int .i64 Zc, .bool Zb, .slice Ze Za.length Zd] 24 (0,0)) (by(with_reducible repeat(first|refine Yl ?_ _|refine Ym ?_|refine Yj ?_ _));exact Zo.out) hb);have n1_:=Ya (Yk (by repeat(first|(with_reducible first|exact HB.out|apply Ye|apply Yd|apply Yg|refine Yh ?_ Jx.out)|exact HB.out)) hb);clear Zo;clear HB;have Zo:=n0_;have HB:=n1_;clear n0_ n1_;(try clear hb);(try clear hb2);(try clear hk);(try clear hi);have hcz30_0:w29.cell? ⟨Xk,0,none⟩=some (.int .i64 Zc):=(Yc Zo.out 0).trans rfl;have hcz30_1:w29.cell? ⟨Xk,1,none⟩=some (.bool Zb):=(Yc Zo.out 1).trans rfl;have hcz30_2:w29.cell? ⟨Xk,2,none⟩=some (.slice Ze Za.length Zd):=(Yc Zo.out 2).trans rfl;have hfz30_0:=Yf Zo.out 0;have hfz30_1:=Yf Zo.out 1;have hfz30_2:=Yf Zo.out 2)|(go_at_call 99;(with_reducible refine(ebbtideref06_Node.calls Zc Zb _ _ Za a2 false _ ?side1 ?side2 A8.out).mono ?_);(case side1=>repeat(first|exact(Yt Zl.out HB.out)|(with_reducible refine Kd.C_alloc ?_ _)|(with_reducible refine Kd.C_drewN ?_ _)|(with_reducible refine Kd.C_drew ?_)));(case side2=>exact Zv.out);rintro e w31 ⟨rfl,hb⟩;have n0_:=Ya (Yn (g:=Xk) (o:= .cells #[.int .i64 Zc, .bool Zb, .slice Ze Za.length Zd] 24 (0,0)) (by(with_reducible repeat(first|refine Yl ?_ _|refine Ym ?_|refine Yj ?_ _));exact Zo.out) hb);have n1_:=Ya (Yk (by repeat(first|(with_reducible first|exact HB.out|apply Ye|apply Yd|apply Yg|refine Yh ?_ Jx.out)|exact HB.out)) hb);clear Zo;clear HB;have Zo:=n0_;have HB:=n1_;clear n0_ n1_;(try clear hb);(try clear hb2);(try clear hk);(try clear hi)));go_ret;exact⟨by first|rfl|(simp[errW_none,errW_some]<;>rfl)|(simp[*,errW_none,errW_some]<;>rfl),by repeat(first|(with_reducible first|exact HB.out|apply Ye|apply Yd|apply Yg|refine Yh ?_ Jx.out)|exact HB.out)⟩
 subst c9;have H1:(if a1=a2 then(some 70) else(some 0))=some r:=by first|(rw[Yx rfl] at H;exact H)|(rw[Yx trivial] at H;exact H)
 clear H;have H:=H1;clear H1;by_cases c10:a1=a2
 rotate_left
 ·rw[Yy c10] at H
  have c10b0:(a1 == a2)=false:=beq_eq_false_iff_ne.mpr c10;have c10b1:(a1 != a2)=true:=bne_iff_ne.mpr c10;obtain rfl:=Option.some.inj H;go_enter Try.func77,Try.ntmps77;go_wp2_with (first|((with_reducible refine gate_dst (N:=3) rfl ?_);refine Yz ?hg (N:=3) ?hd (cs:= #[.int .i64 Zc, .bool Zb, .slice Ze Za.length Zd]) (t:=24) ?hr ?_;(case hd=>rfl);(case hg=>rfl);(case hr=>first|(go_simp;done)|(go_simp;rfl));intro Xk hg w18 Zf hb;have n0_:=Ya (Yk (by repeat(first|(with_reducible first|exact HB.out|apply Ye|apply Yd|apply Yg)|exact HB.out)) hb);have n1_:=Ya (Zf);have n2_:=Ya ((by rw[hg];exact(Yi (by repeat(first|(with_reducible first|exact HB.out|apply Ye|apply Yd|apply Yg)|exact HB.out))):w.heap.size≤Xk));have n3_:=Ya ((by rw[hg];exact(Yi (by repeat(first|(with_reducible first|exact HB.out|apply Ye|apply Yd|apply Yg)|exact HB.out))):w.heap.size≤Xk));clear HB;have HB:=n0_;have Zo:=n1_;have GW561:=n2_;have Jx:=n3_;clear n0_ n1_ n2_ n3_;clear hb Zf hg;have hcz19_0:w18.cell? ⟨Xk,0,none⟩=some (.int .i64 Zc):=(Yc Zo.out 0).trans rfl;have hcz19_1:w18.cell? ⟨Xk,1,none⟩=some (.bool Zb):=(Yc Zo.out 1).trans rfl;have hcz19_2:w18.cell? ⟨Xk,2,none⟩=some (.slice Ze Za.length Zd):=(Yc Zo.out 2).trans rfl;have hfz19_0:=Yf Zo.out 0;have hfz19_1:=Yf Zo.out 1;have hfz19_2:=Yf Zo.out 2)|((with_reducible refine gate_callee (f:=78) rfl ?_);refine goesL_ (some 9) rfl rfl Try.func78 (by kernel_rfl) rfl #[.agg #[.int .i64 Zc, .bool Zb, .slice Ze Za.length Zd]] rfl (by(try simp only[List.map_toArray,List.map_cons,List.map_nil]);first|done|rfl|(simp only[List.length_drop,List.length_take];rfl)) ?_;(with_reducible refine(ebbtideref05_Check.calls k Zc Zb _ _ Za t562 _ ?side1 ?side2 A4.out).mono ?_);(case side1=>repeat(first|exact(Yt Zl.out HB.out)|(with_reducible refine Kd.C_alloc ?_ _)|(with_reducible refine Kd.C_drewN ?_ _)|(with_reducible refine Kd.C_drew ?_)));(case side2=>exact Zv.out);rintro e w20 ⟨rfl,hb⟩;refine⟨_,rfl,?_⟩;have n0_:=Ya (Yn (g:=Xk) (o:= .cells #[.int .i64 Zc, .bool Zb, .slice Ze Za.length Zd] 24 (0,0)) (by(with_reducible repeat(first|refine Yl ?_ _|refine Ym ?_|refine Yj ?_ _));exact Zo.out) hb);have n1_:=Ya (Yk (by repeat(first|(with_reducible first|exact HB.out|apply Ye|apply Yd|apply Yg|refine Yh ?_ Jx.out)|exact HB.out)) hb);clear Zo;clear HB;have Zo:=n0_;have HB:=n1_;clear n0_ n1_;(try clear hb);(try clear hb2);(try clear hk);(try clear hi);have hcz21_0:w20.cell? ⟨Xk,0,none⟩=some (.int .i64 Zc):=(Yc Zo.out 0).trans rfl;have hcz21_1:w20.cell? ⟨Xk,1,none⟩=some (.bool Zb):=(Yc Zo.out 1).trans rfl;have hcz21_2:w20.cell? ⟨Xk,2,none⟩=some (.slice Ze Za.length Zd):=(Yc Zo.out 2).trans rfl;have hfz21_0:=Yf Zo.out 0;have hfz21_1:=Yf Zo.out 1;have hfz21_2:=Yf Zo.out 2)|((with_reducible refine gate_callee (f:=99) rfl ?_);refine goesL_ (some 15) rfl rfl Try.func99 (by kernel_rfl) rfl #[.agg #[.int .i64 Zc, .bool Zb, .slice Ze Za.length Zd], .int .i64 a1] rfl (by(try simp only[List.map_toArray,List.map_cons,List.map_nil]);first|done|rfl|(simp only[List.length_drop,List.length_take];rfl)) ?_;(with_reducible refine(ebbtideref06_Node.calls Zc Zb _ _ Za a1 true _ ?side1 ?side2 A6.out).mono ?_);(case side1=>repeat(first|exact(Yt Zl.out HB.out)|(with_reducible refine Kd.C_alloc ?_ _)|(with_reducible refine Kd.C_drewN ?_ _)|(with_reducible refine Kd.C_drew ?_)));(case side2=>exact Zv.out);rintro e w22 ⟨rfl,hb⟩;refine⟨_,rfl,?_⟩;have n0_:=Ya (Yn (g:=Xk) (o:= .cells #[.int .i64 Zc, .bool Zb, .slice Ze Za.length Zd] 24 (0,0)) (by(with_reducible repeat(first|refine Yl ?_ _|refine Ym ?_|refine Yj ?_ _));exact Zo.out) hb);have n1_:=Ya (Yk (by repeat(first|(with_reducible first|exact HB.out|apply Ye|apply Yd|apply Yg|refine Yh ?_ Jx.out)|exact HB.out)) hb);clear Zo;clear HB;have Zo:=n0_;have HB:=n1_;clear n0_ n1_;(try clear hb);(try clear hb2);(try clear hk);(try clear hi);have hcz23_0:w22.cell? ⟨Xk,0,none⟩=some (.int .i64 Zc):=(Yc Zo.out 0).trans rfl;have hcz23_1:w22.cell? ⟨Xk,1,none⟩=some (.bool Zb):=(Yc Zo.out 1).trans rfl;have hcz23_2:w22.cell? ⟨Xk,2,none⟩=some (.slice Ze Za.length Zd):=(Yc Zo.out 2).trans rfl;have hfz23_0:=Yf Zo.out 0;have hfz23_1:=Yf Zo.out 1;have hfz23_2:=Yf Zo.out 2)|(go_at_call 99;(with_reducible refine(ebbtideref06_Node.calls Zc Zb _ _ Za a2 true _ ?side1 ?side2 A8.out).mono ?_);(case side1=>repeat(first|exact(Yt Zl.out HB.out)|(with_reducible refine Kd.C_alloc ?_ _)|(with_reducible refine Kd.C_drewN ?_ _)|(with_reducible refine Kd.C_drew ?_)));(case side2=>exact Zv.out);rintro e w24 ⟨rfl,hb⟩;have n0_:=Ya (Yn (g:=Xk) (o:= .cells #[.int .i64 Zc, .bool Zb, .slice Ze Za.length Zd] 24 (0,0)) (by(with_reducible repeat(first|refine Yl ?_ _|refine Ym ?_|refine Yj ?_ _));exact Zo.out) hb);have n1_:=Ya (Yk (by repeat(first|(with_reducible first|exact HB.out|apply Ye|apply Yd|apply Yg|refine Yh ?_ Jx.out)|exact HB.out)) hb);clear Zo;clear HB;have Zo:=n0_;have HB:=n1_;clear n0_ n1_;(try clear hb);(try clear hb2);(try clear hk);(try clear hi)));go_ret;exact⟨by first|rfl|(simp[errW_none,errW_some]<;>rfl)|(simp[*,errW_none,errW_some]<;>rfl),by repeat(first|(with_reducible first|exact HB.out|apply Ye|apply Yd|apply Yg|refine Yh ?_ Jx.out)|exact HB.out)⟩
 rw[Yx c10] at H;have c10b0:(a1 == a2)=true:=beq_iff_eq.mpr c10;have c10b1:(a1 != a2)=false:=bne_eq_false_iff_eq.mpr c10;clear c10;obtain rfl:=Option.some.inj H;go_enter Try.func77,Try.ntmps77;go_wp2_with (first|((with_reducible refine gate_dst (N:=3) rfl ?_);refine Yz ?hg (N:=3) ?hd (cs:= #[.int .i64 Zc, .bool Zb, .slice Ze Za.length Zd]) (t:=24) ?hr ?_;(case hd=>rfl);(case hg=>rfl);(case hr=>first|(go_simp;done)|(go_simp;rfl));intro Xk hg w11 Zf hb;have n0_:=Ya (Yk (by repeat(first|(with_reducible first|exact HB.out|apply Ye|apply Yd|apply Yg)|exact HB.out)) hb);have n1_:=Ya (Zf);have n2_:=Ya ((by rw[hg];exact(Yi (by repeat(first|(with_reducible first|exact HB.out|apply Ye|apply Yd|apply Yg)|exact HB.out))):w.heap.size≤Xk));have n3_:=Ya ((by rw[hg];exact(Yi (by repeat(first|(with_reducible first|exact HB.out|apply Ye|apply Yd|apply Yg)|exact HB.out))):w.heap.size≤Xk));clear HB;have HB:=n0_;have Zo:=n1_;have GW561:=n2_;have Jx:=n3_;clear n0_ n1_ n2_ n3_;clear hb Zf hg;have hcz12_0:w11.cell? ⟨Xk,0,none⟩=some (.int .i64 Zc):=(Yc Zo.out 0).trans rfl;have hcz12_1:w11.cell? ⟨Xk,1,none⟩=some (.bool Zb):=(Yc Zo.out 1).trans rfl;have hcz12_2:w11.cell? ⟨Xk,2,none⟩=some (.slice Ze Za.length Zd):=(Yc Zo.out 2).trans rfl;have hfz12_0:=Yf Zo.out 0;have hfz12_1:=Yf Zo.out 1;have hfz12_2:=Yf Zo.out 2)|((with_reducible refine gate_callee (f:=78) rfl ?_);refine goesL_ (some 9) rfl rfl Try.func78 (by kernel_rfl) rfl #[.agg #[.int .i64 Zc, .bool Zb, .slice Ze Za.length Zd]] rfl (by(try simp only[List.map_toArray,List.map_cons,List.map_nil]);first|done|rfl|(simp only[List.length_drop,List.length_take];rfl)) ?_;(with_reducible refine(ebbtideref05_Check.calls k Zc Zb _ _ Za t562 _ ?side1 ?side2 A4.out).mono ?_);(case side1=>repeat(first|exact(Yt Zl.out HB.out)|(with_reducible refine Kd.C_alloc ?_ _)|(with_reducible refine Kd.C_drewN ?_ _)|(with_reducible refine Kd.C_drew ?_)));(case side2=>exact Zv.out);rintro e w13 ⟨rfl,hb⟩;refine⟨_,rfl,?_⟩;have n0_:=Ya (Yn (g:=Xk) (o:= .cells #[.int .i64 Zc, .bool Zb, .slice Ze Za.length Zd] 24 (0,0)) (by(with_reducible repeat(first|refine Yl ?_ _|refine Ym ?_|refine Yj ?_ _));exact Zo.out) hb);have n1_:=Ya (Yk (by repeat(first|(with_reducible first|exact HB.out|apply Ye|apply Yd|apply Yg|refine Yh ?_ Jx.out)|exact HB.out)) hb);clear Zo;clear HB;have Zo:=n0_;have HB:=n1_;clear n0_ n1_;(try clear hb);(try clear hb2);(try clear hk);(try clear hi);have Ug:w13.cell? ⟨Xk,0,none⟩=some (.int .i64 Zc):=(Yc Zo.out 0).trans rfl;have Uh:w13.cell? ⟨Xk,1,none⟩=some (.bool Zb):=(Yc Zo.out 1).trans rfl;have Jz:w13.cell? ⟨Xk,2,none⟩=some (.slice Ze Za.length Zd):=(Yc Zo.out 2).trans rfl;have Ui:=Yf Zo.out 0;have Uj:=Yf Zo.out 1;have hfz14_2:=Yf Zo.out 2)|((with_reducible refine gate_callee (f:=99) rfl ?_);refine goesL_ (some 15) rfl rfl Try.func99 (by kernel_rfl) rfl #[.agg #[.int .i64 Zc, .bool Zb, .slice Ze Za.length Zd], .int .i64 a1] rfl (by(try simp only[List.map_toArray,List.map_cons,List.map_nil]);first|done|rfl|(simp only[List.length_drop,List.length_take];rfl)) ?_;(with_reducible refine(ebbtideref06_Node.calls Zc Zb _ _ Za a1 true _ ?side1 ?side2 A6.out).mono ?_);(case side1=>repeat(first|exact(Yt Zl.out HB.out)|(with_reducible refine Kd.C_alloc ?_ _)|(with_reducible refine Kd.C_drewN ?_ _)|(with_reducible refine Kd.C_drew ?_)));(case side2=>exact Zv.out);rintro e w15 ⟨rfl,hb⟩;refine⟨_,rfl,?_⟩;have n0_:=Ya (Yn (g:=Xk) (o:= .cells #[.int .i64 Zc, .bool Zb, .slice Ze Za.length Zd] 24 (0,0)) (by(with_reducible repeat(first|refine Yl ?_ _|refine Ym ?_|refine Yj ?_ _));exact Zo.out) hb);have n1_:=Ya (Yk (by repeat(first|(with_reducible first|exact HB.out|apply Ye|apply Yd|apply Yg|refine Yh ?_ Jx.out)|exact HB.out)) hb);clear Zo;clear HB;have Zo:=n0_;have HB:=n1_;clear n0_ n1_;(try clear hb);(try clear hb2);(try clear hk);(try clear hi);have hcz16_0:w15.cell? ⟨Xk,0,none⟩=some (.int .i64 Zc):=(Yc Zo.out 0).trans rfl;have hcz16_1:w15.cell? ⟨Xk,1,none⟩=some (.bool Zb):=(Yc Zo.out 1).trans rfl;have hcz16_2:w15.cell? ⟨Xk,2,none⟩=some (.slice Ze Za.length Zd):=(Yc Zo.out 2).trans rfl;have hfz16_0:=Yf Zo.out 0;have hfz16_1:=Yf Zo.out 1;have hfz16_2:=Yf Zo.out 2)|(go_at_call 99;(with_reducible refine(ebbtideref06_Node.calls Zc Zb _ _ Za a2 true _ ?side1 ?side2 A8.out).mono ?_);(case side1=>repeat(first|exact(Yt Zl.out HB.out)|(with_reducible refine Kd.C_alloc ?_ _)|(with_reducible refine Kd.C_drewN ?_ _)|(with_reducible refine Kd.C_drew ?_)));(case side2=>exact Zv.out);rintro e w17 ⟨rfl,hb⟩;have n0_:=Ya (Yn (g:=Xk) (o:= .cells #[.int .i64 Zc, .bool Zb, .slice Ze Za.length Zd] 24 (0,0)) (by(with_reducible repeat(first|refine Yl ?_ _|refine Ym ?_|refine Yj ?_ _));exact Zo.out) hb);have n1_:=Ya (Yk (by repeat(first|(with_reducible first|exact HB.out|apply Ye|apply Yd|apply Yg|refine Yh ?_ Jx.out)|exact HB.out)) hb);clear Zo;clear HB;have Zo:=n0_;have HB:=n1_;clear n0_ n1_;(try clear hb);(try clear hb2);(try clear hk);(try clear hi)));go_ret;exact⟨by first|rfl|(simp[errW_none,errW_some]<;>rfl)|(simp[*,errW_none,errW_some]<;>rfl),by repeat(first|(with_reducible first|exact HB.out|apply Ye|apply Yd|apply Yg|refine Yh ?_ Jx.out)|exact HB.out)⟩
end P
namespace Q
open P
open H (endsErr)
theorem ends_ev (n:Int) (b:Bool) (l:List S74) (s t:Int):Ev (fun k=>static_Ends.f k n b l s t) (endsErr n l s t):=by
 unfold static_Ends.f endsErr;refine Ev.bind (check_ev n b l) ?_;refine Ev.ite (fun h=> ?_) (fun h=> ?_)
 ·rw[Yx h]
  refine Ev.ite (fun g=> ?_) (fun g=> ?_)
  ·exact Ev.done (by unfold mn at g;rw[Yy (by omega)])
  ·unfold mn at g
   refine Ev.ite (fun g2=> ?_) (fun g2=> ?_)
   ·exact Ev.done (by unfold mx at g2;rw[Yy (by omega)])
   ·unfold mx at g2
    refine Ev.ite (fun g3=> ?_) (fun g3=> ?_)
    ·exact Ev.done (by rw[Yy (by omega)])
    ·exact Ev.done (by rw[Yx (by omega)])
 ·rw[Yy h]
  exact Ev.now _
theorem ref_ends_ev (n:Int) (b:Bool) (l:List S74) (s t:Int):Ev (fun k=>ebbtideref07_Ends.f k n b l s t) (endsErr n l s t):=by
 unfold ebbtideref07_Ends.f endsErr;refine Ev.bind (ref_check_ev n b l) ?_;refine Ev.ite (fun h=> ?_) (fun h=> ?_)
 ·rw[Yx h]
  refine Ev.call (node_eq n b l s) ?_;refine Ev.ite (fun g=> ?_) (fun g=> ?_)
  ·have g:=Yu g
   refine Ev.call (node_eq n b l t) ?_;refine Ev.ite (fun g2=> ?_) (fun g2=> ?_)
   ·have g2:=Yu g2
    refine Ev.ite (fun g3=> ?_) (fun g3=> ?_)
    ·exact Ev.done (by rw[Yy (by omega)])
    ·exact Ev.done (by rw[Yx (by omega)])
   ·have g2:=of_decide_eq_false (Bool.eq_false_iff.2 g2)
    exact Ev.done (by rw[Yy (by omega)])
  ·have g:=of_decide_eq_false (Bool.eq_false_iff.2 g)
   exact Ev.done (by rw[Yy (by omega)])
 ·rw[Yy h]
  exact Ev.now _
end Q
namespace H
open P Q
theorem right_of {n:Int} {l:List S74} {F:List Int} (h:askErr n l F=0): ∃ n0:Nat,n=n0∧Right l F n0:=by
 obtain⟨hn,hf⟩:=askErr_ok h;have h1:=hn.lo;have h2:=hn.hi;obtain⟨n0,rfl⟩: ∃ n0:Nat,n=n0:=⟨n.toNat,by omega⟩;refine⟨n0,rfl,⟨by omega,by omega,hn.len,hf.len,fun i hi=> ?_,fun i hi=> ?_⟩⟩
 ·have ha:=hn.at_ (i:=(i:Int)) (by omega) (by omega)
  exact⟨⟨ha.f0,ha.h0⟩,⟨ha.f1,ha.h1⟩⟩
 ·have ha:=hn.at_ (i:=(i:Int)) (by omega) (by omega)
  have hb:=hf.at_ i (by rw[hf.len];exact hi);rw[rd_nat] at hb;exact⟨ha.f3,ha.h3,hb.1,hb.2,ha.h2⟩
end H
namespace Q
open P
open H (endsErr Right right_of)
theorem ends_zero {n:Int} {l:List S74} {s t:Int} (h:endsErr n l s t=0): ∃ n0 s0 t0:Nat,n=n0∧s=s0∧t=t0∧s0<n0∧t0<n0∧s0≠t0∧NetOk n0 l∧Right l (List.replicate l.length 0) n0:=by
 have hb:NetOk n l∧0≤s∧s<n∧0≤t∧t<n∧s≠t:=by
  unfold endsErr at h;by_cases hn:netErr n l=0
  ·rw[Yx hn] at h
   split at h
   ·rename_i he
    exact⟨netErr_ok hn,he⟩
   ·cases h
  ·rw[Yy hn] at h;exact absurd h hn
 obtain⟨hn,h1,h2,h3,h4,h5⟩:=hb;have hz:FlowOk l (List.replicate l.length 0):=by
  refine⟨by simp,fun i hi=> ?_⟩;rw[List.length_replicate] at hi;have ha:=(hn.at_ (i:=(i:Int)) (by omega) (by omega)).f2;rw[rd_nat,List.getD_eq_getElem?_getD,List.getElem?_replicate,Yx hi];exact⟨Int.le_refl _,ha⟩
 obtain⟨n0,rfl,hr⟩:=right_of (ask_of hn hz);exact⟨n0,s.toNat,t.toNat,rfl,by omega,by omega,by omega,by omega,by omega,hn,hr⟩
end Q
namespace H
open P Q
theorem max_same {l:List S74} {F G:List Int} {n s t:Nat} (h:MaxF l F n s t) (g:MaxF l G n s t) (hs:s<n) (hst:s≠t):bal l F s=bal l G s:=by
 have h1:=max_top h hs hst g.flow;have h2:=max_top g hs hst h.flow;omega
theorem zeros_of {l:List S74} {F:List Int} {n s t:Nat} (h:Right l F n):IsFlow l (List.replicate l.length 0) n s t∧bal l (List.replicate l.length 0) s=0:=
 zeros_flow h.pos h.fifty h.arcs h.ends (fun i hi=>by have:=h.nums i hi;exact⟨this.1,this.2.1,by omega,by omega⟩)
theorem fill_max {l:List S74} {F:List Int} {n s t:Nat} (hr:Right l F n) (hs:s<n) (ht:t<n) (hst:s≠t):MaxF l (fillF l n s t) n s t:=by
 obtain⟨h1,h2⟩:=zeros_of (s:=s) (t:=t) hr;exact refill_max hs ht hst 300000000 h1 (by omega)
theorem reach_in {l:List S74} {F:List Int} {n s:Nat} (hr:Right l F n) (hs:s<n) (R:Int→Bool) (h0:R s=true)
  (hR: ∀ e:S38,StepOf l e→0<stRoom l F e→R (stFrom l e)=true→R (stTo l e)=true) {v:Nat} (hv:v∈nodes (bfP l F n s)):R v=true:=by
 obtain⟨x,hx,rfl⟩:=List.mem_map.1 hv;have hu:=(bfP_upto hr hs).fds;have hl:=(backL_spec hu esP_fr _ hx (Nat.le_refl _)).2;have key: ∀ (L:List S38) (a b:Nat),Leads (toP l) (esP l F) a L b→R a=true→R b=true:=by
  intro L
  induction L with
  |nil=>intro a b h ha;have h:a=b:=h;rw[← h];exact ha
  |cons e L ih=>
   intro a b h ha;obtain⟨h1,h2⟩:=h;obtain⟨g1,g2⟩:=mem_esP.1 h1;refine ih _ _ h2 ?_;have hso:=stL_of g1;have hfr:=stL_from g1;have hto:=stTo_in hr hso;have:=hR e hso g2 (by rw[hfr];exact ha);unfold toP;rw[Int.toNat_of_nonneg hto.1];exact this
 exact key _ _ _ hl h0
theorem tight_of (R:Int→Bool): ∀ (l:List S74) (f:List Int),flowB l f=true→outR R l f=capR R l→Tightly R l f
 |[],[],_,_=>fun i hi=>by simp at hi
 |[],_::_,h,_=>by simp[flowB] at h
 |_::_,[],h,_=>by simp[flowB] at h
 |a::l,x::f,h,he=>by
  unfold flowB at h;split at h
  ·cases h
  ·split at h
   ·cases h
   ·have h1:=outR_le R l f h
    rw[outR_cons,capR_cons] at he;have ih:=fun g=>tight_of R l f h g
    intro i hi;cases i with
    |zero=>
     have e:rd_T74 (a::l) ((0:Nat):Int)=a:=rfl;rw[e];simp only[List.getD_cons_zero];cases h2:R a.f0<;>cases h3:R a.f1<;>rw[h2,h3] at he<;>simp at he ⊢ <;>omega
    |succ i=>
     have e:rd_T74 (a::l) ((i+1:Nat):Int)=rd_T74 l (i:Int):=by rw[rdArc_nat,rdArc_nat];rfl
     rw[e,List.getD_cons_succ];refine ih ?_ i (by simpa using hi);cases h2:R a.f0<;>cases h3:R a.f1<;>rw[h2,h3] at he<;>simp at he<;>omega
theorem tight_closed {l:List S74} {F:List Int} {n:Nat} {s t:Int} (h:IsFlow l F n s t) (R:Int→Bool) (hs:R s=true) (ht:R t=false) (h0:0≤s) (h1:s<n) (he:bal l F s=capR R l):
  ∀ e:S38,StepOf l e→0<stRoom l F e→R (stFrom l e)=true→R (stTo l e)=true:=by
 rw[← sumR_ends n hs ht h0 h1 h.keeps,sum_bal R n l F (ends_arcs h.right.ends) h.right.len] at he;have hT:=tight_of R l F h.right.flowB he;intro e hso hrm hf;obtain⟨i,hi,e2⟩:=hso;have hi2:=hT i hi;unfold stRoom at hrm;unfold stFrom at hf;unfold stTo;rw[e2] at hrm hf ⊢;rw[Int.toNat_natCast] at hrm;unfold eFrom eTo at hf ⊢;cases hb:e.f1<;>rw[hb] at hrm hf<;>simp only[Bool.false_eq_true,if_false,if_true] at hrm hf ⊢
 ·cases hc:R (rd_T74 l i).f1
  ·have:=hi2.1 hf hc;omega
  ·rfl
 ·cases hc:R (rd_T74 l i).f0
  ·have:=hi2.2 hc hf;omega
  ·rfl
theorem least_side {l:List S74} {F:List Int} {n s:Nat} {t:Int} (h:IsFlow l F n s t) (hs:s<n) (R:Int→Bool) (h0:R s=true) (ht:R t=false) (he:bal l F s=capR R l) {v:Nat} (hv:v∈nodes (bfP l F n s)):R v=true:=
 reach_in h.right hs R h0 (tight_closed h R h0 ht (by omega) (by omega) he) hv
theorem sideP_iff {l:List S74} {F:List Int} {n s v:Nat} :sideP l F n s v=true↔v∈nodes (bfP l F n s):=by
 unfold sideP;rw[decide_eq_true_eq,Int.toNat_natCast];exact⟨fun h=>h.2,fun h=>⟨by omega,h⟩⟩
theorem side_same {l:List S74} {F G:List Int} {n s t:Nat} (h:MaxF l F n s t) (g:MaxF l G n s t) (hs:s<n) (hst:s≠t) (v:Nat):v∈nodes (bfP l F n s)↔v∈nodes (bfP l G n s):=by
 have e:=max_same h g hs hst;obtain⟨h1,h2,h3⟩:=max_value h hs hst;obtain⟨g1,g2,g3⟩:=max_value g hs hst;constructor
 ·intro hv;exact sideP_iff.1 (least_side h.flow hs (sideP l G n s) g2 g3 (by omega) hv)
 ·intro hv;exact sideP_iff.1 (least_side g.flow hs (sideP l F n s) h2 h3 (by omega) hv)
end H
namespace H
open P
open Q (bal ends_zero)
theorem heap_k74:Kd.Heap k74:=Kd.heap_iso _ (Kd.heap_pair (Kd.heap_int _) (Kd.heap_pair (Kd.heap_int _) (Kd.heap_pair (Kd.heap_int _) (Kd.heap_int _))))
theorem made_ints (n:Nat) (hn:n≤500): ∀ W:World,(Instr.makeSlice 25 (.int .i64 (n:Int)) (.int .i64 (n:Int))).run Try.prog W= .ok (.slice (some ⟨W.heap.size,0,none⟩) n n) (W.alloc (.cells (nums .i64 (List.replicate n 0)).toArray 3)):=by
 intro W;rw[print_make 25 3 .i64 8 Try.underlying25 (by kernel_rfl) (by omega) n (by omega) W];have hl:(madeCells #[Value.int .i64 0] n)=(nums .i64 (List.replicate n 0)).toArray:=by
  apply Array.ext';apply List.ext_getElem
  ·simp[nums,madeCells]
  ·intro i h1 h2
   simp[nums,madeCells,Nat.mod_one]
 rw[hl]
section
variable {n0:Nat} {Zb:Bool} {A2:Option Addr} {c2:Nat} {l:List S74} {gF cF:Nat} {A4:Option Addr} {c4 gx gn B B':Nat} {vd:Value} {F:List Int} {nx:List Nat} {w w5 w7 wf:World}
theorem Fo.raise (h:Fo n0 Zb A2 c2 l gF cF A4 c4 gx gn B vd F nx w) (h1:B≤B') (h2:B'≤w.heap.size):Fo n0 Zb A2 c2 l gF cF A4 c4 gx gn B' vd F nx w:=by
 have hl:=h.low;exact⟨h.x,h.nx,h.fl,Kd.F_mono h.arcs (fun k hk=>⟨by omega,hk.2⟩),Kd.F_mono h.rows (fun k hk=>⟨by omega,hk.2⟩),h2,⟨by omega,by omega,by omega⟩,h.apart,h.ca,h.cf⟩
theorem Fo.made {base:Nat} {ok:Nat→Prop} (hb:Below w5.heap.size w5 wf) (hF:IsI w5 gF F) (ha:Kd.F k74 w5 (fun k=>k<w5.heap.size∧k≠gF) A2 l.length l) (hS:Kd.S (Kd.slice 38 k38) 34 w7 base ok (.slice A4 n0 c4) (rowsAt l n0 n0)) (hb7:Below w7.heap.size w7 wf) (hbase:w5.heap.size≤base)
  (hx:wf.heap[gx]? =some (.cells #[.int .i64 (n0:Int), .bool Zb, .slice A2 l.length c2, .slice (some ⟨gF,0,none⟩) F.length cF, .slice A4 n0 c4, .slice none 0 0, .slice (some ⟨gn,0,none⟩) n0 n0] 184 (0,0)))
  (hn:IsI wf gn (List.replicate n0 0)) (h1:w5.heap.size≤gn) (h2:w7.heap.size≤gx) (h3:gn≠gx) (h4:gn<base∨w7.heap.size≤gn) (h57:w5.heap.size≤w7.heap.size) (hca:l.length≤c2) (hcf:F.length≤cF):Fo n0 Zb A2 c2 l gF cF A4 c4 gx gn wf.heap.size (.slice none 0 0) F (List.replicate n0 0) wf:=by
 have hl5:=hF.lt;have hn2:=hn.lt;have hx2:=blk_lt hx;have hr:=Kd.F_below (Kd.S_F (Kd.S_bound hS)) hb7;refine⟨hx,by unfold nI;rw[List.map_replicate];exact hn,hF.below hb,Kd.F_mono (Kd.F_below ha hb) (fun k hk=> ?_),Kd.F_mono hr (fun k hk=> ?_),Nat.le_refl _,⟨hx2,hn2,?_⟩,⟨Ne.symm h3,by omega,by omega⟩,hca,hcf⟩
 ·have:=hb.size;exact⟨by omega,hk.2,by omega,by omega⟩
 ·have h5:=hk.2.1
  have h6:=hk.2.2.1;exact⟨by omega,by omega,by omega,by omega⟩
 ·have:=hb.size;omega
end
theorem refill_stop {l:List S74} {n s t k:Nat} {F:List Int} (h:(dOf n (bfP l F n s)).getD t 0<0):refillF l n s t (k+1) F=F:=by rw[refillF,Yx h]
theorem refill_go {l:List S74} {n s t k:Nat} {F:List Int} (h: ¬ (dOf n (bfP l F n s)).getD t 0<0):refillF l n s t (k+1) F=refillF l n s t k (phaseF l (dOf n (bfP l F n s)) s t 300000000 F (List.replicate n 0)):=by rw[refillF,Yy h]
def Rs (n0:Nat) (Zb:Bool) (A2:Option Addr) (c2:Nat) (l:List S74) (gF cF:Nat) (A4:Option Addr) (c4 gx gn:Nat) (s t:Nat) (R:List Int) (w w':World) (k:Nat):Prop:=
 ∃ (F:List Int) (nx:List Nat) (vd:Value) (B:Nat),IsFlow l F n0 s t∧0≤bal l F s∧nx.length=n0∧209715200<(k:Int)+bal l F s∧refillF l n0 s t k F=R∧Fo n0 Zb A2 c2 l gF cF A4 c4 gx gn B vd F nx w'∧Ks (fun b=>b=gx∨b=gF∨b=gn) w w'
set_option maxHeartbeats 20000000 in
set_option maxRecDepth 100000 in
theorem refill_calls (n0:Nat) (Zb:Bool) (A2:Option Addr) (c2:Nat) (l:List S74) (gF cF:Nat) (F:List Int) (s t:Nat) (w:World)
  (hf:IsFlow l F n0 s t) (hb0:0≤bal l F s) (hs:s<n0) (ht:t<n0) (hst:s≠t) (hF:IsI w gF F) (hcF:F.length≤cF) (ha:Kd.F k74 w (fun k=>k<w.heap.size∧k≠gF) A2 l.length l) (hca:l.length≤c2):
  Calls Try.prog 155 #[.agg #[.int .i64 (n0:Int), .bool Zb, .slice A2 l.length c2], .slice (some ⟨gF,0,none⟩) F.length cF, .int .i64 (s:Int), .int .i64 (t:Int)] w fun e w'=>e= .returned (.tuple #[])∧IsI w' gF (refillF l n0 s t 300000000 F)∧Ks (fun b=>b=gF) w w':=by
 have hu24:=Try.underlying24;have hu184:=Try.underlying184;have hn50:=hf.right.fifty;have hmk:=made_ints n0 (by omega);have HFL:=Ya hf;have HB0:=Ya hb0;have HIF:=Ya hF;have HCF:=Ya hcF;have HAF:=Ya ha;have HCA:=Ya hca;have hgF:=hF.lt;obtain⟨R,hR⟩: ∃ R,R=refillF l n0 s t 300000000 F:=⟨_,rfl⟩;rw[← hR];have HRR:=Ya hR;clear hf hb0 hF hcF ha hca hR;go_enter Try.func155,Try.ntmps155;go_upto_region 1 with (first|((with_reducible refine gate_dst (N:=4) rfl ?_);refine Yz ?hg (N:=4) ?hd (cs:= #[.int .i64 (n0:Int), .bool Zb, .slice A2 l.length c2]) (t:=24) ?hr ?_;(case hd=>rfl);(case hg=>rfl);(case hr=>first|(go_simp;done)|(go_simp;rfl));intro g4 hg4 w5 Zf hb;have B4:=Ya Zf;have HB:=Ya hb;have HG4:=Ya hg4;clear hg4 Zf hb)|fail)
 have h0:w5.cell? ⟨g4,0,none⟩=some (.int .i64 (n0:Int)):=(Yc B4.out 0).trans rfl;have h1:w5.cell? ⟨g4,1,none⟩=some (.bool Zb):=(Yc B4.out 1).trans rfl;have h2:w5.cell? ⟨g4,2,none⟩=some (.slice A2 l.length c2):=(Yc B4.out 2).trans rfl;have hsz:=HB.out.size;have HIF5:=Ya (HIF.out.below HB.out);have HAF5:Aside0 (Kd.F k74 w5 (fun k=>k<w5.heap.size∧k≠gF) A2 l.length l):=⟨Kd.F_mono (Kd.F_below HAF.out HB.out) (fun k hk=>⟨by omega,hk.2⟩)⟩;have HC5:=Ya (Kd.F_now HAF5.out);simp only[Act.put,List.setIfInBounds_toArray,List.set_cons_zero,List.set_cons_succ];go_cut [8] (fun v8 wx=> ∃ (gx gn:Nat) (A4:Option Addr) (c4:Nat),v8= .pointer (some ⟨gx,0,none⟩)∧Aside0 (Fo n0 Zb A2 c2 l gF cF A4 c4 gx gn wx.heap.size (.slice none 0 0) F (List.replicate n0 0) wx)∧Aside0 (Below w5.heap.size w5 wx)∧Aside0 (w5.heap.size≤gx∧w5.heap.size≤gn))
 case first=>
  go_region_held3 (fun w'=>w'.cell? ⟨g4,0,none⟩=some (.int .i64 (n0:Int))∧w'.cell? ⟨g4,1,none⟩=some (.bool Zb)∧w'.cell? ⟨g4,2,none⟩=some (.slice A2 l.length c2))
   (first|((try dsimp only);(refine⟨?_,?_,?_⟩)<;>first|(exact pw_cell_below (below_drew (Yo _ _)) (by assumption))|(exact pw_cell_below (Ye (Yo _ _) _) (by assumption))|(exact pw_cell_below hbr (by assumption))|(exact pw_cell_below (Ye (Yk (below_drew (Yo w5.heap.size w5)) hbr) _) (by assumption))|(exact pw_cell_below (Yk (below_drew (Ye (Yo w5.heap.size w5) _)) hbr) (by assumption))|(exact pw_cell_below (Yk (below_drew (Yo w5.heap.size w5)) hbr) (by assumption)))|go_keep)
   (first|(go_at_call 101;refine(at_calls n0 Zb A2 c2 l (some ⟨gF,0,none⟩) cF F.length _ ?hC HCA.out (by omega) (by omega) (by have:=HFL.out.right.arcs;omega) (fun k hk=>(HFL.out.right.ends k hk).1) (fun k hk=>(HFL.out.right.ends k hk).2)).mono ?_;(case hC=>first|exact HC5.out|exact Yt HC5.out (below_drew (Yo _ _))|exact Yt HC5.out (below_drew (Ye (Yo _ _) _)));rintro e_ w7 ⟨vr,rfl,hS,hbr⟩;obtain⟨A4,c4,ev⟩:=Kd.S_slice hS;subst ev;rw[rowsAt_len] at hS ⊢))
  ·go_wp2_with fail
   go_meet;have hbb:Below w5.heap.size w5 w7:=Yk (below_drew (Yo w5.heap.size w5)) hbr;have hsz7:=hbb.size;refine⟨w7.heap.size+1,w7.heap.size,A4,c4,rfl,⟨Fo.made (Ye (Ye hbb _) _) HIF5.out HAF5.out hS (Ye (Ye (Yo _ _) _) _) (by simp) ?_ (IsI.below (w:=w7.alloc (.cells (nums .i64 (List.replicate n0 0)).toArray 3)) (heap_alloc_new w7 _) (Ye (Yo _ _) _)) (by omega) (by omega) (by omega) (.inr (Nat.le_refl _)) (by omega) HCA.out HCF.out⟩,⟨Ye (Ye hbb _) _⟩,⟨by omega,by omega⟩⟩;have h_:=heap_alloc_new (w7.alloc (.cells (nums .i64 (List.replicate n0 0)).toArray 3)) (.cells #[.int .i64 (n0:Int), .bool Zb, .slice A2 l.length c2, .slice (some ⟨gF,0,none⟩) F.length cF, .slice A4 n0 c4, .slice none 0 0, .slice (some ⟨w7.heap.size,0,none⟩) n0 n0] 184);rw[show (w7.alloc (.cells (nums .i64 (List.replicate n0 0)).toArray 3)).heap.size=w7.heap.size+1 by simp] at h_;exact h_
  ·go_wp2_with fail
   go_meet;have hbb:Below w5.heap.size w5 w7:=Yk (below_drew (Ye (Yo w5.heap.size w5) _)) hbr;have hsz7:=hbr.size;rw[show (w5.alloc (.cells (nums .i64 (List.replicate n0 0)).toArray 3)).drew.heap.size=w5.heap.size+1 by simp] at hsz7;refine⟨w7.heap.size,w5.heap.size,A4,c4,rfl,⟨Fo.made (Ye hbb _) HIF5.out HAF5.out hS (Ye (Yo _ _) _) (by simp) (heap_alloc_new w7 _) (IsI.below (w:=w7) (IsI.below (w:=(w5.alloc (.cells (nums .i64 (List.replicate n0 0)).toArray 3)).drew) (IsI.below (w:=w5.alloc (.cells (nums .i64 (List.replicate n0 0)).toArray 3)) (heap_alloc_new w5 _) (below_drew (Yo _ _))) hbr) (Ye (Yo _ _) _)) (by omega) (by omega) (by omega) (.inl (by simp)) (by omega) HCA.out HCF.out⟩,⟨Ye hbb _⟩,⟨by omega,by omega⟩⟩
 case rest=>
  obtain⟨gx,gn,A4,c4,rfl,HFO,HBC,HGX⟩:=hcut;have HBW:Aside0 (Below w.heap.size w wc):=⟨Yk HB.out HBC.out⟩;have HGW:Aside0 (w.heap.size≤gx∧w.heap.size≤gn):=⟨by have:=HGX.out;omega⟩;clear h0 h1 h2 hmk HIF5 HAF5 HC5 HIF HAF HB HBC B4 HGX HG4 hsz;go_wp2_with fail;go_loopw [] (fun w'=> ∃ k,Rs n0 Zb A2 c2 l gF cF A4 c4 gx gn s t R wc w' k) (fun w'=>least (fun k=>Rs n0 Zb A2 c2 l gF cF A4 c4 gx gn s t R wc w' k))
  case atStart=>exact⟨300000000,F,List.replicate n0 0, .slice none 0 0,_,HFL.out,HB0.out,by simp,by have:=HB0.out;omega,HRR.out.symm,HFO.out,Ks.refl _ _⟩
  case round=>
   clear HFO;have hmin:=least_spec hrel;obtain⟨kk,hkk⟩: ∃ k_,k_=least (fun k=>Rs n0 Zb A2 c2 l gF cF A4 c4 gx gn s t R wc wr k):=⟨_,rfl⟩;rw[← hkk] at hmin;have HLE:=Ya hkk;clear hrel hkk;obtain⟨G,nx,vd,B,hgf,hg0,hnl,hgk,hgp,hF,hK⟩:=hmin;have hgt:=flow_top hgf hs hst;obtain⟨k,rfl⟩: ∃ k,kk=k+1:=⟨kk - 1,by omega⟩;have HGF:=Ya hgf;have HG0:=Ya hg0;have HGK:=Ya hgk;have HK:=Ya hK;have HFO:=Ya (hF.raise hF.size (Nat.le_refl _));clear hgf hg0 hgk hF hK hgt;by_cases hy:(dOf n0 (bfP l G n0 s)).getD t 0<0
   ·have hq:G=R:=by rw[← hgp,refill_stop hy]
    have HQ:=Ya hq;have HY:=Ya hy;clear hq hgp;obtain⟨b,hb⟩: ∃ b_,b_=(!decide ((dOf n0 (bfP l G n0 s)).getD t 0<0)):=⟨_,rfl⟩;have hbf:b=false:=by rw[hb,Yv hy];rfl
    have HBE:=Ya hb;clear hy hb;go_wp2_with (first|(go_at_call 168;refine(phase_calls n0 Zb A2 c2 l gF cF A4 c4 gx gn vd G s t nx _ HGF.out HG0.out hs ht hst hnl HFO.out).mono ?_;rintro e_ w8 ⟨vd',nx',rfl,hnl',hfo,hks⟩;rw[Yx HY.out] at hfo;rw[← HBE.out])|fail);refine bodyPost_end (results_none rfl _ _ _) rfl ⟨rfl,?_,?_⟩
    ·rw[← HQ.out];exact hfo.fl
    ·refine((Ks.of_below HBW.out (fun b=>b=gF)).trans (HK.out.trans hks (fun b hb _=>hb)) (fun b hb hlt=> ?_))
     have:=HGW.out;rcases hb with h_|h_|h_
     ·omega
     ·exact h_
     ·omega
   ·have hq:refillF l n0 s t k (phaseF l (dOf n0 (bfP l G n0 s)) s t 300000000 G (List.replicate n0 0))=R:=by rw[← hgp,refill_go hy]
    have HQ:=Ya hq;have HY:=Ya hy;obtain⟨m1,m2⟩:=phase_grows HGF.out hs ht hst (by omega) 299999999;have HM1:=Ya m1;have HM2:=Ya m2;clear hq hgp m1 m2;obtain⟨b,hb⟩: ∃ b_,b_=(!decide ((dOf n0 (bfP l G n0 s)).getD t 0<0)):=⟨_,rfl⟩;have hbf:b=true:=by rw[hb,Yw hy];rfl
    have HBE:=Ya hb;clear hy hb;go_wp2_with (first|(go_at_call 168;refine(phase_calls n0 Zb A2 c2 l gF cF A4 c4 gx gn vd G s t nx _ HGF.out HG0.out hs ht hst hnl HFO.out).mono ?_;rintro e_ w8 ⟨vd',nx',rfl,hnl',hfo,hks⟩;rw[Yy HY.out] at hfo;rw[← HBE.out];have HFN:=Ya hfo;have HKN:=Ya hks;clear hfo hks)|fail);have hRs:Rs n0 Zb A2 c2 l gF cF A4 c4 gx gn s t R wc w8 k:=by
     obtain⟨H,hH⟩: ∃ H_,H_=phaseF l (dOf n0 (bfP l G n0 s)) s t 300000000 G (List.replicate n0 0):=⟨_,rfl⟩;have q1:=HM1.out;have q2:=HM2.out;rw[show 299999999+1=300000000 from rfl, ← hH] at q1 q2;have q3:=HG0.out;have q4:=HGK.out;have q5:=HQ.out;have q6:=HFN.out;rw[← hH] at q5 q6;exact⟨H,nx',vd',_,q1,by omega,hnl',by omega,q5,q6,HK.out.trans HKN.out (fun b hb _=>hb)⟩
    go_roundw
    case rel=>exact⟨k,hRs⟩
    case measure=>exact least_lt hRs (by rw[← HLE.out];exact Nat.lt_succ_self k)
set_option maxHeartbeats 4000000 in
set_option maxRecDepth 100000 in
theorem maxflow_Fill_calls (Zc:Int) (Zb:Bool) (Ze:Option Addr) (Zd:Nat) (Za:List S74) (a1:Int) (a2:Int) (r:List Int) (w:World) (Zr:Kd.C k74 w Ze Za.length Za) (Zs:Za.length≤Zd) (h:(if endsErr Zc Za a1 a2=0 then some (fillF Za Zc.toNat a1.toNat a2.toNat) else none)=some r):
  Calls Try.prog 121 #[.agg #[.int .i64 Zc, .bool Zb, .slice Ze Za.length Zd], .int .i64 a1, .int .i64 a2] w fun e w'=> ∃ v0_:Value,e= .returned (v0_)∧Kd.R (Kd.int .i64) 3 w' w.heap.size (fun _=>True) v0_ r∧Below w.heap.size w w':=by
 by_cases he:endsErr Zc Za a1 a2=0
 ·rw[Yx he] at h
  injection h with h
  obtain⟨n0,s0,t0,rfl,rfl,rfl,hs,ht,hst,hn,hr⟩:=ends_zero he;simp only[Int.toNat_natCast] at h;have hM:=fill_max hr hs ht hst;have hlen:r.length=Za.length:=by rw[← h];exact hM.flow.right.len
  have HRE:=Ya h;have harc:=hr.arcs;have hmk:=made_ints Za.length (by omega);obtain⟨z1,z2⟩:=zeros_of (s:=s0) (t:=t0) hr;have HZ1:=Ya z1;have HZ2:=Ya z2;have H2:=Ya Zr;have HC2:=Ya Zs;clear z1 z2 h he hn hr hM Zr Zs;go_enter Try.func121,Try.ntmps121;go_upto_region 2 with (first|((with_reducible refine gate_dst (N:=3) rfl ?_);refine Yz ?hg (N:=3) ?hd (cs:= #[.int .i64 (n0:Int), .bool Zb, .slice Ze Za.length Zd]) (t:=24) ?hr ?_;(case hd=>rfl);(case hg=>rfl);(case hr=>first|(go_simp;done)|(go_simp;rfl));intro g4 hg4 w5 Zf hb;have B4:=Ya Zf;have HB:=Ya hb;clear hg4 Zf hb;have h2:w5.cell? ⟨g4,2,none⟩=some (.slice Ze Za.length Zd):=(Yc B4.out 2).trans rfl)|fail)
  have hIA:IsI (w5.alloc (.cells (nums .i64 (List.replicate Za.length 0)).toArray 3)) w5.heap.size (List.replicate Za.length 0):=heap_alloc_new w5 _;have HB6:Aside0 (Below w.heap.size w (w5.alloc (.cells (nums .i64 (List.replicate Za.length 0)).toArray 3))):=⟨Ye HB.out _⟩;have B6:Aside0 ((w5.alloc (.cells (nums .i64 (List.replicate Za.length 0)).toArray 3)).heap[g4]? =_):=⟨Yn B4.out (Ye (Yo _ _) _)⟩;have hgb:w.heap.size≤w5.heap.size:=HB.out.size;clear HB B4 h2 hmk;generalize w5.alloc (.cells (nums .i64 (List.replicate Za.length 0)).toArray 3)=w6 at *;generalize w5.heap.size=gF at *;have HIA:=Ya hIA;clear hIA;have h0:w6.cell? ⟨g4,0,none⟩=some (.int .i64 (n0:Int)):=(Yc B6.out 0).trans rfl;have h1:w6.cell? ⟨g4,1,none⟩=some (.bool Zb):=(Yc B6.out 1).trans rfl;have h2:w6.cell? ⟨g4,2,none⟩=some (.slice Ze Za.length Zd):=(Yc B6.out 2).trans rfl;have key:=refill_calls n0 Zb Ze Zd Za gF Za.length (List.replicate Za.length 0) s0 t0 w6 HZ1.out (by rw[HZ2.out];exact Int.le_refl _) hs ht hst HIA.out (by simp) (Kd.F_mono (Kd.F_below (Kd.C_F heap_k74 H2.out) (below_low (Nat.le_refl _) HB6.out)) (fun k hk=>⟨by have:=HB6.out.size;omega,by omega⟩)) HC2.out;rw[List.length_replicate] at key;have HKEY:=Ya key;clear key;go_wp2_with (first|(go_at_call 155;refine HKEY.out.mono ?_;rintro e_ w9 ⟨rfl,hI,hk⟩)|fail);go_ret;have hI2:IsI w9 gF r:=by rw[← HRE.out];exact hI
  have hR:=hI2.R (base:=w.heap.size) (ok:=fun _=>True) (by omega) hgb trivial;rw[hlen] at hR;exact⟨_,rfl,hR,hk.toBelow HB6.out HB6.out.size (fun b hb=>by have hb:b=gF:=hb;omega)⟩
 ·rw[Yy he] at h;cases h
end H
namespace P
attribute [local go_sem] max2_int min2_int max_two min_two max_three min_three max_four min_four
def maxflow_Fill.f (Zc:Int) (Zb:Bool) (Za:List (S74)) (a1:Int) (a2:Int):Option (List Int):=(if H.endsErr Zc Za a1 a2=0 then some (H.fillF Za Zc.toNat a1.toNat a2.toNat) else none)
theorem maxflow_Fill.calls (Zc:Int) (Zb:Bool) (Ze:Option Addr) (Zd:Nat) (Za:List (S74)) (a1:Int) (a2:Int) (r:List Int) (w:World) (Zr:Kd.C k74 w Ze Za.length Za) (Zs:Za.length≤Zd) (h:maxflow_Fill.f Zc Zb Za a1 a2=some r):
  Calls Try.prog 121 #[.agg #[.int .i64 Zc, .bool Zb, .slice Ze Za.length Zd], .int .i64 a1, .int .i64 a2] w fun e w'=> ∃ v0_:Value,e= .returned (v0_)∧Kd.R (Kd.int .i64) 3 w' w.heap.size (fun _=>True) v0_ r∧Below w.heap.size w w':=H.maxflow_Fill_calls Zc Zb Ze Zd Za a1 a2 r w Zr Zs h
end P
namespace P
attribute [local go_sem] max2_int min2_int max_two min_two max_three min_three max_four min_four
def ebbtideref08_found_has.l0:Nat→Int→Int→List Int→List (S38)→Option (Int)
 |0,_,_,_,_=>none
 |k+1,x1,x5,x448000,x448001=>if x5<(x448000.length:Int) then(if 0≤x5 then(if (rd x448000 x5)=x1 then(some x5) else(ebbtideref08_found_has.l0 k x1 (wrap64 (x5+1)) x448000 x448001)) else(none)) else(some (-1))
def ebbtideref08_found_has.f (k:Nat) (l0_0:List Int) (l0_1:List (S38)) (a1:Int):Option (Int):=ebbtideref08_found_has.l0 k a1 0 l0_0 l0_1
set_option maxHeartbeats 8000000 in
set_option maxRecDepth 100000 in
theorem ebbtideref08_found_has.calls (k:Nat) (A0_0:Option Addr) (c0_0:Nat) (l0_0:List Int) (A0_1:Option Addr) (c0_1:Nat) (l0_1:List (S38)) (a1:Int) (r:Int) (w:World) (hr0_0:Kd.C (Kd.int .i64) w A0_0 l0_0.length l0_0) (hc0_0:l0_0.length≤c0_0) (hr0_1:Kd.C k38 w A0_1 l0_1.length l0_1) (hc0_1:l0_1.length≤c0_1) (h:ebbtideref08_found_has.f k l0_0 l0_1 a1=some r):
  Calls Try.prog 147 #[.agg #[.slice A0_0 l0_0.length c0_0, .slice A0_1 l0_1.length c0_1], .int .i64 a1] w fun e w'=>e= .returned (.int .i64 r)∧Below w.heap.size w w':=by
 have hu161:=Try.underlying161;have HR0_0:=Ya hr0_0;have HC0_0:=Ya hc0_0;clear hr0_0 hc0_0;have HR0_1:=Ya hr0_1;have HC0_1:=Ya hc0_1;clear hr0_1 hc0_1;have HB:=Ya (Yo w.heap.size w);have H:(ebbtideref08_found_has.l0 k a1 0 l0_0 l0_1)=some r:=h;clear h;have H':=Ya H;clear H;go_enter Try.func147,Try.ntmps147;go_wp2_with (first|((with_reducible refine gate_dst (N:=2) rfl ?_);refine Yz ?hg (N:=2) ?hd (cs:= #[.slice A0_0 l0_0.length c0_0, .slice A0_1 l0_1.length c0_1]) (t:=161) ?hr ?_;(case hd=>rfl);(case hg=>rfl);(case hr=>first|(go_simp;done)|(go_simp;rfl));intro gb447 hg w3 Zf hb;have n0_:=Ya (Yk (by repeat(first|(with_reducible first|exact HB.out|apply Ye|apply Yd|apply Yg)|exact HB.out)) hb);have n1_:=Ya (Zf);have n2_:=Ya ((by rw[hg];exact(Yi (by repeat(first|(with_reducible first|exact HB.out|apply Ye|apply Yd|apply Yg)|exact HB.out))):w.heap.size≤gb447));have n3_:=Ya ((by rw[hg];exact(Yi (by repeat(first|(with_reducible first|exact HB.out|apply Ye|apply Yd|apply Yg)|exact HB.out))):w.heap.size≤gb447));clear HB;have HB:=n0_;have BK447:=n1_;have GW447:=n2_;have GE447:=n3_;clear n0_ n1_ n2_ n3_;clear hb Zf hg));go_loopg [5] k (fun kq v5 w'=> ∃ (Zt:Int),v5= .int .i64 Zt∧Aside0 (ebbtideref08_found_has.l0 kq a1 Zt l0_0 l0_1=some r)∧Aside0 (kq≤k)∧Aside0 (w'.heap[gb447]? =some (.cells #[(.slice A0_0 l0_0.length c0_0),(.slice A0_1 l0_1.length c0_1)] 161 (0,0)))∧Aside0 (Below w.heap.size w w'))
 case atStart=>exact⟨(0),(by first|rfl|(simp;done)|(simp[*];done)),H',⟨Nat.le_refl _⟩,⟨by(with_reducible repeat(first|refine Yl ?_ _|refine Ym ?_|refine Yj ?_ _));exact BK447.out⟩,⟨by repeat(first|(with_reducible first|exact HB.out|apply Ye|apply Yd|apply Yg|refine Yh ?_ GE447.out)|exact HB.out)⟩⟩
 case round=>
  clear H';try clear c1
  try clear p2
  obtain⟨Zt,rfl,HA,HK1,BK447,HB⟩:=hrel;cases gk with
  |zero=>exact absurd HA.out (by simp[ebbtideref08_found_has.l0])
  |succ k1=>
   have H:=HA.out;clear HA;simp only[ebbtideref08_found_has.l0] at H;by_cases c4:Zt<(l0_0.length:Int)
   rotate_left
   ·rw[Yy c4] at H
    have c4b0:decide (Zt<(l0_0.length:Int))=false:=Yw c4;clear c4;obtain rfl:=Option.some.inj H;have hcz9_0:wr.cell? ⟨gb447,0,none⟩=some (.slice A0_0 l0_0.length c0_0):=(Yc BK447.out 0).trans rfl;have hcz9_1:wr.cell? ⟨gb447,1,none⟩=some (.slice A0_1 l0_1.length c0_1):=(Yc BK447.out 1).trans rfl;have hfz9_0:=Yf BK447.out 0;have hfz9_1:=Yf BK447.out 1;go_wp2;go_ret;exact⟨by first|rfl|(simp[errW_none,errW_some]<;>rfl)|(simp[*,errW_none,errW_some]<;>rfl),by repeat(first|(with_reducible first|exact HB.out|apply Ye|apply Yd|apply Yg|refine Yh ?_ GE447.out)|exact HB.out)⟩
   rw[Yx c4] at H;have c4b0:decide (Zt<(l0_0.length:Int))=true:=Yv c4;clear c4;by_cases c5:0≤Zt
   rotate_left
   ·rw[Yy c5] at H
    exact absurd H (by simp)
   rw[Yx c5] at H;have c5b0:decide (0≤Zt)=true:=Yv c5;clear c5;by_cases c6:(rd l0_0 Zt)=a1
   ·rw[Yx c6] at H
    have c6b0:((rd l0_0 Zt) == a1)=true:=beq_iff_eq.mpr c6;have c6b1:((rd l0_0 Zt) != a1)=false:=bne_eq_false_iff_eq.mpr c6;clear c6;obtain rfl:=Option.some.inj H;have hcz7_0:wr.cell? ⟨gb447,0,none⟩=some (.slice A0_0 l0_0.length c0_0):=(Yc BK447.out 0).trans rfl;have hcz7_1:wr.cell? ⟨gb447,1,none⟩=some (.slice A0_1 l0_1.length c0_1):=(Yc BK447.out 1).trans rfl;have hfz7_0:=Yf BK447.out 0;have hfz7_1:=Yf BK447.out 1;have p448:0≤(Zt:Int):=Yu (by first|(with_reducible assumption)|assumption);have q448:Zt<(l0_0.length:Int):=Yu (by first|(with_reducible assumption)|assumption);obtain⟨ad448,e448,hx448_0⟩:=Kd.at_int HR0_0.out Zt p448 q448;cases e448;replace hx448_0:=(HB.out.cell (Yb w _ hx448_0)).trans hx448_0;replace p448:=eq_true p448;replace q448:=eq_true q448;go_wp2;go_ret;exact⟨by first|rfl|(simp[errW_none,errW_some]<;>rfl)|(simp[*,errW_none,errW_some]<;>rfl),by repeat(first|(with_reducible first|exact HB.out|apply Ye|apply Yd|apply Yg|refine Yh ?_ GE447.out)|exact HB.out)⟩
   rw[Yy c6] at H;have c6b0:((rd l0_0 Zt) == a1)=false:=beq_eq_false_iff_ne.mpr c6;have c6b1:((rd l0_0 Zt) != a1)=true:=bne_iff_ne.mpr c6;have H':=Ya H;clear H;have hcz8_0:wr.cell? ⟨gb447,0,none⟩=some (.slice A0_0 l0_0.length c0_0):=(Yc BK447.out 0).trans rfl;have hcz8_1:wr.cell? ⟨gb447,1,none⟩=some (.slice A0_1 l0_1.length c0_1):=(Yc BK447.out 1).trans rfl;have hfz8_0:=Yf BK447.out 0;have hfz8_1:=Yf BK447.out 1;have p448:0≤(Zt:Int):=Yu (by first|(with_reducible assumption)|assumption);have q448:Zt<(l0_0.length:Int):=Yu (by first|(with_reducible assumption)|assumption);obtain⟨ad448,e448,hx448_0⟩:=Kd.at_int HR0_0.out Zt p448 q448;cases e448;replace hx448_0:=(HB.out.cell (Yb w _ hx448_0)).trans hx448_0;replace p448:=eq_true p448;replace q448:=eq_true q448;go_wp2;go_roundg k1
   case measure=>have:=HK1.out;omega
   case rel=>exact⟨(wrap64 (Zt+1)),(by first|rfl|(simp;done)|(simp[*];done)),H',⟨by have:=HK1.out;omega⟩,⟨by(with_reducible repeat(first|refine Yl ?_ _|refine Ym ?_|refine Yj ?_ _));exact BK447.out⟩,⟨by repeat(first|(with_reducible first|exact HB.out|apply Ye|apply Yd|apply Yg|refine Yh ?_ GE447.out)|exact HB.out)⟩⟩
end P
namespace P
attribute [local go_sem] max2_int min2_int max_two min_two max_three min_three max_four min_four
mutual
def ebbtideref08_sought.l0:Nat→List (S38)→Int→Int→Bool→List (S74)→List Int→List (S38)→Option (List Int × (List (S38)))
 |0,_,_,_,_,_,_,_=>none
 |k+1,x2,x8,x450000,x450001,x450002,x452000,x452001=>if x8<(x452000.length:Int) then(ebbtideref08_sought.l1 k x2 x8 0 x450000 x450001 x450002 x452000 x452001) else(some (x452000,x452001))
def ebbtideref08_sought.l1:Nat→List (S38)→Int→Int→Int→Bool→List (S74)→List Int→List (S38)→Option (List Int × (List (S38)))
 |0,_,_,_,_,_,_,_,_=>none
 |k+1,x2,x8,x9,x450000,x450001,x450002,x452000,x452001=>if x9<(x2.length:Int) then(if 0≤x9 then((ebbtideref07_From.f x450000 x450001 x450002 ((rd_T38 x2 x9).f0) ((rd_T38 x2 x9).f1)).bind fun t459=>(if 0≤x8 then(if x8<(x452000.length:Int) then(if t459=(rd x452000 x8) then((ebbtideref07_To.f x450000 x450001 x450002 ((rd_T38 x2 x9).f0) ((rd_T38 x2 x9).f1)).bind fun t462=>((ebbtideref08_found_has.f k x452000 x452001 t462).bind fun t463=>(if t463<0 then((ebbtideref07_To.f x450000 x450001 x450002 ((rd_T38 x2 x9).f0) ((rd_T38 x2 x9).f1)).bind fun t465=>(if x452000.length<17592186044416 then(if x452001.length<8796093022208 then(ebbtideref08_sought.l1 k x2 x8 (wrap64 (x9+1)) x450000 x450001 x450002 (x452000 ++ [t465]) (x452001 ++ [(⟨(rd_T38 x2 x9).f0,(rd_T38 x2 x9).f1⟩:S38)])) else(none)) else(none))) else(ebbtideref08_sought.l1 k x2 x8 (wrap64 (x9+1)) x450000 x450001 x450002 x452000 x452001)))) else(ebbtideref08_sought.l1 k x2 x8 (wrap64 (x9+1)) x450000 x450001 x450002 x452000 x452001)) else(none)) else(none))) else(none)) else(ebbtideref08_sought.l0 k x2 (wrap64 (x8+1)) x450000 x450001 x450002 x452000 x452001)
end
def ebbtideref08_sought.f (k:Nat) (Zc:Int) (Zb:Bool) (Za:List (S74)) (a1:Int) (l2:List (S38)):Option (List Int × (List (S38))):=if ([]:List Int).length<17592186044416 then(if ([]:List (S38)).length<8796093022208 then(ebbtideref08_sought.l0 k l2 0 Zc Zb Za (([]:List Int) ++ [a1]) (([]:List (S38)) ++ [(⟨0,false⟩:S38)])) else(none)) else(none)
def ebbtideref08_sought.T10:Bool × List (List Nat × List Nat):=(true,[([],[]),([],[]),([],[]),([1,2],[1,2]),([3],[3]),([0,4],[0,4]),([],[]),([6],[6]),([],[]),([7,8],[7,8]),([9],[9]),([5,10],[5,10]),([11,5],[11]),([12],[12]),([12],[12]),([12],[12]),([12],[12]),([15,16,12],[12,15,16]),([17,12],[12,17]),([14,18,12,12],[12,14,18]),([13,19,19,12],[12,13,19]),([20,12],[12,20]),([12,21],[12,21])])
def ebbtideref08_sought.B10:List Nat:=[0,0,0,6,14,31,0,64,0,448,960,2047,4095,8191,8191,8191,8191,106495,237567,516095,1048575,2097151,4194303]
theorem ebbtideref08_sought.tab10:rtab .any (opsOf Try.f146 10)=ebbtideref08_sought.T10:=by kernel_rfl
theorem ebbtideref08_sought.bits10:waitsOk ebbtideref08_sought.T10.2 ebbtideref08_sought.B10=true:=by kernel_rfl
def ebbtideref08_sought.T11:Bool × List (List Nat × List Nat):=(true,[([],[]),([0],[0]),([],[]),([],[]),([],[]),([3,4],[3,4]),([5],[5]),([2,6],[2,6]),([7],[7]),([1,8,7],[1,8]),([0,1,2,3,4,5,6,7,8,9],[]),([10,9,9,0,1,2,3,4,5,6,7,8,9],[9,10])])
def ebbtideref08_sought.B11:List Nat:=[0,1,0,0,0,24,56,124,252,511,1023,2047]
theorem ebbtideref08_sought.tab11:rtab .any (opsOf Try.f146 11)=ebbtideref08_sought.T11:=by kernel_rfl
theorem ebbtideref08_sought.bits11:waitsOk ebbtideref08_sought.T11.2 ebbtideref08_sought.B11=true:=by kernel_rfl
def ebbtideref08_sought.T12:Bool × List (List Nat × List Nat):=(true,[([],[]),([0],[0]),([],[]),([],[]),([2,3],[2,3]),([4],[4]),([5],[5]),([1,6],[1,6]),([0,1,2,3,4,5,6,7],[]),([8,7,7,0,1,2,3,4,5,6,7],[7,8])])
def ebbtideref08_sought.B12:List Nat:=[0,1,0,0,12,28,60,127,255,511]
theorem ebbtideref08_sought.tab12:rtab .any (opsOf Try.f146 12)=ebbtideref08_sought.T12:=by kernel_rfl
theorem ebbtideref08_sought.bits12:waitsOk ebbtideref08_sought.T12.2 ebbtideref08_sought.B12=true:=by kernel_rfl
set_option maxHeartbeats 8000000 in
set_option maxRecDepth 100000 in
theorem ebbtideref08_sought.calls (k:Nat) (Zc:Int) (Zb:Bool) (Ze:Option Addr) (Zd:Nat) (Za:List (S74)) (a1:Int) (A2:Option Addr) (c2:Nat) (l2:List (S38)) (r1:List Int) (r2:List (S38)) (w:World) (Zr:Kd.C k74 w Ze Za.length Za) (Zs:Za.length≤Zd) (hr2:Kd.C k38 w A2 l2.length l2) (hc2:l2.length≤c2) (h:ebbtideref08_sought.f k Zc Zb Za a1 l2=some (r1,r2)):
  Calls Try.prog 146 #[.agg #[.int .i64 Zc, .bool Zb, .slice Ze Za.length Zd], .int .i64 a1, .slice A2 l2.length c2] w fun e w'=> ∃ v0_ v1_:Value,e= .returned (.agg #[v0_,v1_])∧Kd.R (Kd.int .i64) 3 w' w.heap.size (fun _=>True) v0_ r1∧Kd.R k38 38 w' w.heap.size (fun _=>True) v1_ r2∧Below w.heap.size w w':=by
 have hu24:=Try.underlying24;have hu161:=Try.underlying161;have hu38:=Try.underlying38;have Zl:=Ya Zr;have Zv:=Ya Zs;clear Zr Zs;have HR2:=Ya hr2;have HC2:=Ya hc2;clear hr2 hc2;have HB:=Ya (Yo w.heap.size w);have H:(if ([]:List Int).length<17592186044416 then(if ([]:List (S38)).length<8796093022208 then(ebbtideref08_sought.l0 k l2 0 Zc Zb Za (([]:List Int) ++ [a1]) (([]:List (S38)) ++ [(⟨0,false⟩:S38)])) else(none)) else(none))=some (r1,r2):=h;clear h;by_cases c4:([]:List Int).length<17592186044416
 rotate_left
 ·rw[Yy c4] at H
  exact absurd H (by simp)
 rw[Yx c4] at H;have LMc4:=Ya c4;clear c4;obtain⟨y452,hy452⟩: ∃ y_:List Int,y_=(([]:List Int) ++ [a1]):=⟨_,rfl⟩;replace H:(if ([]:List (S38)).length<8796093022208 then(ebbtideref08_sought.l0 k l2 0 Zc Zb Za y452 (([]:List (S38)) ++ [(⟨0,false⟩:S38)])) else(none))=some (r1,r2):=by first|(rw[hy452];with_reducible exact H)|(have H2_:=(Option.bind_some _ _).symm.trans H;rw[hy452];with_reducible exact H2_)|(have H2_:=(Option.bind_some _ _).symm.trans H;with_reducible exact H2_)|with_reducible exact H|(rw[hy452];exact H)|exact H
 have Ny452:=Ya hy452;clear hy452;by_cases c5:([]:List (S38)).length<8796093022208
 rotate_left
 ·rw[Yy c5] at H
  exact absurd H (by simp)
 rw[Yx c5] at H;have LMc5:=Ya c5;clear c5;obtain⟨y455,hy455⟩: ∃ y_:List (S38),y_=(([]:List (S38)) ++ [(⟨0,false⟩:S38)]):=⟨_,rfl⟩;replace H:(ebbtideref08_sought.l0 k l2 0 Zc Zb Za y452 y455)=some (r1,r2):=by first|(rw[hy455];with_reducible exact H)|(have H2_:=(Option.bind_some _ _).symm.trans H;rw[hy455];with_reducible exact H2_)|(have H2_:=(Option.bind_some _ _).symm.trans H;with_reducible exact H2_)|with_reducible exact H|(rw[hy455];exact H)|exact H
 have Ny455:=Ya hy455;clear hy455;have H':=Ya H;clear H;go_enter Try.func146,Try.ntmps146;go_wp2_with (first|((with_reducible refine gate_dst (N:=3) rfl ?_);refine Yz ?hg (N:=3) ?hd (cs:= #[.int .i64 Zc, .bool Zb, .slice Ze Za.length Zd]) (t:=24) ?hr ?_;(case hd=>rfl);(case hg=>rfl);(case hr=>first|(go_simp;done)|(go_simp;rfl));intro Wl hg w6 Zf hb;have n0_:=Ya (Yk (by repeat(first|(with_reducible first|exact HB.out|apply Ye|apply Yd|apply Yg)|exact HB.out)) hb);have n1_:=Ya (Zf);have n2_:=Ya ((by rw[hg];exact(Yi (by repeat(first|(with_reducible first|exact HB.out|apply Ye|apply Yd|apply Yg)|exact HB.out))):w.heap.size≤Wl));have n3_:=Ya ((by rw[hg];exact(Yi (by repeat(first|(with_reducible first|exact HB.out|apply Ye|apply Yd|apply Yg)|exact HB.out))):w.heap.size≤Wl));clear HB;have HB:=n0_;have Zm:=n1_;have GW449:=n2_;have Ve:=n3_;clear n0_ n1_ n2_ n3_;clear hb Zf hg)|((with_reducible refine gate_dst (N:=6) rfl ?_);refine Yz ?hg (N:=6) ?hd (cs:= #[.slice none 0 0, .slice none 0 0]) (t:=161) ?hr ?_;(case hd=>rfl);(case hg=>rfl);(case hr=>first|(go_simp;done)|(go_simp;rfl));intro Vd hg w7 Zf hb;have n0_:=Ya (Yn (g:=Wl) (o:= .cells #[.int .i64 Zc, .bool Zb, .slice Ze Za.length Zd] 24 (0,0)) (by(with_reducible repeat(first|refine Yl ?_ _|refine Ym ?_|refine Yj ?_ _));exact Zm.out) hb);have n1_:=Ya (Yk (by repeat(first|(with_reducible first|exact HB.out|apply Ye|apply Yd|apply Yg|refine Yh ?_ Ve.out)|exact HB.out)) hb);have n2_:=Ya (Zf);have n3_:=Ya ((by rw[hg];exact(Yi (by repeat(first|(with_reducible first|exact HB.out|apply Ye|apply Yd|apply Yg|refine Yh ?_ Ve.out)|exact HB.out))):w.heap.size≤Vd));have n4_:=Ya ((by rw[hg];exact(Yi (by repeat(first|(with_reducible first|exact HB.out|apply Ye|apply Yd|apply Yg|refine Yh ?_ Ve.out)|exact HB.out))):w.heap.size≤Vd));have n5_:=Ya ((by rw[hg];exact Nat.ne_of_lt (blk_lt (g:=Wl) (o:= .cells #[.int .i64 Zc, .bool Zb, .slice Ze Za.length Zd] 24 (0,0)) (by(with_reducible repeat(first|refine Yl ?_ _|refine Ym ?_|refine Yj ?_ _));exact Zm.out)):Wl≠Vd));have n6_:=Ya ((by rw[hg];exact Nat.ne_of_gt (blk_lt (g:=Wl) (o:= .cells #[.int .i64 Zc, .bool Zb, .slice Ze Za.length Zd] 24 (0,0)) (by(with_reducible repeat(first|refine Yl ?_ _|refine Ym ?_|refine Yj ?_ _));exact Zm.out)):Vd≠Wl));clear Zm;clear HB;have Zm:=n0_;have HB:=n1_;have Xa:=n2_;have GW450:=n3_;have Ub:=n4_;have NB449_450:=n5_;have NB450_449:=n6_;clear n0_ n1_ n2_ n3_ n4_ n5_ n6_;clear hb Zf hg)|((with_reducible refine gate_dst (N:=7) rfl ?_);refine Yz ?hg (N:=7) ?hd (cs:= #[.slice none 0 0, .slice none 0 0]) (t:=161) ?hr ?_;(case hd=>rfl);(case hg=>rfl);(case hr=>first|(go_simp;done)|(go_simp;rfl));intro Xo hg w8 Zf hb;have n0_:=Ya (Yn (g:=Wl) (o:= .cells #[.int .i64 Zc, .bool Zb, .slice Ze Za.length Zd] 24 (0,0)) (by(with_reducible repeat(first|refine Yl ?_ _|refine Ym ?_|refine Yj ?_ _));exact Zm.out) hb);have n1_:=Ya (Yn (g:=Vd) (o:= .cells #[.slice none 0 0, .slice none 0 0] 161 (0,0)) (by(with_reducible repeat(first|refine Yl ?_ _|refine Ym ?_|refine Yj ?_ _));exact Xa.out) hb);have n2_:=Ya (Yk (by repeat(first|(with_reducible first|exact HB.out|apply Ye|apply Yd|apply Yg|refine Yh ?_ Ve.out|refine Yh ?_ Ub.out)|exact HB.out)) hb);have n3_:=Ya (Zf);have n4_:=Ya ((by rw[hg];exact(Yi (by repeat(first|(with_reducible first|exact HB.out|apply Ye|apply Yd|apply Yg|refine Yh ?_ Ve.out|refine Yh ?_ Ub.out)|exact HB.out))):w.heap.size≤Xo));have n5_:=Ya ((by rw[hg];exact(Yi (by repeat(first|(with_reducible first|exact HB.out|apply Ye|apply Yd|apply Yg|refine Yh ?_ Ve.out|refine Yh ?_ Ub.out)|exact HB.out))):w.heap.size≤Xo));have n6_:=Ya ((by rw[hg];exact Nat.ne_of_lt (blk_lt (g:=Wl) (o:= .cells #[.int .i64 Zc, .bool Zb, .slice Ze Za.length Zd] 24 (0,0)) (by(with_reducible repeat(first|refine Yl ?_ _|refine Ym ?_|refine Yj ?_ _));exact Zm.out)):Wl≠Xo));have n7_:=Ya ((by rw[hg];exact Nat.ne_of_gt (blk_lt (g:=Wl) (o:= .cells #[.int .i64 Zc, .bool Zb, .slice Ze Za.length Zd] 24 (0,0)) (by(with_reducible repeat(first|refine Yl ?_ _|refine Ym ?_|refine Yj ?_ _));exact Zm.out)):Xo≠Wl));have n8_:=Ya ((by rw[hg];exact Nat.ne_of_lt (blk_lt (g:=Vd) (o:= .cells #[.slice none 0 0, .slice none 0 0] 161 (0,0)) (by(with_reducible repeat(first|refine Yl ?_ _|refine Ym ?_|refine Yj ?_ _));exact Xa.out)):Vd≠Xo));have n9_:=Ya ((by rw[hg];exact Nat.ne_of_gt (blk_lt (g:=Vd) (o:= .cells #[.slice none 0 0, .slice none 0 0] 161 (0,0)) (by(with_reducible repeat(first|refine Yl ?_ _|refine Ym ?_|refine Yj ?_ _));exact Xa.out)):Xo≠Vd));clear Zm;clear Xa;clear HB;have Zm:=n0_;have Xa:=n1_;have HB:=n2_;have Zj:=n3_;have GW451:=n4_;have Ux:=n5_;have Js:=n6_;have NB451_449:=n7_;have Jt:=n8_;have NB451_450:=n9_;clear n0_ n1_ n2_ n3_ n4_ n5_ n6_ n7_ n8_ n9_;clear hb Zf hg;have hnb9:=NB451_449.out;have hnc9:=Js.out;have hnb10:=NB451_450.out;have hnc10:=Jt.out;have hcz11_0:w8.cell? ⟨Xo,0,none⟩=some (.slice none 0 0):=(Yc Zj.out 0).trans rfl;have hcz11_1:w8.cell? ⟨Xo,1,none⟩=some (.slice none 0 0):=(Yc Zj.out 1).trans rfl;have hfz11_0:=Yf Zj.out 0;have hfz11_1:=Yf Zj.out 1)|((with_reducible refine gate_builtin (b:= .append) (xs:= #[.tmp 11, .tmp 13]) rfl ?_);at_builtin;refine Kd.R_append (Kd.int .i64) (w0:=w) w.heap.size rfl (.tmp 11) (.tmp 13) 25 3 (.int .i64 0) 8 rfl Try.underlying25 info3 rfl (by decide) (by omega) (.slice none 0 0) ([]:List Int) a1 [.int .i64 a1] (fun _=>True) (fun _=>False) rfl rfl ?aP (fun _ hk=>hk.elim) ?aF ?aO ?aB ?aS ?aL ?_;(case aP=>exact rfl);(case aB=>exact(by repeat(first|(with_reducible first|exact HB.out|apply Ye|apply Yd|apply Yg|refine Yh ?_ Ve.out|refine Yh ?_ Ub.out|refine Yh ?_ Ux.out)|exact HB.out)));(case aF=>exact(fun _ _=>trivial));(case aO=>exact((Kd.R_nil _ _ _ _ (fun _=>True))));(case aS=>exact(Yi (by repeat(first|(with_reducible first|exact HB.out|apply Ye|apply Yd|apply Yg|refine Yh ?_ Ve.out|refine Yh ?_ Ub.out|refine Yh ?_ Ux.out)|exact HB.out))));(case aL=>have:=LMc4.out;omega);intro v453 w12 ho hb hg hat;rw[← Ny452.out] at ho;have n0_:=Ya (blk_grown (g:=Wl) (o:= .cells #[.int .i64 Zc, .bool Zb, .slice Ze Za.length Zd] 24 (0,0)) (by(with_reducible repeat(first|refine Yl ?_ _|refine Ym ?_|refine Yj ?_ _));exact Zm.out) hg (by simp[Value.ownBlock]));have n1_:=Ya (blk_grown (g:=Vd) (o:= .cells #[.slice none 0 0, .slice none 0 0] 161 (0,0)) (by(with_reducible repeat(first|refine Yl ?_ _|refine Ym ?_|refine Yj ?_ _));exact Xa.out) hg (by simp[Value.ownBlock]));have n2_:=Ya (blk_grown (g:=Xo) (o:= .cells #[.slice none 0 0, .slice none 0 0] 161 (0,0)) (by(with_reducible repeat(first|refine Yl ?_ _|refine Ym ?_|refine Yj ?_ _));exact Zj.out) hg (by simp[Value.ownBlock]));have n3_:=Ya (hb);have n4_:=Ya (ho);clear Zm;clear Xa;clear Zj;clear HB;have Zm:=n0_;have Xa:=n1_;have Zj:=n2_;have HB:=n3_;have HO454:=n4_;clear n0_ n1_ n2_ n3_ n4_;clear ho hb hg hat;obtain⟨Ao13,co13,eo13⟩:=Kd.R_slice HO454.out;subst eo13;have Ug:w12.cell? ⟨Xo,0,none⟩=some (.slice none 0 0):=(Yc Zj.out 0).trans rfl;have Uh:w12.cell? ⟨Xo,1,none⟩=some (.slice none 0 0):=(Yc Zj.out 1).trans rfl;have Ui:=Yf Zj.out 0;have Uj:=Yf Zj.out 1)|((with_reducible refine gate_builtin (b:= .append) (xs:= #[.tmp 17, .tmp 19]) rfl ?_);at_builtin;refine Kd.R_append k38 (w0:=w) w.heap.size rfl (.tmp 17) (.tmp 19) 34 38 (.agg #[(.int .i64 0),(.bool false)]) 16 rfl Try.underlying34 info38 rfl (by decide) (by omega) (.slice none 0 0) ([]:List (S38)) (⟨0,false⟩:S38) [.int .i64 0, .bool false] (fun _=>True) (fun _=>False) rfl (by first|(go_simp;done)|(go_simp;rfl)) ?aP (fun _ hk=>hk.elim) ?aF ?aO ?aB ?aS ?aL ?_;(case aP=>exact k38_mkM _ _ _ (⟨0,false⟩:S38));(case aB=>exact(by repeat(first|(with_reducible first|exact HB.out|apply Ye|apply Yd|apply Yg|refine Yh ?_ Ve.out|refine Yh ?_ Ub.out|refine Yh ?_ Ux.out)|exact HB.out)));(case aF=>exact(fun _ _=>trivial));(case aO=>exact((Kd.R_nil _ _ _ _ (fun _=>True))));(case aS=>exact(Yi (by repeat(first|(with_reducible first|exact HB.out|apply Ye|apply Yd|apply Yg|refine Yh ?_ Ve.out|refine Yh ?_ Ub.out|refine Yh ?_ Ux.out)|exact HB.out))));(case aL=>have:=LMc5.out;omega);intro v456 w15 ho hb hg hat;rw[← Ny455.out] at ho;have n0_:=Ya (blk_grown (g:=Wl) (o:= .cells #[.int .i64 Zc, .bool Zb, .slice Ze Za.length Zd] 24 (0,0)) (by(with_reducible repeat(first|refine Yl ?_ _|refine Ym ?_|refine Yj ?_ _));refine blk_far ?_ Js.out _;(with_reducible repeat(first|refine Yl ?_ _|refine Ym ?_|refine Yj ?_ _));exact Zm.out) hg (by simp[Value.ownBlock]));have n1_:=Ya (blk_grown (g:=Vd) (o:= .cells #[.slice none 0 0, .slice none 0 0] 161 (0,0)) (by(with_reducible repeat(first|refine Yl ?_ _|refine Ym ?_|refine Yj ?_ _));refine blk_far ?_ Jt.out _;(with_reducible repeat(first|refine Yl ?_ _|refine Ym ?_|refine Yj ?_ _));exact Xa.out) hg (by simp[Value.ownBlock]));have n2_:=Ya (blk_grown (g:=Xo) (o:= .cells #[.slice Ao13 y452.length co13, .slice none 0 0] 161 (0,0)) (by(with_reducible repeat(first|refine Yl ?_ _|refine Ym ?_|refine Yj ?_ _));refine YA (cs:= #[.slice none 0 0, .slice none 0 0]) ?_ 0 _ rfl;(with_reducible repeat(first|refine Yl ?_ _|refine Ym ?_|refine Yj ?_ _));exact Zj.out) hg (by simp[Value.ownBlock]));have n3_:=Ya (Kd.R_grown (by(with_reducible repeat(first|apply Yr|apply Yq|apply Yp));exact(Kd.R_mono (Kd.R_far (p:=⟨Xo,0,none⟩) (Kd.R_types HO454.out Zj.out (by decide)) (fun _ hk=>hk.2) (.slice Ao13 y452.length co13)) (fun _ h_=>h_.1))) hg (fun _ _=>by simp[Value.ownBlock]));have n4_:=Ya (hb);have n5_:=Ya (ho);clear Zm;clear Xa;clear Zj;clear HO454;clear HB;have Zm:=n0_;have Xa:=n1_;have Zj:=n2_;have HO454:=n3_;have HB:=n4_;have HO457:=n5_;clear n0_ n1_ n2_ n3_ n4_ n5_;clear ho hb hg hat;obtain⟨Ao16,co16,eo16⟩:=Kd.R_slice HO457.out;subst eo16;have Uk:w15.cell? ⟨Xo,0,none⟩=some (.slice Ao13 y452.length co13):=(Yc Zj.out 0).trans rfl;have Ul:w15.cell? ⟨Xo,1,none⟩=some (.slice none 0 0):=(Yc Zj.out 1).trans rfl;have Um:=Yf Zj.out 0;have Un:=Yf Zj.out 1));go_loopg [8] k (fun kq v8 w'=> ∃ (Zn:Int) (Vi:List Int) (x452001_1:List (S38)) (u452000:Value) (u452001:Value),v8= .int .i64 Zn∧Aside0 (ebbtideref08_sought.l0 kq l2 Zn Zc Zb Za Vi x452001_1=some (r1,r2))∧Aside0 (kq≤k)∧Aside0 (Kd.R (Kd.int .i64) 3 w' w.heap.size (fun _=>True) u452000 Vi)∧Aside0 (Kd.R k38 38 w' w.heap.size (fun _=>True) u452001 x452001_1)∧Aside0 (w'.heap[Wl]? =some (.cells #[.int .i64 Zc, .bool Zb,(.slice Ze Za.length Zd)] 24 (0,0)))∧Aside0 (w'.heap[Vd]? =some (.cells #[(.slice none 0 0),(.slice none 0 0)] 161 (0,0)))∧Aside0 (w'.heap[Xo]? =some (.cells #[u452000,u452001] 161 (0,0)))∧Aside0 (Below w.heap.size w w'))
 case atStart=>exact⟨(0),(y452),(y455),(.slice Ao13 y452.length co13),(.slice Ao16 y455.length co16),(by first|rfl|(simp;done)|(simp[*];done)),H',⟨Nat.le_refl _⟩,⟨by(with_reducible repeat(first|apply Yr|apply Yq|apply Yp));exact Kd.R_mono (Kd.R_far (p:=⟨Xo,1,none⟩) (Kd.R_types HO454.out Zj.out (by decide)) (fun _ hk=>hk.2) (.slice Ao16 y455.length co16)) (fun _ hk=>trivial)⟩,⟨by(with_reducible repeat(first|apply Yr|apply Yq|apply Yp));exact Kd.R_mono (Kd.R_far (p:=⟨Xo,1,none⟩) (Kd.R_types HO457.out Zj.out (by decide)) (fun _ hk=>hk.2) (.slice Ao16 y455.length co16)) (fun _ hk=>trivial)⟩,⟨by(with_reducible repeat(first|refine Yl ?_ _|refine Ym ?_|refine Yj ?_ _));refine blk_far ?_ Js.out _;(with_reducible repeat(first|refine Yl ?_ _|refine Ym ?_|refine Yj ?_ _));exact Zm.out⟩,⟨by(with_reducible repeat(first|refine Yl ?_ _|refine Ym ?_|refine Yj ?_ _));refine blk_far ?_ Jt.out _;(with_reducible repeat(first|refine Yl ?_ _|refine Ym ?_|refine Yj ?_ _));exact Xa.out⟩,⟨by(with_reducible repeat(first|refine Yl ?_ _|refine Ym ?_|refine Yj ?_ _));refine YA (cs:= #[.slice Ao13 y452.length co13, .slice none 0 0]) ?_ 1 _ rfl;(with_reducible repeat(first|refine Yl ?_ _|refine Ym ?_|refine Yj ?_ _));exact Zj.out⟩,⟨by repeat(first|(with_reducible first|exact HB.out|apply Ye|apply Yd|apply Yg|refine Yh ?_ Ve.out|refine Yh ?_ Ub.out|refine Yh ?_ Ux.out)|exact HB.out)⟩⟩
 case round=>
  clear H';try clear c1
  try clear c2
  try clear p2
  try clear c4
  try clear c5
  try clear c9
  try clear c10
  try clear c14
  try clear hcz11_0
  try clear hcz11_1
  try clear Ug
  try clear Uh
  try clear Uk
  try clear Ul
  try clear hfz11_0
  try clear hfz11_1
  try clear Ui
  try clear Uj
  try clear Um
  try clear Un
  obtain⟨Zn,Vi,x452001_1,u452000,u452001,rfl,HA,HK1,HO_452000,HO_452001,Zm,Xa,Zj,HB⟩:=hrel;cases gk with
  |zero=>exact absurd HA.out (by simp[ebbtideref08_sought.l0])
  |succ k1=>
   have H:=HA.out;clear HA;simp only[ebbtideref08_sought.l0] at H;by_cases c18:Zn<(Vi.length:Int)
   rotate_left
   ·rw[Yy c18] at H
    have c18b0:decide (Zn<(Vi.length:Int))=false:=Yw c18;clear c18;simp only[Option.some.injEq,Prod.mk.injEq] at H;obtain⟨rfl,rfl⟩:=H;have hnb60:=NB451_449.out;have hnc60:=Js.out;have hnb61:=NB451_450.out;have hnc61:=Jt.out;have hcz62_0:wr.cell? ⟨Xo,0,none⟩=some (u452000):=(Yc Zj.out 0).trans rfl;have hcz62_1:wr.cell? ⟨Xo,1,none⟩=some (u452001):=(Yc Zj.out 1).trans rfl;have hfz62_0:=Yf Zj.out 0;have hfz62_1:=Yf Zj.out 1;obtain⟨Ao63,co63,eo63⟩:=Kd.R_slice HO_452000.out;subst eo63;have hnb64:=NB450_449.out;have hnc64:=NB449_450.out;have hcz65_0:wr.cell? ⟨Vd,0,none⟩=some (.slice none 0 0):=(Yc Xa.out 0).trans rfl;have hcz65_1:wr.cell? ⟨Vd,1,none⟩=some (.slice none 0 0):=(Yc Xa.out 1).trans rfl;have hfz65_0:=Yf Xa.out 0;have hfz65_1:=Yf Xa.out 1;obtain⟨Ao66,co66,eo66⟩:=Kd.R_slice HO_452001.out;subst eo66;go_wp2;refine bodyPost_ret (results_cell_row rfl _ _ Vd 161 #[.slice Ao63 Vi.length co63, .slice Ao66 x452001_1.length co66] (0,0) _ rfl (by(with_reducible repeat(first|refine Yl ?_ _|refine Ym ?_|refine Yj ?_ _));refine YA (cs:= #[.slice Ao63 Vi.length co63, .slice none 0 0]) ?_ 1 _ rfl;(with_reducible repeat(first|refine Yl ?_ _|refine Ym ?_|refine Yj ?_ _));refine YA (cs:= #[.slice none 0 0, .slice none 0 0]) ?_ 0 _ rfl;(with_reducible repeat(first|refine Yl ?_ _|refine Ym ?_|refine Yj ?_ _));exact Xa.out) Try.underlying161 rfl (by kernel_rfl)) rfl ?_;exact⟨_,_,by first|rfl|(simp[errW_none,errW_some]<;>rfl)|(simp[*,errW_none,errW_some]<;>rfl),by(with_reducible repeat(first|apply Yr|apply Yq|apply Yp));exact Kd.R_mono (Kd.R_far (p:=⟨Vd,1,none⟩) (Kd.R_far (p:=⟨Vd,0,none⟩) (Kd.R_types HO_452000.out Xa.out (by decide)) (fun _ hk=>hk.2) (.slice Ao63 Vi.length co63)) (fun _ hk=>hk.2) (.slice Ao66 x452001_1.length co66)) (fun _ hk=>trivial),by(with_reducible repeat(first|apply Yr|apply Yq|apply Yp));exact Kd.R_mono (Kd.R_far (p:=⟨Vd,1,none⟩) (Kd.R_far (p:=⟨Vd,0,none⟩) (Kd.R_types HO_452001.out Xa.out (by decide)) (fun _ hk=>hk.2) (.slice Ao63 Vi.length co63)) (fun _ hk=>hk.2) (.slice Ao66 x452001_1.length co66)) (fun _ hk=>trivial),by repeat(first|(with_reducible first|exact HB.out|apply Ye|apply Yd|apply Yg|refine Yh ?_ Ve.out|refine Yh ?_ Ub.out|refine Yh ?_ Ux.out)|exact HB.out)⟩
   rw[Yx c18] at H;have c18b0:decide (Zn<(Vi.length:Int))=true:=Yv c18;clear c18;have H':=Ya H;clear H;have hnb19:=NB451_449.out;have hnc19:=Js.out;have hnb20:=NB451_450.out;have hnc20:=Jt.out;have hcz21_0:wr.cell? ⟨Xo,0,none⟩=some (u452000):=(Yc Zj.out 0).trans rfl;have hcz21_1:wr.cell? ⟨Xo,1,none⟩=some (u452001):=(Yc Zj.out 1).trans rfl;have hfz21_0:=Yf Zj.out 0;have hfz21_1:=Yf Zj.out 1;obtain⟨Ao22,co22,eo22⟩:=Kd.R_slice HO_452000.out;subst eo22;go_wp2;go_loopg [9] k1 (fun kq v9 w'=> ∃ (Zy:Int) (Zi:List Int) (Zq:List (S38)) (u452000:Value) (u452001:Value),v9= .int .i64 Zy∧Aside0 (ebbtideref08_sought.l1 kq l2 Zn Zy Zc Zb Za Zi Zq=some (r1,r2))∧Aside0 (kq≤k1)∧Aside0 (Kd.R (Kd.int .i64) 3 w' w.heap.size (fun _=>True) u452000 Zi)∧Aside0 (Kd.R k38 38 w' w.heap.size (fun _=>True) u452001 Zq)∧Aside0 (w'.heap[Wl]? =some (.cells #[.int .i64 Zc, .bool Zb,(.slice Ze Za.length Zd)] 24 (0,0)))∧Aside0 (w'.heap[Vd]? =some (.cells #[(.slice none 0 0),(.slice none 0 0)] 161 (0,0)))∧Aside0 (w'.heap[Xo]? =some (.cells #[u452000,u452001] 161 (0,0)))∧Aside0 (Below w.heap.size w w'))
   case atStart=>exact⟨(0),(Vi),(x452001_1),(.slice Ao22 Vi.length co22),(u452001),(by first|rfl|(simp;done)|(simp[*];done)),H',⟨Nat.le_refl _⟩,⟨by(with_reducible repeat(first|apply Yr|apply Yq|apply Yp));exact HO_452000.out⟩,⟨by(with_reducible repeat(first|apply Yr|apply Yq|apply Yp));exact HO_452001.out⟩,⟨by(with_reducible repeat(first|refine Yl ?_ _|refine Ym ?_|refine Yj ?_ _));exact Zm.out⟩,⟨by(with_reducible repeat(first|refine Yl ?_ _|refine Ym ?_|refine Yj ?_ _));exact Xa.out⟩,⟨by(with_reducible repeat(first|refine Yl ?_ _|refine Ym ?_|refine Yj ?_ _));exact Zj.out⟩,⟨by repeat(first|(with_reducible first|exact HB.out|apply Ye|apply Yd|apply Yg|refine Yh ?_ Ve.out|refine Yh ?_ Ub.out|refine Yh ?_ Ux.out)|exact HB.out)⟩⟩
   case round=>
    clear H';try clear c1
    try clear c2
    try clear p2
    try clear c4
    try clear c5
    try clear c9
    try clear c10
    try clear c14
    try clear c18
    try clear c18b0
    try clear c19
    try clear c20
    try clear hcz11_0
    try clear hcz11_1
    try clear Ug
    try clear Uh
    try clear Uk
    try clear Ul
    try clear hcz21_0
    try clear hcz21_1
    try clear hfz11_0
    try clear hfz11_1
    try clear Ui
    try clear Uj
    try clear Um
    try clear Un
    try clear hfz21_0
    try clear hfz21_1
    try clear p2
    obtain⟨Zy,Zi,Zq,u452000,u452001,rfl,HA,HK2,HO_452000,HO_452001,Zm,Xa,Zj,HB⟩:=hrel;cases gk with
    |zero=>exact absurd HA.out (by simp[ebbtideref08_sought.l1])
    |succ k2=>
     have H:=HA.out;clear HA;simp only[ebbtideref08_sought.l1] at H;by_cases c23:Zy<(l2.length:Int)
     rotate_left
     ·rw[Yy c23] at H
      have c23b0:decide (Zy<(l2.length:Int))=false:=Yw c23;clear c23;have H':=Ya H;clear H;go_wp2;go_roundg k2
      case measure=>have:=HK1.out;have:=HK2.out;omega
      case rel=>exact⟨(wrap64 (Zn+1)),(Zi),(Zq),(u452000),(u452001),(by first|rfl|(simp;done)|(simp[*];done)),H',⟨by have:=HK1.out;have:=HK2.out;omega⟩,⟨by(with_reducible repeat(first|apply Yr|apply Yq|apply Yp));exact HO_452000.out⟩,⟨by(with_reducible repeat(first|apply Yr|apply Yq|apply Yp));exact HO_452001.out⟩,⟨by(with_reducible repeat(first|refine Yl ?_ _|refine Ym ?_|refine Yj ?_ _));exact Zm.out⟩,⟨by(with_reducible repeat(first|refine Yl ?_ _|refine Ym ?_|refine Yj ?_ _));exact Xa.out⟩,⟨by(with_reducible repeat(first|refine Yl ?_ _|refine Ym ?_|refine Yj ?_ _));exact Zj.out⟩,⟨by repeat(first|(with_reducible first|exact HB.out|apply Ye|apply Yd|apply Yg|refine Yh ?_ Ve.out|refine Yh ?_ Ub.out|refine Yh ?_ Ux.out)|exact HB.out)⟩⟩
     rw[Yx c23] at H;have c23b0:decide (Zy<(l2.length:Int))=true:=Yv c23;clear c23;by_cases c24:0≤Zy
     rotate_left
     ·rw[Yy c24] at H
      exact absurd H (by simp)
     rw[Yx c24] at H;have c24b0:decide (0≤Zy)=true:=Yv c24;clear c24;replace H:=Option.bind_eq_some_iff.mp H;obtain⟨t459,A250,H⟩:=H;replace H:(if 0≤Zn then(if Zn<(Zi.length:Int) then(if t459=(rd Zi Zn) then((ebbtideref07_To.f Zc Zb Za ((rd_T38 l2 Zy).f0) ((rd_T38 l2 Zy).f1)).bind fun t462=>((ebbtideref08_found_has.f k2 Zi Zq t462).bind fun t463=>(if t463<0 then((ebbtideref07_To.f Zc Zb Za ((rd_T38 l2 Zy).f0) ((rd_T38 l2 Zy).f1)).bind fun t465=>(if Zi.length<17592186044416 then(if Zq.length<8796093022208 then(ebbtideref08_sought.l1 k2 l2 Zn (wrap64 (Zy+1)) Zc Zb Za (Zi ++ [t465]) (Zq ++ [(⟨(rd_T38 l2 Zy).f0,(rd_T38 l2 Zy).f1⟩:S38)])) else(none)) else(none))) else(ebbtideref08_sought.l1 k2 l2 Zn (wrap64 (Zy+1)) Zc Zb Za Zi Zq)))) else(ebbtideref08_sought.l1 k2 l2 Zn (wrap64 (Zy+1)) Zc Zb Za Zi Zq)) else(none)) else(none))=some (r1,r2):=H;have A25:=Ya A250;clear A250;by_cases c26:0≤Zn
     rotate_left
     ·rw[Yy c26] at H
      exact absurd H (by simp)
     rw[Yx c26] at H;have c26b0:decide (0≤Zn)=true:=Yv c26;clear c26;by_cases c27:Zn<(Zi.length:Int)
     rotate_left
     ·rw[Yy c27] at H
      exact absurd H (by simp)
     rw[Yx c27] at H;have c27b0:decide (Zn<(Zi.length:Int))=true:=Yv c27;clear c27;by_cases c28:t459=(rd Zi Zn)
     rotate_left
     ·rw[Yy c28] at H
      have c28b0:(t459 == (rd Zi Zn))=false:=beq_eq_false_iff_ne.mpr c28;have c28b1:(t459 != (rd Zi Zn))=true:=bne_iff_ne.mpr c28;have H':=Ya H;clear H;try go_wp2
      have n0_:=Ya (Yp HO_452000.out);have n1_:=Ya (Yp HO_452001.out);have n2_:=Ya (Ym Zm.out);have n3_:=Ya (Ym Xa.out);have n4_:=Ya (Ym Zj.out);have n5_:=Ya (Yg HB.out);clear HO_452000;clear HO_452001;clear Zm;clear Xa;clear Zj;clear HB;have HO_452000:=n0_;have HO_452001:=n1_;have Zm:=n2_;have Xa:=n3_;have Zj:=n4_;have HB:=n5_;clear n0_ n1_ n2_ n3_ n4_ n5_;have p458:0≤(Zy:Int):=Yu (by first|(with_reducible assumption)|assumption);have q458:Zy<(l2.length:Int):=Yu (by first|(with_reducible assumption)|assumption);obtain⟨Uc,e458,Vk,Vl⟩:=at_T38 HR2.out Zy p458 q458;have Wn:=Vl;have Wo:=Vk;cases e458;replace Vk:=(HB.out.cell (Yb w _ Vk)).trans Vk;replace Vl:=(HB.out.cell (Yb w _ Vl)).trans Vl;replace p458:=eq_true p458;replace q458:=eq_true q458;obtain⟨Ao58,co58,eo58⟩:=Kd.R_slice HO_452000.out
      (first|subst eo58|(injection eo58 with f1_ f2_ f3_;have f4_:=f1_.symm;have f5_:=f3_.symm;clear f1_ f2_ f3_;subst f4_;subst f5_))
      have p460:0≤(Zn:Int):=Yu (by first|(with_reducible assumption)|assumption);have q460:Zn<(Zi.length:Int):=Yu (by first|(with_reducible assumption)|assumption);obtain⟨Uu,e460,hx460_0⟩:=Kd.at_int (Kd.R_reads' HO_452000.out).2.2 Zn p460 q460;cases e460;replace p460:=eq_true p460;replace q460:=eq_true q460;refine start_ (n:=23) (S:=fun w'=>w'.cell? ⟨Wl,0,none⟩=some (.int .i64 Zc)∧w'.cell? ⟨Wl,1,none⟩=some (.bool Zb)∧w'.cell? ⟨Wl,2,none⟩=some (.slice Ze Za.length Zd)∧w'.cell? ⟨Xo,0,none⟩=some (.slice (some Uu) Zi.length co58)∧w'.cell? ⟨Xo,1,none⟩=some (u452001)∧w'.cell? (Uc.add ((Zy).toNat * 2))=some (.int .i64 ((rd_T38 l2 Zy).f0))∧w'.cell? ⟨(Uc.add ((Zy).toNat * 2)).block,(Uc.add ((Zy).toNat * 2)).off+1,none⟩=some (.bool ((rd_T38 l2 Zy).f1))∧w'.cell? (Uu.add (Zn).toNat)=some (.int .i64 (rd Zi Zn))) (ds:=[]) #[false,false,false,false,false,false,false,false,false,false,false,false,false,false,false,false,false,false,false,false,false,false,false] (by kernel_rfl) rfl rfl ⟨(Yc Zm.out 0).trans rfl,(Yc Zm.out 1).trans rfl,(Yc Zm.out 2).trans rfl,(Yc Zj.out 0).trans rfl,(Yc Zj.out 1).trans rfl,((HB.out.cell (Yb w _ Wo)).trans Wo),((HB.out.cell (Yb w _ Wn)).trans Wn),hx460_0⟩ (fun hHeld=> ?_);refine with_tabW ebbtideref08_sought.tab10 ebbtideref08_sought.bits10 (fun HT_ HW_=> ?_);generalize wr.drew=w57 at HO_452000 HO_452001 Zm Xa Zj HB Vk Vl hx460_0 hHeld ⊢;refine pure_ (i:=1) (N:=some 36) (v:= ?_) (a':= ?_) #[false,true,false,false,false,false,false,false,false,false,false,false,false,false,false,false,false,false,false,false,false,false,false] rfl rfl (any_of HT_.out (by kernel_rfl)) (fun _ _ _ h=>h) (Or.inl ⟨by rfl,?_⟩) ?_ ?_
      rotate_left
      ·intro w'
       go_simp
       with_reducible rfl
      rotate_left
      ·simp only[Act.put,List.setIfInBounds_toArray,List.set_cons_zero,List.set_cons_succ,i64_w,i32_w]
       rfl
      refine pure_ (i:=2) (N:=some 37) (v:= ?_) (a':= ?_) #[false,true,true,false,false,false,false,false,false,false,false,false,false,false,false,false,false,false,false,false,false,false,false] rfl rfl (any_of HT_.out (by kernel_rfl)) (fun _ _ _ h=>h) (Or.inl ⟨by rfl,?_⟩) ?_ ?_
      rotate_left
      ·intro w'
       go_simp
       with_reducible rfl
      rotate_left
      ·simp only[Act.put,List.setIfInBounds_toArray,List.set_cons_zero,List.set_cons_succ,i64_w,i32_w]
       rfl
      refine pure_ (i:=3) (N:=some 38) (v:= ?_) (a':= ?_) #[false,true,true,true,false,false,false,false,false,false,false,false,false,false,false,false,false,false,false,false,false,false,false] rfl rfl (any_of HT_.out (by kernel_rfl)) (fun _ _ _ h=>h) (Or.inl ⟨by rfl,?_⟩) ?_ ?_
      rotate_left
      ·intro w'
       go_simp
       with_reducible rfl
      rotate_left
      ·simp only[Act.put,List.setIfInBounds_toArray,List.set_cons_zero,List.set_cons_succ,i64_w,i32_w]
       rfl
      refine pure_ (i:=6) (N:=some 41) (v:= ?_) (a':= ?_) #[false,true,true,true,false,false,true,false,false,false,false,false,false,false,false,false,false,false,false,false,false,false,false] rfl rfl (any_of HT_.out (by kernel_rfl)) (fun _ _ _ h=>h) (Or.inl ⟨by rfl,?_⟩) ?_ ?_
      rotate_left
      ·intro w'
       go_simp
       with_reducible rfl
      rotate_left
      ·simp only[Act.put,List.setIfInBounds_toArray,List.set_cons_zero,List.set_cons_succ,i64_w,i32_w]
       rfl
      refine pure_ (i:=8) (N:=some 43) (v:= ?_) (a':= ?_) #[false,true,true,true,false,false,true,false,true,false,false,false,false,false,false,false,false,false,false,false,false,false,false] rfl rfl (any_of HT_.out (by kernel_rfl)) (fun _ _ _ h=>h) (Or.inl ⟨by rfl,?_⟩) ?_ ?_
      rotate_left
      ·intro w'
       go_simp
       with_reducible rfl
      rotate_left
      ·simp only[Act.put,List.setIfInBounds_toArray,List.set_cons_zero,List.set_cons_succ,i64_w,i32_w]
       rfl
      refine take_ (i:=0) (N:=some 35) (v:= ?_) (a':= ?_) #[true,true,true,true,false,false,true,false,true,false,false,false,false,false,false,false,false,false,false,false,false,false,false] rfl rfl (take_ofW HT_.out HW_.out (by kernel_rfl)) (fun _ _ _ h=>h) (Or.inl ⟨by rfl,?_⟩) hHeld ?_ ?_
      rotate_left
      ·rintro w' ⟨s0,s1,s2,s3,s4,s5,s6,s7⟩
       go_simp
       with_reducible rfl
      rotate_left
      ·simp only[Act.put,List.setIfInBounds_toArray,List.set_cons_zero,List.set_cons_succ,i64_w,i32_w]
       rfl
      refine take_ (i:=4) (N:=some 39) (v:= ?_) (a':= ?_) #[true,true,true,true,true,false,true,false,true,false,false,false,false,false,false,false,false,false,false,false,false,false,false] rfl rfl (take_ofW HT_.out HW_.out (by kernel_rfl)) (fun _ _ _ h=>h) (Or.inl ⟨by rfl,?_⟩) hHeld ?_ ?_
      rotate_left
      ·rintro w' ⟨s0,s1,s2,s3,s4,s5,s6,s7⟩
       go_simp
       with_reducible rfl
      rotate_left
      ·simp only[Act.put,List.setIfInBounds_toArray,List.set_cons_zero,List.set_cons_succ,i64_w,i32_w]
       rfl
      refine take_ (i:=7) (N:=some 42) (v:= ?_) (a':= ?_) #[true,true,true,true,true,false,true,true,true,false,false,false,false,false,false,false,false,false,false,false,false,false,false] rfl rfl (take_ofW HT_.out HW_.out (by kernel_rfl)) (fun _ _ _ h=>h) (Or.inl ⟨by rfl,?_⟩) hHeld ?_ ?_
      rotate_left
      ·rintro w' ⟨s0,s1,s2,s3,s4,s5,s6,s7⟩
       go_simp
       with_reducible rfl
      rotate_left
      ·simp only[Act.put,List.setIfInBounds_toArray,List.set_cons_zero,List.set_cons_succ,i64_w,i32_w]
       rfl
      refine pure_ (i:=9) (N:=some 44) (v:= ?_) (a':= ?_) #[true,true,true,true,true,false,true,true,true,true,false,false,false,false,false,false,false,false,false,false,false,false,false] rfl rfl (any_of HT_.out (by kernel_rfl)) (fun _ _ _ h=>h) (Or.inl ⟨by rfl,?_⟩) ?_ ?_
      rotate_left
      ·intro w'
       go_simp
       with_reducible rfl
      rotate_left
      ·simp only[Act.put,List.setIfInBounds_toArray,List.set_cons_zero,List.set_cons_succ,i64_w,i32_w]
       rfl
      refine take_ (i:=10) (N:=some 45) (v:= ?_) (a':= ?_) #[true,true,true,true,true,false,true,true,true,true,true,false,false,false,false,false,false,false,false,false,false,false,false] rfl rfl (take_ofW HT_.out HW_.out (by kernel_rfl)) (fun _ _ _ h=>h) (Or.inl ⟨by rfl,?_⟩) hHeld ?_ ?_
      rotate_left
      ·rintro w' ⟨s0,s1,s2,s3,s4,s5,s6,s7⟩
       go_simp
       with_reducible rfl
      rotate_left
      ·simp only[Act.put,List.setIfInBounds_toArray,List.set_cons_zero,List.set_cons_succ,i64_w,i32_w]
       rfl
      refine one_ (i:=5) (N:=some 40) #[true,true,true,true,true,true,true,true,true,true,true,false,false,false,false,false,false,false,false,false,false,false,false] rfl rfl (one_of HT_.out (by kernel_rfl)) (by decide) (fun K hK=> ?_);refine goes_ Try.func44 (by kernel_rfl) rfl #[.agg #[.int .i64 Zc, .bool Zb, .slice Ze Za.length Zd], .agg #[.int .i64 ((rd_T38 l2 Zy).f0), .bool ((rd_T38 l2 Zy).f1)]] (by rfl) rfl rfl (by(try simp only[List.map_toArray,List.map_cons,List.map_nil]);first|done|rfl|(simp only[List.length_drop,List.length_take];rfl)) ?_
      with_reducible refine(ebbtideref07_From.calls Zc Zb _ _ Za ((rd_T38 l2 Zy).f0) ((rd_T38 l2 Zy).f1) t459 _ ?side1 ?side2 A25.out).mono ?_
      (case side1=>repeat(first|exact(Yt Zl.out HB.out)|(with_reducible refine Kd.C_alloc ?_ _)|(with_reducible refine Kd.C_drewN ?_ _)|(with_reducible refine Kd.C_drew ?_)))
      (case side2=>exact Zv.out)
      rintro e w59 ⟨rfl,hb⟩;have HS7_:=(hb.cell (Yb _ _ (hHeld.2.2.2.2.2.2.2))).trans (hHeld.2.2.2.2.2.2.2);refine⟨_,rfl,?_⟩;have n0_:=Ya (Ys (by(with_reducible repeat(first|apply Yr|apply Yq|apply Yp));exact HO_452000.out) hb);have n1_:=Ya (Ys (by(with_reducible repeat(first|apply Yr|apply Yq|apply Yp));exact HO_452001.out) hb);have n2_:=Ya (Yn (g:=Wl) (o:= .cells #[.int .i64 Zc, .bool Zb, .slice Ze Za.length Zd] 24 (0,0)) (by(with_reducible repeat(first|refine Yl ?_ _|refine Ym ?_|refine Yj ?_ _));exact Zm.out) hb);have n3_:=Ya (Yn (g:=Vd) (o:= .cells #[.slice none 0 0, .slice none 0 0] 161 (0,0)) (by(with_reducible repeat(first|refine Yl ?_ _|refine Ym ?_|refine Yj ?_ _));exact Xa.out) hb);have n4_:=Ya (Yn (g:=Xo) (o:= .cells #[.slice (some Uu) Zi.length co58,u452001] 161 (0,0)) (by(with_reducible repeat(first|refine Yl ?_ _|refine Ym ?_|refine Yj ?_ _));exact Zj.out) hb);have n5_:=Ya (Yk (by repeat(first|(with_reducible first|exact HB.out|apply Ye|apply Yd|apply Yg|refine Yh ?_ Ve.out|refine Yh ?_ Ub.out|refine Yh ?_ Ux.out)|exact HB.out)) hb);clear HO_452000;clear HO_452001;clear Zm;clear Xa;clear Zj;clear HB;have HO_452000:=n0_;have HO_452001:=n1_;have Zm:=n2_;have Xa:=n3_;have Zj:=n4_;have HB:=n5_;clear n0_ n1_ n2_ n3_ n4_ n5_
      (try clear hb)
      (try clear hb2)
      (try clear hk)
      (try clear hi)
      refine hK.out _ _ ⟨(Yc Zm.out 0).trans rfl,(Yc Zm.out 1).trans rfl,(Yc Zm.out 2).trans rfl,(Yc Zj.out 0).trans rfl,(Yc Zj.out 1).trans rfl,((HB.out.cell (Yb w _ Wo)).trans Wo),((HB.out.cell (Yb w _ Wn)).trans Wn),HS7_⟩ (fun hHeld=> ?_);clear hK K;refine norm_ (a':= ?_) ?_ ?_
      rotate_left
      ·show Act.put _ (some 40) _=_
       simp only[Act.put,List.setIfInBounds_toArray,List.set_cons_zero,List.set_cons_succ,i64_w,i32_w];rfl
      refine pure_ (i:=11) (N:=some 46) (v:= ?_) (a':= ?_) #[true,true,true,true,true,true,true,true,true,true,true,true,false,false,false,false,false,false,false,false,false,false,false] rfl rfl (any_of HT_.out (by kernel_rfl)) (fun _ _ _ h=>h) (Or.inl ⟨by rfl,?_⟩) ?_ ?_
      rotate_left
      ·intro w'
       go_simp
       with_reducible rfl
      rotate_left
      ·simp only[Act.put,List.setIfInBounds_toArray,List.set_cons_zero,List.set_cons_succ,i64_w,i32_w]
       rfl
      refine pure_ (i:=12) (N:=some 47) (v:= ?_) (a':= ?_) #[true,true,true,true,true,true,true,true,true,true,true,true,true,false,false,false,false,false,false,false,false,false,false] rfl rfl (any_of HT_.out (by kernel_rfl)) (fun _ _ _ h=>h) (Or.inl ⟨by rfl,?_⟩) ?_ ?_
      rotate_left
      ·intro w'
       go_simp
       with_reducible rfl
      rotate_left
      ·simp only[Act.put,List.setIfInBounds_toArray,List.set_cons_zero,List.set_cons_succ,i64_w,i32_w]
       rfl
      refine pure_ (i:=13) (N:=some 48) (v:=undef) (a':= ?_) #[true,true,true,true,true,true,true,true,true,true,true,true,true,true,false,false,false,false,false,false,false,false,false] rfl rfl (any_of HT_.out (by kernel_rfl)) (fun _ _ _ h=>h) (Or.inr ⟨by rfl,rfl⟩) ?_ ?_
      rotate_left
      ·simp only[Act.put,List.setIfInBounds_toArray,List.set_cons_zero,List.set_cons_succ,i64_w,i32_w]
       rfl
      refine pure_ (i:=14) (N:=some 49) (v:=undef) (a':= ?_) #[true,true,true,true,true,true,true,true,true,true,true,true,true,true,true,false,false,false,false,false,false,false,false] rfl rfl (any_of HT_.out (by kernel_rfl)) (fun _ _ _ h=>h) (Or.inr ⟨by rfl,rfl⟩) ?_ ?_
      rotate_left
      ·simp only[Act.put,List.setIfInBounds_toArray,List.set_cons_zero,List.set_cons_succ,i64_w,i32_w]
       rfl
      refine pure_ (i:=15) (N:=some 50) (v:=undef) (a':= ?_) #[true,true,true,true,true,true,true,true,true,true,true,true,true,true,true,true,false,false,false,false,false,false,false] rfl rfl (any_of HT_.out (by kernel_rfl)) (fun _ _ _ h=>h) (Or.inr ⟨by rfl,rfl⟩) ?_ ?_
      rotate_left
      ·simp only[Act.put,List.setIfInBounds_toArray,List.set_cons_zero,List.set_cons_succ,i64_w,i32_w]
       rfl
      refine pure_ (i:=16) (N:=some 51) (v:=undef) (a':= ?_) #[true,true,true,true,true,true,true,true,true,true,true,true,true,true,true,true,true,false,false,false,false,false,false] rfl rfl (any_of HT_.out (by kernel_rfl)) (fun _ _ _ h=>h) (Or.inr ⟨by rfl,rfl⟩) ?_ ?_
      rotate_left
      ·simp only[Act.put,List.setIfInBounds_toArray,List.set_cons_zero,List.set_cons_succ,i64_w,i32_w]
       rfl
      refine pure_ (i:=17) (N:=some 52) (v:=undef) (a':= ?_) #[true,true,true,true,true,true,true,true,true,true,true,true,true,true,true,true,true,true,false,false,false,false,false] rfl rfl (any_of HT_.out (by kernel_rfl)) (fun _ _ _ h=>h) (Or.inr ⟨by rfl,rfl⟩) ?_ ?_
      rotate_left
      ·simp only[Act.put,List.setIfInBounds_toArray,List.set_cons_zero,List.set_cons_succ,i64_w,i32_w]
       rfl
      refine pure_ (i:=18) (N:=some 53) (v:=undef) (a':= ?_) #[true,true,true,true,true,true,true,true,true,true,true,true,true,true,true,true,true,true,true,false,false,false,false] rfl rfl (any_of HT_.out (by kernel_rfl)) (fun _ _ _ h=>h) (Or.inr ⟨by rfl,rfl⟩) ?_ ?_
      rotate_left
      ·simp only[Act.put,List.setIfInBounds_toArray,List.set_cons_zero,List.set_cons_succ,i64_w,i32_w]
       rfl
      refine pure_ (i:=19) (N:=some 54) (v:=undef) (a':= ?_) #[true,true,true,true,true,true,true,true,true,true,true,true,true,true,true,true,true,true,true,true,false,false,false] rfl rfl (any_of HT_.out (by kernel_rfl)) (fun _ _ _ h=>h) (Or.inr ⟨by rfl,rfl⟩) ?_ ?_
      rotate_left
      ·simp only[Act.put,List.setIfInBounds_toArray,List.set_cons_zero,List.set_cons_succ,i64_w,i32_w]
       rfl
      refine pure_ (i:=20) (N:=some 55) (v:=undef) (a':= ?_) #[true,true,true,true,true,true,true,true,true,true,true,true,true,true,true,true,true,true,true,true,true,false,false] rfl rfl (any_of HT_.out (by kernel_rfl)) (fun _ _ _ h=>h) (Or.inr ⟨by rfl,rfl⟩) ?_ ?_
      rotate_left
      ·simp only[Act.put,List.setIfInBounds_toArray,List.set_cons_zero,List.set_cons_succ,i64_w,i32_w]
       rfl
      refine pure_ (i:=21) (N:=some 56) (v:=undef) (a':= ?_) #[true,true,true,true,true,true,true,true,true,true,true,true,true,true,true,true,true,true,true,true,true,true,false] rfl rfl (any_of HT_.out (by kernel_rfl)) (fun _ _ _ h=>h) (Or.inr ⟨by rfl,rfl⟩) ?_ ?_
      rotate_left
      ·simp only[Act.put,List.setIfInBounds_toArray,List.set_cons_zero,List.set_cons_succ,i64_w,i32_w]
       rfl
      refine pure_ (i:=22) (N:=some 57) (v:= ?_) (a':= ?_) #[true,true,true,true,true,true,true,true,true,true,true,true,true,true,true,true,true,true,true,true,true,true,true] rfl rfl (any_of HT_.out (by kernel_rfl)) (fun _ _ _ h=>h) (Or.inl ⟨by rfl,?_⟩) ?_ ?_
      rotate_left
      ·intro w'
       go_simp
       with_reducible rfl
      rotate_left
      ·simp only[Act.put,List.setIfInBounds_toArray,List.set_cons_zero,List.set_cons_succ,i64_w,i32_w]
       rfl
      refine done_ (done_of HT_.out (by kernel_rfl)) ?_;try go_wp2
      go_roundg k2
      case measure=>have:=HK1.out;have:=HK2.out;omega
      case rel=>exact⟨(wrap64 (Zy+1)),(Zi),(Zq),(.slice (some Uu) Zi.length co58),(u452001),(by first|rfl|(simp;done)|(simp[*];done)),H',⟨by have:=HK1.out;have:=HK2.out;omega⟩,⟨by(with_reducible repeat(first|apply Yr|apply Yq|apply Yp));exact HO_452000.out⟩,⟨by(with_reducible repeat(first|apply Yr|apply Yq|apply Yp));exact HO_452001.out⟩,⟨by(with_reducible repeat(first|refine Yl ?_ _|refine Ym ?_|refine Yj ?_ _));exact Zm.out⟩,⟨by(with_reducible repeat(first|refine Yl ?_ _|refine Ym ?_|refine Yj ?_ _));exact Xa.out⟩,⟨by(with_reducible repeat(first|refine Yl ?_ _|refine Ym ?_|refine Yj ?_ _));exact Zj.out⟩,⟨by repeat(first|(with_reducible first|exact HB.out|apply Ye|apply Yd|apply Yg|refine Yh ?_ Ve.out|refine Yh ?_ Ub.out|refine Yh ?_ Ux.out)|exact HB.out)⟩⟩
     rw[Yx c28] at H;have c28b0:(t459 == (rd Zi Zn))=true:=beq_iff_eq.mpr c28;have c28b1:(t459 != (rd Zi Zn))=false:=bne_eq_false_iff_eq.mpr c28;clear c28;replace H:=Option.bind_eq_some_iff.mp H;obtain⟨t462,A290,H⟩:=H;replace H:((ebbtideref08_found_has.f k2 Zi Zq t462).bind fun t463=>(if t463<0 then((ebbtideref07_To.f Zc Zb Za ((rd_T38 l2 Zy).f0) ((rd_T38 l2 Zy).f1)).bind fun t465=>(if Zi.length<17592186044416 then(if Zq.length<8796093022208 then(ebbtideref08_sought.l1 k2 l2 Zn (wrap64 (Zy+1)) Zc Zb Za (Zi ++ [t465]) (Zq ++ [(⟨(rd_T38 l2 Zy).f0,(rd_T38 l2 Zy).f1⟩:S38)])) else(none)) else(none))) else(ebbtideref08_sought.l1 k2 l2 Zn (wrap64 (Zy+1)) Zc Zb Za Zi Zq)))=some (r1,r2):=H;have A29:=Ya A290;clear A290;replace H:=Option.bind_eq_some_iff.mp H;obtain⟨t463,A300,H⟩:=H;replace H:(if t463<0 then((ebbtideref07_To.f Zc Zb Za ((rd_T38 l2 Zy).f0) ((rd_T38 l2 Zy).f1)).bind fun t465=>(if Zi.length<17592186044416 then(if Zq.length<8796093022208 then(ebbtideref08_sought.l1 k2 l2 Zn (wrap64 (Zy+1)) Zc Zb Za (Zi ++ [t465]) (Zq ++ [(⟨(rd_T38 l2 Zy).f0,(rd_T38 l2 Zy).f1⟩:S38)])) else(none)) else(none))) else(ebbtideref08_sought.l1 k2 l2 Zn (wrap64 (Zy+1)) Zc Zb Za Zi Zq))=some (r1,r2):=H;have A30:=Ya A300;clear A300;by_cases c31:t463<0
     rotate_left
     ·rw[Yy c31] at H
      have c31b0:decide (t463<0)=false:=Yw c31;clear c31;have H':=Ya H;clear H;try go_wp2
      have n0_:=Ya (Yp HO_452000.out);have n1_:=Ya (Yp HO_452001.out);have n2_:=Ya (Ym Zm.out);have n3_:=Ya (Ym Xa.out);have n4_:=Ya (Ym Zj.out);have n5_:=Ya (Yg HB.out);clear HO_452000;clear HO_452001;clear Zm;clear Xa;clear Zj;clear HB;have HO_452000:=n0_;have HO_452001:=n1_;have Zm:=n2_;have Xa:=n3_;have Zj:=n4_;have HB:=n5_;clear n0_ n1_ n2_ n3_ n4_ n5_;have p458:0≤(Zy:Int):=Yu (by first|(with_reducible assumption)|assumption);have q458:Zy<(l2.length:Int):=Yu (by first|(with_reducible assumption)|assumption);obtain⟨Uc,e458,Vk,Vl⟩:=at_T38 HR2.out Zy p458 q458;have Wn:=Vl;have Wo:=Vk;cases e458;replace Vk:=(HB.out.cell (Yb w _ Vk)).trans Vk;replace Vl:=(HB.out.cell (Yb w _ Vl)).trans Vl;replace p458:=eq_true p458;replace q458:=eq_true q458;obtain⟨Ao52,co52,eo52⟩:=Kd.R_slice HO_452000.out
      (first|subst eo52|(injection eo52 with f1_ f2_ f3_;have f4_:=f1_.symm;have f5_:=f3_.symm;clear f1_ f2_ f3_;subst f4_;subst f5_))
      have p460:0≤(Zn:Int):=Yu (by first|(with_reducible assumption)|assumption);have q460:Zn<(Zi.length:Int):=Yu (by first|(with_reducible assumption)|assumption);obtain⟨Uu,e460,hx460_0⟩:=Kd.at_int (Kd.R_reads' HO_452000.out).2.2 Zn p460 q460;cases e460;replace p460:=eq_true p460;replace q460:=eq_true q460;have p461:0≤(Zy:Int):=Yu (by first|(with_reducible assumption)|assumption);have q461:Zy<(l2.length:Int):=Yu (by first|(with_reducible assumption)|assumption);obtain⟨ad461,e461,hx461_0,hx461_1⟩:=at_T38 HR2.out Zy p461 q461;have Vm:=hx461_1;have Vn:=hx461_0;obtain rfl:Uc=ad461:=(by injection e461);replace hx461_0:=(HB.out.cell (Yb w _ hx461_0)).trans hx461_0;replace hx461_1:=(HB.out.cell (Yb w _ hx461_1)).trans hx461_1;replace p461:=eq_true p461;replace q461:=eq_true q461;refine start_ (n:=23) (S:=fun w'=>w'.cell? ⟨Wl,0,none⟩=some (.int .i64 Zc)∧w'.cell? ⟨Wl,1,none⟩=some (.bool Zb)∧w'.cell? ⟨Wl,2,none⟩=some (.slice Ze Za.length Zd)∧w'.cell? ⟨Xo,0,none⟩=some (.slice (some Uu) Zi.length co52)∧w'.cell? ⟨Xo,1,none⟩=some (u452001)∧w'.cell? (Uc.add ((Zy).toNat * 2))=some (.int .i64 ((rd_T38 l2 Zy).f0))∧w'.cell? ⟨(Uc.add ((Zy).toNat * 2)).block,(Uc.add ((Zy).toNat * 2)).off+1,none⟩=some (.bool ((rd_T38 l2 Zy).f1))∧w'.cell? (Uu.add (Zn).toNat)=some (.int .i64 (rd Zi Zn))∧w'.cell? (Uc.add ((Zy).toNat * 2))=some (.int .i64 ((rd_T38 l2 Zy).f0))∧w'.cell? ⟨(Uc.add ((Zy).toNat * 2)).block,(Uc.add ((Zy).toNat * 2)).off+1,none⟩=some (.bool ((rd_T38 l2 Zy).f1))) (ds:=[]) #[false,false,false,false,false,false,false,false,false,false,false,false,false,false,false,false,false,false,false,false,false,false,false] (by kernel_rfl) rfl rfl ⟨(Yc Zm.out 0).trans rfl,(Yc Zm.out 1).trans rfl,(Yc Zm.out 2).trans rfl,(Yc Zj.out 0).trans rfl,(Yc Zj.out 1).trans rfl,((HB.out.cell (Yb w _ Wo)).trans Wo),((HB.out.cell (Yb w _ Wn)).trans Wn),hx460_0,((HB.out.cell (Yb w _ Vn)).trans Vn),((HB.out.cell (Yb w _ Vm)).trans Vm)⟩ (fun hHeld=> ?_);refine with_tabW ebbtideref08_sought.tab10 ebbtideref08_sought.bits10 (fun HT_ HW_=> ?_);generalize wr.drew=w51 at HO_452000 HO_452001 Zm Xa Zj HB Vk Vl hx460_0 hx461_0 hx461_1 hHeld ⊢;refine pure_ (i:=1) (N:=some 36) (v:= ?_) (a':= ?_) #[false,true,false,false,false,false,false,false,false,false,false,false,false,false,false,false,false,false,false,false,false,false,false] rfl rfl (any_of HT_.out (by kernel_rfl)) (fun _ _ _ h=>h) (Or.inl ⟨by rfl,?_⟩) ?_ ?_
      rotate_left
      ·intro w'
       go_simp
       with_reducible rfl
      rotate_left
      ·simp only[Act.put,List.setIfInBounds_toArray,List.set_cons_zero,List.set_cons_succ,i64_w,i32_w]
       rfl
      refine pure_ (i:=2) (N:=some 37) (v:= ?_) (a':= ?_) #[false,true,true,false,false,false,false,false,false,false,false,false,false,false,false,false,false,false,false,false,false,false,false] rfl rfl (any_of HT_.out (by kernel_rfl)) (fun _ _ _ h=>h) (Or.inl ⟨by rfl,?_⟩) ?_ ?_
      rotate_left
      ·intro w'
       go_simp
       with_reducible rfl
      rotate_left
      ·simp only[Act.put,List.setIfInBounds_toArray,List.set_cons_zero,List.set_cons_succ,i64_w,i32_w]
       rfl
      refine pure_ (i:=3) (N:=some 38) (v:= ?_) (a':= ?_) #[false,true,true,true,false,false,false,false,false,false,false,false,false,false,false,false,false,false,false,false,false,false,false] rfl rfl (any_of HT_.out (by kernel_rfl)) (fun _ _ _ h=>h) (Or.inl ⟨by rfl,?_⟩) ?_ ?_
      rotate_left
      ·intro w'
       go_simp
       with_reducible rfl
      rotate_left
      ·simp only[Act.put,List.setIfInBounds_toArray,List.set_cons_zero,List.set_cons_succ,i64_w,i32_w]
       rfl
      refine pure_ (i:=6) (N:=some 41) (v:= ?_) (a':= ?_) #[false,true,true,true,false,false,true,false,false,false,false,false,false,false,false,false,false,false,false,false,false,false,false] rfl rfl (any_of HT_.out (by kernel_rfl)) (fun _ _ _ h=>h) (Or.inl ⟨by rfl,?_⟩) ?_ ?_
      rotate_left
      ·intro w'
       go_simp
       with_reducible rfl
      rotate_left
      ·simp only[Act.put,List.setIfInBounds_toArray,List.set_cons_zero,List.set_cons_succ,i64_w,i32_w]
       rfl
      refine pure_ (i:=8) (N:=some 43) (v:= ?_) (a':= ?_) #[false,true,true,true,false,false,true,false,true,false,false,false,false,false,false,false,false,false,false,false,false,false,false] rfl rfl (any_of HT_.out (by kernel_rfl)) (fun _ _ _ h=>h) (Or.inl ⟨by rfl,?_⟩) ?_ ?_
      rotate_left
      ·intro w'
       go_simp
       with_reducible rfl
      rotate_left
      ·simp only[Act.put,List.setIfInBounds_toArray,List.set_cons_zero,List.set_cons_succ,i64_w,i32_w]
       rfl
      refine take_ (i:=0) (N:=some 35) (v:= ?_) (a':= ?_) #[true,true,true,true,false,false,true,false,true,false,false,false,false,false,false,false,false,false,false,false,false,false,false] rfl rfl (take_ofW HT_.out HW_.out (by kernel_rfl)) (fun _ _ _ h=>h) (Or.inl ⟨by rfl,?_⟩) hHeld ?_ ?_
      rotate_left
      ·rintro w' ⟨s0,s1,s2,s3,s4,s5,s6,s7,s8,s9⟩
       go_simp
       with_reducible rfl
      rotate_left
      ·simp only[Act.put,List.setIfInBounds_toArray,List.set_cons_zero,List.set_cons_succ,i64_w,i32_w]
       rfl
      refine take_ (i:=4) (N:=some 39) (v:= ?_) (a':= ?_) #[true,true,true,true,true,false,true,false,true,false,false,false,false,false,false,false,false,false,false,false,false,false,false] rfl rfl (take_ofW HT_.out HW_.out (by kernel_rfl)) (fun _ _ _ h=>h) (Or.inl ⟨by rfl,?_⟩) hHeld ?_ ?_
      rotate_left
      ·rintro w' ⟨s0,s1,s2,s3,s4,s5,s6,s7,s8,s9⟩
       go_simp
       with_reducible rfl
      rotate_left
      ·simp only[Act.put,List.setIfInBounds_toArray,List.set_cons_zero,List.set_cons_succ,i64_w,i32_w]
       rfl
      refine take_ (i:=7) (N:=some 42) (v:= ?_) (a':= ?_) #[true,true,true,true,true,false,true,true,true,false,false,false,false,false,false,false,false,false,false,false,false,false,false] rfl rfl (take_ofW HT_.out HW_.out (by kernel_rfl)) (fun _ _ _ h=>h) (Or.inl ⟨by rfl,?_⟩) hHeld ?_ ?_
      rotate_left
      ·rintro w' ⟨s0,s1,s2,s3,s4,s5,s6,s7,s8,s9⟩
       go_simp
       with_reducible rfl
      rotate_left
      ·simp only[Act.put,List.setIfInBounds_toArray,List.set_cons_zero,List.set_cons_succ,i64_w,i32_w]
       rfl
      refine pure_ (i:=9) (N:=some 44) (v:= ?_) (a':= ?_) #[true,true,true,true,true,false,true,true,true,true,false,false,false,false,false,false,false,false,false,false,false,false,false] rfl rfl (any_of HT_.out (by kernel_rfl)) (fun _ _ _ h=>h) (Or.inl ⟨by rfl,?_⟩) ?_ ?_
      rotate_left
      ·intro w'
       go_simp
       with_reducible rfl
      rotate_left
      ·simp only[Act.put,List.setIfInBounds_toArray,List.set_cons_zero,List.set_cons_succ,i64_w,i32_w]
       rfl
      refine take_ (i:=10) (N:=some 45) (v:= ?_) (a':= ?_) #[true,true,true,true,true,false,true,true,true,true,true,false,false,false,false,false,false,false,false,false,false,false,false] rfl rfl (take_ofW HT_.out HW_.out (by kernel_rfl)) (fun _ _ _ h=>h) (Or.inl ⟨by rfl,?_⟩) hHeld ?_ ?_
      rotate_left
      ·rintro w' ⟨s0,s1,s2,s3,s4,s5,s6,s7,s8,s9⟩
       go_simp
       with_reducible rfl
      rotate_left
      ·simp only[Act.put,List.setIfInBounds_toArray,List.set_cons_zero,List.set_cons_succ,i64_w,i32_w]
       rfl
      refine one_ (i:=5) (N:=some 40) #[true,true,true,true,true,true,true,true,true,true,true,false,false,false,false,false,false,false,false,false,false,false,false] rfl rfl (one_of HT_.out (by kernel_rfl)) (by decide) (fun K hK=> ?_);refine goes_ Try.func44 (by kernel_rfl) rfl #[.agg #[.int .i64 Zc, .bool Zb, .slice Ze Za.length Zd], .agg #[.int .i64 ((rd_T38 l2 Zy).f0), .bool ((rd_T38 l2 Zy).f1)]] (by rfl) rfl rfl (by(try simp only[List.map_toArray,List.map_cons,List.map_nil]);first|done|rfl|(simp only[List.length_drop,List.length_take];rfl)) ?_
      with_reducible refine(ebbtideref07_From.calls Zc Zb _ _ Za ((rd_T38 l2 Zy).f0) ((rd_T38 l2 Zy).f1) t459 _ ?side1 ?side2 A25.out).mono ?_
      (case side1=>repeat(first|exact(Yt Zl.out HB.out)|(with_reducible refine Kd.C_alloc ?_ _)|(with_reducible refine Kd.C_drewN ?_ _)|(with_reducible refine Kd.C_drew ?_)))
      (case side2=>exact Zv.out)
      rintro e w53 ⟨rfl,hb⟩;have HS7_:=(hb.cell (Yb _ _ (hHeld.2.2.2.2.2.2.2.1))).trans (hHeld.2.2.2.2.2.2.2.1);refine⟨_,rfl,?_⟩;have n0_:=Ya (Ys (by(with_reducible repeat(first|apply Yr|apply Yq|apply Yp));exact HO_452000.out) hb);have n1_:=Ya (Ys (by(with_reducible repeat(first|apply Yr|apply Yq|apply Yp));exact HO_452001.out) hb);have n2_:=Ya (Yn (g:=Wl) (o:= .cells #[.int .i64 Zc, .bool Zb, .slice Ze Za.length Zd] 24 (0,0)) (by(with_reducible repeat(first|refine Yl ?_ _|refine Ym ?_|refine Yj ?_ _));exact Zm.out) hb);have n3_:=Ya (Yn (g:=Vd) (o:= .cells #[.slice none 0 0, .slice none 0 0] 161 (0,0)) (by(with_reducible repeat(first|refine Yl ?_ _|refine Ym ?_|refine Yj ?_ _));exact Xa.out) hb);have n4_:=Ya (Yn (g:=Xo) (o:= .cells #[.slice (some Uu) Zi.length co52,u452001] 161 (0,0)) (by(with_reducible repeat(first|refine Yl ?_ _|refine Ym ?_|refine Yj ?_ _));exact Zj.out) hb);have n5_:=Ya (Yk (by repeat(first|(with_reducible first|exact HB.out|apply Ye|apply Yd|apply Yg|refine Yh ?_ Ve.out|refine Yh ?_ Ub.out|refine Yh ?_ Ux.out)|exact HB.out)) hb);clear HO_452000;clear HO_452001;clear Zm;clear Xa;clear Zj;clear HB;have HO_452000:=n0_;have HO_452001:=n1_;have Zm:=n2_;have Xa:=n3_;have Zj:=n4_;have HB:=n5_;clear n0_ n1_ n2_ n3_ n4_ n5_
      (try clear hb)
      (try clear hb2)
      (try clear hk)
      (try clear hi)
      refine hK.out _ _ ⟨(Yc Zm.out 0).trans rfl,(Yc Zm.out 1).trans rfl,(Yc Zm.out 2).trans rfl,(Yc Zj.out 0).trans rfl,(Yc Zj.out 1).trans rfl,((HB.out.cell (Yb w _ Wo)).trans Wo),((HB.out.cell (Yb w _ Wn)).trans Wn),HS7_,((HB.out.cell (Yb w _ Vn)).trans Vn),((HB.out.cell (Yb w _ Vm)).trans Vm)⟩ (fun hHeld=> ?_);clear hK K;refine norm_ (a':= ?_) ?_ ?_
      rotate_left
      ·show Act.put _ (some 40) _=_
       simp only[Act.put,List.setIfInBounds_toArray,List.set_cons_zero,List.set_cons_succ,i64_w,i32_w];rfl
      refine pure_ (i:=11) (N:=some 46) (v:= ?_) (a':= ?_) #[true,true,true,true,true,true,true,true,true,true,true,true,false,false,false,false,false,false,false,false,false,false,false] rfl rfl (any_of HT_.out (by kernel_rfl)) (fun _ _ _ h=>h) (Or.inl ⟨by rfl,?_⟩) ?_ ?_
      rotate_left
      ·intro w'
       go_simp
       with_reducible rfl
      rotate_left
      ·simp only[Act.put,List.setIfInBounds_toArray,List.set_cons_zero,List.set_cons_succ,i64_w,i32_w]
       rfl
      refine pure_ (i:=12) (N:=some 47) (v:= ?_) (a':= ?_) #[true,true,true,true,true,true,true,true,true,true,true,true,true,false,false,false,false,false,false,false,false,false,false] rfl rfl (any_of HT_.out (by kernel_rfl)) (fun _ _ _ h=>h) (Or.inl ⟨by rfl,?_⟩) ?_ ?_
      rotate_left
      ·intro w'
       go_simp
       with_reducible rfl
      rotate_left
      ·simp only[Act.put,List.setIfInBounds_toArray,List.set_cons_zero,List.set_cons_succ,i64_w,i32_w]
       rfl
      refine pure_ (i:=15) (N:=some 50) (v:= ?_) (a':= ?_) #[true,true,true,true,true,true,true,true,true,true,true,true,true,false,false,true,false,false,false,false,false,false,false] rfl rfl (any_of HT_.out (by kernel_rfl)) (fun _ _ _ h=>h) (Or.inl ⟨by rfl,?_⟩) ?_ ?_
      rotate_left
      ·intro w'
       go_simp
       with_reducible rfl
      rotate_left
      ·simp only[Act.put,List.setIfInBounds_toArray,List.set_cons_zero,List.set_cons_succ,i64_w,i32_w]
       rfl
      refine pure_ (i:=16) (N:=some 51) (v:= ?_) (a':= ?_) #[true,true,true,true,true,true,true,true,true,true,true,true,true,false,false,true,true,false,false,false,false,false,false] rfl rfl (any_of HT_.out (by kernel_rfl)) (fun _ _ _ h=>h) (Or.inl ⟨by rfl,?_⟩) ?_ ?_
      rotate_left
      ·intro w'
       go_simp
       with_reducible rfl
      rotate_left
      ·simp only[Act.put,List.setIfInBounds_toArray,List.set_cons_zero,List.set_cons_succ,i64_w,i32_w]
       rfl
      refine pure_ (i:=17) (N:=some 52) (v:= ?_) (a':= ?_) #[true,true,true,true,true,true,true,true,true,true,true,true,true,false,false,true,true,true,false,false,false,false,false] rfl rfl (any_of HT_.out (by kernel_rfl)) (fun _ _ _ h=>h) (Or.inl ⟨by rfl,?_⟩) ?_ ?_
      rotate_left
      ·intro w'
       go_simp
       with_reducible rfl
      rotate_left
      ·simp only[Act.put,List.setIfInBounds_toArray,List.set_cons_zero,List.set_cons_succ,i64_w,i32_w]
       rfl
      refine take_ (i:=13) (N:=some 48) (v:= ?_) (a':= ?_) #[true,true,true,true,true,true,true,true,true,true,true,true,true,true,false,true,true,true,false,false,false,false,false] rfl rfl (take_ofW HT_.out HW_.out (by kernel_rfl)) (fun _ _ _ h=>h) (Or.inl ⟨by rfl,?_⟩) hHeld ?_ ?_
      rotate_left
      ·rintro w' ⟨s0,s1,s2,s3,s4,s5,s6,s7,s8,s9⟩
       go_simp
       with_reducible rfl
      rotate_left
      ·simp only[Act.put,List.setIfInBounds_toArray,List.set_cons_zero,List.set_cons_succ,i64_w,i32_w]
       rfl
      refine take_ (i:=14) (N:=some 49) (v:= ?_) (a':= ?_) #[true,true,true,true,true,true,true,true,true,true,true,true,true,true,true,true,true,true,false,false,false,false,false] rfl rfl (take_ofW HT_.out HW_.out (by kernel_rfl)) (fun _ _ _ h=>h) (Or.inl ⟨by rfl,?_⟩) hHeld ?_ ?_
      rotate_left
      ·rintro w' ⟨s0,s1,s2,s3,s4,s5,s6,s7,s8,s9⟩
       go_simp
       with_reducible rfl
      rotate_left
      ·simp only[Act.put,List.setIfInBounds_toArray,List.set_cons_zero,List.set_cons_succ,i64_w,i32_w]
       rfl
      refine take_ (i:=18) (N:=some 53) (v:= ?_) (a':= ?_) #[true,true,true,true,true,true,true,true,true,true,true,true,true,true,true,true,true,true,true,false,false,false,false] rfl rfl (take_ofW HT_.out HW_.out (by kernel_rfl)) (fun _ _ _ h=>h) (Or.inl ⟨by rfl,?_⟩) hHeld ?_ ?_
      rotate_left
      ·rintro w' ⟨s0,s1,s2,s3,s4,s5,s6,s7,s8,s9⟩
       go_simp
       with_reducible rfl
      rotate_left
      ·simp only[Act.put,List.setIfInBounds_toArray,List.set_cons_zero,List.set_cons_succ,i64_w,i32_w]
       rfl
      refine one_ (i:=19) (N:=some 54) #[true,true,true,true,true,true,true,true,true,true,true,true,true,true,true,true,true,true,true,true,false,false,false] rfl rfl (one_of HT_.out (by kernel_rfl)) (by decide) (fun K hK=> ?_);refine goes_ Try.func45 (by kernel_rfl) rfl #[.agg #[.int .i64 Zc, .bool Zb, .slice Ze Za.length Zd], .agg #[.int .i64 ((rd_T38 l2 Zy).f0), .bool ((rd_T38 l2 Zy).f1)]] (by rfl) rfl rfl (by(try simp only[List.map_toArray,List.map_cons,List.map_nil]);first|done|rfl|(simp only[List.length_drop,List.length_take];rfl)) ?_
      with_reducible refine(ebbtideref07_To.calls Zc Zb _ _ Za ((rd_T38 l2 Zy).f0) ((rd_T38 l2 Zy).f1) t462 _ ?side1 ?side2 A29.out).mono ?_
      (case side1=>repeat(first|exact(Yt Zl.out HB.out)|(with_reducible refine Kd.C_alloc ?_ _)|(with_reducible refine Kd.C_drewN ?_ _)|(with_reducible refine Kd.C_drew ?_)))
      (case side2=>exact Zv.out)
      rintro e w54 ⟨rfl,hb⟩;have HS7_:=(hb.cell (Yb _ _ (hHeld.2.2.2.2.2.2.2.1))).trans (hHeld.2.2.2.2.2.2.2.1);refine⟨_,rfl,?_⟩;have n0_:=Ya (Ys (by(with_reducible repeat(first|apply Yr|apply Yq|apply Yp));exact HO_452000.out) hb);have n1_:=Ya (Ys (by(with_reducible repeat(first|apply Yr|apply Yq|apply Yp));exact HO_452001.out) hb);have n2_:=Ya (Yn (g:=Wl) (o:= .cells #[.int .i64 Zc, .bool Zb, .slice Ze Za.length Zd] 24 (0,0)) (by(with_reducible repeat(first|refine Yl ?_ _|refine Ym ?_|refine Yj ?_ _));exact Zm.out) hb);have n3_:=Ya (Yn (g:=Vd) (o:= .cells #[.slice none 0 0, .slice none 0 0] 161 (0,0)) (by(with_reducible repeat(first|refine Yl ?_ _|refine Ym ?_|refine Yj ?_ _));exact Xa.out) hb);have n4_:=Ya (Yn (g:=Xo) (o:= .cells #[.slice (some Uu) Zi.length co52,u452001] 161 (0,0)) (by(with_reducible repeat(first|refine Yl ?_ _|refine Ym ?_|refine Yj ?_ _));exact Zj.out) hb);have n5_:=Ya (Yk (by repeat(first|(with_reducible first|exact HB.out|apply Ye|apply Yd|apply Yg|refine Yh ?_ Ve.out|refine Yh ?_ Ub.out|refine Yh ?_ Ux.out)|exact HB.out)) hb);clear HO_452000;clear HO_452001;clear Zm;clear Xa;clear Zj;clear HB;have HO_452000:=n0_;have HO_452001:=n1_;have Zm:=n2_;have Xa:=n3_;have Zj:=n4_;have HB:=n5_;clear n0_ n1_ n2_ n3_ n4_ n5_
      (try clear hb)
      (try clear hb2)
      (try clear hk)
      (try clear hi)
      obtain⟨Ao55,co55,eo55⟩:=Kd.R_slice HO_452001.out
      (first|subst eo55|(injection eo55 with f1_ f2_ f3_;have f4_:=f1_.symm;have f5_:=f3_.symm;clear f1_ f2_ f3_;subst f4_;subst f5_))
      refine hK.out _ _ ⟨(Yc Zm.out 0).trans rfl,(Yc Zm.out 1).trans rfl,(Yc Zm.out 2).trans rfl,(Yc Zj.out 0).trans rfl,(Yc Zj.out 1).trans rfl,((HB.out.cell (Yb w _ Wo)).trans Wo),((HB.out.cell (Yb w _ Wn)).trans Wn),HS7_,((HB.out.cell (Yb w _ Vn)).trans Vn),((HB.out.cell (Yb w _ Vm)).trans Vm)⟩ (fun hHeld=> ?_);clear hK K;refine norm_ (a':= ?_) ?_ ?_
      rotate_left
      ·show Act.put _ (some 54) _=_
       simp only[Act.put,List.setIfInBounds_toArray,List.set_cons_zero,List.set_cons_succ,i64_w,i32_w];rfl
      refine one_ (i:=20) (N:=some 55) #[true,true,true,true,true,true,true,true,true,true,true,true,true,true,true,true,true,true,true,true,true,false,false] rfl rfl (one_of HT_.out (by kernel_rfl)) (by decide) (fun K hK=> ?_);refine goes_ Try.func147 (by kernel_rfl) rfl #[.agg #[.slice (some Uu) Zi.length co52, .slice Ao55 Zq.length co55], .int .i64 t462] (by rfl) rfl rfl (by(try simp only[List.map_toArray,List.map_cons,List.map_nil]);first|done|rfl|(simp only[List.length_drop,List.length_take];rfl)) ?_
      with_reducible refine(ebbtideref08_found_has.calls k2 _ _ Zi _ _ Zq t462 t463 _ ?side1 ?side2 ?side3 ?side4 A30.out).mono ?_
      (case side1=>repeat(first|exact(Kd.R_reads' HO_452000.out).2.2|(with_reducible refine Kd.C_alloc ?_ _)|(with_reducible refine Kd.C_drewN ?_ _)|(with_reducible refine Kd.C_drew ?_)))
      (case side2=>exact(Kd.R_reads' HO_452000.out).2.1)
      (case side3=>repeat(first|exact(Kd.R_reads' HO_452001.out).2.2|(with_reducible refine Kd.C_alloc ?_ _)|(with_reducible refine Kd.C_drewN ?_ _)|(with_reducible refine Kd.C_drew ?_)))
      (case side4=>exact(Kd.R_reads' HO_452001.out).2.1)
      rintro e w56 ⟨rfl,hb⟩;have HS7_:=(hb.cell (Yb _ _ (hHeld.2.2.2.2.2.2.2.1))).trans (hHeld.2.2.2.2.2.2.2.1);refine⟨_,rfl,?_⟩;have n0_:=Ya (Ys (by(with_reducible repeat(first|apply Yr|apply Yq|apply Yp));exact HO_452000.out) hb);have n1_:=Ya (Ys (by(with_reducible repeat(first|apply Yr|apply Yq|apply Yp));exact HO_452001.out) hb);have n2_:=Ya (Yn (g:=Wl) (o:= .cells #[.int .i64 Zc, .bool Zb, .slice Ze Za.length Zd] 24 (0,0)) (by(with_reducible repeat(first|refine Yl ?_ _|refine Ym ?_|refine Yj ?_ _));exact Zm.out) hb);have n3_:=Ya (Yn (g:=Vd) (o:= .cells #[.slice none 0 0, .slice none 0 0] 161 (0,0)) (by(with_reducible repeat(first|refine Yl ?_ _|refine Ym ?_|refine Yj ?_ _));exact Xa.out) hb);have n4_:=Ya (Yn (g:=Xo) (o:= .cells #[.slice (some Uu) Zi.length co52, .slice Ao55 Zq.length co55] 161 (0,0)) (by(with_reducible repeat(first|refine Yl ?_ _|refine Ym ?_|refine Yj ?_ _));exact Zj.out) hb);have n5_:=Ya (Yk (by repeat(first|(with_reducible first|exact HB.out|apply Ye|apply Yd|apply Yg|refine Yh ?_ Ve.out|refine Yh ?_ Ub.out|refine Yh ?_ Ux.out)|exact HB.out)) hb);clear HO_452000;clear HO_452001;clear Zm;clear Xa;clear Zj;clear HB;have HO_452000:=n0_;have HO_452001:=n1_;have Zm:=n2_;have Xa:=n3_;have Zj:=n4_;have HB:=n5_;clear n0_ n1_ n2_ n3_ n4_ n5_
      (try clear hb)
      (try clear hb2)
      (try clear hk)
      (try clear hi)
      refine hK.out _ _ ⟨(Yc Zm.out 0).trans rfl,(Yc Zm.out 1).trans rfl,(Yc Zm.out 2).trans rfl,(Yc Zj.out 0).trans rfl,(Yc Zj.out 1).trans rfl,((HB.out.cell (Yb w _ Wo)).trans Wo),((HB.out.cell (Yb w _ Wn)).trans Wn),HS7_,((HB.out.cell (Yb w _ Vn)).trans Vn),((HB.out.cell (Yb w _ Vm)).trans Vm)⟩ (fun hHeld=> ?_);clear hK K;refine norm_ (a':= ?_) ?_ ?_
      rotate_left
      ·show Act.put _ (some 55) _=_
       simp only[Act.put,List.setIfInBounds_toArray,List.set_cons_zero,List.set_cons_succ,i64_w,i32_w];rfl
      refine pure_ (i:=21) (N:=some 56) (v:= ?_) (a':= ?_) #[true,true,true,true,true,true,true,true,true,true,true,true,true,true,true,true,true,true,true,true,true,true,false] rfl rfl (any_of HT_.out (by kernel_rfl)) (fun _ _ _ h=>h) (Or.inl ⟨by rfl,?_⟩) ?_ ?_
      rotate_left
      ·intro w'
       go_simp
       with_reducible rfl
      rotate_left
      ·simp only[Act.put,List.setIfInBounds_toArray,List.set_cons_zero,List.set_cons_succ,i64_w,i32_w]
       rfl
      refine pure_ (i:=22) (N:=some 57) (v:= ?_) (a':= ?_) #[true,true,true,true,true,true,true,true,true,true,true,true,true,true,true,true,true,true,true,true,true,true,true] rfl rfl (any_of HT_.out (by kernel_rfl)) (fun _ _ _ h=>h) (Or.inl ⟨by rfl,?_⟩) ?_ ?_
      rotate_left
      ·intro w'
       go_simp
       with_reducible rfl
      rotate_left
      ·simp only[Act.put,List.setIfInBounds_toArray,List.set_cons_zero,List.set_cons_succ,i64_w,i32_w]
       rfl
      refine done_ (done_of HT_.out (by kernel_rfl)) ?_;try go_wp2
      go_roundg k2
      case measure=>have:=HK1.out;have:=HK2.out;omega
      case rel=>exact⟨(wrap64 (Zy+1)),(Zi),(Zq),(.slice (some Uu) Zi.length co52),(.slice Ao55 Zq.length co55),(by first|rfl|(simp;done)|(simp[*];done)),H',⟨by have:=HK1.out;have:=HK2.out;omega⟩,⟨by(with_reducible repeat(first|apply Yr|apply Yq|apply Yp));exact HO_452000.out⟩,⟨by(with_reducible repeat(first|apply Yr|apply Yq|apply Yp));exact HO_452001.out⟩,⟨by(with_reducible repeat(first|refine Yl ?_ _|refine Ym ?_|refine Yj ?_ _));exact Zm.out⟩,⟨by(with_reducible repeat(first|refine Yl ?_ _|refine Ym ?_|refine Yj ?_ _));exact Xa.out⟩,⟨by(with_reducible repeat(first|refine Yl ?_ _|refine Ym ?_|refine Yj ?_ _));exact Zj.out⟩,⟨by repeat(first|(with_reducible first|exact HB.out|apply Ye|apply Yd|apply Yg|refine Yh ?_ Ve.out|refine Yh ?_ Ub.out|refine Yh ?_ Ux.out)|exact HB.out)⟩⟩
     rw[Yx c31] at H;have c31b0:decide (t463<0)=true:=Yv c31;clear c31;replace H:=Option.bind_eq_some_iff.mp H;obtain⟨t465,A320,H⟩:=H;replace H:(if Zi.length<17592186044416 then(if Zq.length<8796093022208 then(ebbtideref08_sought.l1 k2 l2 Zn (wrap64 (Zy+1)) Zc Zb Za (Zi ++ [t465]) (Zq ++ [(⟨(rd_T38 l2 Zy).f0,(rd_T38 l2 Zy).f1⟩:S38)])) else(none)) else(none))=some (r1,r2):=H;have A32:=Ya A320;clear A320;by_cases c33:Zi.length<17592186044416
     rotate_left
     ·rw[Yy c33] at H
      exact absurd H (by simp)
     rw[Yx c33] at H;have LMc33:=Ya c33;clear c33;obtain⟨y466,hy466⟩: ∃ y_:List Int,y_=(Zi ++ [t465]):=⟨_,rfl⟩;replace H:(if Zq.length<8796093022208 then(ebbtideref08_sought.l1 k2 l2 Zn (wrap64 (Zy+1)) Zc Zb Za y466 (Zq ++ [(⟨(rd_T38 l2 Zy).f0,(rd_T38 l2 Zy).f1⟩:S38)])) else(none))=some (r1,r2):=by first|(rw[hy466];with_reducible exact H)|(have H2_:=(Option.bind_some _ _).symm.trans H;rw[hy466];with_reducible exact H2_)|(have H2_:=(Option.bind_some _ _).symm.trans H;with_reducible exact H2_)|with_reducible exact H|(rw[hy466];exact H)|exact H
     have Ny466:=Ya hy466;clear hy466;by_cases c34:Zq.length<8796093022208
     rotate_left
     ·rw[Yy c34] at H
      exact absurd H (by simp)
     rw[Yx c34] at H;have LMc34:=Ya c34;clear c34;obtain⟨y470,hy470⟩: ∃ y_:List (S38),y_=(Zq ++ [(⟨(rd_T38 l2 Zy).f0,(rd_T38 l2 Zy).f1⟩:S38)]):=⟨_,rfl⟩;replace H:(ebbtideref08_sought.l1 k2 l2 Zn (wrap64 (Zy+1)) Zc Zb Za y466 y470)=some (r1,r2):=by first|(rw[hy470];with_reducible exact H)|(have H2_:=(Option.bind_some _ _).symm.trans H;rw[hy470];with_reducible exact H2_)|(have H2_:=(Option.bind_some _ _).symm.trans H;with_reducible exact H2_)|with_reducible exact H|(rw[hy470];exact H)|exact H
     have Ny470:=Ya hy470;clear hy470;have H':=Ya H;clear H;try go_wp2
     have n0_:=Ya (Yp HO_452000.out);have n1_:=Ya (Yp HO_452001.out);have n2_:=Ya (Ym Zm.out);have n3_:=Ya (Ym Xa.out);have n4_:=Ya (Ym Zj.out);have n5_:=Ya (Yg HB.out);clear HO_452000;clear HO_452001;clear Zm;clear Xa;clear Zj;clear HB;have HO_452000:=n0_;have HO_452001:=n1_;have Zm:=n2_;have Xa:=n3_;have Zj:=n4_;have HB:=n5_;clear n0_ n1_ n2_ n3_ n4_ n5_;have p458:0≤(Zy:Int):=Yu (by first|(with_reducible assumption)|assumption);have q458:Zy<(l2.length:Int):=Yu (by first|(with_reducible assumption)|assumption);obtain⟨Uc,e458,Vk,Vl⟩:=at_T38 HR2.out Zy p458 q458;have Wn:=Vl;have Wo:=Vk;cases e458;replace Vk:=(HB.out.cell (Yb w _ Vk)).trans Vk;replace Vl:=(HB.out.cell (Yb w _ Vl)).trans Vl;replace p458:=eq_true p458;replace q458:=eq_true q458;obtain⟨Ao36,co36,eo36⟩:=Kd.R_slice HO_452000.out
     (first|subst eo36|(injection eo36 with f1_ f2_ f3_;have f4_:=f1_.symm;have f5_:=f3_.symm;clear f1_ f2_ f3_;subst f4_;subst f5_))
     have p460:0≤(Zn:Int):=Yu (by first|(with_reducible assumption)|assumption);have q460:Zn<(Zi.length:Int):=Yu (by first|(with_reducible assumption)|assumption);obtain⟨Uu,e460,hx460_0⟩:=Kd.at_int (Kd.R_reads' HO_452000.out).2.2 Zn p460 q460;cases e460;replace p460:=eq_true p460;replace q460:=eq_true q460;have p461:0≤(Zy:Int):=Yu (by first|(with_reducible assumption)|assumption);have q461:Zy<(l2.length:Int):=Yu (by first|(with_reducible assumption)|assumption);obtain⟨ad461,e461,hx461_0,hx461_1⟩:=at_T38 HR2.out Zy p461 q461;have Vm:=hx461_1;have Vn:=hx461_0;obtain rfl:Uc=ad461:=(by injection e461);replace hx461_0:=(HB.out.cell (Yb w _ hx461_0)).trans hx461_0;replace hx461_1:=(HB.out.cell (Yb w _ hx461_1)).trans hx461_1;replace p461:=eq_true p461;replace q461:=eq_true q461;refine start_ (n:=23) (S:=fun w'=>w'.cell? ⟨Wl,0,none⟩=some (.int .i64 Zc)∧w'.cell? ⟨Wl,1,none⟩=some (.bool Zb)∧w'.cell? ⟨Wl,2,none⟩=some (.slice Ze Za.length Zd)∧w'.cell? ⟨Xo,0,none⟩=some (.slice (some Uu) Zi.length co36)∧w'.cell? ⟨Xo,1,none⟩=some (u452001)∧w'.cell? (Uc.add ((Zy).toNat * 2))=some (.int .i64 ((rd_T38 l2 Zy).f0))∧w'.cell? ⟨(Uc.add ((Zy).toNat * 2)).block,(Uc.add ((Zy).toNat * 2)).off+1,none⟩=some (.bool ((rd_T38 l2 Zy).f1))∧w'.cell? (Uu.add (Zn).toNat)=some (.int .i64 (rd Zi Zn))∧w'.cell? (Uc.add ((Zy).toNat * 2))=some (.int .i64 ((rd_T38 l2 Zy).f0))∧w'.cell? ⟨(Uc.add ((Zy).toNat * 2)).block,(Uc.add ((Zy).toNat * 2)).off+1,none⟩=some (.bool ((rd_T38 l2 Zy).f1))) (ds:=[]) #[false,false,false,false,false,false,false,false,false,false,false,false,false,false,false,false,false,false,false,false,false,false,false] (by kernel_rfl) rfl rfl ⟨(Yc Zm.out 0).trans rfl,(Yc Zm.out 1).trans rfl,(Yc Zm.out 2).trans rfl,(Yc Zj.out 0).trans rfl,(Yc Zj.out 1).trans rfl,((HB.out.cell (Yb w _ Wo)).trans Wo),((HB.out.cell (Yb w _ Wn)).trans Wn),hx460_0,((HB.out.cell (Yb w _ Vn)).trans Vn),((HB.out.cell (Yb w _ Vm)).trans Vm)⟩ (fun hHeld=> ?_);refine with_tabW ebbtideref08_sought.tab10 ebbtideref08_sought.bits10 (fun HT_ HW_=> ?_);generalize wr.drew=w35 at HO_452000 HO_452001 Zm Xa Zj HB Vk Vl hx460_0 hx461_0 hx461_1 hHeld ⊢;refine pure_ (i:=1) (N:=some 36) (v:= ?_) (a':= ?_) #[false,true,false,false,false,false,false,false,false,false,false,false,false,false,false,false,false,false,false,false,false,false,false] rfl rfl (any_of HT_.out (by kernel_rfl)) (fun _ _ _ h=>h) (Or.inl ⟨by rfl,?_⟩) ?_ ?_
     rotate_left
     ·intro w'
      go_simp
      with_reducible rfl
     rotate_left
     ·simp only[Act.put,List.setIfInBounds_toArray,List.set_cons_zero,List.set_cons_succ,i64_w,i32_w]
      rfl
     refine pure_ (i:=2) (N:=some 37) (v:= ?_) (a':= ?_) #[false,true,true,false,false,false,false,false,false,false,false,false,false,false,false,false,false,false,false,false,false,false,false] rfl rfl (any_of HT_.out (by kernel_rfl)) (fun _ _ _ h=>h) (Or.inl ⟨by rfl,?_⟩) ?_ ?_
     rotate_left
     ·intro w'
      go_simp
      with_reducible rfl
     rotate_left
     ·simp only[Act.put,List.setIfInBounds_toArray,List.set_cons_zero,List.set_cons_succ,i64_w,i32_w]
      rfl
     refine pure_ (i:=3) (N:=some 38) (v:= ?_) (a':= ?_) #[false,true,true,true,false,false,false,false,false,false,false,false,false,false,false,false,false,false,false,false,false,false,false] rfl rfl (any_of HT_.out (by kernel_rfl)) (fun _ _ _ h=>h) (Or.inl ⟨by rfl,?_⟩) ?_ ?_
     rotate_left
     ·intro w'
      go_simp
      with_reducible rfl
     rotate_left
     ·simp only[Act.put,List.setIfInBounds_toArray,List.set_cons_zero,List.set_cons_succ,i64_w,i32_w]
      rfl
     refine pure_ (i:=6) (N:=some 41) (v:= ?_) (a':= ?_) #[false,true,true,true,false,false,true,false,false,false,false,false,false,false,false,false,false,false,false,false,false,false,false] rfl rfl (any_of HT_.out (by kernel_rfl)) (fun _ _ _ h=>h) (Or.inl ⟨by rfl,?_⟩) ?_ ?_
     rotate_left
     ·intro w'
      go_simp
      with_reducible rfl
     rotate_left
     ·simp only[Act.put,List.setIfInBounds_toArray,List.set_cons_zero,List.set_cons_succ,i64_w,i32_w]
      rfl
     refine pure_ (i:=8) (N:=some 43) (v:= ?_) (a':= ?_) #[false,true,true,true,false,false,true,false,true,false,false,false,false,false,false,false,false,false,false,false,false,false,false] rfl rfl (any_of HT_.out (by kernel_rfl)) (fun _ _ _ h=>h) (Or.inl ⟨by rfl,?_⟩) ?_ ?_
     rotate_left
     ·intro w'
      go_simp
      with_reducible rfl
     rotate_left
     ·simp only[Act.put,List.setIfInBounds_toArray,List.set_cons_zero,List.set_cons_succ,i64_w,i32_w]
      rfl
     refine take_ (i:=0) (N:=some 35) (v:= ?_) (a':= ?_) #[true,true,true,true,false,false,true,false,true,false,false,false,false,false,false,false,false,false,false,false,false,false,false] rfl rfl (take_ofW HT_.out HW_.out (by kernel_rfl)) (fun _ _ _ h=>h) (Or.inl ⟨by rfl,?_⟩) hHeld ?_ ?_
     rotate_left
     ·rintro w' ⟨s0,s1,s2,s3,s4,s5,s6,s7,s8,s9⟩
      go_simp
      with_reducible rfl
     rotate_left
     ·simp only[Act.put,List.setIfInBounds_toArray,List.set_cons_zero,List.set_cons_succ,i64_w,i32_w]
      rfl
     refine take_ (i:=4) (N:=some 39) (v:= ?_) (a':= ?_) #[true,true,true,true,true,false,true,false,true,false,false,false,false,false,false,false,false,false,false,false,false,false,false] rfl rfl (take_ofW HT_.out HW_.out (by kernel_rfl)) (fun _ _ _ h=>h) (Or.inl ⟨by rfl,?_⟩) hHeld ?_ ?_
     rotate_left
     ·rintro w' ⟨s0,s1,s2,s3,s4,s5,s6,s7,s8,s9⟩
      go_simp
      with_reducible rfl
     rotate_left
     ·simp only[Act.put,List.setIfInBounds_toArray,List.set_cons_zero,List.set_cons_succ,i64_w,i32_w]
      rfl
     refine take_ (i:=7) (N:=some 42) (v:= ?_) (a':= ?_) #[true,true,true,true,true,false,true,true,true,false,false,false,false,false,false,false,false,false,false,false,false,false,false] rfl rfl (take_ofW HT_.out HW_.out (by kernel_rfl)) (fun _ _ _ h=>h) (Or.inl ⟨by rfl,?_⟩) hHeld ?_ ?_
     rotate_left
     ·rintro w' ⟨s0,s1,s2,s3,s4,s5,s6,s7,s8,s9⟩
      go_simp
      with_reducible rfl
     rotate_left
     ·simp only[Act.put,List.setIfInBounds_toArray,List.set_cons_zero,List.set_cons_succ,i64_w,i32_w]
      rfl
     refine pure_ (i:=9) (N:=some 44) (v:= ?_) (a':= ?_) #[true,true,true,true,true,false,true,true,true,true,false,false,false,false,false,false,false,false,false,false,false,false,false] rfl rfl (any_of HT_.out (by kernel_rfl)) (fun _ _ _ h=>h) (Or.inl ⟨by rfl,?_⟩) ?_ ?_
     rotate_left
     ·intro w'
      go_simp
      with_reducible rfl
     rotate_left
     ·simp only[Act.put,List.setIfInBounds_toArray,List.set_cons_zero,List.set_cons_succ,i64_w,i32_w]
      rfl
     refine take_ (i:=10) (N:=some 45) (v:= ?_) (a':= ?_) #[true,true,true,true,true,false,true,true,true,true,true,false,false,false,false,false,false,false,false,false,false,false,false] rfl rfl (take_ofW HT_.out HW_.out (by kernel_rfl)) (fun _ _ _ h=>h) (Or.inl ⟨by rfl,?_⟩) hHeld ?_ ?_
     rotate_left
     ·rintro w' ⟨s0,s1,s2,s3,s4,s5,s6,s7,s8,s9⟩
      go_simp
      with_reducible rfl
     rotate_left
     ·simp only[Act.put,List.setIfInBounds_toArray,List.set_cons_zero,List.set_cons_succ,i64_w,i32_w]
      rfl
     refine one_ (i:=5) (N:=some 40) #[true,true,true,true,true,true,true,true,true,true,true,false,false,false,false,false,false,false,false,false,false,false,false] rfl rfl (one_of HT_.out (by kernel_rfl)) (by decide) (fun K hK=> ?_);refine goes_ Try.func44 (by kernel_rfl) rfl #[.agg #[.int .i64 Zc, .bool Zb, .slice Ze Za.length Zd], .agg #[.int .i64 ((rd_T38 l2 Zy).f0), .bool ((rd_T38 l2 Zy).f1)]] (by rfl) rfl rfl (by(try simp only[List.map_toArray,List.map_cons,List.map_nil]);first|done|rfl|(simp only[List.length_drop,List.length_take];rfl)) ?_
     with_reducible refine(ebbtideref07_From.calls Zc Zb _ _ Za ((rd_T38 l2 Zy).f0) ((rd_T38 l2 Zy).f1) t459 _ ?side1 ?side2 A25.out).mono ?_
     (case side1=>repeat(first|exact(Yt Zl.out HB.out)|(with_reducible refine Kd.C_alloc ?_ _)|(with_reducible refine Kd.C_drewN ?_ _)|(with_reducible refine Kd.C_drew ?_)))
     (case side2=>exact Zv.out)
     rintro e w37 ⟨rfl,hb⟩;have HS7_:=(hb.cell (Yb _ _ (hHeld.2.2.2.2.2.2.2.1))).trans (hHeld.2.2.2.2.2.2.2.1);refine⟨_,rfl,?_⟩;have n0_:=Ya (Ys (by(with_reducible repeat(first|apply Yr|apply Yq|apply Yp));exact HO_452000.out) hb);have n1_:=Ya (Ys (by(with_reducible repeat(first|apply Yr|apply Yq|apply Yp));exact HO_452001.out) hb);have n2_:=Ya (Yn (g:=Wl) (o:= .cells #[.int .i64 Zc, .bool Zb, .slice Ze Za.length Zd] 24 (0,0)) (by(with_reducible repeat(first|refine Yl ?_ _|refine Ym ?_|refine Yj ?_ _));exact Zm.out) hb);have n3_:=Ya (Yn (g:=Vd) (o:= .cells #[.slice none 0 0, .slice none 0 0] 161 (0,0)) (by(with_reducible repeat(first|refine Yl ?_ _|refine Ym ?_|refine Yj ?_ _));exact Xa.out) hb);have n4_:=Ya (Yn (g:=Xo) (o:= .cells #[.slice (some Uu) Zi.length co36,u452001] 161 (0,0)) (by(with_reducible repeat(first|refine Yl ?_ _|refine Ym ?_|refine Yj ?_ _));exact Zj.out) hb);have n5_:=Ya (Yk (by repeat(first|(with_reducible first|exact HB.out|apply Ye|apply Yd|apply Yg|refine Yh ?_ Ve.out|refine Yh ?_ Ub.out|refine Yh ?_ Ux.out)|exact HB.out)) hb);clear HO_452000;clear HO_452001;clear Zm;clear Xa;clear Zj;clear HB;have HO_452000:=n0_;have HO_452001:=n1_;have Zm:=n2_;have Xa:=n3_;have Zj:=n4_;have HB:=n5_;clear n0_ n1_ n2_ n3_ n4_ n5_
     (try clear hb)
     (try clear hb2)
     (try clear hk)
     (try clear hi)
     refine hK.out _ _ ⟨(Yc Zm.out 0).trans rfl,(Yc Zm.out 1).trans rfl,(Yc Zm.out 2).trans rfl,(Yc Zj.out 0).trans rfl,(Yc Zj.out 1).trans rfl,((HB.out.cell (Yb w _ Wo)).trans Wo),((HB.out.cell (Yb w _ Wn)).trans Wn),HS7_,((HB.out.cell (Yb w _ Vn)).trans Vn),((HB.out.cell (Yb w _ Vm)).trans Vm)⟩ (fun hHeld=> ?_);clear hK K;refine norm_ (a':= ?_) ?_ ?_
     rotate_left
     ·show Act.put _ (some 40) _=_
      simp only[Act.put,List.setIfInBounds_toArray,List.set_cons_zero,List.set_cons_succ,i64_w,i32_w];rfl
     refine pure_ (i:=11) (N:=some 46) (v:= ?_) (a':= ?_) #[true,true,true,true,true,true,true,true,true,true,true,true,false,false,false,false,false,false,false,false,false,false,false] rfl rfl (any_of HT_.out (by kernel_rfl)) (fun _ _ _ h=>h) (Or.inl ⟨by rfl,?_⟩) ?_ ?_
     rotate_left
     ·intro w'
      go_simp
      with_reducible rfl
     rotate_left
     ·simp only[Act.put,List.setIfInBounds_toArray,List.set_cons_zero,List.set_cons_succ,i64_w,i32_w]
      rfl
     refine pure_ (i:=12) (N:=some 47) (v:= ?_) (a':= ?_) #[true,true,true,true,true,true,true,true,true,true,true,true,true,false,false,false,false,false,false,false,false,false,false] rfl rfl (any_of HT_.out (by kernel_rfl)) (fun _ _ _ h=>h) (Or.inl ⟨by rfl,?_⟩) ?_ ?_
     rotate_left
     ·intro w'
      go_simp
      with_reducible rfl
     rotate_left
     ·simp only[Act.put,List.setIfInBounds_toArray,List.set_cons_zero,List.set_cons_succ,i64_w,i32_w]
      rfl
     refine pure_ (i:=15) (N:=some 50) (v:= ?_) (a':= ?_) #[true,true,true,true,true,true,true,true,true,true,true,true,true,false,false,true,false,false,false,false,false,false,false] rfl rfl (any_of HT_.out (by kernel_rfl)) (fun _ _ _ h=>h) (Or.inl ⟨by rfl,?_⟩) ?_ ?_
     rotate_left
     ·intro w'
      go_simp
      with_reducible rfl
     rotate_left
     ·simp only[Act.put,List.setIfInBounds_toArray,List.set_cons_zero,List.set_cons_succ,i64_w,i32_w]
      rfl
     refine pure_ (i:=16) (N:=some 51) (v:= ?_) (a':= ?_) #[true,true,true,true,true,true,true,true,true,true,true,true,true,false,false,true,true,false,false,false,false,false,false] rfl rfl (any_of HT_.out (by kernel_rfl)) (fun _ _ _ h=>h) (Or.inl ⟨by rfl,?_⟩) ?_ ?_
     rotate_left
     ·intro w'
      go_simp
      with_reducible rfl
     rotate_left
     ·simp only[Act.put,List.setIfInBounds_toArray,List.set_cons_zero,List.set_cons_succ,i64_w,i32_w]
      rfl
     refine pure_ (i:=17) (N:=some 52) (v:= ?_) (a':= ?_) #[true,true,true,true,true,true,true,true,true,true,true,true,true,false,false,true,true,true,false,false,false,false,false] rfl rfl (any_of HT_.out (by kernel_rfl)) (fun _ _ _ h=>h) (Or.inl ⟨by rfl,?_⟩) ?_ ?_
     rotate_left
     ·intro w'
      go_simp
      with_reducible rfl
     rotate_left
     ·simp only[Act.put,List.setIfInBounds_toArray,List.set_cons_zero,List.set_cons_succ,i64_w,i32_w]
      rfl
     refine take_ (i:=13) (N:=some 48) (v:= ?_) (a':= ?_) #[true,true,true,true,true,true,true,true,true,true,true,true,true,true,false,true,true,true,false,false,false,false,false] rfl rfl (take_ofW HT_.out HW_.out (by kernel_rfl)) (fun _ _ _ h=>h) (Or.inl ⟨by rfl,?_⟩) hHeld ?_ ?_
     rotate_left
     ·rintro w' ⟨s0,s1,s2,s3,s4,s5,s6,s7,s8,s9⟩
      go_simp
      with_reducible rfl
     rotate_left
     ·simp only[Act.put,List.setIfInBounds_toArray,List.set_cons_zero,List.set_cons_succ,i64_w,i32_w]
      rfl
     refine take_ (i:=14) (N:=some 49) (v:= ?_) (a':= ?_) #[true,true,true,true,true,true,true,true,true,true,true,true,true,true,true,true,true,true,false,false,false,false,false] rfl rfl (take_ofW HT_.out HW_.out (by kernel_rfl)) (fun _ _ _ h=>h) (Or.inl ⟨by rfl,?_⟩) hHeld ?_ ?_
     rotate_left
     ·rintro w' ⟨s0,s1,s2,s3,s4,s5,s6,s7,s8,s9⟩
      go_simp
      with_reducible rfl
     rotate_left
     ·simp only[Act.put,List.setIfInBounds_toArray,List.set_cons_zero,List.set_cons_succ,i64_w,i32_w]
      rfl
     refine take_ (i:=18) (N:=some 53) (v:= ?_) (a':= ?_) #[true,true,true,true,true,true,true,true,true,true,true,true,true,true,true,true,true,true,true,false,false,false,false] rfl rfl (take_ofW HT_.out HW_.out (by kernel_rfl)) (fun _ _ _ h=>h) (Or.inl ⟨by rfl,?_⟩) hHeld ?_ ?_
     rotate_left
     ·rintro w' ⟨s0,s1,s2,s3,s4,s5,s6,s7,s8,s9⟩
      go_simp
      with_reducible rfl
     rotate_left
     ·simp only[Act.put,List.setIfInBounds_toArray,List.set_cons_zero,List.set_cons_succ,i64_w,i32_w]
      rfl
     refine one_ (i:=19) (N:=some 54) #[true,true,true,true,true,true,true,true,true,true,true,true,true,true,true,true,true,true,true,true,false,false,false] rfl rfl (one_of HT_.out (by kernel_rfl)) (by decide) (fun K hK=> ?_);refine goes_ Try.func45 (by kernel_rfl) rfl #[.agg #[.int .i64 Zc, .bool Zb, .slice Ze Za.length Zd], .agg #[.int .i64 ((rd_T38 l2 Zy).f0), .bool ((rd_T38 l2 Zy).f1)]] (by rfl) rfl rfl (by(try simp only[List.map_toArray,List.map_cons,List.map_nil]);first|done|rfl|(simp only[List.length_drop,List.length_take];rfl)) ?_
     with_reducible refine(ebbtideref07_To.calls Zc Zb _ _ Za ((rd_T38 l2 Zy).f0) ((rd_T38 l2 Zy).f1) t462 _ ?side1 ?side2 A29.out).mono ?_
     (case side1=>repeat(first|exact(Yt Zl.out HB.out)|(with_reducible refine Kd.C_alloc ?_ _)|(with_reducible refine Kd.C_drewN ?_ _)|(with_reducible refine Kd.C_drew ?_)))
     (case side2=>exact Zv.out)
     rintro e w38 ⟨rfl,hb⟩;have HS7_:=(hb.cell (Yb _ _ (hHeld.2.2.2.2.2.2.2.1))).trans (hHeld.2.2.2.2.2.2.2.1);refine⟨_,rfl,?_⟩;have n0_:=Ya (Ys (by(with_reducible repeat(first|apply Yr|apply Yq|apply Yp));exact HO_452000.out) hb);have n1_:=Ya (Ys (by(with_reducible repeat(first|apply Yr|apply Yq|apply Yp));exact HO_452001.out) hb);have n2_:=Ya (Yn (g:=Wl) (o:= .cells #[.int .i64 Zc, .bool Zb, .slice Ze Za.length Zd] 24 (0,0)) (by(with_reducible repeat(first|refine Yl ?_ _|refine Ym ?_|refine Yj ?_ _));exact Zm.out) hb);have n3_:=Ya (Yn (g:=Vd) (o:= .cells #[.slice none 0 0, .slice none 0 0] 161 (0,0)) (by(with_reducible repeat(first|refine Yl ?_ _|refine Ym ?_|refine Yj ?_ _));exact Xa.out) hb);have n4_:=Ya (Yn (g:=Xo) (o:= .cells #[.slice (some Uu) Zi.length co36,u452001] 161 (0,0)) (by(with_reducible repeat(first|refine Yl ?_ _|refine Ym ?_|refine Yj ?_ _));exact Zj.out) hb);have n5_:=Ya (Yk (by repeat(first|(with_reducible first|exact HB.out|apply Ye|apply Yd|apply Yg|refine Yh ?_ Ve.out|refine Yh ?_ Ub.out|refine Yh ?_ Ux.out)|exact HB.out)) hb);clear HO_452000;clear HO_452001;clear Zm;clear Xa;clear Zj;clear HB;have HO_452000:=n0_;have HO_452001:=n1_;have Zm:=n2_;have Xa:=n3_;have Zj:=n4_;have HB:=n5_;clear n0_ n1_ n2_ n3_ n4_ n5_
     (try clear hb)
     (try clear hb2)
     (try clear hk)
     (try clear hi)
     obtain⟨Ao39,co39,eo39⟩:=Kd.R_slice HO_452001.out
     (first|subst eo39|(injection eo39 with f1_ f2_ f3_;have f4_:=f1_.symm;have f5_:=f3_.symm;clear f1_ f2_ f3_;subst f4_;subst f5_))
     refine hK.out _ _ ⟨(Yc Zm.out 0).trans rfl,(Yc Zm.out 1).trans rfl,(Yc Zm.out 2).trans rfl,(Yc Zj.out 0).trans rfl,(Yc Zj.out 1).trans rfl,((HB.out.cell (Yb w _ Wo)).trans Wo),((HB.out.cell (Yb w _ Wn)).trans Wn),HS7_,((HB.out.cell (Yb w _ Vn)).trans Vn),((HB.out.cell (Yb w _ Vm)).trans Vm)⟩ (fun hHeld=> ?_);clear hK K;refine norm_ (a':= ?_) ?_ ?_
     rotate_left
     ·show Act.put _ (some 54) _=_
      simp only[Act.put,List.setIfInBounds_toArray,List.set_cons_zero,List.set_cons_succ,i64_w,i32_w];rfl
     refine one_ (i:=20) (N:=some 55) #[true,true,true,true,true,true,true,true,true,true,true,true,true,true,true,true,true,true,true,true,true,false,false] rfl rfl (one_of HT_.out (by kernel_rfl)) (by decide) (fun K hK=> ?_);refine goes_ Try.func147 (by kernel_rfl) rfl #[.agg #[.slice (some Uu) Zi.length co36, .slice Ao39 Zq.length co39], .int .i64 t462] (by rfl) rfl rfl (by(try simp only[List.map_toArray,List.map_cons,List.map_nil]);first|done|rfl|(simp only[List.length_drop,List.length_take];rfl)) ?_
     with_reducible refine(ebbtideref08_found_has.calls k2 _ _ Zi _ _ Zq t462 t463 _ ?side1 ?side2 ?side3 ?side4 A30.out).mono ?_
     (case side1=>repeat(first|exact(Kd.R_reads' HO_452000.out).2.2|(with_reducible refine Kd.C_alloc ?_ _)|(with_reducible refine Kd.C_drewN ?_ _)|(with_reducible refine Kd.C_drew ?_)))
     (case side2=>exact(Kd.R_reads' HO_452000.out).2.1)
     (case side3=>repeat(first|exact(Kd.R_reads' HO_452001.out).2.2|(with_reducible refine Kd.C_alloc ?_ _)|(with_reducible refine Kd.C_drewN ?_ _)|(with_reducible refine Kd.C_drew ?_)))
     (case side4=>exact(Kd.R_reads' HO_452001.out).2.1)
     rintro e w40 ⟨rfl,hb⟩;have HS7_:=(hb.cell (Yb _ _ (hHeld.2.2.2.2.2.2.2.1))).trans (hHeld.2.2.2.2.2.2.2.1);refine⟨_,rfl,?_⟩;have n0_:=Ya (Ys (by(with_reducible repeat(first|apply Yr|apply Yq|apply Yp));exact HO_452000.out) hb);have n1_:=Ya (Ys (by(with_reducible repeat(first|apply Yr|apply Yq|apply Yp));exact HO_452001.out) hb);have n2_:=Ya (Yn (g:=Wl) (o:= .cells #[.int .i64 Zc, .bool Zb, .slice Ze Za.length Zd] 24 (0,0)) (by(with_reducible repeat(first|refine Yl ?_ _|refine Ym ?_|refine Yj ?_ _));exact Zm.out) hb);have n3_:=Ya (Yn (g:=Vd) (o:= .cells #[.slice none 0 0, .slice none 0 0] 161 (0,0)) (by(with_reducible repeat(first|refine Yl ?_ _|refine Ym ?_|refine Yj ?_ _));exact Xa.out) hb);have n4_:=Ya (Yn (g:=Xo) (o:= .cells #[.slice (some Uu) Zi.length co36, .slice Ao39 Zq.length co39] 161 (0,0)) (by(with_reducible repeat(first|refine Yl ?_ _|refine Ym ?_|refine Yj ?_ _));exact Zj.out) hb);have n5_:=Ya (Yk (by repeat(first|(with_reducible first|exact HB.out|apply Ye|apply Yd|apply Yg|refine Yh ?_ Ve.out|refine Yh ?_ Ub.out|refine Yh ?_ Ux.out)|exact HB.out)) hb);clear HO_452000;clear HO_452001;clear Zm;clear Xa;clear Zj;clear HB;have HO_452000:=n0_;have HO_452001:=n1_;have Zm:=n2_;have Xa:=n3_;have Zj:=n4_;have HB:=n5_;clear n0_ n1_ n2_ n3_ n4_ n5_
     (try clear hb)
     (try clear hb2)
     (try clear hk)
     (try clear hi)
     refine hK.out _ _ ⟨(Yc Zm.out 0).trans rfl,(Yc Zm.out 1).trans rfl,(Yc Zm.out 2).trans rfl,(Yc Zj.out 0).trans rfl,(Yc Zj.out 1).trans rfl,((HB.out.cell (Yb w _ Wo)).trans Wo),((HB.out.cell (Yb w _ Wn)).trans Wn),HS7_,((HB.out.cell (Yb w _ Vn)).trans Vn),((HB.out.cell (Yb w _ Vm)).trans Vm)⟩ (fun hHeld=> ?_);clear hK K;refine norm_ (a':= ?_) ?_ ?_
     rotate_left
     ·show Act.put _ (some 55) _=_
      simp only[Act.put,List.setIfInBounds_toArray,List.set_cons_zero,List.set_cons_succ,i64_w,i32_w];rfl
     refine pure_ (i:=21) (N:=some 56) (v:= ?_) (a':= ?_) #[true,true,true,true,true,true,true,true,true,true,true,true,true,true,true,true,true,true,true,true,true,true,false] rfl rfl (any_of HT_.out (by kernel_rfl)) (fun _ _ _ h=>h) (Or.inl ⟨by rfl,?_⟩) ?_ ?_
     rotate_left
     ·intro w'
      go_simp
      with_reducible rfl
     rotate_left
     ·simp only[Act.put,List.setIfInBounds_toArray,List.set_cons_zero,List.set_cons_succ,i64_w,i32_w]
      rfl
     refine pure_ (i:=22) (N:=some 57) (v:= ?_) (a':= ?_) #[true,true,true,true,true,true,true,true,true,true,true,true,true,true,true,true,true,true,true,true,true,true,true] rfl rfl (any_of HT_.out (by kernel_rfl)) (fun _ _ _ h=>h) (Or.inl ⟨by rfl,?_⟩) ?_ ?_
     rotate_left
     ·intro w'
      go_simp
      with_reducible rfl
     rotate_left
     ·simp only[Act.put,List.setIfInBounds_toArray,List.set_cons_zero,List.set_cons_succ,i64_w,i32_w]
      rfl
     refine done_ (done_of HT_.out (by kernel_rfl)) ?_;try go_wp2
     have n0_:=Ya (Yp HO_452000.out);have n1_:=Ya (Yp HO_452001.out);have n2_:=Ya (Ym Zm.out);have n3_:=Ya (Ym Xa.out);have n4_:=Ya (Ym Zj.out);have n5_:=Ya (Yg HB.out);clear HO_452000;clear HO_452001;clear Zm;clear Xa;clear Zj;clear HB;have HO_452000:=n0_;have HO_452001:=n1_;have Zm:=n2_;have Xa:=n3_;have Zj:=n4_;have HB:=n5_;clear n0_ n1_ n2_ n3_ n4_ n5_;have p464:0≤(Zy:Int):=Yu (by first|(with_reducible assumption)|assumption);have q464:Zy<(l2.length:Int):=Yu (by first|(with_reducible assumption)|assumption);obtain⟨ad464,e464,hx464_0,hx464_1⟩:=at_T38 HR2.out Zy p464 q464;have hw464_1:=hx464_1;have hw464_0:=hx464_0;obtain rfl:Uc=ad464:=(by injection e464);replace hx464_0:=(HB.out.cell (Yb w _ hx464_0)).trans hx464_0;replace hx464_1:=(HB.out.cell (Yb w _ hx464_1)).trans hx464_1;replace p464:=eq_true p464;replace q464:=eq_true q464;refine start_ (n:=12) (S:=fun w'=>w'.cell? ⟨Xo,0,none⟩=some (.slice (some Uu) Zi.length co36)∧w'.cell? ⟨Xo,1,none⟩=some (.slice Ao39 Zq.length co39)∧w'.cell? ⟨Wl,0,none⟩=some (.int .i64 Zc)∧w'.cell? ⟨Wl,1,none⟩=some (.bool Zb)∧w'.cell? ⟨Wl,2,none⟩=some (.slice Ze Za.length Zd)∧w'.cell? (Uc.add ((Zy).toNat * 2))=some (.int .i64 ((rd_T38 l2 Zy).f0))∧w'.cell? ⟨(Uc.add ((Zy).toNat * 2)).block,(Uc.add ((Zy).toNat * 2)).off+1,none⟩=some (.bool ((rd_T38 l2 Zy).f1))) (ds:=[11]) #[false,false,false,false,false,false,false,false,false,false,false,false] (by kernel_rfl) rfl rfl ⟨(Yc Zj.out 0).trans rfl,(Yc Zj.out 1).trans rfl,(Yc Zm.out 0).trans rfl,(Yc Zm.out 1).trans rfl,(Yc Zm.out 2).trans rfl,((HB.out.cell (Yb w _ hw464_0)).trans hw464_0),((HB.out.cell (Yb w _ hw464_1)).trans hw464_1)⟩ (fun hHeld=> ?_);refine with_tabW ebbtideref08_sought.tab11 ebbtideref08_sought.bits11 (fun HT_ HW_=> ?_);generalize w40.drew=w41 at HO_452000 HO_452001 Zm Xa Zj HB hx464_0 hx464_1 hHeld ⊢;refine pure_ (i:=0) (N:=some 58) (v:= ?_) (a':= ?_) #[true,false,false,false,false,false,false,false,false,false,false,false] rfl rfl (any_of HT_.out (by kernel_rfl)) (fun _ _ _ h=>h) (Or.inl ⟨by rfl,?_⟩) ?_ ?_
     rotate_left
     ·intro w'
      go_simp
      with_reducible rfl
     rotate_left
     ·simp only[Act.put,List.setIfInBounds_toArray,List.set_cons_zero,List.set_cons_succ,i64_w,i32_w]
      rfl
     refine pure_ (i:=3) (N:=some 61) (v:= ?_) (a':= ?_) #[true,false,false,true,false,false,false,false,false,false,false,false] rfl rfl (any_of HT_.out (by kernel_rfl)) (fun _ _ _ h=>h) (Or.inl ⟨by rfl,?_⟩) ?_ ?_
     rotate_left
     ·intro w'
      go_simp
      with_reducible rfl
     rotate_left
     ·simp only[Act.put,List.setIfInBounds_toArray,List.set_cons_zero,List.set_cons_succ,i64_w,i32_w]
      rfl
     refine pure_ (i:=4) (N:=some 62) (v:= ?_) (a':= ?_) #[true,false,false,true,true,false,false,false,false,false,false,false] rfl rfl (any_of HT_.out (by kernel_rfl)) (fun _ _ _ h=>h) (Or.inl ⟨by rfl,?_⟩) ?_ ?_
     rotate_left
     ·intro w'
      go_simp
      with_reducible rfl
     rotate_left
     ·simp only[Act.put,List.setIfInBounds_toArray,List.set_cons_zero,List.set_cons_succ,i64_w,i32_w]
      rfl
     refine pure_ (i:=5) (N:=some 63) (v:= ?_) (a':= ?_) #[true,false,false,true,true,true,false,false,false,false,false,false] rfl rfl (any_of HT_.out (by kernel_rfl)) (fun _ _ _ h=>h) (Or.inl ⟨by rfl,?_⟩) ?_ ?_
     rotate_left
     ·intro w'
      go_simp
      with_reducible rfl
     rotate_left
     ·simp only[Act.put,List.setIfInBounds_toArray,List.set_cons_zero,List.set_cons_succ,i64_w,i32_w]
      rfl
     refine take_ (i:=1) (N:=some 59) (v:= ?_) (a':= ?_) #[true,true,false,true,true,true,false,false,false,false,false,false] rfl rfl (take_ofW HT_.out HW_.out (by kernel_rfl)) (fun _ _ _ h=>h) (Or.inl ⟨by rfl,?_⟩) hHeld ?_ ?_
     rotate_left
     ·rintro w' ⟨s0,s1,s2,s3,s4,s5,s6⟩
      go_simp
      with_reducible rfl
     rotate_left
     ·simp only[Act.put,List.setIfInBounds_toArray,List.set_cons_zero,List.set_cons_succ,i64_w,i32_w]
      rfl
     refine take_ (i:=2) (N:=some 60) (v:= ?_) (a':= ?_) #[true,true,true,true,true,true,false,false,false,false,false,false] rfl rfl (take_ofW HT_.out HW_.out (by kernel_rfl)) (fun _ _ _ h=>h) (Or.inl ⟨by rfl,?_⟩) hHeld ?_ ?_
     rotate_left
     ·rintro w' ⟨s0,s1,s2,s3,s4,s5,s6⟩
      go_simp
      with_reducible rfl
     rotate_left
     ·simp only[Act.put,List.setIfInBounds_toArray,List.set_cons_zero,List.set_cons_succ,i64_w,i32_w]
      rfl
     refine take_ (i:=6) (N:=some 64) (v:= ?_) (a':= ?_) #[true,true,true,true,true,true,true,false,false,false,false,false] rfl rfl (take_ofW HT_.out HW_.out (by kernel_rfl)) (fun _ _ _ h=>h) (Or.inl ⟨by rfl,?_⟩) hHeld ?_ ?_
     rotate_left
     ·rintro w' ⟨s0,s1,s2,s3,s4,s5,s6⟩
      go_simp
      with_reducible rfl
     rotate_left
     ·simp only[Act.put,List.setIfInBounds_toArray,List.set_cons_zero,List.set_cons_succ,i64_w,i32_w]
      rfl
     refine one_ (i:=7) (N:=some 65) #[true,true,true,true,true,true,true,true,false,false,false,false] rfl rfl (one_of HT_.out (by kernel_rfl)) (by decide) (fun K hK=> ?_);refine goes_ Try.func45 (by kernel_rfl) rfl #[.agg #[.int .i64 Zc, .bool Zb, .slice Ze Za.length Zd], .agg #[.int .i64 ((rd_T38 l2 Zy).f0), .bool ((rd_T38 l2 Zy).f1)]] (by rfl) rfl rfl (by(try simp only[List.map_toArray,List.map_cons,List.map_nil]);first|done|rfl|(simp only[List.length_drop,List.length_take];rfl)) ?_
     with_reducible refine(ebbtideref07_To.calls Zc Zb _ _ Za ((rd_T38 l2 Zy).f0) ((rd_T38 l2 Zy).f1) t465 _ ?side1 ?side2 A32.out).mono ?_
     (case side1=>repeat(first|exact(Yt Zl.out HB.out)|(with_reducible refine Kd.C_alloc ?_ _)|(with_reducible refine Kd.C_drewN ?_ _)|(with_reducible refine Kd.C_drew ?_)))
     (case side2=>exact Zv.out)
     rintro e w42 ⟨rfl,hb⟩;refine⟨_,rfl,?_⟩;have n0_:=Ya (Ys (by(with_reducible repeat(first|apply Yr|apply Yq|apply Yp));exact HO_452000.out) hb);have n1_:=Ya (Ys (by(with_reducible repeat(first|apply Yr|apply Yq|apply Yp));exact HO_452001.out) hb);have n2_:=Ya (Yn (g:=Wl) (o:= .cells #[.int .i64 Zc, .bool Zb, .slice Ze Za.length Zd] 24 (0,0)) (by(with_reducible repeat(first|refine Yl ?_ _|refine Ym ?_|refine Yj ?_ _));exact Zm.out) hb);have n3_:=Ya (Yn (g:=Vd) (o:= .cells #[.slice none 0 0, .slice none 0 0] 161 (0,0)) (by(with_reducible repeat(first|refine Yl ?_ _|refine Ym ?_|refine Yj ?_ _));exact Xa.out) hb);have n4_:=Ya (Yn (g:=Xo) (o:= .cells #[.slice (some Uu) Zi.length co36, .slice Ao39 Zq.length co39] 161 (0,0)) (by(with_reducible repeat(first|refine Yl ?_ _|refine Ym ?_|refine Yj ?_ _));exact Zj.out) hb);have n5_:=Ya (Yk (by repeat(first|(with_reducible first|exact HB.out|apply Ye|apply Yd|apply Yg|refine Yh ?_ Ve.out|refine Yh ?_ Ub.out|refine Yh ?_ Ux.out)|exact HB.out)) hb);clear HO_452000;clear HO_452001;clear Zm;clear Xa;clear Zj;clear HB;have HO_452000:=n0_;have HO_452001:=n1_;have Zm:=n2_;have Xa:=n3_;have Zj:=n4_;have HB:=n5_;clear n0_ n1_ n2_ n3_ n4_ n5_
     (try clear hb)
     (try clear hb2)
     (try clear hk)
     (try clear hi)
     refine hK.out _ _ ⟨(Yc Zj.out 0).trans rfl,(Yc Zj.out 1).trans rfl,(Yc Zm.out 0).trans rfl,(Yc Zm.out 1).trans rfl,(Yc Zm.out 2).trans rfl,((HB.out.cell (Yb w _ hw464_0)).trans hw464_0),((HB.out.cell (Yb w _ hw464_1)).trans hw464_1)⟩ (fun hHeld=> ?_);clear hK K;refine norm_ (a':= ?_) ?_ ?_
     rotate_left
     ·show Act.put _ (some 65) _=_
      simp only[Act.put,List.setIfInBounds_toArray,List.set_cons_zero,List.set_cons_succ,i64_w,i32_w];rfl
     refine one_ (i:=8) (N:=some 66) #[true,true,true,true,true,true,true,true,true,false,false,false] rfl rfl (one_of HT_.out (by kernel_rfl)) (by decide) (fun K hK=> ?_);refine value_ (w1:= ?_) (v:= ?_) (by rfl) rfl ?_ ?_
     rotate_left 2
     ·go_simp
      constructor
      ·rfl
      ·rfl
     refine hK.out _ _ ⟨(Yc (Yj Zj.out _) 0).trans rfl,(Yc (Yj Zj.out _) 1).trans rfl,(Yc (Yj Zm.out _) 0).trans rfl,(Yc (Yj Zm.out _) 1).trans rfl,(Yc (Yj Zm.out _) 2).trans rfl,(World.cell?_alloc_lt _ _ _ (Yb _ _ (((HB.out.cell (Yb w _ hw464_0)).trans hw464_0)))).trans (((HB.out.cell (Yb w _ hw464_0)).trans hw464_0)),(World.cell?_alloc_lt _ _ _ (Yb _ _ (((HB.out.cell (Yb w _ hw464_1)).trans hw464_1)))).trans (((HB.out.cell (Yb w _ hw464_1)).trans hw464_1))⟩ (fun hHeld=> ?_);clear hK K;refine norm_ (a':= ?_) ?_ ?_
     rotate_left
     ·show Act.put _ (some 66) _=_
      simp only[Act.put,List.setIfInBounds_toArray,List.set_cons_zero,List.set_cons_succ,i64_w,i32_w];rfl
     refine one_ (i:=9) (N:=some 67) #[true,true,true,true,true,true,true,true,true,true,false,false] rfl rfl (one_of HT_.out (by kernel_rfl)) (by decide) (fun K hK=> ?_);refine Kd.R_append_step (Kd.int .i64) (w0:=w) w.heap.size (by rfl) (.tmp 59) (.tmp 66) 25 3 (.int .i64 0) 8 rfl Try.underlying25 info3 rfl (by decide) (by omega) (.slice (some Uu) Zi.length co36) Zi t465 [.int .i64 t465] (fun _=>True) (fun _=>False) rfl rfl ?aP (fun _ hk=>hk.elim) ?aF ?aO ?aB ?aS ?aL ?_
     (case aP=>exact rfl)
     (case aB=>exact(by repeat(first|(with_reducible first|exact HB.out|apply Ye|apply Yd|apply Yg|refine Yh ?_ Ve.out|refine Yh ?_ Ub.out|refine Yh ?_ Ux.out)|exact HB.out)))
     (case aF=>exact(fun _ _=>trivial))
     (case aO=>exact(by(with_reducible repeat(first|apply Yr|apply Yq|apply Yp));exact HO_452000.out))
     (case aS=>exact(Yi (by repeat(first|(with_reducible first|exact HB.out|apply Ye|apply Yd|apply Yg|refine Yh ?_ Ve.out|refine Yh ?_ Ub.out|refine Yh ?_ Ux.out)|exact HB.out))))
     (case aL=>have:=LMc33.out;omega)
     intro v467 w43 ho hb hg hat
     rw[← Ny466.out] at ho;have n0_:=Ya (Kd.R_over' (by(with_reducible repeat(first|apply Yr|apply Yq|apply Yp));exact HO_452001.out) (Kd.R_typed (by(with_reducible repeat(first|apply Yr|apply Yq|apply Yp));exact HO_452000.out)) (by decide) hg);have n1_:=Ya (blk_grown (g:=Wl) (o:= .cells #[.int .i64 Zc, .bool Zb, .slice Ze Za.length Zd] 24 (0,0)) (by(with_reducible repeat(first|refine Yl ?_ _|refine Ym ?_|refine Yj ?_ _));exact Zm.out) hg (Kd.R_ne HO_452000.out Zm.out (by decide)));have n2_:=Ya (blk_grown (g:=Vd) (o:= .cells #[.slice none 0 0, .slice none 0 0] 161 (0,0)) (by(with_reducible repeat(first|refine Yl ?_ _|refine Ym ?_|refine Yj ?_ _));exact Xa.out) hg (Kd.R_ne HO_452000.out Xa.out (by decide)));have n3_:=Ya (blk_grown (g:=Xo) (o:= .cells #[.slice (some Uu) Zi.length co36, .slice Ao39 Zq.length co39] 161 (0,0)) (by(with_reducible repeat(first|refine Yl ?_ _|refine Ym ?_|refine Yj ?_ _));exact Zj.out) hg (Kd.R_ne HO_452000.out Zj.out (by decide)));have n4_:=Ya (hb);have n5_:=Ya (ho);clear HO_452001;clear Zm;clear Xa;clear Zj;clear HB;clear HO_452000;have HO_452001:=n0_;have Zm:=n1_;have Xa:=n2_;have Zj:=n3_;have HB:=n4_;have HO468:=n5_;clear n0_ n1_ n2_ n3_ n4_ n5_;clear ho hb hg hat
     obtain⟨Ao44,co44,eo44⟩:=Kd.R_slice HO468.out
     (first|subst eo44|(injection eo44 with f1_ f2_ f3_;have f4_:=f1_.symm;have f5_:=f3_.symm;clear f1_ f2_ f3_;subst f4_;subst f5_))
     refine hK.out _ _ ⟨(Yc Zj.out 0).trans rfl,(Yc Zj.out 1).trans rfl,(Yc Zm.out 0).trans rfl,(Yc Zm.out 1).trans rfl,(Yc Zm.out 2).trans rfl,((HB.out.cell (Yb w _ hw464_0)).trans hw464_0),((HB.out.cell (Yb w _ hw464_1)).trans hw464_1)⟩ (fun hHeld=> ?_);clear hK K;refine norm_ (a':= ?_) ?_ ?_
     rotate_left
     ·show Act.put _ (some 67) _=_
      simp only[Act.put,List.setIfInBounds_toArray,List.set_cons_zero,List.set_cons_succ,i64_w,i32_w];rfl
     refine pure_ (i:=10) (N:=some 68) (v:= ?_) (a':= ?_) #[true,true,true,true,true,true,true,true,true,true,true,false] rfl rfl (any_of HT_.out (by kernel_rfl)) (fun _ _ _ h=>h) (Or.inl ⟨by rfl,?_⟩) ?_ ?_
     rotate_left
     ·intro w'
      go_simp
      with_reducible rfl
     rotate_left
     ·simp only[Act.put,List.setIfInBounds_toArray,List.set_cons_zero,List.set_cons_succ,i64_w,i32_w]
      rfl
     refine last_ (i:=11) (N:=none) #[true,true,true,true,true,true,true,true,true,true,true,true] rfl rfl (one_of HT_.out (by kernel_rfl)) (by decide) (fun K hK=> ?_);have hs45:w43.cell? ⟨Xo,0,none⟩=some (.slice (some Uu) Zi.length co36):=(Yc Zj.out 0).trans rfl;have hfs45:=Yf Zj.out 0;have hns45_0:=Js.out;have hns45_1:=Jt.out;have hms45_0:=NB451_449.out;have hms45_1:=NB451_450.out;refine skip_ (w1:= ?_) (by rfl) rfl ?_ ?_
     rotate_left
     ·go_simp
      rfl
     refine hK.out _ _ ?_;clear hK K;refine done_ (done_of HT_.out (by kernel_rfl)) ?_;try go_wp2
     have n0_:Aside0 (Kd.R k38 38 (w43.setCell ⟨Xo,0,none⟩ (.slice Ao44 y466.length co44)) w.heap.size (fun _=>True) (.slice Ao39 Zq.length co39) Zq):=⟨by(with_reducible repeat(first|apply Yr|apply Yq|apply Yp));exact Kd.R_mono (Kd.R_far (p:=⟨Xo,0,none⟩) (Kd.R_types HO_452001.out Zj.out (by decide)) (fun _ hk=>hk.2) (.slice Ao44 y466.length co44)) (fun _ hk=>trivial)⟩;have n1_:Aside0 (Kd.R (Kd.int .i64) 3 (w43.setCell ⟨Xo,0,none⟩ (.slice Ao44 y466.length co44)) w.heap.size (fun _=>True) (.slice Ao44 y466.length co44) y466):=⟨by(with_reducible repeat(first|apply Yr|apply Yq|apply Yp));exact Kd.R_mono (Kd.R_far (p:=⟨Xo,0,none⟩) (Kd.R_types HO468.out Zj.out (by decide)) (fun _ hk=>hk.2) (.slice Ao44 y466.length co44)) (fun _ hk=>trivial)⟩;have n2_:Aside0 ((w43.setCell ⟨Xo,0,none⟩ (.slice Ao44 y466.length co44)).heap[Wl]? =some (.cells #[.int .i64 Zc, .bool Zb, .slice Ze Za.length Zd] 24 (0,0))):=⟨by(with_reducible repeat(first|refine Yl ?_ _|refine Ym ?_|refine Yj ?_ _));refine blk_far ?_ Js.out _;(with_reducible repeat(first|refine Yl ?_ _|refine Ym ?_|refine Yj ?_ _));exact Zm.out⟩;have n3_:Aside0 ((w43.setCell ⟨Xo,0,none⟩ (.slice Ao44 y466.length co44)).heap[Vd]? =some (.cells #[.slice none 0 0, .slice none 0 0] 161 (0,0))):=⟨by(with_reducible repeat(first|refine Yl ?_ _|refine Ym ?_|refine Yj ?_ _));refine blk_far ?_ Jt.out _;(with_reducible repeat(first|refine Yl ?_ _|refine Ym ?_|refine Yj ?_ _));exact Xa.out⟩;have n4_:Aside0 ((w43.setCell ⟨Xo,0,none⟩ (.slice Ao44 y466.length co44)).heap[Xo]? =some (.cells #[.slice Ao44 y466.length co44, .slice Ao39 Zq.length co39] 161 (0,0))):=⟨by(with_reducible repeat(first|refine Yl ?_ _|refine Ym ?_|refine Yj ?_ _));refine YA (cs:= #[.slice (some Uu) Zi.length co36, .slice Ao39 Zq.length co39]) ?_ 0 _ rfl;(with_reducible repeat(first|refine Yl ?_ _|refine Ym ?_|refine Yj ?_ _));exact Zj.out⟩;have n5_:Aside0 (Below w.heap.size w (w43.setCell ⟨Xo,0,none⟩ (.slice Ao44 y466.length co44))):=⟨by repeat(first|(with_reducible first|exact HB.out|apply Ye|apply Yd|apply Yg|refine Yh ?_ Ve.out|refine Yh ?_ Ub.out|refine Yh ?_ Ux.out)|exact HB.out)⟩
     (try clear HO_452001)
     (try clear HO468)
     (try clear Zm)
     (try clear Xa)
     (try clear Zj)
     (try clear HB)
     generalize (w43.setCell ⟨Xo,0,none⟩ (.slice Ao44 y466.length co44))=w46 at n0_ n1_ n2_ n3_ n4_ n5_ ⊢;have HO_452001:=n0_;have HO468:=n1_;have Zm:=n2_;have Xa:=n3_;have Zj:=n4_;have HB:=n5_;clear n0_ n1_ n2_ n3_ n4_ n5_;have n0_:=Ya (Yp HO_452001.out);have n1_:=Ya (Yp HO468.out);have n2_:=Ya (Ym Zm.out);have n3_:=Ya (Ym Xa.out);have n4_:=Ya (Ym Zj.out);have n5_:=Ya (Yg HB.out);clear HO_452001;clear HO468;clear Zm;clear Xa;clear Zj;clear HB;have HO_452001:=n0_;have HO468:=n1_;have Zm:=n2_;have Xa:=n3_;have Zj:=n4_;have HB:=n5_;clear n0_ n1_ n2_ n3_ n4_ n5_;have p469:0≤(Zy:Int):=Yu (by first|(with_reducible assumption)|assumption);have q469:Zy<(l2.length:Int):=Yu (by first|(with_reducible assumption)|assumption);obtain⟨ad469,e469,hx469_0,hx469_1⟩:=at_T38 HR2.out Zy p469 q469;have hw469_1:=hx469_1;have hw469_0:=hx469_0;obtain rfl:Uc=ad469:=(by injection e469);replace hx469_0:=(HB.out.cell (Yb w _ hx469_0)).trans hx469_0;replace hx469_1:=(HB.out.cell (Yb w _ hx469_1)).trans hx469_1;replace p469:=eq_true p469;replace q469:=eq_true q469;refine start_ (n:=10) (S:=fun w'=>w'.cell? ⟨Xo,0,none⟩=some (.slice Ao44 y466.length co44)∧w'.cell? ⟨Xo,1,none⟩=some (.slice Ao39 Zq.length co39)∧w'.cell? (Uc.add ((Zy).toNat * 2))=some (.int .i64 ((rd_T38 l2 Zy).f0))∧w'.cell? ⟨(Uc.add ((Zy).toNat * 2)).block,(Uc.add ((Zy).toNat * 2)).off+1,none⟩=some (.bool ((rd_T38 l2 Zy).f1))) (ds:=[9]) #[false,false,false,false,false,false,false,false,false,false] (by kernel_rfl) rfl rfl ⟨(Yc Zj.out 0).trans rfl,(Yc Zj.out 1).trans rfl,((HB.out.cell (Yb w _ hw469_0)).trans hw469_0),((HB.out.cell (Yb w _ hw469_1)).trans hw469_1)⟩ (fun hHeld=> ?_);refine with_tabW ebbtideref08_sought.tab12 ebbtideref08_sought.bits12 (fun HT_ HW_=> ?_);generalize w46.drew=w47 at HO_452001 HO468 Zm Xa Zj HB hx469_0 hx469_1 hHeld ⊢;refine pure_ (i:=0) (N:=some 69) (v:= ?_) (a':= ?_) #[true,false,false,false,false,false,false,false,false,false] rfl rfl (any_of HT_.out (by kernel_rfl)) (fun _ _ _ h=>h) (Or.inl ⟨by rfl,?_⟩) ?_ ?_
     rotate_left
     ·intro w'
      go_simp
      with_reducible rfl
     rotate_left
     ·simp only[Act.put,List.setIfInBounds_toArray,List.set_cons_zero,List.set_cons_succ,i64_w,i32_w]
      rfl
     refine pure_ (i:=2) (N:=some 71) (v:= ?_) (a':= ?_) #[true,false,true,false,false,false,false,false,false,false] rfl rfl (any_of HT_.out (by kernel_rfl)) (fun _ _ _ h=>h) (Or.inl ⟨by rfl,?_⟩) ?_ ?_
     rotate_left
     ·intro w'
      go_simp
      with_reducible rfl
     rotate_left
     ·simp only[Act.put,List.setIfInBounds_toArray,List.set_cons_zero,List.set_cons_succ,i64_w,i32_w]
      rfl
     refine pure_ (i:=3) (N:=some 72) (v:= ?_) (a':= ?_) #[true,false,true,true,false,false,false,false,false,false] rfl rfl (any_of HT_.out (by kernel_rfl)) (fun _ _ _ h=>h) (Or.inl ⟨by rfl,?_⟩) ?_ ?_
     rotate_left
     ·intro w'
      go_simp
      with_reducible rfl
     rotate_left
     ·simp only[Act.put,List.setIfInBounds_toArray,List.set_cons_zero,List.set_cons_succ,i64_w,i32_w]
      rfl
     refine pure_ (i:=4) (N:=some 73) (v:= ?_) (a':= ?_) #[true,false,true,true,true,false,false,false,false,false] rfl rfl (any_of HT_.out (by kernel_rfl)) (fun _ _ _ h=>h) (Or.inl ⟨by rfl,?_⟩) ?_ ?_
     rotate_left
     ·intro w'
      go_simp
      with_reducible rfl
     rotate_left
     ·simp only[Act.put,List.setIfInBounds_toArray,List.set_cons_zero,List.set_cons_succ,i64_w,i32_w]
      rfl
     refine take_ (i:=1) (N:=some 70) (v:= ?_) (a':= ?_) #[true,true,true,true,true,false,false,false,false,false] rfl rfl (take_ofW HT_.out HW_.out (by kernel_rfl)) (fun _ _ _ h=>h) (Or.inl ⟨by rfl,?_⟩) hHeld ?_ ?_
     rotate_left
     ·rintro w' ⟨s0,s1,s2,s3⟩
      go_simp
      with_reducible rfl
     rotate_left
     ·simp only[Act.put,List.setIfInBounds_toArray,List.set_cons_zero,List.set_cons_succ,i64_w,i32_w]
      rfl
     refine take_ (i:=5) (N:=some 74) (v:= ?_) (a':= ?_) #[true,true,true,true,true,true,false,false,false,false] rfl rfl (take_ofW HT_.out HW_.out (by kernel_rfl)) (fun _ _ _ h=>h) (Or.inl ⟨by rfl,?_⟩) hHeld ?_ ?_
     rotate_left
     ·rintro w' ⟨s0,s1,s2,s3⟩
      go_simp
      with_reducible rfl
     rotate_left
     ·simp only[Act.put,List.setIfInBounds_toArray,List.set_cons_zero,List.set_cons_succ,i64_w,i32_w]
      rfl
     refine one_ (i:=6) (N:=some 75) #[true,true,true,true,true,true,true,false,false,false] rfl rfl (one_of HT_.out (by kernel_rfl)) (by decide) (fun K hK=> ?_);refine value_ (w1:= ?_) (v:= ?_) (by rfl) rfl ?_ ?_
     rotate_left 2
     ·go_simp
      constructor
      ·rfl
      ·rfl
     refine hK.out _ _ ⟨(Yc (Yj Zj.out _) 0).trans rfl,(Yc (Yj Zj.out _) 1).trans rfl,(World.cell?_alloc_lt _ _ _ (Yb _ _ (((HB.out.cell (Yb w _ hw469_0)).trans hw469_0)))).trans (((HB.out.cell (Yb w _ hw469_0)).trans hw469_0)),(World.cell?_alloc_lt _ _ _ (Yb _ _ (((HB.out.cell (Yb w _ hw469_1)).trans hw469_1)))).trans (((HB.out.cell (Yb w _ hw469_1)).trans hw469_1))⟩ (fun hHeld=> ?_);clear hK K;refine norm_ (a':= ?_) ?_ ?_
     rotate_left
     ·show Act.put _ (some 75) _=_
      simp only[Act.put,List.setIfInBounds_toArray,List.set_cons_zero,List.set_cons_succ,i64_w,i32_w];rfl
     refine one_ (i:=7) (N:=some 76) #[true,true,true,true,true,true,true,true,false,false] rfl rfl (one_of HT_.out (by kernel_rfl)) (by decide) (fun K hK=> ?_);refine Kd.R_append_step k38 (w0:=w) w.heap.size (by rfl) (.tmp 70) (.tmp 75) 34 38 (.agg #[(.int .i64 0),(.bool false)]) 16 rfl Try.underlying34 info38 rfl (by decide) (by omega) (.slice Ao39 Zq.length co39) Zq (⟨(rd_T38 l2 Zy).f0,(rd_T38 l2 Zy).f1⟩:S38) [.int .i64 ((rd_T38 l2 Zy).f0), .bool ((rd_T38 l2 Zy).f1)] (fun _=>True) (fun _=>False) rfl rfl ?aP (fun _ hk=>hk.elim) ?aF ?aO ?aB ?aS ?aL ?_
     (case aP=>exact k38_mkM _ _ _ (⟨(rd_T38 l2 Zy).f0,(rd_T38 l2 Zy).f1⟩:S38))
     (case aB=>exact(by repeat(first|(with_reducible first|exact HB.out|apply Ye|apply Yd|apply Yg|refine Yh ?_ Ve.out|refine Yh ?_ Ub.out|refine Yh ?_ Ux.out)|exact HB.out)))
     (case aF=>exact(fun _ _=>trivial))
     (case aO=>exact(by(with_reducible repeat(first|apply Yr|apply Yq|apply Yp));exact HO_452001.out))
     (case aS=>exact(Yi (by repeat(first|(with_reducible first|exact HB.out|apply Ye|apply Yd|apply Yg|refine Yh ?_ Ve.out|refine Yh ?_ Ub.out|refine Yh ?_ Ux.out)|exact HB.out))))
     (case aL=>have:=LMc34.out;omega)
     intro v471 w48 ho hb hg hat
     rw[← Ny470.out] at ho;have n0_:=Ya (blk_grown (g:=Wl) (o:= .cells #[.int .i64 Zc, .bool Zb, .slice Ze Za.length Zd] 24 (0,0)) (by(with_reducible repeat(first|refine Yl ?_ _|refine Ym ?_|refine Yj ?_ _));exact Zm.out) hg (Kd.R_ne HO_452001.out Zm.out (by decide)));have n1_:=Ya (blk_grown (g:=Vd) (o:= .cells #[.slice none 0 0, .slice none 0 0] 161 (0,0)) (by(with_reducible repeat(first|refine Yl ?_ _|refine Ym ?_|refine Yj ?_ _));exact Xa.out) hg (Kd.R_ne HO_452001.out Xa.out (by decide)));have n2_:=Ya (blk_grown (g:=Xo) (o:= .cells #[.slice Ao44 y466.length co44, .slice Ao39 Zq.length co39] 161 (0,0)) (by(with_reducible repeat(first|refine Yl ?_ _|refine Ym ?_|refine Yj ?_ _));exact Zj.out) hg (Kd.R_ne HO_452001.out Zj.out (by decide)));have n3_:=Ya (Kd.R_over' (by(with_reducible repeat(first|apply Yr|apply Yq|apply Yp));exact HO468.out) (Kd.R_typed (by(with_reducible repeat(first|apply Yr|apply Yq|apply Yp));exact HO_452001.out)) (by decide) hg);have n4_:=Ya (hb);have n5_:=Ya (ho);clear Zm;clear Xa;clear Zj;clear HO468;clear HB;clear HO_452001;have Zm:=n0_;have Xa:=n1_;have Zj:=n2_;have HO468:=n3_;have HB:=n4_;have HO472:=n5_;clear n0_ n1_ n2_ n3_ n4_ n5_;clear ho hb hg hat
     obtain⟨Ao49,co49,eo49⟩:=Kd.R_slice HO472.out
     (first|subst eo49|(injection eo49 with f1_ f2_ f3_;have f4_:=f1_.symm;have f5_:=f3_.symm;clear f1_ f2_ f3_;subst f4_;subst f5_))
     refine hK.out _ _ ⟨(Yc Zj.out 0).trans rfl,(Yc Zj.out 1).trans rfl,((HB.out.cell (Yb w _ hw469_0)).trans hw469_0),((HB.out.cell (Yb w _ hw469_1)).trans hw469_1)⟩ (fun hHeld=> ?_);clear hK K;refine norm_ (a':= ?_) ?_ ?_
     rotate_left
     ·show Act.put _ (some 76) _=_
      simp only[Act.put,List.setIfInBounds_toArray,List.set_cons_zero,List.set_cons_succ,i64_w,i32_w];rfl
     refine pure_ (i:=8) (N:=some 77) (v:= ?_) (a':= ?_) #[true,true,true,true,true,true,true,true,true,false] rfl rfl (any_of HT_.out (by kernel_rfl)) (fun _ _ _ h=>h) (Or.inl ⟨by rfl,?_⟩) ?_ ?_
     rotate_left
     ·intro w'
      go_simp
      with_reducible rfl
     rotate_left
     ·simp only[Act.put,List.setIfInBounds_toArray,List.set_cons_zero,List.set_cons_succ,i64_w,i32_w]
      rfl
     refine last_ (i:=9) (N:=none) #[true,true,true,true,true,true,true,true,true,true] rfl rfl (one_of HT_.out (by kernel_rfl)) (by decide) (fun K hK=> ?_);have hs50:w48.cell? ⟨Xo,1,none⟩=some (.slice Ao39 Zq.length co39):=(Yc Zj.out 1).trans rfl;have hfs50:=Yf Zj.out 1;have hns50_0:=Js.out;have hns50_1:=Jt.out;have hms50_0:=NB451_449.out;have hms50_1:=NB451_450.out;refine skip_ (w1:= ?_) (by rfl) rfl ?_ ?_
     rotate_left
     ·go_simp
      rfl
     refine hK.out _ _ ?_;clear hK K;refine done_ (done_of HT_.out (by kernel_rfl)) ?_;try go_wp2
     go_roundg k2
     case measure=>have:=HK1.out;have:=HK2.out;omega
     case rel=>exact⟨(wrap64 (Zy+1)),(y466),(y470),(.slice Ao44 y466.length co44),(.slice Ao49 y470.length co49),(by first|rfl|(simp;done)|(simp[*];done)),H',⟨by have:=HK1.out;have:=HK2.out;omega⟩,⟨by(with_reducible repeat(first|apply Yr|apply Yq|apply Yp));exact Kd.R_mono (Kd.R_far (p:=⟨Xo,1,none⟩) (Kd.R_types HO468.out Zj.out (by decide)) (fun _ hk=>hk.2) (.slice Ao49 y470.length co49)) (fun _ hk=>trivial)⟩,⟨by(with_reducible repeat(first|apply Yr|apply Yq|apply Yp));exact Kd.R_mono (Kd.R_far (p:=⟨Xo,1,none⟩) (Kd.R_types HO472.out Zj.out (by decide)) (fun _ hk=>hk.2) (.slice Ao49 y470.length co49)) (fun _ hk=>trivial)⟩,⟨by(with_reducible repeat(first|refine Yl ?_ _|refine Ym ?_|refine Yj ?_ _));refine blk_far ?_ Js.out _;(with_reducible repeat(first|refine Yl ?_ _|refine Ym ?_|refine Yj ?_ _));exact Zm.out⟩,⟨by(with_reducible repeat(first|refine Yl ?_ _|refine Ym ?_|refine Yj ?_ _));refine blk_far ?_ Jt.out _;(with_reducible repeat(first|refine Yl ?_ _|refine Ym ?_|refine Yj ?_ _));exact Xa.out⟩,⟨by(with_reducible repeat(first|refine Yl ?_ _|refine Ym ?_|refine Yj ?_ _));refine YA (cs:= #[.slice Ao44 y466.length co44, .slice Ao39 Zq.length co39]) ?_ 1 _ rfl;(with_reducible repeat(first|refine Yl ?_ _|refine Ym ?_|refine Yj ?_ _));exact Zj.out⟩,⟨by repeat(first|(with_reducible first|exact HB.out|apply Ye|apply Yd|apply Yg|refine Yh ?_ Ve.out|refine Yh ?_ Ub.out|refine Yh ?_ Ux.out)|exact HB.out)⟩⟩
end P
end Go.Proofs.Ytkcpanpdipmmmaa
