/- What the law's row needs of these texts, taken out of them by wip/tool/mini.py: QAt P34 QEndsLaw QRightOf QLevelLaw QWayFact QArcsLaw QCycLaw QFillMem QEndsRight QFillWalk QSplitMem QTakeWalk QCycWalk QBegunWalk P40 P50 P51 QRoomRef QCheckRef QSplitDef P49. -/
import Derived.Test.YtoedkglggapggaaMgjbbed
import Derived.Test.YtoedkglggapggaaMchdgch
import Derived.Test.YtoedkglggapggaaMjjigcl
import Derived.Deep.RegionHeld3
import Derived.Deep.DeepCutAuto
import Derived.Laws.IdiomCopy
import Derived.Lib.SliceRun
set_option linter.unusedVariables false
set_option linter.unusedSimpArgs false
open Go.RowKit Go.Proofs.YtoedkglggapggaaW.PrintWords Go.Proofs.YtoedkglggapggaaW.PrintLast Go.Proofs.YtoedkglggapggaaW.PrintMore
namespace Go.Proofs.Ytoedkglggapggaa
namespace H
open Go.RowKit Go.Proofs.YtoedkglggapggaaW.PrintWords Go.Proofs.YtoedkglggapggaaW.PrintLast Go.Proofs.YtoedkglggapggaaW.PrintMore P
theorem infoRowS:(Try.prog.info? 67).map (fun i=>(i.zero,i.size,i.bytes))=some (some (.slice none 0 0),1,24):=by kernel_rfl
set_option maxHeartbeats 2000000 in
set_option maxRecDepth 100000 in
theorem at_calls (n0:Nat) (a0_1:Bool) (A0_2:Option Addr) (c0_2:Nat) (l0_2:List S50) (A1:Option Addr) (c1 n1:Nat) (w:World) (hr0_2:Kd.C k50 w A0_2 l0_2.length l0_2) (hc0_2:l0_2.length≤c0_2) (h0:0≤(n0:Int)) (h1:(n0:Int)≤1000000) (hl:l0_2.length≤500000) (hE0: ∀ k:Nat,k<l0_2.length→0≤eFrom (rd_T50 l0_2 k)∧eFrom (rd_T50 l0_2 k)<(n0:Int)) (hE1: ∀ k:Nat,k<l0_2.length→0≤eTo (rd_T50 l0_2 k)∧eTo (rd_T50 l0_2 k)<(n0:Int)):
  Calls Try.prog 68 #[.agg #[.int .i64 (n0:Int), .bool a0_1, .slice A0_2 l0_2.length c0_2], .slice A1 n1 c1] w fun e w'=> ∃ v0_:Value,e= .returned (.agg #[.int .i64 (n0:Int), .bool a0_1, .slice A0_2 l0_2.length c0_2, .slice A1 n1 c1,v0_])∧Kd.S (Kd.slice 79 k79) 67 w' w.heap.size (fun _=>True) v0_ (rowsAt l0_2 n0 n0)∧Below w.heap.size w w':=by
 have hu24:=Try.underlying24;have hu118:=Try.underlying107;have HR0_2:=Aside0.mk hr0_2;have HC0_2:=Aside0.mk hc0_2;have HH0:=Aside0.mk h0;have HH1:=Aside0.mk h1;have HE0:=Aside0.mk hE0;have HE1:=Aside0.mk hE1;have HR0:=Aside0.mk hr0_2;clear hr0_2 hc0_2 h0 h1 hE0 hE1;have HB:=Aside0.mk (Below.refl w.heap.size w);go_enter Try.func68,Try.ntmps68;go_wp2_with (first|((with_reducible refine gate_dst (N:=2) rfl ?_);refine box_event ?hg (N:=2) ?hd (cs:= #[.int .i64 (n0:Int), .bool a0_1, .slice A0_2 l0_2.length c0_2]) (t:=24) ?hr ?_;(case hd=>rfl);(case hg=>rfl);(case hr=>first|(go_simp;done)|(go_simp;rfl));intro gb111 hg w4 hbox hb;have n0_:=Aside0.mk (below_step (by repeat(first|(with_reducible first|exact HB.out|apply below_alloc|apply pw_below_drewN|apply below_drew1)|exact HB.out)) hb);have n1_:=Aside0.mk (hbox);have n2_:=Aside0.mk (Kd.C_below HR0_2.out hb);clear HB HR0_2;have HB:=n0_;have BK111:=n1_;have HR0_2:=n2_;clear n0_ n1_ n2_;clear hb hbox hg)|((with_reducible refine gate_dst (N:=4) rfl ?_);refine box_event ?hg (N:=4) ?hd (cs:= #[.int .i64 0, .bool false, .slice none 0 0, .slice none 0 0, .slice none 0 0]) (t:=107) ?hr ?_;(case hd=>rfl);(case hg=>rfl);(case hr=>first|(go_simp;done)|(go_simp;rfl));intro gb4 hg w5 hbox hb;have GE4:Aside0 (w.heap.size≤gb4):=⟨by rw[hg];exact HB.out.size⟩;have n0_:=Aside0.mk (below_step (by repeat(first|(with_reducible first|exact HB.out|apply below_alloc|apply pw_below_drewN|apply below_drew1)|exact HB.out)) hb);have n1_:=Aside0.mk (hbox);have n2_:=Aside0.mk (Kd.C_below HR0_2.out hb);have n3_:=Aside0.mk (blk_below BK111.out hb);clear HB HR0_2 BK111;have HB:=n0_;have BK4:=n1_;have HR0_2:=n2_;have BK111:=n3_;clear n0_ n1_ n2_ n3_;clear hb hbox hg)|fail);obtain⟨R0,hR0⟩: ∃ y_:List (List S79),y_=List.replicate (n0:Int).toNat []:=⟨_,rfl⟩;have NR0:=Aside0.mk hR0;clear hR0;refine start_ (n:=9) (S:=(fun w'=>w'.cell? ⟨gb111,0,none⟩=some (.int .i64 (n0:Int))∧w'.cell? ⟨gb111,1,none⟩=some (.bool a0_1)∧w'.cell? ⟨gb111,2,none⟩=some (.slice A0_2 l0_2.length c0_2))) (ds:=[]) #[false,false,false,false,false,false,false,false,false] (by kernel_rfl) rfl rfl ⟨(blk_cell BK111.out 0).trans rfl,(blk_cell BK111.out 1).trans rfl,(blk_cell BK111.out 2).trans rfl⟩ (fun hHeld=> ?_);have n0_:=Aside0.mk (below_drew HB.out);have n1_:Aside0 (w5.drew.heap[gb111]? =some (.cells #[.int .i64 (n0:Int), .bool a0_1, .slice A0_2 l0_2.length c0_2] 24 (0,0))):=⟨BK111.out⟩;have n2_:Aside0 (w5.drew.heap[gb4]? =some (.cells #[.int .i64 0, .bool false, .slice none 0 0, .slice none 0 0, .slice none 0 0] 107 (0,0))):=⟨BK4.out⟩;clear HB BK111 BK4;have HB:=n0_;have BK111:=n1_;have BK4:=n2_;clear n0_ n1_ n2_;generalize w5.drew=w6 at BK111 HB BK4 hHeld ⊢;refine pure_ (i:=1) (N:=some 14) (v:= ?_) (a':= ?_) #[false,true,false,false,false,false,false,false,false] rfl rfl (by kernel_rfl) (fun _ _ _ h=>h) (Or.inl ⟨by rfl,?_⟩) ?_ ?_
 rotate_left
 ·intro w'
  go_simp
  with_reducible rfl
 rotate_left
 ·simp only[Act.put,List.setIfInBounds_toArray,List.set_cons_zero,List.set_cons_succ,i64_w,i32_w]
  rfl
 refine pure_ (i:=3) (N:=some 16) (v:= ?_) (a':= ?_) #[false,true,false,true,false,false,false,false,false] rfl rfl (by kernel_rfl) (fun _ _ _ h=>h) (Or.inl ⟨by rfl,?_⟩) ?_ ?_
 rotate_left
 ·intro w'
  go_simp
  with_reducible rfl
 rotate_left
 ·simp only[Act.put,List.setIfInBounds_toArray,List.set_cons_zero,List.set_cons_succ,i64_w,i32_w]
  rfl
 refine take_ (i:=0) (N:=some 13) (v:= ?_) (a':= ?_) #[true,true,false,true,false,false,false,false,false] rfl rfl (by kernel_rfl) (fun _ _ _ h=>h) (Or.inl ⟨by rfl,?_⟩) hHeld ?_ ?_
 rotate_left
 ·rintro w' ⟨s0,s1,s2⟩
  go_simp
  with_reducible rfl
 rotate_left
 ·simp only[Act.put,List.setIfInBounds_toArray,List.set_cons_zero,List.set_cons_succ,i64_w,i32_w]
  rfl
 refine take_ (i:=4) (N:=some 17) (v:= ?_) (a':= ?_) #[true,true,false,true,true,false,false,false,false] rfl rfl (by kernel_rfl) (fun _ _ _ h=>h) (Or.inl ⟨by rfl,?_⟩) hHeld ?_ ?_
 rotate_left
 ·rintro w' ⟨s0,s1,s2⟩
  go_simp
  with_reducible rfl
 rotate_left
 ·simp only[Act.put,List.setIfInBounds_toArray,List.set_cons_zero,List.set_cons_succ,i64_w,i32_w]
  rfl
 refine pure_ (i:=2) (N:=some 15) (v:= ?_) (a':= ?_) #[true,true,true,true,true,false,false,false,false] rfl rfl (by kernel_rfl) (fun _ _ _ h=>h) (Or.inl ⟨by rfl,?_⟩) ?_ ?_
 rotate_left
 ·intro w'
  go_simp
  with_reducible rfl
 rotate_left
 ·simp only[Act.put,List.setIfInBounds_toArray,List.set_cons_zero,List.set_cons_succ,i64_w,i32_w]
  rfl
 refine join_ (σ:=Value × Nat) 1 #[true,true,true,true,true,true,true,true,false] (fun s_=>[(18,s_.1),(19, .agg #[.int .i64 (n0:Int), .bool a0_1, .slice A0_2 l0_2.length c0_2, .slice A1 n1 c1,s_.1]),(5, .pointer (some ⟨s_.2,0,none⟩))]) (fun s_ w'=>(w'.cell? ⟨gb111,0,none⟩=some (.int .i64 (n0:Int))∧w'.cell? ⟨gb111,1,none⟩=some (.bool a0_1)∧w'.cell? ⟨gb111,2,none⟩=some (.slice A0_2 l0_2.length c0_2))∧Kd.S (Kd.slice 79 k79) 67 w' w.heap.size (fun _=>True) s_.1 R0∧w'.heap[gb111]? =some (.cells #[.int .i64 (n0:Int), .bool a0_1, .slice A0_2 l0_2.length c0_2] 24 (0,0))∧w'.heap[s_.2]? =some (.cells #[.int .i64 0, .bool false, .slice none 0 0, .slice none 0 0, .slice none 0 0] 107 (0,0))∧w'.heap[gb4]? =some (.cells #[.int .i64 0, .bool false, .slice none 0 0, .slice none 0 0, .slice none 0 0] 107 (0,0))∧w.heap.size≤s_.2∧gb111≠s_.2∧gb4≠s_.2∧Below w.heap.size w w') ?_ ?_
 rotate_left
 ·intro hCont
  refine two_ (i:=5) (j:=7) (Ni:=some 18) (Nj:=some 5) #[true,true,true,true,true,true,false,false,false] #[true,true,true,true,true,false,false,true,false] rfl rfl rfl rfl (by kernel_rfl) (by decide) (by decide) (fun K hK=> ?_) (fun K hK=> ?_)
  ·skip
   refine Kd.S_make_step (Kd.slice 79 k79) _ 67 (by rfl) (N:=18) rfl 105 _ _ rfl (n0:Int) rfl rfl Try.underlying105 (.slice none 0 0) 24 infoRowS rfl (by decide) (by omega) [] (ok:=fun _=>True) (okp:=fun _=>True) ⟨_,rfl,Kd.R_nil _ _ _ _ _⟩ (fun _ hk=>hk) trivial HH0.out (by have:=HH1.out;omega) (Below.refl _ _) (Nat.le_refl _) ?_;intro v18 w7 ho hb _ _;rw[← NR0.out] at ho;obtain⟨Ao,co,eo⟩:=Kd.S_slice ho;subst eo;have n0_:=Aside0.mk (Kd.S_lower ho HB.out.size);have n1_:=Aside0.mk (blk_below BK111.out hb);have n2_:=Aside0.mk (blk_below BK4.out hb);have n3_:=Aside0.mk (below_step HB.out hb);clear BK111 BK4 HB ho hb;have HO:=n0_;have BK111:=n1_;have BK4:=n2_;have HB:=n3_;clear n0_ n1_ n2_ n3_;refine hK.out _ _ ⟨(blk_cell BK111.out 0).trans rfl,(blk_cell BK111.out 1).trans rfl,(blk_cell BK111.out 2).trans rfl⟩ (fun hHeld=> ?_);clear hK K;refine norm_ (a':= ?_) ?_ ?_
   rotate_left
   ·show Act.put _ (some 18) _=_
    simp only[Act.put,List.setIfInBounds_toArray,List.set_cons_zero,List.set_cons_succ,i64_w,i32_w];rfl
   refine pure_ (i:=6) (N:=some 19) (v:= ?_) (a':= ?_) #[true,true,true,true,true,true,true,false,false] rfl rfl (by kernel_rfl) (fun _ _ _ h=>h) (Or.inl ⟨by rfl,?_⟩) ?_ ?_
   rotate_left
   ·intro w'
    go_simp
    with_reducible rfl
   rotate_left
   ·simp only[Act.put,List.setIfInBounds_toArray,List.set_cons_zero,List.set_cons_succ,i64_w,i32_w]
    rfl
   refine one_ (i:=7) (N:=some 5) #[true,true,true,true,true,true,true,true,false] rfl rfl (by kernel_rfl) (by decide) (fun K hK=> ?_);refine box_step ?hg (N:=5) ?hd (cs:= #[.int .i64 0, .bool false, .slice none 0 0, .slice none 0 0, .slice none 0 0]) (t:=107) ?hr ?_;(case hd=>rfl);(case hg=>rfl);(case hr=>first|(go_simp;done)|(go_simp;rfl));intro gb5 hg w8 hbox hb;have n0_:=Aside0.mk hbox;have n1_:=Aside0.mk (blk_below BK111.out hb);have n2_:=Aside0.mk (blk_below BK4.out hb);have n3_:=Aside0.mk (below_step HB.out hb);have n5_:Aside0 (w.heap.size≤gb5):=⟨by rw[hg];exact HB.out.size⟩;have n6_:Aside0 (gb111≠gb5):=⟨by rw[hg];exact Nat.ne_of_lt (blk_lt BK111.out)⟩;have n7_:Aside0 (gb4≠gb5):=⟨by rw[hg];exact Nat.ne_of_lt (blk_lt BK4.out)⟩;have n4_:=Aside0.mk (Kd.S_below HO.out hb);clear HO;have HO:=n4_;clear n4_;clear BK111 BK4 HB hbox hb hg;have BK5:=n0_;have BK111:=n1_;have BK4:=n2_;have HB:=n3_;have GE5:=n5_;have NB111:=n6_;have NB4:=n7_;clear n0_ n1_ n2_ n3_ n5_ n6_ n7_;refine hK.out _ _ ⟨(blk_cell BK111.out 0).trans rfl,(blk_cell BK111.out 1).trans rfl,(blk_cell BK111.out 2).trans rfl⟩ (fun hHeld=> ?_);clear hK K;refine norm_ (a':= ?_) ?_ ?_
   rotate_left
   ·show Act.put _ (some 5) _=_
    simp only[Act.put,List.setIfInBounds_toArray,List.set_cons_zero,List.set_cons_succ,i64_w,i32_w];rfl
   exact norm_ (by(simp only[putAll,Act.put,List.setIfInBounds_toArray,List.set_cons_zero,List.set_cons_succ])<;>rfl) (hCont (.slice Ao R0.length co,gb5) _ ⟨hHeld,HO.out,BK111.out,BK5.out,BK4.out,GE5.out,NB111.out,NB4.out,HB.out⟩)
  ·skip
   refine box_step ?hg (N:=5) ?hd (cs:= #[.int .i64 0, .bool false, .slice none 0 0, .slice none 0 0, .slice none 0 0]) (t:=107) ?hr ?_;(case hd=>rfl);(case hg=>rfl);(case hr=>first|(go_simp;done)|(go_simp;rfl));intro gb5 hg w7 hbox hb;have n0_:=Aside0.mk hbox;have n1_:=Aside0.mk (blk_below BK111.out hb);have n2_:=Aside0.mk (blk_below BK4.out hb);have n3_:=Aside0.mk (below_step HB.out hb);have n5_:Aside0 (w.heap.size≤gb5):=⟨by rw[hg];exact HB.out.size⟩;have n6_:Aside0 (gb111≠gb5):=⟨by rw[hg];exact Nat.ne_of_lt (blk_lt BK111.out)⟩;have n7_:Aside0 (gb4≠gb5):=⟨by rw[hg];exact Nat.ne_of_lt (blk_lt BK4.out)⟩;clear BK111 BK4 HB hbox hb hg;have BK5:=n0_;have BK111:=n1_;have BK4:=n2_;have HB:=n3_;have GE5:=n5_;have NB111:=n6_;have NB4:=n7_;clear n0_ n1_ n2_ n3_ n5_ n6_ n7_;refine hK.out _ _ ⟨(blk_cell BK111.out 0).trans rfl,(blk_cell BK111.out 1).trans rfl,(blk_cell BK111.out 2).trans rfl⟩ (fun hHeld=> ?_);clear hK K;refine norm_ (a':= ?_) ?_ ?_
   rotate_left
   ·show Act.put _ (some 5) _=_
    simp only[Act.put,List.setIfInBounds_toArray,List.set_cons_zero,List.set_cons_succ,i64_w,i32_w];rfl
   refine one_ (i:=5) (N:=some 18) #[true,true,true,true,true,true,false,true,false] rfl rfl (by kernel_rfl) (by decide) (fun K hK=> ?_);refine Kd.S_make_step (Kd.slice 79 k79) _ 67 (by rfl) (N:=18) rfl 105 _ _ rfl (n0:Int) rfl rfl Try.underlying105 (.slice none 0 0) 24 infoRowS rfl (by decide) (by omega) [] (ok:=fun _=>True) (okp:=fun _=>True) ⟨_,rfl,Kd.R_nil _ _ _ _ _⟩ (fun _ hk=>hk) trivial HH0.out (by have:=HH1.out;omega) (Below.refl _ _) (Nat.le_refl _) ?_;intro v18 w8 ho hb _ _;rw[← NR0.out] at ho;obtain⟨Ao,co,eo⟩:=Kd.S_slice ho;subst eo;have n0_:=Aside0.mk (Kd.S_lower ho HB.out.size);have n1_:=Aside0.mk (blk_below BK111.out hb);have n2_:=Aside0.mk (blk_below BK4.out hb);have n3_:=Aside0.mk (below_step HB.out hb);have n4_:=Aside0.mk (blk_below BK5.out hb);clear BK5;have BK5:=n4_;clear n4_;clear BK111 BK4 HB ho hb;have HO:=n0_;have BK111:=n1_;have BK4:=n2_;have HB:=n3_;clear n0_ n1_ n2_ n3_;refine hK.out _ _ ⟨(blk_cell BK111.out 0).trans rfl,(blk_cell BK111.out 1).trans rfl,(blk_cell BK111.out 2).trans rfl⟩ (fun hHeld=> ?_);clear hK K;refine norm_ (a':= ?_) ?_ ?_
   rotate_left
   ·show Act.put _ (some 18) _=_
    simp only[Act.put,List.setIfInBounds_toArray,List.set_cons_zero,List.set_cons_succ,i64_w,i32_w];rfl
   refine pure_ (i:=6) (N:=some 19) (v:= ?_) (a':= ?_) #[true,true,true,true,true,true,true,true,false] rfl rfl (by kernel_rfl) (fun _ _ _ h=>h) (Or.inl ⟨by rfl,?_⟩) ?_ ?_
   rotate_left
   ·intro w'
    go_simp
    with_reducible rfl
   rotate_left
   ·simp only[Act.put,List.setIfInBounds_toArray,List.set_cons_zero,List.set_cons_succ,i64_w,i32_w]
    rfl
   exact norm_ (by(simp only[putAll,Act.put,List.setIfInBounds_toArray,List.set_cons_zero,List.set_cons_succ])<;>rfl) (hCont (.slice Ao R0.length co,gb5) _ ⟨hHeld,HO.out,BK111.out,BK5.out,BK4.out,GE5.out,NB111.out,NB4.out,HB.out⟩)
 rintro⟨v18,gb5⟩ w9 ⟨hHeld,h0_,h1_,h2_,h3_,h4_,h5_,h6_,h7_⟩;clear BK111 BK4 HB;have HO:=Aside0.mk h0_;clear h0_;have BK111:=Aside0.mk h1_;clear h1_;have BK5:=Aside0.mk h2_;clear h2_;have BK4:=Aside0.mk h3_;clear h3_;have GE5:=Aside0.mk h4_;clear h4_;have NB111:=Aside0.mk h5_;clear h5_;have NB4:=Aside0.mk h6_;clear h6_;have HB:=Aside0.mk h7_;clear h7_;obtain⟨Ao,co,eo⟩:=Kd.S_slice HO.out;dsimp only at eo HO BK5 GE5 NB111 NB4;subst eo;refine norm_ (a':= ?_) ?_ ?_
 rotate_left
 ·simp only[putAll,Act.put,List.setIfInBounds_toArray,List.set_cons_zero,List.set_cons_succ]
  rfl
 refine one_ (i:=8) (N:=none) #[true,true,true,true,true,true,true,true,true] rfl rfl (by kernel_rfl) (by decide) (fun K hK=> ?_);have hs0:w9.cell? ⟨gb5,0,none⟩=some (.int .i64 0):=(blk_cell BK5.out 0).trans rfl;have hfs0:=blk_frozen BK5.out 0;have hs1:w9.cell? ⟨gb5,1,none⟩=some (.bool false):=(blk_cell BK5.out 1).trans rfl;have hfs1:=blk_frozen BK5.out 1;have hs2:w9.cell? ⟨gb5,2,none⟩=some (.slice none 0 0):=(blk_cell BK5.out 2).trans rfl;have hfs2:=blk_frozen BK5.out 2;have hs3:w9.cell? ⟨gb5,3,none⟩=some (.slice none 0 0):=(blk_cell BK5.out 3).trans rfl;have hfs3:=blk_frozen BK5.out 3;have hs4:w9.cell? ⟨gb5,4,none⟩=some (.slice none 0 0):=(blk_cell BK5.out 4).trans rfl;have hfs4:=blk_frozen BK5.out 4;have n0_:Aside0 ((((((w9.setCell ⟨gb5,0,none⟩ (.int .i64 (n0:Int))).setCell ⟨gb5,1,none⟩ (.bool a0_1)).setCell ⟨gb5,2,none⟩ (.slice A0_2 l0_2.length c0_2)).setCell ⟨gb5,3,none⟩ (.slice A1 n1 c1)).setCell ⟨gb5,4,none⟩ (.slice Ao R0.length co)).heap[gb5]? =some (.cells #[.int .i64 (n0:Int), .bool a0_1, .slice A0_2 l0_2.length c0_2, .slice A1 n1 c1, .slice Ao R0.length co] 107 (0,0))):=⟨by
  refine blk_put (cs:= #[.int .i64 (n0:Int), .bool a0_1, .slice A0_2 l0_2.length c0_2, .slice A1 n1 c1, .slice none 0 0]) ?_ 4 _ rfl;refine blk_put (cs:= #[.int .i64 (n0:Int), .bool a0_1, .slice A0_2 l0_2.length c0_2, .slice none 0 0, .slice none 0 0]) ?_ 3 _ rfl;refine blk_put (cs:= #[.int .i64 (n0:Int), .bool a0_1, .slice none 0 0, .slice none 0 0, .slice none 0 0]) ?_ 2 _ rfl;refine blk_put (cs:= #[.int .i64 (n0:Int), .bool false, .slice none 0 0, .slice none 0 0, .slice none 0 0]) ?_ 1 _ rfl;refine blk_put (cs:= #[.int .i64 0, .bool false, .slice none 0 0, .slice none 0 0, .slice none 0 0]) ?_ 0 _ rfl;exact BK5.out⟩
 have n1_:Aside0 ((((((w9.setCell ⟨gb5,0,none⟩ (.int .i64 (n0:Int))).setCell ⟨gb5,1,none⟩ (.bool a0_1)).setCell ⟨gb5,2,none⟩ (.slice A0_2 l0_2.length c0_2)).setCell ⟨gb5,3,none⟩ (.slice A1 n1 c1)).setCell ⟨gb5,4,none⟩ (.slice Ao R0.length co)).heap[gb111]? =some (.cells #[.int .i64 (n0:Int), .bool a0_1, .slice A0_2 l0_2.length c0_2] 24 (0,0))):=⟨by
  refine blk_far ?_ NB111.out _;refine blk_far ?_ NB111.out _;refine blk_far ?_ NB111.out _;refine blk_far ?_ NB111.out _;refine blk_far ?_ NB111.out _;exact BK111.out⟩
 have n2_:Aside0 ((((((w9.setCell ⟨gb5,0,none⟩ (.int .i64 (n0:Int))).setCell ⟨gb5,1,none⟩ (.bool a0_1)).setCell ⟨gb5,2,none⟩ (.slice A0_2 l0_2.length c0_2)).setCell ⟨gb5,3,none⟩ (.slice A1 n1 c1)).setCell ⟨gb5,4,none⟩ (.slice Ao R0.length co)).heap[gb4]? =some (.cells #[.int .i64 0, .bool false, .slice none 0 0, .slice none 0 0, .slice none 0 0] 107 (0,0))):=⟨by
  refine blk_far ?_ NB4.out _;refine blk_far ?_ NB4.out _;refine blk_far ?_ NB4.out _;refine blk_far ?_ NB4.out _;refine blk_far ?_ NB4.out _;exact BK4.out⟩
 have n3_:Aside0 (Kd.S (Kd.slice 79 k79) 67 (((((w9.setCell ⟨gb5,0,none⟩ (.int .i64 (n0:Int))).setCell ⟨gb5,1,none⟩ (.bool a0_1)).setCell ⟨gb5,2,none⟩ (.slice A0_2 l0_2.length c0_2)).setCell ⟨gb5,3,none⟩ (.slice A1 n1 c1)).setCell ⟨gb5,4,none⟩ (.slice Ao R0.length co)) w.heap.size (fun _=>True) (.slice Ao R0.length co) R0):=⟨Kd.S_mono (Kd.S_far (p:=⟨gb5,4,none⟩) (Kd.S_far (p:=⟨gb5,3,none⟩) (Kd.S_far (p:=⟨gb5,2,none⟩) (Kd.S_far (p:=⟨gb5,1,none⟩) (Kd.S_far (p:=⟨gb5,0,none⟩) (Kd.S_types HO.out BK5.out (by decide)) (fun _ hk=>hk.2) (.int .i64 (n0:Int))) (fun _ hk=>hk.2) (.bool a0_1)) (fun _ hk=>hk.2) (.slice A0_2 l0_2.length c0_2)) (fun _ hk=>hk.2) (.slice A1 n1 c1)) (fun _ hk=>hk.2) (.slice Ao R0.length co)) (fun _ _=>trivial)⟩;have n4_:Aside0 (Below w.heap.size w (((((w9.setCell ⟨gb5,0,none⟩ (.int .i64 (n0:Int))).setCell ⟨gb5,1,none⟩ (.bool a0_1)).setCell ⟨gb5,2,none⟩ (.slice A0_2 l0_2.length c0_2)).setCell ⟨gb5,3,none⟩ (.slice A1 n1 c1)).setCell ⟨gb5,4,none⟩ (.slice Ao R0.length co))):=⟨by repeat(first|exact HB.out|refine below_set ?_ GE5.out)⟩;refine skip_ (w1:=(((((w9.setCell ⟨gb5,0,none⟩ (.int .i64 (n0:Int))).setCell ⟨gb5,1,none⟩ (.bool a0_1)).setCell ⟨gb5,2,none⟩ (.slice A0_2 l0_2.length c0_2)).setCell ⟨gb5,3,none⟩ (.slice A1 n1 c1)).setCell ⟨gb5,4,none⟩ (.slice Ao R0.length co))) (by rfl) rfl ?_ ?_
 ·go_simp
 clear hs0 hfs0 hs1 hfs1 hs2 hfs2 hs3 hfs3 hs4 hfs4;refine hK.out _ _ ⟨(blk_cell n1_.out 0).trans rfl,(blk_cell n1_.out 1).trans rfl,(blk_cell n1_.out 2).trans rfl⟩ (fun hHeld=> ?_);clear hK K BK5 BK111 BK4 HO HB hHeld;have BK5:=n0_;have BK111:=n1_;have BK4:=n2_;have HO:=n3_;have HB:=n4_;clear n0_ n1_ n2_ n3_ n4_;refine done_ (by kernel_rfl) ?_;generalize (((((w9.setCell ⟨gb5,0,none⟩ (.int .i64 (n0:Int))).setCell ⟨gb5,1,none⟩ (.bool a0_1)).setCell ⟨gb5,2,none⟩ (.slice A0_2 l0_2.length c0_2)).setCell ⟨gb5,3,none⟩ (.slice A1 n1 c1)).setCell ⟨gb5,4,none⟩ (.slice Ao R0.length co))=w10 at BK5 BK111 BK4 HO HB ⊢;go_wp2_with fail;refine start_ (n:=6) (S:=(fun w'=>w'.cell? ⟨gb111,0,none⟩=some (.int .i64 (n0:Int))∧w'.cell? ⟨gb111,1,none⟩=some (.bool a0_1)∧w'.cell? ⟨gb111,2,none⟩=some (.slice A0_2 l0_2.length c0_2))) (ds:=[]) #[false,false,false,false,false,false] (by kernel_rfl) rfl rfl ⟨(blk_cell BK111.out 0).trans rfl,(blk_cell BK111.out 1).trans rfl,(blk_cell BK111.out 2).trans rfl⟩ (fun hHeld=> ?_);have n0_:=Aside0.mk (below_drew HB.out);have n1_:Aside0 (w10.drew.heap[gb111]? =some (.cells #[.int .i64 (n0:Int), .bool a0_1, .slice A0_2 l0_2.length c0_2] 24 (0,0))):=⟨BK111.out⟩;have n2_:Aside0 (w10.drew.heap[gb4]? =some (.cells #[.int .i64 0, .bool false, .slice none 0 0, .slice none 0 0, .slice none 0 0] 107 (0,0))):=⟨BK4.out⟩;have n3_:Aside0 (w10.drew.heap[gb5]? =some (.cells #[.int .i64 (n0:Int), .bool a0_1, .slice A0_2 l0_2.length c0_2, .slice A1 n1 c1, .slice Ao R0.length co] 107 (0,0))):=⟨BK5.out⟩;have n4_:=Aside0.mk (Kd.S_drew HO.out);clear HB BK111 BK4 BK5 HO;have HB:=n0_;have BK111:=n1_;have BK4:=n2_;have BK5:=n3_;have HO:=n4_;clear n0_ n1_ n2_ n3_ n4_;generalize w10.drew=w11 at BK111 HB BK4 BK5 HO hHeld ⊢;refine take_ (i:=0) (N:=some 20) (v:= ?_) (a':= ?_) #[true,false,false,false,false,false] rfl rfl (by kernel_rfl) (fun _ _ _ h=>h) (Or.inl ⟨by rfl,?_⟩) hHeld ?_ ?_
 rotate_left
 ·rintro w' ⟨s0,s1,s2⟩
  go_simp
  with_reducible rfl
 rotate_left
 ·simp only[Act.put,List.setIfInBounds_toArray,List.set_cons_zero,List.set_cons_succ,i64_w,i32_w]
  rfl
 refine take_ (i:=2) (N:=some 22) (v:= ?_) (a':= ?_) #[true,false,true,false,false,false] rfl rfl (by kernel_rfl) (fun _ _ _ h=>h) (Or.inl ⟨by rfl,?_⟩) hHeld ?_ ?_
 rotate_left
 ·rintro w' ⟨s0,s1,s2⟩
  go_simp
  with_reducible rfl
 rotate_left
 ·simp only[Act.put,List.setIfInBounds_toArray,List.set_cons_zero,List.set_cons_succ,i64_w,i32_w]
  rfl
 refine one_ (i:=1) (N:=some 21) #[true,true,true,false,false,false] rfl rfl (by kernel_rfl) (by decide) (fun K hK=> ?_);refine goes_ Try.func83 (by kernel_rfl) rfl #[.agg #[.int .i64 (n0:Int), .bool a0_1, .slice A0_2 l0_2.length c0_2]] (by rfl) rfl rfl (by(try simp only[List.map_toArray,List.map_cons,List.map_nil]);first|done|rfl) ?_
 refine(leaving_calls (n0:Int) a0_1 A0_2 c0_2 l0_2 _ (Kd.C_below HR0.out HB.out) HC0_2.out HH0.out HH1.out (by omega) HE0.out).mono ?_;rintro e w12 ⟨v21,rfl,hS,hb⟩;refine⟨_,rfl,?_⟩;have n0_:=Aside0.mk (below_step HB.out hb);have n1_:=Aside0.mk (blk_below BK111.out hb);have n2_:=Aside0.mk (blk_below BK4.out hb);have n3_:=Aside0.mk (blk_below BK5.out hb);have n4_:=Aside0.mk (Kd.S_below HO.out hb);have n5_:=Aside0.mk (Kd.S_lower hS HB.out.size);clear HB BK111 BK4 BK5 HO hS hb;have HB:=n0_;have BK111:=n1_;have BK4:=n2_;have BK5:=n3_;have HO:=n4_;have Hv21:=n5_;clear n0_ n1_ n2_ n3_ n4_ n5_;obtain⟨Av21,cv21,ev21⟩:=Kd.S_slice Hv21.out;subst ev21;refine hK.out _ _ ⟨(blk_cell BK111.out 0).trans rfl,(blk_cell BK111.out 1).trans rfl,(blk_cell BK111.out 2).trans rfl⟩ (fun hHeld=> ?_);clear hK K;refine norm_ (a':= ?_) ?_ ?_
 rotate_left
 ·show Act.put _ (some 21) _=_
  simp only[Act.put,List.setIfInBounds_toArray,List.set_cons_zero,List.set_cons_succ,i64_w,i32_w];rfl
 refine one_ (i:=3) (N:=some 23) #[true,true,true,true,false,false] rfl rfl (by kernel_rfl) (by decide) (fun K hK=> ?_);refine goes_ Try.func84 (by kernel_rfl) rfl #[.agg #[.int .i64 (n0:Int), .bool a0_1, .slice A0_2 l0_2.length c0_2]] (by rfl) rfl rfl (by(try simp only[List.map_toArray,List.map_cons,List.map_nil]);first|done|rfl) ?_
 refine(coming_calls (n0:Int) a0_1 A0_2 c0_2 l0_2 _ (Kd.C_below HR0.out HB.out) HC0_2.out HH0.out HH1.out (by omega) HE1.out).mono ?_;rintro e w13 ⟨v23,rfl,hS,hb⟩;refine⟨_,rfl,?_⟩;have n0_:=Aside0.mk (below_step HB.out hb);have n1_:=Aside0.mk (blk_below BK111.out hb);have n2_:=Aside0.mk (blk_below BK4.out hb);have n3_:=Aside0.mk (blk_below BK5.out hb);have n4_:=Aside0.mk (Kd.S_below HO.out hb);have n5_:=Aside0.mk (Kd.S_lower hS HB.out.size);have m_:=Aside0.mk (Kd.S_below Hv21.out hb);clear Hv21;have Hv21:=m_;clear m_;clear HB BK111 BK4 BK5 HO hS hb;have HB:=n0_;have BK111:=n1_;have BK4:=n2_;have BK5:=n3_;have HO:=n4_;have Hv23:=n5_;clear n0_ n1_ n2_ n3_ n4_ n5_;obtain⟨Av23,cv23,ev23⟩:=Kd.S_slice Hv23.out;subst ev23;refine hK.out _ _ ⟨(blk_cell BK111.out 0).trans rfl,(blk_cell BK111.out 1).trans rfl,(blk_cell BK111.out 2).trans rfl⟩ (fun hHeld=> ?_);clear hK K;refine norm_ (a':= ?_) ?_ ?_
 rotate_left
 ·show Act.put _ (some 23) _=_
  simp only[Act.put,List.setIfInBounds_toArray,List.set_cons_zero,List.set_cons_succ,i64_w,i32_w];rfl
 refine pure_ (i:=4) (N:=some 6) (v:= ?_) (a':= ?_) #[true,true,true,true,true,false] rfl rfl (by kernel_rfl) (fun _ _ _ h=>h) (Or.inl ⟨by rfl,?_⟩) ?_ ?_
 rotate_left
 ·intro w'
  go_simp
  with_reducible rfl
 rotate_left
 ·simp only[Act.put,List.setIfInBounds_toArray,List.set_cons_zero,List.set_cons_succ,i64_w,i32_w]
  rfl
 refine pure_ (i:=5) (N:=some 7) (v:= ?_) (a':= ?_) #[true,true,true,true,true,true] rfl rfl (by kernel_rfl) (fun _ _ _ h=>h) (Or.inl ⟨by rfl,?_⟩) ?_ ?_
 rotate_left
 ·intro w'
  go_simp
  with_reducible rfl
 rotate_left
 ·simp only[Act.put,List.setIfInBounds_toArray,List.set_cons_zero,List.set_cons_succ,i64_w,i32_w]
  rfl
 refine done_ (by kernel_rfl) ?_;go_wp2_with fail;have HR0':Aside0 (R0=rowsAt l0_2 n0 0):=⟨by rw[NR0.out,rowsAt_zero,Int.toNat_natCast]⟩;have hlR:R0.length=n0:=by rw[HR0'.out,rowsAt_len]
 rw[hlR] at HO BK5 ⊢;rw[HR0'.out] at HO;simp only[Int.toNat_natCast] at Hv21 Hv23 ⊢;clear hHeld;obtain⟨L0,hL0⟩: ∃ L,L=lsAt eFrom l0_2 n0 l0_2.length:=⟨_,rfl⟩;obtain⟨L1,hL1⟩: ∃ L,L=lsAt eTo l0_2 n0 l0_2.length:=⟨_,rfl⟩;have hn0:L0.length=n0:=by rw[hL0,lsAt_len]
 have hn1:L1.length=n0:=by rw[hL1,lsAt_len]
 rw[← hL0,hn0] at Hv21 ⊢;rw[← hL1,hn1] at Hv23 ⊢;have HL0:=Aside0.mk hL0;have HL1:=Aside0.mk hL1;clear hL0 hL1;clear HR0' hlR HR0_2;have hn6:n0≤1000000:=by have:=HH1.out;omega
 go_loopw [26] (fun v26 w'=> ∃ k:Nat,k≤n0∧v26= .int .i64 k∧Aside0 (Kd.S (Kd.slice 79 k79) 67 w' w.heap.size (fun _=>True) (.slice Ao n0 co) (rowsAt l0_2 n0 k))∧Aside0 (w'.heap[gb111]? =some (.cells #[.int .i64 (n0:Int), .bool a0_1, .slice A0_2 l0_2.length c0_2] 24 (0,0)))∧Aside0 (w'.heap[gb4]? =some (.cells #[.int .i64 0, .bool false, .slice none 0 0, .slice none 0 0, .slice none 0 0] 107 (0,0)))∧Aside0 (w'.heap[gb5]? =some (.cells #[.int .i64 (n0:Int), .bool a0_1, .slice A0_2 l0_2.length c0_2, .slice A1 n1 c1, .slice Ao n0 co] 107 (0,0)))∧Aside0 (Kd.S (Kd.slice 3 (Kd.int .i64)) 31 w' w.heap.size (fun _=>True) (.slice Av21 n0 cv21) L0)∧Aside0 (Kd.S (Kd.slice 3 (Kd.int .i64)) 31 w' w.heap.size (fun _=>True) (.slice Av23 n0 cv23) L1)∧Aside0 (Below w.heap.size w w')) (fun v26 _=>n0 - (intOf v26).toNat)
 case atStart=>exact⟨0,Nat.zero_le _,rfl,HO,BK111,BK4,BK5,Hv21,Hv23,HB⟩
 case round=>
  clear HO BK111 BK4 BK5 Hv21 Hv23 HB;obtain⟨k,hk,rfl,HO,BK111,BK4,BK5,Hv21,Hv23,HB⟩:=hrel;by_cases hlt:k<n0
  ·have pk:0≤((k:Nat):Int):=by omega
   have qk:((k:Nat):Int)<(n0:Int):=by omega
   have c27:decide ((k:Int)<(n0:Int))=true:=decide_eq_true qk;obtain⟨ad0,AA0,cc0,e_,hx_,hl_,_⟩:=at_L5 (Kd.S_reads' Hv21.out).2.2 (k:Int) pk (by rw[hn0];omega);cases e_;obtain⟨ce_,hce_,hM_,hcc_⟩:=Kd.S_get Hv21.out [] (k:Int) pk qk;obtain⟨ve_,rfl,ge_⟩:=hM_;have hv_:=hcc_ 0 _ rfl;rw[Nat.add_zero,show ((Kd.slice 3 (Kd.int .i64))).sz=1 from rfl,Nat.mul_one] at hv_;replace hv_:=Option.some.inj (hv_.symm.trans hx_);rw[hv_] at ge_;obtain⟨LL0,hLL0⟩: ∃ L,L=rd_L5 L0 (k:Int):=⟨_,rfl⟩;have HLL0:Aside0 (Kd.R (Kd.int .i64) 3 wr w.heap.size (fun _=>True) (.slice AA0 LL0.length cc0) LL0):=⟨by rw[hLL0];exact Kd.R_mono ge_ (fun _ _=>trivial)⟩;rw[← hLL0] at hx_;simp only[Int.toNat_natCast] at hx_;have HELL0:=Aside0.mk hLL0;clear ge_ hv_ hcc_ hce_ hl_ hLL0;have hxLL0:=hx_;clear hx_;obtain⟨go,co2,eo,gbase,glt,cl,HG⟩:=Kd.S_form HO.out (by rw[rowsAt_len];omega);rw[rowsAt_len] at eo;injection eo with ea _ ec
   subst ea;subst ec;have GBO:=Aside0.mk gbase;clear gbase glt HG;have HLE0:Aside0 (LL0.length≤500000):=⟨by rw[HELL0.out,HL0.out];exact Nat.le_trans (lsAt_row _ _ _ _ _) hl⟩;go_wp2_with fail;have hLL0:=HLE0.out;obtain⟨wo1,hwo1⟩: ∃ x_:World,x_=wr:=⟨_,rfl⟩;subst hwo1;go_loopw [34] (fun v_ w'=> ∃ j:Nat,j≤LL0.length∧v_= .int .i64 j∧Aside0 (Kd.S (Kd.slice 79 k79) 67 w' w.heap.size (fun _=>True) (.slice (some ⟨go,0,none⟩) n0 co) ((rowsAt l0_2 n0 k).set k (([]:List S79) ++ (LL0.take j).map (fun i=>(⟨i,false⟩:S79)))))∧Aside0 (w'.heap[gb111]? =some (.cells #[.int .i64 (n0:Int), .bool a0_1, .slice A0_2 l0_2.length c0_2] 24 (0,0)))∧Aside0 (w'.heap[gb4]? =some (.cells #[.int .i64 0, .bool false, .slice none 0 0, .slice none 0 0, .slice none 0 0] 107 (0,0)))∧Aside0 (w'.heap[gb5]? =some (.cells #[.int .i64 (n0:Int), .bool a0_1, .slice A0_2 l0_2.length c0_2, .slice A1 n1 c1, .slice (some ⟨go,0,none⟩) n0 co] 107 (0,0)))∧Aside0 (Kd.S (Kd.slice 3 (Kd.int .i64)) 31 w' w.heap.size (fun _=>True) (.slice (some ad0) n0 cv21) L0)∧Aside0 (Kd.S (Kd.slice 3 (Kd.int .i64)) 31 w' w.heap.size (fun _=>True) (.slice Av23 n0 cv23) L1)∧Aside0 (Kd.R (Kd.int .i64) 3 w' w.heap.size (fun _=>True) (.slice AA0 LL0.length cc0) LL0)∧Aside0 (Below w.heap.size w w')) (fun v_ _=>LL0.length - (intOf v_).toNat)
   case atStart=>exact⟨0,Nat.zero_le _,rfl,⟨by rw[List.take_zero,List.map_nil,List.append_nil,rowsAt_self l0_2 n0 k hlt];exact HO.out⟩,BK111,BK4,BK5,Hv21,Hv23,HLL0,HB⟩
   case round=>
    clear HO BK111 BK4 BK5 Hv21 Hv23 HLL0 HB;obtain⟨j,hj,rfl,HO,BK111,BK4,BK5,Hv21,Hv23,HLL0,HB⟩:=hrel;by_cases hltj:j<LL0.length
    ·have pj:0≤((j:Nat):Int):=by omega
     have qj:((j:Nat):Int)<(LL0.length:Int):=by omega
     have cj:decide ((j:Int)<(LL0.length:Int))=true:=decide_eq_true qj;obtain⟨adj,eadj,hxj⟩:=Kd.at_int (Kd.R_reads' HLL0.out).2.2 (j:Int) pj qj;cases eadj;simp only[Int.toNat_natCast] at hxj;have HST:=Aside0.mk (row_step ([]:List S79) LL0 false j hltj);obtain⟨xj,hxv⟩: ∃ x_,x_=rd LL0 (j:Int):=⟨_,rfl⟩;obtain⟨RW,hRW⟩: ∃ r_,r_=(([]:List S79) ++ (LL0.take j).map (fun i=>(⟨i,false⟩:S79))):=⟨_,rfl⟩;have HRL:Aside0 (RW.length≤1000000):=⟨by rw[hRW];simp;have:=HLE0.out;omega⟩;rw[← hRW, ← hxv] at HST;obtain⟨RW2,hRW2⟩: ∃ r_,r_=(([]:List S79) ++ (LL0.take (j+1)).map (fun i=>(⟨i,false⟩:S79))):=⟨_,rfl⟩;rw[← hRW2] at HST;have HRW2:=Aside0.mk hRW2;clear hRW2;rw[← hxv] at hxj;rw[← hRW] at HO;have HRW:=Aside0.mk hRW;have HXV:=Aside0.mk hxv;clear hRW hxv;obtain⟨oki,c_,_,hM_,hcc_,_,_,hH_⟩:=Kd.S_elem HO.out [] (k:Int) pk qk;obtain⟨vr,rfl,hR_⟩:=hM_;rw[show ((rowsAt l0_2 n0 k).set k RW).getD (k:Int).toNat []=RW from rd_set (rowsAt l0_2 n0 k) k RW (by rw[rowsAt_len];exact hlt)] at hR_;obtain⟨Ar,cr,er⟩:=Kd.R_slice hR_;subst er;have hx4:=hcc_ 0 _ rfl;rw[show ((Kd.slice 79 k79)).sz=1 from rfl,Nat.mul_one,Nat.add_zero,Int.toNat_natCast] at hx4;have UU:=Aside0.mk hR_;have HH:=Aside0.mk hH_;clear hcc_ hR_ hH_;have hx5:wr.cell? ⟨gb5,4,none⟩=some (.slice (some ⟨go,0,none⟩) n0 co):=(blk_cell BK5.out 4).trans rfl;go_wp2_with fail;refine start_ (n:=14) (S:=fun w'=>w'.cell? ⟨gb5,4,none⟩=some (.slice (some ⟨go,0,none⟩) n0 co)∧w'.cell? ⟨go,k,none⟩=some (.slice Ar RW.length cr)) (ds:=[13]) #[false,false,false,false,false,false,false,false,false,false,false,false,false,false] (by kernel_rfl) rfl rfl ⟨hx5,hx4⟩ (fun hHeld=> ?_);have m0_:=Aside0.mk (below_drew HB.out);have m1_:=Aside0.mk ((show wr.drew.heap[gb111]? =_ from BK111.out));have m2_:=Aside0.mk ((show wr.drew.heap[gb4]? =_ from BK4.out));have m3_:=Aside0.mk ((show wr.drew.heap[gb5]? =_ from BK5.out));have m4_:=Aside0.mk (Kd.S_drew Hv21.out);have m5_:=Aside0.mk (Kd.S_drew Hv23.out);have m6_:=Aside0.mk (Kd.R_drew HLL0.out);have m7_:=Aside0.mk (Kd.R_drew UU.out);have m8_:=Aside0.mk (Kd.H_drew HH.out);clear HB BK111 BK4 BK5 Hv21 Hv23 HLL0 UU HH;have HB:=m0_;clear m0_;have BK111:=m1_;clear m1_;have BK4:=m2_;clear m2_;have BK5:=m3_;clear m3_;have Hv21:=m4_;clear m4_;have Hv23:=m5_;clear m5_;have HLL0:=m6_;clear m6_;have UU:=m7_;clear m7_;have HH:=m8_;clear m8_;clear HO hxj hx5 hx4;generalize wr.drew=w14 at HB BK111 BK4 BK5 Hv21 Hv23 HLL0 UU HH hHeld ⊢;refine pure_ (i:=0) (N:=some 38) (v:= ?_) (a':= ?_) #[true,false,false,false,false,false,false,false,false,false,false,false,false,false] rfl rfl (by kernel_rfl) (fun _ _ _ h=>h) (Or.inl ⟨by rfl,?_⟩) ?_ ?_
     rotate_left
     ·intro w'
      go_simp
      with_reducible rfl
     rotate_left
     ·simp only[Act.put,List.setIfInBounds_toArray,List.set_cons_zero,List.set_cons_succ,i64_w,i32_w]
      rfl
     refine pure_ (i:=2) (N:=some 40) (v:= ?_) (a':= ?_) #[true,false,true,false,false,false,false,false,false,false,false,false,false,false] rfl rfl (by kernel_rfl) (fun _ _ _ h=>h) (Or.inl ⟨by rfl,?_⟩) ?_ ?_
     rotate_left
     ·intro w'
      go_simp
      with_reducible rfl
     rotate_left
     ·simp only[Act.put,List.setIfInBounds_toArray,List.set_cons_zero,List.set_cons_succ,i64_w,i32_w]
      rfl
     refine pure_ (i:=3) (N:=some 41) (v:= ?_) (a':= ?_) #[true,false,true,true,false,false,false,false,false,false,false,false,false,false] rfl rfl (by kernel_rfl) (fun _ _ _ h=>h) (Or.inl ⟨by rfl,?_⟩) ?_ ?_
     rotate_left
     ·intro w'
      go_simp
      with_reducible rfl
     rotate_left
     ·simp only[Act.put,List.setIfInBounds_toArray,List.set_cons_zero,List.set_cons_succ,i64_w,i32_w]
      rfl
     refine pure_ (i:=5) (N:=some 43) (v:= ?_) (a':= ?_) #[true,false,true,true,false,true,false,false,false,false,false,false,false,false] rfl rfl (by kernel_rfl) (fun _ _ _ h=>h) (Or.inl ⟨by rfl,?_⟩) ?_ ?_
     rotate_left
     ·intro w'
      go_simp
      with_reducible rfl
     rotate_left
     ·simp only[Act.put,List.setIfInBounds_toArray,List.set_cons_zero,List.set_cons_succ,i64_w,i32_w]
      rfl
     refine pure_ (i:=8) (N:=some 46) (v:= ?_) (a':= ?_) #[true,false,true,true,false,true,false,false,true,false,false,false,false,false] rfl rfl (by kernel_rfl) (fun _ _ _ h=>h) (Or.inl ⟨by rfl,?_⟩) ?_ ?_
     rotate_left
     ·intro w'
      go_simp
      with_reducible rfl
     rotate_left
     ·simp only[Act.put,List.setIfInBounds_toArray,List.set_cons_zero,List.set_cons_succ,i64_w,i32_w]
      rfl
     refine pure_ (i:=9) (N:=some 47) (v:= ?_) (a':= ?_) #[true,false,true,true,false,true,false,false,true,true,false,false,false,false] rfl rfl (by kernel_rfl) (fun _ _ _ h=>h) (Or.inl ⟨by rfl,?_⟩) ?_ ?_
     rotate_left
     ·intro w'
      go_simp
      with_reducible rfl
     rotate_left
     ·simp only[Act.put,List.setIfInBounds_toArray,List.set_cons_zero,List.set_cons_succ,i64_w,i32_w]
      rfl
     refine take_ (i:=1) (N:=some 39) (v:= ?_) (a':= ?_) #[true,true,true,true,false,true,false,false,true,true,false,false,false,false] rfl rfl (by kernel_rfl) (fun _ _ _ h=>h) (Or.inl ⟨by rfl,?_⟩) hHeld ?_ ?_
     rotate_left
     ·rintro w' ⟨s0,s1⟩
      go_simp
      with_reducible rfl
     rotate_left
     ·simp only[Act.put,List.setIfInBounds_toArray,List.set_cons_zero,List.set_cons_succ,i64_w,i32_w]
      rfl
     refine take_ (i:=4) (N:=some 42) (v:= ?_) (a':= ?_) #[true,true,true,true,true,true,false,false,true,true,false,false,false,false] rfl rfl (by kernel_rfl) (fun _ _ _ h=>h) (Or.inl ⟨by rfl,?_⟩) hHeld ?_ ?_
     rotate_left
     ·rintro w' ⟨s0,s1⟩
      go_simp
      with_reducible rfl
     rotate_left
     ·simp only[Act.put,List.setIfInBounds_toArray,List.set_cons_zero,List.set_cons_succ,i64_w,i32_w]
      rfl
     refine pure_ (i:=6) (N:=some 44) (v:= ?_) (a':= ?_) #[true,true,true,true,true,true,true,false,true,true,false,false,false,false] rfl rfl (by kernel_rfl) (fun _ _ _ h=>h) (Or.inl ⟨by rfl,?_⟩) ?_ ?_
     rotate_left
     ·intro w'
      go_simp
      with_reducible rfl
     rotate_left
     ·simp only[Act.put,List.setIfInBounds_toArray,List.set_cons_zero,List.set_cons_succ,i64_w,i32_w]
      rfl
     refine take_ (i:=7) (N:=some 45) (v:= ?_) (a':= ?_) #[true,true,true,true,true,true,true,true,true,true,false,false,false,false] rfl rfl (by kernel_rfl) (fun _ _ _ h=>h) (Or.inl ⟨by rfl,?_⟩) hHeld ?_ ?_
     rotate_left
     ·rintro w' ⟨s0,s1⟩
      go_simp
      with_reducible rfl
     rotate_left
     ·simp only[Act.put,List.setIfInBounds_toArray,List.set_cons_zero,List.set_cons_succ,i64_w,i32_w]
      rfl
     refine one_ (i:=10) (N:=some 48) #[true,true,true,true,true,true,true,true,true,true,true,false,false,false] rfl rfl (by kernel_rfl) (by decide) (fun K hK=> ?_);refine value_ (w1:= ?_) (v:= ?_) (by rfl) rfl ?_ ?_
     rotate_left 2
     ·go_simp
      constructor
      ·rfl
      ·rfl
     refine hK.out _ _ ⟨(blk_cell (blk_alloc BK5.out _) 4).trans rfl,(World.cell?_alloc_lt _ _ _ (World.block_lt_of_cell? _ _ hHeld.2)).trans hHeld.2⟩ (fun hHeld2=> ?_);clear hK K hHeld2;refine norm_ (a':= ?_) ?_ ?_
     rotate_left
     ·show Act.put _ (some 48) _=_
      simp only[Act.put,List.setIfInBounds_toArray,List.set_cons_zero,List.set_cons_succ,i64_w,i32_w];rfl
     refine one_ (i:=11) (N:=some 49) #[true,true,true,true,true,true,true,true,true,true,true,true,false,false] rfl rfl (by kernel_rfl) (by decide) (fun K hK=> ?_);refine Kd.R_append_step k79 (w0:=w) w.heap.size (by rfl) (.tmp 45) (.tmp 48) 67 79 (.agg #[(.int .i64 0),(.bool false)]) 16 rfl Try.underlying67 info79 rfl (by decide) (by omega) (.slice Ar RW.length cr) RW (⟨xj,false⟩:S79) [.int .i64 xj, .bool false] (fun k_=>oki k_∨((fun _=>True)) k_∧w14.heap.size≤k_) (fun _=>False) rfl rfl ?aP (fun _ hk=>hk.elim) ?aF ?aO ?aB ?aS ?aL ?_
     (case aP=>exact k79_mkM _ _ _ (⟨xj,false⟩:S79))
     (case aF=>exact fun k_ hk=> .inr ⟨trivial,hk⟩)
     (case aO=>exact Kd.R_mono UU.out (fun _ hk=> .inl hk))
     (case aB=>exact HB.out)
     (case aS=>exact HB.out.size)
     (case aL=>have:=HRL.out;omega)
     intro v_ w16 ho hb hg hat
     clear hat
     have m0_:=Aside0.mk (blk_grown BK111.out hg (Kd.R_ne UU.out BK111.out (by decide)));have m1_:=Aside0.mk (blk_grown BK4.out hg (Kd.R_ne UU.out BK4.out (by decide)));have m2_:=Aside0.mk (blk_grown BK5.out hg (Kd.R_ne UU.out BK5.out (by decide)));have m3_:=Aside0.mk (Kd.S_over' Hv21.out (Kd.R_typed UU.out) (by decide) hg);have m4_:=Aside0.mk (Kd.S_over' Hv23.out (Kd.R_typed UU.out) (by decide) hg);have m5_:=Aside0.mk (Kd.R_over' HLL0.out (Kd.R_typed UU.out) (by decide) hg);have m6_:=Aside0.mk (Kd.H_grown (Kd.H_widen HH.out) hg (fun k_ e_=> .inl (UU.out.1 k_ e_)));have m7_:=Aside0.mk (hb);have m8_:=Aside0.mk (ho);clear BK111 BK4 BK5 Hv21 Hv23 HLL0 HH HB UU;have BK111:=m0_;clear m0_;have BK4:=m1_;clear m1_;have BK5:=m2_;clear m2_;have Hv21:=m3_;clear m3_;have Hv23:=m4_;clear m4_;have HLL0:=m5_;clear m5_;have HH:=m6_;clear m6_;have HB:=m7_;clear m7_;have UU:=m8_;clear m8_;rw[← HST.out] at UU;obtain⟨A2,c2,e2⟩:=Kd.R_slice UU.out;subst e2;obtain⟨_,_,hraw,_,_,hcc_,_⟩:=Kd.H_raw HH.out pk qk;obtain⟨_,hfr_⟩:=Kd.H_at HH.out pk qk;have hx4:=hcc_ 0 _ rfl;have hf4:=hfr_ 0;rw[show ((Kd.slice 79 k79)).sz=1 from rfl,Nat.mul_one,Nat.add_zero,Int.toNat_natCast] at hx4 hf4;have HRAW:=Aside0.mk hraw;clear hcc_ hfr_ hraw ho hb hg;refine hK.out _ _ ⟨(blk_cell BK5.out 4).trans rfl,hx4⟩ (fun hHeld=> ?_);clear hK K;refine norm_ (a':= ?_) ?_ ?_
     rotate_left
     ·show Act.put _ (some 49) _=_
      simp only[Act.put,List.setIfInBounds_toArray,List.set_cons_zero,List.set_cons_succ,i64_w,i32_w];rfl
     refine pure_ (i:=12) (N:=some 50) (v:= ?_) (a':= ?_) #[true,true,true,true,true,true,true,true,true,true,true,true,true,false] rfl rfl (by kernel_rfl) (fun _ _ _ h=>h) (Or.inl ⟨by rfl,?_⟩) ?_ ?_
     rotate_left
     ·intro w'
      go_simp
      with_reducible rfl
     rotate_left
     ·simp only[Act.put,List.setIfInBounds_toArray,List.set_cons_zero,List.set_cons_succ,i64_w,i32_w]
      rfl
     have HP:=Kd.S_seg0 HH.out pk qk (seg:=[.slice A2 RW2.length c2]) (j:=0) (show 1≤1 from by decide) (x':=RW2) (Kd.M_row UU.out) (fun _ hk=>hk);rw[show ((Kd.slice 79 k79)).sz=1 from rfl,Nat.mul_one,Nat.add_zero,Int.toNat_natCast,List.set_set] at HP;have HG2:w16.grownBy (w16.setCell ⟨go,k,none⟩ (.slice A2 RW2.length c2)) (some go):=HP.2;have HO:=Aside0.mk (show Kd.S (Kd.slice 79 k79) 67 (w16.setCell ⟨go,k,none⟩ (.slice A2 RW2.length c2)) w.heap.size (fun _=>True) (.slice (some ⟨go,0,none⟩) n0 co) ((rowsAt l0_2 n0 k).set k RW2) from HP.1);refine last_ (i:=13) (N:=none) #[true,true,true,true,true,true,true,true,true,true,true,true,true,true] rfl rfl (by kernel_rfl) (by decide) (fun K hK=> ?_);refine skip_ (w1:=w16.setCell ⟨go,k,none⟩ (.slice A2 RW2.length c2)) (by rfl) rfl ?_ ?_
     ·go_simp
     refine hK.out _ _ ?_;clear hK K;have m0_:=Aside0.mk (blk_grown BK111.out HG2 (Kd.R_ne HRAW.out BK111.out (by decide)));have m1_:=Aside0.mk (blk_grown BK4.out HG2 (Kd.R_ne HRAW.out BK4.out (by decide)));have m2_:=Aside0.mk (blk_grown BK5.out HG2 (Kd.R_ne HRAW.out BK5.out (by decide)));have m3_:=Aside0.mk (Kd.S_over' Hv21.out (Kd.R_typed HRAW.out) (by decide) HG2);have m4_:=Aside0.mk (Kd.S_over' Hv23.out (Kd.R_typed HRAW.out) (by decide) HG2);have m5_:=Aside0.mk (Kd.R_over' HLL0.out (Kd.R_typed HRAW.out) (by decide) HG2);have m6_:=Aside0.mk ((below_set HB.out GBO.out:Below w.heap.size w (w16.setCell ⟨go,k,none⟩ (.slice A2 RW2.length c2))));clear BK111 BK4 BK5 Hv21 Hv23 HLL0 HB;have BK111:=m0_;clear m0_;have BK4:=m1_;clear m1_;have BK5:=m2_;clear m2_;have Hv21:=m3_;clear m3_;have Hv23:=m4_;clear m4_;have HLL0:=m5_;clear m5_;have HB:=m6_;clear m6_;clear HP HG2 HRAW UU HH hHeld hx4 hf4;refine done_ (by kernel_rfl) ?_;generalize w16.setCell ⟨go,k,none⟩ (.slice A2 RW2.length c2)=w17 at HO BK111 BK4 BK5 Hv21 Hv23 HLL0 HB ⊢;rw[HRW2.out] at HO;clear HRW2 HST HRW;go_wp2_with fail;go_roundw
     case rel=>exact⟨j+1,by omega,by first|rfl|go_num,HO,BK111,BK4,BK5,Hv21,Hv23,HLL0,HB⟩
     case measure=>simp[intOf]<;>omega
    ·have ej:j=LL0.length:=by omega
     subst ej;rw[List.take_length] at HO;have cj:decide ((LL0.length:Int)<(LL0.length:Int))=false:=decide_eq_false (by omega);have hlenx:True:=trivial;obtain⟨ad1,AA1,cc1,e_,hx_,hl_,_⟩:=at_L5 (Kd.S_reads' Hv23.out).2.2 (k:Int) pk (by rw[hn1];omega);cases e_;obtain⟨ce_,hce_,hM_,hcc_⟩:=Kd.S_get Hv23.out [] (k:Int) pk qk;obtain⟨ve_,rfl,ge_⟩:=hM_;have hv_:=hcc_ 0 _ rfl;rw[Nat.add_zero,show ((Kd.slice 3 (Kd.int .i64))).sz=1 from rfl,Nat.mul_one] at hv_;replace hv_:=Option.some.inj (hv_.symm.trans hx_);rw[hv_] at ge_;obtain⟨LL1,hLL1⟩: ∃ L,L=rd_L5 L1 (k:Int):=⟨_,rfl⟩;have HLL1:Aside0 (Kd.R (Kd.int .i64) 3 wr w.heap.size (fun _=>True) (.slice AA1 LL1.length cc1) LL1):=⟨by rw[hLL1];exact Kd.R_mono ge_ (fun _ _=>trivial)⟩;rw[← hLL1] at hx_;simp only[Int.toNat_natCast] at hx_;have HELL1:=Aside0.mk hLL1;clear ge_ hv_ hcc_ hce_ hl_ hLL1;have hxLL1:=hx_;clear hx_;have HLE1:Aside0 (LL1.length≤500000):=⟨by rw[HELL1.out,HL1.out];exact Nat.le_trans (lsAt_row _ _ _ _ _) hl⟩;go_wp2_with fail;have hLL1:=HLE1.out;obtain⟨wo2,hwo2⟩: ∃ x_:World,x_=wr:=⟨_,rfl⟩;subst hwo2;go_loopw [57] (fun v_ w'=> ∃ j:Nat,j≤LL1.length∧v_= .int .i64 j∧Aside0 (Kd.S (Kd.slice 79 k79) 67 w' w.heap.size (fun _=>True) (.slice (some ⟨go,0,none⟩) n0 co) ((rowsAt l0_2 n0 k).set k ((([]:List S79) ++ LL0.map (fun i=>(⟨i,false⟩:S79))) ++ (LL1.take j).map (fun i=>(⟨i,true⟩:S79)))))∧Aside0 (w'.heap[gb111]? =some (.cells #[.int .i64 (n0:Int), .bool a0_1, .slice A0_2 l0_2.length c0_2] 24 (0,0)))∧Aside0 (w'.heap[gb4]? =some (.cells #[.int .i64 0, .bool false, .slice none 0 0, .slice none 0 0, .slice none 0 0] 107 (0,0)))∧Aside0 (w'.heap[gb5]? =some (.cells #[.int .i64 (n0:Int), .bool a0_1, .slice A0_2 l0_2.length c0_2, .slice A1 n1 c1, .slice (some ⟨go,0,none⟩) n0 co] 107 (0,0)))∧Aside0 (Kd.S (Kd.slice 3 (Kd.int .i64)) 31 w' w.heap.size (fun _=>True) (.slice (some ad0) n0 cv21) L0)∧Aside0 (Kd.S (Kd.slice 3 (Kd.int .i64)) 31 w' w.heap.size (fun _=>True) (.slice (some ad1) n0 cv23) L1)∧Aside0 (Kd.R (Kd.int .i64) 3 w' w.heap.size (fun _=>True) (.slice AA1 LL1.length cc1) LL1)∧Aside0 (Below w.heap.size w w')) (fun v_ _=>LL1.length - (intOf v_).toNat)
     case atStart=>exact⟨0,Nat.zero_le _,rfl,⟨by rw[List.take_zero,List.map_nil,List.append_nil];exact HO.out⟩,BK111,BK4,BK5,Hv21,Hv23,HLL1,HB⟩
     case round=>
      clear HO BK111 BK4 BK5 Hv21 Hv23 HLL1 HB;obtain⟨j,hj,rfl,HO,BK111,BK4,BK5,Hv21,Hv23,HLL1,HB⟩:=hrel;by_cases hltj:j<LL1.length
      ·have pj:0≤((j:Nat):Int):=by omega
       have qj:((j:Nat):Int)<(LL1.length:Int):=by omega
       have cj:decide ((j:Int)<(LL1.length:Int))=true:=decide_eq_true qj;obtain⟨adj,eadj,hxj⟩:=Kd.at_int (Kd.R_reads' HLL1.out).2.2 (j:Int) pj qj;cases eadj;simp only[Int.toNat_natCast] at hxj;have HST:=Aside0.mk (row_step (([]:List S79) ++ LL0.map (fun i=>(⟨i,false⟩:S79))) LL1 true j hltj);obtain⟨xj,hxv⟩: ∃ x_,x_=rd LL1 (j:Int):=⟨_,rfl⟩;obtain⟨RW,hRW⟩: ∃ r_,r_=((([]:List S79) ++ LL0.map (fun i=>(⟨i,false⟩:S79))) ++ (LL1.take j).map (fun i=>(⟨i,true⟩:S79))):=⟨_,rfl⟩;have HRL:Aside0 (RW.length≤1000000):=⟨by rw[hRW];simp;have:=HLE0.out;have:=HLE1.out;omega⟩;rw[← hRW, ← hxv] at HST;obtain⟨RW2,hRW2⟩: ∃ r_,r_=((([]:List S79) ++ LL0.map (fun i=>(⟨i,false⟩:S79))) ++ (LL1.take (j+1)).map (fun i=>(⟨i,true⟩:S79))):=⟨_,rfl⟩;rw[← hRW2] at HST;have HRW2:=Aside0.mk hRW2;clear hRW2;rw[← hxv] at hxj;rw[← hRW] at HO;have HRW:=Aside0.mk hRW;have HXV:=Aside0.mk hxv;clear hRW hxv;obtain⟨oki,c_,_,hM_,hcc_,_,_,hH_⟩:=Kd.S_elem HO.out [] (k:Int) pk qk;obtain⟨vr,rfl,hR_⟩:=hM_;rw[show ((rowsAt l0_2 n0 k).set k RW).getD (k:Int).toNat []=RW from rd_set (rowsAt l0_2 n0 k) k RW (by rw[rowsAt_len];exact hlt)] at hR_;obtain⟨Ar,cr,er⟩:=Kd.R_slice hR_;subst er;have hx4:=hcc_ 0 _ rfl;rw[show ((Kd.slice 79 k79)).sz=1 from rfl,Nat.mul_one,Nat.add_zero,Int.toNat_natCast] at hx4;have UU:=Aside0.mk hR_;have HH:=Aside0.mk hH_;clear hcc_ hR_ hH_;have hx5:wr.cell? ⟨gb5,4,none⟩=some (.slice (some ⟨go,0,none⟩) n0 co):=(blk_cell BK5.out 4).trans rfl;go_wp2_with fail;refine start_ (n:=14) (S:=fun w'=>w'.cell? ⟨gb5,4,none⟩=some (.slice (some ⟨go,0,none⟩) n0 co)∧w'.cell? ⟨go,k,none⟩=some (.slice Ar RW.length cr)) (ds:=[13]) #[false,false,false,false,false,false,false,false,false,false,false,false,false,false] (by kernel_rfl) rfl rfl ⟨hx5,hx4⟩ (fun hHeld=> ?_);have m0_:=Aside0.mk (below_drew HB.out);have m1_:=Aside0.mk ((show wr.drew.heap[gb111]? =_ from BK111.out));have m2_:=Aside0.mk ((show wr.drew.heap[gb4]? =_ from BK4.out));have m3_:=Aside0.mk ((show wr.drew.heap[gb5]? =_ from BK5.out));have m4_:=Aside0.mk (Kd.S_drew Hv21.out);have m5_:=Aside0.mk (Kd.S_drew Hv23.out);have m6_:=Aside0.mk (Kd.R_drew HLL1.out);have m7_:=Aside0.mk (Kd.R_drew UU.out);have m8_:=Aside0.mk (Kd.H_drew HH.out);clear HB BK111 BK4 BK5 Hv21 Hv23 HLL1 UU HH;have HB:=m0_;clear m0_;have BK111:=m1_;clear m1_;have BK4:=m2_;clear m2_;have BK5:=m3_;clear m3_;have Hv21:=m4_;clear m4_;have Hv23:=m5_;clear m5_;have HLL1:=m6_;clear m6_;have UU:=m7_;clear m7_;have HH:=m8_;clear m8_;clear HO hxj hx5 hx4;generalize wr.drew=w14 at HB BK111 BK4 BK5 Hv21 Hv23 HLL1 UU HH hHeld ⊢;refine pure_ (i:=0) (N:=some 61) (v:= ?_) (a':= ?_) #[true,false,false,false,false,false,false,false,false,false,false,false,false,false] rfl rfl (by kernel_rfl) (fun _ _ _ h=>h) (Or.inl ⟨by rfl,?_⟩) ?_ ?_
       rotate_left
       ·intro w'
        go_simp
        with_reducible rfl
       rotate_left
       ·simp only[Act.put,List.setIfInBounds_toArray,List.set_cons_zero,List.set_cons_succ,i64_w,i32_w]
        rfl
       refine pure_ (i:=2) (N:=some 63) (v:= ?_) (a':= ?_) #[true,false,true,false,false,false,false,false,false,false,false,false,false,false] rfl rfl (by kernel_rfl) (fun _ _ _ h=>h) (Or.inl ⟨by rfl,?_⟩) ?_ ?_
       rotate_left
       ·intro w'
        go_simp
        with_reducible rfl
       rotate_left
       ·simp only[Act.put,List.setIfInBounds_toArray,List.set_cons_zero,List.set_cons_succ,i64_w,i32_w]
        rfl
       refine pure_ (i:=3) (N:=some 64) (v:= ?_) (a':= ?_) #[true,false,true,true,false,false,false,false,false,false,false,false,false,false] rfl rfl (by kernel_rfl) (fun _ _ _ h=>h) (Or.inl ⟨by rfl,?_⟩) ?_ ?_
       rotate_left
       ·intro w'
        go_simp
        with_reducible rfl
       rotate_left
       ·simp only[Act.put,List.setIfInBounds_toArray,List.set_cons_zero,List.set_cons_succ,i64_w,i32_w]
        rfl
       refine pure_ (i:=5) (N:=some 66) (v:= ?_) (a':= ?_) #[true,false,true,true,false,true,false,false,false,false,false,false,false,false] rfl rfl (by kernel_rfl) (fun _ _ _ h=>h) (Or.inl ⟨by rfl,?_⟩) ?_ ?_
       rotate_left
       ·intro w'
        go_simp
        with_reducible rfl
       rotate_left
       ·simp only[Act.put,List.setIfInBounds_toArray,List.set_cons_zero,List.set_cons_succ,i64_w,i32_w]
        rfl
       refine pure_ (i:=8) (N:=some 69) (v:= ?_) (a':= ?_) #[true,false,true,true,false,true,false,false,true,false,false,false,false,false] rfl rfl (by kernel_rfl) (fun _ _ _ h=>h) (Or.inl ⟨by rfl,?_⟩) ?_ ?_
       rotate_left
       ·intro w'
        go_simp
        with_reducible rfl
       rotate_left
       ·simp only[Act.put,List.setIfInBounds_toArray,List.set_cons_zero,List.set_cons_succ,i64_w,i32_w]
        rfl
       refine pure_ (i:=9) (N:=some 70) (v:= ?_) (a':= ?_) #[true,false,true,true,false,true,false,false,true,true,false,false,false,false] rfl rfl (by kernel_rfl) (fun _ _ _ h=>h) (Or.inl ⟨by rfl,?_⟩) ?_ ?_
       rotate_left
       ·intro w'
        go_simp
        with_reducible rfl
       rotate_left
       ·simp only[Act.put,List.setIfInBounds_toArray,List.set_cons_zero,List.set_cons_succ,i64_w,i32_w]
        rfl
       refine take_ (i:=1) (N:=some 62) (v:= ?_) (a':= ?_) #[true,true,true,true,false,true,false,false,true,true,false,false,false,false] rfl rfl (by kernel_rfl) (fun _ _ _ h=>h) (Or.inl ⟨by rfl,?_⟩) hHeld ?_ ?_
       rotate_left
       ·rintro w' ⟨s0,s1⟩
        go_simp
        with_reducible rfl
       rotate_left
       ·simp only[Act.put,List.setIfInBounds_toArray,List.set_cons_zero,List.set_cons_succ,i64_w,i32_w]
        rfl
       refine take_ (i:=4) (N:=some 65) (v:= ?_) (a':= ?_) #[true,true,true,true,true,true,false,false,true,true,false,false,false,false] rfl rfl (by kernel_rfl) (fun _ _ _ h=>h) (Or.inl ⟨by rfl,?_⟩) hHeld ?_ ?_
       rotate_left
       ·rintro w' ⟨s0,s1⟩
        go_simp
        with_reducible rfl
       rotate_left
       ·simp only[Act.put,List.setIfInBounds_toArray,List.set_cons_zero,List.set_cons_succ,i64_w,i32_w]
        rfl
       refine pure_ (i:=6) (N:=some 67) (v:= ?_) (a':= ?_) #[true,true,true,true,true,true,true,false,true,true,false,false,false,false] rfl rfl (by kernel_rfl) (fun _ _ _ h=>h) (Or.inl ⟨by rfl,?_⟩) ?_ ?_
       rotate_left
       ·intro w'
        go_simp
        with_reducible rfl
       rotate_left
       ·simp only[Act.put,List.setIfInBounds_toArray,List.set_cons_zero,List.set_cons_succ,i64_w,i32_w]
        rfl
       refine take_ (i:=7) (N:=some 68) (v:= ?_) (a':= ?_) #[true,true,true,true,true,true,true,true,true,true,false,false,false,false] rfl rfl (by kernel_rfl) (fun _ _ _ h=>h) (Or.inl ⟨by rfl,?_⟩) hHeld ?_ ?_
       rotate_left
       ·rintro w' ⟨s0,s1⟩
        go_simp
        with_reducible rfl
       rotate_left
       ·simp only[Act.put,List.setIfInBounds_toArray,List.set_cons_zero,List.set_cons_succ,i64_w,i32_w]
        rfl
       refine one_ (i:=10) (N:=some 71) #[true,true,true,true,true,true,true,true,true,true,true,false,false,false] rfl rfl (by kernel_rfl) (by decide) (fun K hK=> ?_);refine value_ (w1:= ?_) (v:= ?_) (by rfl) rfl ?_ ?_
       rotate_left 2
       ·go_simp
        constructor
        ·rfl
        ·rfl
       refine hK.out _ _ ⟨(blk_cell (blk_alloc BK5.out _) 4).trans rfl,(World.cell?_alloc_lt _ _ _ (World.block_lt_of_cell? _ _ hHeld.2)).trans hHeld.2⟩ (fun hHeld2=> ?_);clear hK K hHeld2;refine norm_ (a':= ?_) ?_ ?_
       rotate_left
       ·show Act.put _ (some 71) _=_
        simp only[Act.put,List.setIfInBounds_toArray,List.set_cons_zero,List.set_cons_succ,i64_w,i32_w];rfl
       refine one_ (i:=11) (N:=some 72) #[true,true,true,true,true,true,true,true,true,true,true,true,false,false] rfl rfl (by kernel_rfl) (by decide) (fun K hK=> ?_);refine Kd.R_append_step k79 (w0:=w) w.heap.size (by rfl) (.tmp 68) (.tmp 71) 67 79 (.agg #[(.int .i64 0),(.bool false)]) 16 rfl Try.underlying67 info79 rfl (by decide) (by omega) (.slice Ar RW.length cr) RW (⟨xj,true⟩:S79) [.int .i64 xj, .bool true] (fun k_=>oki k_∨((fun _=>True)) k_∧w14.heap.size≤k_) (fun _=>False) rfl rfl ?aP (fun _ hk=>hk.elim) ?aF ?aO ?aB ?aS ?aL ?_
       (case aP=>exact k79_mkM _ _ _ (⟨xj,true⟩:S79))
       (case aF=>exact fun k_ hk=> .inr ⟨trivial,hk⟩)
       (case aO=>exact Kd.R_mono UU.out (fun _ hk=> .inl hk))
       (case aB=>exact HB.out)
       (case aS=>exact HB.out.size)
       (case aL=>have:=HRL.out;omega)
       intro v_ w16 ho hb hg hat
       clear hat
       have m0_:=Aside0.mk (blk_grown BK111.out hg (Kd.R_ne UU.out BK111.out (by decide)));have m1_:=Aside0.mk (blk_grown BK4.out hg (Kd.R_ne UU.out BK4.out (by decide)));have m2_:=Aside0.mk (blk_grown BK5.out hg (Kd.R_ne UU.out BK5.out (by decide)));have m3_:=Aside0.mk (Kd.S_over' Hv21.out (Kd.R_typed UU.out) (by decide) hg);have m4_:=Aside0.mk (Kd.S_over' Hv23.out (Kd.R_typed UU.out) (by decide) hg);have m5_:=Aside0.mk (Kd.R_over' HLL1.out (Kd.R_typed UU.out) (by decide) hg);have m6_:=Aside0.mk (Kd.H_grown (Kd.H_widen HH.out) hg (fun k_ e_=> .inl (UU.out.1 k_ e_)));have m7_:=Aside0.mk (hb);have m8_:=Aside0.mk (ho);clear BK111 BK4 BK5 Hv21 Hv23 HLL1 HH HB UU;have BK111:=m0_;clear m0_;have BK4:=m1_;clear m1_;have BK5:=m2_;clear m2_;have Hv21:=m3_;clear m3_;have Hv23:=m4_;clear m4_;have HLL1:=m5_;clear m5_;have HH:=m6_;clear m6_;have HB:=m7_;clear m7_;have UU:=m8_;clear m8_;rw[← HST.out] at UU;obtain⟨A2,c2,e2⟩:=Kd.R_slice UU.out;subst e2;obtain⟨_,_,hraw,_,_,hcc_,_⟩:=Kd.H_raw HH.out pk qk;obtain⟨_,hfr_⟩:=Kd.H_at HH.out pk qk;have hx4:=hcc_ 0 _ rfl;have hf4:=hfr_ 0;rw[show ((Kd.slice 79 k79)).sz=1 from rfl,Nat.mul_one,Nat.add_zero,Int.toNat_natCast] at hx4 hf4;have HRAW:=Aside0.mk hraw;clear hcc_ hfr_ hraw ho hb hg;refine hK.out _ _ ⟨(blk_cell BK5.out 4).trans rfl,hx4⟩ (fun hHeld=> ?_);clear hK K;refine norm_ (a':= ?_) ?_ ?_
       rotate_left
       ·show Act.put _ (some 72) _=_
        simp only[Act.put,List.setIfInBounds_toArray,List.set_cons_zero,List.set_cons_succ,i64_w,i32_w];rfl
       refine pure_ (i:=12) (N:=some 73) (v:= ?_) (a':= ?_) #[true,true,true,true,true,true,true,true,true,true,true,true,true,false] rfl rfl (by kernel_rfl) (fun _ _ _ h=>h) (Or.inl ⟨by rfl,?_⟩) ?_ ?_
       rotate_left
       ·intro w'
        go_simp
        with_reducible rfl
       rotate_left
       ·simp only[Act.put,List.setIfInBounds_toArray,List.set_cons_zero,List.set_cons_succ,i64_w,i32_w]
        rfl
       have HP:=Kd.S_seg0 HH.out pk qk (seg:=[.slice A2 RW2.length c2]) (j:=0) (show 1≤1 from by decide) (x':=RW2) (Kd.M_row UU.out) (fun _ hk=>hk);rw[show ((Kd.slice 79 k79)).sz=1 from rfl,Nat.mul_one,Nat.add_zero,Int.toNat_natCast,List.set_set] at HP;have HG2:w16.grownBy (w16.setCell ⟨go,k,none⟩ (.slice A2 RW2.length c2)) (some go):=HP.2;have HO:=Aside0.mk (show Kd.S (Kd.slice 79 k79) 67 (w16.setCell ⟨go,k,none⟩ (.slice A2 RW2.length c2)) w.heap.size (fun _=>True) (.slice (some ⟨go,0,none⟩) n0 co) ((rowsAt l0_2 n0 k).set k RW2) from HP.1);refine last_ (i:=13) (N:=none) #[true,true,true,true,true,true,true,true,true,true,true,true,true,true] rfl rfl (by kernel_rfl) (by decide) (fun K hK=> ?_);refine skip_ (w1:=w16.setCell ⟨go,k,none⟩ (.slice A2 RW2.length c2)) (by rfl) rfl ?_ ?_
       ·go_simp
       refine hK.out _ _ ?_;clear hK K;have m0_:=Aside0.mk (blk_grown BK111.out HG2 (Kd.R_ne HRAW.out BK111.out (by decide)));have m1_:=Aside0.mk (blk_grown BK4.out HG2 (Kd.R_ne HRAW.out BK4.out (by decide)));have m2_:=Aside0.mk (blk_grown BK5.out HG2 (Kd.R_ne HRAW.out BK5.out (by decide)));have m3_:=Aside0.mk (Kd.S_over' Hv21.out (Kd.R_typed HRAW.out) (by decide) HG2);have m4_:=Aside0.mk (Kd.S_over' Hv23.out (Kd.R_typed HRAW.out) (by decide) HG2);have m5_:=Aside0.mk (Kd.R_over' HLL1.out (Kd.R_typed HRAW.out) (by decide) HG2);have m6_:=Aside0.mk ((below_set HB.out GBO.out:Below w.heap.size w (w16.setCell ⟨go,k,none⟩ (.slice A2 RW2.length c2))));clear BK111 BK4 BK5 Hv21 Hv23 HLL1 HB;have BK111:=m0_;clear m0_;have BK4:=m1_;clear m1_;have BK5:=m2_;clear m2_;have Hv21:=m3_;clear m3_;have Hv23:=m4_;clear m4_;have HLL1:=m5_;clear m5_;have HB:=m6_;clear m6_;clear HP HG2 HRAW UU HH hHeld hx4 hf4;refine done_ (by kernel_rfl) ?_;generalize w16.setCell ⟨go,k,none⟩ (.slice A2 RW2.length c2)=w17 at HO BK111 BK4 BK5 Hv21 Hv23 HLL1 HB ⊢;rw[HRW2.out] at HO;clear HRW2 HST HRW;go_wp2_with fail;go_roundw
       case rel=>exact⟨j+1,by omega,by first|rfl|go_num,HO,BK111,BK4,BK5,Hv21,Hv23,HLL1,HB⟩
       case measure=>simp[intOf]<;>omega
      ·have ej:j=LL1.length:=by omega
       subst ej;rw[List.take_length] at HO;have cj:decide ((LL1.length:Int)<(LL1.length:Int))=false:=decide_eq_false (by omega);obtain⟨RW,hRW⟩: ∃ r_,r_=((([]:List S79) ++ LL0.map (fun i=>(⟨i,false⟩:S79))) ++ LL1.map (fun i=>(⟨i,true⟩:S79))):=⟨_,rfl⟩;have HRU:Aside0 (RW=stepsU l0_2 n0 (k:Int)):=⟨by rw[hRW,HELL0.out,HELL1.out,HL0.out,HL1.out];rfl⟩;have HRL:Aside0 (RW.length≤1000000):=⟨by rw[hRW];simp;have:=HLE0.out;have:=HLE1.out;omega⟩;rw[← hRW] at HO;clear hRW;obtain⟨oki,c_,_,hM_,hcc_,_,_,hH_⟩:=Kd.S_elem HO.out [] (k:Int) pk qk;obtain⟨vr,rfl,hR_⟩:=hM_;rw[show ((rowsAt l0_2 n0 k).set k RW).getD (k:Int).toNat []=RW from rd_set (rowsAt l0_2 n0 k) k RW (by rw[rowsAt_len];exact hlt)] at hR_;obtain⟨Ar,cr,er⟩:=Kd.R_slice hR_;subst er;have hx4:=hcc_ 0 _ rfl;rw[show ((Kd.slice 79 k79)).sz=1 from rfl,Nat.mul_one,Nat.add_zero,Int.toNat_natCast] at hx4;have UU:=Aside0.mk hR_;have HH:=Aside0.mk hH_;clear hcc_ hR_ hH_;have hx5:wr.cell? ⟨gb5,4,none⟩=some (.slice (some ⟨go,0,none⟩) n0 co):=(blk_cell BK5.out 4).trans rfl;have HEN:Aside0 (ends l0_2 n0):=⟨fun i hi=>⟨HE0.out i hi,HE1.out i hi⟩⟩;go_wp2_with (first|(go_at_call 85;refine(sort_row HH.out UU.out HRU.out hlt HEN.out (by omega) HRL.out).mono ?_;rintro e_ w20 ⟨rfl,vv,hg,hty,hS⟩;rw[List.set_set,rowsAt_set l0_2 n0 k hlt] at hS;have m0_:=Aside0.mk (blk_grown BK111.out hg (fun he=>by obtain⟨_,cells_,hc_⟩:=hty _ he.symm;have t_:=BK111.out.symm.trans hc_;simp at t_));have m1_:=Aside0.mk (blk_grown BK4.out hg (fun he=>by obtain⟨_,cells_,hc_⟩:=hty _ he.symm;have t_:=BK4.out.symm.trans hc_;simp at t_));have m2_:=Aside0.mk (blk_grown BK5.out hg (fun he=>by obtain⟨_,cells_,hc_⟩:=hty _ he.symm;have t_:=BK5.out.symm.trans hc_;simp at t_));have m3_:=Aside0.mk (Kd.S_over' (v:=vv) Hv21.out (fun k_ hk_=>(hty k_ hk_).2) (by decide) hg);have m4_:=Aside0.mk (Kd.S_over' (v:=vv) Hv23.out (fun k_ hk_=>(hty k_ hk_).2) (by decide) hg);have m5_:=Aside0.mk (HB.out.grown hg HB.out.size (fun k_ hk_=>(hty k_ hk_).1));have m6_:=Aside0.mk hS;clear hg hty hS HO BK111 BK4 BK5 Hv21 Hv23 HLL1 HB UU HH hx4 hx5;have HO:=m6_;have BK111:=m0_;have BK4:=m1_;have BK5:=m2_;have Hv21:=m3_;have Hv23:=m4_;have HB:=m5_;clear m0_ m1_ m2_ m3_ m4_ m5_ m6_)|fail);go_roundw
       case rel=>exact⟨k+1,by omega,by first|rfl|go_num,HO,BK111,BK4,BK5,Hv21,Hv23,HB⟩
       case measure=>simp[intOf]<;>omega
  ·have ek:n0=k:=by omega
   subst ek;have hx0:wr.cell? ⟨gb5,0,none⟩=some (.int .i64 (n0:Int)):=(blk_cell BK5.out 0).trans rfl;have hx1:wr.cell? ⟨gb5,1,none⟩=some (.bool a0_1):=(blk_cell BK5.out 1).trans rfl;have hx2:wr.cell? ⟨gb5,2,none⟩=some (.slice A0_2 l0_2.length c0_2):=(blk_cell BK5.out 2).trans rfl;have hx3:wr.cell? ⟨gb5,3,none⟩=some (.slice A1 n1 c1):=(blk_cell BK5.out 3).trans rfl;have hx4:wr.cell? ⟨gb5,4,none⟩=some (.slice Ao n0 co):=(blk_cell BK5.out 4).trans rfl;have hy0:wr.cell? ⟨gb4,0,none⟩=some (.int .i64 0):=(blk_cell BK4.out 0).trans rfl;have hf0:=blk_frozen BK4.out 0;have hy1:wr.cell? ⟨gb4,1,none⟩=some (.bool false):=(blk_cell BK4.out 1).trans rfl;have hf1:=blk_frozen BK4.out 1;have hy2:wr.cell? ⟨gb4,2,none⟩=some (.slice none 0 0):=(blk_cell BK4.out 2).trans rfl;have hf2:=blk_frozen BK4.out 2;have hy3:wr.cell? ⟨gb4,3,none⟩=some (.slice none 0 0):=(blk_cell BK4.out 3).trans rfl;have hf3:=blk_frozen BK4.out 3;have hy4:wr.cell? ⟨gb4,4,none⟩=some (.slice none 0 0):=(blk_cell BK4.out 4).trans rfl;have hf4:=blk_frozen BK4.out 4;have GE4':=GE4.out;go_wp2;refine bodyPost_ret (results_cell_row rfl _ _ gb4 107 #[.int .i64 (n0:Int), .bool a0_1, .slice A0_2 l0_2.length c0_2, .slice A1 n1 c1, .slice Ao n0 co] (0,0) _ rfl (by refine blk_put (cs:= #[.int .i64 (n0:Int), .bool a0_1, .slice A0_2 l0_2.length c0_2, .slice A1 n1 c1, .slice none 0 0]) ?_ 4 _ rfl;refine blk_put (cs:= #[.int .i64 (n0:Int), .bool a0_1, .slice A0_2 l0_2.length c0_2, .slice none 0 0, .slice none 0 0]) ?_ 3 _ rfl;refine blk_put (cs:= #[.int .i64 (n0:Int), .bool a0_1, .slice none 0 0, .slice none 0 0, .slice none 0 0]) ?_ 2 _ rfl;refine blk_put (cs:= #[.int .i64 (n0:Int), .bool false, .slice none 0 0, .slice none 0 0, .slice none 0 0]) ?_ 1 _ rfl;refine blk_put (cs:= #[.int .i64 0, .bool false, .slice none 0 0, .slice none 0 0, .slice none 0 0]) ?_ 0 _ rfl;exact BK4.out) Try.underlying107 rfl (by kernel_rfl)) rfl ?_;exact⟨_,rfl,Kd.S_mono (Kd.S_far (p:=⟨gb4,4,none⟩) (Kd.S_far (p:=⟨gb4,3,none⟩) (Kd.S_far (p:=⟨gb4,2,none⟩) (Kd.S_far (p:=⟨gb4,1,none⟩) (Kd.S_far (p:=⟨gb4,0,none⟩) (Kd.S_types HO.out BK4.out (by decide)) (fun _ hk=>hk.2) (.int .i64 (n0:Int))) (fun _ hk=>hk.2) (.bool a0_1)) (fun _ hk=>hk.2) (.slice A0_2 l0_2.length c0_2)) (fun _ hk=>hk.2) (.slice A1 n1 c1)) (fun _ hk=>hk.2) (.slice Ao n0 co)) (fun _ _=>trivial),by repeat(first|exact HB.out|refine below_set ?_ GE4.out)⟩
end H
namespace P
attribute [local go_sem] max2_int min2_int max_two min_two max_three min_three max_four min_four
def ebbtideref07_Ends.f (k:Nat) (Zc:Int) (Zb:Bool) (Za:List (S50)) (a1:Int) (a2:Int):Option (Int):=(ebbtideref05_Check.f k Zc Zb Za).bind fun t192=>(if t192=0 then((ebbtideref06_Node.f Zc Zb Za a1).bind fun t193=>(if t193=true then((ebbtideref06_Node.f Zc Zb Za a2).bind fun t194=>(if t194=true then(if a1=a2 then(some 70) else(some 0)) else(some 70))) else(some 70))) else(some t192))
set_option maxHeartbeats 8000000 in
set_option maxRecDepth 100000 in
theorem ebbtideref07_Ends.calls (k:Nat) (Zc:Int) (Zb:Bool) (Ze:Option Addr) (Zd:Nat) (Za:List (S50)) (a1:Int) (a2:Int) (r:Int) (w:World) (Zp:Kd.C k50 w Ze Za.length Za) (Zq:Za.length≤Zd) (h:ebbtideref07_Ends.f k Zc Zb Za a1 a2=some r):
  Calls Try.prog 27 #[.agg #[.int .i64 Zc, .bool Zb, .slice Ze Za.length Zd], .int .i64 a1, .int .i64 a2] w fun e w'=>e= .returned (.int .i64 r)∧Below w.heap.size w w':=by
 have hu24:=Try.underlying24;have Zj:=Ya Zp;have Zs:=Ya Zq;clear Zp Zq;have HB:=Ya (Yo w.heap.size w);have H:=h;unfold ebbtideref07_Ends.f at H;clear h;replace H:=Option.bind_eq_some_iff.mp H;obtain⟨t192,A40,H⟩:=H;try dsimp only at H
 have A4:=Ya A40;clear A40;by_cases c5:t192=0
 rotate_left
 ·rw[Yy c5] at H
  have c5b0:(t192 == 0)=false:=beq_eq_false_iff_ne.mpr c5;have c5b1:(t192 != 0)=true:=bne_iff_ne.mpr c5;obtain rfl:=Option.some.inj H;go_enter Try.func27,Try.ntmps27;go_wp2_with (first|(refine bx 3 24 #[.int .i64 Zc, .bool Zb, .slice Ze Za.length Zd] ?_;intro Xv hg w37 Zf hb;have Zr:=Ya (Zf);have GW191:=Ya (by rw[hg];exact(Yi HB.out):w.heap.size≤Xv);have GE191:=Ya (by rw[hg];exact(Yi HB.out):w.heap.size≤Xv);replace HB:=Ya (Yk HB.out hb);clear hb Zf hg;have hcz38_0:w37.cell? ⟨Xv,0,none⟩=some (.int .i64 Zc):=bc Zr 0;have hcz38_1:w37.cell? ⟨Xv,1,none⟩=some (.bool Zb):=bc Zr 1;have hcz38_2:w37.cell? ⟨Xv,2,none⟩=some (.slice Ze Za.length Zd):=bc Zr 2;have hfz38_0:=Yf Zr.out 0;have hfz38_1:=Yf Zr.out 1;have hfz38_2:=Yf Zr.out 2)|((with_reducible refine gate_callee (f:=30) rfl ?_);refine gl (some 9) Try.func30 #[.agg #[.int .i64 Zc, .bool Zb, .slice Ze Za.length Zd]] ?_;(with_reducible refine(ebbtideref05_Check.calls k Zc Zb _ _ Za t192 _ ?side1 ?side2 A4.out).mono ?_);(case side1=>exact kC (Yt Zj.out HB.out));(case side2=>exact Zs.out);rintro e w39 ⟨rfl,hb⟩;refine⟨_,rfl,?_⟩;replace Zr:=Ya (Yn Zr.out hb);replace HB:=Ya (Yk HB.out hb);(try clear hb)));go_ret;exact⟨by first|rfl|(simp[errW_none,errW_some]<;>rfl)|(simp[*,errW_none,errW_some]<;>rfl),HB.out⟩
 rw[Yx c5] at H;have c5b0:(t192 == 0)=true:=beq_iff_eq.mpr c5;have c5b1:(t192 != 0)=false:=bne_eq_false_iff_eq.mpr c5;clear c5;replace H:=Option.bind_eq_some_iff.mp H;obtain⟨t193,A60,H⟩:=H;try dsimp only at H
 have A6:=Ya A60;clear A60;by_cases c7:t193=true
 rotate_left
 ·replace c7:=Bool.eq_false_iff.mpr c7
  subst c7;rw[Yy (show ¬ (false=true) by decide)] at H;obtain rfl:=Option.some.inj H;go_enter Try.func27,Try.ntmps27;go_wp2_with (first|(refine bx 3 24 #[.int .i64 Zc, .bool Zb, .slice Ze Za.length Zd] ?_;intro Xv hg w32 Zf hb;have Zr:=Ya (Zf);have GW191:=Ya (by rw[hg];exact(Yi HB.out):w.heap.size≤Xv);have GE191:=Ya (by rw[hg];exact(Yi HB.out):w.heap.size≤Xv);replace HB:=Ya (Yk HB.out hb);clear hb Zf hg;have hcz33_0:w32.cell? ⟨Xv,0,none⟩=some (.int .i64 Zc):=bc Zr 0;have hcz33_1:w32.cell? ⟨Xv,1,none⟩=some (.bool Zb):=bc Zr 1;have hcz33_2:w32.cell? ⟨Xv,2,none⟩=some (.slice Ze Za.length Zd):=bc Zr 2;have hfz33_0:=Yf Zr.out 0;have hfz33_1:=Yf Zr.out 1;have hfz33_2:=Yf Zr.out 2)|((with_reducible refine gate_callee (f:=30) rfl ?_);refine gl (some 9) Try.func30 #[.agg #[.int .i64 Zc, .bool Zb, .slice Ze Za.length Zd]] ?_;(with_reducible refine(ebbtideref05_Check.calls k Zc Zb _ _ Za t192 _ ?side1 ?side2 A4.out).mono ?_);(case side1=>exact kC (Yt Zj.out HB.out));(case side2=>exact Zs.out);rintro e w34 ⟨rfl,hb⟩;refine⟨_,rfl,?_⟩;replace Zr:=Ya (Yn Zr.out hb);replace HB:=Ya (Yk HB.out hb);(try clear hb);have hcz35_0:w34.cell? ⟨Xv,0,none⟩=some (.int .i64 Zc):=bc Zr 0;have hcz35_1:w34.cell? ⟨Xv,1,none⟩=some (.bool Zb):=bc Zr 1;have hcz35_2:w34.cell? ⟨Xv,2,none⟩=some (.slice Ze Za.length Zd):=bc Zr 2;have hfz35_0:=Yf Zr.out 0;have hfz35_1:=Yf Zr.out 1;have hfz35_2:=Yf Zr.out 2)|((with_reducible refine gate_callee (f:=58) rfl ?_);refine gl (some 15) Try.func58 #[.agg #[.int .i64 Zc, .bool Zb, .slice Ze Za.length Zd], .int .i64 a1] ?_;(with_reducible refine(ebbtideref06_Node.calls Zc Zb _ _ Za a1 false _ ?side1 ?side2 A6.out).mono ?_);(case side1=>exact kC (Yt Zj.out HB.out));(case side2=>exact Zs.out);rintro e w36 ⟨rfl,hb⟩;refine⟨_,rfl,?_⟩;replace Zr:=Ya (Yn Zr.out hb);replace HB:=Ya (Yk HB.out hb);(try clear hb);(try clear hb2);(try clear hk);(try clear hi)));go_ret;exact⟨by first|rfl|(simp[errW_none,errW_some]<;>rfl)|(simp[*,errW_none,errW_some]<;>rfl),HB.out⟩
 subst c7;first|rw[Yx rfl] at H|rw[Yx trivial] at H
 replace H:=Option.bind_eq_some_iff.mp H;obtain⟨t194,A80,H⟩:=H;try dsimp only at H
 have A8:=Ya A80;clear A80;by_cases c9:t194=true
 rotate_left
 ·replace c9:=Bool.eq_false_iff.mpr c9
  subst c9;rw[Yy (show ¬ (false=true) by decide)] at H;obtain rfl:=Option.some.inj H;go_enter Try.func27,Try.ntmps27;go_wp2_with (first|(refine bx 3 24 #[.int .i64 Zc, .bool Zb, .slice Ze Za.length Zd] ?_;intro Xv hg w25 Zf hb;have Zr:=Ya (Zf);have GW191:=Ya (by rw[hg];exact(Yi HB.out):w.heap.size≤Xv);have GE191:=Ya (by rw[hg];exact(Yi HB.out):w.heap.size≤Xv);replace HB:=Ya (Yk HB.out hb);clear hb Zf hg;have hcz26_0:w25.cell? ⟨Xv,0,none⟩=some (.int .i64 Zc):=bc Zr 0;have hcz26_1:w25.cell? ⟨Xv,1,none⟩=some (.bool Zb):=bc Zr 1;have hcz26_2:w25.cell? ⟨Xv,2,none⟩=some (.slice Ze Za.length Zd):=bc Zr 2;have hfz26_0:=Yf Zr.out 0;have hfz26_1:=Yf Zr.out 1;have hfz26_2:=Yf Zr.out 2)|((with_reducible refine gate_callee (f:=30) rfl ?_);refine gl (some 9) Try.func30 #[.agg #[.int .i64 Zc, .bool Zb, .slice Ze Za.length Zd]] ?_;(with_reducible refine(ebbtideref05_Check.calls k Zc Zb _ _ Za t192 _ ?side1 ?side2 A4.out).mono ?_);(case side1=>exact kC (Yt Zj.out HB.out));(case side2=>exact Zs.out);rintro e w27 ⟨rfl,hb⟩;refine⟨_,rfl,?_⟩;replace Zr:=Ya (Yn Zr.out hb);replace HB:=Ya (Yk HB.out hb);(try clear hb);have hcz28_0:w27.cell? ⟨Xv,0,none⟩=some (.int .i64 Zc):=bc Zr 0;have hcz28_1:w27.cell? ⟨Xv,1,none⟩=some (.bool Zb):=bc Zr 1;have hcz28_2:w27.cell? ⟨Xv,2,none⟩=some (.slice Ze Za.length Zd):=bc Zr 2;have hfz28_0:=Yf Zr.out 0;have hfz28_1:=Yf Zr.out 1;have hfz28_2:=Yf Zr.out 2)|((with_reducible refine gate_callee (f:=58) rfl ?_);refine gl (some 15) Try.func58 #[.agg #[.int .i64 Zc, .bool Zb, .slice Ze Za.length Zd], .int .i64 a1] ?_;(with_reducible refine(ebbtideref06_Node.calls Zc Zb _ _ Za a1 true _ ?side1 ?side2 A6.out).mono ?_);(case side1=>exact kC (Yt Zj.out HB.out));(case side2=>exact Zs.out);rintro e w29 ⟨rfl,hb⟩;refine⟨_,rfl,?_⟩;replace Zr:=Ya (Yn Zr.out hb);replace HB:=Ya (Yk HB.out hb);(try clear hb);(try clear hb2);(try clear hk);(try clear hi);have hcz30_0:w29.cell? ⟨Xv,0,none⟩=some (.int .i64 Zc):=bc Zr 0;have hcz30_1:w29.cell? ⟨Xv,1,none⟩=some (.bool Zb):=bc Zr 1;have hcz30_2:w29.cell? ⟨Xv,2,none⟩=some (.slice Ze Za.length Zd):=bc Zr 2;have hfz30_0:=Yf Zr.out 0;have hfz30_1:=Yf Zr.out 1;have hfz30_2:=Yf Zr.out 2)|(go_at_call 58;(with_reducible refine(ebbtideref06_Node.calls Zc Zb _ _ Za a2 false _ ?side1 ?side2 A8.out).mono ?_);(case side1=>exact kC (Yt Zj.out HB.out));(case side2=>exact Zs.out);rintro e w31 ⟨rfl,hb⟩;replace Zr:=Ya (Yn Zr.out hb);replace HB:=Ya (Yk HB.out hb);(try clear hb);(try clear hb2);(try clear hk);(try clear hi)));go_ret;exact⟨by first|rfl|(simp[errW_none,errW_some]<;>rfl)|(simp[*,errW_none,errW_some]<;>rfl),HB.out⟩
 subst c9;first|rw[Yx rfl] at H|rw[Yx trivial] at H
 by_cases c10:a1=a2
 rotate_left
 ·rw[Yy c10] at H
  have c10b0:(a1 == a2)=false:=beq_eq_false_iff_ne.mpr c10;have c10b1:(a1 != a2)=true:=bne_iff_ne.mpr c10;obtain rfl:=Option.some.inj H;go_enter Try.func27,Try.ntmps27;go_wp2_with (first|(refine bx 3 24 #[.int .i64 Zc, .bool Zb, .slice Ze Za.length Zd] ?_;intro Xv hg w18 Zf hb;have Zr:=Ya (Zf);have GW191:=Ya (by rw[hg];exact(Yi HB.out):w.heap.size≤Xv);have GE191:=Ya (by rw[hg];exact(Yi HB.out):w.heap.size≤Xv);replace HB:=Ya (Yk HB.out hb);clear hb Zf hg;have hcz19_0:w18.cell? ⟨Xv,0,none⟩=some (.int .i64 Zc):=bc Zr 0;have hcz19_1:w18.cell? ⟨Xv,1,none⟩=some (.bool Zb):=bc Zr 1;have hcz19_2:w18.cell? ⟨Xv,2,none⟩=some (.slice Ze Za.length Zd):=bc Zr 2;have hfz19_0:=Yf Zr.out 0;have hfz19_1:=Yf Zr.out 1;have hfz19_2:=Yf Zr.out 2)|((with_reducible refine gate_callee (f:=30) rfl ?_);refine gl (some 9) Try.func30 #[.agg #[.int .i64 Zc, .bool Zb, .slice Ze Za.length Zd]] ?_;(with_reducible refine(ebbtideref05_Check.calls k Zc Zb _ _ Za t192 _ ?side1 ?side2 A4.out).mono ?_);(case side1=>exact kC (Yt Zj.out HB.out));(case side2=>exact Zs.out);rintro e w20 ⟨rfl,hb⟩;refine⟨_,rfl,?_⟩;replace Zr:=Ya (Yn Zr.out hb);replace HB:=Ya (Yk HB.out hb);(try clear hb);have hcz21_0:w20.cell? ⟨Xv,0,none⟩=some (.int .i64 Zc):=bc Zr 0;have hcz21_1:w20.cell? ⟨Xv,1,none⟩=some (.bool Zb):=bc Zr 1;have hcz21_2:w20.cell? ⟨Xv,2,none⟩=some (.slice Ze Za.length Zd):=bc Zr 2;have hfz21_0:=Yf Zr.out 0;have hfz21_1:=Yf Zr.out 1;have hfz21_2:=Yf Zr.out 2)|((with_reducible refine gate_callee (f:=58) rfl ?_);refine gl (some 15) Try.func58 #[.agg #[.int .i64 Zc, .bool Zb, .slice Ze Za.length Zd], .int .i64 a1] ?_;(with_reducible refine(ebbtideref06_Node.calls Zc Zb _ _ Za a1 true _ ?side1 ?side2 A6.out).mono ?_);(case side1=>exact kC (Yt Zj.out HB.out));(case side2=>exact Zs.out);rintro e w22 ⟨rfl,hb⟩;refine⟨_,rfl,?_⟩;replace Zr:=Ya (Yn Zr.out hb);replace HB:=Ya (Yk HB.out hb);(try clear hb);(try clear hb2);(try clear hk);(try clear hi);have hcz23_0:w22.cell? ⟨Xv,0,none⟩=some (.int .i64 Zc):=bc Zr 0;have hcz23_1:w22.cell? ⟨Xv,1,none⟩=some (.bool Zb):=bc Zr 1;have hcz23_2:w22.cell? ⟨Xv,2,none⟩=some (.slice Ze Za.length Zd):=bc Zr 2;have hfz23_0:=Yf Zr.out 0;have hfz23_1:=Yf Zr.out 1;have hfz23_2:=Yf Zr.out 2)|(go_at_call 58;(with_reducible refine(ebbtideref06_Node.calls Zc Zb _ _ Za a2 true _ ?side1 ?side2 A8.out).mono ?_);(case side1=>exact kC (Yt Zj.out HB.out));(case side2=>exact Zs.out);rintro e w24 ⟨rfl,hb⟩;replace Zr:=Ya (Yn Zr.out hb);replace HB:=Ya (Yk HB.out hb);(try clear hb);(try clear hb2);(try clear hk);(try clear hi)));go_ret;exact⟨by first|rfl|(simp[errW_none,errW_some]<;>rfl)|(simp[*,errW_none,errW_some]<;>rfl),HB.out⟩
 rw[Yx c10] at H;have c10b0:(a1 == a2)=true:=beq_iff_eq.mpr c10;have c10b1:(a1 != a2)=false:=bne_eq_false_iff_eq.mpr c10;clear c10;obtain rfl:=Option.some.inj H;go_enter Try.func27,Try.ntmps27;go_wp2_with (first|(refine bx 3 24 #[.int .i64 Zc, .bool Zb, .slice Ze Za.length Zd] ?_;intro Xv hg w11 Zf hb;have Zr:=Ya (Zf);have GW191:=Ya (by rw[hg];exact(Yi HB.out):w.heap.size≤Xv);have GE191:=Ya (by rw[hg];exact(Yi HB.out):w.heap.size≤Xv);replace HB:=Ya (Yk HB.out hb);clear hb Zf hg;have hcz12_0:w11.cell? ⟨Xv,0,none⟩=some (.int .i64 Zc):=bc Zr 0;have hcz12_1:w11.cell? ⟨Xv,1,none⟩=some (.bool Zb):=bc Zr 1;have hcz12_2:w11.cell? ⟨Xv,2,none⟩=some (.slice Ze Za.length Zd):=bc Zr 2;have hfz12_0:=Yf Zr.out 0;have hfz12_1:=Yf Zr.out 1;have hfz12_2:=Yf Zr.out 2)|((with_reducible refine gate_callee (f:=30) rfl ?_);refine gl (some 9) Try.func30 #[.agg #[.int .i64 Zc, .bool Zb, .slice Ze Za.length Zd]] ?_;(with_reducible refine(ebbtideref05_Check.calls k Zc Zb _ _ Za t192 _ ?side1 ?side2 A4.out).mono ?_);(case side1=>exact kC (Yt Zj.out HB.out));(case side2=>exact Zs.out);rintro e w13 ⟨rfl,hb⟩;refine⟨_,rfl,?_⟩;replace Zr:=Ya (Yn Zr.out hb);replace HB:=Ya (Yk HB.out hb);(try clear hb);have Jp:w13.cell? ⟨Xv,0,none⟩=some (.int .i64 Zc):=bc Zr 0;have Jq:w13.cell? ⟨Xv,1,none⟩=some (.bool Zb):=bc Zr 1;have hcz14_2:w13.cell? ⟨Xv,2,none⟩=some (.slice Ze Za.length Zd):=bc Zr 2;have Jr:=Yf Zr.out 0;have Js:=Yf Zr.out 1;have hfz14_2:=Yf Zr.out 2)|((with_reducible refine gate_callee (f:=58) rfl ?_);refine gl (some 15) Try.func58 #[.agg #[.int .i64 Zc, .bool Zb, .slice Ze Za.length Zd], .int .i64 a1] ?_;(with_reducible refine(ebbtideref06_Node.calls Zc Zb _ _ Za a1 true _ ?side1 ?side2 A6.out).mono ?_);(case side1=>exact kC (Yt Zj.out HB.out));(case side2=>exact Zs.out);rintro e w15 ⟨rfl,hb⟩;refine⟨_,rfl,?_⟩;replace Zr:=Ya (Yn Zr.out hb);replace HB:=Ya (Yk HB.out hb);(try clear hb);(try clear hb2);(try clear hk);(try clear hi);have Jt:w15.cell? ⟨Xv,0,none⟩=some (.int .i64 Zc):=bc Zr 0;have Ju:w15.cell? ⟨Xv,1,none⟩=some (.bool Zb):=bc Zr 1;have hcz16_2:w15.cell? ⟨Xv,2,none⟩=some (.slice Ze Za.length Zd):=bc Zr 2;have Jv:=Yf Zr.out 0;have Jw:=Yf Zr.out 1;have hfz16_2:=Yf Zr.out 2)|(go_at_call 58;(with_reducible refine(ebbtideref06_Node.calls Zc Zb _ _ Za a2 true _ ?side1 ?side2 A8.out).mono ?_);(case side1=>exact kC (Yt Zj.out HB.out));(case side2=>exact Zs.out);rintro e w17 ⟨rfl,hb⟩;replace Zr:=Ya (Yn Zr.out hb);replace HB:=Ya (Yk HB.out hb);(try clear hb);(try clear hb2);(try clear hk);(try clear hi)));go_ret;exact⟨by first|rfl|(simp[errW_none,errW_some]<;>rfl)|(simp[*,errW_none,errW_some]<;>rfl),HB.out⟩
end P
namespace Q
open P
open H (endsErr)
theorem ends_ev (n:Int) (b:Bool) (l:List S50) (s t:Int):Ev (fun k=>static_Ends.f k n b l s t) (endsErr n l s t):=by
 unfold static_Ends.f endsErr;refine Ev.bind (check_ev n b l) ?_;refine Ev.ite (fun h=> ?_) (fun h=> ?_)
 ·rw[Yx h]
  refine Ev.ite (fun g=> ?_) (fun g=> ?_)
  ·exact Ev.done (by unfold mn at g;rw[Yy (by omega)])
  ·unfold mn at g
   refine Ev.ite (fun g2=> ?_) (fun g2=> ?_)
   ·exact Ev.done (by unfold mx at g2;rw[Yy (by omega)])
   ·unfold mx at g2
    refine Ev.ite (fun g3=> ?_) (fun g3=> ?_)
    ·exact Ev.done (by rw[Yy (by omega)])
    ·exact Ev.done (by rw[Yx (by omega)])
 ·rw[Yy h]
  exact Ev.now _
theorem ref_ends_ev (n:Int) (b:Bool) (l:List S50) (s t:Int):Ev (fun k=>ebbtideref07_Ends.f k n b l s t) (endsErr n l s t):=by
 unfold ebbtideref07_Ends.f endsErr;refine Ev.bind (ref_check_ev n b l) ?_;refine Ev.ite (fun h=> ?_) (fun h=> ?_)
 ·rw[Yx h]
  refine Ev.call (node_eq n b l s) ?_;refine Ev.ite (fun g=> ?_) (fun g=> ?_)
  ·have g:=Yu g
   refine Ev.call (node_eq n b l t) ?_;refine Ev.ite (fun g2=> ?_) (fun g2=> ?_)
   ·have g2:=Yu g2
    refine Ev.ite (fun g3=> ?_) (fun g3=> ?_)
    ·exact Ev.done (by rw[Yy (by omega)])
    ·exact Ev.done (by rw[Yx (by omega)])
   ·have g2:=of_decide_eq_false (Bool.eq_false_iff.2 g2)
    exact Ev.done (by rw[Yy (by omega)])
  ·have g:=of_decide_eq_false (Bool.eq_false_iff.2 g)
   exact Ev.done (by rw[Yy (by omega)])
 ·rw[Yy h]
  exact Ev.now _
end Q
namespace H
open P Q
theorem right_of {n:Int} {l:List S50} {F:List Int} (h:askErr n l F=0): ∃ n0:Nat,n=n0∧Right l F n0:=by
 obtain⟨hn,hf⟩:=askErr_ok h;have h1:=hn.lo;have h2:=hn.hi;obtain⟨n0,rfl⟩: ∃ n0:Nat,n=n0:=⟨n.toNat,by omega⟩;refine⟨n0,rfl,⟨by omega,by omega,hn.len,hf.len,fun i hi=> ?_,fun i hi=> ?_⟩⟩
 ·have ha:=hn.at_ (i:=(i:Int)) (by omega) (by omega)
  exact⟨⟨ha.f0,ha.h0⟩,⟨ha.f1,ha.h1⟩⟩
 ·have ha:=hn.at_ (i:=(i:Int)) (by omega) (by omega)
  have hb:=hf.at_ i (by rw[hf.len];exact hi);rw[rd_nat] at hb;exact⟨ha.f3,ha.h3,hb.1,hb.2,ha.h2⟩
end H
namespace Q
open P
open H (wayP endsErr wayRes wayF wayF_eq StepsOk Right right_of stepsR bfP bfL dOf nodes wayL frP toP esP way_nat bf_same Fd bfP_upto dOf_len dOf_get fnd fnd_some fnd_none fnd_of backL_spec lv_lt esP_fr esP_to steps_ev)
theorem stepsOk {l:List S50} {F:List Int} {n:Nat} (hr:Right l F n):StepsOk l n (stepsR l F F.length):=
 ⟨hr.ends,hr.arcs,fun s hs=>H.stepsR_of hr s hs,by have:=H.stepsR_len l F F.length;have:=hr.len;have:=hr.arcs;omega⟩
theorem way_same {l:List S50} {F:List Int} {n:Nat} (hr:Right l F n) (s v:Nat):wayRes l (stepsR l F F.length) n s (v:Int)=(wayP l F n s v,decide (v∈nodes (bfP l F n s))):=by
 rw[way_nat,bf_same hr];unfold wayP;by_cases h:v∈nodes (bfP l F n s)
 ·rw[Yx h,Yx h,Yv h]
 ·rw[Yy h,Yy h,Yw h]
theorem way_ref_eq {l:List S50} {F:List Int} {n:Nat} (hr:Right l F n) {s:Nat} (hs:s<n) (b:Bool) (v:Nat):ebbtideref08_Way.f (n:Int) b l (s:Int) (v:Int) (stepsR l F F.length)=some (wayP l F n s v,decide (v∈nodes (bfP l F n s))):=by
 unfold ebbtideref08_Way.f;rw[wayF_eq (stepsOk hr) hs hr.fifty,way_same hr]
end Q
namespace Q
open P
open H (wayP Right bfP dOf nodes wayL frP toP esP bfP_upto dOf_len backL backL_spec esP_fr esP_to stFrom stTo stRoom mem_esP stL_of StepOf Leads netG fds_lt dOf_mem fnd fnd_some)
theorem leads_imp {α:Type} {to_:α→Nat} {es es':Nat→List α} (h: ∀ u e,e∈es u→e∈es' u): ∀ {L:List α} {u t:Nat},Leads to_ es u L t→Leads to_ es' u L t
 |[],u,t,hl=>hl
 |e::L,u,t,hl=>⟨h _ _ hl.1,leads_imp h hl.2⟩
theorem backL_mem {fr:S79→Nat} {st:List (H.Fd S79)} {s:Nat} (k:Nat): ∀ {v:Nat} {e:S79},e∈backL fr st s k v→ ∃ x,x∈st∧x.v≠s∧x.by_=e:=by
 induction k with
 |zero=>intro v e h;cases h
 |succ k ih=>
  intro v e h;unfold backL at h;by_cases hv:v=s
  ·rw[Yx hv] at h;cases h
  ·rw[Yy hv] at h
   cases hf:fnd st v with
   |none=>rw[hf] at h;cases h
   |some x=>
    rw[hf] at h;rcases List.mem_cons.1 h with h|h
    ·obtain⟨h1,h2⟩:=fnd_some hf
     exact⟨x,h1,by omega,h.symm⟩
    ·exact ih h
section
variable {l:List S50} {F:List Int} {n s t:Nat}
theorem wayP_fact (hr:Right l F n) (hs:s<n) (hm:t∈nodes (bfP l F n s)):Leads (toP l) (fun v=>H.stL l v l.length) s (wayP l F n s t) t∧ ∀ e,e∈wayP l F n s t→(netG l F (dOf n (bfP l F n s))).adm (frP l e) e=true:=by
 have hu:=(bfP_upto hr hs).fds;obtain⟨x,hx,hxt⟩:=List.mem_map.1 hm;have hW:wayP l F n s t=(backL (frP l) (bfP l F n s) s x.lv x.v).reverse:=by rw[← hxt];exact H.way_of hr hs hu ⟨[],by rw[List.append_nil]⟩ hx
 rw[hW];constructor
 ·have h_:=(backL_spec hu esP_fr _ hx (Nat.le_refl _)).2
  rw[hxt] at h_;exact leads_imp (fun u e he=>(mem_esP.1 he).1) (by rw[hxt];exact h_)
 ·intro e he
  rw[List.mem_reverse] at he;obtain⟨y,hy,hyne,hye⟩:=backL_mem _ he;rcases hu.mem_lv hy with ⟨h1,_⟩|⟨_,hto,z,hz,hze,hlv⟩
  ·exact absurd h1 hyne
  rw[hye] at hto hze;have hfz:=esP_fr _ _ hze;have hzd:=dOf_mem hu.nodup hz (0:Int) (fds_lt hu (esP_to hr) hs _ (List.mem_map_of_mem hz));have hyd:=dOf_mem hu.nodup hy (0:Int) (fds_lt hu (esP_to hr) hs _ (List.mem_map_of_mem hy));unfold H.Net_.adm;rw[Bool.and_eq_true,decide_eq_true_eq];refine⟨?_,?_⟩
  ·show (dOf n (bfP l F n s)).getD (toP l e) 0=(dOf n (bfP l F n s)).getD (frP l e) 0+1
   rw[hto,hfz];have h1:(dOf n (bfP l F n s)).getD y.v 0=(y.lv:Int):=hyd;have h2:(dOf n (bfP l F n s)).getD z.v 0=(z.lv:Int):=hzd;omega
  ·show decide (0<stRoom l F e)=true
   exact Yv (mem_esP.1 hze).2
end
end Q
namespace H
open P Q
def leftA (l:List S50) (F:List Int):List S50:=List.zipWith (fun a x=> { a with f2:=x }) l F
abbrev zer (l:List S50):List Int:=List.replicate l.length 0
theorem leftA_len {l:List S50} {F:List Int} (h:F.length=l.length):(leftA l F).length=l.length:=by
 unfold leftA;rw[List.length_zipWith];omega
theorem rdArc_of {l:List S50} {F:List Int} (h:F.length=l.length) (i:Int):rd_T50 (leftA l F) i= { rd_T50 l i with f2:=F.getD i.toNat 0 } :=by
 unfold rd_T50 leftA;rw[List.getD_eq_getElem?_getD,List.getD_eq_getElem?_getD,List.getD_eq_getElem?_getD,List.getElem?_zipWith];by_cases hi:i.toNat<l.length
 ·rw[List.getElem?_eq_getElem hi,List.getElem?_eq_getElem (by omega)];rfl
 ·rw[List.getElem?_eq_none (by omega),List.getElem?_eq_none (by omega)];rfl
theorem stFrom_of {l:List S50} {F:List Int} (h:F.length=l.length) (s:S79):stFrom (leftA l F) s=stFrom l s:=by
 unfold stFrom eFrom eTo;rw[rdArc_of h]
theorem stTo_of {l:List S50} {F:List Int} (h:F.length=l.length) (s:S79):stTo (leftA l F) s=stTo l s:=by
 unfold stTo eFrom eTo;rw[rdArc_of h]
theorem zer_get (l:List S50) (i:Nat):(zer l).getD i 0=0:=by
 rw[List.getD_eq_getElem?_getD,List.getElem?_replicate];split<;>rfl
theorem left_right {l:List S50} {F:List Int} {n:Nat} (hr:Right l F n):Right (leftA l F) (zer l) n:=by
 have hl:=leftA_len hr.len;refine⟨hr.pos,hr.fifty,by rw[hl];exact hr.arcs,by rw[hl,List.length_replicate],fun i hi=> ?_,fun i hi=> ?_⟩
 ·rw[rdArc_of hr.len];exact hr.ends i (by omega)
 ·rw[rdArc_of hr.len,zer_get,Int.toNat_natCast]
  have:=hr.nums i (by omega);show 0≤(rd_T50 l i).f3∧(rd_T50 l i).f3≤1048576∧(0:Int)≤0∧0≤F.getD i 0∧F.getD i 0≤1048576;omega
def alongL (F:List Int):Nat→List S79
 |0=>[]
 |k+1=>alongL F k ++ (if 0<F.getD k 0 then [⟨k,false⟩] else [])
theorem along_steps {l:List S50} {F:List Int} (h:F.length=l.length) (k:Nat):stepsR (leftA l F) (zer l) k=alongL F k:=by
 induction k with
 |zero=>rfl
 |succ k ih=>
  unfold stepsR alongL;rw[ih,rdArc_of h,zer_get,Int.toNat_natCast,Yy (c:=(0:Int)<0) (by omega),List.append_nil]
theorem wayRes_of {l:List S50} {F:List Int} (h:F.length=l.length) (L:List S79) (n s:Nat) (t:Int):wayRes (leftA l F) L n s t=wayRes l L n s t:=by
 have e1:toP (leftA l F)=toP l:=by funext e;unfold toP;rw[stTo_of h]
 have e2:frP (leftA l F)=frP l:=by funext e;unfold frP;rw[stFrom_of h]
 have e3:esL (leftA l F) L=esL l L:=by funext u;unfold esL;congr 1;funext e;rw[stFrom_of h]
 unfold wayRes bfL;rw[e1,e2,e3]
def reach (l:List S50) (F:List Int) (n s:Nat):List Nat:=nodes (bfP (leftA l F) (zer l) n s)
def wayA (l:List S50) (F:List Int) (n s t:Nat):List S79:=wayP (leftA l F) (zer l) n s t
def arcsOf (W:List S79):List Int:=W.map fun e=>e.f0
theorem way_along {l:List S50} {F:List Int} {n:Nat} (hr:Right l F n) (s v:Nat):wayRes l (alongL F F.length) n s (v:Int)=(wayA l F n s v,decide (v∈reach l F n s)):=by
 have h:=Q.way_same (left_right hr) s v;rw[wayRes_of hr.len,along_steps hr.len,List.length_replicate, ← hr.len] at h;exact h
def GoA (l:List S50):Int→List Int→Int→Prop
 |a,[],b=>a=b
 |a,i::ax,b=>(0≤i∧i<l.length)∧eFrom (rd_T50 l i)=a∧GoA l (eTo (rd_T50 l i)) ax b
theorem GoA.of {l:List S50} : ∀ {ax:List Int} {a b:Int},GoA l a ax b→ ∀ i,i∈ax→0≤i∧i<l.length
 |[],_,_,_,i,hi=>by cases hi
 |x::ax,_,_,h,i,hi=>(List.mem_cons.1 hi).elim (fun e=>e▸h.1) (h.2.2.of i)
theorem trail_go {l:List S50} : ∀ {W:List S79} {a b:Int},Trail l a W b→(∀ e,e∈W→e.f1=false)→GoA l a (arcsOf W) b
 |[],_,_,h,_=>h
 |x::W,a,b,h,hf=>by
  obtain⟨⟨i,h1,h2⟩,h3,h4⟩:=h;have hx:=hf x List.mem_cons_self;refine⟨by show 0≤x.f0∧x.f0<_;omega,?_,?_⟩
  ·unfold stFrom at h3;rw[hx] at h3;exact h3
  ·unfold stTo at h4;rw[hx] at h4;exact trail_go h4 (fun e he=>hf e (List.mem_cons_of_mem _ he))
theorem trail_of {l:List S50} {F:List Int} (h:F.length=l.length): ∀ {W:List S79} {a b:Int},Trail (leftA l F) a W b→Trail l a W b
 |[],_,_,g=>g
 |x::W,a,b,g=>by
  obtain⟨⟨i,h1,h2⟩,h3,h4⟩:=g;rw[stFrom_of h] at h3;rw[stTo_of h] at h4;exact⟨⟨i,by rw[leftA_len h] at h1;exact h1,h2⟩,h3,trail_of h h4⟩
structure Link (l:List S50) (F:List Int) (a b:Int) (ax:List Int):Prop where
 go:GoA l a ax b
 ne:ax≠[]
 pos: ∀ i,i∈ax→0<F.getD i.toNat 0
 once:ax.Pairwise fun x y=>eTo (rd_T50 l x)≠eTo (rd_T50 l y)
 mid: ∀ i,i∈ax.dropLast→eTo (rd_T50 l i)≠a
theorem rises_go {l:List S50} (lv:Int→Int): ∀ {ax:List Int} {a b:Int},GoA l a ax b→(∀ i,i∈ax→lv (eTo (rd_T50 l i))=lv (eFrom (rd_T50 l i))+1)→
  ax.Pairwise (fun x y=>lv (eTo (rd_T50 l x))<lv (eTo (rd_T50 l y)))∧(∀ i,i∈ax→lv a<lv (eTo (rd_T50 l i))∧lv (eTo (rd_T50 l i))≤lv b)∧lv a≤lv b
 |[],a,b,h,_=>by
  have h:a=b:=h;exact⟨List.Pairwise.nil,fun i hi=>(by cases hi),by rw[h];exact Int.le_refl _⟩
 |x::ax,a,b,h,hv=>by
  obtain⟨h0,rfl,h1⟩:=h;obtain⟨i1,i2,i3⟩:=rises_go lv h1 (fun i hi=>hv i (List.mem_cons_of_mem _ hi));have hx:=hv x List.mem_cons_self;refine⟨List.pairwise_cons.2 ⟨fun y hy=>(i2 y hy).1,i1⟩,fun i hi=> ?_,by omega⟩;rcases List.mem_cons.1 hi with rfl|hi
  ·omega
  ·have:=i2 i hi;omega
theorem rises_last {l:List S50} (lv:Int→Int): ∀ {ax:List Int} {a b:Int},GoA l a ax b→(∀ i,i∈ax→lv (eTo (rd_T50 l i))=lv (eFrom (rd_T50 l i))+1)→
  ∀ i,i∈ax.dropLast→lv (eTo (rd_T50 l i))<lv b
 |[],a,b,h,_=>fun i hi=>by cases hi
 |[x],a,b,h,_=>fun i hi=>by cases hi
 |x::y::ax,a,b,h,hv=>by
  obtain⟨h0,h2,h1⟩:=h;have ih:=rises_last lv h1 (fun i hi=>hv i (List.mem_cons_of_mem _ hi));intro i hi;rw[List.dropLast_cons_of_ne_nil (by simp)] at hi;rcases List.mem_cons.1 hi with rfl|hi
  ·have h3:=(rises_go lv h1 (fun i hi=>hv i (List.mem_cons_of_mem _ hi))).2.1 y List.mem_cons_self
   omega
  ·exact ih i hi
theorem way_link {l:List S50} {F:List Int} {n s t:Nat} (hr:Right l F n) (hs:s<n) (h:t∈reach l F n s):
  GoA l s (arcsOf (wayA l F n s t)) t∧(∀ i,i∈arcsOf (wayA l F n s t)→0<F.getD i.toNat 0)∧(∀ e,e∈wayA l F n s t→e.f1=false)∧
  ∃ lv:Int→Int, ∀ i,i∈arcsOf (wayA l F n s t)→lv (eTo (rd_T50 l i))=lv (eFrom (rd_T50 l i))+1:=by
 have hR:=left_right hr;obtain⟨h1,h2⟩:=Q.wayP_fact hR hs h;have h3:=trail_of hr.len (leads_trail hR (rows:=fun v=>stL (leftA l F) v (leftA l F).length) (fun _ _ g=>g) h1);have hstep:=h3.of;have hroom: ∀ e,e∈wayA l F n s t→e.f1=false∧0<F.getD e.f0.toNat 0:=by
  intro e he;have g:=Yu (adm_lv (h2 e he)).2;unfold stRoom at g;rw[rdArc_of hr.len,zer_get] at g;cases hb:e.f1
  ·rw[hb,Yy (by simp)] at g
   exact⟨rfl,by simpa using g⟩
  ·rw[hb,Yx rfl] at g
   omega
 have hf:=fun e he=>(hroom e he).1
 refine⟨trail_go h3 hf,?_,hf,fun v=>(dOf n (bfP (leftA l F) (zer l) n s)).getD v.toNat 0,?_⟩
 ·intro i hi
  obtain⟨e,he,rfl⟩:=List.mem_map.1 hi;exact(hroom e he).2
 ·intro i hi
  obtain⟨e,he,rfl⟩:=List.mem_map.1 hi;have g:=(adm_lv (h2 e he)).1;have hb:=hf e he;have g1:stTo (leftA l F) e=eTo (rd_T50 l e.f0):=by rw[stTo_of hr.len];unfold stTo;rw[hb];rfl
  have g2:stFrom (leftA l F) e=eFrom (rd_T50 l e.f0):=by rw[stFrom_of hr.len];unfold stFrom;rw[hb];rfl
  have g3:(dOf n (bfP (leftA l F) (zer l) n s)).getD (toP (leftA l F) e) 0=(dOf n (bfP (leftA l F) (zer l) n s)).getD (frP (leftA l F) e) 0+1:=g;unfold toP frP at g3;rw[g1,g2] at g3;exact g3
theorem chain_link {l:List S50} {F:List Int} {n s t:Nat} (hr:Right l F n) (hs:s<n) (hst:s≠t) (h:t∈reach l F n s):Link l F s t (arcsOf (wayA l F n s t)):=by
 obtain⟨h1,h2,_,lv,h3⟩:=way_link hr hs h;obtain⟨i1,i2,_⟩:=rises_go lv h1 h3;refine⟨h1,fun e=> ?_,h2,i1.imp fun hxy e=> ?_,fun i hi e=> ?_⟩
 ·rw[e] at h1;have h1:(s:Int)=t:=h1;omega
 ·rw[e] at hxy;omega
 ·have:=(i2 i (List.dropLast_subset _ hi)).1
  rw[e] at this;omega
theorem cycle_link {l:List S50} {F:List Int} {n:Nat} (hr:Right l F n) {i:Nat} (hi:i<l.length) (hp:0<F.getD i 0) {u v:Nat} (hu:eTo (rd_T50 l i)=u) (hv:eFrom (rd_T50 l i)=v) (huv:u≠v) (h:v∈reach l F n u):
  Link l F v v ((i:Int)::arcsOf (wayA l F n u v)):=by
 have hun:u<n:=by have:=(hr.ends i hi).2;omega
 obtain⟨h1,h2,_,lv,h3⟩:=way_link hr hun h;obtain⟨i1,i2,_⟩:=rises_go lv h1 h3;have hne:arcsOf (wayA l F n u v)≠[]:=fun e=>by rw[e] at h1;have h1:(u:Int)=v:=h1;omega
 refine⟨⟨by omega,hv,by rw[hu];exact h1⟩,by simp,fun j hj=> ?_,List.pairwise_cons.2 ⟨fun y hy e=> ?_,i1.imp fun hxy e=> ?_⟩,fun j hj e=> ?_⟩
 ·rcases List.mem_cons.1 hj with rfl|hj
  ·rw[Int.toNat_natCast];exact hp
  ·exact h2 j hj
 ·have:=(i2 y hy).1
  rw[← e,hu] at this;omega
 ·rw[e] at hxy;omega
 ·rw[List.dropLast_cons_of_ne_nil hne] at hj
  rcases List.mem_cons.1 hj with rfl|hj
  ·rw[hu] at e;omega
  ·have:=rises_last lv h1 h3 j hj
   rw[e] at this;omega
theorem loop_link {l:List S50} {F:List Int} {i:Nat} (hi:i<l.length) (hp:0<F.getD i 0) {v:Int} (hu:eTo (rd_T50 l i)=v) (hv:eFrom (rd_T50 l i)=v):Link l F v v [(i:Int)]:=
 ⟨⟨by omega,hv,hu⟩,by simp,fun j hj=>by rw[List.mem_singleton.1 hj,Int.toNat_natCast];exact hp,List.pairwise_singleton _ _,fun j hj=>by cases hj⟩
theorem Link.nodup {l:List S50} {F:List Int} {a b:Int} {ax:List Int} (h:Link l F a b ax):ax.Nodup:=h.once.imp fun g e=>g (by rw[e])
def amt (F:List Int) (ax:List Int):Int:=ax.foldl (fun k i=>min k (F.getD i.toNat 0)) (F.getD (ax.headD 0).toNat 0)
def lessA (F:List Int) (k:Int) (ax:List Int):List Int:=ax.foldl (fun F i=>F.set i.toNat (F.getD i.toNat 0 - k)) F
theorem min_fold (F:List Int): ∀ (ax:List Int) (k:Int),ax.foldl (fun k i=>min k (F.getD i.toNat 0)) k≤k∧(∀ i,i∈ax→ax.foldl (fun k i=>min k (F.getD i.toNat 0)) k≤F.getD i.toNat 0)∧
  (ax.foldl (fun k i=>min k (F.getD i.toNat 0)) k=k∨ ∃ i,i∈ax∧ax.foldl (fun k i=>min k (F.getD i.toNat 0)) k=F.getD i.toNat 0)
 |[],k=>⟨Int.le_refl _,fun i hi=>(by cases hi),Or.inl rfl⟩
 |x::ax,k=>by
  obtain⟨h1,h2,h3⟩:=min_fold F ax (min k (F.getD x.toNat 0));rw[List.foldl_cons];refine⟨by omega,fun i hi=> ?_,?_⟩
  ·rcases List.mem_cons.1 hi with rfl|hi
   ·omega
   ·exact h2 i hi
  ·rcases h3 with h3|⟨i,hi,h3⟩
   ·by_cases g:k≤F.getD x.toNat 0
    ·exact Or.inl (by omega)
    ·exact Or.inr ⟨x,List.mem_cons_self,by omega⟩
   ·exact Or.inr ⟨i,List.mem_cons_of_mem _ hi,h3⟩
theorem amt_spec {F:List Int} {ax:List Int} (h:ax≠[]):(∀ i,i∈ax→amt F ax≤F.getD i.toNat 0)∧ ∃ i,i∈ax∧amt F ax=F.getD i.toNat 0:=by
 cases ax with
 |nil=>exact absurd rfl h
 |cons x ax=>
  obtain⟨h1,h2,h3⟩:=min_fold F (x::ax) (F.getD x.toNat 0);refine⟨h2,?_⟩;rcases h3 with h3|h3
  ·exact⟨x,List.mem_cons_self,h3⟩
  ·exact h3
theorem lessA_len (k:Int): ∀ (ax:List Int) (F:List Int),(lessA F k ax).length=F.length
 |[],F=>rfl
 |x::ax,F=>(lessA_len k ax _).trans (List.length_set ..)
theorem lessA_get (k:Int) (j:Nat): ∀ (ax:List Int) (F:List Int),ax.Nodup→(∀ i,i∈ax→0≤i∧i<F.length)→(lessA F k ax).getD j 0=F.getD j 0 - (if (j:Int)∈ax then k else 0)
 |[],F,_,_=>by rw[Yy (by simp)];show F.getD j 0=_;omega
 |x::ax,F,hn,hb=>by
  rw[List.nodup_cons] at hn;have hx:=hb x List.mem_cons_self;show (lessA (F.set x.toNat (F.getD x.toNat 0 - k)) k ax).getD j 0=_;rw[lessA_get k j ax _ hn.2 (fun i hi=>by rw[List.length_set];exact hb i (List.mem_cons_of_mem _ hi))];by_cases e:x.toNat=j
  ·have e2:x=(j:Int):=by omega
   rw[e2] at hn;rw[e,getD_set_eq _ _ _ _ (by omega),Yy hn.1,Yx (by rw[e2];exact List.mem_cons_self)];omega
  ·have e2: ¬ (j:Int)=x:=by omega
   rw[getD_set_ne _ _ _ _ _ e];by_cases g:(j:Int)∈ax
   ·rw[Yx g,Yx (List.mem_cons_of_mem _ g)]
   ·rw[Yy g,Yy (fun g2=>(List.mem_cons.1 g2).elim e2 g)]
theorem bal_less {l:List S50} (k v:Int): ∀ {ax:List Int} {F:List Int} {a b:Int},F.length=l.length→GoA l a ax b→
  bal l (lessA F k ax) v=bal l F v - (if v=a then k else 0)+(if v=b then k else 0)
 |[],F,a,b,_,h=>by
  have h:a=b:=h;subst h;show bal l F v=_;omega
 |x::ax,F,a,b,hl,h=>by
  obtain⟨hx,rfl,ht⟩:=h;obtain⟨i,rfl⟩: ∃ i:Nat,x=i:=⟨x.toNat,by omega⟩;show bal l (lessA (F.set (i:Int).toNat (F.getD (i:Int).toNat 0 - k)) k ax) v=_;rw[bal_less k v (by rw[List.length_set,hl]) ht,Int.toNat_natCast,bal_set l v F i _ hl (by omega)];unfold eFrom eTo;have e1:(if v=(rd_T50 l i).f0 then k else 0)=(if (rd_T50 l i).f0=v then k else 0):=by
   by_cases e:(rd_T50 l i).f0=v
   ·rw[Yx e,Yx e.symm]
   ·rw[Yy e,Yy (Ne.symm e)]
  have e2:(if v=(rd_T50 l i).f1 then k else 0)=(if (rd_T50 l i).f1=v then k else 0):=by
   by_cases e:(rd_T50 l i).f1=v
   ·rw[Yx e,Yx e.symm]
   ·rw[Yy e,Yy (Ne.symm e)]
  rw[e1,e2];split<;>split<;>omega
def posN (F:List Int):Nat:=F.countP fun x=>decide (0<x)
theorem posN_le: ∀ {F G:List Int},F.length=G.length→(∀ j:Nat,F.getD j 0≤G.getD j 0)→posN F≤posN G∧((∃ j:Nat,F.getD j 0≤0∧0<G.getD j 0)→posN F<posN G)
 |[],[],_,_=>⟨Nat.le_refl _,fun⟨j,_,h⟩=>by simp at h⟩
 |[],_::_,h,_=>by simp at h
 |_::_,[],h,_=>by simp at h
 |x::F,y::G,h,hj=>by
  obtain⟨h1,h2⟩:=posN_le (F:=F) (G:=G) (by simpa using h) (fun j=>by simpa using hj (j+1));have h0:=hj 0;simp only[List.getD_cons_zero] at h0;have ex:posN (x::F)=posN F+(if decide (0<x)=true then 1 else 0):=List.countP_cons;have ey:posN (y::G)=posN G+(if decide (0<y)=true then 1 else 0):=List.countP_cons;rw[ex,ey];simp only[decide_eq_true_eq];refine⟨by split<;>split<;>omega,fun⟨j,g1,g2⟩=> ?_⟩;cases j with
  |zero=>
   simp only[List.getD_cons_zero] at g1 g2;rw[Yy (by omega),Yx g2];omega
  |succ j=>
   have:=h2 ⟨j,by simpa using g1,by simpa using g2⟩;split<;>split<;>omega
theorem posN_len (F:List Int):posN F≤F.length:=List.countP_le_length
structure Taken (l:List S50) (F:List Int) (n:Nat) (a b:Int) (ax:List Int):Prop where
 right:Right l (lessA F (amt F ax) ax) n
 pos:1≤amt F ax
 top:amt F ax≤1048576
 get: ∀ j:Nat,F.getD j 0=(lessA F (amt F ax) ax).getD j 0+(if (j:Int)∈ax then amt F ax else 0)
 le: ∀ j:Nat,(lessA F (amt F ax) ax).getD j 0≤F.getD j 0
 bal: ∀ v,bal l (lessA F (amt F ax) ax) v=bal l F v - (if v=a then amt F ax else 0)+(if v=b then amt F ax else 0)
 fewer:posN (lessA F (amt F ax) ax)<posN F
theorem Link.taken {l:List S50} {F:List Int} {n:Nat} (hr:Right l F n) {a b:Int} {ax:List Int} (h:Link l F a b ax):Taken l F n a b ax:=by
 obtain⟨h1,m,hm,h2⟩:=amt_spec (F:=F) h.ne;have hin:=h.go.of;have hmin:=hin m hm;have hmp:=h.pos m hm;have hget:=fun j=>lessA_get (amt F ax) j ax F h.nodup (fun i hi=>by have:=hin i hi;rw[hr.len];exact this)
 have hmn:=hr.nums m.toNat (by omega);have hp:1≤amt F ax:=by omega
 have htop:amt F ax≤1048576:=by omega
 have hle: ∀ j:Nat,(lessA F (amt F ax) ax).getD j 0≤F.getD j 0:=fun j=>by rw[hget];split<;>omega
 refine⟨⟨hr.pos,hr.fifty,hr.arcs,by rw[lessA_len];exact hr.len,hr.ends,fun i hi=> ?_⟩,hp,htop,fun j=>by rw[hget];omega,hle,fun v=>bal_less _ v hr.len h.go,?_⟩
 ·have g:=hr.nums i hi
  have g2:=hle i;have g3:0≤(lessA F (amt F ax) ax).getD i 0:=by
   rw[hget];split
   ·rename_i hj
    have:=h1 _ hj;rw[Int.toNat_natCast] at this;omega
   ·omega
  omega
 ·refine(posN_le (by rw[lessA_len]) hle).2 ⟨m.toNat,?_,hmp⟩
  rw[hget,Yx (by rw[Int.toNat_of_nonneg hmin.1];exact hm)];omega
end H
namespace H
open P Q
theorem go_len {l:List S50} {F:List Int} {n:Nat} (hr:Right l F n) {a b:Int} {ax:List Int} (h:Link l F a b ax):ax.length≤200:=by
 have h1:=pigeonN l.length (ax.map Int.toNat) (by
  refine List.pairwise_map.2 ?_;have h2:=h.go.of;refine(List.Pairwise.and_mem.1 h.nodup).imp fun {x y} hxy e=>hxy.2.2 ?_
  have:=h2 x hxy.1;have:=h2 y hxy.2.1;omega) (fun x hx=>by obtain⟨y,hy,rfl⟩:=List.mem_map.1 hx;have:=h.go.of y hy;omega)
 rw[List.length_map] at h1;have:=hr.arcs;omega
theorem wayA_len {l:List S50} {F:List Int} {n s v:Nat} (hr:Right l F n) (hs:s<n) (hne:s≠v) (h:v∈reach l F n s):(wayA l F n s v).length≤200:=by
 have h1:=go_len hr (chain_link hr hs hne h);unfold arcsOf at h1
 rwa [List.length_map] at h1
theorem wayA_le {l:List S50} {F:List Int} {n s v:Nat} (hr:Right l F n) (hs:s<n) (hne:s≠v):(wayA l F n s v).length≤200:=by
 by_cases h:v∈reach l F n s
 ·exact wayA_len hr hs hne h
 ·unfold wayA wayP
  unfold reach at h;rw[Yy h];exact Nat.zero_le _
def Rea (l:List S50) (F:List Int) (a b:Int):Prop:= ∃ ax,GoA l a ax b∧ ∀ i,i∈ax→0<F.getD i.toNat 0
theorem Rea.refl (l:List S50) (F:List Int) (a:Int):Rea l F a a:=⟨[],rfl,fun i hi=>by cases hi⟩
theorem GoA.app {l:List S50} : ∀ {ax bs:List Int} {a b c:Int},GoA l a ax b→GoA l b bs c→GoA l a (ax ++ bs) c
 |[],bs,a,b,c,h,g=>by have h:a=b:=h;rw[h];exact g
 |x::ax,bs,a,b,c,h,g=>⟨h.1,h.2.1,h.2.2.app g⟩
theorem Rea.step {l:List S50} {F:List Int} {a:Int} {i:Nat} (h:Rea l F a (eFrom (rd_T50 l i))) (hi:i<l.length) (hp:0<F.getD i 0):Rea l F a (eTo (rd_T50 l i)):=by
 obtain⟨ax,h1,h2⟩:=h;refine⟨ax ++ [(i:Int)],h1.app ⟨by omega,rfl,rfl⟩,fun j hj=> ?_⟩;rcases List.mem_append.1 hj with hj|hj
 ·exact h2 j hj
 ·rw[List.mem_singleton.1 hj,Int.toNat_natCast];exact hp
theorem Rea.mono {l:List S50} {F G:List Int} {a b:Int} (h:Rea l F a b) (hle: ∀ j:Nat,F.getD j 0≤G.getD j 0):Rea l G a b:=by
 obtain⟨ax,h1,h2⟩:=h;exact⟨ax,h1,fun i hi=>Int.lt_of_lt_of_le (h2 i hi) (hle _)⟩
theorem reach_iff {l:List S50} {F:List Int} {n s t:Nat} (hr:Right l F n) (hs:s<n):t∈reach l F n s↔Rea l F s t:=by
 constructor
 ·intro h
  obtain⟨h1,h2,_⟩:=way_link hr hs h;exact⟨_,h1,h2⟩
 ·rintro⟨ax,h1,h2⟩
  have hR:=left_right hr;have h0:sideP (leftA l F) (zer l) n s s=true:=by
   obtain⟨x,hx,hxv,_⟩:=bfP_head hR hs;exact sideP_iff.2 (List.mem_map.2 ⟨x,hx,hxv⟩)
  have key: ∀ (ax:List Int) (a b:Int),GoA l a ax b→(∀ i,i∈ax→0<F.getD i.toNat 0)→sideP (leftA l F) (zer l) n s a=true→sideP (leftA l F) (zer l) n s b=true:=by
   intro ax
   induction ax with
   |nil=>intro a b h _ h0;have h:a=b:=h;rw[← h];exact h0
   |cons x ax ih=>
    intro a b h hp h0;obtain⟨hx,rfl,ht⟩:=h;obtain⟨i,rfl⟩: ∃ i:Nat,x=i:=⟨x.toNat,by omega⟩;refine ih _ _ ht (fun i hi=>hp i (List.mem_cons_of_mem _ hi)) ?_;have g:=side_closed hR hs ⟨(i:Int),false⟩ ⟨i,by rw[leftA_len hr.len];omega,rfl⟩ ?_
    ·rw[stFrom_of hr.len,stTo_of hr.len] at g
     exact g h0
    ·have:=hp (i:Int) List.mem_cons_self
     unfold stRoom;rw[rdArc_of hr.len,zer_get];show 0<F.getD (i:Int).toNat 0 - 0;omega
  exact sideP_iff.1 (key ax _ _ h1 h2 h0)
def Acyc (l:List S50) (F:List Int):Prop:= ∀ i:Nat,i<l.length→0<F.getD i 0→ ¬ Rea l F (eTo (rd_T50 l i)) (eFrom (rd_T50 l i))
theorem Acyc.mono {l:List S50} {F G:List Int} (h:Acyc l G) (hle: ∀ j:Nat,F.getD j 0≤G.getD j 0):Acyc l F:=
 fun i hi hp g=>h i hi (Int.lt_of_lt_of_le hp (hle i)) (g.mono hle)
def T (R:Int→Bool) (l:List S50) (f:List Int) (i:Nat):Int:=(if R (rd_T50 l i).f0 then f.getD i 0 else 0) - (if R (rd_T50 l i).f1 then f.getD i 0 else 0)
theorem T_succ (R:Int→Bool) (a:S50) (l:List S50) (x:Int) (f:List Int) (i:Nat):T R (a::l) (x::f) (i+1)=T R l f i:=by
 have e:rd_T50 (a::l) ((i+1:Nat):Int)=rd_T50 l (i:Int):=by rw[rdArc_nat,rdArc_nat];rfl
 unfold T;rw[e,List.getD_cons_succ]
theorem out_le (R:Int→Bool): ∀ (l:List S50) (f:List Int),f.length=l.length→(∀ j:Nat,j<l.length→T R l f j≤0)→outR R l f≤0∧ ∀ i:Nat,i<l.length→outR R l f≤T R l f i
 |[],[],_,_=>⟨Int.le_refl _,fun i hi=>by simp at hi⟩
 |[],_::_,h,_=>by simp at h
 |_::_,[],h,_=>by simp at h
 |a::l,x::f,h,ht=>by
  obtain⟨h1,h2⟩:=out_le R l f (by simpa using h) (fun j hj=>by have:=ht (j+1) (by simpa using hj);rwa [T_succ] at this);have h0:=ht 0 (by simp);have e0:T R (a::l) (x::f) 0=(if R a.f0 then x else 0) - (if R a.f1 then x else 0):=rfl;rw[outR_cons, ← e0];refine⟨by omega,fun i hi=> ?_⟩;cases i with
  |zero=>omega
  |succ i=>rw[T_succ];have:=h2 i (by simpa using hi);omega
theorem out_ge (R:Int→Bool): ∀ (l:List S50) (f:List Int),f.length=l.length→(∀ j:Nat,j<l.length→0≤T R l f j)→0≤outR R l f∧ ∀ i:Nat,i<l.length→T R l f i≤outR R l f
 |[],[],_,_=>⟨Int.le_refl _,fun i hi=>by simp at hi⟩
 |[],_::_,h,_=>by simp at h
 |_::_,[],h,_=>by simp at h
 |a::l,x::f,h,ht=>by
  obtain⟨h1,h2⟩:=out_ge R l f (by simpa using h) (fun j hj=>by have:=ht (j+1) (by simpa using hj);rwa [T_succ] at this);have h0:=ht 0 (by simp);have e0:T R (a::l) (x::f) 0=(if R a.f0 then x else 0) - (if R a.f1 then x else 0):=rfl;rw[outR_cons, ← e0];refine⟨by omega,fun i hi=> ?_⟩;cases i with
  |zero=>omega
  |succ i=>rw[T_succ];have:=h2 i (by simpa using hi);omega
theorem sumR_two {R:Int→Bool} {g:Int→Int} {s t:Int} (n:Nat) (hst:s≠t) (h0:0≤s) (h1:s<n) (h2:0≤t) (h3:t<n) (hg: ∀ v:Int,0≤v→v<n→v≠s→v≠t→g v=0):
  sumR R g n=(if R s then g s else 0)+(if R t then g t else 0):=by
 have aux: ∀ m:Nat,m≤n→sumR R g m=(if s<m then(if R s then g s else 0) else 0)+(if t<m then(if R t then g t else 0) else 0):=by
  intro m
  induction m with
  |zero=>intro _;rw[Yy (by omega),Yy (by omega)];rfl
  |succ m ih=>
   intro hm;unfold sumR;rw[ih (by omega)];show _+(if R m then g m else 0)=_;by_cases e:s=(m:Int)
   ·subst e
    rw[Yy (Int.lt_irrefl _),Yx (show (m:Int)<((m+1:Nat):Int) by omega)];by_cases k:t<(m:Int)
    ·rw[Yx k,Yx (show t<((m+1:Nat):Int) by omega)];omega
    ·rw[Yy k,Yy (show ¬ t<((m+1:Nat):Int) by omega)];omega
   ·by_cases e2:t=(m:Int)
    ·subst e2
     rw[Yy (Int.lt_irrefl _),Yx (show (m:Int)<((m+1:Nat):Int) by omega)];by_cases k:s<(m:Int)
     ·rw[Yx k,Yx (show s<((m+1:Nat):Int) by omega)];omega
     ·rw[Yy k,Yy (show ¬ s<((m+1:Nat):Int) by omega)];omega
    ·have e3:(if R m then g m else 0)=0:=by
      rw[hg m (by omega) (by omega) (Ne.symm e) (Ne.symm e2)];split<;>rfl
     rw[e3];have k (a x:Int) (ha: ¬ a=(m:Int)):(if a<((m+1:Nat):Int) then x else 0)=if a<(m:Int) then x else 0:=by
      by_cases hx:a<(m:Int)
      ·rw[Yx hx,Yx (by omega)]
      ·rw[Yy hx,Yy (by omega)]
     rw[k s _ e,k t _ e2];omega
 rw[aux n (Nat.le_refl _),Yx h1,Yx h3]
theorem outR_all: ∀ (l:List S50) (f:List Int),outR (fun _=>true) l f=0
 |[],f=>by cases f<;>rfl
 |_::_,[]=>rfl
 |a::l,x::f=>by rw[outR_cons,outR_all l f];simp
theorem ends_sum {l:List S50} {F:List Int} {n s t:Nat} (h:IsFlow l F n s t) (hs:s<n) (ht:t<n) (hst:s≠t):bal l F t= -bal l F s:=by
 have h1:=sum_bal (fun _=>true) n l F (ends_arcs h.right.ends) h.right.len;rw[sumR_two n (s:=(s:Int)) (t:=(t:Int)) (by omega) (by omega) (by omega) (by omega) (by omega) h.keeps,outR_all] at h1;simp only[if_true] at h1;omega
noncomputable def from_ (l:List S50) (F:List Int) (u v:Int):Bool:= @decide (Rea l F u v) (Classical.propDecidable _)
theorem from_iff {l:List S50} {F:List Int} {u v:Int} :from_ l F u v=true↔Rea l F u v:=by
 unfold from_;exact @decide_eq_true_iff (Rea l F u v) (Classical.propDecidable _)
theorem from_no {l:List S50} {F:List Int} {u v:Int} :from_ l F u v=false↔ ¬ Rea l F u v:=by rw[← Bool.not_eq_true,from_iff]
theorem from_T {l:List S50} {F:List Int} {n:Nat} (hr:Right l F n) (u:Int) (j:Nat) (hj:j<l.length):T (from_ l F u) l F j≤0:=by
 have h0:=(hr.nums j hj).2.2.1;unfold T;by_cases hp:0<F.getD j 0
 ·by_cases g:Rea l F u (rd_T50 l j).f0
  ·have g2:from_ l F u (rd_T50 l j).f1=true:=from_iff.2 (Rea.step g hj hp)
   rw[from_iff.2 g,g2];simp
  ·rw[from_no.2 g];simp only[Bool.false_eq_true,if_false];split<;>omega
 ·have e:F.getD j 0=0:=by omega
  rw[e];simp
theorem circ_back {l:List S50} {F:List Int} {n:Nat} (hr:Right l F n) {i:Nat} (hi:i<l.length) (hp:0<F.getD i 0) (h:0≤sumR (from_ l F (eTo (rd_T50 l i))) (bal l F) n):Rea l F (eTo (rd_T50 l i)) (eFrom (rd_T50 l i)):=by
 refine Classical.byContradiction fun g=> ?_
 rw[sum_bal _ n l F (ends_arcs hr.ends) hr.len] at h;have h1:=(out_le (from_ l F (eTo (rd_T50 l i))) l F hr.len (from_T hr _)).2 i hi;have h2:from_ l F (eTo (rd_T50 l i)) (rd_T50 l i).f0=false:=from_no.2 g;have h3:from_ l F (eTo (rd_T50 l i)) (rd_T50 l i).f1=true:=from_iff.2 (Rea.refl _ _ _);unfold T at h1;rw[h2,h3] at h1;simp only[Bool.false_eq_true,if_false,if_true] at h1;omega
section
variable {l:List S50} {F:List Int} {n s t:Nat}
theorem acyc_in (h:IsFlow l F n s t) (ha:Acyc l F) (hs:s<n) (ht:t<n) (hst:s≠t) (hR:Rea l F s t) {i:Nat} (hi:i<l.length) (hp:0<F.getD i 0):eTo (rd_T50 l i)≠(s:Int):=by
 intro e;refine ha i hi hp (circ_back h.right hi hp ?_);rw[sumR_two n (s:=(s:Int)) (t:=(t:Int)) (by omega) (by omega) (by omega) (by omega) (by omega) h.keeps,e,from_iff.2 (Rea.refl l F s),from_iff.2 hR,ends_sum h hs ht hst];simp only[if_true];omega
theorem chain_le (h:IsFlow l F n s t) (ha:Acyc l F) (hs:s<n) (ht:t<n) (hst:s≠t) (hR:Rea l F s t) {j:Nat} (hj:j<l.length) (hf:eFrom (rd_T50 l j)=(s:Int)):F.getD j 0≤bal l F s:=by
 have hx:=fun i hi=>(h.right.nums i hi).2.2.1
 have hin:=fun(i:Nat) (hi:i<l.length) (hp:0<F.getD i 0)=>acyc_in h ha hs ht hst hR hi hp
 have h1:=sum_bal (fun v=>decide (v=(s:Int))) n l F (ends_arcs h.right.ends) h.right.len;rw[sumR_ends n (s:=(s:Int)) (t:=(t:Int)) (Yv rfl) (Yw (by omega)) (by omega) (by omega) h.keeps] at h1;have hT: ∀ i:Nat,i<l.length→T (fun v=>decide (v=(s:Int))) l F i=if eFrom (rd_T50 l i)=(s:Int) then F.getD i 0 else 0:=by
  intro i hi;unfold T;have e2:(if decide ((rd_T50 l i).f1=(s:Int))=true then F.getD i 0 else 0)=0:=by
   by_cases e:(rd_T50 l i).f1=(s:Int)
   ·have:=hx i hi
    have g: ¬ 0<F.getD i 0:=fun g=>hin i hi g e
    rw[Yv e,Yx rfl];omega
   ·rw[Yw e];rfl
  rw[e2];simp only[decide_eq_true_eq];show (if eFrom (rd_T50 l i)=(s:Int) then F.getD i 0 else 0) - 0=_;omega
 have h2:=(out_ge (fun v=>decide (v=(s:Int))) l F h.right.len (fun i hi=>by rw[hT i hi];have:=hx i hi;split<;>omega)).2 j hj;rw[hT j hj,Yx hf] at h2;omega
theorem rest_zero (h:IsFlow l F n s t) (ha:Acyc l F) (hs:s<n) (ht:t<n) (hst:s≠t) (hv:0≤bal l F s) (hR: ¬ Rea l F s t):bal l F s=0∧ ∀ j:Nat,F.getD j 0=0:=by
 have h1:=sum_bal (from_ l F s) n l F (ends_arcs h.right.ends) h.right.len;rw[sumR_ends n (s:=(s:Int)) (t:=(t:Int)) (from_iff.2 (Rea.refl _ _ _)) (from_no.2 hR) (by omega) (by omega) h.keeps] at h1;have h2:=(out_le (from_ l F s) l F h.right.len (from_T h.right s)).1;have h3:bal l F s=0:=by omega
 refine⟨h3,fun j=> ?_⟩;by_cases hj:j<l.length
 ·have h4:=(h.right.nums j hj).2.2.1
  refine Classical.byContradiction fun g=> ?_
  refine ha j hj (by omega) (circ_back h.right hj (by omega) ?_);rw[sumR_two n (s:=(s:Int)) (t:=(t:Int)) (by omega) (by omega) (by omega) (by omega) (by omega) h.keeps,ends_sum h hs ht hst,h3];split<;>split<;>simp
 ·have:=h.right.len
  rw[List.getD_eq_getElem?_getD,List.getElem?_eq_none (by omega)];rfl
end
def cycA (l:List S50) (F:List Int) (n i:Nat):Option (List Int):=
 if F.getD i 0=0 then none else if eFrom (rd_T50 l i)=eTo (rd_T50 l i) then some [(i:Int)] else
 if (eFrom (rd_T50 l i)).toNat∈reach l F n (eTo (rd_T50 l i)).toNat then some ((i:Int)::arcsOf (wayA l F n (eTo (rd_T50 l i)).toNat (eFrom (rd_T50 l i)).toNat)) else none
theorem cycA_some {l:List S50} {F:List Int} {n i:Nat} (hr:Right l F n) (hi:i<l.length) {ax:List Int} (h:cycA l F n i=some ax):Link l F (eFrom (rd_T50 l i)) (eFrom (rd_T50 l i)) ax∧ax.head? =some (i:Int):=by
 have h0:=(hr.nums i hi).2.2.1;have h1:=hr.ends i hi;unfold cycA at h;split at h
 ·cases h
 ·split at h
  ·rename_i g
   injection h with h
   subst h;exact⟨loop_link hi (by omega) g.symm rfl,rfl⟩
  ·split at h
   ·rename_i g1 g2 g3
    injection h with h
    subst h;have e1:((eFrom (rd_T50 l i)).toNat:Int)=eFrom (rd_T50 l i):=by omega
    have:=cycle_link hr hi (by omega) (u:=(eTo (rd_T50 l i)).toNat) (v:=(eFrom (rd_T50 l i)).toNat) (by omega) (by omega) (by omega) g3;rw[e1] at this;exact⟨this,rfl⟩
   ·cases h
theorem cycA_none {l:List S50} {F:List Int} {n i:Nat} (hr:Right l F n) (hi:i<l.length):cycA l F n i=none↔(0<F.getD i 0→ ¬ Rea l F (eTo (rd_T50 l i)) (eFrom (rd_T50 l i))):=by
 have h0:=(hr.nums i hi).2.2.1;have h1:=hr.ends i hi;have e1:((eFrom (rd_T50 l i)).toNat:Int)=eFrom (rd_T50 l i):=by omega
 have e2:((eTo (rd_T50 l i)).toNat:Int)=eTo (rd_T50 l i):=by omega
 have h2:=reach_iff (t:=(eFrom (rd_T50 l i)).toNat) hr (show (eTo (rd_T50 l i)).toNat<n by omega);rw[e1,e2] at h2;unfold cycA;by_cases g0:F.getD i 0=0
 ·rw[Yx g0]
  exact⟨fun _ hp=>by omega,fun _=>rfl⟩
 rw[Yy g0];by_cases g1:eFrom (rd_T50 l i)=eTo (rd_T50 l i)
 ·rw[Yx g1]
  exact⟨fun h=>(by cases h),fun h=>absurd (by rw[g1];exact Rea.refl _ _ _) (h (by omega))⟩
 rw[Yy g1];by_cases g2:(eFrom (rd_T50 l i)).toNat∈reach l F n (eTo (rd_T50 l i)).toNat
 ·rw[Yx g2]
  exact⟨fun h=>(by cases h),fun h=>absurd (h2.1 g2) (h (by omega))⟩
 ·rw[Yy g2]
  exact⟨fun _ _ g=>g2 (h2.2 g),fun _=>rfl⟩
def cycF (l:List S50) (n:Nat):Nat→Nat→List Int→List S47 × List Int
 |0,_,F=>([],F)
 |k+1,i,F=>if i<l.length then(match cycA l F n i with
   |none=>cycF l n k (i+1) F
   |some ax=>(⟨ax,amt F ax⟩::(cycF l n k i (lessA F (amt F ax) ax)).1,(cycF l n k i (lessA F (amt F ax) ax)).2)) else([],F)
def chF (l:List S50) (n s t:Nat):Nat→List Int→List S47 × List Int
 |0,F=>([],F)
 |k+1,F=>if t∈reach l F n s then(⟨arcsOf (wayA l F n s t),amt F (arcsOf (wayA l F n s t))⟩::(chF l n s t k (lessA F (amt F (arcsOf (wayA l F n s t))) (arcsOf (wayA l F n s t)))).1,(chF l n s t k (lessA F (amt F (arcsOf (wayA l F n s t))) (arcsOf (wayA l F n s t)))).2) else([],F)
def tot (cs:List S47) (j:Nat):Int:=cs.foldr (fun c x=>(if (j:Int)∈c.f0 then c.f1 else 0)+x) 0
theorem tot_cons (c:S47) (cs:List S47) (j:Nat):tot (c::cs) j=(if (j:Int)∈c.f0 then c.f1 else 0)+tot cs j:=rfl
structure Parts (l:List S50) (F:List Int) (n:Nat) (P:S47→Prop) (r:List S47 × List Int):Prop where
 right:Right l r.2 n
 get: ∀ j:Nat,F.getD j 0=r.2.getD j 0+tot r.1 j
 le: ∀ j:Nat,r.2.getD j 0≤F.getD j 0
 each: ∀ c,c∈r.1→1≤c.f1∧c.f1≤1048576∧P c
 few:r.1.length+posN r.2≤posN F
theorem Parts.none {l:List S50} {F:List Int} {n:Nat} (hr:Right l F n) (P:S47→Prop):Parts l F n P ([],F):=
 ⟨hr,fun j=>(by show F.getD j 0=F.getD j 0+(0:Int);omega),fun j=>Int.le_refl _,fun c hc=>(by cases hc),by show 0+posN F≤posN F;omega⟩
theorem Parts.cons {l:List S50} {F:List Int} {n:Nat} {P:S47→Prop} {a b:Int} {ax:List Int} (ht:Taken l F n a b ax) {r:List S47 × List Int} (h:Parts l (lessA F (amt F ax) ax) n P r) (hP:P ⟨ax,amt F ax⟩):
  Parts l F n P (⟨ax,amt F ax⟩::r.1,r.2):=by
 refine⟨h.right,fun j=> ?_,fun j=>Int.le_trans (h.le j) (ht.le j),fun c hc=> ?_,?_⟩
 ·have h1:=ht.get j
  have h2:=h.get j;show F.getD j 0=r.2.getD j 0+tot (_::r.1) j;rw[tot_cons];show F.getD j 0=r.2.getD j 0+((if (j:Int)∈ax then amt F ax else 0)+_);omega
 ·rcases List.mem_cons.1 hc with rfl|hc
  ·exact⟨ht.pos,ht.top,hP⟩
  ·exact h.each c hc
 ·have:=h.few;have:=ht.fewer
  show (_::r.1).length+posN r.2≤posN F;rw[List.length_cons];omega
def IsCyc (l:List S50) (c:S47):Prop:= ∃ (F:List Int) (i:Nat),i<l.length∧Link l F (eFrom (rd_T50 l i)) (eFrom (rd_T50 l i)) c.f0∧c.f0.head? =some (i:Int)
def IsCh (l:List S50) (s t:Int) (c:S47):Prop:= ∃ F:List Int,Link l F s t c.f0
theorem cycF_parts {l:List S50} {n:Nat} (k:Nat): ∀ {i:Nat} {F:List Int},Right l F n→posN F+(l.length - i)<k→(∀ j:Nat,j<i→j<l.length→0<F.getD j 0→ ¬ Rea l F (eTo (rd_T50 l j)) (eFrom (rd_T50 l j)))→
  Parts l F n (IsCyc l) (cycF l n k i F)∧Acyc l (cycF l n k i F).2∧ ∀ v,bal l (cycF l n k i F).2 v=bal l F v:=by
 induction k with
 |zero=>intro i F hr hk;omega
 |succ k ih=>
  intro i F hr hk ha;unfold cycF;by_cases hi:i<l.length
  ·rw[Yx hi]
   cases hc:cycA l F n i with
   |none=>
    refine ih hr (by omega) fun j hj hjl=> ?_
    by_cases e:j=i
    ·subst e;exact(cycA_none hr hi).1 hc
    ·exact ha j (by omega) hjl
   |some ax=>
    obtain⟨hl,hh⟩:=cycA_some hr hi hc;have ht:=hl.taken hr;obtain⟨g1,g2,g3⟩:=ih (i:=i) ht.right (by have:=ht.fewer;omega) (fun j hj hjl hp g=>ha j hj hjl (Int.lt_of_lt_of_le hp (ht.le j)) (g.mono ht.le));refine⟨g1.cons ht ⟨F,i,hi,hl,hh⟩,g2,fun v=> ?_⟩;show bal l (cycF l n k i (lessA F (amt F ax) ax)).2 v=_;rw[g3,ht.bal];split<;>omega
  ·rw[Yy hi]
   exact⟨Parts.none hr _,fun j hj=>ha j (by omega) hj,fun v=>rfl⟩
theorem go_first {l:List S50} {ax:List Int} {a b:Int} (h:GoA l a ax b) (hne:ax≠[]): ∃ j:Nat,j<l.length∧(j:Int)∈ax∧eFrom (rd_T50 l j)=a:=by
 cases ax with
 |nil=>exact absurd rfl hne
 |cons x ax=>
  obtain⟨hx,h2,_⟩:=h;refine⟨x.toNat,by omega,by rw[Int.toNat_of_nonneg hx.1];exact List.mem_cons_self,by rw[Int.toNat_of_nonneg hx.1];exact h2⟩
theorem chF_parts {l:List S50} {n s t:Nat} (hs:s<n) (ht:t<n) (hst:s≠t) (k:Nat): ∀ {F:List Int},IsFlow l F n s t→Acyc l F→0≤bal l F s→posN F<k→
  Parts l F n (IsCh l s t) (chF l n s t k F)∧(∀ j:Nat,(chF l n s t k F).2.getD j 0=0)∧((chF l n s t k F).1.foldr (fun c x=>c.f1+x) 0=bal l F s):=by
 induction k with
 |zero=>intro F hr _ _ hk;omega
 |succ k ih=>
  intro F hf ha hv hk;unfold chF;by_cases hR:t∈reach l F n s
  ·rw[Yx hR]
   have hl:=chain_link hf.right hs hst hR;have hR2:=(reach_iff hf.right hs).1 hR;generalize arcsOf (wayA l F n s t)=ax at hl ⊢;have hk2:=hl.taken hf.right;obtain⟨j,hj,hjm,hjs⟩:=go_first hl.go hl.ne;have h1:=chain_le hf ha hs ht hst hR2 hj hjs;have h2:=(amt_spec (F:=F) hl.ne).1 _ hjm;rw[Int.toNat_natCast] at h2;have hb:bal l (lessA F (amt F ax) ax) s=bal l F s - amt F ax:=by
    rw[hk2.bal,Yx rfl,Yy (by omega)];omega
   obtain⟨g1,g2,g3⟩:=ih (F:=lessA F (amt F ax) ax) ⟨hk2.right,fun v h0 hn e1 e2=>by rw[hk2.bal,Yy e1,Yy e2,hf.keeps v h0 hn e1 e2];omega⟩ (ha.mono hk2.le) (by rw[hb];omega) (by have:=hk2.fewer;omega);refine⟨g1.cons hk2 ⟨F,hl⟩,g2,?_⟩;show amt F ax+(chF l n s t k (lessA F (amt F ax) ax)).1.foldr (fun c x=>c.f1+x) 0=_;rw[g3,hb];omega
  ·rw[Yy hR]
   obtain⟨h1,h2⟩:=rest_zero hf ha hs ht hst hv (fun g=>hR ((reach_iff hf.right hs).2 g));exact⟨Parts.none hf.right _,h2,h1.symm⟩
end H
namespace H
open P
section
variable {n0:Nat} {Zb:Bool} {A2:Option Addr} {c2:Nat} {l:List S50} {gF cF:Nat} {A4:Option Addr} {c4 gx gd gn B:Nat} {F D:List Int} {nx:List Nat} {w w1:World}
theorem isI_C {g:Nat} {X:List Int} (h:IsI w g X) (hl:X.length≤9223372036854775807):Kd.C (Kd.int .i64) w (some ⟨g,0,none⟩) X.length X:=(Kd.R_reads' (h.R hl (base:=0) (Nat.zero_le _) (ok:=fun _=>True) trivial)).2.2
theorem ks_b {S:Nat→Prop} {w2:World} (h:Ks S w w1) (hb:Below w.heap.size w1 w2):Ks S w w2:=
 ⟨hb.os.trans h.os,hb.tape.trans h.tape,hb.output.trans h.output,Nat.le_trans h.size hb.size,fun k hk hs=>(hb.block k hk).trans (h.block k hk hs)⟩
end
end H
namespace Q
open P
open H (endsErr Right right_of)
theorem ends_zero {n:Int} {l:List S50} {s t:Int} (h:endsErr n l s t=0): ∃ n0 s0 t0:Nat,n=n0∧s=s0∧t=t0∧s0<n0∧t0<n0∧s0≠t0∧NetOk n0 l∧Right l (List.replicate l.length 0) n0:=by
 have hb:NetOk n l∧0≤s∧s<n∧0≤t∧t<n∧s≠t:=by
  unfold endsErr at h;by_cases hn:netErr n l=0
  ·rw[Yx hn] at h
   split at h
   ·rename_i he
    exact⟨netErr_ok hn,he⟩
   ·cases h
  ·rw[Yy hn] at h;exact absurd h hn
 obtain⟨hn,h1,h2,h3,h4,h5⟩:=hb;have hz:FlowOk l (List.replicate l.length 0):=by
  refine⟨by simp,fun i hi=> ?_⟩;rw[List.length_replicate] at hi;have ha:=(hn.at_ (i:=(i:Int)) (by omega) (by omega)).f2;rw[rd_nat,List.getD_eq_getElem?_getD,List.getElem?_replicate,Yx hi];exact⟨Int.le_refl _,ha⟩
 obtain⟨n0,rfl,hr⟩:=right_of (ask_of hn hz);exact⟨n0,s.toNat,t.toNat,rfl,by omega,by omega,by omega,by omega,by omega,hn,hr⟩
end Q
namespace H
open P
open Q (bal ends_zero)
theorem made_ints (n:Nat) (hn:n≤500): ∀ W:World,(Instr.makeSlice 31 (.int .i64 (n:Int)) (.int .i64 (n:Int))).run Try.prog W= .ok (.slice (some ⟨W.heap.size,0,none⟩) n n) (W.alloc (.cells (nums .i64 (List.replicate n 0)).toArray 3)):=by
 intro W;rw[print_make 31 3 .i64 8 Try.underlying31 (by kernel_rfl) (by omega) n (by omega) W];have hl:(madeCells #[Value.int .i64 0] n)=(nums .i64 (List.replicate n 0)).toArray:=by
  apply Array.ext';apply List.ext_getElem
  ·simp[nums,madeCells]
  ·intro i h1 h2
   simp[nums,madeCells,Nat.mod_one]
 rw[hl]
end H
namespace H
open P
structure Sp (n0:Nat) (Zb:Bool) (l:List S50) (gx gz gA:Nat) (A:Option Addr) (cA base:Nat) (F:List Int) (w:World):Prop where
 x:w.heap[gx]? =some (.cells #[.int .i64 (n0:Int), .bool Zb, .slice A l.length cA, .slice (some ⟨gz,0,none⟩) l.length l.length] 114 (0,0))
 arcs:Kd.R k50 50 w base (fun k=>k=gA) (.slice A l.length cA) (leftA l F)
 zero:IsI w gz (zer l)
 apart:gx≠gA∧gz≠gA∧gx≠gz
 low:base≤gx∧base≤gz
section
variable {n0:Nat} {Zb:Bool} {l:List S50} {gx gz gA:Nat} {A:Option Addr} {cA base:Nat} {F:List Int} {w w1:World}
theorem Sp.below (h:Sp n0 Zb l gx gz gA A cA base F w) (hb:Below w.heap.size w w1):Sp n0 Zb l gx gz gA A cA base F w1:=⟨Yn h.x hb,Ys h.arcs hb,h.zero.below hb,h.apart,h.low⟩
theorem Sp.c (h:Sp n0 Zb l gx gz gA A cA base F w):Kd.C k50 w A l.length (leftA l F):=by
 obtain⟨e,_,hc⟩:=Kd.R_reads' h.arcs;rw[← e] at hc;exact hc
theorem Sp.cap (h:Sp n0 Zb l gx gz gA A cA base F w):l.length≤cA:=(Kd.R_reads' h.arcs).2.1
end
theorem getD_take_app {i n:Nat} {X:List Int} (hi:i<n) (hx:X.length=n):(X.take i ++ List.replicate (n - i) 0).set i (X.getD i 0)=X.take (i+1) ++ List.replicate (n - (i+1)) 0:=by
 rw[List.set_append_right _ _ (by rw[List.length_take];omega),List.length_take,show i - min i X.length=0 by omega,show n - i=(n - (i+1))+1 by omega,List.replicate_succ,List.set_cons_zero,List.take_add_one,List.getElem?_eq_getElem (by omega),List.getD_eq_getElem?_getD,List.getElem?_eq_getElem (by omega),List.append_assoc];rfl
set_option maxHeartbeats 4000000 in
set_option maxRecDepth 100000 in
theorem sway_calls (n0:Nat) (Zb:Bool) (l:List S50) (gx gz gA:Nat) (A:Option Addr) (cA base:Nat) (F:List Int) (u v:Nat) (w:World)
  (hR:Right l F n0) (hu:u<n0) (hv:v<n0) (huv:u≠v) (hS:Sp n0 Zb l gx gz gA A cA base F w):
  Calls Try.prog 49 #[.pointer (some ⟨gx,0,none⟩), .int .i64 (u:Int), .int .i64 (v:Int)] w fun e w'=> ∃ vv:Value,e= .returned (.tuple #[vv, .bool (decide (v∈reach l F n0 u))])∧Kd.R (Kd.int .i64) 3 w' w.heap.size (fun _=>True) vv (arcsOf (wayA l F n0 u v))∧Below w.heap.size w w':=by
 have hu171:=Try.underlying114;have hu24:=Try.underlying24;have hu38:=Try.underlying79;have hn50:=hR.fifty;have hAr:=hR.arcs;have hL:=left_right hR;have hm1:=leftA_len hR.len;have hm2:(zer l).length=l.length:=List.length_replicate;have kA:=fun(w':World) (hb:Below w.heap.size w w')=>at_calls n0 Zb A cA (leftA l F) (some ⟨gz,0,none⟩) l.length l.length w' (by rw[hm1];exact Yt hS.c hb) (by rw[hm1];exact hS.cap) (by omega) (by omega) (by omega) (fun k hk=>(hL.ends k hk).1) (fun k hk=>(hL.ends k hk).2)
 rw[hm1] at kA;have kW:=fun(A4:Option Addr) (c4:Nat) (w':World) (hb:Below w.heap.size w w')=>way_calls n0 Zb A cA (leftA l F) (some ⟨gz,0,none⟩) l.length (zer l) A4 c4 u v w' hL hu hv huv (by rw[hm1];exact hS.cap) (by omega) (by rw[hm1];exact Yt hS.c hb) (isI_C (hS.zero.below hb) (by omega))
 rw[hm1,hm2] at kW;obtain⟨W,hW⟩: ∃ W,W=wayA l F n0 u v:=⟨_,rfl⟩;have hWl:W.length≤200:=by rw[hW];exact wayA_le hR hu huv
 have hW':wayP (leftA l F) (zer l) n0 u v=W:=hW.symm;rw[hW'] at kW;have KA:=Ya kA;have KW:=Ya kW;have HS:=Ya hS;have HW:=Ya hW;have HB:=Ya (Yo w.heap.size w);have hmk:=made_ints W.length (by omega);have x0:w.cell? ⟨gx,0,none⟩=some (.int .i64 (n0:Int)):=(Yc hS.x 0).trans rfl;have x1:w.cell? ⟨gx,1,none⟩=some (.bool Zb):=(Yc hS.x 1).trans rfl;have x2:w.cell? ⟨gx,2,none⟩=some (.slice A l.length cA):=(Yc hS.x 2).trans rfl;have x3:w.cell? ⟨gx,3,none⟩=some (.slice (some ⟨gz,0,none⟩) l.length l.length):=(Yc hS.x 3).trans rfl;rw[← hW];clear kA kW hS hL hm1 hm2 hW hW' hAr hR;go_enter Try.func49,Try.ntmps49;go_upto_region 1 with fail
 go_region_held3 (fun w'=>w'.cell? ⟨gx,0,none⟩=some (.int .i64 (n0:Int))∧w'.cell? ⟨gx,1,none⟩=some (.bool Zb)∧w'.cell? ⟨gx,2,none⟩=some (.slice A l.length cA)∧w'.cell? ⟨gx,3,none⟩=some (.slice (some ⟨gz,0,none⟩) l.length l.length))
  (first|((try dsimp only);(refine⟨?_,?_,?_,?_⟩)<;>first|(exact pw_cell_below (below_drew (Yo _ _)) (by assumption))|(exact pw_cell_below hbB (by assumption))|(exact pw_cell_below hbA (by assumption))|(exact pw_cell_below (below_drew hbA) (by assumption)))|go_keep)
  (first|(go_at_call 68;refine(KA.out _ ?hC).mono ?_;(case hC=>first|exact Yo _ _|exact below_drew (Yo _ _));rintro e_ w7 ⟨vr,rfl,hSr,hbr⟩;obtain⟨A4,c4,ev⟩:=Kd.S_slice hSr;subst ev;have hbA:Below w.heap.size w w7:=Yk (by first|exact below_drew (Yo _ _)|exact Yo _ _) hbr;have hcA:(Kd.slice 79 k79).C w7 A4 n0 (rowsAt (leftA l F) n0 n0):=(by have h_:=(Kd.S_reads' hSr).2.2;rw[rowsAt_len] at h_;exact h_);rw[rowsAt_len] at hSr ⊢)|(go_at_call 75;refine(KW.out A4 c4 _ ?hC ?hD).mono ?_;(case hC=>first|exact hbA|exact below_drew hbA);(case hD=>first|exact hcA|exact Yt hcA (below_drew (Yo _ _)));rintro e_ w8 ⟨vw,rfl,hvw,hb8⟩;obtain⟨Aw,cw,ev⟩:=Kd.R_slice hvw;subst ev;have hbB:Below w.heap.size w w8:=Yk (by first|exact hbA|exact below_drew hbA) hb8))
 go_wp2_with fail;have HVW:=Ya (Kd.R_reads' hvw).2.2;have HBB:=Ya hbB;have hIA:IsI (w8.alloc (.cells (nums .i64 (List.replicate W.length 0)).toArray 3)) w8.heap.size (List.replicate W.length 0):=heap_alloc_new w8 _;have hb9:Below w8.heap.size w8 (w8.alloc (.cells (nums .i64 (List.replicate W.length 0)).toArray 3)):=Ye (Yo _ _) _;generalize w8.alloc (.cells (nums .i64 (List.replicate W.length 0)).toArray 3)=w9 at *;obtain⟨go,hgo⟩: ∃ go,go=w8.heap.size:=⟨_,rfl⟩;rw[← hgo] at hIA ⊢;have HIA:=Ya hIA;have HB9:=Ya hb9;have HGO:=Ya hgo;clear x0 x1 x2 x3 hSr hbr hbA hcA hvw hb8 hbB hIA hb9 hgo hmk KA KW;go_loopw [33] (fun v33 w'=> ∃ i:Nat,v33= .int .i64 (i:Int)∧i≤W.length∧Aside0 (IsI w' go ((arcsOf W).take i ++ List.replicate (W.length - i) 0))∧Aside0 (Below w8.heap.size w8 w')) (fun v33 _=>W.length - (intOf v33).toNat)
 case atStart=>exact⟨0,rfl,Nat.zero_le _,⟨by rw[List.take_zero,List.nil_append,Nat.sub_zero];exact HIA.out⟩,HB9⟩
 case round=>
  clear HIA HB9;obtain⟨i,rfl,hi,HI,HBL⟩:=hrel;by_cases hlt:i<W.length
  ·have c34:decide ((i:Int)<(W.length:Int))=true:=Yv (by omega)
   have pi_:(0:Int)≤(i:Int):=by omega
   have qi:(i:Int)<(W.length:Int):=by omega
   obtain⟨adj,eadj,s0,s1⟩:=at_T79 (Yt HVW.out HBL.out) (i:Int) pi_ qi;subst eadj;simp only[Int.toNat_natCast] at s0 s1;obtain⟨e,hee⟩: ∃ e_,e_=rd_T79 W (i:Int):=⟨_,rfl⟩;rw[← hee] at s0 s1;have hX:(arcsOf W).getD i 0=e.f0:=by rw[hee];unfold arcsOf rd_T79;rw[List.getD_eq_getElem?_getD,List.getElem?_map,Int.toNat_natCast,List.getD_eq_getElem?_getD,List.getElem?_eq_getElem hlt];rfl
   have HX:=Ya hX;have hDl:((arcsOf W).take i ++ List.replicate (W.length - i) 0).length=W.length:=by unfold arcsOf;simp;omega
   obtain⟨D,hD⟩: ∃ D,D=(arcsOf W).take i ++ List.replicate (W.length - i) 0:=⟨_,rfl⟩;rw[← hD] at HI hDl;have HDE:=Ya hD;clear hee hX hD;go_wp2_with (first|((with_reducible refine gate_dst (N:=12) rfl ?_);refine Yz ?hg (N:=12) ?hd (cs:= #[.int .i64 0, .bool false]) (t:=79) ?hr ?_;(case hd=>rfl);(case hg=>rfl);(case hr=>first|(go_simp;done)|(go_simp;rfl));intro g8 hg w10 Zf hb;have GE8:Aside0 (w8.heap.size≤g8):=⟨by rw[hg];exact HBL.out.size⟩;have NE8:Aside0 (go≠g8):=⟨by have:=HI.out.lt;omega⟩;have B8:=Ya Zf;have m0_:=Ya (HI.out.below hb);have m1_:=Ya (Yk HBL.out hb);clear Zf hg hb HI HBL;have HI:=m0_;have HBL:=m1_;clear m0_ m1_;have hcz0:w10.cell? ⟨g8,0,none⟩=some (.int .i64 0):=(Yc B8.out 0).trans rfl;have hcz1:w10.cell? ⟨g8,1,none⟩=some (.bool false):=(Yc B8.out 1).trans rfl;have hfz0:=Yf B8.out 0;have hfz1:=Yf B8.out 1)|((with_reducible refine gate_store (t:=79) (p:=12) rfl ?_);refine store_event (t:=79) (p:=12) (v:= ?vo) (w1:=((w10.setCell ⟨g8,0,none⟩ (.int .i64 e.f0)).setCell ⟨g8,1,none⟩ (.bool e.f1))) ?hg ?ho ?hn ?hr ?_;(case ho=>rfl);(case hg=>rfl);(case hn=>rfl);(case hr=>first|(go_simp;done)|(go_simp;rfl));intro w11 hw;have m0_:Aside0 (w11.heap[g8]? =some (.cells #[.int .i64 e.f0, .bool e.f1] 79 (0,0))):=⟨by rw[hw];refine YA (cs:= #[.int .i64 e.f0, .bool false]) ?_ 1 _ rfl;refine YA (cs:= #[.int .i64 0, .bool false]) ?_ 0 _ rfl;exact B8.out⟩;have m1_:Aside0 (Below w8.heap.size w8 w11):=⟨by rw[hw];exact Yh (Yh HBL.out GE8.out) GE8.out⟩;have m2_:Aside0 (IsI w11 go D):=⟨by rw[hw];exact(HI.out.far (p:=⟨g8,0,none⟩) NE8.out _).far (p:=⟨g8,1,none⟩) NE8.out _⟩;clear hw B8 HBL HI hcz0 hcz1 hfz0 hfz1 s0 s1;have B8:=m0_;have HBL:=m1_;have HI:=m2_;clear m0_ m1_ m2_;have hc0:w11.cell? ⟨g8,0,none⟩=some (.int .i64 e.f0):=(Yc B8.out 0).trans rfl;have hgc:=HI.out.cell (j:=i) (by omega);have hgf:=HI.out.free i)|fail);have m0_:Aside0 (IsI (w11.setCell ⟨go,i,none⟩ (.int .i64 e.f0)) go ((arcsOf W).take (i+1) ++ List.replicate (W.length - (i+1)) 0)):=⟨by
    rw[← getD_take_app hlt (by unfold arcsOf;simp),HX.out, ← HDE.out];exact HI.out.put i e.f0⟩
   have m1_:Aside0 (Below w8.heap.size w8 (w11.setCell ⟨go,i,none⟩ (.int .i64 e.f0))):=⟨Yh HBL.out (by rw[HGO.out];exact Nat.le_refl _)⟩;go_roundw
   case rel=>exact⟨i+1,by go_num,hlt,m0_,m1_⟩
   case measure=>simp[intOf]<;>omega
  ·have ei:i=W.length:=by omega
   subst ei;have c34:decide ((W.length:Int)<(W.length:Int))=false:=Yw (by omega);go_wp2_with fail;go_ret2;have hX:IsI wr go (arcsOf W):=by
    have h_:=HI.out;rw[Nat.sub_self,List.replicate_zero,List.append_nil,List.take_of_length_le (by unfold arcsOf;simp)] at h_;exact h_
   have hlen:(arcsOf W).length=W.length:=by unfold arcsOf;simp
   have hR:=hX.R (base:=w.heap.size) (ok:=fun _=>True) (by omega) (by rw[HGO.out];exact HBB.out.size) trivial;rw[hlen] at hR;exact⟨_,rfl,hR,Yk HBB.out HBL.out⟩
end H
namespace H
open P
section
variable {n0:Nat} {Zb:Bool} {l:List S50} {gx gz gA:Nat} {A:Option Addr} {cA base:Nat} {F:List Int} {w w1:World}
theorem Sp.far (h:Sp n0 Zb l gx gz gA A cA base F w) {p:Addr} (hp:p.block≠gx∧p.block≠gA∧p.block≠gz) (u:Value):Sp n0 Zb l gx gz gA A cA base F (w.setCell p u):=
 ⟨blk_far h.x (Ne.symm hp.1) _,Kd.R_far h.arcs (fun k hk=>by have hk:k=gA:=hk;rw[hk];exact Ne.symm hp.2.1) _,h.zero.far (Ne.symm hp.2.2) _,h.apart,h.low⟩
theorem Sp.head (h:Sp n0 Zb l gx gz gA A cA base F w) (hl:F.length=l.length) (hp:0<l.length):A=some ⟨gA,0,none⟩:=by
 obtain⟨g,cap,e,_⟩:=Kd.R_form h.arcs (by rw[leftA_len hl];exact hp);injection e with e1 e2 e3
 subst e1;have:=h.arcs.1 g rfl;rw[this]
theorem Sp.cells (h:Sp n0 Zb l gx gz gA (some ⟨gA,0,none⟩) cA base F w) (hl:F.length=l.length) {i:Nat} (hi:i<l.length):
  w.cell? ⟨gA,i * 4,none⟩=some (.int .i64 (rd_T50 l i).f0)∧w.cell? ⟨gA,i * 4+1,none⟩=some (.int .i64 (rd_T50 l i).f1)∧w.cell? ⟨gA,i * 4+2,none⟩=some (.int .i64 (F.getD i 0))∧w.cell? ⟨gA,i * 4+3,none⟩=some (.int .i64 (rd_T50 l i).f3)∧w.frozen? ⟨gA,i * 4+2,none⟩=false:=by
 obtain⟨ad,e,h0,h1,h2,h3⟩:=at_T50 h.c (i:Int) (by omega) (by omega);injection e with e
 subst e;obtain⟨_,_,_,_,hf⟩:=Kd.R_elem h.arcs z50 (i:Int) (by omega) (by omega);rw[rdArc_of hl,Int.toNat_natCast] at h0 h1 h2 h3;have hf2:=hf 2;rw[Int.toNat_natCast] at hf2;simp only[add_plain] at h0 h1 h2 h3;exact⟨h0,h1,h2,h3,hf2⟩
theorem Sp.put (h:Sp n0 Zb l gx gz gA (some ⟨gA,0,none⟩) cA base F w) (hl:F.length=l.length) {i:Nat} (hi:i<l.length) (x:Int):
  Sp n0 Zb l gx gz gA (some ⟨gA,0,none⟩) cA base (F.set i x) (w.setCell ⟨gA,i * 4+2,none⟩ (.int .i64 x)):=by
 obtain⟨c,hcl,hM,hcc,hf⟩:=Kd.R_elem h.arcs z50 (i:Int) (by omega) (by omega);have hset:(leftA l F).set (i:Int).toNat { (leftA l F).getD (i:Int).toNat z50 with f2:=x } =leftA l (F.set i x):=by
  rw[Int.toNat_natCast];apply List.ext_getElem?;intro j;rw[List.getElem?_set];by_cases e:i=j
  ·subst e
   rw[Yx rfl,Yx (by rw[leftA_len hl];exact hi)];unfold leftA;rw[List.getD_eq_getElem?_getD,List.getElem?_zipWith,List.getElem?_zipWith,List.getElem?_set,Yx rfl,Yx (by omega),List.getElem?_eq_getElem hi,List.getElem?_eq_getElem (by omega)];rfl
  ·rw[Yy e]
   unfold leftA;rw[List.getElem?_zipWith,List.getElem?_zipWith,List.getElem?_set,Yy e]
 have hM2:Kd.M k50 w base (fun k=>k=gA∧k≠gA) { (leftA l F).getD (i:Int).toNat z50 with f2:=x } (c.take 2 ++ [.int .i64 x] ++ c.drop (2+1)):=by
  have:=k50_openM hM;subst this;exact k50_mkM _ _ _ _
 have h1:=Kd.R_seg h.arcs (i:Int) (by omega) (by omega) (seg:=[.int .i64 x]) (j:=2) hcl hcc (by show 2+1≤4;omega) hM2 (fun k hk=>hk);rw[hset] at h1;have e2:w.setCells gA ((i:Int).toNat * k50.sz+2) [.int .i64 x]=w.setCell ⟨gA,i * 4+2,none⟩ (.int .i64 x):=by rw[Int.toNat_natCast];rfl
 rw[e2] at h1;exact⟨blk_far h.x (p:=⟨gA,_,none⟩) h.apart.1 _,h1.1,h.zero.far (p:=⟨gA,_,none⟩) h.apart.2.1 _,h.apart,h.low⟩
end
theorem add_zero_ (ad:Addr):ad.add 0=ad:=by cases ad;rfl
theorem lessA_snoc (F:List Int) (k:Int) (ax:List Int) (i:Int):lessA F k (ax ++ [i])=(lessA F k ax).set i.toNat ((lessA F k ax).getD i.toNat 0 - k):=by unfold lessA;rw[List.foldl_append];rfl
attribute [local go_sem] min2_int
set_option maxHeartbeats 4000000 in
set_option maxRecDepth 100000 in
theorem take_calls (n0:Nat) (Zb:Bool) (l:List S50) (gx gz gA:Nat) (A:Option Addr) (cA base:Nat) (F:List Int) (a b:Int) (ax:List Int) (Aa:Option Addr) (ca:Nat) (w:World)
  (hR:Right l F n0) (hk:Link l F a b ax) (hS:Sp n0 Zb l gx gz gA A cA base F w) (hca:ax.length≤ca) (ha:Kd.F (Kd.int .i64) w (fun k=>k<w.heap.size∧k≠gA) Aa ax.length ax):
  Calls Try.prog 50 #[.pointer (some ⟨gx,0,none⟩), .slice Aa ax.length ca] w fun e w'=>e= .returned (.agg #[.slice Aa ax.length ca, .int .i64 (amt F ax)])∧Sp n0 Zb l gx gz gA A cA base (lessA F (amt F ax) ax) w'∧Ks (fun k=>k=gA) w w':=by
 have hu171:=Try.underlying114;have hu24:=Try.underlying24;have hu74:=Try.underlying50;have hu102:=Try.underlying47;have hin:=hk.go.of;obtain⟨j0,hj0,hjm,_⟩:=go_first hk.go hk.ne;obtain rfl:=hS.head hR.len (by omega);have hal:=go_len hR hk;have hnd:=hk.nodup;have hpos:0<ax.length:=List.length_pos_iff.2 hk.ne;have hrd: ∀ j:Nat,j<ax.length→ ∃ ij:Nat,rd ax (j:Int)=(ij:Int)∧ij<l.length∧(ij:Int)∈ax∧ax.take (j+1)=ax.take j ++ [(ij:Int)]∧ax.drop j=(ij:Int)::ax.drop (j+1)∧(ij:Int) ∉ ax.take j:=by
  intro j hj;have h1:=Q.drop_getD ax j 0 hj;have hm:ax.getD j 0∈ax:=Q.getD_mem hj;have h2:=hin _ hm;have e:ax.getD j 0=((ax.getD j 0).toNat:Int):=by omega
  have h3:ax.take (j+1)=ax.take j ++ [ax.getD j 0]:=by rw[List.take_add_one,List.getElem?_eq_getElem hj,List.getD_eq_getElem?_getD,List.getElem?_eq_getElem hj];rfl
  have h4:ax.getD j 0 ∉ ax.take j:=by
   have h5:(ax.take (j+1)).Nodup:=List.Sublist.nodup (List.take_sublist _ _) hnd;rw[h3,List.nodup_append] at h5;exact fun hm=>h5.2.2 _ hm _ (List.mem_singleton.2 rfl) rfl
  refine⟨(ax.getD j 0).toNat,by rw[Q.rd_nat];exact e,by omega,by rw[← e];exact hm,by rw[← e];exact h3,by rw[← e];exact h1,by rw[← e];exact h4⟩
 obtain⟨hmin,_⟩:=amt_spec (F:=F) hk.ne;have htk:=hk.taken hR;obtain⟨k,hkk⟩: ∃ k,k=amt F ax:=⟨_,rfl⟩;have k0:0≤k:=by have:=htk.pos;omega
 have k1:k≤1048576:=by have:=htk.top;omega
 have hamt0:ax.foldl (fun k i=>min k (F.getD i.toNat 0)) (F.getD (ax.headD 0).toNat 0)=k:=hkk.symm;have HR:=Ya hR;have HK:=Ya hk;have HGA:Aside0 (gA<w.heap.size):=⟨(Kd.R_lt hS.arcs) gA rfl⟩;have HLW:Aside0 (gx<w.heap.size∧gz<w.heap.size∧gA<w.heap.size):=⟨blk_lt hS.x,hS.zero.lt,HGA.out⟩;have HS:=Ya hS;have HCA:=Ya hca;have HFA:=Ya ha;have HRD:=Ya hrd;have HMIN:=Ya hmin;have HA0:=Ya hamt0;have HKK:=Ya hkk;have hlF:=hR.len;have HLF:=Ya hlF;obtain⟨i0,h0,i0l,_,_,hd0,_⟩:=hrd 0 hpos;have h0':rd ax 0=(i0:Int):=h0;have hh:F.getD (ax.headD 0).toNat 0=F.getD i0 0:=by rw[List.drop_zero] at hd0;rw[hd0];rfl
 have HHD:=Ya hh;rw[← hkk];clear hR hk hS hca ha hnd hin hjm hj0 hrd hmin htk hkk hamt0 hd0 h0 hh hlF;go_enter Try.func50,Try.ntmps50;go_upto_region 1 with (first|((with_reducible refine gate_dst (N:=4) rfl ?_);refine Yz ?hg (N:=4) ?hd (cs:= #[.slice none 0 0, .int .i64 0]) (t:=47) ?hr ?_;(case hd=>rfl);(case hg=>rfl);(case hr=>first|(go_simp;done)|(go_simp;rfl));intro g4 hg4 w5 Zf hb;have B4:=Ya Zf;have HB:=Ya hb;have HG4:Aside0 (w.heap.size≤g4):=⟨Nat.le_of_eq hg4.symm⟩;clear hg4 Zf hb)|fail)
 have HS5:=Ya (HS.out.below HB.out);have HF5:=Ya (Kd.F_below HFA.out HB.out);have x2:w5.cell? ⟨gx,2,none⟩=some (.slice (some ⟨gA,0,none⟩) l.length cA):=(Yc HS5.out.x 2).trans rfl;obtain⟨ad,e,y0⟩:=Kd.at_int (Kd.F_now HF5.out) 0 (by omega) (by omega);subst e;obtain⟨_,_,z0,_⟩:=HS5.out.cells HLF.out i0l;rw[h0',show (0:Int).toNat=0 from rfl,add_zero_] at y0;obtain⟨c0,hc0⟩: ∃ c,c=F.getD i0 0:=⟨_,rfl⟩;rw[← hc0] at z0;have HC0:=Ya hc0;clear hc0;simp only[Act.put,List.setIfInBounds_toArray,List.set_cons_zero,List.set_cons_succ];go_region;have HS6:=Ya (HS5.out.below (below_drew (Yo _ _)));have HF6:=Ya (Kd.F_below HF5.out (below_drew (Yo _ _)));have B6:=Ya (Yn B4.out (below_drew (Yo _ _)));have HB6:=Ya (Yk HB.out (below_drew (Yo _ _)));clear HS5 HF5 B4 HB x2 y0 z0 HS HFA;generalize w5.drew=w6 at *;go_wp2_with fail;go_loopw [5,23] (fun v5 v23 w'=> ∃ (j:Nat) (m:Int),v5= .int .i64 m∧v23= .int .i64 (j:Int)∧j≤ax.length∧Aside0 ((ax.drop j).foldl (fun k i=>min k (F.getD i.toNat 0)) m=k)∧w'=w6) (fun _ v23 _=>ax.length - (intOf v23).toNat)
 case atStart=>exact⟨0,c0,rfl,rfl,Nat.zero_le _,⟨by rw[List.drop_zero,HC0.out, ← HHD.out];exact HA0.out⟩,rfl⟩
 case round=>
  obtain⟨j,m,rfl,rfl,hj,HM,rfl⟩:=hrel;by_cases hlt:j<ax.length
  ·have c24:decide ((j:Int)<(ax.length:Int))=true:=Yv (by omega)
   have pj:(0:Int)≤(j:Int):=by omega
   have qj:(j:Int)<(ax.length:Int):=by omega
   obtain⟨ij,r1,ijl,_,_,r2,_⟩:=HRD.out j hlt;obtain⟨ad',e,y0⟩:=Kd.at_int (Kd.F_now HF6.out) (j:Int) pj qj;injection e with e
   subst e;rw[r1,Int.toNat_natCast] at y0;obtain⟨_,_,z0,_⟩:=HS6.out.cells HLF.out ijl;obtain⟨c,hc⟩: ∃ c,c=F.getD ij 0:=⟨_,rfl⟩;rw[← hc] at z0;have HM2:Aside0 ((ax.drop (j+1)).foldl (fun k i=>min k (F.getD i.toNat 0)) (mn m c)=k):=⟨by
    have h_:=HM.out;rw[r2,List.foldl_cons,Int.toNat_natCast, ← hc] at h_;rw[← h_];congr 1;unfold mn;omega⟩
   have x2:wr.cell? ⟨gx,2,none⟩=some (.slice (some ⟨gA,0,none⟩) l.length cA):=(Yc HS6.out.x 2).trans rfl;have pij:(0:Int)≤(ij:Int):=by omega
   have qij:(ij:Int)<(l.length:Int):=by omega
   clear r1 r2 hc HM;go_wp2_with fail;go_roundw
   case rel=>exact⟨j+1,mn m c,rfl,by go_num,hlt,HM2,trivial⟩
   case measure=>simp[intOf]<;>omega
  ·have ej:j=ax.length:=by omega
   subst ej;have c24:decide ((ax.length:Int)<(ax.length:Int))=false:=Yw (by omega);have hm:m=k:=by
    have h_:=HM.out;rw[List.drop_of_length_le (Nat.le_refl _)] at h_;exact h_
   subst hm;clear HM;obtain⟨w7,hw7⟩: ∃ x_:World,x_=wr:=⟨_,rfl⟩;subst hw7;go_wp2_with fail;go_loopw [41] (fun v41 w'=> ∃ j:Nat,v41= .int .i64 (j:Int)∧j≤ax.length∧Aside0 (Sp n0 Zb l gx gz gA (some ⟨gA,0,none⟩) cA base (lessA F m (ax.take j)) w')∧Aside0 (Ks (fun b=>b=gA) w7 w')) (fun v41 _=>ax.length - (intOf v41).toNat)
   case atStart=>exact⟨0,rfl,Nat.zero_le _,⟨by rw[List.take_zero];exact HS6.out⟩,⟨Ks.refl _ _⟩⟩
   case round=>
    obtain⟨j,rfl,hj,HSJ,HKJ⟩:=hrel;have HFJ:=Ya (HKJ.out.F HF6.out (fun k hk _=>hk.2));by_cases hlt:j<ax.length
    ·have c42:decide ((j:Int)<(ax.length:Int))=true:=Yv (by omega)
     have pj:(0:Int)≤(j:Int):=by omega
     have qj:(j:Int)<(ax.length:Int):=by omega
     obtain⟨ij,r1,ijl,r3,r4,_,r5⟩:=HRD.out j hlt;obtain⟨ad',e,y0⟩:=Kd.at_int (Kd.F_now HFJ.out) (j:Int) pj qj;injection e with e
     subst e;rw[r1,Int.toNat_natCast] at y0;have hlX:(lessA F m (ax.take j)).length=l.length:=by rw[lessA_len];exact HLF.out
     obtain⟨_,_,z0,_,zf⟩:=HSJ.out.cells hlX ijl;have hcF:(lessA F m (ax.take j)).getD ij 0=F.getD ij 0:=by
      rw[lessA_get m ij (ax.take j) F (List.Sublist.nodup (List.take_sublist _ _) HK.out.nodup) (fun i hi=>by have:=HK.out.go.of i (List.mem_of_mem_take hi);rw[HLF.out];exact this),Yy r5,Int.sub_zero]
     have hnum:=HR.out.nums ij ijl;have hput:=HSJ.out.put hlX ijl ((lessA F m (ax.take j)).getD ij 0 - m);have hsn:=lessA_snoc F m (ax.take j) (ij:Int);rw[Int.toNat_natCast] at hsn;rw[← hsn, ← r4] at hput;rw[hcF] at z0 hput;obtain⟨c,hc⟩: ∃ c,c=F.getD ij 0:=⟨_,rfl⟩;rw[← hc] at z0 hput hnum;have pc:0≤c:=hnum.2.2.1;have qc:c≤1048576:=by omega
     have HPUT:=Ya hput;have x2:wr.cell? ⟨gx,2,none⟩=some (.slice (some ⟨gA,0,none⟩) l.length cA):=(Yc HSJ.out.x 2).trans rfl;have pij:(0:Int)≤(ij:Int):=by omega
     have qij:(ij:Int)<(l.length:Int):=by omega
     clear r1 r3 r4 r5 hc hput hsn hnum hcF hlX;go_wp2_with fail;have m1_:Aside0 (Ks (fun b=>b=gA) w7 (wr.setCell ⟨gA,ij * 4+2,none⟩ (.int .i64 (c - m)))):=⟨HKJ.out.set (fun _=>rfl) _ _⟩;go_roundw
     case rel=>exact⟨j+1,by go_num,hlt,HPUT,m1_⟩
     case measure=>simp[intOf]<;>omega
    ·have ej:j=ax.length:=by omega
     subst ej;have c42:decide ((ax.length:Int)<(ax.length:Int))=false:=Yw (by omega);have hB:wr.heap[g4]? =some (.cells #[.slice none 0 0, .int .i64 0] 47 (0,0)):=HKJ.out.blk B6.out (fun e=>by have:=HG4.out;have h2:=HS6.out;have:=HGA.out;omega);have q0:wr.cell? ⟨g4,0,none⟩=some (.slice none 0 0):=(Yc hB 0).trans rfl;have q1:wr.cell? ⟨g4,1,none⟩=some (.int .i64 0):=(Yc hB 1).trans rfl;have q2:=Yf hB 0;have q3:=Yf hB 1;have HBW:=Ya hB;clear hB;go_wp2_with fail;refine bodyPost_ret (results_cell_row rfl _ _ g4 47 #[.slice (some ad) ax.length ca, .int .i64 m] (0,0) _ rfl (by refine YA (cs:= #[.slice (some ad) ax.length ca, .int .i64 0]) ?_ 1 _ rfl;refine YA (cs:= #[.slice none 0 0, .int .i64 0]) ?_ 0 _ rfl;exact HBW.out) Try.underlying47 rfl (by kernel_rfl)) rfl ?_;have hsj:=HSJ.out;rw[List.take_of_length_le (Nat.le_refl _)] at hsj;have hg:=HG4.out;have hlw:=HLW.out;have hn:g4≠gx∧g4≠gA∧g4≠gz:=by omega
     exact⟨rfl,(hsj.far (p:=⟨g4,0,none⟩) hn _).far (p:=⟨g4,1,none⟩) hn _,((HKJ.out.trans' HB6.out).set (fun h_=>by omega) _ _).set (fun h_=>by omega) _ _⟩
end H
namespace H
open P
theorem empty_S (w:World):Kd.S k47 47 (w.alloc (.cells #[] 47)) w.heap.size (fun k=>w.heap.size≤k) (.slice (some ⟨w.heap.size,0,none⟩) 0 0) []:=by
 refine⟨fun _=>0,fun k hk=> ?_,[],⟨rfl, .inr ⟨w.heap.size,0,#[],rfl,Nat.le_refl _,heap_alloc_new w _,Nat.le_refl _,?_,rfl,rfl⟩⟩,rfl,fun j p hj=>(by cases hj)⟩
 ·have:w.heap.size=k:=by simpa [Value.ownBlock] using hk
  omega
 ·simp only[maxLen]
  omega
def CyR (n0:Nat) (Zb:Bool) (l:List S50) (gx gz gA:Nat) (A:Option Addr) (cA base:Nat) (R:List S47 × List Int) (w:World) (v3 v4:Value) (w':World) (k:Nat):Prop:=
 ∃ (i:Nat) (G:List Int) (O:List S47),v4= .int .i64 (i:Int)∧i≤l.length∧Right l G n0∧posN G+(l.length - i)<k∧O.length+posN G≤200∧(O ++ (cycF l n0 k i G).1,(cycF l n0 k i G).2)=R∧Kd.S k47 47 w' w.heap.size (fun k=>w.heap.size≤k) v3 O∧Sp n0 Zb l gx gz gA A cA base G w'∧Ks (fun b=>b=gA) w w'
section
variable {n0:Nat} {Zb:Bool} {l:List S50} {gx gz gA:Nat} {A:Option Addr} {cA base B:Nat} {F:List Int} {w w1:World}
theorem Sp.keep (h:Sp n0 Zb l gx gz gA A cA base F w) (hb:Below B w w1) (h1:gx<B∧gz<B∧gA<B):Sp n0 Zb l gx gz gA A cA base F w1:=
 ⟨(hb.block _ h1.1).trans h.x,Kd.R_step h.arcs (fun k hk _=>by have hk:k=gA:=hk;rw[hk];exact hb.block _ h1.2.2),h.zero.same (hb.block _ h1.2.1),h.apart,h.low⟩
end
section
variable {n0:Nat} {Zb:Bool} {l:List S50} {gx gz gA:Nat} {A:Option Addr} {cA base:Nat} {R:List S47 × List Int} {w wr w1:World} {v3:Value} {i k:Nat} {G:List Int} {O:List S47}
theorem CyR.skip (hRG:Right l G n0) (hi:i<l.length) (hk:posN G+(l.length - i)<k+1) (hlen:O.length+posN G≤200) (hres:(O ++ (cycF l n0 (k+1) i G).1,(cycF l n0 (k+1) i G).2)=R)
  (hO:Kd.S k47 47 wr w.heap.size (fun k=>w.heap.size≤k) v3 O) (hS:Sp n0 Zb l gx gz gA A cA base G wr) (hK:Ks (fun b=>b=gA) w wr) (hc:cycA l G n0 i=none) (hb:Below wr.heap.size wr w1):CyR n0 Zb l gx gz gA A cA base R w v3 (.int .i64 ((i:Int)+1)) w1 k:=by
 have e:cycF l n0 (k+1) i G=cycF l n0 k (i+1) G:=by rw[cycF,Yx hi,hc]
 rw[e] at hres;exact⟨i+1,G,O,by congr 1,hi,hRG,by omega,hlen,hres,Kd.S_below hO hb,hS.below hb,hK.below hb⟩
theorem CyR.take {ax:List Int} {v3':Value} (hRG:Right l G n0) (hi:i<l.length) (hk:posN G+(l.length - i)<k+1) (hlen:O.length+posN G≤200) (hres:(O ++ (cycF l n0 (k+1) i G).1,(cycF l n0 (k+1) i G).2)=R)
  (hc:cycA l G n0 i=some ax) (hO:Kd.S k47 47 w1 w.heap.size (fun k=>w.heap.size≤k) v3' (O ++ [⟨ax,amt G ax⟩])) (hS:Sp n0 Zb l gx gz gA A cA base (lessA G (amt G ax) ax) w1) (hK:Ks (fun b=>b=gA) w w1):CyR n0 Zb l gx gz gA A cA base R w v3' (.int .i64 (i:Int)) w1 k:=by
 have e:cycF l n0 (k+1) i G=(⟨ax,amt G ax⟩::(cycF l n0 k i (lessA G (amt G ax) ax)).1,(cycF l n0 k i (lessA G (amt G ax) ax)).2):=by rw[cycF,Yx hi,hc]
 rw[e] at hres;have ht:=(cycA_some hRG hi hc).1.taken hRG;have hf:=ht.fewer;exact⟨i,lessA G (amt G ax) ax,O ++ [⟨ax,amt G ax⟩],rfl,Nat.le_of_lt hi,ht.right,by omega,by rw[List.length_append,List.length_singleton];omega,by rw[List.append_assoc];exact hres,hO,hS,hK⟩
end
set_option maxHeartbeats 8000000 in
set_option maxRecDepth 100000 in
theorem cycles_calls (n0:Nat) (Zb:Bool) (l:List S50) (gx gz gA:Nat) (A:Option Addr) (cA base:Nat) (F:List Int) (w:World)
  (hR:Right l F n0) (hS:Sp n0 Zb l gx gz gA A cA base F w):
  Calls Try.prog 48 #[.pointer (some ⟨gx,0,none⟩)] w fun e w'=> ∃ v:Value,e= .returned v∧Kd.S k47 47 w' w.heap.size (fun k=>w.heap.size≤k) v (cycF l n0 1000 0 F).1∧Sp n0 Zb l gx gz gA A cA base (cycF l n0 1000 0 F).2 w'∧Ks (fun b=>b=gA) w w':=by
 have hu171:=Try.underlying114;have hu24:=Try.underlying24;have hu74:=Try.underlying50;have hu102:=Try.underlying47;have hAr:=hR.arcs;obtain⟨R,hRR⟩: ∃ R,R=cycF l n0 1000 0 F:=⟨_,rfl⟩;rw[← hRR];have hp0:posN F≤200:=by have:=posN_len F;have:=hR.len;omega
 have HRR:=Ya hRR;have HLW:Aside0 (gx<w.heap.size∧gz<w.heap.size∧(0<l.length→gA<w.heap.size)):=⟨blk_lt hS.x,hS.zero.lt,fun hl=>(Kd.R_lt hS.arcs) gA (by rw[hS.head hR.len hl];rfl)⟩;have HR:=Ya hR;have HS:=Ya hS;have HP0:=Ya hp0;clear hR hS hRR hp0;go_enter Try.func48,Try.ntmps48;go_upto_region 2 with fail
 have HO:Aside0 (Kd.S k47 47 (w.alloc (.cells #[] 47)) w.heap.size (fun k=>w.heap.size≤k) (.slice (some ⟨w.heap.size,0,none⟩) 0 0) []):=⟨empty_S w⟩;have HSA:=Ya (HS.out.below (Ye (Yo w.heap.size w) (.cells #[] 47)));have HKA:Aside0 (Ks (fun b=>b=gA) w (w.alloc (.cells #[] 47))):=⟨Ks.of_below (Ye (Yo w.heap.size w) (.cells #[] 47)) _⟩;generalize w.alloc (.cells #[] 47)=w5 at *;generalize Value.slice (some ⟨w.heap.size,0,none⟩) 0 0=v0 at *;go_wp2_with fail;go_loopw [3,4] (fun v3 v4 w'=> ∃ k,CyR n0 Zb l gx gz gA A cA base R w v3 v4 w' k) (fun v3 v4 w'=>least (CyR n0 Zb l gx gz gA A cA base R w v3 v4 w'))
 case atStart=>exact⟨1000,0,F,[],rfl,Nat.zero_le _,HR.out,by have:=HP0.out;omega,by have:=HP0.out;show 0+_≤200;omega,by rw[List.nil_append];exact HRR.out.symm,HO.out,HSA.out,HKA.out⟩
 case round=>
  clear HO HSA HKA HRR HR HP0;have hsp:=least_spec hrel;obtain⟨K,hK⟩: ∃ K,K=least (CyR n0 Zb l gx gz gA A cA base R w u3 u4 wr):=⟨_,rfl⟩;rw[← hK] at hsp;have HLE:=Ya hK;clear hK hrel;obtain⟨i,G,O,rfl,hi,hRG,hk,hlen,hres,hO,hSG,hKG⟩:=hsp;obtain⟨k,rfl⟩: ∃ k,K=k+1:=⟨K - 1,by omega⟩;have HRG:=Ya hRG;have HO:=Ya hO;have HSG:=Ya hSG;have HKG:=Ya hKG;have HLN:=Ya hlen;have HKK:=Ya hk;have HRES:=Ya hres;clear hRG hO hSG hKG hlen hk hres;have x3:wr.cell? ⟨gx,3,none⟩=some (.slice (some ⟨gz,0,none⟩) l.length l.length):=(Yc HSG.out.x 3).trans rfl;by_cases hlt:i<l.length
  ·have c15:decide ((i:Int)<(l.length:Int))=true:=Yv (by omega)
   have pi_:(0:Int)≤(i:Int):=by omega
   have qi:(i:Int)<(l.length:Int):=by omega
   obtain rfl:=HSG.out.head HRG.out.len (by omega);have x2:wr.cell? ⟨gx,2,none⟩=some (.slice (some ⟨gA,0,none⟩) l.length cA):=(Yc HSG.out.x 2).trans rfl;obtain⟨z0,z1,z2,z3,_⟩:=HSG.out.cells HRG.out.len hlt;obtain⟨f0,hf0⟩: ∃ f,f=(rd_T50 l i).f0:=⟨_,rfl⟩;obtain⟨f1,hf1⟩: ∃ f,f=(rd_T50 l i).f1:=⟨_,rfl⟩;obtain⟨f3,hf3⟩: ∃ f,f=(rd_T50 l i).f3:=⟨_,rfl⟩;obtain⟨c,hc⟩: ∃ c,c=G.getD i 0:=⟨_,rfl⟩;rw[← hf0] at z0;rw[← hf1] at z1;rw[← hf3] at z3;rw[← hc] at z2;have HC:=Ya hc;have HF0:=Ya hf0;have HF1:=Ya hf1;clear hf0 hf1 hf3 hc;by_cases hc0:c=0
   ·have e26:(c == 0)=true:=beq_iff_eq.2 hc0
    have HC0:=Ya hc0;clear hc0;go_wp2_with (first|((with_reducible refine gate_dst (N:=5) rfl ?_);refine Yz ?hg (N:=5) ?hd (cs:= #[.int .i64 0, .int .i64 0, .int .i64 0, .int .i64 0]) (t:=50) ?hr ?_;(case hd=>rfl);(case hg=>rfl);(case hr=>first|(go_simp;done)|(go_simp;rfl));intro g8 hg w10 Zf hb;have GE8:Aside0 (wr.heap.size≤g8):=⟨Nat.le_of_eq hg.symm⟩;have B8:=Ya Zf;have HB8:=Ya hb;clear Zf hg hb;have y0:w10.cell? ⟨g8,0,none⟩=some (.int .i64 0):=(Yc B8.out 0).trans rfl;have y1:w10.cell? ⟨g8,1,none⟩=some (.int .i64 0):=(Yc B8.out 1).trans rfl;have y2:w10.cell? ⟨g8,2,none⟩=some (.int .i64 0):=(Yc B8.out 2).trans rfl;have y3:w10.cell? ⟨g8,3,none⟩=some (.int .i64 0):=(Yc B8.out 3).trans rfl;have q0:=Yf B8.out 0;have q1:=Yf B8.out 1;have q2:=Yf B8.out 2;have q3:=Yf B8.out 3)|((with_reducible refine gate_store (t:=50) (p:=5) rfl ?_);refine store_event (t:=50) (p:=5) (v:= ?vo) (w1:=((((w10.setCell ⟨g8,0,none⟩ (.int .i64 f0)).setCell ⟨g8,1,none⟩ (.int .i64 f1)).setCell ⟨g8,2,none⟩ (.int .i64 c)).setCell ⟨g8,3,none⟩ (.int .i64 f3))) ?hg ?ho ?hn ?hr ?_;(case ho=>rfl);(case hg=>rfl);(case hn=>rfl);(case hr=>first|(go_simp;done)|(go_simp;rfl));intro w11 hw;have m0_:Aside0 (w11.heap[g8]? =some (.cells #[.int .i64 f0, .int .i64 f1, .int .i64 c, .int .i64 f3] 50 (0,0))):=⟨by rw[hw];refine YA (cs:= #[.int .i64 f0, .int .i64 f1, .int .i64 c, .int .i64 0]) ?_ 3 _ rfl;refine YA (cs:= #[.int .i64 f0, .int .i64 f1, .int .i64 0, .int .i64 0]) ?_ 2 _ rfl;refine YA (cs:= #[.int .i64 f0, .int .i64 0, .int .i64 0, .int .i64 0]) ?_ 1 _ rfl;refine YA (cs:= #[.int .i64 0, .int .i64 0, .int .i64 0, .int .i64 0]) ?_ 0 _ rfl;exact B8.out⟩;have m1_:Aside0 (Below wr.heap.size wr w11):=⟨by rw[hw];exact Yh (Yh (Yh (Yh HB8.out GE8.out) GE8.out) GE8.out) GE8.out⟩;clear hw B8 HB8 y0 y1 y2 y3 q0 q1 q2 q3 x2 x3 z0 z1 z2 z3;have B8:=m0_;have HB8:=m1_;clear m0_ m1_;have y0:w11.cell? ⟨g8,0,none⟩=some (.int .i64 f0):=(Yc B8.out 0).trans rfl;have y1:w11.cell? ⟨g8,1,none⟩=some (.int .i64 f1):=(Yc B8.out 1).trans rfl;have y2:w11.cell? ⟨g8,2,none⟩=some (.int .i64 c):=(Yc B8.out 2).trans rfl)|fail);have hcy:cycA l G n0 i=none:=by unfold cycA;rw[Yx (by rw[← HC.out];exact HC0.out)]
    have h:=CyR.skip HRG.out hlt HKK.out HLN.out HRES.out HO.out HSG.out HKG.out hcy HB8.out;exact⟨⟨k,h⟩,least_lt h (by rw[← HLE.out];exact Nat.lt_succ_self k)⟩
   ·have e26:(c == 0)=false:=beq_eq_false_iff_ne.2 hc0
    have HC0:=Ya hc0;clear hc0;go_upto_region 7 with (first|((with_reducible refine gate_dst (N:=5) rfl ?_);refine Yz ?hg (N:=5) ?hd (cs:= #[.int .i64 0, .int .i64 0, .int .i64 0, .int .i64 0]) (t:=50) ?hr ?_;(case hd=>rfl);(case hg=>rfl);(case hr=>first|(go_simp;done)|(go_simp;rfl));intro g8 hg w10 Zf hb;have GE8:Aside0 (wr.heap.size≤g8):=⟨Nat.le_of_eq hg.symm⟩;have B8:=Ya Zf;have HB8:=Ya hb;clear Zf hg hb;have y0:w10.cell? ⟨g8,0,none⟩=some (.int .i64 0):=(Yc B8.out 0).trans rfl;have y1:w10.cell? ⟨g8,1,none⟩=some (.int .i64 0):=(Yc B8.out 1).trans rfl;have y2:w10.cell? ⟨g8,2,none⟩=some (.int .i64 0):=(Yc B8.out 2).trans rfl;have y3:w10.cell? ⟨g8,3,none⟩=some (.int .i64 0):=(Yc B8.out 3).trans rfl;have q0:=Yf B8.out 0;have q1:=Yf B8.out 1;have q2:=Yf B8.out 2;have q3:=Yf B8.out 3)|((with_reducible refine gate_store (t:=50) (p:=5) rfl ?_);refine store_event (t:=50) (p:=5) (v:= ?vo) (w1:=((((w10.setCell ⟨g8,0,none⟩ (.int .i64 f0)).setCell ⟨g8,1,none⟩ (.int .i64 f1)).setCell ⟨g8,2,none⟩ (.int .i64 c)).setCell ⟨g8,3,none⟩ (.int .i64 f3))) ?hg ?ho ?hn ?hr ?_;(case ho=>rfl);(case hg=>rfl);(case hn=>rfl);(case hr=>first|(go_simp;done)|(go_simp;rfl));intro w11 hw;have m0_:Aside0 (w11.heap[g8]? =some (.cells #[.int .i64 f0, .int .i64 f1, .int .i64 c, .int .i64 f3] 50 (0,0))):=⟨by rw[hw];refine YA (cs:= #[.int .i64 f0, .int .i64 f1, .int .i64 c, .int .i64 0]) ?_ 3 _ rfl;refine YA (cs:= #[.int .i64 f0, .int .i64 f1, .int .i64 0, .int .i64 0]) ?_ 2 _ rfl;refine YA (cs:= #[.int .i64 f0, .int .i64 0, .int .i64 0, .int .i64 0]) ?_ 1 _ rfl;refine YA (cs:= #[.int .i64 0, .int .i64 0, .int .i64 0, .int .i64 0]) ?_ 0 _ rfl;exact B8.out⟩;have m1_:Aside0 (Below wr.heap.size wr w11):=⟨by rw[hw];exact Yh (Yh (Yh (Yh HB8.out GE8.out) GE8.out) GE8.out) GE8.out⟩;clear hw B8 HB8 y0 y1 y2 y3 q0 q1 q2 q3 x2 x3 z0 z1 z2 z3;have B8:=m0_;have HB8:=m1_;clear m0_ m1_;have y0:w11.cell? ⟨g8,0,none⟩=some (.int .i64 f0):=(Yc B8.out 0).trans rfl;have y1:w11.cell? ⟨g8,1,none⟩=some (.int .i64 f1):=(Yc B8.out 1).trans rfl;have y2:w11.cell? ⟨g8,2,none⟩=some (.int .i64 c):=(Yc B8.out 2).trans rfl)|fail)
    have y0a:(w11.alloc (.cells #[] 3)).cell? ⟨g8,0,none⟩=some (.int .i64 f0):=pw_cell_below (Ye (Yo _ _) _) y0;have y1a:(w11.alloc (.cells #[] 3)).cell? ⟨g8,1,none⟩=some (.int .i64 f1):=pw_cell_below (Ye (Yo _ _) _) y1;go_region;have HBC:Aside0 (Below wr.heap.size wr (w11.alloc (.cells #[] 3)).drew):=⟨below_drew (Ye HB8.out _)⟩;have HE6:Aside0 (Kd.C (Kd.int .i64) (w11.alloc (.cells #[] 3)).drew (some ⟨w11.heap.size,0,none⟩) 0 []):=⟨isI_C (X:=[]) (IsI.below (w:=w11.alloc (.cells #[] 3)) (heap_alloc_new w11 _) (below_drew (Yo _ _))) (by simp)⟩;have yb0:(w11.alloc (.cells #[] 3)).drew.cell? ⟨g8,0,none⟩=some (.int .i64 f0):=pw_cell_below (below_drew (Yo _ _)) y0a;have yb1:(w11.alloc (.cells #[] 3)).drew.cell? ⟨g8,1,none⟩=some (.int .i64 f1):=pw_cell_below (below_drew (Yo _ _)) y1a;clear y0a y1a y0 y1 y2 B8 HB8;generalize (w11.alloc (.cells #[] 3)).drew=w12 at *;generalize w11.heap.size=g6 at *;go_step;go_step;go_step;try simp only[Act.put,List.setIfInBounds_toArray,List.set_cons_zero,List.set_cons_succ]
    go_cut [6,7] (fun v6 v7 wx=> ∃ (b:Bool) (BK:List Int) (A6:Option Addr) (c6:Nat),v6= .slice A6 BK.length c6∧v7= .bool b∧Aside0 (b=true→cycA l G n0 i=some ((i:Int)::BK))∧Aside0 (b=false→cycA l G n0 i=none)∧Aside0 (Kd.C (Kd.int .i64) wx A6 BK.length BK)∧Aside0 (BK.length≤200)∧Aside0 (Below wr.heap.size wr wx))
    case first=>
     have hends:=HRG.out.ends i hlt;have hcz: ¬ G.getD i 0=0:=by rw[← HC.out];exact HC0.out
     have hF0:eFrom (rd_T50 l i)=f0:=HF0.out.symm;have hF1:eTo (rd_T50 l i)=f1:=HF1.out.symm;by_cases h01:f0=f1
     ·have e34:(f0 == f1)=true:=beq_iff_eq.2 h01
      have hcy:cycA l G n0 i=some [(i:Int)]:=by unfold cycA;rw[Yy hcz,Yx (by rw[hF0,hF1];exact h01)]
      have HCY:=Ya hcy;clear hends hcz hF0 hF1 h01 hcy;go_wp2_with fail;go_meet;exact⟨true,[],some ⟨g6,0,none⟩,0,rfl,by rw[e34],⟨fun _=>HCY.out⟩,⟨fun h=>by cases h⟩,HE6,⟨by simp⟩,HBC⟩
     ·have e34:(f0 == f1)=false:=beq_eq_false_iff_ne.2 h01
      obtain⟨u,hu⟩: ∃ u:Nat,f1=u:=⟨f1.toNat,by rw[← hF1];omega⟩;obtain⟨v,hv⟩: ∃ v:Nat,f0=v:=⟨f0.toNat,by rw[← hF0];omega⟩;have hun:u<n0:=by rw[hF1,hu] at hends;omega
      have hvn:v<n0:=by rw[hF0,hv] at hends;omega
      have huv:u≠v:=by rw[hu,hv] at h01;omega
      have hcy:cycA l G n0 i=if v∈reach l G n0 u then some ((i:Int)::arcsOf (wayA l G n0 u v)) else none:=by
       unfold cycA;rw[Yy hcz,Yy (by rw[hF0,hF1];exact h01),hF0,hF1,hu,hv,Int.toNat_natCast,Int.toNat_natCast]
      have kW:=sway_calls n0 Zb l gx gz gA (some ⟨gA,0,none⟩) cA base G u v w12 HRG.out hun hvn huv (HSG.out.below HBC.out);have KW:=Ya kW;have HCY:=Ya hcy;have HWL:=Ya (wayA_le HRG.out hun huv);subst hu;subst hv;clear hends hcz hF0 hF1 h01 hcy kW;go_wp2_with (first|(go_at_call 49;refine KW.out.mono ?_;rintro e_ w13 ⟨vv,rfl,hvv,hb13⟩;obtain⟨A6,c6,ev⟩:=Kd.R_slice hvv;subst ev)|fail);go_meet;refine⟨decide (v∈reach l G n0 u),arcsOf (wayA l G n0 u v),A6,c6,rfl,rfl,⟨fun h=> ?_⟩,⟨fun h=> ?_⟩,⟨(Kd.R_reads' hvv).2.2⟩,⟨by unfold arcsOf;rw[List.length_map];exact HWL.out⟩,⟨Yk HBC.out hb13⟩⟩
      ·rw[HCY.out,Yx (Yu h)]
      ·rw[HCY.out,Yy (of_decide_eq_false h)]
    case rest=>
     clear HE6 HBC yb0 yb1;obtain⟨b,BK,A6,c6,rfl,rfl,HT,HN,HC6,HBL,HBC⟩:=hcut;cases b with
     |false=>
      have hcy:=HN.out rfl;have HCY:=Ya hcy;clear hcy;go_wp2_with fail;have h:=CyR.skip HRG.out hlt HKK.out HLN.out HRES.out HO.out HSG.out HKG.out HCY.out HBC.out;exact⟨⟨k,h⟩,least_lt h (by rw[← HLE.out];exact Nat.lt_succ_self k)⟩
     |true=>
      obtain⟨ax,hax⟩: ∃ ax,ax=(i:Int)::BK:=⟨_,rfl⟩;have hcy:cycA l G n0 i=some ax:=by rw[hax];exact HT.out rfl
      have HAX:Aside0 ([(i:Int)] ++ BK=ax):=⟨hax.symm⟩;have HCY:=Ya hcy;have hbl:=HBL.out;have hlw:gx<w.heap.size∧gz<w.heap.size∧gA<w.heap.size:=⟨HLW.out.1,HLW.out.2.1,HLW.out.2.2 (by omega)⟩;have HLW2:=Ya hlw;have hsz:=HBC.out.size;have hwz:=HKG.out.size;have HSZ:Aside0 (wr.heap.size≤wc.heap.size∧w.heap.size≤wr.heap.size):=⟨hsz,hwz⟩;have HO2:Aside0 (Kd.S k47 47 wc w.heap.size (fun k=>w.heap.size≤k∧k<wr.heap.size) u3 O):=⟨Kd.S_old HO.out HBC.out⟩;clear HT HN hax hcy hlw hsz hwz;go_wp2_with (first|((with_reducible refine gate_builtin (b:= .append) (xs:= #[.tmp 53, .tmp 54]) rfl ?_);at_builtin;refine Kd.R_append_rows (Kd.int .i64) (Rr:=(Kd.int .i64).K (wc.alloc (.cells #[.int .i64 (i:Int)] 3))) (w0:=wc) wc.heap.size rfl (.tmp 53) (.tmp 54) 31 3 (.int .i64 0) 8 rfl Try.underlying31 info3 rfl (by decide) (by omega) (.slice (some ⟨wc.heap.size,0,none⟩) 1 1) [(i:Int)] BK A6 BK.length c6 (fun k=>wc.heap.size≤k) (fun _=>False) rfl rfl ?aO ?aR (fun _ _ h=>h) (fun _ h=>h.elim) ?aF ?aB ?aS ?aL ?_;(case aO=>exact IsI.R (D:=[(i:Int)]) (heap_alloc_new wc _) (by simp) (Nat.le_refl _) (Nat.le_refl _));(case aR=>exact Yt HC6.out (Ye (Yo _ _) _));(case aF=>exact(fun k hk=>Nat.le_trans (by simp) hk));(case aB=>exact Ye (Yo _ _) _);(case aS=>simp);(case aL=>show (1+BK.length) * 8≤_;omega);intro v1 w13 ho hb hg_ hat_;rw[HAX.out] at ho;obtain⟨A1,c1,ev⟩:=Kd.R_slice ho;subst ev;have HR1:=Ya ho;have HB13:=Ya (Yk HBC.out hb);have HB13c:=Ya hb;clear ho hb hg_ hat_ HC6 HBC)|(go_at_call 50;refine(take_calls n0 Zb l gx gz gA (some ⟨gA,0,none⟩) cA base G _ _ ax A1 c1 _ HRG.out (cycA_some HRG.out hlt HCY.out).1 (HSG.out.below HB13.out) (Kd.R_reads' HR1.out).2.1 (Kd.F_mono (Kd.R_F (Kd.R_bound HR1.out)) (fun k hk=>⟨hk.2.2.1,by have:=hk.1;have:=HLW2.out;have:=HSZ.out;omega⟩))).mono ?_;rintro e_ w14 ⟨rfl,hsp,hks⟩;have HSP:=Ya hsp;have HKS:=Ya hks;have HR2:Aside0 (Kd.R (Kd.int .i64) 3 w14 w.heap.size (fun k=>wr.heap.size≤k) (.slice A1 ax.length c1) ax):=⟨Kd.R_mono (Kd.R_lower (Kd.R_step HR1.out (fun k hk hlt2=>hks.block k hlt2 (fun e=>by have e:k=gA:=e;have:=HLW2.out;have:=HSZ.out;omega))) (by have:=HSZ.out;omega)) (fun k hk=>Nat.le_trans HSZ.out.1 hk)⟩;have HO4:Aside0 (Kd.S k47 47 w14 w.heap.size (fun k=>w.heap.size≤k∧ ¬ wr.heap.size≤k) u3 O):=⟨Kd.S_mono (Kd.S_step (Kd.S_below HO2.out HB13c.out) (fun k hk hlt2=>hks.block k hlt2 (fun e=>by have e:k=gA:=e;have:=HLW2.out;omega))) (fun k hk=>⟨hk.1,by omega⟩)⟩;have HKG1:=Ya ((HKG.out.below HB13.out).trans hks (fun b hb _=>hb));have HSZ4:Aside0 (w.heap.size≤w14.heap.size):=⟨HKG1.out.size⟩;clear hsp hks HR1 HO2 HKS HB13 HB13c)|((with_reducible refine gate_builtin (b:= .append) (xs:= #[.tmp 50, .tmp 57]) rfl ?_);at_builtin;refine Kd.S_append k47 (w0:=w14) w.heap.size rfl (.tmp 50) (.tmp 57) 42 47 (.agg #[(.slice none 0 0),(.int .i64 0)]) 32 rfl Try.underlying42 info47 rfl (by decide) (by omega) u3 O ⟨ax,amt G ax⟩ [.slice A1 ax.length c1, .int .i64 (amt G ax)] (fun k=>w.heap.size≤k) (fun k=>wr.heap.size≤k) rfl rfl ?aP ?aQ ?aF ?aO ?aB ?aS ?aL ?_;(case aP=>exact k47_mkM _ _ _ _ HR2.out);(case aQ=>exact(fun k hk=>⟨Nat.le_trans HSZ.out.2 hk,fun e=>by have:=Kd.S_lt HO.out k e.symm;omega⟩));(case aF=>exact(fun k hk=>Nat.le_trans HSZ4.out hk));(case aO=>exact HO4.out);(case aB=>exact Yo _ _);(case aS=>exact HSZ4.out);(case aL=>have:=HLN.out;omega);intro v3 w15 ho hb hg_ hat_;have HO3:=Ya ho;have HSG2:=Ya (HSP.out.keep hb HLW2.out);have HKG2:=Ya (ks_b HKG1.out hb);clear ho hb hg_ hat_)|fail);have h:=CyR.take HRG.out hlt HKK.out HLN.out HRES.out HCY.out HO3.out HSG2.out HKG2.out;exact⟨⟨k,h⟩,least_lt h (by rw[← HLE.out];exact Nat.lt_succ_self k)⟩
  ·have ei:i=l.length:=by omega
   subst ei;have c15:decide ((l.length:Int)<(l.length:Int))=false:=Yw (by omega);have hR2:(O,G)=R:=by
    have h_:=HRES.out;rw[cycF,Yy hlt,List.append_nil] at h_;exact h_
   have HR2:=Ya hR2;clear hR2;go_wp2_with fail;go_ret;rw[← HR2.out];exact⟨_,rfl,HO.out,HSG.out,HKG.out⟩
end H
namespace H
open P
def capsOf (l:List S50):List Int:=l.map fun a=>a.f2
theorem left_caps (l:List S50):leftA l (capsOf l)=l:=by
 unfold leftA capsOf;apply List.ext_getElem?;intro j;rw[List.getElem?_zipWith,List.getElem?_map];cases l[j]? <;>rfl
theorem clone_arcs {l:List S50} (h:l.length≤200):api_Arc.f l=some l:=by
 show (if 0+l.length<4398046511104 then some ([] ++ l) else none)=some l;rw[Yx (by omega)];rfl
theorem set_take_app {i n:Nat} {X Y:List Int} (hi:i<n) (hx:X.length=n) (hy:Y.length=n):(X.take i ++ Y.drop i).set i (X.getD i 0)=X.take (i+1) ++ Y.drop (i+1):=by
 have hd:=Q.drop_getD Y i 0 (by omega);rw[hd,List.set_append_right _ _ (by rw[List.length_take];omega),List.length_take,show i - min i X.length=0 by omega,List.set_cons_zero,List.take_add_one,List.getElem?_eq_getElem (by omega),List.getD_eq_getElem?_getD,List.getElem?_eq_getElem (by omega),List.append_assoc];rfl
set_option maxHeartbeats 4000000 in
set_option maxRecDepth 100000 in
theorem begun_calls (n0:Nat) (Zb:Bool) (A2:Option Addr) (c2:Nat) (l:List S50) (A1:Option Addr) (c1:Nat) (F:List Int) (w:World)
  (hR:Right l F n0) (h2:Kd.C k50 w A2 l.length l) (hc2:l.length≤c2) (h1:Kd.C (Kd.int .i64) w A1 F.length F) (hc1:F.length≤c1):
  Calls Try.prog 47 #[.agg #[.int .i64 (n0:Int), .bool Zb, .slice A2 l.length c2], .slice A1 F.length c1] w fun e w'=> ∃ (gx gz gA:Nat) (A:Option Addr) (cA:Nat),e= .returned (.pointer (some ⟨gx,0,none⟩))∧Sp n0 Zb l gx gz gA A cA w.heap.size F w'∧Below w.heap.size w w'∧w.heap.size≤gA∧gA<w'.heap.size:=by
 have hu171:=Try.underlying114;have hu24:=Try.underlying24;have hu74:=Try.underlying50;have hAr:=hR.arcs;have hlF:=hR.len;have hmk:=made_ints l.length (by omega);rw[hlF] at h1 hc1 ⊢;have HC2:=Ya hc2;have HC1:=Ya hc1;have H2:=Ya h2;have H1:=Ya h1;have HLF:=Ya hlF;clear hR h2 h1 hc1 hc2 hlF;go_enter Try.func47,Try.ntmps47;go_upto_region 1 with (first|((with_reducible refine gate_dst (N:=2) rfl ?_);refine Yz ?hg (N:=2) ?hd (cs:= #[.int .i64 (n0:Int), .bool Zb, .slice A2 l.length c2]) (t:=24) ?hr ?_;(case hd=>rfl);(case hg=>rfl);(case hr=>first|(go_simp;done)|(go_simp;rfl));intro g2 hg2 w5 Zf hb;have B2:=Ya Zf;have HB:=Ya hb;have HG2:Aside0 (w.heap.size≤g2):=⟨Nat.le_of_eq hg2.symm⟩;clear hg2 Zf hb)|fail)
 have x0:w5.cell? ⟨g2,0,none⟩=some (.int .i64 (n0:Int)):=(Yc B2.out 0).trans rfl;have x1:w5.cell? ⟨g2,1,none⟩=some (.bool Zb):=(Yc B2.out 1).trans rfl;have x2:w5.cell? ⟨g2,2,none⟩=some (.slice A2 l.length c2):=(Yc B2.out 2).trans rfl;have x0a:(w5.alloc (.cells (nums .i64 (List.replicate l.length 0)).toArray 3)).cell? ⟨g2,0,none⟩=some (.int .i64 (n0:Int)):=pw_cell_below (Ye (Yo _ _) _) x0;have x1a:(w5.alloc (.cells (nums .i64 (List.replicate l.length 0)).toArray 3)).cell? ⟨g2,1,none⟩=some (.bool Zb):=pw_cell_below (Ye (Yo _ _) _) x1;have x2a:(w5.alloc (.cells (nums .i64 (List.replicate l.length 0)).toArray 3)).cell? ⟨g2,2,none⟩=some (.slice A2 l.length c2):=pw_cell_below (Ye (Yo _ _) _) x2;try simp only[Act.put,List.setIfInBounds_toArray,List.set_cons_zero,List.set_cons_succ]
 go_region;have HZ:Aside0 (IsI ((w5.alloc (.cells (nums .i64 (List.replicate l.length 0)).toArray 3)).alloc (.cells #[.int .i64 (n0:Int), .bool Zb, .slice A2 l.length c2, .slice (some ⟨w5.heap.size,0,none⟩) l.length l.length] 114)).drew w5.heap.size (zer l)):=⟨IsI.below (w:=w5.alloc (.cells (nums .i64 (List.replicate l.length 0)).toArray 3)) (heap_alloc_new w5 _) (below_drew (Ye (Yo _ _) _))⟩;have HX:Aside0 (((w5.alloc (.cells (nums .i64 (List.replicate l.length 0)).toArray 3)).alloc (.cells #[.int .i64 (n0:Int), .bool Zb, .slice A2 l.length c2, .slice (some ⟨w5.heap.size,0,none⟩) l.length l.length] 114)).drew.heap[w5.heap.size+1]? =some (.cells #[.int .i64 (n0:Int), .bool Zb, .slice A2 l.length c2, .slice (some ⟨w5.heap.size,0,none⟩) l.length l.length] 114 (0,0))):=⟨by
  have h_:=heap_alloc_new (w5.alloc (.cells (nums .i64 (List.replicate l.length 0)).toArray 3)) (.cells #[.int .i64 (n0:Int), .bool Zb, .slice A2 l.length c2, .slice (some ⟨w5.heap.size,0,none⟩) l.length l.length] 114);rw[show (w5.alloc (.cells (nums .i64 (List.replicate l.length 0)).toArray 3)).heap.size=w5.heap.size+1 by simp] at h_;exact h_⟩
 have HB6:Aside0 (Below w.heap.size w ((w5.alloc (.cells (nums .i64 (List.replicate l.length 0)).toArray 3)).alloc (.cells #[.int .i64 (n0:Int), .bool Zb, .slice A2 l.length c2, .slice (some ⟨w5.heap.size,0,none⟩) l.length l.length] 114)).drew):=⟨below_drew (Ye (Ye HB.out _) _)⟩;have B6:=Ya (Yn B2.out (below_drew (Ye (Ye (Yo w5.heap.size w5) (.cells (nums .i64 (List.replicate l.length 0)).toArray 3)) (.cells #[.int .i64 (n0:Int), .bool Zb, .slice A2 l.length c2, .slice (some ⟨w5.heap.size,0,none⟩) l.length l.length] 114))));have HGZ:Aside0 (w.heap.size≤w5.heap.size):=⟨HB.out.size⟩;have HG22:Aside0 (g2<w5.heap.size):=⟨blk_lt B2.out⟩;obtain⟨gx,hgx⟩: ∃ gx,gx=w5.heap.size+1:=⟨_,rfl⟩;rw[← hgx] at HX ⊢;have HGX:=Ya hgx;clear x0 x1 x2 x0a x1a x2a B2 HB hmk hgx;generalize ((w5.alloc (.cells (nums .i64 (List.replicate l.length 0)).toArray 3)).alloc (.cells #[.int .i64 (n0:Int), .bool Zb, .slice A2 l.length c2, .slice (some ⟨w5.heap.size,0,none⟩) l.length l.length] 114)).drew=w6 at *;generalize w5.heap.size=gz at *;have x2:w6.cell? ⟨g2,2,none⟩=some (.slice A2 l.length c2):=(Yc B6.out 2).trans rfl;have hcl:=api_Arc.calls A2 c2 l l w6 (Yt H2.out HB6.out) HC2.out (clone_arcs hAr);have HCL:=Ya hcl;clear hcl;go_upto_region 3 with (first|(go_at_call 74;refine HCL.out.mono ?_;rintro e_ w7 ⟨vl,rfl,hv,hb⟩;obtain⟨A,cA,ev⟩:=Kd.R_slice hv;subst ev;have HV:=Ya hv;have HX7:=Ya (Yn HX.out hb);have HZ7:=Ya (HZ.out.below hb);have HB7:=Ya (Yk HB6.out hb);have HS67:Aside0 (w6.heap.size≤w7.heap.size):=⟨hb.size⟩;have HSZ:Aside0 (gx<w6.heap.size∧gz<w6.heap.size):=⟨blk_lt HX.out,HZ.out.lt⟩;clear hv hb HX HZ HB6 B6 x2;have y2:w7.cell? ⟨gx,2,none⟩=some (.slice A2 l.length c2):=(Yc HX7.out 2).trans rfl;have q2:=Yf HX7.out 2)|fail)
 obtain⟨gA,hgA⟩: ∃ gA,gA=((Value.slice A l.length cA).ownBlock).getD g2:=⟨_,rfl⟩;have hown: ∀ k,some k=(Value.slice A l.length cA).ownBlock→k=gA:=fun k hk=>by rw[hgA, ← hk];rfl
 have hgA2:(gx≠gA∧gz≠gA)∧w.heap.size≤gA∧gA<w7.heap.size:=by
  have h1:=HG22.out;have h2:=HGX.out;have h3:=HSZ.out;have h4:=HG2.out;have h5:=HB7.out.size;have h6:=HGZ.out;have h7:=HS67.out;cases ho:(Value.slice A l.length cA).ownBlock with
  |none=>rw[hgA,ho];show (gx≠g2∧gz≠g2)∧w.heap.size≤g2∧g2<w7.heap.size;omega
  |some b=>
   have h_:=Kd.R_base HV.out b ho;have:=Kd.R_lt HV.out b ho;rw[hgA,ho];show (gx≠b∧gz≠b)∧w.heap.size≤b∧b<w7.heap.size;omega
 have HSP:Aside0 (Sp n0 Zb l gx gz gA A cA w.heap.size (capsOf l) (w7.setCell ⟨gx,2,none⟩ (.slice A l.length cA))):=⟨⟨(blk_set HX7.out 2 _).trans rfl,by
  rw[left_caps];refine Kd.R_far (p:=⟨gx,2,none⟩) ?_ (fun k hk=>by have hk:k=gA:=hk;rw[hk];exact Ne.symm hgA2.1.1) _;exact Kd.R_lower (Kd.R_mono (Kd.R_tight rfl HV.out) hown) (by have:=HSZ.out;have:=HB7.out.size;have:=HGZ.out;have:=HGX.out;omega),HZ7.out.far (p:=⟨gx,2,none⟩) (by have:=HGX.out;show gz≠gx;omega) _,⟨hgA2.1.1,hgA2.1.2,by have:=HGX.out;omega⟩,⟨by have:=HGX.out;have:=HGZ.out;omega,HGZ.out⟩⟩⟩
 have HB8:Aside0 (Below w.heap.size w (w7.setCell ⟨gx,2,none⟩ (.slice A l.length cA))):=⟨Yh HB7.out (by have:=HGX.out;have:=HGZ.out;omega)⟩;have HGA2:Aside0 (w.heap.size≤gA∧gA<(w7.setCell ⟨gx,2,none⟩ (.slice A l.length cA)).heap.size):=⟨⟨hgA2.2.1,by simpa [World.setCell] using hgA2.2.2⟩⟩;clear HX7 HZ7 HB7 HV y2 q2 hown hgA2 hgA;generalize w7.setCell ⟨gx,2,none⟩ (.slice A l.length cA)=w8 at *;go_wp2_with fail;go_loopw [23] (fun v23 w'=> ∃ i:Nat,v23= .int .i64 (i:Int)∧i≤l.length∧Aside0 (Sp n0 Zb l gx gz gA A cA w.heap.size (F.take i ++ (capsOf l).drop i) w')∧Aside0 (Below w.heap.size w w')∧Aside0 (w8.heap.size≤w'.heap.size)) (fun v23 _=>l.length - (intOf v23).toNat)
 case atStart=>exact⟨0,rfl,Nat.zero_le _,HSP,HB8,⟨Nat.le_refl _⟩⟩
 case round=>
  clear HSP HB8;obtain⟨i,rfl,hi,HSJ,HBJ,HWZ⟩:=hrel;by_cases hlt:i<l.length
  ·have c24:decide ((i:Int)<(l.length:Int))=true:=Yv (by omega)
   have pj:(0:Int)≤(i:Int):=by omega
   have qj:(i:Int)<(l.length:Int):=by omega
   obtain⟨ad,e,y0⟩:=Kd.at_int (Yt H1.out HBJ.out) (i:Int) pj qj;subst e;rw[Q.rd_nat,Int.toNat_natCast] at y0;have hcl:(capsOf l).length=l.length:=by unfold capsOf;rw[List.length_map]
   have hlX:(F.take i ++ (capsOf l).drop i).length=l.length:=by rw[List.length_append,List.length_take,List.length_drop];have:=HLF.out;omega
   obtain rfl:=HSJ.out.head hlX (by omega);obtain⟨_,_,z0,_,zf⟩:=HSJ.out.cells hlX hlt;have hput:=HSJ.out.put hlX hlt (F.getD i 0);rw[set_take_app (n:=l.length) hlt HLF.out hcl] at hput;obtain⟨c,hc⟩: ∃ c,c=F.getD i 0:=⟨_,rfl⟩;obtain⟨d,hd⟩: ∃ d,d=(F.take i ++ (capsOf l).drop i).getD i 0:=⟨_,rfl⟩;rw[← hc] at y0 hput;rw[← hd] at z0;have HPUT:=Ya hput;have hbg:=Kd.R_base HSJ.out.arcs gA rfl;have m1_:Aside0 (Below w.heap.size w (wr.setCell ⟨gA,i * 4+2,none⟩ (.int .i64 c))):=⟨Yh HBJ.out hbg⟩;have x2:wr.cell? ⟨gx,2,none⟩=some (.slice (some ⟨gA,0,none⟩) l.length cA):=(Yc HSJ.out.x 2).trans rfl;clear hput hc hd hcl hlX hbg;go_wp2_with fail;go_roundw
   case rel=>exact⟨i+1,by go_num,hlt,HPUT,m1_,⟨by simpa [World.setCell] using HWZ.out⟩⟩
   case measure=>simp[intOf]<;>omega
  ·have ej:i=l.length:=by omega
   subst ej;have c24:decide ((l.length:Int)<(l.length:Int))=false:=Yw (by omega);go_wp2_with fail;go_ret;have h_:=HSJ.out;rw[List.take_of_length_le (by rw[HLF.out];exact Nat.le_refl _),List.drop_of_length_le (by unfold capsOf;rw[List.length_map];exact Nat.le_refl _),List.append_nil] at h_;exact⟨gx,gz,gA,A,cA,rfl,h_,HBJ.out,HGA2.out.1,Nat.lt_of_lt_of_le HGA2.out.2 HWZ.out⟩
end H
namespace P
attribute [local go_sem] max2_int min2_int max_two min_two max_three min_three max_four min_four
def ebbtideref07_Check.l0:Nat→Int→Int→List Int→Int→Int→Bool→List (S50)→Option (Int × Int)
 |0,_,_,_,_,_,_,_=>none
 |k+1,x1,x2,x11,x13,x217000,x217001,x217002=>if x13<x217000 then(if x13=x1 then(ebbtideref07_Check.l0 k x1 x2 x11 (wrap64 (x13+1)) x217000 x217001 x217002) else(if x13=x2 then(ebbtideref07_Check.l0 k x1 x2 x11 (wrap64 (x13+1)) x217000 x217001 x217002) else(if 0≤x13 then(if x13<(x11.length:Int) then(if (rd x11 x13)=0 then(ebbtideref07_Check.l0 k x1 x2 x11 (wrap64 (x13+1)) x217000 x217001 x217002) else(some (0,71))) else(none)) else(none)))) else(if 0≤x1 then(if x1<(x11.length:Int) then(some (rd x11 x1,0)) else(none)) else(none))
def ebbtideref07_Check.f (k:Nat) (Zc:Int) (Zb:Bool) (Za:List (S50)) (a1:Int) (a2:Int) (l3:List Int):Option (Int × Int):=(ebbtideref07_Ends.f k Zc Zb Za a1 a2).bind fun t217=>(if t217=0 then((ebbtideref07_Balance.f k Zc Zb Za l3).bind fun bt218=>(if bt218.2=0 then(ebbtideref07_Check.l0 k a1 a2 bt218.1 0 Zc Zb Za) else(some (0,bt218.2)))) else(some (0,t217)))
set_option maxHeartbeats 8000000 in
set_option maxRecDepth 100000 in
theorem ebbtideref07_Check.calls (k:Nat) (Zc:Int) (Zb:Bool) (Ze:Option Addr) (Zd:Nat) (Za:List (S50)) (a1:Int) (a2:Int) (A3:Option Addr) (c3:Nat) (l3:List Int) (r1:Int) (r2:Int) (w:World) (Zp:Kd.C k50 w Ze Za.length Za) (Zq:Za.length≤Zd) (hr3:Kd.C (Kd.int .i64) w A3 l3.length l3) (hc3:l3.length≤c3) (h:ebbtideref07_Check.f k Zc Zb Za a1 a2 l3=some (r1,r2)):
  Calls Try.prog 20 #[.agg #[.int .i64 Zc, .bool Zb, .slice Ze Za.length Zd], .int .i64 a1, .int .i64 a2, .slice A3 l3.length c3] w fun e w'=>e= .returned (.tuple #[.int .i64 r1, .int .i64 r2])∧Below w.heap.size w w':=by
 have hu24:=Try.underlying24;have Zj:=Ya Zp;have Zs:=Ya Zq;clear Zp Zq;have HR3:=Ya hr3;have HC3:=Ya hc3;clear hr3 hc3;have HB:=Ya (Yo w.heap.size w);have H:=h;unfold ebbtideref07_Check.f at H;clear h;replace H:=Option.bind_eq_some_iff.mp H;obtain⟨t217,A50,H⟩:=H;try dsimp only at H
 have A5:=Ya A50;clear A50;by_cases c6:t217=0
 rotate_left
 ·rw[Yy c6] at H
  have c6b0:(t217 == 0)=false:=beq_eq_false_iff_ne.mpr c6;have c6b1:(t217 != 0)=true:=bne_iff_ne.mpr c6;simp only[Option.some.injEq,Prod.mk.injEq] at H;obtain⟨rfl,rfl⟩:=H;go_enter Try.func20,Try.ntmps20;go_wp2_with (first|(refine bx 4 24 #[.int .i64 Zc, .bool Zb, .slice Ze Za.length Zd] ?_;intro Wn hg w35 Zf hb;have Xb:=Ya (Zf);have GW216:=Ya (by rw[hg];exact(Yi HB.out):w.heap.size≤Wn);have GE216:=Ya (by rw[hg];exact(Yi HB.out):w.heap.size≤Wn);replace HB:=Ya (Yk HB.out hb);clear hb Zf hg;have hcz36_0:w35.cell? ⟨Wn,0,none⟩=some (.int .i64 Zc):=bc Xb 0;have hcz36_1:w35.cell? ⟨Wn,1,none⟩=some (.bool Zb):=bc Xb 1;have hcz36_2:w35.cell? ⟨Wn,2,none⟩=some (.slice Ze Za.length Zd):=bc Xb 2;have hfz36_0:=Yf Xb.out 0;have hfz36_1:=Yf Xb.out 1;have hfz36_2:=Yf Xb.out 2)|((with_reducible refine gate_callee (f:=27) rfl ?_);refine gl (some 17) Try.func27 #[.agg #[.int .i64 Zc, .bool Zb, .slice Ze Za.length Zd], .int .i64 a1, .int .i64 a2] ?_;(with_reducible refine(ebbtideref07_Ends.calls k Zc Zb _ _ Za a1 a2 t217 _ ?side1 ?side2 A5.out).mono ?_);(case side1=>exact kC (Yt Zj.out HB.out));(case side2=>exact Zs.out);rintro e w37 ⟨rfl,hb⟩;refine⟨_,rfl,?_⟩;replace Xb:=Ya (Yn Xb.out hb);replace HB:=Ya (Yk HB.out hb);(try clear hb)));go_ret2;exact⟨by first|rfl|(simp[errW_none,errW_some]<;>rfl)|(simp[*,errW_none,errW_some]<;>rfl),HB.out⟩
 rw[Yx c6] at H;have c6b0:(t217 == 0)=true:=beq_iff_eq.mpr c6;have c6b1:(t217 != 0)=false:=bne_eq_false_iff_eq.mpr c6;clear c6;replace H:=Option.bind_eq_some_iff.mp H;obtain⟨⟨t218,t221⟩,A70,H⟩:=H;try dsimp only at H
 have A7:=Ya A70;clear A70;by_cases c8:t221=0
 rotate_left
 ·rw[Yy c8] at H
  have c8b0:(t221 == 0)=false:=beq_eq_false_iff_ne.mpr c8;have c8b1:(t221 != 0)=true:=bne_iff_ne.mpr c8;simp only[Option.some.injEq,Prod.mk.injEq] at H;obtain⟨rfl,rfl⟩:=H;go_enter Try.func20,Try.ntmps20;go_wp2_with (first|(refine bx 4 24 #[.int .i64 Zc, .bool Zb, .slice Ze Za.length Zd] ?_;intro Wn hg w30 Zf hb;have Xb:=Ya (Zf);have GW216:=Ya (by rw[hg];exact(Yi HB.out):w.heap.size≤Wn);have GE216:=Ya (by rw[hg];exact(Yi HB.out):w.heap.size≤Wn);replace HB:=Ya (Yk HB.out hb);clear hb Zf hg;have hcz31_0:w30.cell? ⟨Wn,0,none⟩=some (.int .i64 Zc):=bc Xb 0;have hcz31_1:w30.cell? ⟨Wn,1,none⟩=some (.bool Zb):=bc Xb 1;have hcz31_2:w30.cell? ⟨Wn,2,none⟩=some (.slice Ze Za.length Zd):=bc Xb 2;have hfz31_0:=Yf Xb.out 0;have hfz31_1:=Yf Xb.out 1;have hfz31_2:=Yf Xb.out 2)|((with_reducible refine gate_callee (f:=27) rfl ?_);refine gl (some 17) Try.func27 #[.agg #[.int .i64 Zc, .bool Zb, .slice Ze Za.length Zd], .int .i64 a1, .int .i64 a2] ?_;(with_reducible refine(ebbtideref07_Ends.calls k Zc Zb _ _ Za a1 a2 t217 _ ?side1 ?side2 A5.out).mono ?_);(case side1=>exact kC (Yt Zj.out HB.out));(case side2=>exact Zs.out);rintro e w32 ⟨rfl,hb⟩;refine⟨_,rfl,?_⟩;replace Xb:=Ya (Yn Xb.out hb);replace HB:=Ya (Yk HB.out hb);(try clear hb);have hcz33_0:w32.cell? ⟨Wn,0,none⟩=some (.int .i64 Zc):=bc Xb 0;have hcz33_1:w32.cell? ⟨Wn,1,none⟩=some (.bool Zb):=bc Xb 1;have hcz33_2:w32.cell? ⟨Wn,2,none⟩=some (.slice Ze Za.length Zd):=bc Xb 2;have hfz33_0:=Yf Xb.out 0;have hfz33_1:=Yf Xb.out 1;have hfz33_2:=Yf Xb.out 2)|((with_reducible refine gate_callee (f:=51) rfl ?_);refine gl (some 24) Try.func51 #[.agg #[.int .i64 Zc, .bool Zb, .slice Ze Za.length Zd], .slice A3 l3.length c3] ?_;(with_reducible refine(ebbtideref07_Balance.calls k Zc Zb _ _ Za _ _ l3 t218 t221 _ ?side1 ?side2 ?side3 ?side4 A7.out).mono ?_);(case side1=>exact kC (Yt Zj.out HB.out));(case side2=>exact Zs.out);(case side3=>exact kC (Yt HR3.out HB.out));(case side4=>exact HC3.out);rintro e w34 ⟨v219,rfl,ho0,hb⟩;refine⟨_,rfl,?_⟩;have HO220:=Ya (Kd.R_lower ho0 (Yi HB.out));replace Xb:=Ya (Yn Xb.out hb);replace HB:=Ya (Yk HB.out hb);(try clear hb);(try clear hb2);(try clear hk);(try clear hi);(try clear ho0)));go_ret2;exact⟨by first|rfl|(simp[errW_none,errW_some]<;>rfl)|(simp[*,errW_none,errW_some]<;>rfl),HB.out⟩
 rw[Yx c8] at H;have c8b0:(t221 == 0)=true:=beq_iff_eq.mpr c8;have c8b1:(t221 != 0)=false:=bne_eq_false_iff_eq.mpr c8;clear c8;have H':=Ya H;clear H;go_enter Try.func20,Try.ntmps20;go_wp2_with (first|(refine bx 4 24 #[.int .i64 Zc, .bool Zb, .slice Ze Za.length Zd] ?_;intro Wn hg w9 Zf hb;have Xb:=Ya (Zf);have GW216:=Ya (by rw[hg];exact(Yi HB.out):w.heap.size≤Wn);have GE216:=Ya (by rw[hg];exact(Yi HB.out):w.heap.size≤Wn);replace HB:=Ya (Yk HB.out hb);clear hb Zf hg;have Va:w9.cell? ⟨Wn,0,none⟩=some (.int .i64 Zc):=bc Xb 0;have Vb:w9.cell? ⟨Wn,1,none⟩=some (.bool Zb):=bc Xb 1;have Vr:w9.cell? ⟨Wn,2,none⟩=some (.slice Ze Za.length Zd):=bc Xb 2;have Vc:=Yf Xb.out 0;have Vd:=Yf Xb.out 1;have Vs:=Yf Xb.out 2)|((with_reducible refine gate_callee (f:=27) rfl ?_);refine gl (some 17) Try.func27 #[.agg #[.int .i64 Zc, .bool Zb, .slice Ze Za.length Zd], .int .i64 a1, .int .i64 a2] ?_;(with_reducible refine(ebbtideref07_Ends.calls k Zc Zb _ _ Za a1 a2 t217 _ ?side1 ?side2 A5.out).mono ?_);(case side1=>exact kC (Yt Zj.out HB.out));(case side2=>exact Zs.out);rintro e w11 ⟨rfl,hb⟩;refine⟨_,rfl,?_⟩;replace Xb:=Ya (Yn Xb.out hb);replace HB:=Ya (Yk HB.out hb);(try clear hb);have hcz12_0:w11.cell? ⟨Wn,0,none⟩=some (.int .i64 Zc):=bc Xb 0;have hcz12_1:w11.cell? ⟨Wn,1,none⟩=some (.bool Zb):=bc Xb 1;have hcz12_2:w11.cell? ⟨Wn,2,none⟩=some (.slice Ze Za.length Zd):=bc Xb 2;have hfz12_0:=Yf Xb.out 0;have hfz12_1:=Yf Xb.out 1;have hfz12_2:=Yf Xb.out 2)|((with_reducible refine gate_callee (f:=51) rfl ?_);refine gl (some 24) Try.func51 #[.agg #[.int .i64 Zc, .bool Zb, .slice Ze Za.length Zd], .slice A3 l3.length c3] ?_;(with_reducible refine(ebbtideref07_Balance.calls k Zc Zb _ _ Za _ _ l3 t218 t221 _ ?side1 ?side2 ?side3 ?side4 A7.out).mono ?_);(case side1=>exact kC (Yt Zj.out HB.out));(case side2=>exact Zs.out);(case side3=>exact kC (Yt HR3.out HB.out));(case side4=>exact HC3.out);rintro e w13 ⟨v219,rfl,ho0,hb⟩;refine⟨_,rfl,?_⟩;have HO220:=Ya (Kd.R_lower ho0 (Yi HB.out));replace Xb:=Ya (Yn Xb.out hb);replace HB:=Ya (Yk HB.out hb);(try clear hb);(try clear hb2);(try clear hk);(try clear hi);(try clear ho0)));go_loopg [13] k (fun kq v13 w'=> ∃ (Wt:Int),v13= .int .i64 Wt∧Aside0 (ebbtideref07_Check.l0 kq a1 a2 t218 Wt Zc Zb Za=some (r1,r2))∧Aside0 (kq≤k)∧Aside0 (Kd.R (Kd.int .i64) 3 w' w.heap.size (fun _=>True) v219 t218)∧Aside0 (w'.heap[Wn]? =some (.cells #[.int .i64 Zc, .bool Zb,(.slice Ze Za.length Zd)] 24 (0,0)))∧Aside0 (Below w.heap.size w w'))
 case atStart=>exact⟨(0),(by first|rfl|(simp;done)|(simp[*];done)),H',⟨Nat.le_refl _⟩,⟨HO220.out⟩,⟨Xb.out⟩,⟨HB.out⟩⟩
 case round=>
  clear H';try clear c3
  try clear c6
  try clear c6b0
  try clear c6b1
  try clear c8
  try clear c8b0
  try clear c8b1
  try clear Va
  try clear Vb
  try clear Vr
  try clear hcz12_0
  try clear hcz12_1
  try clear hcz12_2
  try clear Vc
  try clear Vd
  try clear Vs
  try clear hfz12_0
  try clear hfz12_1
  try clear hfz12_2
  obtain⟨Wt,rfl,HA,HK1,HO_11,Xb,HB⟩:=hrel;cases gk with
  |zero=>exact absurd HA.out (by simp[ebbtideref07_Check.l0])
  |succ k1=>
   have H:=HA.out;clear HA;simp only[ebbtideref07_Check.l0] at H;by_cases c14:Wt<Zc
   rotate_left
   ·rw[Yy c14] at H
    have c14b0:decide (Wt<Zc)=false:=Yw c14;clear c14;by_cases c26:0≤a1
    rotate_left
    ·rw[Yy c26] at H
     exact absurd H (by simp)
    rw[Yx c26] at H;have c26b0:decide (0≤a1)=true:=Yv c26;clear c26;by_cases c27:a1<(t218.length:Int)
    rotate_left
    ·rw[Yy c27] at H
     exact absurd H (by simp)
    rw[Yx c27] at H;have c27b0:decide (a1<(t218.length:Int))=true:=Yv c27;clear c27;simp only[Option.some.injEq,Prod.mk.injEq] at H;obtain⟨rfl,rfl⟩:=H;have hcz28_0:wr.cell? ⟨Wn,0,none⟩=some (.int .i64 Zc):=bc Xb 0;have hcz28_1:wr.cell? ⟨Wn,1,none⟩=some (.bool Zb):=bc Xb 1;have hcz28_2:wr.cell? ⟨Wn,2,none⟩=some (.slice Ze Za.length Zd):=bc Xb 2;have hfz28_0:=Yf Xb.out 0;have hfz28_1:=Yf Xb.out 1;have hfz28_2:=Yf Xb.out 2;obtain⟨Ao29,co29,eo29⟩:=Kd.R_slice HO_11.out;subst eo29;have p223:0≤(a1:Int):=od;have q223:a1<(t218.length:Int):=od;obtain⟨ad223,e223,hx223_0⟩:=Kd.at_int (Kd.R_reads' HO_11.out).2.2 a1 p223 q223;cases e223;replace p223:=eq_true p223;replace q223:=eq_true q223;go_wp2;go_ret2;exact⟨by first|rfl|(simp[errW_none,errW_some]<;>rfl)|(simp[*,errW_none,errW_some]<;>rfl),HB.out⟩
   rw[Yx c14] at H;have c14b0:decide (Wt<Zc)=true:=Yv c14;clear c14;by_cases c15:Wt=a1
   ·rw[Yx c15] at H
    have c15b0:(Wt == a1)=true:=beq_iff_eq.mpr c15;have c15b1:(Wt != a1)=false:=bne_eq_false_iff_eq.mpr c15;clear c15;have H':=Ya H;clear H;have Jt:wr.cell? ⟨Wn,0,none⟩=some (.int .i64 Zc):=bc Xb 0;have Ju:wr.cell? ⟨Wn,1,none⟩=some (.bool Zb):=bc Xb 1;have hcz16_2:wr.cell? ⟨Wn,2,none⟩=some (.slice Ze Za.length Zd):=bc Xb 2;have Jv:=Yf Xb.out 0;have Jw:=Yf Xb.out 1;have hfz16_2:=Yf Xb.out 2;go_wp2;go_roundg k1
    case measure=>have:=HK1.out;omega
    case rel=>exact⟨(wrap64 (Wt+1)),(by first|rfl|(simp;done)|(simp[*];done)),H',⟨by have:=HK1.out;omega⟩,⟨HO_11.out⟩,⟨Xb.out⟩,⟨HB.out⟩⟩
   rw[Yy c15] at H;have c15b0:(Wt == a1)=false:=beq_eq_false_iff_ne.mpr c15;have c15b1:(Wt != a1)=true:=bne_iff_ne.mpr c15;by_cases c17:Wt=a2
   ·rw[Yx c17] at H
    have c17b0:(Wt == a2)=true:=beq_iff_eq.mpr c17;have c17b1:(Wt != a2)=false:=bne_eq_false_iff_eq.mpr c17;clear c17;have H':=Ya H;clear H;have hcz18_0:wr.cell? ⟨Wn,0,none⟩=some (.int .i64 Zc):=bc Xb 0;have hcz18_1:wr.cell? ⟨Wn,1,none⟩=some (.bool Zb):=bc Xb 1;have hcz18_2:wr.cell? ⟨Wn,2,none⟩=some (.slice Ze Za.length Zd):=bc Xb 2;have hfz18_0:=Yf Xb.out 0;have hfz18_1:=Yf Xb.out 1;have hfz18_2:=Yf Xb.out 2;go_wp2;go_roundg k1
    case measure=>have:=HK1.out;omega
    case rel=>exact⟨(wrap64 (Wt+1)),(by first|rfl|(simp;done)|(simp[*];done)),H',⟨by have:=HK1.out;omega⟩,⟨HO_11.out⟩,⟨Xb.out⟩,⟨HB.out⟩⟩
   rw[Yy c17] at H;have c17b0:(Wt == a2)=false:=beq_eq_false_iff_ne.mpr c17;have c17b1:(Wt != a2)=true:=bne_iff_ne.mpr c17;by_cases c19:0≤Wt
   rotate_left
   ·rw[Yy c19] at H
    exact absurd H (by simp)
   rw[Yx c19] at H;have c19b0:decide (0≤Wt)=true:=Yv c19;clear c19;by_cases c20:Wt<(t218.length:Int)
   rotate_left
   ·rw[Yy c20] at H
    exact absurd H (by simp)
   rw[Yx c20] at H;have c20b0:decide (Wt<(t218.length:Int))=true:=Yv c20;clear c20;by_cases c21:(rd t218 Wt)=0
   rotate_left
   ·rw[Yy c21] at H
    have c21b0:((rd t218 Wt) == 0)=false:=beq_eq_false_iff_ne.mpr c21;have c21b1:((rd t218 Wt) != 0)=true:=bne_iff_ne.mpr c21;simp only[Option.some.injEq,Prod.mk.injEq] at H;obtain⟨rfl,rfl⟩:=H;have hcz24_0:wr.cell? ⟨Wn,0,none⟩=some (.int .i64 Zc):=bc Xb 0;have hcz24_1:wr.cell? ⟨Wn,1,none⟩=some (.bool Zb):=bc Xb 1;have hcz24_2:wr.cell? ⟨Wn,2,none⟩=some (.slice Ze Za.length Zd):=bc Xb 2;have hfz24_0:=Yf Xb.out 0;have hfz24_1:=Yf Xb.out 1;have hfz24_2:=Yf Xb.out 2;obtain⟨Ao25,co25,eo25⟩:=Kd.R_slice HO_11.out;subst eo25;have p222:0≤(Wt:Int):=od;have q222:Wt<(t218.length:Int):=od;obtain⟨ad222,e222,hx222_0⟩:=Kd.at_int (Kd.R_reads' HO_11.out).2.2 Wt p222 q222;cases e222;replace p222:=eq_true p222;replace q222:=eq_true q222;go_wp2;go_ret2;exact⟨by first|rfl|(simp[errW_none,errW_some]<;>rfl)|(simp[*,errW_none,errW_some]<;>rfl),HB.out⟩
   rw[Yx c21] at H;have c21b0:((rd t218 Wt) == 0)=true:=beq_iff_eq.mpr c21;have c21b1:((rd t218 Wt) != 0)=false:=bne_eq_false_iff_eq.mpr c21;clear c21;have H':=Ya H;clear H;have hcz22_0:wr.cell? ⟨Wn,0,none⟩=some (.int .i64 Zc):=bc Xb 0;have hcz22_1:wr.cell? ⟨Wn,1,none⟩=some (.bool Zb):=bc Xb 1;have hcz22_2:wr.cell? ⟨Wn,2,none⟩=some (.slice Ze Za.length Zd):=bc Xb 2;have hfz22_0:=Yf Xb.out 0;have hfz22_1:=Yf Xb.out 1;have hfz22_2:=Yf Xb.out 2;obtain⟨Ao23,co23,eo23⟩:=Kd.R_slice HO_11.out;subst eo23;have p222:0≤(Wt:Int):=od;have q222:Wt<(t218.length:Int):=od;obtain⟨ad222,e222,hx222_0⟩:=Kd.at_int (Kd.R_reads' HO_11.out).2.2 Wt p222 q222;cases e222;replace p222:=eq_true p222;replace q222:=eq_true q222;go_wp2;go_roundg k1
   case measure=>have:=HK1.out;omega
   case rel=>exact⟨(wrap64 (Wt+1)),(by first|rfl|(simp;done)|(simp[*];done)),H',⟨by have:=HK1.out;omega⟩,⟨HO_11.out⟩,⟨Xb.out⟩,⟨HB.out⟩⟩
end P
namespace P
attribute [local go_sem] max2_int min2_int max_two min_two max_three min_three max_four min_four
def ebbtideref07_Left.f (Zc:Int) (Zb:Bool) (Za:List (S50)) (l1:List Int) (Wl:Int) (a2_1:Bool):Option (Int):=if a2_1=true then(if 0≤Wl then(if Wl<(l1.length:Int) then(some (rd l1 Wl)) else(none)) else(none)) else(if 0≤Wl then(if Wl<(Za.length:Int) then(if Wl<(l1.length:Int) then(some (wrap64 (((rd_T50 Za Wl).f2) - (rd l1 Wl)))) else(none)) else(none)) else(none))
set_option maxHeartbeats 8000000 in
set_option maxRecDepth 100000 in
theorem ebbtideref07_Left.calls (Zc:Int) (Zb:Bool) (Ze:Option Addr) (Zd:Nat) (Za:List (S50)) (A1:Option Addr) (c1:Nat) (l1:List Int) (Wl:Int) (a2_1:Bool) (r:Int) (w:World) (Zp:Kd.C k50 w Ze Za.length Za) (Zq:Za.length≤Zd) (hr1:Kd.C (Kd.int .i64) w A1 l1.length l1) (hc1:l1.length≤c1) (h:ebbtideref07_Left.f Zc Zb Za l1 Wl a2_1=some r):
  Calls Try.prog 79 #[.agg #[.int .i64 Zc, .bool Zb, .slice Ze Za.length Zd], .slice A1 l1.length c1, .agg #[.int .i64 Wl, .bool a2_1]] w fun e w'=>e= .returned (.int .i64 r)∧Below w.heap.size w w':=by
 have hu24:=Try.underlying24;have hu79:=Try.underlying79;have Zj:=Ya Zp;have Zs:=Ya Zq;clear Zp Zq;have HR1:=Ya hr1;have HC1:=Ya hc1;clear hr1 hc1;have HB:=Ya (Yo w.heap.size w);have H:=h;unfold ebbtideref07_Left.f at H;clear h;by_cases c4:a2_1=true
 ·subst c4
  first|rw[Yx rfl] at H|rw[Yx trivial] at H
  by_cases c5:0≤Wl
  rotate_left
  ·rw[Yy c5] at H
   exact absurd H (by simp)
  rw[Yx c5] at H;have c5b0:decide (0≤Wl)=true:=Yv c5;clear c5;by_cases c6:Wl<(l1.length:Int)
  rotate_left
  ·rw[Yy c6] at H
   exact absurd H (by simp)
  rw[Yx c6] at H;have c6b0:decide (Wl<(l1.length:Int))=true:=Yv c6;clear c6;obtain rfl:=Option.some.inj H;go_enter Try.func79,Try.ntmps79;go_wp2_with (first|(refine bx 3 24 #[.int .i64 Zc, .bool Zb, .slice Ze Za.length Zd] ?_;intro Ud hg w7 Zf hb;have Xz:=Ya (Zf);have GW302:=Ya ((sz hg));have GE302:=Ya ((sz hg));replace HB:=Ya (Yk bl hb);clear hb Zf hg)|(refine bx 5 79 #[.int .i64 Wl, .bool true] ?_;intro Vp hg w8 Zf hb;have Vq:=Ya (Zf);have GW303:=Ya ((sz hg));have GE303:=Ya ((sz hg));replace HB:=Ya (Yk bl hb);have Vy:=Ya (by rw[hg];exact Nat.ne_of_lt (blk_lt (bk Xz)):Ud≠Vp);have Vz:=Ya (by rw[hg];exact Nat.ne_of_gt (blk_lt (bk Xz)):Vp≠Ud);replace Xz:=Ya (Yn (bk Xz) hb);clear hb Zf hg;have hnb9:=Vz.out;have hnc9:=Vy.out;have Va:w8.cell? ⟨Vp,0,none⟩=some (.int .i64 Wl):=bc Vq 0;have Vb:w8.cell? ⟨Vp,1,none⟩=some (.bool true):=bc Vq 1;have Vc:=Yf Vq.out 0;have Vd:=Yf Vq.out 1;have p304:0≤(Wl:Int):=od;have q304:Wl<(l1.length:Int):=od;obtain⟨ad304,e304,hx304_0⟩:=Kd.at_int HR1.out Wl p304 q304;cases e304;replace hx304_0:=hc HB hx304_0;replace p304:=eq_true p304;replace q304:=eq_true q304));repeat(go_quiet (first|(refine bx 3 24 #[.int .i64 Zc, .bool Zb, .slice Ze Za.length Zd] ?_;intro Ud hg w7 Zf hb;have Xz:=Ya (Zf);have GW302:=Ya ((sz hg));have GE302:=Ya ((sz hg));replace HB:=Ya (Yk bl hb);clear hb Zf hg)|(refine bx 5 79 #[.int .i64 Wl, .bool true] ?_;intro Vp hg w8 Zf hb;have Vq:=Ya (Zf);have GW303:=Ya ((sz hg));have GE303:=Ya ((sz hg));replace HB:=Ya (Yk bl hb);have Vy:=Ya (by rw[hg];exact Nat.ne_of_lt (blk_lt (bk Xz)):Ud≠Vp);have Vz:=Ya (by rw[hg];exact Nat.ne_of_gt (blk_lt (bk Xz)):Vp≠Ud);replace Xz:=Ya (Yn (bk Xz) hb);clear hb Zf hg;have hnb9:=Vz.out;have hnc9:=Vy.out;have Va:w8.cell? ⟨Vp,0,none⟩=some (.int .i64 Wl):=bc Vq 0;have Vb:w8.cell? ⟨Vp,1,none⟩=some (.bool true):=bc Vq 1;have Vc:=Yf Vq.out 0;have Vd:=Yf Vq.out 1;have p304:0≤(Wl:Int):=od;have q304:Wl<(l1.length:Int):=od;obtain⟨ad304,e304,hx304_0⟩:=Kd.at_int HR1.out Wl p304 q304;cases e304;replace hx304_0:=hc HB hx304_0;replace p304:=eq_true p304;replace q304:=eq_true q304));try go_wp2_with (first|(refine bx 3 24 #[.int .i64 Zc, .bool Zb, .slice Ze Za.length Zd] ?_;intro Ud hg w7 Zf hb;have Xz:=Ya (Zf);have GW302:=Ya ((sz hg));have GE302:=Ya ((sz hg));replace HB:=Ya (Yk bl hb);clear hb Zf hg)|(refine bx 5 79 #[.int .i64 Wl, .bool true] ?_;intro Vp hg w8 Zf hb;have Vq:=Ya (Zf);have GW303:=Ya ((sz hg));have GE303:=Ya ((sz hg));replace HB:=Ya (Yk bl hb);have Vy:=Ya (by rw[hg];exact Nat.ne_of_lt (blk_lt (bk Xz)):Ud≠Vp);have Vz:=Ya (by rw[hg];exact Nat.ne_of_gt (blk_lt (bk Xz)):Vp≠Ud);replace Xz:=Ya (Yn (bk Xz) hb);clear hb Zf hg;have hnb9:=Vz.out;have hnc9:=Vy.out;have Va:w8.cell? ⟨Vp,0,none⟩=some (.int .i64 Wl):=bc Vq 0;have Vb:w8.cell? ⟨Vp,1,none⟩=some (.bool true):=bc Vq 1;have Vc:=Yf Vq.out 0;have Vd:=Yf Vq.out 1;have p304:0≤(Wl:Int):=od;have q304:Wl<(l1.length:Int):=od;obtain⟨ad304,e304,hx304_0⟩:=Kd.at_int HR1.out Wl p304 q304;cases e304;replace hx304_0:=hc HB hx304_0;replace p304:=eq_true p304;replace q304:=eq_true q304)))
  go_ret;exact⟨by first|rfl|(simp[errW_none,errW_some]<;>rfl)|(simp[*,errW_none,errW_some]<;>rfl),HB.out⟩
 replace c4:=Bool.eq_false_iff.mpr c4;subst c4;rw[Yy (show ¬ (false=true) by decide)] at H;by_cases c11:0≤Wl
 rotate_left
 ·rw[Yy c11] at H
  exact absurd H (by simp)
 rw[Yx c11] at H;have c11b0:decide (0≤Wl)=true:=Yv c11;clear c11;by_cases c12:Wl<(Za.length:Int)
 rotate_left
 ·rw[Yy c12] at H
  exact absurd H (by simp)
 rw[Yx c12] at H;have c12b0:decide (Wl<(Za.length:Int))=true:=Yv c12;clear c12;by_cases c13:Wl<(l1.length:Int)
 rotate_left
 ·rw[Yy c13] at H
  exact absurd H (by simp)
 rw[Yx c13] at H;have c13b0:decide (Wl<(l1.length:Int))=true:=Yv c13;clear c13;obtain rfl:=Option.some.inj H;go_enter Try.func79,Try.ntmps79;go_wp2_with (first|(refine bx 3 24 #[.int .i64 Zc, .bool Zb, .slice Ze Za.length Zd] ?_;intro Ud hg w14 Zf hb;have Xz:=Ya (Zf);have GW302:=Ya ((sz hg));have GE302:=Ya ((sz hg));replace HB:=Ya (Yk bl hb);clear hb Zf hg)|(refine bx 5 79 #[.int .i64 Wl, .bool false] ?_;intro Vp hg w15 Zf hb;have Vq:=Ya (Zf);have GW303:=Ya ((sz hg));have GE303:=Ya ((sz hg));replace HB:=Ya (Yk bl hb);have Vy:=Ya (by rw[hg];exact Nat.ne_of_lt (blk_lt (bk Xz)):Ud≠Vp);have Vz:=Ya (by rw[hg];exact Nat.ne_of_gt (blk_lt (bk Xz)):Vp≠Ud);replace Xz:=Ya (Yn (bk Xz) hb);clear hb Zf hg;have hnb16:=Vz.out;have hnc16:=Vy.out;have Ww:w15.cell? ⟨Vp,0,none⟩=some (.int .i64 Wl):=bc Vq 0;have Wx:w15.cell? ⟨Vp,1,none⟩=some (.bool false):=bc Vq 1;have Wy:=Yf Vq.out 0;have Wz:=Yf Vq.out 1;have hcz18_0:w15.cell? ⟨Ud,0,none⟩=some (.int .i64 Zc):=bc Xz 0;have hcz18_1:w15.cell? ⟨Ud,1,none⟩=some (.bool Zb):=bc Xz 1;have hcz18_2:w15.cell? ⟨Ud,2,none⟩=some (.slice Ze Za.length Zd):=bc Xz 2;have hfz18_0:=Yf Xz.out 0;have hfz18_1:=Yf Xz.out 1;have hfz18_2:=Yf Xz.out 2;have p305:0≤(Wl:Int):=od;have q305:Wl<(Za.length:Int):=od;obtain⟨ad305,e305,hx305_0,hx305_1,hx305_2,hx305_3⟩:=at_T50 Zj.out Wl p305 q305;cases e305;replace hx305_0:=hc HB hx305_0;replace hx305_1:=hc HB hx305_1;replace hx305_2:=hc HB hx305_2;replace hx305_3:=hc HB hx305_3;replace p305:=eq_true p305;replace q305:=eq_true q305;have p306:0≤(Wl:Int):=od;have q306:Wl<(l1.length:Int):=od;obtain⟨ad306,e306,hx306_0⟩:=Kd.at_int HR1.out Wl p306 q306;cases e306;replace hx306_0:=hc HB hx306_0;replace p306:=eq_true p306;replace q306:=eq_true q306));repeat(go_quiet (first|(refine bx 3 24 #[.int .i64 Zc, .bool Zb, .slice Ze Za.length Zd] ?_;intro Ud hg w14 Zf hb;have Xz:=Ya (Zf);have GW302:=Ya ((sz hg));have GE302:=Ya ((sz hg));replace HB:=Ya (Yk bl hb);clear hb Zf hg)|(refine bx 5 79 #[.int .i64 Wl, .bool false] ?_;intro Vp hg w15 Zf hb;have Vq:=Ya (Zf);have GW303:=Ya ((sz hg));have GE303:=Ya ((sz hg));replace HB:=Ya (Yk bl hb);have Vy:=Ya (by rw[hg];exact Nat.ne_of_lt (blk_lt (bk Xz)):Ud≠Vp);have Vz:=Ya (by rw[hg];exact Nat.ne_of_gt (blk_lt (bk Xz)):Vp≠Ud);replace Xz:=Ya (Yn (bk Xz) hb);clear hb Zf hg;have hnb16:=Vz.out;have hnc16:=Vy.out;have Ww:w15.cell? ⟨Vp,0,none⟩=some (.int .i64 Wl):=bc Vq 0;have Wx:w15.cell? ⟨Vp,1,none⟩=some (.bool false):=bc Vq 1;have Wy:=Yf Vq.out 0;have Wz:=Yf Vq.out 1;have hcz18_0:w15.cell? ⟨Ud,0,none⟩=some (.int .i64 Zc):=bc Xz 0;have hcz18_1:w15.cell? ⟨Ud,1,none⟩=some (.bool Zb):=bc Xz 1;have hcz18_2:w15.cell? ⟨Ud,2,none⟩=some (.slice Ze Za.length Zd):=bc Xz 2;have hfz18_0:=Yf Xz.out 0;have hfz18_1:=Yf Xz.out 1;have hfz18_2:=Yf Xz.out 2;have p305:0≤(Wl:Int):=od;have q305:Wl<(Za.length:Int):=od;obtain⟨ad305,e305,hx305_0,hx305_1,hx305_2,hx305_3⟩:=at_T50 Zj.out Wl p305 q305;cases e305;replace hx305_0:=hc HB hx305_0;replace hx305_1:=hc HB hx305_1;replace hx305_2:=hc HB hx305_2;replace hx305_3:=hc HB hx305_3;replace p305:=eq_true p305;replace q305:=eq_true q305;have p306:0≤(Wl:Int):=od;have q306:Wl<(l1.length:Int):=od;obtain⟨ad306,e306,hx306_0⟩:=Kd.at_int HR1.out Wl p306 q306;cases e306;replace hx306_0:=hc HB hx306_0;replace p306:=eq_true p306;replace q306:=eq_true q306));try go_wp2_with (first|(refine bx 3 24 #[.int .i64 Zc, .bool Zb, .slice Ze Za.length Zd] ?_;intro Ud hg w14 Zf hb;have Xz:=Ya (Zf);have GW302:=Ya ((sz hg));have GE302:=Ya ((sz hg));replace HB:=Ya (Yk bl hb);clear hb Zf hg)|(refine bx 5 79 #[.int .i64 Wl, .bool false] ?_;intro Vp hg w15 Zf hb;have Vq:=Ya (Zf);have GW303:=Ya ((sz hg));have GE303:=Ya ((sz hg));replace HB:=Ya (Yk bl hb);have Vy:=Ya (by rw[hg];exact Nat.ne_of_lt (blk_lt (bk Xz)):Ud≠Vp);have Vz:=Ya (by rw[hg];exact Nat.ne_of_gt (blk_lt (bk Xz)):Vp≠Ud);replace Xz:=Ya (Yn (bk Xz) hb);clear hb Zf hg;have hnb16:=Vz.out;have hnc16:=Vy.out;have Ww:w15.cell? ⟨Vp,0,none⟩=some (.int .i64 Wl):=bc Vq 0;have Wx:w15.cell? ⟨Vp,1,none⟩=some (.bool false):=bc Vq 1;have Wy:=Yf Vq.out 0;have Wz:=Yf Vq.out 1;have hcz18_0:w15.cell? ⟨Ud,0,none⟩=some (.int .i64 Zc):=bc Xz 0;have hcz18_1:w15.cell? ⟨Ud,1,none⟩=some (.bool Zb):=bc Xz 1;have hcz18_2:w15.cell? ⟨Ud,2,none⟩=some (.slice Ze Za.length Zd):=bc Xz 2;have hfz18_0:=Yf Xz.out 0;have hfz18_1:=Yf Xz.out 1;have hfz18_2:=Yf Xz.out 2;have p305:0≤(Wl:Int):=od;have q305:Wl<(Za.length:Int):=od;obtain⟨ad305,e305,hx305_0,hx305_1,hx305_2,hx305_3⟩:=at_T50 Zj.out Wl p305 q305;cases e305;replace hx305_0:=hc HB hx305_0;replace hx305_1:=hc HB hx305_1;replace hx305_2:=hc HB hx305_2;replace hx305_3:=hc HB hx305_3;replace p305:=eq_true p305;replace q305:=eq_true q305;have p306:0≤(Wl:Int):=od;have q306:Wl<(l1.length:Int):=od;obtain⟨ad306,e306,hx306_0⟩:=Kd.at_int HR1.out Wl p306 q306;cases e306;replace hx306_0:=hc HB hx306_0;replace p306:=eq_true p306;replace q306:=eq_true q306)))
 go_ret;exact⟨by first|rfl|(simp[errW_none,errW_some]<;>rfl)|(simp[*,errW_none,errW_some]<;>rfl),bl⟩
end P
namespace P
attribute [local go_sem] max2_int min2_int max_two min_two max_three min_three max_four min_four
def ebbtideref08_Bottle.l0:Nat→List Int→List (S79)→Int→Int→Int→Bool→List (S50)→Option (Int)
 |0,_,_,_,_,_,_,_=>none
 |k+1,x1,x2,x7,x8,x308000,x308001,x308002=>if x8<(x2.length:Int) then(if 0≤x8 then((ebbtideref07_Left.f x308000 x308001 x308002 x1 ((rd_T79 x2 x8).f0) ((rd_T79 x2 x8).f1)).bind fun t311=>(ebbtideref08_Bottle.l0 k x1 x2 (mn x7 t311) (wrap64 (x8+1)) x308000 x308001 x308002)) else(none)) else(some x7)
def ebbtideref08_Bottle.f (k:Nat) (Zc:Int) (Zb:Bool) (Za:List (S50)) (l1:List Int) (l2:List (S79)):Option (Int):=if 0<(l2.length:Int) then((ebbtideref07_Left.f Zc Zb Za l1 ((rd_T79 l2 0).f0) ((rd_T79 l2 0).f1)).bind fun t309=>(ebbtideref08_Bottle.l0 k l1 l2 t309 1 Zc Zb Za)) else(none)
def ebbtideref08_Bottle.T5:Bool × List (List Nat × List Nat):=(true,[([],[]),([],[]),([],[]),([],[]),([],[]),([3,4],[3,4]),([5],[5]),([1,2,6],[1,2,6]),([0,7],[0,7]),([8,7,0,1,2,3,4,5,6,7,8],[0,8])])
def ebbtideref08_Bottle.B5:List Nat:=[0,0,0,0,0,24,56,126,255,511]
theorem ebbtideref08_Bottle.tab5:rtab .any (opsOf Try.f60 5)=ebbtideref08_Bottle.T5:=by kernel_rfl
theorem ebbtideref08_Bottle.bits5:waitsOk ebbtideref08_Bottle.T5.2 ebbtideref08_Bottle.B5=true:=by kernel_rfl
set_option maxHeartbeats 8000000 in
set_option maxRecDepth 100000 in
theorem ebbtideref08_Bottle.calls (k:Nat) (Zc:Int) (Zb:Bool) (Ze:Option Addr) (Zd:Nat) (Za:List (S50)) (A1:Option Addr) (c1:Nat) (l1:List Int) (A2:Option Addr) (c2:Nat) (l2:List (S79)) (r:Int) (w:World) (Zp:Kd.C k50 w Ze Za.length Za) (Zq:Za.length≤Zd) (hr1:Kd.C (Kd.int .i64) w A1 l1.length l1) (hc1:l1.length≤c1) (hr2:Kd.C k79 w A2 l2.length l2) (hc2:l2.length≤c2) (h:ebbtideref08_Bottle.f k Zc Zb Za l1 l2=some r):
  Calls Try.prog 60 #[.agg #[.int .i64 Zc, .bool Zb, .slice Ze Za.length Zd], .slice A1 l1.length c1, .slice A2 l2.length c2] w fun e w'=>e= .returned (.int .i64 r)∧Below w.heap.size w w':=by
 have hu24:=Try.underlying24;have hu79:=Try.underlying79;have Zj:=Ya Zp;have Zs:=Ya Zq;clear Zp Zq;have HR1:=Ya hr1;have HC1:=Ya hc1;clear hr1 hc1;have HR2:=Ya hr2;have HC2:=Ya hc2;clear hr2 hc2;have HB:=Ya (Yo w.heap.size w);have H:=h;unfold ebbtideref08_Bottle.f at H;clear h;by_cases c4:0<(l2.length:Int)
 rotate_left
 ·rw[Yy c4] at H
  exact absurd H (by simp)
 rw[Yx c4] at H;have c4b0:decide (0<(l2.length:Int))=true:=Yv c4;have c4b1:decide (0<l2.length)=true:=Yv (by omega);clear c4;replace H:=Option.bind_eq_some_iff.mp H;obtain⟨t309,A50,H⟩:=H;try dsimp only at H
 have A5:=Ya A50;clear A50;have H':=Ya H;clear H;go_enter Try.func60,Try.ntmps60;try go_wp2_with (first|(refine bx 3 24 #[.int .i64 Zc, .bool Zb, .slice Ze Za.length Zd] ?_;intro gb307 hg w6 Zf hb;have Uh:=Ya (Zf);have GW307:=Ya ((sz hg));have GE307:=Ya ((sz hg));replace HB:=Ya (Yk bl hb);clear hb Zf hg))
 replace Uh:=Ya (Ym Uh.out);replace HB:=Ya (Yg HB.out);have p308:0≤(0:Int):=(by omega);have q308:0<(l2.length:Int):=od;obtain⟨ad308,e308,hx308_0,hx308_1⟩:=at_T79 HR2.out 0 p308 q308;have hw308_1:=hx308_1
 (try rw[show ((0:Int)).toNat=0 from rfl] at hw308_1)
 (try rw[show 0 * 2=0 from rfl] at hw308_1)
 (try rw[Addr.add_zero'] at hw308_1)
 have hw308_0:=hx308_0
 (try rw[show ((0:Int)).toNat=0 from rfl] at hw308_0)
 (try rw[show 0 * 2=0 from rfl] at hw308_0)
 (try rw[Addr.add_zero'] at hw308_0)
 cases e308;have qi308:(0<l2.length)=True:=eq_true (by omega)
 (try rw[show ((0:Int)).toNat=0 from rfl] at hx308_0)
 (try rw[show 0 * 2=0 from rfl] at hx308_0)
 (try rw[Addr.add_zero'] at hx308_0)
 (try rw[show ((0:Int)).toNat=0 from rfl] at hx308_1)
 (try rw[show 0 * 2=0 from rfl] at hx308_1)
 (try rw[Addr.add_zero'] at hx308_1)
 replace hx308_0:=hc HB hx308_0;replace hx308_1:=hc HB hx308_1;replace p308:=eq_true p308;replace q308:=eq_true q308;refine start_ (n:=7) (S:=fun w'=>w'.cell? ⟨gb307,0,none⟩=some (.int .i64 Zc)∧w'.cell? ⟨gb307,1,none⟩=some (.bool Zb)∧w'.cell? ⟨gb307,2,none⟩=some (.slice Ze Za.length Zd)∧w'.cell? ad308=some (.int .i64 ((rd_T79 l2 0).f0))∧w'.cell? ⟨ad308.block,ad308.off+1,none⟩=some (.bool ((rd_T79 l2 0).f1))) (ds:=[]) #[false,false,false,false,false,false,false] (by kernel_rfl) rfl rfl ⟨(Yc Uh.out 0).trans rfl,(Yc Uh.out 1).trans rfl,(Yc Uh.out 2).trans rfl,((HB.out.cell (Yb w _ hw308_0)).trans hw308_0),((HB.out.cell (Yb w _ hw308_1)).trans hw308_1)⟩ (fun hHeld=> ?_);generalize w6.drew=w7 at Uh HB hx308_0 hx308_1 hHeld ⊢;refine pure_ (i:=1) (N:=some 10) (v:= ?_) (a':= ?_) #[false,true,false,false,false,false,false] rfl rfl (by kernel_rfl) (fun _ _ _ h=>h) (Or.inl ⟨by rfl,?_⟩) ?_ ?_
 rotate_left
 ·intro w'
  go_simp
  with_reducible rfl
 rotate_left
 ·simp only[Act.put,List.setIfInBounds_toArray,List.set_cons_zero,List.set_cons_succ,i64_w,i32_w]
  rfl
 refine pure_ (i:=2) (N:=some 11) (v:= ?_) (a':= ?_) #[false,true,true,false,false,false,false] rfl rfl (by kernel_rfl) (fun _ _ _ h=>h) (Or.inl ⟨by rfl,?_⟩) ?_ ?_
 rotate_left
 ·intro w'
  go_simp
  with_reducible rfl
 rotate_left
 ·simp only[Act.put,List.setIfInBounds_toArray,List.set_cons_zero,List.set_cons_succ,i64_w,i32_w]
  rfl
 refine pure_ (i:=3) (N:=some 12) (v:= ?_) (a':= ?_) #[false,true,true,true,false,false,false] rfl rfl (by kernel_rfl) (fun _ _ _ h=>h) (Or.inl ⟨by rfl,?_⟩) ?_ ?_
 rotate_left
 ·intro w'
  go_simp
  with_reducible rfl
 rotate_left
 ·simp only[Act.put,List.setIfInBounds_toArray,List.set_cons_zero,List.set_cons_succ,i64_w,i32_w]
  rfl
 refine take_ (i:=0) (N:=some 9) (v:= ?_) (a':= ?_) #[true,true,true,true,false,false,false] rfl rfl (by kernel_rfl) (fun _ _ _ h=>h) (Or.inl ⟨by rfl,?_⟩) hHeld ?_ ?_
 rotate_left
 ·rintro w' ⟨s0,s1,s2,s3,s4⟩
  go_simp
  with_reducible rfl
 rotate_left
 ·simp only[Act.put,List.setIfInBounds_toArray,List.set_cons_zero,List.set_cons_succ,i64_w,i32_w]
  rfl
 refine take_ (i:=4) (N:=some 13) (v:= ?_) (a':= ?_) #[true,true,true,true,true,false,false] rfl rfl (by kernel_rfl) (fun _ _ _ h=>h) (Or.inl ⟨by rfl,?_⟩) hHeld ?_ ?_
 rotate_left
 ·rintro w' ⟨s0,s1,s2,s3,s4⟩
  go_simp
  with_reducible rfl
 rotate_left
 ·simp only[Act.put,List.setIfInBounds_toArray,List.set_cons_zero,List.set_cons_succ,i64_w,i32_w]
  rfl
 refine one_ (i:=5) (N:=some 14) #[true,true,true,true,true,true,false] rfl rfl (by kernel_rfl) (by decide) (fun K hK=> ?_);refine gs Try.func79 #[.agg #[.int .i64 Zc, .bool Zb, .slice Ze Za.length Zd], .slice A1 l1.length c1, .agg #[.int .i64 ((rd_T79 l2 0).f0), .bool ((rd_T79 l2 0).f1)]] ?_
 with_reducible refine(ebbtideref07_Left.calls Zc Zb _ _ Za _ _ l1 ((rd_T79 l2 0).f0) ((rd_T79 l2 0).f1) t309 _ ?side1 ?side2 ?side3 ?side4 A5.out).mono ?_
 (case side1=>exact(Yt Zj.out HB.out))
 (case side2=>exact Zs.out)
 (case side3=>exact(Yt HR1.out HB.out))
 (case side4=>exact HC1.out)
 rintro e w8 ⟨rfl,hb⟩;refine⟨_,rfl,?_⟩;replace Uh:=Ya (Yn Uh.out hb);replace HB:=Ya (Yk HB.out hb)
 (try clear hb)
 (try clear hb2)
 (try clear hk)
 (try clear hi)
 refine hK.out _ _ ⟨bc Uh 0,bc Uh 1,bc Uh 2,(hc HB hw308_0),(hc HB hw308_1)⟩ (fun hHeld=> ?_);clear hK K;refine nm ?_;refine pure_ (i:=6) (N:=some 7) (v:= ?_) (a':= ?_) #[true,true,true,true,true,true,true] rfl rfl (by kernel_rfl) (fun _ _ _ h=>h) (Or.inl ⟨by rfl,?_⟩) ?_ ?_
 rotate_left
 ·intro w'
  go_simp
  with_reducible rfl
 rotate_left
 ·simp only[Act.put,List.setIfInBounds_toArray,List.set_cons_zero,List.set_cons_succ,i64_w,i32_w]
  rfl
 refine done_ (by kernel_rfl) ?_;try go_wp2
 go_loopg [7,8] k (fun kq v7 v8 w'=> ∃ (Xc:Int) (Zi:Int),v7= .int .i64 Xc∧v8= .int .i64 Zi∧Aside0 (ebbtideref08_Bottle.l0 kq l1 l2 Xc Zi Zc Zb Za=some r)∧Aside0 (kq≤k)∧Aside0 (w'.heap[gb307]? =some (.cells #[.int .i64 Zc, .bool Zb,(.slice Ze Za.length Zd)] 24 (0,0)))∧Aside0 (Below w.heap.size w w'))
 case atStart=>exact⟨(t309),(1),(by first|rfl|(simp;done)|(simp[*];done)),(by first|rfl|(simp;done)|(simp[*];done)),H',⟨Nat.le_refl _⟩,⟨Uh.out⟩,⟨HB.out⟩⟩
 case round=>
  clear H';try clear c1
  try clear c2
  try clear c4
  try clear c4b0
  try clear c4b1
  try clear hx308_0
  try clear hx308_1
  try clear p308
  try clear q308
  obtain⟨Xc,Zi,rfl,rfl,HA,HK1,Uh,HB⟩:=hrel;cases gk with
  |zero=>exact absurd HA.out (by simp[ebbtideref08_Bottle.l0])
  |succ k1=>
   have H:=HA.out;clear HA;simp only[ebbtideref08_Bottle.l0] at H;by_cases c9:Zi<(l2.length:Int)
   rotate_left
   ·rw[Yy c9] at H
    have c9b0:decide (Zi<(l2.length:Int))=false:=Yw c9;clear c9;obtain rfl:=Option.some.inj H;go_wp2;go_ret;exact⟨by first|rfl|(simp[errW_none,errW_some]<;>rfl)|(simp[*,errW_none,errW_some]<;>rfl),HB.out⟩
   rw[Yx c9] at H;have c9b0:decide (Zi<(l2.length:Int))=true:=Yv c9;clear c9;by_cases c10:0≤Zi
   rotate_left
   ·rw[Yy c10] at H
    exact absurd H (by simp)
   rw[Yx c10] at H;have c10b0:decide (0≤Zi)=true:=Yv c10;clear c10;replace H:=Option.bind_eq_some_iff.mp H;obtain⟨t311,A110,H⟩:=H;try dsimp only at H
   have A11:=Ya A110;clear A110;obtain⟨ji12,hji12⟩: ∃ j_:Int,(mn Xc t311)=j_:=⟨_,rfl⟩;replace H:(ebbtideref08_Bottle.l0 k1 l1 l2 ji12 (wrap64 (Zi+1)) Zc Zb Za)=some r:=by first|(rw[hji12] at H;exact H)|(simp only[hji12] at H ⊢;exact H)
   (try rw[hji12] at A11)
   have hji12_:(if t311<Xc then t311 else Xc)=ji12:=hji12;have H':=Ya H;clear H;try go_wp2
   replace Uh:=Ya (Ym Uh.out);replace HB:=Ya (Yg HB.out);have p310:0≤(Zi:Int):=od;have q310:Zi<(l2.length:Int):=od;obtain⟨ad310,e310,hx310_0,hx310_1⟩:=at_T79 HR2.out Zi p310 q310;have hw310_1:=hx310_1;have hw310_0:=hx310_0;obtain rfl:ad308=ad310:=(by injection e310);replace hx310_0:=hc HB hx310_0;replace hx310_1:=hc HB hx310_1;replace p310:=eq_true p310;replace q310:=eq_true q310;refine start_ (n:=10) (S:=fun w'=>w'.cell? ⟨gb307,0,none⟩=some (.int .i64 Zc)∧w'.cell? ⟨gb307,1,none⟩=some (.bool Zb)∧w'.cell? ⟨gb307,2,none⟩=some (.slice Ze Za.length Zd)∧w'.cell? (ad308.add ((Zi).toNat * 2))=some (.int .i64 ((rd_T79 l2 Zi).f0))∧w'.cell? ⟨(ad308.add ((Zi).toNat * 2)).block,(ad308.add ((Zi).toNat * 2)).off+1,none⟩=some (.bool ((rd_T79 l2 Zi).f1))) (ds:=[]) #[false,false,false,false,false,false,false,false,false,false] (by kernel_rfl) rfl rfl ⟨(Yc Uh.out 0).trans rfl,(Yc Uh.out 1).trans rfl,(Yc Uh.out 2).trans rfl,((HB.out.cell (Yb w _ hw310_0)).trans hw310_0),((HB.out.cell (Yb w _ hw310_1)).trans hw310_1)⟩ (fun hHeld=> ?_);refine with_tabW ebbtideref08_Bottle.tab5 ebbtideref08_Bottle.bits5 (fun HT_ HW_=> ?_);generalize wr.drew=w13 at Uh HB hx310_0 hx310_1 hHeld ⊢;refine pu 0 21 (bm 10 1) ?_;refine pu 2 23 (bm 10 5) ?_;refine pu 3 24 (bm 10 13) ?_;refine pu 4 25 (bm 10 29) ?_;refine pu 5 26 (bm 10 61) ?_;refine ta 1 22 (bm 10 63) hHeld ?_;refine ta 6 27 (bm 10 127) hHeld ?_;refine on 7 (some 28) (bm 10 255) fun K hK=> ?_
   refine gs Try.func79 #[.agg #[.int .i64 Zc, .bool Zb, .slice Ze Za.length Zd], .slice A1 l1.length c1, .agg #[.int .i64 ((rd_T79 l2 Zi).f0), .bool ((rd_T79 l2 Zi).f1)]] ?_
   with_reducible refine(ebbtideref07_Left.calls Zc Zb _ _ Za _ _ l1 ((rd_T79 l2 Zi).f0) ((rd_T79 l2 Zi).f1) t311 _ ?side1 ?side2 ?side3 ?side4 A11.out).mono ?_
   (case side1=>exact(Yt Zj.out HB.out))
   (case side2=>exact Zs.out)
   (case side3=>exact(Yt HR1.out HB.out))
   (case side4=>exact HC1.out)
   rintro e w14 ⟨rfl,hb⟩;refine⟨_,rfl,?_⟩;replace Uh:=Ya (Yn Uh.out hb);replace HB:=Ya (Yk HB.out hb)
   (try clear hb)
   (try clear hb2)
   (try clear hk)
   (try clear hi)
   refine hK.out _ _ ⟨bc Uh 0,bc Uh 1,bc Uh 2,(hc HB hw310_0),(hc HB hw310_1)⟩ (fun hHeld=> ?_);clear hK K;refine nm ?_;refine pu 8 29 (bm 10 511) ?_;refine pu 9 7 (bm 10 1023) ?_;refine done_ (done_of HT_.out (by kernel_rfl)) ?_;try go_wp2
   go_roundg k1
   case measure=>have:=HK1.out;omega
   case rel=>exact⟨(ji12),(wrap64 (Zi+1)),(by first|rfl|(simp;done)|(simp only[← hji12]<;>(first|rfl|simp))|(simp[*];done)),(by first|rfl|(simp;done)|(simp[*];done)),H',⟨by have:=HK1.out;omega⟩,⟨Uh.out⟩,⟨HB.out⟩⟩
end P
namespace Q
open P
open H (stRoom)
theorem rdStep_nat (l:List S79) (i:Nat):rd_T79 l (i:Int)=l.getD i z79:=by unfold rd_T79;rw[Int.toNat_natCast]
end Q
namespace Q
open P
open H (endsErr Right right_of StepOf stRoom IsFlow leastR pushW stRoom_in)
theorem endsE_ok {n:Int} {l:List S50} {s t:Int} (h:endsErr n l s t=0):NetOk n l∧0≤s∧s<n∧0≤t∧t<n∧s≠t:=by
 unfold endsErr at h;by_cases hn:netErr n l=0
 ·rw[Yx hn] at h
  split at h
  ·rename_i he
   exact⟨netErr_ok hn,he⟩
  ·cases h
 ·rw[Yy hn] at h;exact absurd h hn
theorem endsE_of {n:Int} {l:List S50} {s t:Int} (hn:NetOk n l) (h:0≤s∧s<n∧0≤t∧t<n∧s≠t):endsErr n l s t=0:=by
 unfold endsErr;rw[Yx (netOk_err hn),Yx h]
def evenB (s t:Int):List Int→Int→Bool
 |[],_=>true
 |x::l,i=>if i=s then evenB s t l (i+1) else if i=t then evenB s t l (i+1) else if x=0 then evenB s t l (i+1) else false
def valRes (n:Int) (l:List S50) (s t:Int) (f:List Int):Int × Int:=
 if endsErr n l s t=0 then(if askErr n l f=0 then(if evenB s t (balOf n l f) 0=true then(bal l f s,0) else(0,71)) else(0,askErr n l f)) else(0,endsErr n l s t)
theorem evenB_iff (s t:Int) (X:List Int): ∀ i:Int,evenB s t X i=true↔ ∀ j:Nat,j<X.length→i+j≠s→i+j≠t→X.getD j 0=0:=by
 induction X with
 |nil=>intro i;simp[evenB]
 |cons x X ih=>
  intro i;have key:evenB s t X (i+1)=true↔ ∀ j:Nat,j+1<(x::X).length→i+(j+1:Nat)≠s→i+(j+1:Nat)≠t→(x::X).getD (j+1) 0=0:=by
   rw[ih (i+1)];constructor
   ·intro h j h1 h2 h3
    rw[List.getD_cons_succ];exact h j (by simpa using h1) (by omega) (by omega)
   ·intro h j h1 h2 h3
    have:=h j (by simpa using h1) (by omega) (by omega)
    rwa [List.getD_cons_succ] at this
  have all:(i≠s→i≠t→x=0)→(evenB s t X (i+1)=true↔ ∀ j:Nat,j<(x::X).length→i+j≠s→i+j≠t→(x::X).getD j 0=0):=by
   intro hx;rw[key];constructor
   ·intro h j h1 h2 h3
    cases j with
    |zero=>exact hx (by simpa using h2) (by simpa using h3)
    |succ j=>exact h j h1 h2 h3
   ·intro h j h1 h2 h3
    exact h (j+1) h1 h2 h3
  unfold evenB;by_cases h1:i=s
  ·rw[Yx h1];exact all (fun h=>absurd h1 h)
  rw[Yy h1];by_cases h2:i=t
  ·rw[Yx h2];exact all (fun _ h=>absurd h2 h)
  rw[Yy h2];by_cases h3:x=0
  ·rw[Yx h3];exact all (fun _ _=>h3)
  ·rw[Yy h3]
   constructor
   ·intro h;cases h
   ·intro h
    exact absurd (h 0 (by simp) (by simpa using h1) (by simpa using h2)) h3
theorem ref_check2_l0 (n:Int) (p:Bool) (l:List S50) (s t:Int) (b:List Int) (hb:b.length≤50) (hbn:n=b.length) (hs:0≤s) (hsn:s<b.length) (d:Nat): ∀ i:Nat,i+d=b.length→
  Ev (fun k=>ebbtideref07_Check.l0 k s t b (i:Int) n p l) (if evenB s t (b.drop i) i=true then(rd b s,0) else(0,71)):=by
 induction d with
 |zero=>
  intro i hi;refine Ev.succ ?_;simp only[ebbtideref07_Check.l0];refine Ev.neg (by omega) ?_;refine Ev.pos (by omega) ?_;refine Ev.pos (by omega) ?_;rw[List.drop_of_length_le (by omega)];exact Ev.now _
 |succ d ih=>
  intro i hi;refine Ev.succ ?_;simp only[ebbtideref07_Check.l0];refine Ev.pos (by omega) ?_;rw[drop_getD b i 0 (by omega),rd_nat,wrap_succ (n:=b.length) (by omega) (by omega)];unfold evenB;have:=ih (i+1) (by omega);rw[show ((i+1:Nat):Int)=(i:Int)+1 by omega] at this ⊢;refine Ev.ite (fun g1=> ?_) (fun g1=> ?_)
  ·rw[Yx g1];exact this
  rw[Yy g1];refine Ev.ite (fun g2=> ?_) (fun g2=> ?_)
  ·rw[Yx g2];exact this
  rw[Yy g2];refine Ev.pos (by omega) ?_;refine Ev.pos (by omega) ?_;refine Ev.ite (fun g=> ?_) (fun g=> ?_)
  ·rw[Yx g];exact this
  rw[Yy g];exact Ev.now _
theorem ref_value_ev (n:Int) (b:Bool) (l:List S50) (s t:Int) (f:List Int):Ev (fun k=>ebbtideref07_Check.f k n b l s t f) (valRes n l s t f):=by
 unfold ebbtideref07_Check.f valRes;refine Ev.bind (ref_ends_ev n b l s t) ?_;refine Ev.ite (fun h=> ?_) (fun h=> ?_)
 ·rw[Yx h]
  obtain⟨hn,he⟩:=endsE_ok h;have:=hn.lo;have:=hn.hi;refine Ev.bind (ref_balance_ev n b l f) ?_;by_cases g:askErr n l f=0
  ·rw[Yx g,balRes_ok g]
   refine Ev.pos rfl ?_;refine Ev.eq (ref_check2_l0 n b l s t (balOf n l f) (by rw[balOf_len];omega) (by rw[balOf_len];omega) (by omega) (by rw[balOf_len];omega) _ 0 (Nat.zero_add _)) ?_;rw[rd_balOf (by omega) (by omega),List.drop_zero];rfl
  ·rw[Yy g,balRes_no g]
   exact Ev.neg g (Ev.now _)
 ·rw[Yy h]
  exact Ev.now _
theorem flowOk_of {l:List S50} {F:List Int} {n:Nat} (hr:Right l F n):FlowOk l F:=by
 refine⟨hr.len,fun i hi=> ?_⟩;have:=hr.nums i (by rw[← hr.len];exact hi);rw[rd_nat];exact⟨this.2.2.1,this.2.2.2.1⟩
theorem even_flow {n:Nat} {l:List S50} {F:List Int} {s t:Int} (hr:Right l F n):evenB s t (balOf n l F) 0=true↔IsFlow l F n s t:=by
 rw[evenB_iff];have hlen:=balOf_len (n:Int) l F;rw[Int.toNat_natCast] at hlen;have hg: ∀ v:Nat,v<n→(balOf n l F).getD v 0=bal l F v:=fun v hv=>by
  have h_:=rd_balOf (n:=(n:Int)) (l:=l) (f:=F) (v:=(v:Int)) (by omega) (by omega);rw[rd_nat] at h_;exact h_
 constructor
 ·intro h
  refine⟨hr,fun v h0 h1 h2 h3=> ?_⟩;obtain⟨v,rfl⟩: ∃ v':Nat,v=v':=⟨v.toNat,by omega⟩;rw[← hg v (by omega)];exact h v (by omega) (by omega) (by omega)
 ·intro h v hv h2 h3
  rw[hg v (by omega)];exact h.keeps v (by omega) (by omega) (by omega) (by omega)
theorem val_flow {n:Nat} {l:List S50} {F:List Int} {s t:Int} (hn:NetOk n l) (he:0≤s∧s<n∧0≤t∧t<n∧s≠t) (hf:IsFlow l F n s t):valRes n l s t F=(bal l F s,0):=by
 unfold valRes;rw[Yx (endsE_of hn he),Yx (ask_of hn (flowOk_of hf.right)),Yx ((even_flow hf.right).2 hf)]
theorem flow_val {n:Int} {l:List S50} {F:List Int} {s t:Int} (h:(valRes n l s t F).2=0):endsErr n l s t=0∧askErr n l F=0∧ ∃ n0:Nat,n=n0∧IsFlow l F n0 s t∧valRes n l s t F=(bal l F s,0):=by
 unfold valRes at h ⊢;by_cases h1:endsErr n l s t=0
 ·rw[Yx h1] at h ⊢
  by_cases h2:askErr n l F=0
  ·rw[Yx h2] at h ⊢
   obtain⟨n0,rfl,hr⟩:=right_of h2;by_cases h3:evenB s t (balOf n0 l F) 0=true
   ·rw[Yx h3]
    exact⟨h1,h2,n0,rfl,(even_flow hr).1 h3,rfl⟩
   ·rw[Yy h3] at h;cases h
  ·rw[Yy h2] at h;exact absurd h h2
 ·rw[Yy h1] at h;exact absurd h h1
section
variable {l:List S50} {F:List Int} {n:Nat}
theorem left_rt (hr:Right l F n) {s:S79} (hs:StepOf l s) (m:Int) (b:Bool):ebbtideref07_Left.f m b l F s.f0 s.f1=some (stRoom l F s):=by
 have h0:=stRoom_in hr hs;have hl:=hr.len;obtain⟨i,h1,h2⟩:=hs;unfold ebbtideref07_Left.f;unfold stRoom at *;by_cases g:s.f1=true
 ·simp only[Yx g] at h0 ⊢
  rw[Yx (by omega),Yx (by omega)];rfl
 ·simp only[Yy g] at h0 ⊢
  rw[Yx (by omega),Yx (by omega),Yx (by omega)];have e:rd F s.f0=F.getD s.f0.toNat 0:=rfl;rw[e,wrap_id (by omega) (by omega)]
def minR (l:List S50) (F:List Int):Int→List S79→Int
 |a,[]=>a
 |a,s::L=>minR l F (min a (stRoom l F s)) L
theorem minR_least (l:List S50) (F:List Int): ∀ (L:List S79) (a:Int),L≠[]→minR l F a L=min a (leastR l F L)
 |[],a,h=>absurd rfl h
 |[s],a,_=>rfl
 |s::t::L,a,_=>by
  show minR l F (min a (stRoom l F s)) (t::L)=_;rw[minR_least l F (t::L) _ (by simp)];show _=min a (min (stRoom l F s) (leastR l F (t::L)));omega
theorem bottle_l0 (hr:Right l F n) (b:Bool) (m:Int) {W:List S79} (hW: ∀ s,s∈W→StepOf l s) (hl:W.length≤1000000) (d:Nat): ∀ (i:Nat) (a:Int),i+d=W.length→
  Ev (fun k=>ebbtideref08_Bottle.l0 k F W a (i:Int) m b l) (minR l F a (W.drop i)):=by
 induction d with
 |zero=>
  intro i a hi;refine Ev.succ ?_;simp only[ebbtideref08_Bottle.l0];refine Ev.neg (by omega) ?_;exact Ev.done (by rw[List.drop_of_length_le (by omega)];rfl)
 |succ d ih=>
  intro i a hi;refine Ev.succ ?_;simp only[ebbtideref08_Bottle.l0];refine Ev.pos (by omega) ?_;refine Ev.pos (by omega) ?_;rw[rdStep_nat];have hm:W.getD i z79∈W:=by rw[List.getD_eq_getElem?_getD,List.getElem?_eq_getElem (by omega)];exact List.getElem_mem _
  refine Ev.call (left_rt hr (hW _ hm) m b) ?_;rw[wrap_succ (n:=W.length) (by omega) (by omega),drop_getD W i z79 (by omega)];have e:mn a (stRoom l F (W.getD i z79))=min a (stRoom l F (W.getD i z79)):=by unfold mn;split<;>omega
  rw[e];exact ih (i+1) _ (by omega)
theorem bottle_ev (hr:Right l F n) (b:Bool) (m:Int) {W:List S79} (hW: ∀ s,s∈W→StepOf l s) (hl:W.length≤1000000) (hne:W≠[]):Ev (fun k=>ebbtideref08_Bottle.f k m b l F W) (leastR l F W):=by
 cases W with
 |nil=>exact absurd rfl hne
 |cons s W=>
  unfold ebbtideref08_Bottle.f;refine Ev.pos (by simp) ?_;have e0:rd_T79 (s::W) 0=s:=rfl;rw[e0];refine Ev.call (left_rt hr (hW s List.mem_cons_self) m b) ?_;refine Ev.eq (bottle_l0 hr b m hW hl W.length 1 (stRoom l F s) (by simp;omega)) ?_;show minR l F (stRoom l F s) W=_;cases W with
  |nil=>rfl
  |cons t W=>
   rw[minR_least l F (t::W) _ (by simp)];rfl
end
end Q
namespace H
open P Q
def splitR (n:Int) (l:List S50) (s t:Int) (f:List Int):List S47 × List S47 × Int:=
 if (valRes n l s t f).2=0 then(if (valRes n l s t f).1<0 then([],[],71) else((chF l n.toNat s.toNat t.toNat 1000 (cycF l n.toNat 1000 0 f).2).1,(cycF l n.toNat 1000 0 f).1,0)) else([],[],(valRes n l s t f).2)
def cleanR (n:Int) (l:List S50) (s t:Int) (f:List Int):List Int × Int:=
 if (splitR n l s t f).2.2=0 then((cycF l n.toNat 1000 0 f).2,0) else([],(splitR n l s t f).2.2)
structure SplitOk (l:List S50) (f:List Int) (n s t:Nat) (ch cy:List S47) (F1 Z:List Int):Prop where
 flow:IsFlow l f n s t
 val:0≤bal l f s
 cyc:Parts l f n (IsCyc l) (cy,F1)
 ac:Acyc l F1
 bal: ∀ v,bal l F1 v=bal l f v
 chn:Parts l F1 n (IsCh l s t) (ch,Z)
 zero: ∀ j:Nat,Z.getD j 0=0
 sum:ch.foldr (fun c x=>c.f1+x) 0=Q.bal l F1 s
theorem split_parts {l:List S50} {f:List Int} {n s t:Nat} (hs:s<n) (ht:t<n) (hst:s≠t) (hf:IsFlow l f n s t) (hv:0≤bal l f s):
  SplitOk l f n s t (chF l n s t 1000 (cycF l n 1000 0 f).2).1 (cycF l n 1000 0 f).1 (cycF l n 1000 0 f).2 (chF l n s t 1000 (cycF l n 1000 0 f).2).2:=by
 have h1:=posN_len f;have h2:=hf.right.len;have h3:=hf.right.arcs;obtain⟨c1,c2,c3⟩:=cycF_parts 1000 (i:=0) hf.right (by omega) (fun j hj=>by omega);have h4:=posN_len (cycF l n 1000 0 f).2;have h5:=c1.right.len;have hf1:IsFlow l (cycF l n 1000 0 f).2 n s t:=⟨c1.right,fun v a b c d=>by rw[c3];exact hf.keeps v a b c d⟩;obtain⟨d1,d2,d3⟩:=chF_parts hs ht hst 1000 hf1 c2 (by rw[c3];exact hv) (by omega);exact⟨hf,hv,c1,c2,c3,d1,d2,d3⟩
theorem split_ok {n:Int} {l:List S50} {s t:Int} {f:List Int} (h:(splitR n l s t f).2.2=0): ∃ n0 s0 t0:Nat,n=n0∧s=s0∧t=t0∧s0<n0∧t0<n0∧s0≠t0∧NetOk n0 l∧IsFlow l f n0 s0 t0∧0≤bal l f s0∧valRes n l s t f=(bal l f s0,0)∧
  splitR n l s t f=((chF l n0 s0 t0 1000 (cycF l n0 1000 0 f).2).1,(cycF l n0 1000 0 f).1,0)∧cleanR n l s t f=((cycF l n0 1000 0 f).2,0):=by
 have hc:cleanR n l s t f=((cycF l n.toNat 1000 0 f).2,0):=by unfold cleanR;rw[Yx h]
 have hS:(valRes n l s t f).2=0∧ ¬ (valRes n l s t f).1<0:=by
  unfold splitR at h;split at h
  ·rename_i h1
   split at h
   ·cases h
   ·rename_i h2;exact⟨h1,h2⟩
  ·rename_i h1;exact absurd h h1
 have hE:splitR n l s t f=((chF l n.toNat s.toNat t.toNat 1000 (cycF l n.toNat 1000 0 f).2).1,(cycF l n.toNat 1000 0 f).1,0):=by
  unfold splitR;rw[Yx hS.1,Yy hS.2]
 obtain⟨g1,g2,n0,rfl,g3,g4⟩:=flow_val hS.1;obtain⟨hn,e1,e2,e3,e4,e5⟩:=endsE_ok g1;obtain⟨s0,rfl⟩: ∃ s0:Nat,s=s0:=⟨s.toNat,by omega⟩;obtain⟨t0,rfl⟩: ∃ t0:Nat,t=t0:=⟨t.toNat,by omega⟩;rw[Int.toNat_natCast] at hc;rw[Int.toNat_natCast,Int.toNat_natCast,Int.toNat_natCast] at hE;have hb:=hS.2;rw[g4] at hb;exact⟨n0,s0,t0,rfl,rfl,rfl,by omega,by omega,by omega,hn,g3,by simpa using hb,g4,hE,hc⟩
theorem split_no {n:Int} {l:List S50} {s t:Int} {f:List Int} (h: ¬ (splitR n l s t f).2.2=0):(splitR n l s t f).1=[]∧(splitR n l s t f).2.1=[]∧(((valRes n l s t f).2≠0∧(splitR n l s t f).2.2=(valRes n l s t f).2)∨((valRes n l s t f).2=0∧(valRes n l s t f).1<0)):=by
 unfold splitR at h ⊢;by_cases h1:(valRes n l s t f).2=0
 ·by_cases h2:(valRes n l s t f).1<0
  ·rw[Yx h1,Yx h2];exact⟨rfl,rfl,Or.inr ⟨h1,h2⟩⟩
  ·rw[Yx h1,Yy h2] at h;exact absurd rfl h
 ·rw[Yy h1];exact⟨rfl,rfl,Or.inl ⟨h1,rfl⟩⟩
end H
namespace P
attribute [local go_sem] max2_int min2_int max_two min_two max_three min_three max_four min_four
def ebbtideref07_Pushed.l0:Nat→List (S79)→Int→List Int→Int→Option (List Int)
 |0,_,_,_,_=>none
 |k+1,x1,x2,x7,x8=>if x8<(x1.length:Int) then(if 0≤x8 then(if (rd_T79 x1 x8).f1=true then(if 0≤((rd_T79 x1 x8).f0) then(if ((rd_T79 x1 x8).f0)<(x7.length:Int) then(ebbtideref07_Pushed.l0 k x1 x2 (x7.set (((rd_T79 x1 x8).f0):Int).toNat (wrap64 ((rd x7 ((rd_T79 x1 x8).f0)) - x2))) (wrap64 (x8+1))) else(none)) else(none)) else(if 0≤((rd_T79 x1 x8).f0) then(if ((rd_T79 x1 x8).f0)<(x7.length:Int) then(ebbtideref07_Pushed.l0 k x1 x2 (x7.set (((rd_T79 x1 x8).f0):Int).toNat (wrap64 ((rd x7 ((rd_T79 x1 x8).f0))+x2))) (wrap64 (x8+1))) else(none)) else(none))) else(none)) else(some x7)
def ebbtideref07_Pushed.f (k:Nat) (l0:List Int) (l1:List (S79)) (a2:Int):Option (List Int):=if ([]:List Int).length+l0.length<17592186044416 then(ebbtideref07_Pushed.l0 k l1 a2 (([]:List Int) ++ l0) 0) else(none)
def ebbtideref07_Pushed.T7:Bool × List (List Nat × List Nat):=(true,[([],[]),([],[]),([],[]),([1,2],[1,2]),([3],[3]),([4],[4]),([],[]),([],[]),([],[]),([7,8],[7,8]),([9],[9]),([10],[10]),([6,11],[6,11]),([12],[12]),([],[]),([13,14],[13,14]),([0,5,0,1,2,3,4,5,6,7,8,9,10,11,12,13,14,15],[0,5]),([16,15,0,1,2,3,4,5,6,7,8,9,10,11,12,13,14,15],[15,16])])
def ebbtideref07_Pushed.B7:List Nat:=[0,0,0,6,14,30,0,0,0,384,896,1920,4032,8128,0,32704,65535,131071]
theorem ebbtideref07_Pushed.tab7:rtab .any (opsOf Try.f59 7)=ebbtideref07_Pushed.T7:=by kernel_rfl
theorem ebbtideref07_Pushed.bits7:waitsOk ebbtideref07_Pushed.T7.2 ebbtideref07_Pushed.B7=true:=by kernel_rfl
def ebbtideref07_Pushed.T8:Bool × List (List Nat × List Nat):=(true,[([],[]),([],[]),([],[]),([1,2],[1,2]),([3],[3]),([4],[4]),([],[]),([],[]),([],[]),([7,8],[7,8]),([9],[9]),([10],[10]),([6,11],[6,11]),([12],[12]),([],[]),([13,14],[13,14]),([0,5,0,1,2,3,4,5,6,7,8,9,10,11,12,13,14,15],[0,5]),([16,15,0,1,2,3,4,5,6,7,8,9,10,11,12,13,14,15],[15,16])])
def ebbtideref07_Pushed.B8:List Nat:=[0,0,0,6,14,30,0,0,0,384,896,1920,4032,8128,0,32704,65535,131071]
theorem ebbtideref07_Pushed.tab8:rtab .any (opsOf Try.f59 8)=ebbtideref07_Pushed.T8:=by kernel_rfl
theorem ebbtideref07_Pushed.bits8:waitsOk ebbtideref07_Pushed.T8.2 ebbtideref07_Pushed.B8=true:=by kernel_rfl
set_option maxHeartbeats 8000000 in
set_option maxRecDepth 100000 in
theorem ebbtideref07_Pushed.calls (k:Nat) (A0:Option Addr) (c0:Nat) (l0:List Int) (A1:Option Addr) (c1:Nat) (l1:List (S79)) (a2:Int) (r:List Int) (w:World) (hr0:Kd.C (Kd.int .i64) w A0 l0.length l0) (hc0:l0.length≤c0) (hr1:Kd.C k79 w A1 l1.length l1) (hc1:l1.length≤c1) (h:ebbtideref07_Pushed.f k l0 l1 a2=some r):
  Calls Try.prog 59 #[.slice A0 l0.length c0, .slice A1 l1.length c1, .int .i64 a2] w fun e w'=> ∃ v0_:Value,e= .returned (v0_)∧Kd.R (Kd.int .i64) 3 w' w.heap.size (fun _=>True) v0_ r∧Below w.heap.size w w':=by
 have HR0:=Ya hr0;have HC0:=Ya hc0;clear hr0 hc0;have HR1:=Ya hr1;have HC1:=Ya hc1;clear hr1 hc1;have HB:=Ya (Yo w.heap.size w);have H:=h;unfold ebbtideref07_Pushed.f at H;clear h;by_cases c4:([]:List Int).length+l0.length<17592186044416
 rotate_left
 ·rw[Yy c4] at H
  exact absurd H (by simp)
 rw[Yx c4] at H;have LMc4:=Ya c4;clear c4;obtain⟨y290,hy290⟩: ∃ y_:List Int,y_=(([]:List Int) ++ l0):=⟨_,rfl⟩;rw[← hy290] at H;have Ny290:=Ya hy290;clear hy290;have H':=Ya H;clear H;go_enter Try.func59,Try.ntmps59;go_wp2_with (first|((with_reducible refine gate_builtin (b:= .append) (xs:= #[.tmp 9, .tmp 10]) rfl ?_);at_builtin;refine Kd.R_append_rows (Kd.int .i64) (w0:=w) w.heap.size rfl (.tmp 9) (.tmp 10) 31 3 (.int .i64 0) 8 rfl Try.underlying31 info3 rfl (by decide) (by omega) (.slice none 0 0) ([]:List Int) l0 _ _ _ (fun _=>True) (fun _=>False) rfl rfl ?aO ?aR (fun _ _ h=>h) (fun _ h=>h.elim) ?aF ?aB ?aS ?aL ?_;(case aR=>repeat(first|exact HR0.out|(with_reducible refine Kd.C_alloc ?_ _)|(with_reducible refine Kd.C_drewN ?_ _)|(with_reducible refine Kd.C_drew ?_)));(case aB=>exact bl);(case aF=>exact(fun _ _=>trivial));(case aO=>exact((Kd.R_nil _ _ _ _ (fun _=>True))));(case aS=>exact(Yi bl));(case aL=>have:=LMc4.out;omega);intro v291 w5 ho hb hg hat;rw[← Ny290.out] at ho;replace HB:=Ya (hb);have HO292:=Ya (ho);clear ho hb hg hat));go_loopg [8] k (fun kq v8 w'=> ∃ (Xc:List Int) (Zi:Int),v8= .int .i64 Zi∧Aside0 (ebbtideref07_Pushed.l0 kq l1 a2 Xc Zi=some r)∧Aside0 (kq≤k)∧Aside0 (Kd.R (Kd.int .i64) 3 w' w.heap.size (fun _=>True) v291 Xc)∧Aside0 (Below w.heap.size w w'))
 case atStart=>exact⟨(y290),(0),(by first|rfl|(simp;done)|(simp[*];done)),H',⟨Nat.le_refl _⟩,⟨HO292.out⟩,⟨HB.out⟩⟩
 case round=>
  clear H';try clear c1
  try clear c4
  obtain⟨Xc,Zi,rfl,HA,HK1,HO_7,HB⟩:=hrel;cases gk with
  |zero=>exact absurd HA.out (by simp[ebbtideref07_Pushed.l0])
  |succ k1=>
   have H:=HA.out;clear HA;simp only[ebbtideref07_Pushed.l0] at H;by_cases c6:Zi<(l1.length:Int)
   rotate_left
   ·rw[Yy c6] at H
    have c6b0:decide (Zi<(l1.length:Int))=false:=Yw c6;clear c6;obtain rfl:=Option.some.inj H;go_wp2;go_ret;exact⟨_,by first|rfl|(simp[errW_none,errW_some]<;>rfl)|(simp[*,errW_none,errW_some]<;>rfl),by(with_reducible repeat(first|apply Yr|apply Yq|apply Yp));exact HO_7.out,HB.out⟩
   rw[Yx c6] at H;have c6b0:decide (Zi<(l1.length:Int))=true:=Yv c6;clear c6;by_cases c7:0≤Zi
   rotate_left
   ·rw[Yy c7] at H
    exact absurd H (by simp)
   rw[Yx c7] at H;have c7b0:decide (0≤Zi)=true:=Yv c7;clear c7;obtain⟨bq8,hbq8⟩: ∃ b_:Bool,b_=((rd_T79 l1 Zi).f1):=⟨_,rfl⟩;replace H:(if bq8=true then(if 0≤((rd_T79 l1 Zi).f0) then(if ((rd_T79 l1 Zi).f0)<(Xc.length:Int) then(ebbtideref07_Pushed.l0 k1 l1 a2 (Xc.set (((rd_T79 l1 Zi).f0):Int).toNat (wrap64 ((rd Xc ((rd_T79 l1 Zi).f0)) - a2))) (wrap64 (Zi+1))) else(none)) else(none)) else(if 0≤((rd_T79 l1 Zi).f0) then(if ((rd_T79 l1 Zi).f0)<(Xc.length:Int) then(ebbtideref07_Pushed.l0 k1 l1 a2 (Xc.set (((rd_T79 l1 Zi).f0):Int).toNat (wrap64 ((rd Xc ((rd_T79 l1 Zi).f0))+a2))) (wrap64 (Zi+1))) else(none)) else(none)))=some r:=by rw[← hbq8] at H;exact H
   have Nbq8:=Ya hbq8;clear hbq8;by_cases c9:bq8=true
   ·subst c9
    first|rw[Yx rfl] at H|rw[Yx trivial] at H
    by_cases c10:0≤((rd_T79 l1 Zi).f0)
    rotate_left
    ·rw[Yy c10] at H
     exact absurd H (by simp)
    rw[Yx c10] at H;have c10b0:decide (0≤((rd_T79 l1 Zi).f0))=true:=Yv c10;clear c10;by_cases c11:((rd_T79 l1 Zi).f0)<(Xc.length:Int)
    rotate_left
    ·rw[Yy c11] at H
     exact absurd H (by simp)
    rw[Yx c11] at H;have c11b0:decide (((rd_T79 l1 Zi).f0)<(Xc.length:Int))=true:=Yv c11;clear c11;obtain⟨y297,hy297⟩: ∃ y_:List Int,y_=(Xc.set (((rd_T79 l1 Zi).f0):Int).toNat (wrap64 ((rd Xc ((rd_T79 l1 Zi).f0)) - a2))):=⟨_,rfl⟩;rw[← hy297] at H;have Ny297:=Ya hy297;clear hy297;have H':=Ya H;clear H;have p293:0≤(Zi:Int):=od;have q293:Zi<(l1.length:Int):=od;obtain⟨ad293,e293,hx293_0,hx293_1⟩:=at_T79 HR1.out Zi p293 q293
    (try rw[← Nbq8.out] at hx293_1)
    cases e293;replace hx293_0:=hc HB hx293_0;replace hx293_1:=hc HB hx293_1;replace p293:=eq_true p293;replace q293:=eq_true q293;try go_wp2
    replace HO_7:=Ya (Yp HO_7.out);replace HB:=Ya (Yg HB.out);have p294:0≤(Zi:Int):=od;have q294:Zi<(l1.length:Int):=od;obtain⟨ad294,e294,hx294_0,hx294_1⟩:=at_T79 HR1.out Zi p294 q294;have hw294_1:=hx294_1;have hw294_0:=hx294_0
    (try rw[← Nbq8.out] at hx294_1)
    (try rw[← Nbq8.out] at hw294_1)
    obtain rfl:ad293=ad294:=(by injection e294);replace hx294_0:=hc HB hx294_0;replace hx294_1:=hc HB hx294_1;replace p294:=eq_true p294;replace q294:=eq_true q294;have p295:0≤(Zi:Int):=od;have q295:Zi<(l1.length:Int):=od;obtain⟨ad295,e295,hx295_0,hx295_1⟩:=at_T79 HR1.out Zi p295 q295;have hw295_1:=hx295_1;have hw295_0:=hx295_0
    (try rw[← Nbq8.out] at hx295_1)
    (try rw[← Nbq8.out] at hw295_1)
    obtain rfl:ad293=ad295:=(by injection e295);replace hx295_0:=hc HB hx295_0;replace hx295_1:=hc HB hx295_1;replace p295:=eq_true p295;replace q295:=eq_true q295;obtain⟨Ao14,co14,eo14⟩:=Kd.R_slice HO_7.out
    (first|subst eo14|(injection eo14 with f1_ f2_ f3_;have f4_:=f1_.symm;have f5_:=f3_.symm;clear f1_ f2_ f3_;subst f4_;subst f5_))
    have p296:0≤(((rd_T79 l1 Zi).f0):Int):=od;have q296:((rd_T79 l1 Zi).f0)<(Xc.length:Int):=od;obtain⟨ad296,e296,hx296_0⟩:=Kd.at_int (Kd.R_reads' HO_7.out).2.2 ((rd_T79 l1 Zi).f0) p296 q296;cases e296;replace p296:=eq_true p296;replace q296:=eq_true q296;have p12:0≤(((rd_T79 l1 Zi).f0):Int):=od;have q12:(((rd_T79 l1 Zi).f0):Int)<((Xc.length:Int):Int):=od;obtain⟨go12,co12,eo12,gb12,gl12,cl12,HG12⟩:=Kd.R_form HO_7.out (by omega)
    (first|cases eo12|(injection eo12 with ea_ en_ ec_;(first|subst ea_|(injection ea_ with ea_;subst ea_));subst ec_;clear en_))
    have GB12:=Ya gb12;have GG12:=Ya HG12;clear gb12 gl12 HG12
    (first|simp only[add_plain] at hx296_0|skip)
    obtain⟨hx12_0,hf12_0⟩:=Kd.R_celln 0 HO_7.out (((rd_T79 l1 Zi).f0):Int) p12 q12;replace p12:=eq_true p12;replace q12:=eq_true q12;have HP15:=Kd.R_putn HO_7.out (((rd_T79 l1 Zi).f0):Int) (wrap64 ((rd Xc ((rd_T79 l1 Zi).f0)) - a2));rw[← Ny297.out] at HP15;have HQ15:=Ya HP15;clear HP15;refine start_ (n:=18) (S:=fun w'=>w'.cell? (ad293.add ((Zi).toNat * 2))=some (.int .i64 ((rd_T79 l1 Zi).f0))∧w'.cell? ⟨(ad293.add ((Zi).toNat * 2)).block,(ad293.add ((Zi).toNat * 2)).off+1,none⟩=some (.bool (true))∧w'.cell? (ad293.add ((Zi).toNat * 2))=some (.int .i64 ((rd_T79 l1 Zi).f0))∧w'.cell? ⟨(ad293.add ((Zi).toNat * 2)).block,(ad293.add ((Zi).toNat * 2)).off+1,none⟩=some (.bool (true))∧w'.cell? ⟨go12,(((rd_T79 l1 Zi).f0)).toNat,none⟩=some (.int .i64 (rd Xc ((rd_T79 l1 Zi).f0)))) (ds:=[17]) #[false,false,false,false,false,false,false,false,false,false,false,false,false,false,false,false,false,false] (by kernel_rfl) rfl rfl ⟨((HB.out.cell (Yb w _ hw294_0)).trans hw294_0),((HB.out.cell (Yb w _ hw294_1)).trans hw294_1),((HB.out.cell (Yb w _ hw295_0)).trans hw295_0),((HB.out.cell (Yb w _ hw295_1)).trans hw295_1),hx296_0⟩ (fun hHeld=> ?_);refine with_tabW ebbtideref07_Pushed.tab7 ebbtideref07_Pushed.bits7 (fun HT_ HW_=> ?_);generalize wr.drew=w13 at HO_7 HB GG12 HQ15 hf12_0 hx12_0 hx294_0 hx294_1 hx295_0 hx295_1 hx296_0 hHeld ⊢;refine pu 0 23 (bm 18 1) ?_;refine pu 1 24 (bm 18 3) ?_;refine pu 2 25 (bm 18 7) ?_;refine pu 3 26 (bm 18 15) ?_;refine pu 4 27 (bm 18 31) ?_;refine pu 6 29 (bm 18 95) ?_;refine pu 7 30 (bm 18 223) ?_;refine pu 8 31 (bm 18 479) ?_;refine pu 9 32 (bm 18 991) ?_;refine pu 10 33 (bm 18 2015) ?_;refine pu 14 37 (bm 18 18399) ?_;refine ta 5 28 (bm 18 18431) hHeld ?_;refine ta 11 34 (bm 18 20479) hHeld ?_;refine pu 12 35 (bm 18 24575) ?_;refine ta 13 36 (bm 18 32767) hHeld ?_;refine pu 15 38 (bm 18 65535) ?_;refine pu 16 39 (bm 18 131071) ?_;refine last_ (i:=17) (N:=none) #[true,true,true,true,true,true,true,true,true,true,true,true,true,true,true,true,true,true] rfl rfl (one_of HT_.out (by kernel_rfl)) (by decide) (fun K hK=> ?_);refine skip_ (w1:= ?_) (by rfl) rfl ?_ ?_
    rotate_left
    ·go_simp
     rfl
    refine hK.out _ _ ?_;clear hK K;refine done_ (done_of HT_.out (by kernel_rfl)) ?_;try go_wp2
    go_roundg k1
    case measure=>have:=HK1.out;omega
    case rel=>exact⟨(y297),(wrap64 (Zi+1)),(by first|rfl|(simp;done)|(simp[*];done)),H',⟨by have:=HK1.out;omega⟩,⟨kR HQ15⟩,⟨bl⟩⟩
   replace c9:=Bool.eq_false_iff.mpr c9;subst c9;rw[Yy (show ¬ (false=true) by decide)] at H;by_cases c16:0≤((rd_T79 l1 Zi).f0)
   rotate_left
   ·rw[Yy c16] at H
    exact absurd H (by simp)
   rw[Yx c16] at H;have c16b0:decide (0≤((rd_T79 l1 Zi).f0))=true:=Yv c16;clear c16;by_cases c17:((rd_T79 l1 Zi).f0)<(Xc.length:Int)
   rotate_left
   ·rw[Yy c17] at H
    exact absurd H (by simp)
   rw[Yx c17] at H;have c17b0:decide (((rd_T79 l1 Zi).f0)<(Xc.length:Int))=true:=Yv c17;clear c17;obtain⟨y301,hy301⟩: ∃ y_:List Int,y_=(Xc.set (((rd_T79 l1 Zi).f0):Int).toNat (wrap64 ((rd Xc ((rd_T79 l1 Zi).f0))+a2))):=⟨_,rfl⟩;rw[← hy301] at H;have Ny301:=Ya hy301;clear hy301;have H':=Ya H;clear H;have p293:0≤(Zi:Int):=od;have q293:Zi<(l1.length:Int):=od;obtain⟨ad293,e293,hx293_0,hx293_1⟩:=at_T79 HR1.out Zi p293 q293
   (try rw[← Nbq8.out] at hx293_1)
   cases e293;replace hx293_0:=hc HB hx293_0;replace hx293_1:=hc HB hx293_1;replace p293:=eq_true p293;replace q293:=eq_true q293;try go_wp2
   replace HO_7:=Ya (Yp HO_7.out);replace HB:=Ya (Yg HB.out);have p298:0≤(Zi:Int):=od;have q298:Zi<(l1.length:Int):=od;obtain⟨ad298,e298,hx298_0,hx298_1⟩:=at_T79 HR1.out Zi p298 q298;have hw298_1:=hx298_1;have hw298_0:=hx298_0
   (try rw[← Nbq8.out] at hx298_1)
   (try rw[← Nbq8.out] at hw298_1)
   obtain rfl:ad293=ad298:=(by injection e298);replace hx298_0:=hc HB hx298_0;replace hx298_1:=hc HB hx298_1;replace p298:=eq_true p298;replace q298:=eq_true q298;have p299:0≤(Zi:Int):=od;have q299:Zi<(l1.length:Int):=od;obtain⟨ad299,e299,hx299_0,hx299_1⟩:=at_T79 HR1.out Zi p299 q299;have hw299_1:=hx299_1;have hw299_0:=hx299_0
   (try rw[← Nbq8.out] at hx299_1)
   (try rw[← Nbq8.out] at hw299_1)
   obtain rfl:ad293=ad299:=(by injection e299);replace hx299_0:=hc HB hx299_0;replace hx299_1:=hc HB hx299_1;replace p299:=eq_true p299;replace q299:=eq_true q299;obtain⟨Ao20,co20,eo20⟩:=Kd.R_slice HO_7.out
   (first|subst eo20|(injection eo20 with f1_ f2_ f3_;have f4_:=f1_.symm;have f5_:=f3_.symm;clear f1_ f2_ f3_;subst f4_;subst f5_))
   have p300:0≤(((rd_T79 l1 Zi).f0):Int):=od;have q300:((rd_T79 l1 Zi).f0)<(Xc.length:Int):=od;obtain⟨ad300,e300,hx300_0⟩:=Kd.at_int (Kd.R_reads' HO_7.out).2.2 ((rd_T79 l1 Zi).f0) p300 q300;cases e300;replace p300:=eq_true p300;replace q300:=eq_true q300;have p18:0≤(((rd_T79 l1 Zi).f0):Int):=od;have q18:(((rd_T79 l1 Zi).f0):Int)<((Xc.length:Int):Int):=od;obtain⟨go18,co18,eo18,gb18,gl18,cl18,HG18⟩:=Kd.R_form HO_7.out (by omega)
   (first|cases eo18|(injection eo18 with ea_ en_ ec_;(first|subst ea_|(injection ea_ with ea_;subst ea_));subst ec_;clear en_))
   have GB18:=Ya gb18;have GG18:=Ya HG18;clear gb18 gl18 HG18
   (first|simp only[add_plain] at hx300_0|skip)
   obtain⟨hx18_0,hf18_0⟩:=Kd.R_celln 0 HO_7.out (((rd_T79 l1 Zi).f0):Int) p18 q18;replace p18:=eq_true p18;replace q18:=eq_true q18;have HP21:=Kd.R_putn HO_7.out (((rd_T79 l1 Zi).f0):Int) (wrap64 ((rd Xc ((rd_T79 l1 Zi).f0))+a2));rw[← Ny301.out] at HP21;have HQ21:=Ya HP21;clear HP21;refine start_ (n:=18) (S:=fun w'=>w'.cell? (ad293.add ((Zi).toNat * 2))=some (.int .i64 ((rd_T79 l1 Zi).f0))∧w'.cell? ⟨(ad293.add ((Zi).toNat * 2)).block,(ad293.add ((Zi).toNat * 2)).off+1,none⟩=some (.bool (false))∧w'.cell? (ad293.add ((Zi).toNat * 2))=some (.int .i64 ((rd_T79 l1 Zi).f0))∧w'.cell? ⟨(ad293.add ((Zi).toNat * 2)).block,(ad293.add ((Zi).toNat * 2)).off+1,none⟩=some (.bool (false))∧w'.cell? ⟨go18,(((rd_T79 l1 Zi).f0)).toNat,none⟩=some (.int .i64 (rd Xc ((rd_T79 l1 Zi).f0)))) (ds:=[17]) #[false,false,false,false,false,false,false,false,false,false,false,false,false,false,false,false,false,false] (by kernel_rfl) rfl rfl ⟨((HB.out.cell (Yb w _ hw298_0)).trans hw298_0),((HB.out.cell (Yb w _ hw298_1)).trans hw298_1),((HB.out.cell (Yb w _ hw299_0)).trans hw299_0),((HB.out.cell (Yb w _ hw299_1)).trans hw299_1),hx300_0⟩ (fun hHeld=> ?_);refine with_tabW ebbtideref07_Pushed.tab8 ebbtideref07_Pushed.bits8 (fun HT_ HW_=> ?_);generalize wr.drew=w19 at HO_7 HB GG18 HQ21 hf18_0 hx18_0 hx298_0 hx298_1 hx299_0 hx299_1 hx300_0 hHeld ⊢;refine pu 0 40 (bm 18 1) ?_;refine pu 1 41 (bm 18 3) ?_;refine pu 2 42 (bm 18 7) ?_;refine pu 3 43 (bm 18 15) ?_;refine pu 4 44 (bm 18 31) ?_;refine pu 6 46 (bm 18 95) ?_;refine pu 7 47 (bm 18 223) ?_;refine pu 8 48 (bm 18 479) ?_;refine pu 9 49 (bm 18 991) ?_;refine pu 10 50 (bm 18 2015) ?_;refine pu 14 54 (bm 18 18399) ?_;refine ta 5 45 (bm 18 18431) hHeld ?_;refine ta 11 51 (bm 18 20479) hHeld ?_;refine pu 12 52 (bm 18 24575) ?_;refine ta 13 53 (bm 18 32767) hHeld ?_;refine pu 15 55 (bm 18 65535) ?_;refine pu 16 56 (bm 18 131071) ?_;refine last_ (i:=17) (N:=none) #[true,true,true,true,true,true,true,true,true,true,true,true,true,true,true,true,true,true] rfl rfl (one_of HT_.out (by kernel_rfl)) (by decide) (fun K hK=> ?_);refine skip_ (w1:= ?_) (by rfl) rfl ?_ ?_
   rotate_left
   ·go_simp
    rfl
   refine hK.out _ _ ?_;clear hK K;refine done_ (done_of HT_.out (by kernel_rfl)) ?_;try go_wp2
   go_roundg k1
   case measure=>have:=HK1.out;omega
   case rel=>exact⟨(y301),(wrap64 (Zi+1)),(by first|rfl|(simp;done)|(simp[*];done)),H',⟨by have:=HK1.out;omega⟩,⟨kR HQ21⟩,⟨bl⟩⟩
end P
end Go.Proofs.Ytoedkglggapggaa
