/- What the law's row needs of these texts, taken out of them by wip/tool/mini.py: QAt QEndsLaw QRightOf QEndsRight QMaxLaw QFillWalk P119 P120 P121 P124. -/
import Derived.Test.YtkcpanpdipmmmaaMggjfik
import Derived.Test.YtkcpanpdipmmmaaMcmjngn
import Derived.Test.YtkcpanpdipmmmaaMockagm
import Derived.Test.YtkcpanpdipmmmaaMpjkfmi
import Derived.Deep.RegionHeld3
import Derived.Deep.DeepCutAuto
set_option linter.unusedVariables false
set_option linter.unusedSimpArgs false
namespace Go.Proofs.Ytkcpanpdipmmmaa.H
open Go.RowKit Go.Proofs.YtkcpanpdipmmmaaW.PrintWords Go.Proofs.YtkcpanpdipmmmaaW.PrintLast Go.Proofs.YtkcpanpdipmmmaaW.PrintMore Go.Proofs.Ytkcpanpdipmmmaa.P
theorem infoRowS:(Try.prog.info? 34).map (fun i=>(i.zero,i.size,i.bytes))=some (some (.slice none 0 0),1,24):=by kernel_rfl
set_option maxHeartbeats 2000000 in
set_option maxRecDepth 100000 in
theorem at_calls (n0:Nat) (a0_1:Bool) (A0_2:Option Addr) (c0_2:Nat) (l0_2:List S74) (A1:Option Addr) (c1 n1:Nat) (w:World) (hr0_2:Kd.C k74 w A0_2 l0_2.length l0_2) (hc0_2:l0_2.length≤c0_2) (h0:0≤(n0:Int)) (h1:(n0:Int)≤1000000) (hl:l0_2.length≤500000) (hE0: ∀ k:Nat,k<l0_2.length→0≤eFrom (rd_T74 l0_2 k)∧eFrom (rd_T74 l0_2 k)<(n0:Int)) (hE1: ∀ k:Nat,k<l0_2.length→0≤eTo (rd_T74 l0_2 k)∧eTo (rd_T74 l0_2 k)<(n0:Int)):
  Calls Try.prog 101 #[.agg #[.int .i64 (n0:Int), .bool a0_1, .slice A0_2 l0_2.length c0_2], .slice A1 n1 c1] w fun e w'=> ∃ v0_:Value,e= .returned (.agg #[.int .i64 (n0:Int), .bool a0_1, .slice A0_2 l0_2.length c0_2, .slice A1 n1 c1,v0_])∧Kd.S (Kd.slice 38 k38) 34 w' w.heap.size (fun _=>True) v0_ (rowsAt l0_2 n0 n0)∧Below w.heap.size w w':=by
 have hu24:=Try.underlying24
 have hu118:=Try.underlying118
 have HR0_2:=Aside0.mk hr0_2
 have HC0_2:=Aside0.mk hc0_2
 have HH0:=Aside0.mk h0
 have HH1:=Aside0.mk h1
 have HE0:=Aside0.mk hE0
 have HE1:=Aside0.mk hE1
 have HR0:=Aside0.mk hr0_2
 clear hr0_2 hc0_2 h0 h1 hE0 hE1
 have HB:=Aside0.mk (Below.refl w.heap.size w)
 go_enter Try.func101,Try.ntmps101
 go_wp2_with (first|((with_reducible refine gate_dst (N:=2) rfl ?_);refine box_event ?hg (N:=2) ?hd (cs:= #[.int .i64 (n0:Int), .bool a0_1, .slice A0_2 l0_2.length c0_2]) (t:=24) ?hr ?_;(case hd=>rfl);(case hg=>rfl);(case hr=>first|(go_simp;done)|(go_simp;rfl));intro gb111 hg w4 hbox hb;have n0_:=Aside0.mk (below_step (by repeat(first|(with_reducible first|exact HB.out|apply below_alloc|apply pw_below_drewN|apply below_drew1)|exact HB.out)) hb);have n1_:=Aside0.mk (hbox);have n2_:=Aside0.mk (Kd.C_below HR0_2.out hb);clear HB HR0_2;have HB:=n0_;have BK111:=n1_;have HR0_2:=n2_;clear n0_ n1_ n2_;clear hb hbox hg)|((with_reducible refine gate_dst (N:=4) rfl ?_);refine box_event ?hg (N:=4) ?hd (cs:= #[.int .i64 0, .bool false, .slice none 0 0, .slice none 0 0, .slice none 0 0]) (t:=118) ?hr ?_;(case hd=>rfl);(case hg=>rfl);(case hr=>first|(go_simp;done)|(go_simp;rfl));intro gb4 hg w5 hbox hb;have GE4:Aside0 (w.heap.size≤gb4):=⟨by rw[hg];exact HB.out.size⟩;have n0_:=Aside0.mk (below_step (by repeat(first|(with_reducible first|exact HB.out|apply below_alloc|apply pw_below_drewN|apply below_drew1)|exact HB.out)) hb);have n1_:=Aside0.mk (hbox);have n2_:=Aside0.mk (Kd.C_below HR0_2.out hb);have n3_:=Aside0.mk (blk_below BK111.out hb);clear HB HR0_2 BK111;have HB:=n0_;have BK4:=n1_;have HR0_2:=n2_;have BK111:=n3_;clear n0_ n1_ n2_ n3_;clear hb hbox hg)|fail)
 obtain⟨R0,hR0⟩: ∃ y_:List (List S38),y_=List.replicate (n0:Int).toNat []:=⟨_,rfl⟩
 have NR0:=Aside0.mk hR0
 clear hR0
 refine start_ (n:=9) (S:=(fun w'=>w'.cell? ⟨gb111,0,none⟩=some (.int .i64 (n0:Int))∧w'.cell? ⟨gb111,1,none⟩=some (.bool a0_1)∧w'.cell? ⟨gb111,2,none⟩=some (.slice A0_2 l0_2.length c0_2))) (ds:=[]) #[false,false,false,false,false,false,false,false,false] (by kernel_rfl) rfl rfl ⟨(blk_cell BK111.out 0).trans rfl,(blk_cell BK111.out 1).trans rfl,(blk_cell BK111.out 2).trans rfl⟩ (fun hHeld=> ?_)
 have n0_:=Aside0.mk (below_drew HB.out)
 have n1_:Aside0 (w5.drew.heap[gb111]? =some (.cells #[.int .i64 (n0:Int), .bool a0_1, .slice A0_2 l0_2.length c0_2] 24 (0,0))):=⟨BK111.out⟩
 have n2_:Aside0 (w5.drew.heap[gb4]? =some (.cells #[.int .i64 0, .bool false, .slice none 0 0, .slice none 0 0, .slice none 0 0] 118 (0,0))):=⟨BK4.out⟩
 clear HB BK111 BK4
 have HB:=n0_
 have BK111:=n1_
 have BK4:=n2_
 clear n0_ n1_ n2_
 generalize w5.drew=w6 at BK111 HB BK4 hHeld ⊢
 refine pure_ (i:=1) (N:=some 14) (v:= ?_) (a':= ?_) #[false,true,false,false,false,false,false,false,false] rfl rfl (by kernel_rfl) (fun _ _ _ h=>h) (Or.inl ⟨by rfl,?_⟩) ?_ ?_
 rotate_left
 ·intro w'
  go_simp
  with_reducible rfl
 rotate_left
 ·simp only[Act.put,List.setIfInBounds_toArray,List.set_cons_zero,List.set_cons_succ,i64_w,i32_w]
  rfl
 refine pure_ (i:=3) (N:=some 16) (v:= ?_) (a':= ?_) #[false,true,false,true,false,false,false,false,false] rfl rfl (by kernel_rfl) (fun _ _ _ h=>h) (Or.inl ⟨by rfl,?_⟩) ?_ ?_
 rotate_left
 ·intro w'
  go_simp
  with_reducible rfl
 rotate_left
 ·simp only[Act.put,List.setIfInBounds_toArray,List.set_cons_zero,List.set_cons_succ,i64_w,i32_w]
  rfl
 refine take_ (i:=0) (N:=some 13) (v:= ?_) (a':= ?_) #[true,true,false,true,false,false,false,false,false] rfl rfl (by kernel_rfl) (fun _ _ _ h=>h) (Or.inl ⟨by rfl,?_⟩) hHeld ?_ ?_
 rotate_left
 ·rintro w' ⟨s0,s1,s2⟩
  go_simp
  with_reducible rfl
 rotate_left
 ·simp only[Act.put,List.setIfInBounds_toArray,List.set_cons_zero,List.set_cons_succ,i64_w,i32_w]
  rfl
 refine take_ (i:=4) (N:=some 17) (v:= ?_) (a':= ?_) #[true,true,false,true,true,false,false,false,false] rfl rfl (by kernel_rfl) (fun _ _ _ h=>h) (Or.inl ⟨by rfl,?_⟩) hHeld ?_ ?_
 rotate_left
 ·rintro w' ⟨s0,s1,s2⟩
  go_simp
  with_reducible rfl
 rotate_left
 ·simp only[Act.put,List.setIfInBounds_toArray,List.set_cons_zero,List.set_cons_succ,i64_w,i32_w]
  rfl
 refine pure_ (i:=2) (N:=some 15) (v:= ?_) (a':= ?_) #[true,true,true,true,true,false,false,false,false] rfl rfl (by kernel_rfl) (fun _ _ _ h=>h) (Or.inl ⟨by rfl,?_⟩) ?_ ?_
 rotate_left
 ·intro w'
  go_simp
  with_reducible rfl
 rotate_left
 ·simp only[Act.put,List.setIfInBounds_toArray,List.set_cons_zero,List.set_cons_succ,i64_w,i32_w]
  rfl
 refine join_ (σ:=Value × Nat) 1 #[true,true,true,true,true,true,true,true,false] (fun s_=>[(18,s_.1),(19, .agg #[.int .i64 (n0:Int), .bool a0_1, .slice A0_2 l0_2.length c0_2, .slice A1 n1 c1,s_.1]),(5, .pointer (some ⟨s_.2,0,none⟩))]) (fun s_ w'=>(w'.cell? ⟨gb111,0,none⟩=some (.int .i64 (n0:Int))∧w'.cell? ⟨gb111,1,none⟩=some (.bool a0_1)∧w'.cell? ⟨gb111,2,none⟩=some (.slice A0_2 l0_2.length c0_2))∧Kd.S (Kd.slice 38 k38) 34 w' w.heap.size (fun _=>True) s_.1 R0∧w'.heap[gb111]? =some (.cells #[.int .i64 (n0:Int), .bool a0_1, .slice A0_2 l0_2.length c0_2] 24 (0,0))∧w'.heap[s_.2]? =some (.cells #[.int .i64 0, .bool false, .slice none 0 0, .slice none 0 0, .slice none 0 0] 118 (0,0))∧w'.heap[gb4]? =some (.cells #[.int .i64 0, .bool false, .slice none 0 0, .slice none 0 0, .slice none 0 0] 118 (0,0))∧w.heap.size≤s_.2∧gb111≠s_.2∧gb4≠s_.2∧Below w.heap.size w w') ?_ ?_
 rotate_left
 ·intro hCont
  refine two_ (i:=5) (j:=7) (Ni:=some 18) (Nj:=some 5) #[true,true,true,true,true,true,false,false,false] #[true,true,true,true,true,false,false,true,false] rfl rfl rfl rfl (by kernel_rfl) (by decide) (by decide) (fun K hK=> ?_) (fun K hK=> ?_)
  ·skip
   refine Kd.S_make_step (Kd.slice 38 k38) _ 34 (by rfl) (N:=18) rfl 116 _ _ rfl (n0:Int) rfl rfl Try.underlying116 (.slice none 0 0) 24 infoRowS rfl (by decide) (by omega) [] (ok:=fun _=>True) (okp:=fun _=>True) ⟨_,rfl,Kd.R_nil _ _ _ _ _⟩ (fun _ hk=>hk) trivial HH0.out (by have:=HH1.out;omega) (Below.refl _ _) (Nat.le_refl _) ?_
   intro v18 w7 ho hb _ _
   rw[← NR0.out] at ho
   obtain⟨Ao,co,eo⟩:=Kd.S_slice ho
   subst eo
   have n0_:=Aside0.mk (Kd.S_lower ho HB.out.size)
   have n1_:=Aside0.mk (blk_below BK111.out hb)
   have n2_:=Aside0.mk (blk_below BK4.out hb)
   have n3_:=Aside0.mk (below_step HB.out hb)
   clear BK111 BK4 HB ho hb
   have HO:=n0_
   have BK111:=n1_
   have BK4:=n2_
   have HB:=n3_
   clear n0_ n1_ n2_ n3_
   refine hK.out _ _ ⟨(blk_cell BK111.out 0).trans rfl,(blk_cell BK111.out 1).trans rfl,(blk_cell BK111.out 2).trans rfl⟩ (fun hHeld=> ?_)
   clear hK K
   refine norm_ (a':= ?_) ?_ ?_
   rotate_left
   ·show Act.put _ (some 18) _=_
    simp only[Act.put,List.setIfInBounds_toArray,List.set_cons_zero,List.set_cons_succ,i64_w,i32_w]
    rfl
   refine pure_ (i:=6) (N:=some 19) (v:= ?_) (a':= ?_) #[true,true,true,true,true,true,true,false,false] rfl rfl (by kernel_rfl) (fun _ _ _ h=>h) (Or.inl ⟨by rfl,?_⟩) ?_ ?_
   rotate_left
   ·intro w'
    go_simp
    with_reducible rfl
   rotate_left
   ·simp only[Act.put,List.setIfInBounds_toArray,List.set_cons_zero,List.set_cons_succ,i64_w,i32_w]
    rfl
   refine one_ (i:=7) (N:=some 5) #[true,true,true,true,true,true,true,true,false] rfl rfl (by kernel_rfl) (by decide) (fun K hK=> ?_)
   refine box_step ?hg (N:=5) ?hd (cs:= #[.int .i64 0, .bool false, .slice none 0 0, .slice none 0 0, .slice none 0 0]) (t:=118) ?hr ?_;(case hd=>rfl);(case hg=>rfl);(case hr=>first|(go_simp;done)|(go_simp;rfl))
   intro gb5 hg w8 hbox hb
   have n0_:=Aside0.mk hbox
   have n1_:=Aside0.mk (blk_below BK111.out hb)
   have n2_:=Aside0.mk (blk_below BK4.out hb)
   have n3_:=Aside0.mk (below_step HB.out hb)
   have n5_:Aside0 (w.heap.size≤gb5):=⟨by rw[hg];exact HB.out.size⟩
   have n6_:Aside0 (gb111≠gb5):=⟨by rw[hg];exact Nat.ne_of_lt (blk_lt BK111.out)⟩
   have n7_:Aside0 (gb4≠gb5):=⟨by rw[hg];exact Nat.ne_of_lt (blk_lt BK4.out)⟩
   have n4_:=Aside0.mk (Kd.S_below HO.out hb)
   clear HO
   have HO:=n4_
   clear n4_
   clear BK111 BK4 HB hbox hb hg
   have BK5:=n0_
   have BK111:=n1_
   have BK4:=n2_
   have HB:=n3_
   have GE5:=n5_
   have NB111:=n6_
   have NB4:=n7_
   clear n0_ n1_ n2_ n3_ n5_ n6_ n7_
   refine hK.out _ _ ⟨(blk_cell BK111.out 0).trans rfl,(blk_cell BK111.out 1).trans rfl,(blk_cell BK111.out 2).trans rfl⟩ (fun hHeld=> ?_)
   clear hK K
   refine norm_ (a':= ?_) ?_ ?_
   rotate_left
   ·show Act.put _ (some 5) _=_
    simp only[Act.put,List.setIfInBounds_toArray,List.set_cons_zero,List.set_cons_succ,i64_w,i32_w]
    rfl
   exact norm_ (by(simp only[putAll,Act.put,List.setIfInBounds_toArray,List.set_cons_zero,List.set_cons_succ])<;>rfl) (hCont (.slice Ao R0.length co,gb5) _ ⟨hHeld,HO.out,BK111.out,BK5.out,BK4.out,GE5.out,NB111.out,NB4.out,HB.out⟩)
  ·skip
   refine box_step ?hg (N:=5) ?hd (cs:= #[.int .i64 0, .bool false, .slice none 0 0, .slice none 0 0, .slice none 0 0]) (t:=118) ?hr ?_;(case hd=>rfl);(case hg=>rfl);(case hr=>first|(go_simp;done)|(go_simp;rfl))
   intro gb5 hg w7 hbox hb
   have n0_:=Aside0.mk hbox
   have n1_:=Aside0.mk (blk_below BK111.out hb)
   have n2_:=Aside0.mk (blk_below BK4.out hb)
   have n3_:=Aside0.mk (below_step HB.out hb)
   have n5_:Aside0 (w.heap.size≤gb5):=⟨by rw[hg];exact HB.out.size⟩
   have n6_:Aside0 (gb111≠gb5):=⟨by rw[hg];exact Nat.ne_of_lt (blk_lt BK111.out)⟩
   have n7_:Aside0 (gb4≠gb5):=⟨by rw[hg];exact Nat.ne_of_lt (blk_lt BK4.out)⟩
   clear BK111 BK4 HB hbox hb hg
   have BK5:=n0_
   have BK111:=n1_
   have BK4:=n2_
   have HB:=n3_
   have GE5:=n5_
   have NB111:=n6_
   have NB4:=n7_
   clear n0_ n1_ n2_ n3_ n5_ n6_ n7_
   refine hK.out _ _ ⟨(blk_cell BK111.out 0).trans rfl,(blk_cell BK111.out 1).trans rfl,(blk_cell BK111.out 2).trans rfl⟩ (fun hHeld=> ?_)
   clear hK K
   refine norm_ (a':= ?_) ?_ ?_
   rotate_left
   ·show Act.put _ (some 5) _=_
    simp only[Act.put,List.setIfInBounds_toArray,List.set_cons_zero,List.set_cons_succ,i64_w,i32_w]
    rfl
   refine one_ (i:=5) (N:=some 18) #[true,true,true,true,true,true,false,true,false] rfl rfl (by kernel_rfl) (by decide) (fun K hK=> ?_)
   refine Kd.S_make_step (Kd.slice 38 k38) _ 34 (by rfl) (N:=18) rfl 116 _ _ rfl (n0:Int) rfl rfl Try.underlying116 (.slice none 0 0) 24 infoRowS rfl (by decide) (by omega) [] (ok:=fun _=>True) (okp:=fun _=>True) ⟨_,rfl,Kd.R_nil _ _ _ _ _⟩ (fun _ hk=>hk) trivial HH0.out (by have:=HH1.out;omega) (Below.refl _ _) (Nat.le_refl _) ?_
   intro v18 w8 ho hb _ _
   rw[← NR0.out] at ho
   obtain⟨Ao,co,eo⟩:=Kd.S_slice ho
   subst eo
   have n0_:=Aside0.mk (Kd.S_lower ho HB.out.size)
   have n1_:=Aside0.mk (blk_below BK111.out hb)
   have n2_:=Aside0.mk (blk_below BK4.out hb)
   have n3_:=Aside0.mk (below_step HB.out hb)
   have n4_:=Aside0.mk (blk_below BK5.out hb)
   clear BK5
   have BK5:=n4_
   clear n4_
   clear BK111 BK4 HB ho hb
   have HO:=n0_
   have BK111:=n1_
   have BK4:=n2_
   have HB:=n3_
   clear n0_ n1_ n2_ n3_
   refine hK.out _ _ ⟨(blk_cell BK111.out 0).trans rfl,(blk_cell BK111.out 1).trans rfl,(blk_cell BK111.out 2).trans rfl⟩ (fun hHeld=> ?_)
   clear hK K
   refine norm_ (a':= ?_) ?_ ?_
   rotate_left
   ·show Act.put _ (some 18) _=_
    simp only[Act.put,List.setIfInBounds_toArray,List.set_cons_zero,List.set_cons_succ,i64_w,i32_w]
    rfl
   refine pure_ (i:=6) (N:=some 19) (v:= ?_) (a':= ?_) #[true,true,true,true,true,true,true,true,false] rfl rfl (by kernel_rfl) (fun _ _ _ h=>h) (Or.inl ⟨by rfl,?_⟩) ?_ ?_
   rotate_left
   ·intro w'
    go_simp
    with_reducible rfl
   rotate_left
   ·simp only[Act.put,List.setIfInBounds_toArray,List.set_cons_zero,List.set_cons_succ,i64_w,i32_w]
    rfl
   exact norm_ (by(simp only[putAll,Act.put,List.setIfInBounds_toArray,List.set_cons_zero,List.set_cons_succ])<;>rfl) (hCont (.slice Ao R0.length co,gb5) _ ⟨hHeld,HO.out,BK111.out,BK5.out,BK4.out,GE5.out,NB111.out,NB4.out,HB.out⟩)
 rintro⟨v18,gb5⟩ w9 ⟨hHeld,h0_,h1_,h2_,h3_,h4_,h5_,h6_,h7_⟩
 clear BK111 BK4 HB
 have HO:=Aside0.mk h0_
 clear h0_
 have BK111:=Aside0.mk h1_
 clear h1_
 have BK5:=Aside0.mk h2_
 clear h2_
 have BK4:=Aside0.mk h3_
 clear h3_
 have GE5:=Aside0.mk h4_
 clear h4_
 have NB111:=Aside0.mk h5_
 clear h5_
 have NB4:=Aside0.mk h6_
 clear h6_
 have HB:=Aside0.mk h7_
 clear h7_
 obtain⟨Ao,co,eo⟩:=Kd.S_slice HO.out
 dsimp only at eo HO BK5 GE5 NB111 NB4
 subst eo
 refine norm_ (a':= ?_) ?_ ?_
 rotate_left
 ·simp only[putAll,Act.put,List.setIfInBounds_toArray,List.set_cons_zero,List.set_cons_succ]
  rfl
 refine one_ (i:=8) (N:=none) #[true,true,true,true,true,true,true,true,true] rfl rfl (by kernel_rfl) (by decide) (fun K hK=> ?_)
 have hs0:w9.cell? ⟨gb5,0,none⟩=some (.int .i64 0):=(blk_cell BK5.out 0).trans rfl
 have hfs0:=blk_frozen BK5.out 0
 have hs1:w9.cell? ⟨gb5,1,none⟩=some (.bool false):=(blk_cell BK5.out 1).trans rfl
 have hfs1:=blk_frozen BK5.out 1
 have hs2:w9.cell? ⟨gb5,2,none⟩=some (.slice none 0 0):=(blk_cell BK5.out 2).trans rfl
 have hfs2:=blk_frozen BK5.out 2
 have hs3:w9.cell? ⟨gb5,3,none⟩=some (.slice none 0 0):=(blk_cell BK5.out 3).trans rfl
 have hfs3:=blk_frozen BK5.out 3
 have hs4:w9.cell? ⟨gb5,4,none⟩=some (.slice none 0 0):=(blk_cell BK5.out 4).trans rfl
 have hfs4:=blk_frozen BK5.out 4
 have n0_:Aside0 ((((((w9.setCell ⟨gb5,0,none⟩ (.int .i64 (n0:Int))).setCell ⟨gb5,1,none⟩ (.bool a0_1)).setCell ⟨gb5,2,none⟩ (.slice A0_2 l0_2.length c0_2)).setCell ⟨gb5,3,none⟩ (.slice A1 n1 c1)).setCell ⟨gb5,4,none⟩ (.slice Ao R0.length co)).heap[gb5]? =some (.cells #[.int .i64 (n0:Int), .bool a0_1, .slice A0_2 l0_2.length c0_2, .slice A1 n1 c1, .slice Ao R0.length co] 118 (0,0))):=⟨by
  refine blk_put (cs:= #[.int .i64 (n0:Int), .bool a0_1, .slice A0_2 l0_2.length c0_2, .slice A1 n1 c1, .slice none 0 0]) ?_ 4 _ rfl
  refine blk_put (cs:= #[.int .i64 (n0:Int), .bool a0_1, .slice A0_2 l0_2.length c0_2, .slice none 0 0, .slice none 0 0]) ?_ 3 _ rfl
  refine blk_put (cs:= #[.int .i64 (n0:Int), .bool a0_1, .slice none 0 0, .slice none 0 0, .slice none 0 0]) ?_ 2 _ rfl
  refine blk_put (cs:= #[.int .i64 (n0:Int), .bool false, .slice none 0 0, .slice none 0 0, .slice none 0 0]) ?_ 1 _ rfl
  refine blk_put (cs:= #[.int .i64 0, .bool false, .slice none 0 0, .slice none 0 0, .slice none 0 0]) ?_ 0 _ rfl
  exact BK5.out⟩
 have n1_:Aside0 ((((((w9.setCell ⟨gb5,0,none⟩ (.int .i64 (n0:Int))).setCell ⟨gb5,1,none⟩ (.bool a0_1)).setCell ⟨gb5,2,none⟩ (.slice A0_2 l0_2.length c0_2)).setCell ⟨gb5,3,none⟩ (.slice A1 n1 c1)).setCell ⟨gb5,4,none⟩ (.slice Ao R0.length co)).heap[gb111]? =some (.cells #[.int .i64 (n0:Int), .bool a0_1, .slice A0_2 l0_2.length c0_2] 24 (0,0))):=⟨by
  refine blk_far ?_ NB111.out _
  refine blk_far ?_ NB111.out _
  refine blk_far ?_ NB111.out _
  refine blk_far ?_ NB111.out _
  refine blk_far ?_ NB111.out _
  exact BK111.out⟩
 have n2_:Aside0 ((((((w9.setCell ⟨gb5,0,none⟩ (.int .i64 (n0:Int))).setCell ⟨gb5,1,none⟩ (.bool a0_1)).setCell ⟨gb5,2,none⟩ (.slice A0_2 l0_2.length c0_2)).setCell ⟨gb5,3,none⟩ (.slice A1 n1 c1)).setCell ⟨gb5,4,none⟩ (.slice Ao R0.length co)).heap[gb4]? =some (.cells #[.int .i64 0, .bool false, .slice none 0 0, .slice none 0 0, .slice none 0 0] 118 (0,0))):=⟨by
  refine blk_far ?_ NB4.out _
  refine blk_far ?_ NB4.out _
  refine blk_far ?_ NB4.out _
  refine blk_far ?_ NB4.out _
  refine blk_far ?_ NB4.out _
  exact BK4.out⟩
 have n3_:Aside0 (Kd.S (Kd.slice 38 k38) 34 (((((w9.setCell ⟨gb5,0,none⟩ (.int .i64 (n0:Int))).setCell ⟨gb5,1,none⟩ (.bool a0_1)).setCell ⟨gb5,2,none⟩ (.slice A0_2 l0_2.length c0_2)).setCell ⟨gb5,3,none⟩ (.slice A1 n1 c1)).setCell ⟨gb5,4,none⟩ (.slice Ao R0.length co)) w.heap.size (fun _=>True) (.slice Ao R0.length co) R0):=⟨Kd.S_mono (Kd.S_far (p:=⟨gb5,4,none⟩) (Kd.S_far (p:=⟨gb5,3,none⟩) (Kd.S_far (p:=⟨gb5,2,none⟩) (Kd.S_far (p:=⟨gb5,1,none⟩) (Kd.S_far (p:=⟨gb5,0,none⟩) (Kd.S_types HO.out BK5.out (by decide)) (fun _ hk=>hk.2) (.int .i64 (n0:Int))) (fun _ hk=>hk.2) (.bool a0_1)) (fun _ hk=>hk.2) (.slice A0_2 l0_2.length c0_2)) (fun _ hk=>hk.2) (.slice A1 n1 c1)) (fun _ hk=>hk.2) (.slice Ao R0.length co)) (fun _ _=>trivial)⟩
 have n4_:Aside0 (Below w.heap.size w (((((w9.setCell ⟨gb5,0,none⟩ (.int .i64 (n0:Int))).setCell ⟨gb5,1,none⟩ (.bool a0_1)).setCell ⟨gb5,2,none⟩ (.slice A0_2 l0_2.length c0_2)).setCell ⟨gb5,3,none⟩ (.slice A1 n1 c1)).setCell ⟨gb5,4,none⟩ (.slice Ao R0.length co))):=⟨by repeat(first|exact HB.out|refine below_set ?_ GE5.out)⟩
 refine skip_ (w1:=(((((w9.setCell ⟨gb5,0,none⟩ (.int .i64 (n0:Int))).setCell ⟨gb5,1,none⟩ (.bool a0_1)).setCell ⟨gb5,2,none⟩ (.slice A0_2 l0_2.length c0_2)).setCell ⟨gb5,3,none⟩ (.slice A1 n1 c1)).setCell ⟨gb5,4,none⟩ (.slice Ao R0.length co))) (by rfl) rfl ?_ ?_
 ·go_simp
 clear hs0 hfs0 hs1 hfs1 hs2 hfs2 hs3 hfs3 hs4 hfs4
 refine hK.out _ _ ⟨(blk_cell n1_.out 0).trans rfl,(blk_cell n1_.out 1).trans rfl,(blk_cell n1_.out 2).trans rfl⟩ (fun hHeld=> ?_)
 clear hK K BK5 BK111 BK4 HO HB hHeld
 have BK5:=n0_
 have BK111:=n1_
 have BK4:=n2_
 have HO:=n3_
 have HB:=n4_
 clear n0_ n1_ n2_ n3_ n4_
 refine done_ (by kernel_rfl) ?_
 generalize (((((w9.setCell ⟨gb5,0,none⟩ (.int .i64 (n0:Int))).setCell ⟨gb5,1,none⟩ (.bool a0_1)).setCell ⟨gb5,2,none⟩ (.slice A0_2 l0_2.length c0_2)).setCell ⟨gb5,3,none⟩ (.slice A1 n1 c1)).setCell ⟨gb5,4,none⟩ (.slice Ao R0.length co))=w10 at BK5 BK111 BK4 HO HB ⊢
 go_wp2_with fail
 refine start_ (n:=6) (S:=(fun w'=>w'.cell? ⟨gb111,0,none⟩=some (.int .i64 (n0:Int))∧w'.cell? ⟨gb111,1,none⟩=some (.bool a0_1)∧w'.cell? ⟨gb111,2,none⟩=some (.slice A0_2 l0_2.length c0_2))) (ds:=[]) #[false,false,false,false,false,false] (by kernel_rfl) rfl rfl ⟨(blk_cell BK111.out 0).trans rfl,(blk_cell BK111.out 1).trans rfl,(blk_cell BK111.out 2).trans rfl⟩ (fun hHeld=> ?_)
 have n0_:=Aside0.mk (below_drew HB.out)
 have n1_:Aside0 (w10.drew.heap[gb111]? =some (.cells #[.int .i64 (n0:Int), .bool a0_1, .slice A0_2 l0_2.length c0_2] 24 (0,0))):=⟨BK111.out⟩
 have n2_:Aside0 (w10.drew.heap[gb4]? =some (.cells #[.int .i64 0, .bool false, .slice none 0 0, .slice none 0 0, .slice none 0 0] 118 (0,0))):=⟨BK4.out⟩
 have n3_:Aside0 (w10.drew.heap[gb5]? =some (.cells #[.int .i64 (n0:Int), .bool a0_1, .slice A0_2 l0_2.length c0_2, .slice A1 n1 c1, .slice Ao R0.length co] 118 (0,0))):=⟨BK5.out⟩
 have n4_:=Aside0.mk (Kd.S_drew HO.out)
 clear HB BK111 BK4 BK5 HO
 have HB:=n0_
 have BK111:=n1_
 have BK4:=n2_
 have BK5:=n3_
 have HO:=n4_
 clear n0_ n1_ n2_ n3_ n4_
 generalize w10.drew=w11 at BK111 HB BK4 BK5 HO hHeld ⊢
 refine take_ (i:=0) (N:=some 20) (v:= ?_) (a':= ?_) #[true,false,false,false,false,false] rfl rfl (by kernel_rfl) (fun _ _ _ h=>h) (Or.inl ⟨by rfl,?_⟩) hHeld ?_ ?_
 rotate_left
 ·rintro w' ⟨s0,s1,s2⟩
  go_simp
  with_reducible rfl
 rotate_left
 ·simp only[Act.put,List.setIfInBounds_toArray,List.set_cons_zero,List.set_cons_succ,i64_w,i32_w]
  rfl
 refine take_ (i:=2) (N:=some 22) (v:= ?_) (a':= ?_) #[true,false,true,false,false,false] rfl rfl (by kernel_rfl) (fun _ _ _ h=>h) (Or.inl ⟨by rfl,?_⟩) hHeld ?_ ?_
 rotate_left
 ·rintro w' ⟨s0,s1,s2⟩
  go_simp
  with_reducible rfl
 rotate_left
 ·simp only[Act.put,List.setIfInBounds_toArray,List.set_cons_zero,List.set_cons_succ,i64_w,i32_w]
  rfl
 refine one_ (i:=1) (N:=some 21) #[true,true,true,false,false,false] rfl rfl (by kernel_rfl) (by decide) (fun K hK=> ?_)
 refine goes_ Try.func141 (by kernel_rfl) rfl #[.agg #[.int .i64 (n0:Int), .bool a0_1, .slice A0_2 l0_2.length c0_2]] (by rfl) rfl rfl (by(try simp only[List.map_toArray,List.map_cons,List.map_nil]);first|done|rfl) ?_
 refine(leaving_calls (n0:Int) a0_1 A0_2 c0_2 l0_2 _ (Kd.C_below HR0.out HB.out) HC0_2.out HH0.out HH1.out (by omega) HE0.out).mono ?_
 rintro e w12 ⟨v21,rfl,hS,hb⟩
 refine⟨_,rfl,?_⟩
 have n0_:=Aside0.mk (below_step HB.out hb)
 have n1_:=Aside0.mk (blk_below BK111.out hb)
 have n2_:=Aside0.mk (blk_below BK4.out hb)
 have n3_:=Aside0.mk (blk_below BK5.out hb)
 have n4_:=Aside0.mk (Kd.S_below HO.out hb)
 have n5_:=Aside0.mk (Kd.S_lower hS HB.out.size)
 clear HB BK111 BK4 BK5 HO hS hb
 have HB:=n0_
 have BK111:=n1_
 have BK4:=n2_
 have BK5:=n3_
 have HO:=n4_
 have Hv21:=n5_
 clear n0_ n1_ n2_ n3_ n4_ n5_
 obtain⟨Av21,cv21,ev21⟩:=Kd.S_slice Hv21.out
 subst ev21
 refine hK.out _ _ ⟨(blk_cell BK111.out 0).trans rfl,(blk_cell BK111.out 1).trans rfl,(blk_cell BK111.out 2).trans rfl⟩ (fun hHeld=> ?_)
 clear hK K
 refine norm_ (a':= ?_) ?_ ?_
 rotate_left
 ·show Act.put _ (some 21) _=_
  simp only[Act.put,List.setIfInBounds_toArray,List.set_cons_zero,List.set_cons_succ,i64_w,i32_w]
  rfl
 refine one_ (i:=3) (N:=some 23) #[true,true,true,true,false,false] rfl rfl (by kernel_rfl) (by decide) (fun K hK=> ?_)
 refine goes_ Try.func142 (by kernel_rfl) rfl #[.agg #[.int .i64 (n0:Int), .bool a0_1, .slice A0_2 l0_2.length c0_2]] (by rfl) rfl rfl (by(try simp only[List.map_toArray,List.map_cons,List.map_nil]);first|done|rfl) ?_
 refine(coming_calls (n0:Int) a0_1 A0_2 c0_2 l0_2 _ (Kd.C_below HR0.out HB.out) HC0_2.out HH0.out HH1.out (by omega) HE1.out).mono ?_
 rintro e w13 ⟨v23,rfl,hS,hb⟩
 refine⟨_,rfl,?_⟩
 have n0_:=Aside0.mk (below_step HB.out hb)
 have n1_:=Aside0.mk (blk_below BK111.out hb)
 have n2_:=Aside0.mk (blk_below BK4.out hb)
 have n3_:=Aside0.mk (blk_below BK5.out hb)
 have n4_:=Aside0.mk (Kd.S_below HO.out hb)
 have n5_:=Aside0.mk (Kd.S_lower hS HB.out.size)
 have m_:=Aside0.mk (Kd.S_below Hv21.out hb)
 clear Hv21
 have Hv21:=m_
 clear m_
 clear HB BK111 BK4 BK5 HO hS hb
 have HB:=n0_
 have BK111:=n1_
 have BK4:=n2_
 have BK5:=n3_
 have HO:=n4_
 have Hv23:=n5_
 clear n0_ n1_ n2_ n3_ n4_ n5_
 obtain⟨Av23,cv23,ev23⟩:=Kd.S_slice Hv23.out
 subst ev23
 refine hK.out _ _ ⟨(blk_cell BK111.out 0).trans rfl,(blk_cell BK111.out 1).trans rfl,(blk_cell BK111.out 2).trans rfl⟩ (fun hHeld=> ?_)
 clear hK K
 refine norm_ (a':= ?_) ?_ ?_
 rotate_left
 ·show Act.put _ (some 23) _=_
  simp only[Act.put,List.setIfInBounds_toArray,List.set_cons_zero,List.set_cons_succ,i64_w,i32_w]
  rfl
 refine pure_ (i:=4) (N:=some 6) (v:= ?_) (a':= ?_) #[true,true,true,true,true,false] rfl rfl (by kernel_rfl) (fun _ _ _ h=>h) (Or.inl ⟨by rfl,?_⟩) ?_ ?_
 rotate_left
 ·intro w'
  go_simp
  with_reducible rfl
 rotate_left
 ·simp only[Act.put,List.setIfInBounds_toArray,List.set_cons_zero,List.set_cons_succ,i64_w,i32_w]
  rfl
 refine pure_ (i:=5) (N:=some 7) (v:= ?_) (a':= ?_) #[true,true,true,true,true,true] rfl rfl (by kernel_rfl) (fun _ _ _ h=>h) (Or.inl ⟨by rfl,?_⟩) ?_ ?_
 rotate_left
 ·intro w'
  go_simp
  with_reducible rfl
 rotate_left
 ·simp only[Act.put,List.setIfInBounds_toArray,List.set_cons_zero,List.set_cons_succ,i64_w,i32_w]
  rfl
 refine done_ (by kernel_rfl) ?_
 go_wp2_with fail
 have HR0':Aside0 (R0=rowsAt l0_2 n0 0):=⟨by rw[NR0.out,rowsAt_zero,Int.toNat_natCast]⟩
 have hlR:R0.length=n0:=by rw[HR0'.out,rowsAt_len]
 rw[hlR] at HO BK5 ⊢
 rw[HR0'.out] at HO
 simp only[Int.toNat_natCast] at Hv21 Hv23 ⊢
 clear hHeld
 obtain⟨L0,hL0⟩: ∃ L,L=lsAt eFrom l0_2 n0 l0_2.length:=⟨_,rfl⟩
 obtain⟨L1,hL1⟩: ∃ L,L=lsAt eTo l0_2 n0 l0_2.length:=⟨_,rfl⟩
 have hn0:L0.length=n0:=by rw[hL0,lsAt_len]
 have hn1:L1.length=n0:=by rw[hL1,lsAt_len]
 rw[← hL0,hn0] at Hv21 ⊢
 rw[← hL1,hn1] at Hv23 ⊢
 have HL0:=Aside0.mk hL0
 have HL1:=Aside0.mk hL1
 clear hL0 hL1
 clear HR0' hlR HR0_2
 have hn6:n0≤1000000:=by have:=HH1.out;omega
 go_loopw [26] (fun v26 w'=> ∃ k:Nat,k≤n0∧v26= .int .i64 k∧Aside0 (Kd.S (Kd.slice 38 k38) 34 w' w.heap.size (fun _=>True) (.slice Ao n0 co) (rowsAt l0_2 n0 k))∧Aside0 (w'.heap[gb111]? =some (.cells #[.int .i64 (n0:Int), .bool a0_1, .slice A0_2 l0_2.length c0_2] 24 (0,0)))∧Aside0 (w'.heap[gb4]? =some (.cells #[.int .i64 0, .bool false, .slice none 0 0, .slice none 0 0, .slice none 0 0] 118 (0,0)))∧Aside0 (w'.heap[gb5]? =some (.cells #[.int .i64 (n0:Int), .bool a0_1, .slice A0_2 l0_2.length c0_2, .slice A1 n1 c1, .slice Ao n0 co] 118 (0,0)))∧Aside0 (Kd.S (Kd.slice 3 (Kd.int .i64)) 25 w' w.heap.size (fun _=>True) (.slice Av21 n0 cv21) L0)∧Aside0 (Kd.S (Kd.slice 3 (Kd.int .i64)) 25 w' w.heap.size (fun _=>True) (.slice Av23 n0 cv23) L1)∧Aside0 (Below w.heap.size w w')) (fun v26 _=>n0 - (intOf v26).toNat)
 case atStart=>exact⟨0,Nat.zero_le _,rfl,HO,BK111,BK4,BK5,Hv21,Hv23,HB⟩
 case round=>
  clear HO BK111 BK4 BK5 Hv21 Hv23 HB
  obtain⟨k,hk,rfl,HO,BK111,BK4,BK5,Hv21,Hv23,HB⟩:=hrel
  by_cases hlt:k<n0
  ·have pk:0≤((k:Nat):Int):=by omega
   have qk:((k:Nat):Int)<(n0:Int):=by omega
   have c27:decide ((k:Int)<(n0:Int))=true:=decide_eq_true qk
   obtain⟨ad0,AA0,cc0,e_,hx_,hl_,_⟩:=at_L7 (Kd.S_reads' Hv21.out).2.2 (k:Int) pk (by rw[hn0];omega)
   cases e_
   obtain⟨ce_,hce_,hM_,hcc_⟩:=Kd.S_get Hv21.out [] (k:Int) pk qk
   obtain⟨ve_,rfl,ge_⟩:=hM_
   have hv_:=hcc_ 0 _ rfl
   rw[Nat.add_zero,show ((Kd.slice 3 (Kd.int .i64))).sz=1 from rfl,Nat.mul_one] at hv_
   replace hv_:=Option.some.inj (hv_.symm.trans hx_)
   rw[hv_] at ge_
   obtain⟨LL0,hLL0⟩: ∃ L,L=rd_L7 L0 (k:Int):=⟨_,rfl⟩
   have HLL0:Aside0 (Kd.R (Kd.int .i64) 3 wr w.heap.size (fun _=>True) (.slice AA0 LL0.length cc0) LL0):=⟨by rw[hLL0];exact Kd.R_mono ge_ (fun _ _=>trivial)⟩
   rw[← hLL0] at hx_
   simp only[Int.toNat_natCast] at hx_
   have HELL0:=Aside0.mk hLL0
   clear ge_ hv_ hcc_ hce_ hl_ hLL0
   have hxLL0:=hx_
   clear hx_
   obtain⟨go,co2,eo,gbase,glt,cl,HG⟩:=Kd.S_form HO.out (by rw[rowsAt_len];omega)
   rw[rowsAt_len] at eo
   injection eo with ea _ ec
   subst ea
   subst ec
   have GBO:=Aside0.mk gbase
   clear gbase glt HG
   have HLE0:Aside0 (LL0.length≤500000):=⟨by rw[HELL0.out,HL0.out];exact Nat.le_trans (lsAt_row _ _ _ _ _) hl⟩
   go_wp2_with fail
   have hLL0:=HLE0.out
   obtain⟨wo1,hwo1⟩: ∃ x_:World,x_=wr:=⟨_,rfl⟩
   subst hwo1
   go_loopw [34] (fun v_ w'=> ∃ j:Nat,j≤LL0.length∧v_= .int .i64 j∧Aside0 (Kd.S (Kd.slice 38 k38) 34 w' w.heap.size (fun _=>True) (.slice (some ⟨go,0,none⟩) n0 co) ((rowsAt l0_2 n0 k).set k (([]:List S38) ++ (LL0.take j).map (fun i=>(⟨i,false⟩:S38)))))∧Aside0 (w'.heap[gb111]? =some (.cells #[.int .i64 (n0:Int), .bool a0_1, .slice A0_2 l0_2.length c0_2] 24 (0,0)))∧Aside0 (w'.heap[gb4]? =some (.cells #[.int .i64 0, .bool false, .slice none 0 0, .slice none 0 0, .slice none 0 0] 118 (0,0)))∧Aside0 (w'.heap[gb5]? =some (.cells #[.int .i64 (n0:Int), .bool a0_1, .slice A0_2 l0_2.length c0_2, .slice A1 n1 c1, .slice (some ⟨go,0,none⟩) n0 co] 118 (0,0)))∧Aside0 (Kd.S (Kd.slice 3 (Kd.int .i64)) 25 w' w.heap.size (fun _=>True) (.slice (some ad0) n0 cv21) L0)∧Aside0 (Kd.S (Kd.slice 3 (Kd.int .i64)) 25 w' w.heap.size (fun _=>True) (.slice Av23 n0 cv23) L1)∧Aside0 (Kd.R (Kd.int .i64) 3 w' w.heap.size (fun _=>True) (.slice AA0 LL0.length cc0) LL0)∧Aside0 (Below w.heap.size w w')) (fun v_ _=>LL0.length - (intOf v_).toNat)
   case atStart=>exact⟨0,Nat.zero_le _,rfl,⟨by rw[List.take_zero,List.map_nil,List.append_nil,rowsAt_self l0_2 n0 k hlt];exact HO.out⟩,BK111,BK4,BK5,Hv21,Hv23,HLL0,HB⟩
   case round=>
    clear HO BK111 BK4 BK5 Hv21 Hv23 HLL0 HB
    obtain⟨j,hj,rfl,HO,BK111,BK4,BK5,Hv21,Hv23,HLL0,HB⟩:=hrel
    by_cases hltj:j<LL0.length
    ·have pj:0≤((j:Nat):Int):=by omega
     have qj:((j:Nat):Int)<(LL0.length:Int):=by omega
     have cj:decide ((j:Int)<(LL0.length:Int))=true:=decide_eq_true qj
     obtain⟨adj,eadj,hxj⟩:=Kd.at_int (Kd.R_reads' HLL0.out).2.2 (j:Int) pj qj
     cases eadj
     simp only[Int.toNat_natCast] at hxj
     have HST:=Aside0.mk (row_step ([]:List S38) LL0 false j hltj)
     obtain⟨xj,hxv⟩: ∃ x_,x_=rd LL0 (j:Int):=⟨_,rfl⟩
     obtain⟨RW,hRW⟩: ∃ r_,r_=(([]:List S38) ++ (LL0.take j).map (fun i=>(⟨i,false⟩:S38))):=⟨_,rfl⟩
     have HRL:Aside0 (RW.length≤1000000):=⟨by rw[hRW];simp;have:=HLE0.out;omega⟩
     rw[← hRW, ← hxv] at HST
     obtain⟨RW2,hRW2⟩: ∃ r_,r_=(([]:List S38) ++ (LL0.take (j+1)).map (fun i=>(⟨i,false⟩:S38))):=⟨_,rfl⟩
     rw[← hRW2] at HST
     have HRW2:=Aside0.mk hRW2
     clear hRW2
     rw[← hxv] at hxj
     rw[← hRW] at HO
     have HRW:=Aside0.mk hRW
     have HXV:=Aside0.mk hxv
     clear hRW hxv
     obtain⟨oki,c_,_,hM_,hcc_,_,_,hH_⟩:=Kd.S_elem HO.out [] (k:Int) pk qk
     obtain⟨vr,rfl,hR_⟩:=hM_
     rw[show ((rowsAt l0_2 n0 k).set k RW).getD (k:Int).toNat []=RW from rd_set (rowsAt l0_2 n0 k) k RW (by rw[rowsAt_len];exact hlt)] at hR_
     obtain⟨Ar,cr,er⟩:=Kd.R_slice hR_
     subst er
     have hx4:=hcc_ 0 _ rfl
     rw[show ((Kd.slice 38 k38)).sz=1 from rfl,Nat.mul_one,Nat.add_zero,Int.toNat_natCast] at hx4
     have UU:=Aside0.mk hR_
     have HH:=Aside0.mk hH_
     clear hcc_ hR_ hH_
     have hx5:wr.cell? ⟨gb5,4,none⟩=some (.slice (some ⟨go,0,none⟩) n0 co):=(blk_cell BK5.out 4).trans rfl
     go_wp2_with fail
     refine start_ (n:=14) (S:=fun w'=>w'.cell? ⟨gb5,4,none⟩=some (.slice (some ⟨go,0,none⟩) n0 co)∧w'.cell? ⟨go,k,none⟩=some (.slice Ar RW.length cr)) (ds:=[13]) #[false,false,false,false,false,false,false,false,false,false,false,false,false,false] (by kernel_rfl) rfl rfl ⟨hx5,hx4⟩ (fun hHeld=> ?_)
     have m0_:=Aside0.mk (below_drew HB.out)
     have m1_:=Aside0.mk ((show wr.drew.heap[gb111]? =_ from BK111.out))
     have m2_:=Aside0.mk ((show wr.drew.heap[gb4]? =_ from BK4.out))
     have m3_:=Aside0.mk ((show wr.drew.heap[gb5]? =_ from BK5.out))
     have m4_:=Aside0.mk (Kd.S_drew Hv21.out)
     have m5_:=Aside0.mk (Kd.S_drew Hv23.out)
     have m6_:=Aside0.mk (Kd.R_drew HLL0.out)
     have m7_:=Aside0.mk (Kd.R_drew UU.out)
     have m8_:=Aside0.mk (Kd.H_drew HH.out)
     clear HB BK111 BK4 BK5 Hv21 Hv23 HLL0 UU HH
     have HB:=m0_
     clear m0_
     have BK111:=m1_
     clear m1_
     have BK4:=m2_
     clear m2_
     have BK5:=m3_
     clear m3_
     have Hv21:=m4_
     clear m4_
     have Hv23:=m5_
     clear m5_
     have HLL0:=m6_
     clear m6_
     have UU:=m7_
     clear m7_
     have HH:=m8_
     clear m8_
     clear HO hxj hx5 hx4
     generalize wr.drew=w14 at HB BK111 BK4 BK5 Hv21 Hv23 HLL0 UU HH hHeld ⊢
     refine pure_ (i:=0) (N:=some 38) (v:= ?_) (a':= ?_) #[true,false,false,false,false,false,false,false,false,false,false,false,false,false] rfl rfl (by kernel_rfl) (fun _ _ _ h=>h) (Or.inl ⟨by rfl,?_⟩) ?_ ?_
     rotate_left
     ·intro w'
      go_simp
      with_reducible rfl
     rotate_left
     ·simp only[Act.put,List.setIfInBounds_toArray,List.set_cons_zero,List.set_cons_succ,i64_w,i32_w]
      rfl
     refine pure_ (i:=2) (N:=some 40) (v:= ?_) (a':= ?_) #[true,false,true,false,false,false,false,false,false,false,false,false,false,false] rfl rfl (by kernel_rfl) (fun _ _ _ h=>h) (Or.inl ⟨by rfl,?_⟩) ?_ ?_
     rotate_left
     ·intro w'
      go_simp
      with_reducible rfl
     rotate_left
     ·simp only[Act.put,List.setIfInBounds_toArray,List.set_cons_zero,List.set_cons_succ,i64_w,i32_w]
      rfl
     refine pure_ (i:=3) (N:=some 41) (v:= ?_) (a':= ?_) #[true,false,true,true,false,false,false,false,false,false,false,false,false,false] rfl rfl (by kernel_rfl) (fun _ _ _ h=>h) (Or.inl ⟨by rfl,?_⟩) ?_ ?_
     rotate_left
     ·intro w'
      go_simp
      with_reducible rfl
     rotate_left
     ·simp only[Act.put,List.setIfInBounds_toArray,List.set_cons_zero,List.set_cons_succ,i64_w,i32_w]
      rfl
     refine pure_ (i:=5) (N:=some 43) (v:= ?_) (a':= ?_) #[true,false,true,true,false,true,false,false,false,false,false,false,false,false] rfl rfl (by kernel_rfl) (fun _ _ _ h=>h) (Or.inl ⟨by rfl,?_⟩) ?_ ?_
     rotate_left
     ·intro w'
      go_simp
      with_reducible rfl
     rotate_left
     ·simp only[Act.put,List.setIfInBounds_toArray,List.set_cons_zero,List.set_cons_succ,i64_w,i32_w]
      rfl
     refine pure_ (i:=8) (N:=some 46) (v:= ?_) (a':= ?_) #[true,false,true,true,false,true,false,false,true,false,false,false,false,false] rfl rfl (by kernel_rfl) (fun _ _ _ h=>h) (Or.inl ⟨by rfl,?_⟩) ?_ ?_
     rotate_left
     ·intro w'
      go_simp
      with_reducible rfl
     rotate_left
     ·simp only[Act.put,List.setIfInBounds_toArray,List.set_cons_zero,List.set_cons_succ,i64_w,i32_w]
      rfl
     refine pure_ (i:=9) (N:=some 47) (v:= ?_) (a':= ?_) #[true,false,true,true,false,true,false,false,true,true,false,false,false,false] rfl rfl (by kernel_rfl) (fun _ _ _ h=>h) (Or.inl ⟨by rfl,?_⟩) ?_ ?_
     rotate_left
     ·intro w'
      go_simp
      with_reducible rfl
     rotate_left
     ·simp only[Act.put,List.setIfInBounds_toArray,List.set_cons_zero,List.set_cons_succ,i64_w,i32_w]
      rfl
     refine take_ (i:=1) (N:=some 39) (v:= ?_) (a':= ?_) #[true,true,true,true,false,true,false,false,true,true,false,false,false,false] rfl rfl (by kernel_rfl) (fun _ _ _ h=>h) (Or.inl ⟨by rfl,?_⟩) hHeld ?_ ?_
     rotate_left
     ·rintro w' ⟨s0,s1⟩
      go_simp
      with_reducible rfl
     rotate_left
     ·simp only[Act.put,List.setIfInBounds_toArray,List.set_cons_zero,List.set_cons_succ,i64_w,i32_w]
      rfl
     refine take_ (i:=4) (N:=some 42) (v:= ?_) (a':= ?_) #[true,true,true,true,true,true,false,false,true,true,false,false,false,false] rfl rfl (by kernel_rfl) (fun _ _ _ h=>h) (Or.inl ⟨by rfl,?_⟩) hHeld ?_ ?_
     rotate_left
     ·rintro w' ⟨s0,s1⟩
      go_simp
      with_reducible rfl
     rotate_left
     ·simp only[Act.put,List.setIfInBounds_toArray,List.set_cons_zero,List.set_cons_succ,i64_w,i32_w]
      rfl
     refine pure_ (i:=6) (N:=some 44) (v:= ?_) (a':= ?_) #[true,true,true,true,true,true,true,false,true,true,false,false,false,false] rfl rfl (by kernel_rfl) (fun _ _ _ h=>h) (Or.inl ⟨by rfl,?_⟩) ?_ ?_
     rotate_left
     ·intro w'
      go_simp
      with_reducible rfl
     rotate_left
     ·simp only[Act.put,List.setIfInBounds_toArray,List.set_cons_zero,List.set_cons_succ,i64_w,i32_w]
      rfl
     refine take_ (i:=7) (N:=some 45) (v:= ?_) (a':= ?_) #[true,true,true,true,true,true,true,true,true,true,false,false,false,false] rfl rfl (by kernel_rfl) (fun _ _ _ h=>h) (Or.inl ⟨by rfl,?_⟩) hHeld ?_ ?_
     rotate_left
     ·rintro w' ⟨s0,s1⟩
      go_simp
      with_reducible rfl
     rotate_left
     ·simp only[Act.put,List.setIfInBounds_toArray,List.set_cons_zero,List.set_cons_succ,i64_w,i32_w]
      rfl
     refine one_ (i:=10) (N:=some 48) #[true,true,true,true,true,true,true,true,true,true,true,false,false,false] rfl rfl (by kernel_rfl) (by decide) (fun K hK=> ?_)
     refine value_ (w1:= ?_) (v:= ?_) (by rfl) rfl ?_ ?_
     rotate_left 2
     ·go_simp
      constructor
      ·rfl
      ·rfl
     refine hK.out _ _ ⟨(blk_cell (blk_alloc BK5.out _) 4).trans rfl,(World.cell?_alloc_lt _ _ _ (World.block_lt_of_cell? _ _ hHeld.2)).trans hHeld.2⟩ (fun hHeld2=> ?_)
     clear hK K hHeld2
     refine norm_ (a':= ?_) ?_ ?_
     rotate_left
     ·show Act.put _ (some 48) _=_
      simp only[Act.put,List.setIfInBounds_toArray,List.set_cons_zero,List.set_cons_succ,i64_w,i32_w]
      rfl
     refine one_ (i:=11) (N:=some 49) #[true,true,true,true,true,true,true,true,true,true,true,true,false,false] rfl rfl (by kernel_rfl) (by decide) (fun K hK=> ?_)
     refine Kd.R_append_step k38 (w0:=w) w.heap.size (by rfl) (.tmp 45) (.tmp 48) 34 38 (.agg #[(.int .i64 0),(.bool false)]) 16 rfl Try.underlying34 info38 rfl (by decide) (by omega) (.slice Ar RW.length cr) RW (⟨xj,false⟩:S38) [.int .i64 xj, .bool false] (fun k_=>oki k_∨((fun _=>True)) k_∧w14.heap.size≤k_) (fun _=>False) rfl rfl ?aP (fun _ hk=>hk.elim) ?aF ?aO ?aB ?aS ?aL ?_
     (case aP=>exact k38_mkM _ _ _ (⟨xj,false⟩:S38))
     (case aF=>exact fun k_ hk=> .inr ⟨trivial,hk⟩)
     (case aO=>exact Kd.R_mono UU.out (fun _ hk=> .inl hk))
     (case aB=>exact HB.out)
     (case aS=>exact HB.out.size)
     (case aL=>have:=HRL.out;omega)
     intro v_ w16 ho hb hg hat
     clear hat
     have m0_:=Aside0.mk (blk_grown BK111.out hg (Kd.R_ne UU.out BK111.out (by decide)))
     have m1_:=Aside0.mk (blk_grown BK4.out hg (Kd.R_ne UU.out BK4.out (by decide)))
     have m2_:=Aside0.mk (blk_grown BK5.out hg (Kd.R_ne UU.out BK5.out (by decide)))
     have m3_:=Aside0.mk (Kd.S_over' Hv21.out (Kd.R_typed UU.out) (by decide) hg)
     have m4_:=Aside0.mk (Kd.S_over' Hv23.out (Kd.R_typed UU.out) (by decide) hg)
     have m5_:=Aside0.mk (Kd.R_over' HLL0.out (Kd.R_typed UU.out) (by decide) hg)
     have m6_:=Aside0.mk (Kd.H_grown (Kd.H_widen HH.out) hg (fun k_ e_=> .inl (UU.out.1 k_ e_)))
     have m7_:=Aside0.mk (hb)
     have m8_:=Aside0.mk (ho)
     clear BK111 BK4 BK5 Hv21 Hv23 HLL0 HH HB UU
     have BK111:=m0_
     clear m0_
     have BK4:=m1_
     clear m1_
     have BK5:=m2_
     clear m2_
     have Hv21:=m3_
     clear m3_
     have Hv23:=m4_
     clear m4_
     have HLL0:=m5_
     clear m5_
     have HH:=m6_
     clear m6_
     have HB:=m7_
     clear m7_
     have UU:=m8_
     clear m8_
     rw[← HST.out] at UU
     obtain⟨A2,c2,e2⟩:=Kd.R_slice UU.out
     subst e2
     obtain⟨_,_,hraw,_,_,hcc_,_⟩:=Kd.H_raw HH.out pk qk
     obtain⟨_,hfr_⟩:=Kd.H_at HH.out pk qk
     have hx4:=hcc_ 0 _ rfl
     have hf4:=hfr_ 0
     rw[show ((Kd.slice 38 k38)).sz=1 from rfl,Nat.mul_one,Nat.add_zero,Int.toNat_natCast] at hx4 hf4
     have HRAW:=Aside0.mk hraw
     clear hcc_ hfr_ hraw ho hb hg
     refine hK.out _ _ ⟨(blk_cell BK5.out 4).trans rfl,hx4⟩ (fun hHeld=> ?_)
     clear hK K
     refine norm_ (a':= ?_) ?_ ?_
     rotate_left
     ·show Act.put _ (some 49) _=_
      simp only[Act.put,List.setIfInBounds_toArray,List.set_cons_zero,List.set_cons_succ,i64_w,i32_w]
      rfl
     refine pure_ (i:=12) (N:=some 50) (v:= ?_) (a':= ?_) #[true,true,true,true,true,true,true,true,true,true,true,true,true,false] rfl rfl (by kernel_rfl) (fun _ _ _ h=>h) (Or.inl ⟨by rfl,?_⟩) ?_ ?_
     rotate_left
     ·intro w'
      go_simp
      with_reducible rfl
     rotate_left
     ·simp only[Act.put,List.setIfInBounds_toArray,List.set_cons_zero,List.set_cons_succ,i64_w,i32_w]
      rfl
     have HP:=Kd.S_seg0 HH.out pk qk (seg:=[.slice A2 RW2.length c2]) (j:=0) (show 1≤1 from by decide) (x':=RW2) (Kd.M_row UU.out) (fun _ hk=>hk)
     rw[show ((Kd.slice 38 k38)).sz=1 from rfl,Nat.mul_one,Nat.add_zero,Int.toNat_natCast,List.set_set] at HP
     have HG2:w16.grownBy (w16.setCell ⟨go,k,none⟩ (.slice A2 RW2.length c2)) (some go):=HP.2
     have HO:=Aside0.mk (show Kd.S (Kd.slice 38 k38) 34 (w16.setCell ⟨go,k,none⟩ (.slice A2 RW2.length c2)) w.heap.size (fun _=>True) (.slice (some ⟨go,0,none⟩) n0 co) ((rowsAt l0_2 n0 k).set k RW2) from HP.1)
     refine last_ (i:=13) (N:=none) #[true,true,true,true,true,true,true,true,true,true,true,true,true,true] rfl rfl (by kernel_rfl) (by decide) (fun K hK=> ?_)
     refine skip_ (w1:=w16.setCell ⟨go,k,none⟩ (.slice A2 RW2.length c2)) (by rfl) rfl ?_ ?_
     ·go_simp
     refine hK.out _ _ ?_
     clear hK K
     have m0_:=Aside0.mk (blk_grown BK111.out HG2 (Kd.R_ne HRAW.out BK111.out (by decide)))
     have m1_:=Aside0.mk (blk_grown BK4.out HG2 (Kd.R_ne HRAW.out BK4.out (by decide)))
     have m2_:=Aside0.mk (blk_grown BK5.out HG2 (Kd.R_ne HRAW.out BK5.out (by decide)))
     have m3_:=Aside0.mk (Kd.S_over' Hv21.out (Kd.R_typed HRAW.out) (by decide) HG2)
     have m4_:=Aside0.mk (Kd.S_over' Hv23.out (Kd.R_typed HRAW.out) (by decide) HG2)
     have m5_:=Aside0.mk (Kd.R_over' HLL0.out (Kd.R_typed HRAW.out) (by decide) HG2)
     have m6_:=Aside0.mk ((below_set HB.out GBO.out:Below w.heap.size w (w16.setCell ⟨go,k,none⟩ (.slice A2 RW2.length c2))))
     clear BK111 BK4 BK5 Hv21 Hv23 HLL0 HB
     have BK111:=m0_
     clear m0_
     have BK4:=m1_
     clear m1_
     have BK5:=m2_
     clear m2_
     have Hv21:=m3_
     clear m3_
     have Hv23:=m4_
     clear m4_
     have HLL0:=m5_
     clear m5_
     have HB:=m6_
     clear m6_
     clear HP HG2 HRAW UU HH hHeld hx4 hf4
     refine done_ (by kernel_rfl) ?_
     generalize w16.setCell ⟨go,k,none⟩ (.slice A2 RW2.length c2)=w17 at HO BK111 BK4 BK5 Hv21 Hv23 HLL0 HB ⊢
     rw[HRW2.out] at HO
     clear HRW2 HST HRW
     go_wp2_with fail
     go_roundw
     case rel=>exact⟨j+1,by omega,by first|rfl|go_num,HO,BK111,BK4,BK5,Hv21,Hv23,HLL0,HB⟩
     case measure=>simp[intOf]<;>omega
    ·have ej:j=LL0.length:=by omega
     subst ej
     rw[List.take_length] at HO
     have cj:decide ((LL0.length:Int)<(LL0.length:Int))=false:=decide_eq_false (by omega)
     have hlenx:True:=trivial
     obtain⟨ad1,AA1,cc1,e_,hx_,hl_,_⟩:=at_L7 (Kd.S_reads' Hv23.out).2.2 (k:Int) pk (by rw[hn1];omega)
     cases e_
     obtain⟨ce_,hce_,hM_,hcc_⟩:=Kd.S_get Hv23.out [] (k:Int) pk qk
     obtain⟨ve_,rfl,ge_⟩:=hM_
     have hv_:=hcc_ 0 _ rfl
     rw[Nat.add_zero,show ((Kd.slice 3 (Kd.int .i64))).sz=1 from rfl,Nat.mul_one] at hv_
     replace hv_:=Option.some.inj (hv_.symm.trans hx_)
     rw[hv_] at ge_
     obtain⟨LL1,hLL1⟩: ∃ L,L=rd_L7 L1 (k:Int):=⟨_,rfl⟩
     have HLL1:Aside0 (Kd.R (Kd.int .i64) 3 wr w.heap.size (fun _=>True) (.slice AA1 LL1.length cc1) LL1):=⟨by rw[hLL1];exact Kd.R_mono ge_ (fun _ _=>trivial)⟩
     rw[← hLL1] at hx_
     simp only[Int.toNat_natCast] at hx_
     have HELL1:=Aside0.mk hLL1
     clear ge_ hv_ hcc_ hce_ hl_ hLL1
     have hxLL1:=hx_
     clear hx_
     have HLE1:Aside0 (LL1.length≤500000):=⟨by rw[HELL1.out,HL1.out];exact Nat.le_trans (lsAt_row _ _ _ _ _) hl⟩
     go_wp2_with fail
     have hLL1:=HLE1.out
     obtain⟨wo2,hwo2⟩: ∃ x_:World,x_=wr:=⟨_,rfl⟩
     subst hwo2
     go_loopw [57] (fun v_ w'=> ∃ j:Nat,j≤LL1.length∧v_= .int .i64 j∧Aside0 (Kd.S (Kd.slice 38 k38) 34 w' w.heap.size (fun _=>True) (.slice (some ⟨go,0,none⟩) n0 co) ((rowsAt l0_2 n0 k).set k ((([]:List S38) ++ LL0.map (fun i=>(⟨i,false⟩:S38))) ++ (LL1.take j).map (fun i=>(⟨i,true⟩:S38)))))∧Aside0 (w'.heap[gb111]? =some (.cells #[.int .i64 (n0:Int), .bool a0_1, .slice A0_2 l0_2.length c0_2] 24 (0,0)))∧Aside0 (w'.heap[gb4]? =some (.cells #[.int .i64 0, .bool false, .slice none 0 0, .slice none 0 0, .slice none 0 0] 118 (0,0)))∧Aside0 (w'.heap[gb5]? =some (.cells #[.int .i64 (n0:Int), .bool a0_1, .slice A0_2 l0_2.length c0_2, .slice A1 n1 c1, .slice (some ⟨go,0,none⟩) n0 co] 118 (0,0)))∧Aside0 (Kd.S (Kd.slice 3 (Kd.int .i64)) 25 w' w.heap.size (fun _=>True) (.slice (some ad0) n0 cv21) L0)∧Aside0 (Kd.S (Kd.slice 3 (Kd.int .i64)) 25 w' w.heap.size (fun _=>True) (.slice (some ad1) n0 cv23) L1)∧Aside0 (Kd.R (Kd.int .i64) 3 w' w.heap.size (fun _=>True) (.slice AA1 LL1.length cc1) LL1)∧Aside0 (Below w.heap.size w w')) (fun v_ _=>LL1.length - (intOf v_).toNat)
     case atStart=>exact⟨0,Nat.zero_le _,rfl,⟨by rw[List.take_zero,List.map_nil,List.append_nil];exact HO.out⟩,BK111,BK4,BK5,Hv21,Hv23,HLL1,HB⟩
     case round=>
      clear HO BK111 BK4 BK5 Hv21 Hv23 HLL1 HB
      obtain⟨j,hj,rfl,HO,BK111,BK4,BK5,Hv21,Hv23,HLL1,HB⟩:=hrel
      by_cases hltj:j<LL1.length
      ·have pj:0≤((j:Nat):Int):=by omega
       have qj:((j:Nat):Int)<(LL1.length:Int):=by omega
       have cj:decide ((j:Int)<(LL1.length:Int))=true:=decide_eq_true qj
       obtain⟨adj,eadj,hxj⟩:=Kd.at_int (Kd.R_reads' HLL1.out).2.2 (j:Int) pj qj
       cases eadj
       simp only[Int.toNat_natCast] at hxj
       have HST:=Aside0.mk (row_step (([]:List S38) ++ LL0.map (fun i=>(⟨i,false⟩:S38))) LL1 true j hltj)
       obtain⟨xj,hxv⟩: ∃ x_,x_=rd LL1 (j:Int):=⟨_,rfl⟩
       obtain⟨RW,hRW⟩: ∃ r_,r_=((([]:List S38) ++ LL0.map (fun i=>(⟨i,false⟩:S38))) ++ (LL1.take j).map (fun i=>(⟨i,true⟩:S38))):=⟨_,rfl⟩
       have HRL:Aside0 (RW.length≤1000000):=⟨by rw[hRW];simp;have:=HLE0.out;have:=HLE1.out;omega⟩
       rw[← hRW, ← hxv] at HST
       obtain⟨RW2,hRW2⟩: ∃ r_,r_=((([]:List S38) ++ LL0.map (fun i=>(⟨i,false⟩:S38))) ++ (LL1.take (j+1)).map (fun i=>(⟨i,true⟩:S38))):=⟨_,rfl⟩
       rw[← hRW2] at HST
       have HRW2:=Aside0.mk hRW2
       clear hRW2
       rw[← hxv] at hxj
       rw[← hRW] at HO
       have HRW:=Aside0.mk hRW
       have HXV:=Aside0.mk hxv
       clear hRW hxv
       obtain⟨oki,c_,_,hM_,hcc_,_,_,hH_⟩:=Kd.S_elem HO.out [] (k:Int) pk qk
       obtain⟨vr,rfl,hR_⟩:=hM_
       rw[show ((rowsAt l0_2 n0 k).set k RW).getD (k:Int).toNat []=RW from rd_set (rowsAt l0_2 n0 k) k RW (by rw[rowsAt_len];exact hlt)] at hR_
       obtain⟨Ar,cr,er⟩:=Kd.R_slice hR_
       subst er
       have hx4:=hcc_ 0 _ rfl
       rw[show ((Kd.slice 38 k38)).sz=1 from rfl,Nat.mul_one,Nat.add_zero,Int.toNat_natCast] at hx4
       have UU:=Aside0.mk hR_
       have HH:=Aside0.mk hH_
       clear hcc_ hR_ hH_
       have hx5:wr.cell? ⟨gb5,4,none⟩=some (.slice (some ⟨go,0,none⟩) n0 co):=(blk_cell BK5.out 4).trans rfl
       go_wp2_with fail
       refine start_ (n:=14) (S:=fun w'=>w'.cell? ⟨gb5,4,none⟩=some (.slice (some ⟨go,0,none⟩) n0 co)∧w'.cell? ⟨go,k,none⟩=some (.slice Ar RW.length cr)) (ds:=[13]) #[false,false,false,false,false,false,false,false,false,false,false,false,false,false] (by kernel_rfl) rfl rfl ⟨hx5,hx4⟩ (fun hHeld=> ?_)
       have m0_:=Aside0.mk (below_drew HB.out)
       have m1_:=Aside0.mk ((show wr.drew.heap[gb111]? =_ from BK111.out))
       have m2_:=Aside0.mk ((show wr.drew.heap[gb4]? =_ from BK4.out))
       have m3_:=Aside0.mk ((show wr.drew.heap[gb5]? =_ from BK5.out))
       have m4_:=Aside0.mk (Kd.S_drew Hv21.out)
       have m5_:=Aside0.mk (Kd.S_drew Hv23.out)
       have m6_:=Aside0.mk (Kd.R_drew HLL1.out)
       have m7_:=Aside0.mk (Kd.R_drew UU.out)
       have m8_:=Aside0.mk (Kd.H_drew HH.out)
       clear HB BK111 BK4 BK5 Hv21 Hv23 HLL1 UU HH
       have HB:=m0_
       clear m0_
       have BK111:=m1_
       clear m1_
       have BK4:=m2_
       clear m2_
       have BK5:=m3_
       clear m3_
       have Hv21:=m4_
       clear m4_
       have Hv23:=m5_
       clear m5_
       have HLL1:=m6_
       clear m6_
       have UU:=m7_
       clear m7_
       have HH:=m8_
       clear m8_
       clear HO hxj hx5 hx4
       generalize wr.drew=w14 at HB BK111 BK4 BK5 Hv21 Hv23 HLL1 UU HH hHeld ⊢
       refine pure_ (i:=0) (N:=some 61) (v:= ?_) (a':= ?_) #[true,false,false,false,false,false,false,false,false,false,false,false,false,false] rfl rfl (by kernel_rfl) (fun _ _ _ h=>h) (Or.inl ⟨by rfl,?_⟩) ?_ ?_
       rotate_left
       ·intro w'
        go_simp
        with_reducible rfl
       rotate_left
       ·simp only[Act.put,List.setIfInBounds_toArray,List.set_cons_zero,List.set_cons_succ,i64_w,i32_w]
        rfl
       refine pure_ (i:=2) (N:=some 63) (v:= ?_) (a':= ?_) #[true,false,true,false,false,false,false,false,false,false,false,false,false,false] rfl rfl (by kernel_rfl) (fun _ _ _ h=>h) (Or.inl ⟨by rfl,?_⟩) ?_ ?_
       rotate_left
       ·intro w'
        go_simp
        with_reducible rfl
       rotate_left
       ·simp only[Act.put,List.setIfInBounds_toArray,List.set_cons_zero,List.set_cons_succ,i64_w,i32_w]
        rfl
       refine pure_ (i:=3) (N:=some 64) (v:= ?_) (a':= ?_) #[true,false,true,true,false,false,false,false,false,false,false,false,false,false] rfl rfl (by kernel_rfl) (fun _ _ _ h=>h) (Or.inl ⟨by rfl,?_⟩) ?_ ?_
       rotate_left
       ·intro w'
        go_simp
        with_reducible rfl
       rotate_left
       ·simp only[Act.put,List.setIfInBounds_toArray,List.set_cons_zero,List.set_cons_succ,i64_w,i32_w]
        rfl
       refine pure_ (i:=5) (N:=some 66) (v:= ?_) (a':= ?_) #[true,false,true,true,false,true,false,false,false,false,false,false,false,false] rfl rfl (by kernel_rfl) (fun _ _ _ h=>h) (Or.inl ⟨by rfl,?_⟩) ?_ ?_
       rotate_left
       ·intro w'
        go_simp
        with_reducible rfl
       rotate_left
       ·simp only[Act.put,List.setIfInBounds_toArray,List.set_cons_zero,List.set_cons_succ,i64_w,i32_w]
        rfl
       refine pure_ (i:=8) (N:=some 69) (v:= ?_) (a':= ?_) #[true,false,true,true,false,true,false,false,true,false,false,false,false,false] rfl rfl (by kernel_rfl) (fun _ _ _ h=>h) (Or.inl ⟨by rfl,?_⟩) ?_ ?_
       rotate_left
       ·intro w'
        go_simp
        with_reducible rfl
       rotate_left
       ·simp only[Act.put,List.setIfInBounds_toArray,List.set_cons_zero,List.set_cons_succ,i64_w,i32_w]
        rfl
       refine pure_ (i:=9) (N:=some 70) (v:= ?_) (a':= ?_) #[true,false,true,true,false,true,false,false,true,true,false,false,false,false] rfl rfl (by kernel_rfl) (fun _ _ _ h=>h) (Or.inl ⟨by rfl,?_⟩) ?_ ?_
       rotate_left
       ·intro w'
        go_simp
        with_reducible rfl
       rotate_left
       ·simp only[Act.put,List.setIfInBounds_toArray,List.set_cons_zero,List.set_cons_succ,i64_w,i32_w]
        rfl
       refine take_ (i:=1) (N:=some 62) (v:= ?_) (a':= ?_) #[true,true,true,true,false,true,false,false,true,true,false,false,false,false] rfl rfl (by kernel_rfl) (fun _ _ _ h=>h) (Or.inl ⟨by rfl,?_⟩) hHeld ?_ ?_
       rotate_left
       ·rintro w' ⟨s0,s1⟩
        go_simp
        with_reducible rfl
       rotate_left
       ·simp only[Act.put,List.setIfInBounds_toArray,List.set_cons_zero,List.set_cons_succ,i64_w,i32_w]
        rfl
       refine take_ (i:=4) (N:=some 65) (v:= ?_) (a':= ?_) #[true,true,true,true,true,true,false,false,true,true,false,false,false,false] rfl rfl (by kernel_rfl) (fun _ _ _ h=>h) (Or.inl ⟨by rfl,?_⟩) hHeld ?_ ?_
       rotate_left
       ·rintro w' ⟨s0,s1⟩
        go_simp
        with_reducible rfl
       rotate_left
       ·simp only[Act.put,List.setIfInBounds_toArray,List.set_cons_zero,List.set_cons_succ,i64_w,i32_w]
        rfl
       refine pure_ (i:=6) (N:=some 67) (v:= ?_) (a':= ?_) #[true,true,true,true,true,true,true,false,true,true,false,false,false,false] rfl rfl (by kernel_rfl) (fun _ _ _ h=>h) (Or.inl ⟨by rfl,?_⟩) ?_ ?_
       rotate_left
       ·intro w'
        go_simp
        with_reducible rfl
       rotate_left
       ·simp only[Act.put,List.setIfInBounds_toArray,List.set_cons_zero,List.set_cons_succ,i64_w,i32_w]
        rfl
       refine take_ (i:=7) (N:=some 68) (v:= ?_) (a':= ?_) #[true,true,true,true,true,true,true,true,true,true,false,false,false,false] rfl rfl (by kernel_rfl) (fun _ _ _ h=>h) (Or.inl ⟨by rfl,?_⟩) hHeld ?_ ?_
       rotate_left
       ·rintro w' ⟨s0,s1⟩
        go_simp
        with_reducible rfl
       rotate_left
       ·simp only[Act.put,List.setIfInBounds_toArray,List.set_cons_zero,List.set_cons_succ,i64_w,i32_w]
        rfl
       refine one_ (i:=10) (N:=some 71) #[true,true,true,true,true,true,true,true,true,true,true,false,false,false] rfl rfl (by kernel_rfl) (by decide) (fun K hK=> ?_)
       refine value_ (w1:= ?_) (v:= ?_) (by rfl) rfl ?_ ?_
       rotate_left 2
       ·go_simp
        constructor
        ·rfl
        ·rfl
       refine hK.out _ _ ⟨(blk_cell (blk_alloc BK5.out _) 4).trans rfl,(World.cell?_alloc_lt _ _ _ (World.block_lt_of_cell? _ _ hHeld.2)).trans hHeld.2⟩ (fun hHeld2=> ?_)
       clear hK K hHeld2
       refine norm_ (a':= ?_) ?_ ?_
       rotate_left
       ·show Act.put _ (some 71) _=_
        simp only[Act.put,List.setIfInBounds_toArray,List.set_cons_zero,List.set_cons_succ,i64_w,i32_w]
        rfl
       refine one_ (i:=11) (N:=some 72) #[true,true,true,true,true,true,true,true,true,true,true,true,false,false] rfl rfl (by kernel_rfl) (by decide) (fun K hK=> ?_)
       refine Kd.R_append_step k38 (w0:=w) w.heap.size (by rfl) (.tmp 68) (.tmp 71) 34 38 (.agg #[(.int .i64 0),(.bool false)]) 16 rfl Try.underlying34 info38 rfl (by decide) (by omega) (.slice Ar RW.length cr) RW (⟨xj,true⟩:S38) [.int .i64 xj, .bool true] (fun k_=>oki k_∨((fun _=>True)) k_∧w14.heap.size≤k_) (fun _=>False) rfl rfl ?aP (fun _ hk=>hk.elim) ?aF ?aO ?aB ?aS ?aL ?_
       (case aP=>exact k38_mkM _ _ _ (⟨xj,true⟩:S38))
       (case aF=>exact fun k_ hk=> .inr ⟨trivial,hk⟩)
       (case aO=>exact Kd.R_mono UU.out (fun _ hk=> .inl hk))
       (case aB=>exact HB.out)
       (case aS=>exact HB.out.size)
       (case aL=>have:=HRL.out;omega)
       intro v_ w16 ho hb hg hat
       clear hat
       have m0_:=Aside0.mk (blk_grown BK111.out hg (Kd.R_ne UU.out BK111.out (by decide)))
       have m1_:=Aside0.mk (blk_grown BK4.out hg (Kd.R_ne UU.out BK4.out (by decide)))
       have m2_:=Aside0.mk (blk_grown BK5.out hg (Kd.R_ne UU.out BK5.out (by decide)))
       have m3_:=Aside0.mk (Kd.S_over' Hv21.out (Kd.R_typed UU.out) (by decide) hg)
       have m4_:=Aside0.mk (Kd.S_over' Hv23.out (Kd.R_typed UU.out) (by decide) hg)
       have m5_:=Aside0.mk (Kd.R_over' HLL1.out (Kd.R_typed UU.out) (by decide) hg)
       have m6_:=Aside0.mk (Kd.H_grown (Kd.H_widen HH.out) hg (fun k_ e_=> .inl (UU.out.1 k_ e_)))
       have m7_:=Aside0.mk (hb)
       have m8_:=Aside0.mk (ho)
       clear BK111 BK4 BK5 Hv21 Hv23 HLL1 HH HB UU
       have BK111:=m0_
       clear m0_
       have BK4:=m1_
       clear m1_
       have BK5:=m2_
       clear m2_
       have Hv21:=m3_
       clear m3_
       have Hv23:=m4_
       clear m4_
       have HLL1:=m5_
       clear m5_
       have HH:=m6_
       clear m6_
       have HB:=m7_
       clear m7_
       have UU:=m8_
       clear m8_
       rw[← HST.out] at UU
       obtain⟨A2,c2,e2⟩:=Kd.R_slice UU.out
       subst e2
       obtain⟨_,_,hraw,_,_,hcc_,_⟩:=Kd.H_raw HH.out pk qk
       obtain⟨_,hfr_⟩:=Kd.H_at HH.out pk qk
       have hx4:=hcc_ 0 _ rfl
       have hf4:=hfr_ 0
       rw[show ((Kd.slice 38 k38)).sz=1 from rfl,Nat.mul_one,Nat.add_zero,Int.toNat_natCast] at hx4 hf4
       have HRAW:=Aside0.mk hraw
       clear hcc_ hfr_ hraw ho hb hg
       refine hK.out _ _ ⟨(blk_cell BK5.out 4).trans rfl,hx4⟩ (fun hHeld=> ?_)
       clear hK K
       refine norm_ (a':= ?_) ?_ ?_
       rotate_left
       ·show Act.put _ (some 72) _=_
        simp only[Act.put,List.setIfInBounds_toArray,List.set_cons_zero,List.set_cons_succ,i64_w,i32_w]
        rfl
       refine pure_ (i:=12) (N:=some 73) (v:= ?_) (a':= ?_) #[true,true,true,true,true,true,true,true,true,true,true,true,true,false] rfl rfl (by kernel_rfl) (fun _ _ _ h=>h) (Or.inl ⟨by rfl,?_⟩) ?_ ?_
       rotate_left
       ·intro w'
        go_simp
        with_reducible rfl
       rotate_left
       ·simp only[Act.put,List.setIfInBounds_toArray,List.set_cons_zero,List.set_cons_succ,i64_w,i32_w]
        rfl
       have HP:=Kd.S_seg0 HH.out pk qk (seg:=[.slice A2 RW2.length c2]) (j:=0) (show 1≤1 from by decide) (x':=RW2) (Kd.M_row UU.out) (fun _ hk=>hk)
       rw[show ((Kd.slice 38 k38)).sz=1 from rfl,Nat.mul_one,Nat.add_zero,Int.toNat_natCast,List.set_set] at HP
       have HG2:w16.grownBy (w16.setCell ⟨go,k,none⟩ (.slice A2 RW2.length c2)) (some go):=HP.2
       have HO:=Aside0.mk (show Kd.S (Kd.slice 38 k38) 34 (w16.setCell ⟨go,k,none⟩ (.slice A2 RW2.length c2)) w.heap.size (fun _=>True) (.slice (some ⟨go,0,none⟩) n0 co) ((rowsAt l0_2 n0 k).set k RW2) from HP.1)
       refine last_ (i:=13) (N:=none) #[true,true,true,true,true,true,true,true,true,true,true,true,true,true] rfl rfl (by kernel_rfl) (by decide) (fun K hK=> ?_)
       refine skip_ (w1:=w16.setCell ⟨go,k,none⟩ (.slice A2 RW2.length c2)) (by rfl) rfl ?_ ?_
       ·go_simp
       refine hK.out _ _ ?_
       clear hK K
       have m0_:=Aside0.mk (blk_grown BK111.out HG2 (Kd.R_ne HRAW.out BK111.out (by decide)))
       have m1_:=Aside0.mk (blk_grown BK4.out HG2 (Kd.R_ne HRAW.out BK4.out (by decide)))
       have m2_:=Aside0.mk (blk_grown BK5.out HG2 (Kd.R_ne HRAW.out BK5.out (by decide)))
       have m3_:=Aside0.mk (Kd.S_over' Hv21.out (Kd.R_typed HRAW.out) (by decide) HG2)
       have m4_:=Aside0.mk (Kd.S_over' Hv23.out (Kd.R_typed HRAW.out) (by decide) HG2)
       have m5_:=Aside0.mk (Kd.R_over' HLL1.out (Kd.R_typed HRAW.out) (by decide) HG2)
       have m6_:=Aside0.mk ((below_set HB.out GBO.out:Below w.heap.size w (w16.setCell ⟨go,k,none⟩ (.slice A2 RW2.length c2))))
       clear BK111 BK4 BK5 Hv21 Hv23 HLL1 HB
       have BK111:=m0_
       clear m0_
       have BK4:=m1_
       clear m1_
       have BK5:=m2_
       clear m2_
       have Hv21:=m3_
       clear m3_
       have Hv23:=m4_
       clear m4_
       have HLL1:=m5_
       clear m5_
       have HB:=m6_
       clear m6_
       clear HP HG2 HRAW UU HH hHeld hx4 hf4
       refine done_ (by kernel_rfl) ?_
       generalize w16.setCell ⟨go,k,none⟩ (.slice A2 RW2.length c2)=w17 at HO BK111 BK4 BK5 Hv21 Hv23 HLL1 HB ⊢
       rw[HRW2.out] at HO
       clear HRW2 HST HRW
       go_wp2_with fail
       go_roundw
       case rel=>exact⟨j+1,by omega,by first|rfl|go_num,HO,BK111,BK4,BK5,Hv21,Hv23,HLL1,HB⟩
       case measure=>simp[intOf]<;>omega
      ·have ej:j=LL1.length:=by omega
       subst ej
       rw[List.take_length] at HO
       have cj:decide ((LL1.length:Int)<(LL1.length:Int))=false:=decide_eq_false (by omega)
       obtain⟨RW,hRW⟩: ∃ r_,r_=((([]:List S38) ++ LL0.map (fun i=>(⟨i,false⟩:S38))) ++ LL1.map (fun i=>(⟨i,true⟩:S38))):=⟨_,rfl⟩
       have HRU:Aside0 (RW=stepsU l0_2 n0 (k:Int)):=⟨by rw[hRW,HELL0.out,HELL1.out,HL0.out,HL1.out];rfl⟩
       have HRL:Aside0 (RW.length≤1000000):=⟨by rw[hRW];simp;have:=HLE0.out;have:=HLE1.out;omega⟩
       rw[← hRW] at HO
       clear hRW
       obtain⟨oki,c_,_,hM_,hcc_,_,_,hH_⟩:=Kd.S_elem HO.out [] (k:Int) pk qk
       obtain⟨vr,rfl,hR_⟩:=hM_
       rw[show ((rowsAt l0_2 n0 k).set k RW).getD (k:Int).toNat []=RW from rd_set (rowsAt l0_2 n0 k) k RW (by rw[rowsAt_len];exact hlt)] at hR_
       obtain⟨Ar,cr,er⟩:=Kd.R_slice hR_
       subst er
       have hx4:=hcc_ 0 _ rfl
       rw[show ((Kd.slice 38 k38)).sz=1 from rfl,Nat.mul_one,Nat.add_zero,Int.toNat_natCast] at hx4
       have UU:=Aside0.mk hR_
       have HH:=Aside0.mk hH_
       clear hcc_ hR_ hH_
       have hx5:wr.cell? ⟨gb5,4,none⟩=some (.slice (some ⟨go,0,none⟩) n0 co):=(blk_cell BK5.out 4).trans rfl
       have HEN:Aside0 (ends l0_2 n0):=⟨fun i hi=>⟨HE0.out i hi,HE1.out i hi⟩⟩
       go_wp2_with (first|(go_at_call 143;refine(sort_row HH.out UU.out HRU.out hlt HEN.out (by omega) HRL.out).mono ?_;rintro e_ w20 ⟨rfl,vv,hg,hty,hS⟩;rw[List.set_set,rowsAt_set l0_2 n0 k hlt] at hS;have m0_:=Aside0.mk (blk_grown BK111.out hg (fun he=>by obtain⟨_,cells_,hc_⟩:=hty _ he.symm;have t_:=BK111.out.symm.trans hc_;simp at t_));have m1_:=Aside0.mk (blk_grown BK4.out hg (fun he=>by obtain⟨_,cells_,hc_⟩:=hty _ he.symm;have t_:=BK4.out.symm.trans hc_;simp at t_));have m2_:=Aside0.mk (blk_grown BK5.out hg (fun he=>by obtain⟨_,cells_,hc_⟩:=hty _ he.symm;have t_:=BK5.out.symm.trans hc_;simp at t_));have m3_:=Aside0.mk (Kd.S_over' (v:=vv) Hv21.out (fun k_ hk_=>(hty k_ hk_).2) (by decide) hg);have m4_:=Aside0.mk (Kd.S_over' (v:=vv) Hv23.out (fun k_ hk_=>(hty k_ hk_).2) (by decide) hg);have m5_:=Aside0.mk (HB.out.grown hg HB.out.size (fun k_ hk_=>(hty k_ hk_).1));have m6_:=Aside0.mk hS;clear hg hty hS HO BK111 BK4 BK5 Hv21 Hv23 HLL1 HB UU HH hx4 hx5;have HO:=m6_;have BK111:=m0_;have BK4:=m1_;have BK5:=m2_;have Hv21:=m3_;have Hv23:=m4_;have HB:=m5_;clear m0_ m1_ m2_ m3_ m4_ m5_ m6_)|fail)
       go_roundw
       case rel=>exact⟨k+1,by omega,by first|rfl|go_num,HO,BK111,BK4,BK5,Hv21,Hv23,HB⟩
       case measure=>simp[intOf]<;>omega
  ·have ek:n0=k:=by omega
   subst ek
   have hx0:wr.cell? ⟨gb5,0,none⟩=some (.int .i64 (n0:Int)):=(blk_cell BK5.out 0).trans rfl
   have hx1:wr.cell? ⟨gb5,1,none⟩=some (.bool a0_1):=(blk_cell BK5.out 1).trans rfl
   have hx2:wr.cell? ⟨gb5,2,none⟩=some (.slice A0_2 l0_2.length c0_2):=(blk_cell BK5.out 2).trans rfl
   have hx3:wr.cell? ⟨gb5,3,none⟩=some (.slice A1 n1 c1):=(blk_cell BK5.out 3).trans rfl
   have hx4:wr.cell? ⟨gb5,4,none⟩=some (.slice Ao n0 co):=(blk_cell BK5.out 4).trans rfl
   have hy0:wr.cell? ⟨gb4,0,none⟩=some (.int .i64 0):=(blk_cell BK4.out 0).trans rfl
   have hf0:=blk_frozen BK4.out 0
   have hy1:wr.cell? ⟨gb4,1,none⟩=some (.bool false):=(blk_cell BK4.out 1).trans rfl
   have hf1:=blk_frozen BK4.out 1
   have hy2:wr.cell? ⟨gb4,2,none⟩=some (.slice none 0 0):=(blk_cell BK4.out 2).trans rfl
   have hf2:=blk_frozen BK4.out 2
   have hy3:wr.cell? ⟨gb4,3,none⟩=some (.slice none 0 0):=(blk_cell BK4.out 3).trans rfl
   have hf3:=blk_frozen BK4.out 3
   have hy4:wr.cell? ⟨gb4,4,none⟩=some (.slice none 0 0):=(blk_cell BK4.out 4).trans rfl
   have hf4:=blk_frozen BK4.out 4
   have GE4':=GE4.out
   go_wp2
   refine bodyPost_ret (results_cell_row rfl _ _ gb4 118 #[.int .i64 (n0:Int), .bool a0_1, .slice A0_2 l0_2.length c0_2, .slice A1 n1 c1, .slice Ao n0 co] (0,0) _ rfl (by refine blk_put (cs:= #[.int .i64 (n0:Int), .bool a0_1, .slice A0_2 l0_2.length c0_2, .slice A1 n1 c1, .slice none 0 0]) ?_ 4 _ rfl;refine blk_put (cs:= #[.int .i64 (n0:Int), .bool a0_1, .slice A0_2 l0_2.length c0_2, .slice none 0 0, .slice none 0 0]) ?_ 3 _ rfl;refine blk_put (cs:= #[.int .i64 (n0:Int), .bool a0_1, .slice none 0 0, .slice none 0 0, .slice none 0 0]) ?_ 2 _ rfl;refine blk_put (cs:= #[.int .i64 (n0:Int), .bool false, .slice none 0 0, .slice none 0 0, .slice none 0 0]) ?_ 1 _ rfl;refine blk_put (cs:= #[.int .i64 0, .bool false, .slice none 0 0, .slice none 0 0, .slice none 0 0]) ?_ 0 _ rfl;exact BK4.out) Try.underlying118 rfl (by kernel_rfl)) rfl ?_
   exact⟨_,rfl,Kd.S_mono (Kd.S_far (p:=⟨gb4,4,none⟩) (Kd.S_far (p:=⟨gb4,3,none⟩) (Kd.S_far (p:=⟨gb4,2,none⟩) (Kd.S_far (p:=⟨gb4,1,none⟩) (Kd.S_far (p:=⟨gb4,0,none⟩) (Kd.S_types HO.out BK4.out (by decide)) (fun _ hk=>hk.2) (.int .i64 (n0:Int))) (fun _ hk=>hk.2) (.bool a0_1)) (fun _ hk=>hk.2) (.slice A0_2 l0_2.length c0_2)) (fun _ hk=>hk.2) (.slice A1 n1 c1)) (fun _ hk=>hk.2) (.slice Ao n0 co)) (fun _ _=>trivial),by repeat(first|exact HB.out|refine below_set ?_ GE4.out)⟩
end Go.Proofs.Ytkcpanpdipmmmaa.H
namespace Go.Proofs.Ytkcpanpdipmmmaa.Q
open Go.RowKit Go.Proofs.YtkcpanpdipmmmaaW.PrintWords Go.Proofs.YtkcpanpdipmmmaaW.PrintLast Go.Proofs.YtkcpanpdipmmmaaW.PrintMore Go.Proofs.Ytkcpanpdipmmmaa.P
open Go.Proofs.Ytkcpanpdipmmmaa.H (endsErr)
theorem ends_ev (n:Int) (b:Bool) (l:List S74) (s t:Int):Ev (fun k=>static_Ends.f k n b l s t) (endsErr n l s t):=by
 unfold static_Ends.f endsErr
 refine Ev.bind (check_ev n b l) ?_
 refine Ev.ite (fun h=> ?_) (fun h=> ?_)
 ·rw[if_pos h]
  refine Ev.ite (fun g=> ?_) (fun g=> ?_)
  ·exact Ev.done (by unfold mn at g;rw[if_neg (by omega)])
  ·unfold mn at g
   refine Ev.ite (fun g2=> ?_) (fun g2=> ?_)
   ·exact Ev.done (by unfold mx at g2;rw[if_neg (by omega)])
   ·unfold mx at g2
    refine Ev.ite (fun g3=> ?_) (fun g3=> ?_)
    ·exact Ev.done (by rw[if_neg (by omega)])
    ·exact Ev.done (by rw[if_pos (by omega)])
 ·rw[if_neg h]
  exact Ev.now _
end Go.Proofs.Ytkcpanpdipmmmaa.Q
namespace Go.Proofs.Ytkcpanpdipmmmaa.H
open Go.RowKit Go.Proofs.YtkcpanpdipmmmaaW.PrintWords Go.Proofs.YtkcpanpdipmmmaaW.PrintLast Go.Proofs.YtkcpanpdipmmmaaW.PrintMore Go.Proofs.Ytkcpanpdipmmmaa.P Go.Proofs.Ytkcpanpdipmmmaa.Q
theorem right_of {n:Int} {l:List S74} {F:List Int} (h:askErr n l F=0): ∃ n0:Nat,n=n0∧Right l F n0:=by
 obtain⟨hn,hf⟩:=askErr_ok h
 have h1:=hn.lo
 have h2:=hn.hi
 obtain⟨n0,rfl⟩: ∃ n0:Nat,n=n0:=⟨n.toNat,by omega⟩
 refine⟨n0,rfl,⟨by omega,by omega,hn.len,hf.len,fun i hi=> ?_,fun i hi=> ?_⟩⟩
 ·have ha:=hn.at_ (i:=(i:Int)) (by omega) (by omega)
  exact⟨⟨ha.f0,ha.h0⟩,⟨ha.f1,ha.h1⟩⟩
 ·have ha:=hn.at_ (i:=(i:Int)) (by omega) (by omega)
  have hb:=hf.at_ i (by rw[hf.len];exact hi)
  rw[rd_nat] at hb
  exact⟨ha.f3,ha.h3,hb.1,hb.2,ha.h2⟩
end Go.Proofs.Ytkcpanpdipmmmaa.H
namespace Go.Proofs.Ytkcpanpdipmmmaa.Q
open Go.RowKit Go.Proofs.YtkcpanpdipmmmaaW.PrintWords Go.Proofs.YtkcpanpdipmmmaaW.PrintLast Go.Proofs.YtkcpanpdipmmmaaW.PrintMore Go.Proofs.Ytkcpanpdipmmmaa.P
open Go.Proofs.Ytkcpanpdipmmmaa.H (endsErr Right right_of)
theorem ends_zero {n:Int} {l:List S74} {s t:Int} (h:endsErr n l s t=0): ∃ n0 s0 t0:Nat,n=n0∧s=s0∧t=t0∧s0<n0∧t0<n0∧s0≠t0∧NetOk n0 l∧Right l (List.replicate l.length 0) n0:=by
 have hb:NetOk n l∧0≤s∧s<n∧0≤t∧t<n∧s≠t:=by
  unfold endsErr at h
  by_cases hn:netErr n l=0
  ·rw[if_pos hn] at h
   split at h
   ·rename_i he
    exact⟨netErr_ok hn,he⟩
   ·cases h
  ·rw[if_neg hn] at h;exact absurd h hn
 obtain⟨hn,h1,h2,h3,h4,h5⟩:=hb
 have hz:FlowOk l (List.replicate l.length 0):=by
  refine⟨by simp,fun i hi=> ?_⟩
  rw[List.length_replicate] at hi
  have ha:=(hn.at_ (i:=(i:Int)) (by omega) (by omega)).f2
  rw[rd_nat,List.getD_eq_getElem?_getD,List.getElem?_replicate,if_pos hi]
  exact⟨Int.le_refl _,ha⟩
 obtain⟨n0,rfl,hr⟩:=right_of (ask_of hn hz)
 exact⟨n0,s.toNat,t.toNat,rfl,by omega,by omega,by omega,by omega,by omega,hn,hr⟩
end Go.Proofs.Ytkcpanpdipmmmaa.Q
namespace Go.Proofs.Ytkcpanpdipmmmaa.H
open Go.RowKit Go.Proofs.YtkcpanpdipmmmaaW.PrintWords Go.Proofs.YtkcpanpdipmmmaaW.PrintLast Go.Proofs.YtkcpanpdipmmmaaW.PrintMore Go.Proofs.Ytkcpanpdipmmmaa.P Go.Proofs.Ytkcpanpdipmmmaa.Q
theorem max_nonneg {l:List S74} {F:List Int} {n s t:Nat} (h:MaxF l F n s t) (hs:s<n) (hst:s≠t):0≤bal l F s:=by
 have h1:=(max_value h hs hst).1
 have h2:=(capR_top (sideP l F n s) l h.flow.right.caps).1
 omega
theorem zeros_of {l:List S74} {F:List Int} {n s t:Nat} (h:Right l F n):IsFlow l (List.replicate l.length 0) n s t∧bal l (List.replicate l.length 0) s=0:=
 zeros_flow h.pos h.fifty h.arcs h.ends (fun i hi=>by have:=h.nums i hi;exact⟨this.1,this.2.1,by omega,by omega⟩)
theorem fill_max {l:List S74} {F:List Int} {n s t:Nat} (hr:Right l F n) (hs:s<n) (ht:t<n) (hst:s≠t):MaxF l (fillF l n s t) n s t:=by
 obtain⟨h1,h2⟩:=zeros_of (s:=s) (t:=t) hr
 exact refill_max hs ht hst 300000000 h1 (by omega)
def timesA (k:Int) (l:List S74):List S74:=l.map fun a=> { a with f2:=a.f2 * k }
theorem capR_times (R:Int→Bool) (k:Int) (l:List S74):capR R (timesA k l)=k * capR R l:=by
 induction l with
 |nil=>simp[timesA,capR]
 |cons a l ih=>
  show capR R (_::timesA k l)=_
  rw[capR_cons,capR_cons,ih,Int.mul_add]
  congr 1
  split<;>simp[Int.mul_comm]
theorem bal_times (k v:Int): ∀ (l:List S74) (f:List Int),f.length=l.length→bal (timesA k l) (f.map fun x=>x * k) v=k * bal l f v
 |[],f,_=>by show bal ([]:List S74) _ v=_;rw[bal_nil,bal_nil];simp
 |_::_,[],h=>by simp at h
 |a::l,x::f,h=>by
  show bal (_::timesA k l) (_::f.map fun x=>x * k) v=_
  rw[bal_cons,bal_cons,bal_times k v l f (by simpa using h),Int.mul_add,Int.mul_sub]
  have e:=Int.mul_comm x k
  congr 1
  show (if a.f0=v then x * k else 0) - (if a.f1=v then x * k else 0)=_
  split<;>split<;>simp[e]
theorem rdArc_times (k:Int) (l:List S74) {i:Nat} (h:i<l.length):rd_T74 (timesA k l) (i:Int)= { rd_T74 l (i:Int) with f2:=(rd_T74 l (i:Int)).f2 * k } :=by
 rw[rdArc_nat,rdArc_nat,List.getD_eq_getElem?_getD,List.getD_eq_getElem?_getD,List.getElem?_eq_getElem h]
 unfold timesA
 rw[List.getElem?_map,List.getElem?_eq_getElem h]
 rfl
theorem max_times {l:List S74} {F G:List Int} {n s t:Nat} {k:Int} (hk:0≤k) (h:MaxF l F n s t) (g:MaxF (timesA k l) G n s t) (hs:s<n) (hst:s≠t):bal (timesA k l) G s=k * bal l F s:=by
 have hl:(timesA k l).length=l.length:=by simp[timesA]
 have f1:IsFlow (timesA k l) (F.map fun x=>x * k) n s t:=by
  refine⟨⟨g.flow.right.pos,g.flow.right.fifty,g.flow.right.arcs,by rw[List.length_map,hl];exact h.flow.right.len,g.flow.right.ends,fun i hi=> ?_⟩,fun v h0 h1 h2 h3=>by rw[bal_times k v l F h.flow.right.len,h.flow.keeps v h0 h1 h2 h3,Int.mul_zero]⟩
  have h1:=g.flow.right.nums i hi
  rw[hl] at hi
  have h2:=h.flow.right.nums i hi
  have e:(F.map fun x=>x * k).getD i 0=F.getD i 0 * k:=by
   rw[List.getD_eq_getElem?_getD,List.getD_eq_getElem?_getD,List.getElem?_map,List.getElem?_eq_getElem (by rw[h.flow.right.len];exact hi)]
   rfl
  rw[e,rdArc_times k l hi] at *
  exact⟨h1.1,h1.2.1,Int.mul_nonneg h2.2.2.1 hk,Int.mul_le_mul_of_nonneg_right h2.2.2.2.1 hk,h1.2.2.2.2⟩
 have h1:=max_top g hs hst f1
 rw[bal_times k s l F h.flow.right.len] at h1
 obtain⟨h2,h3,h4⟩:=max_value h hs hst
 have h5:=value_le g.flow (sideP l F n s) h3 h4 (by omega) (by omega)
 rw[capR_times, ← h2] at h5
 omega
end Go.Proofs.Ytkcpanpdipmmmaa.H
namespace Go.Proofs.Ytkcpanpdipmmmaa.H
open Go.RowKit Go.Proofs.YtkcpanpdipmmmaaW.PrintWords Go.Proofs.YtkcpanpdipmmmaaW.PrintLast Go.Proofs.YtkcpanpdipmmmaaW.PrintMore Go.Proofs.Ytkcpanpdipmmmaa.P
open Go.Proofs.Ytkcpanpdipmmmaa.Q (bal ends_zero)
theorem heap_k74:Kd.Heap k74:=Kd.heap_iso _ (Kd.heap_pair (Kd.heap_int _) (Kd.heap_pair (Kd.heap_int _) (Kd.heap_pair (Kd.heap_int _) (Kd.heap_int _))))
theorem made_ints (n:Nat) (hn:n≤500): ∀ W:World,(Instr.makeSlice 25 (.int .i64 (n:Int)) (.int .i64 (n:Int))).run Try.prog W= .ok (.slice (some ⟨W.heap.size,0,none⟩) n n) (W.alloc (.cells (nums .i64 (List.replicate n 0)).toArray 3)):=by
 intro W
 rw[print_make 25 3 .i64 8 Try.underlying25 (by kernel_rfl) (by omega) n (by omega) W]
 have hl:(madeCells #[Value.int .i64 0] n)=(nums .i64 (List.replicate n 0)).toArray:=by
  apply Array.ext'
  apply List.ext_getElem
  ·simp[nums,madeCells]
  ·intro i h1 h2
   simp[nums,madeCells,Nat.mod_one]
 rw[hl]
section
variable {n0:Nat} {a0_1:Bool} {A2:Option Addr} {c2:Nat} {l:List S74} {gF cF:Nat} {A4:Option Addr} {c4 gx gn B B':Nat} {vd:Value} {F:List Int} {nx:List Nat} {w w5 w7 wf:World}
theorem Fo.raise (h:Fo n0 a0_1 A2 c2 l gF cF A4 c4 gx gn B vd F nx w) (h1:B≤B') (h2:B'≤w.heap.size):Fo n0 a0_1 A2 c2 l gF cF A4 c4 gx gn B' vd F nx w:=by
 have hl:=h.low
 exact⟨h.x,h.nx,h.fl,Kd.F_mono h.arcs (fun k hk=>⟨by omega,hk.2⟩),Kd.F_mono h.rows (fun k hk=>⟨by omega,hk.2⟩),h2,⟨by omega,by omega,by omega⟩,h.apart,h.ca,h.cf⟩
theorem Fo.made {base:Nat} {ok:Nat→Prop} (hb:Below w5.heap.size w5 wf) (hF:IsI w5 gF F) (ha:Kd.F k74 w5 (fun k=>k<w5.heap.size∧k≠gF) A2 l.length l) (hS:Kd.S (Kd.slice 38 k38) 34 w7 base ok (.slice A4 n0 c4) (rowsAt l n0 n0)) (hb7:Below w7.heap.size w7 wf) (hbase:w5.heap.size≤base)
  (hx:wf.heap[gx]? =some (.cells #[.int .i64 (n0:Int), .bool a0_1, .slice A2 l.length c2, .slice (some ⟨gF,0,none⟩) F.length cF, .slice A4 n0 c4, .slice none 0 0, .slice (some ⟨gn,0,none⟩) n0 n0] 184 (0,0)))
  (hn:IsI wf gn (List.replicate n0 0)) (h1:w5.heap.size≤gn) (h2:w7.heap.size≤gx) (h3:gn≠gx) (h4:gn<base∨w7.heap.size≤gn) (h57:w5.heap.size≤w7.heap.size) (hca:l.length≤c2) (hcf:F.length≤cF):Fo n0 a0_1 A2 c2 l gF cF A4 c4 gx gn wf.heap.size (.slice none 0 0) F (List.replicate n0 0) wf:=by
 have hl5:=hF.lt
 have hn2:=hn.lt
 have hx2:=blk_lt hx
 have hr:=Kd.F_below (Kd.S_F (Kd.S_bound hS)) hb7
 refine⟨hx,by unfold nI;rw[List.map_replicate];exact hn,hF.below hb,Kd.F_mono (Kd.F_below ha hb) (fun k hk=> ?_),Kd.F_mono hr (fun k hk=> ?_),Nat.le_refl _,⟨hx2,hn2,?_⟩,⟨Ne.symm h3,by omega,by omega⟩,hca,hcf⟩
 ·have:=hb.size;exact⟨by omega,hk.2,by omega,by omega⟩
 ·have h5:=hk.2.1
  have h6:=hk.2.2.1
  exact⟨by omega,by omega,by omega,by omega⟩
 ·have:=hb.size;omega
end
theorem refill_stop {l:List S74} {n s t k:Nat} {F:List Int} (h:(dOf n (bfP l F n s)).getD t 0<0):refillF l n s t (k+1) F=F:=by rw[refillF,if_pos h]
theorem refill_go {l:List S74} {n s t k:Nat} {F:List Int} (h: ¬ (dOf n (bfP l F n s)).getD t 0<0):refillF l n s t (k+1) F=refillF l n s t k (phaseF l (dOf n (bfP l F n s)) s t 300000000 F (List.replicate n 0)):=by rw[refillF,if_neg h]
def Rs (n0:Nat) (a0_1:Bool) (A2:Option Addr) (c2:Nat) (l:List S74) (gF cF:Nat) (A4:Option Addr) (c4 gx gn:Nat) (s t:Nat) (R:List Int) (w w':World) (k:Nat):Prop:=
 ∃ (F:List Int) (nx:List Nat) (vd:Value) (B:Nat),IsFlow l F n0 s t∧0≤bal l F s∧nx.length=n0∧209715200<(k:Int)+bal l F s∧refillF l n0 s t k F=R∧Fo n0 a0_1 A2 c2 l gF cF A4 c4 gx gn B vd F nx w'∧Ks (fun b=>b=gx∨b=gF∨b=gn) w w'
set_option maxHeartbeats 20000000 in
set_option maxRecDepth 100000 in
theorem refill_calls (n0:Nat) (a0_1:Bool) (A2:Option Addr) (c2:Nat) (l:List S74) (gF cF:Nat) (F:List Int) (s t:Nat) (w:World)
  (hf:IsFlow l F n0 s t) (hb0:0≤bal l F s) (hs:s<n0) (ht:t<n0) (hst:s≠t) (hF:IsI w gF F) (hcF:F.length≤cF) (ha:Kd.F k74 w (fun k=>k<w.heap.size∧k≠gF) A2 l.length l) (hca:l.length≤c2):
  Calls Try.prog 155 #[.agg #[.int .i64 (n0:Int), .bool a0_1, .slice A2 l.length c2], .slice (some ⟨gF,0,none⟩) F.length cF, .int .i64 (s:Int), .int .i64 (t:Int)] w fun e w'=>e= .returned (.tuple #[])∧IsI w' gF (refillF l n0 s t 300000000 F)∧Ks (fun b=>b=gF) w w':=by
 have hu24:=Try.underlying24
 have hu184:=Try.underlying184
 have hn50:=hf.right.fifty
 have hmk:=made_ints n0 (by omega)
 have HFL:=Aside0.mk hf
 have HB0:=Aside0.mk hb0
 have HIF:=Aside0.mk hF
 have HCF:=Aside0.mk hcF
 have HAF:=Aside0.mk ha
 have HCA:=Aside0.mk hca
 have hgF:=hF.lt
 obtain⟨R,hR⟩: ∃ R,R=refillF l n0 s t 300000000 F:=⟨_,rfl⟩
 rw[← hR]
 have HRR:=Aside0.mk hR
 clear hf hb0 hF hcF ha hca hR
 go_enter Try.func155,Try.ntmps155
 go_upto_region 1 with (first|((with_reducible refine gate_dst (N:=4) rfl ?_);refine box_event ?hg (N:=4) ?hd (cs:= #[.int .i64 (n0:Int), .bool a0_1, .slice A2 l.length c2]) (t:=24) ?hr ?_;(case hd=>rfl);(case hg=>rfl);(case hr=>first|(go_simp;done)|(go_simp;rfl));intro g4 hg4 w5 hbox hb;have B4:=Aside0.mk hbox;have HB:=Aside0.mk hb;have HG4:=Aside0.mk hg4;clear hg4 hbox hb)|fail)
 have h0:w5.cell? ⟨g4,0,none⟩=some (.int .i64 (n0:Int)):=(blk_cell B4.out 0).trans rfl
 have h1:w5.cell? ⟨g4,1,none⟩=some (.bool a0_1):=(blk_cell B4.out 1).trans rfl
 have h2:w5.cell? ⟨g4,2,none⟩=some (.slice A2 l.length c2):=(blk_cell B4.out 2).trans rfl
 have hsz:=HB.out.size
 have HIF5:=Aside0.mk (HIF.out.below HB.out)
 have HAF5:Aside0 (Kd.F k74 w5 (fun k=>k<w5.heap.size∧k≠gF) A2 l.length l):=⟨Kd.F_mono (Kd.F_below HAF.out HB.out) (fun k hk=>⟨by omega,hk.2⟩)⟩
 have HC5:=Aside0.mk (Kd.F_now HAF5.out)
 simp only[Act.put,List.setIfInBounds_toArray,List.set_cons_zero,List.set_cons_succ]
 go_cut [8] (fun v8 wx=> ∃ (gx gn:Nat) (A4:Option Addr) (c4:Nat),v8= .pointer (some ⟨gx,0,none⟩)∧Aside0 (Fo n0 a0_1 A2 c2 l gF cF A4 c4 gx gn wx.heap.size (.slice none 0 0) F (List.replicate n0 0) wx)∧Aside0 (Below w5.heap.size w5 wx)∧Aside0 (w5.heap.size≤gx∧w5.heap.size≤gn))
 case first=>
  go_region_held3 (fun w'=>w'.cell? ⟨g4,0,none⟩=some (.int .i64 (n0:Int))∧w'.cell? ⟨g4,1,none⟩=some (.bool a0_1)∧w'.cell? ⟨g4,2,none⟩=some (.slice A2 l.length c2))
   (first|((try dsimp only);(refine⟨?_,?_,?_⟩)<;>first|(exact pw_cell_below (below_drew (Below.refl _ _)) (by assumption))|(exact pw_cell_below (below_alloc (Below.refl _ _) _) (by assumption))|(exact pw_cell_below hbr (by assumption))|(exact pw_cell_below (below_alloc (below_step (below_drew (Below.refl w5.heap.size w5)) hbr) _) (by assumption))|(exact pw_cell_below (below_step (below_drew (below_alloc (Below.refl w5.heap.size w5) _)) hbr) (by assumption))|(exact pw_cell_below (below_step (below_drew (Below.refl w5.heap.size w5)) hbr) (by assumption)))|go_keep)
   (first|(go_at_call 101;refine(at_calls n0 a0_1 A2 c2 l (some ⟨gF,0,none⟩) cF F.length _ ?hC HCA.out (by omega) (by omega) (by have:=HFL.out.right.arcs;omega) (fun k hk=>(HFL.out.right.ends k hk).1) (fun k hk=>(HFL.out.right.ends k hk).2)).mono ?_;(case hC=>first|exact HC5.out|exact Kd.C_below HC5.out (below_drew (Below.refl _ _))|exact Kd.C_below HC5.out (below_drew (below_alloc (Below.refl _ _) _)));rintro e_ w7 ⟨vr,rfl,hS,hbr⟩;obtain⟨A4,c4,ev⟩:=Kd.S_slice hS;subst ev;rw[rowsAt_len] at hS ⊢))
  ·go_wp2_with fail
   go_meet
   have hbb:Below w5.heap.size w5 w7:=below_step (below_drew (Below.refl w5.heap.size w5)) hbr
   have hsz7:=hbb.size
   refine⟨w7.heap.size+1,w7.heap.size,A4,c4,rfl,⟨Fo.made (below_alloc (below_alloc hbb _) _) HIF5.out HAF5.out hS (below_alloc (below_alloc (Below.refl _ _) _) _) (by simp) ?_ (IsI.below (w:=w7.alloc (.cells (nums .i64 (List.replicate n0 0)).toArray 3)) (heap_alloc_new w7 _) (below_alloc (Below.refl _ _) _)) (by omega) (by omega) (by omega) (.inr (Nat.le_refl _)) (by omega) HCA.out HCF.out⟩,⟨below_alloc (below_alloc hbb _) _⟩,⟨by omega,by omega⟩⟩
   have h_:=heap_alloc_new (w7.alloc (.cells (nums .i64 (List.replicate n0 0)).toArray 3)) (.cells #[.int .i64 (n0:Int), .bool a0_1, .slice A2 l.length c2, .slice (some ⟨gF,0,none⟩) F.length cF, .slice A4 n0 c4, .slice none 0 0, .slice (some ⟨w7.heap.size,0,none⟩) n0 n0] 184)
   rw[show (w7.alloc (.cells (nums .i64 (List.replicate n0 0)).toArray 3)).heap.size=w7.heap.size+1 by simp] at h_
   exact h_
  ·go_wp2_with fail
   go_meet
   have hbb:Below w5.heap.size w5 w7:=below_step (below_drew (below_alloc (Below.refl w5.heap.size w5) _)) hbr
   have hsz7:=hbr.size
   rw[show (w5.alloc (.cells (nums .i64 (List.replicate n0 0)).toArray 3)).drew.heap.size=w5.heap.size+1 by simp] at hsz7
   refine⟨w7.heap.size,w5.heap.size,A4,c4,rfl,⟨Fo.made (below_alloc hbb _) HIF5.out HAF5.out hS (below_alloc (Below.refl _ _) _) (by simp) (heap_alloc_new w7 _) (IsI.below (w:=w7) (IsI.below (w:=(w5.alloc (.cells (nums .i64 (List.replicate n0 0)).toArray 3)).drew) (IsI.below (w:=w5.alloc (.cells (nums .i64 (List.replicate n0 0)).toArray 3)) (heap_alloc_new w5 _) (below_drew (Below.refl _ _))) hbr) (below_alloc (Below.refl _ _) _)) (by omega) (by omega) (by omega) (.inl (by simp)) (by omega) HCA.out HCF.out⟩,⟨below_alloc hbb _⟩,⟨by omega,by omega⟩⟩
 case rest=>
  obtain⟨gx,gn,A4,c4,rfl,HFO,HBC,HGX⟩:=hcut
  have HBW:Aside0 (Below w.heap.size w wc):=⟨below_step HB.out HBC.out⟩
  have HGW:Aside0 (w.heap.size≤gx∧w.heap.size≤gn):=⟨by have:=HGX.out;omega⟩
  clear h0 h1 h2 hmk HIF5 HAF5 HC5 HIF HAF HB HBC B4 HGX HG4 hsz
  go_wp2_with fail
  go_loopw [] (fun w'=> ∃ k,Rs n0 a0_1 A2 c2 l gF cF A4 c4 gx gn s t R wc w' k) (fun w'=>least (fun k=>Rs n0 a0_1 A2 c2 l gF cF A4 c4 gx gn s t R wc w' k))
  case atStart=>exact⟨300000000,F,List.replicate n0 0, .slice none 0 0,_,HFL.out,HB0.out,by simp,by have:=HB0.out;omega,HRR.out.symm,HFO.out,Ks.refl _ _⟩
  case round=>
   clear HFO
   have hmin:=least_spec hrel
   obtain⟨kk,hkk⟩: ∃ k_,k_=least (fun k=>Rs n0 a0_1 A2 c2 l gF cF A4 c4 gx gn s t R wc wr k):=⟨_,rfl⟩
   rw[← hkk] at hmin
   have HLE:=Aside0.mk hkk
   clear hrel hkk
   obtain⟨G,nx,vd,B,hgf,hg0,hnl,hgk,hgp,hF,hK⟩:=hmin
   have hgt:=flow_top hgf hs hst
   obtain⟨k,rfl⟩: ∃ k,kk=k+1:=⟨kk - 1,by omega⟩
   have HGF:=Aside0.mk hgf
   have HG0:=Aside0.mk hg0
   have HGK:=Aside0.mk hgk
   have HK:=Aside0.mk hK
   have HFO:=Aside0.mk (hF.raise hF.size (Nat.le_refl _))
   clear hgf hg0 hgk hF hK hgt
   by_cases hy:(dOf n0 (bfP l G n0 s)).getD t 0<0
   ·have hq:G=R:=by rw[← hgp,refill_stop hy]
    have HQ:=Aside0.mk hq
    have HY:=Aside0.mk hy
    clear hq hgp
    obtain⟨b,hb⟩: ∃ b_,b_=(!decide ((dOf n0 (bfP l G n0 s)).getD t 0<0)):=⟨_,rfl⟩
    have hbf:b=false:=by rw[hb,decide_eq_true hy];rfl
    have HBE:=Aside0.mk hb
    clear hy hb
    go_wp2_with (first|(go_at_call 168;refine(phase_calls n0 a0_1 A2 c2 l gF cF A4 c4 gx gn vd G s t nx _ HGF.out HG0.out hs ht hst hnl HFO.out).mono ?_;rintro e_ w8 ⟨vd',nx',rfl,hnl',hfo,hks⟩;rw[if_pos HY.out] at hfo;rw[← HBE.out])|fail)
    refine bodyPost_end (results_none rfl _ _ _) rfl ⟨rfl,?_,?_⟩
    ·rw[← HQ.out];exact hfo.fl
    ·refine((Ks.of_below HBW.out (fun b=>b=gF)).trans (HK.out.trans hks (fun b hb _=>hb)) (fun b hb hlt=> ?_))
     have:=HGW.out
     rcases hb with h_|h_|h_
     ·omega
     ·exact h_
     ·omega
   ·have hq:refillF l n0 s t k (phaseF l (dOf n0 (bfP l G n0 s)) s t 300000000 G (List.replicate n0 0))=R:=by rw[← hgp,refill_go hy]
    have HQ:=Aside0.mk hq
    have HY:=Aside0.mk hy
    obtain⟨m1,m2⟩:=phase_grows HGF.out hs ht hst (by omega) 299999999
    have HM1:=Aside0.mk m1
    have HM2:=Aside0.mk m2
    clear hq hgp m1 m2
    obtain⟨b,hb⟩: ∃ b_,b_=(!decide ((dOf n0 (bfP l G n0 s)).getD t 0<0)):=⟨_,rfl⟩
    have hbf:b=true:=by rw[hb,decide_eq_false hy];rfl
    have HBE:=Aside0.mk hb
    clear hy hb
    go_wp2_with (first|(go_at_call 168;refine(phase_calls n0 a0_1 A2 c2 l gF cF A4 c4 gx gn vd G s t nx _ HGF.out HG0.out hs ht hst hnl HFO.out).mono ?_;rintro e_ w8 ⟨vd',nx',rfl,hnl',hfo,hks⟩;rw[if_neg HY.out] at hfo;rw[← HBE.out];have HFN:=Aside0.mk hfo;have HKN:=Aside0.mk hks;clear hfo hks)|fail)
    have hRs:Rs n0 a0_1 A2 c2 l gF cF A4 c4 gx gn s t R wc w8 k:=by
     obtain⟨H,hH⟩: ∃ H_,H_=phaseF l (dOf n0 (bfP l G n0 s)) s t 300000000 G (List.replicate n0 0):=⟨_,rfl⟩
     have q1:=HM1.out
     have q2:=HM2.out
     rw[show 299999999+1=300000000 from rfl, ← hH] at q1 q2
     have q3:=HG0.out
     have q4:=HGK.out
     have q5:=HQ.out
     have q6:=HFN.out
     rw[← hH] at q5 q6
     exact⟨H,nx',vd',_,q1,by omega,hnl',by omega,q5,q6,HK.out.trans HKN.out (fun b hb _=>hb)⟩
    go_roundw
    case rel=>exact⟨k,hRs⟩
    case measure=>exact least_lt hRs (by rw[← HLE.out];exact Nat.lt_succ_self k)
set_option maxHeartbeats 4000000 in
set_option maxRecDepth 100000 in
theorem maxflow_Fill_calls (a0_0:Int) (a0_1:Bool) (A0_2:Option Addr) (c0_2:Nat) (l0_2:List S74) (a1:Int) (a2:Int) (r:List Int) (w:World) (hr0_2:Kd.C k74 w A0_2 l0_2.length l0_2) (hc0_2:l0_2.length≤c0_2) (h:(if endsErr a0_0 l0_2 a1 a2=0 then some (fillF l0_2 a0_0.toNat a1.toNat a2.toNat) else none)=some r):
  Calls Try.prog 121 #[.agg #[.int .i64 a0_0, .bool a0_1, .slice A0_2 l0_2.length c0_2], .int .i64 a1, .int .i64 a2] w fun e w'=> ∃ v0_:Value,e= .returned (v0_)∧Kd.R (Kd.int .i64) 3 w' w.heap.size (fun _=>True) v0_ r∧Below w.heap.size w w':=by
 by_cases he:endsErr a0_0 l0_2 a1 a2=0
 ·rw[if_pos he] at h
  injection h with h
  obtain⟨n0,s0,t0,rfl,rfl,rfl,hs,ht,hst,hn,hr⟩:=ends_zero he
  simp only[Int.toNat_natCast] at h
  have hM:=fill_max hr hs ht hst
  have hlen:r.length=l0_2.length:=by rw[← h];exact hM.flow.right.len
  have HRE:=Aside0.mk h
  have harc:=hr.arcs
  have hmk:=made_ints l0_2.length (by omega)
  obtain⟨z1,z2⟩:=zeros_of (s:=s0) (t:=t0) hr
  have HZ1:=Aside0.mk z1
  have HZ2:=Aside0.mk z2
  have H2:=Aside0.mk hr0_2
  have HC2:=Aside0.mk hc0_2
  clear z1 z2 h he hn hr hM hr0_2 hc0_2
  go_enter Try.func121,Try.ntmps121
  go_upto_region 2 with (first|((with_reducible refine gate_dst (N:=3) rfl ?_);refine box_event ?hg (N:=3) ?hd (cs:= #[.int .i64 (n0:Int), .bool a0_1, .slice A0_2 l0_2.length c0_2]) (t:=24) ?hr ?_;(case hd=>rfl);(case hg=>rfl);(case hr=>first|(go_simp;done)|(go_simp;rfl));intro g4 hg4 w5 hbox hb;have B4:=Aside0.mk hbox;have HB:=Aside0.mk hb;clear hg4 hbox hb;have h2:w5.cell? ⟨g4,2,none⟩=some (.slice A0_2 l0_2.length c0_2):=(blk_cell B4.out 2).trans rfl)|fail)
  have hIA:IsI (w5.alloc (.cells (nums .i64 (List.replicate l0_2.length 0)).toArray 3)) w5.heap.size (List.replicate l0_2.length 0):=heap_alloc_new w5 _
  have HB6:Aside0 (Below w.heap.size w (w5.alloc (.cells (nums .i64 (List.replicate l0_2.length 0)).toArray 3))):=⟨below_alloc HB.out _⟩
  have B6:Aside0 ((w5.alloc (.cells (nums .i64 (List.replicate l0_2.length 0)).toArray 3)).heap[g4]? =_):=⟨blk_below B4.out (below_alloc (Below.refl _ _) _)⟩
  have hgb:w.heap.size≤w5.heap.size:=HB.out.size
  clear HB B4 h2 hmk
  generalize w5.alloc (.cells (nums .i64 (List.replicate l0_2.length 0)).toArray 3)=w6 at *
  generalize w5.heap.size=gF at *
  have HIA:=Aside0.mk hIA
  clear hIA
  have h0:w6.cell? ⟨g4,0,none⟩=some (.int .i64 (n0:Int)):=(blk_cell B6.out 0).trans rfl
  have h1:w6.cell? ⟨g4,1,none⟩=some (.bool a0_1):=(blk_cell B6.out 1).trans rfl
  have h2:w6.cell? ⟨g4,2,none⟩=some (.slice A0_2 l0_2.length c0_2):=(blk_cell B6.out 2).trans rfl
  have key:=refill_calls n0 a0_1 A0_2 c0_2 l0_2 gF l0_2.length (List.replicate l0_2.length 0) s0 t0 w6 HZ1.out (by rw[HZ2.out];exact Int.le_refl _) hs ht hst HIA.out (by simp) (Kd.F_mono (Kd.F_below (Kd.C_F heap_k74 H2.out) (below_low (Nat.le_refl _) HB6.out)) (fun k hk=>⟨by have:=HB6.out.size;omega,by omega⟩)) HC2.out
  rw[List.length_replicate] at key
  have HKEY:=Aside0.mk key
  clear key
  go_wp2_with (first|(go_at_call 155;refine HKEY.out.mono ?_;rintro e_ w9 ⟨rfl,hI,hk⟩)|fail)
  go_ret
  have hI2:IsI w9 gF r:=by rw[← HRE.out];exact hI
  have hR:=hI2.R (base:=w.heap.size) (ok:=fun _=>True) (by omega) hgb trivial
  rw[hlen] at hR
  exact⟨_,rfl,hR,hk.toBelow HB6.out HB6.out.size (fun b hb=>by have hb:b=gF:=hb;omega)⟩
 ·rw[if_neg he] at h;cases h
end Go.Proofs.Ytkcpanpdipmmmaa.H
namespace Go.Proofs.Ytkcpanpdipmmmaa.P
open Go.RowKit Go.Proofs.YtkcpanpdipmmmaaW.PrintWords Go.Proofs.YtkcpanpdipmmmaaW.PrintLast Go.Proofs.YtkcpanpdipmmmaaW.PrintMore
attribute [local go_sem] max2_int min2_int max_two min_two max_three min_three max_four min_four
def maxflow_Fill.f (a0_0:Int) (a0_1:Bool) (l0_2:List (S74)) (a1:Int) (a2:Int):Option (List Int):=(if H.endsErr a0_0 l0_2 a1 a2=0 then some (H.fillF l0_2 a0_0.toNat a1.toNat a2.toNat) else none)
theorem maxflow_Fill.calls (a0_0:Int) (a0_1:Bool) (A0_2:Option Addr) (c0_2:Nat) (l0_2:List (S74)) (a1:Int) (a2:Int) (r:List Int) (w:World) (hr0_2:Kd.C k74 w A0_2 l0_2.length l0_2) (hc0_2:l0_2.length≤c0_2) (h:maxflow_Fill.f a0_0 a0_1 l0_2 a1 a2=some r):
  Calls Try.prog 121 #[.agg #[.int .i64 a0_0, .bool a0_1, .slice A0_2 l0_2.length c0_2], .int .i64 a1, .int .i64 a2] w fun e w'=> ∃ v0_:Value,e= .returned (v0_)∧Kd.R (Kd.int .i64) 3 w' w.heap.size (fun _=>True) v0_ r∧Below w.heap.size w w':=H.maxflow_Fill_calls a0_0 a0_1 A0_2 c0_2 l0_2 a1 a2 r w hr0_2 hc0_2 h
end Go.Proofs.Ytkcpanpdipmmmaa.P
namespace Go.Proofs.Ytkcpanpdipmmmaa.P
open Go.RowKit Go.Proofs.YtkcpanpdipmmmaaW.PrintWords Go.Proofs.YtkcpanpdipmmmaaW.PrintLast Go.Proofs.YtkcpanpdipmmmaaW.PrintMore
attribute [local go_sem] max2_int min2_int max_two min_two max_three min_three max_four min_four
def maxflow_Max.f (k:Nat) (a0_0:Int) (a0_1:Bool) (l0_2:List (S74)) (a1:Int) (a2:Int):Option (List Int × Int × Int):=(static_Ends.f k a0_0 a0_1 l0_2 a1 a2).bind fun t917=>(if t917=0 then((maxflow_Fill.f a0_0 a0_1 l0_2 a1 a2).bind fun t918=>((maxflow_Value.f k a0_0 a0_1 l0_2 a1 t918).bind fun t921=>(some (t918,t921,0)))) else(some (([]:List Int),0,t917)))
set_option maxHeartbeats 8000000 in
set_option maxRecDepth 100000 in
theorem maxflow_Max.calls (k:Nat) (a0_0:Int) (a0_1:Bool) (A0_2:Option Addr) (c0_2:Nat) (l0_2:List (S74)) (a1:Int) (a2:Int) (r1:List Int) (r2:Int) (r3:Int) (w:World) (hr0_2:Kd.C k74 w A0_2 l0_2.length l0_2) (hc0_2:l0_2.length≤c0_2) (h:maxflow_Max.f k a0_0 a0_1 l0_2 a1 a2=some (r1,r2,r3)):
  Calls Try.prog 76 #[.agg #[.int .i64 a0_0, .bool a0_1, .slice A0_2 l0_2.length c0_2], .int .i64 a1, .int .i64 a2] w fun e w'=> ∃ v0_:Value,e= .returned (.tuple #[v0_, .int .i64 r2, .int .i64 r3])∧Kd.R (Kd.int .i64) 3 w' w.heap.size (fun _=>True) v0_ r1∧Below w.heap.size w w':=by
 have hu24:=Try.underlying24
 have HR0_2:=Aside0.mk hr0_2
 have HC0_2:=Aside0.mk hc0_2
 clear hr0_2 hc0_2
 have HB:=Aside0.mk (Below.refl w.heap.size w)
 have H:((static_Ends.f k a0_0 a0_1 l0_2 a1 a2).bind fun t917=>(if t917=0 then((maxflow_Fill.f a0_0 a0_1 l0_2 a1 a2).bind fun t918=>((maxflow_Value.f k a0_0 a0_1 l0_2 a1 t918).bind fun t921=>(some (t918,t921,0)))) else(some (([]:List Int),0,t917))))=some (r1,r2,r3):=h
 clear h
 replace H:=Option.bind_eq_some_iff.mp H
 obtain⟨t917,A40,H⟩:=H
 replace H:(if t917=0 then((maxflow_Fill.f a0_0 a0_1 l0_2 a1 a2).bind fun t918=>((maxflow_Value.f k a0_0 a0_1 l0_2 a1 t918).bind fun t921=>(some (t918,t921,0)))) else(some (([]:List Int),0,t917)))=some (r1,r2,r3):=H
 have A4:=Aside0.mk A40
 clear A40
 by_cases c5:t917=0
 rotate_left
 ·rw[if_neg c5] at H
  have c5b0:(t917 == 0)=false:=beq_eq_false_iff_ne.mpr c5
  have c5b1:(t917 != 0)=true:=bne_iff_ne.mpr c5
  simp only[Option.some.injEq,Prod.mk.injEq] at H
  obtain⟨rfl,rfl,rfl⟩:=H
  go_enter Try.func76,Try.ntmps76
  go_wp2_with (first|((with_reducible refine gate_dst (N:=3) rfl ?_);refine box_event ?hg (N:=3) ?hd (cs:= #[.int .i64 a0_0, .bool a0_1, .slice A0_2 l0_2.length c0_2]) (t:=24) ?hr ?_;(case hd=>rfl);(case hg=>rfl);(case hr=>first|(go_simp;done)|(go_simp;rfl));intro gb916 hg w16 hbox hb;have n0_:=Aside0.mk (below_step (by repeat(first|(with_reducible first|exact HB.out|apply below_alloc|apply pw_below_drewN|apply below_drew1)|exact HB.out)) hb);have n1_:=Aside0.mk (hbox);have n2_:=Aside0.mk ((by rw[hg];exact(below_size (by repeat(first|(with_reducible first|exact HB.out|apply below_alloc|apply pw_below_drewN|apply below_drew1)|exact HB.out))):w.heap.size≤gb916));have n3_:=Aside0.mk ((by rw[hg];exact(below_size (by repeat(first|(with_reducible first|exact HB.out|apply below_alloc|apply pw_below_drewN|apply below_drew1)|exact HB.out))):w.heap.size≤gb916));clear HB;have HB:=n0_;have BK916:=n1_;have GW916:=n2_;have GE916:=n3_;clear n0_ n1_ n2_ n3_;clear hb hbox hg;have hcz17_0:w16.cell? ⟨gb916,0,none⟩=some (.int .i64 a0_0):=(blk_cell BK916.out 0).trans rfl;have hcz17_1:w16.cell? ⟨gb916,1,none⟩=some (.bool a0_1):=(blk_cell BK916.out 1).trans rfl;have hcz17_2:w16.cell? ⟨gb916,2,none⟩=some (.slice A0_2 l0_2.length c0_2):=(blk_cell BK916.out 2).trans rfl;have hfz17_0:=blk_frozen BK916.out 0;have hfz17_1:=blk_frozen BK916.out 1;have hfz17_2:=blk_frozen BK916.out 2)|((with_reducible refine gate_callee (f:=111) rfl ?_);refine goesL_ (some 12) rfl rfl Try.func111 (by kernel_rfl) rfl #[.agg #[.int .i64 a0_0, .bool a0_1, .slice A0_2 l0_2.length c0_2], .int .i64 a1, .int .i64 a2] rfl (by(try simp only[List.map_toArray,List.map_cons,List.map_nil]);first|done|rfl|(simp only[List.length_drop,List.length_take];rfl)) ?_;(with_reducible refine(static_Ends.calls k a0_0 a0_1 _ _ l0_2 a1 a2 t917 _ ?side1 ?side2 A4.out).mono ?_);(case side1=>repeat(first|exact(Kd.C_below HR0_2.out HB.out)|(with_reducible refine Kd.C_alloc ?_ _)|(with_reducible refine Kd.C_drewN ?_ _)|(with_reducible refine Kd.C_drew ?_)));(case side2=>exact HC0_2.out);rintro e w18 ⟨rfl,hb⟩;refine⟨_,rfl,?_⟩;have n0_:=Aside0.mk (blk_below (g:=gb916) (o:= .cells #[.int .i64 a0_0, .bool a0_1, .slice A0_2 l0_2.length c0_2] 24 (0,0)) (by(with_reducible repeat(first|refine blk_drewN ?_ _|refine blk_drew ?_|refine blk_alloc ?_ _));exact BK916.out) hb);have n1_:=Aside0.mk (below_step (by repeat(first|(with_reducible first|exact HB.out|apply below_alloc|apply pw_below_drewN|apply below_drew1|refine below_set ?_ GE916.out)|exact HB.out)) hb);clear BK916;clear HB;have BK916:=n0_;have HB:=n1_;clear n0_ n1_;(try clear hb);(try clear hb2);(try clear hk);(try clear hi)))
  go_ret3
  exact⟨_,by first|rfl|(simp[errW_none,errW_some]<;>rfl)|(simp[*,errW_none,errW_some]<;>rfl),by first|exact Kd.R_nil _ _ _ _ _|exact Kd.N_nil _ _ _ _ _|exact Kd.V_nil _ _ _ _ _|exact Kd.Q_nil _ _ _ _ _|exact Kd.S_nil _ _ _ _ _,by repeat(first|(with_reducible first|exact HB.out|apply below_alloc|apply pw_below_drewN|apply below_drew1|refine below_set ?_ GE916.out)|exact HB.out)⟩
 rw[if_pos c5] at H
 have c5b0:(t917 == 0)=true:=beq_iff_eq.mpr c5
 have c5b1:(t917 != 0)=false:=bne_eq_false_iff_eq.mpr c5
 clear c5
 replace H:=Option.bind_eq_some_iff.mp H
 obtain⟨t918,A60,H⟩:=H
 replace H:((maxflow_Value.f k a0_0 a0_1 l0_2 a1 t918).bind fun t921=>(some (t918,t921,0)))=some (r1,r2,r3):=H
 have A6:=Aside0.mk A60
 clear A60
 replace H:=Option.bind_eq_some_iff.mp H
 obtain⟨t921,A70,H⟩:=H
 replace H:(some (t918,t921,0))=some (r1,r2,r3):=H
 have A7:=Aside0.mk A70
 clear A70
 simp only[Option.some.injEq,Prod.mk.injEq] at H
 obtain⟨rfl,rfl,rfl⟩:=H
 go_enter Try.func76,Try.ntmps76
 go_wp2_with (first|((with_reducible refine gate_dst (N:=3) rfl ?_);refine box_event ?hg (N:=3) ?hd (cs:= #[.int .i64 a0_0, .bool a0_1, .slice A0_2 l0_2.length c0_2]) (t:=24) ?hr ?_;(case hd=>rfl);(case hg=>rfl);(case hr=>first|(go_simp;done)|(go_simp;rfl));intro gb916 hg w8 hbox hb;have n0_:=Aside0.mk (below_step (by repeat(first|(with_reducible first|exact HB.out|apply below_alloc|apply pw_below_drewN|apply below_drew1)|exact HB.out)) hb);have n1_:=Aside0.mk (hbox);have n2_:=Aside0.mk ((by rw[hg];exact(below_size (by repeat(first|(with_reducible first|exact HB.out|apply below_alloc|apply pw_below_drewN|apply below_drew1)|exact HB.out))):w.heap.size≤gb916));have n3_:=Aside0.mk ((by rw[hg];exact(below_size (by repeat(first|(with_reducible first|exact HB.out|apply below_alloc|apply pw_below_drewN|apply below_drew1)|exact HB.out))):w.heap.size≤gb916));clear HB;have HB:=n0_;have BK916:=n1_;have GW916:=n2_;have GE916:=n3_;clear n0_ n1_ n2_ n3_;clear hb hbox hg;have hcz9_0:w8.cell? ⟨gb916,0,none⟩=some (.int .i64 a0_0):=(blk_cell BK916.out 0).trans rfl;have hcz9_1:w8.cell? ⟨gb916,1,none⟩=some (.bool a0_1):=(blk_cell BK916.out 1).trans rfl;have hcz9_2:w8.cell? ⟨gb916,2,none⟩=some (.slice A0_2 l0_2.length c0_2):=(blk_cell BK916.out 2).trans rfl;have hfz9_0:=blk_frozen BK916.out 0;have hfz9_1:=blk_frozen BK916.out 1;have hfz9_2:=blk_frozen BK916.out 2)|((with_reducible refine gate_callee (f:=111) rfl ?_);refine goesL_ (some 12) rfl rfl Try.func111 (by kernel_rfl) rfl #[.agg #[.int .i64 a0_0, .bool a0_1, .slice A0_2 l0_2.length c0_2], .int .i64 a1, .int .i64 a2] rfl (by(try simp only[List.map_toArray,List.map_cons,List.map_nil]);first|done|rfl|(simp only[List.length_drop,List.length_take];rfl)) ?_;(with_reducible refine(static_Ends.calls k a0_0 a0_1 _ _ l0_2 a1 a2 t917 _ ?side1 ?side2 A4.out).mono ?_);(case side1=>repeat(first|exact(Kd.C_below HR0_2.out HB.out)|(with_reducible refine Kd.C_alloc ?_ _)|(with_reducible refine Kd.C_drewN ?_ _)|(with_reducible refine Kd.C_drew ?_)));(case side2=>exact HC0_2.out);rintro e w10 ⟨rfl,hb⟩;refine⟨_,rfl,?_⟩;have n0_:=Aside0.mk (blk_below (g:=gb916) (o:= .cells #[.int .i64 a0_0, .bool a0_1, .slice A0_2 l0_2.length c0_2] 24 (0,0)) (by(with_reducible repeat(first|refine blk_drewN ?_ _|refine blk_drew ?_|refine blk_alloc ?_ _));exact BK916.out) hb);have n1_:=Aside0.mk (below_step (by repeat(first|(with_reducible first|exact HB.out|apply below_alloc|apply pw_below_drewN|apply below_drew1|refine below_set ?_ GE916.out)|exact HB.out)) hb);clear BK916;clear HB;have BK916:=n0_;have HB:=n1_;clear n0_ n1_;(try clear hb);(try clear hb2);(try clear hk);(try clear hi);have hcz11_0:w10.cell? ⟨gb916,0,none⟩=some (.int .i64 a0_0):=(blk_cell BK916.out 0).trans rfl;have hcz11_1:w10.cell? ⟨gb916,1,none⟩=some (.bool a0_1):=(blk_cell BK916.out 1).trans rfl;have hcz11_2:w10.cell? ⟨gb916,2,none⟩=some (.slice A0_2 l0_2.length c0_2):=(blk_cell BK916.out 2).trans rfl;have hfz11_0:=blk_frozen BK916.out 0;have hfz11_1:=blk_frozen BK916.out 1;have hfz11_2:=blk_frozen BK916.out 2)|((with_reducible refine gate_callee (f:=121) rfl ?_);refine goesL_ (some 19) rfl rfl Try.func121 (by kernel_rfl) rfl #[.agg #[.int .i64 a0_0, .bool a0_1, .slice A0_2 l0_2.length c0_2], .int .i64 a1, .int .i64 a2] rfl (by(try simp only[List.map_toArray,List.map_cons,List.map_nil]);first|done|rfl|(simp only[List.length_drop,List.length_take];rfl)) ?_;(with_reducible refine(maxflow_Fill.calls a0_0 a0_1 _ _ l0_2 a1 a2 t918 _ ?side1 ?side2 A6.out).mono ?_);(case side1=>repeat(first|exact(Kd.C_below HR0_2.out HB.out)|(with_reducible refine Kd.C_alloc ?_ _)|(with_reducible refine Kd.C_drewN ?_ _)|(with_reducible refine Kd.C_drew ?_)));(case side2=>exact HC0_2.out);rintro e w12 ⟨v919,rfl,ho0,hb⟩;refine⟨_,rfl,?_⟩;have n0_:=Aside0.mk (Kd.R_lower ho0 (below_size (by repeat(first|(with_reducible first|exact HB.out|apply below_alloc|apply pw_below_drewN|apply below_drew1|refine below_set ?_ GE916.out)|exact HB.out))));have n1_:=Aside0.mk (blk_below (g:=gb916) (o:= .cells #[.int .i64 a0_0, .bool a0_1, .slice A0_2 l0_2.length c0_2] 24 (0,0)) (by(with_reducible repeat(first|refine blk_drewN ?_ _|refine blk_drew ?_|refine blk_alloc ?_ _));exact BK916.out) hb);have n2_:=Aside0.mk (below_step (by repeat(first|(with_reducible first|exact HB.out|apply below_alloc|apply pw_below_drewN|apply below_drew1|refine below_set ?_ GE916.out)|exact HB.out)) hb);clear BK916;clear HB;have HO920:=n0_;have BK916:=n1_;have HB:=n2_;clear n0_ n1_ n2_;(try clear hb);(try clear hb2);(try clear hk);(try clear hi);(try clear ho0);have hcz13_0:w12.cell? ⟨gb916,0,none⟩=some (.int .i64 a0_0):=(blk_cell BK916.out 0).trans rfl;have hcz13_1:w12.cell? ⟨gb916,1,none⟩=some (.bool a0_1):=(blk_cell BK916.out 1).trans rfl;have hcz13_2:w12.cell? ⟨gb916,2,none⟩=some (.slice A0_2 l0_2.length c0_2):=(blk_cell BK916.out 2).trans rfl;have hfz13_0:=blk_frozen BK916.out 0;have hfz13_1:=blk_frozen BK916.out 1;have hfz13_2:=blk_frozen BK916.out 2;obtain⟨Ao14,co14,eo14⟩:=Kd.R_slice HO920.out;subst eo14)|((with_reducible refine gate_callee (f:=119) rfl ?_);refine goesL_ (some 24) rfl rfl Try.func119 (by kernel_rfl) rfl #[.agg #[.int .i64 a0_0, .bool a0_1, .slice A0_2 l0_2.length c0_2], .int .i64 a1, .slice Ao14 t918.length co14] rfl (by(try simp only[List.map_toArray,List.map_cons,List.map_nil]);first|done|rfl|(simp only[List.length_drop,List.length_take];rfl)) ?_;(with_reducible refine(maxflow_Value.calls k a0_0 a0_1 _ _ l0_2 a1 _ _ t918 t921 _ ?side1 ?side2 ?side3 ?side4 A7.out).mono ?_);(case side1=>repeat(first|exact(Kd.C_below HR0_2.out HB.out)|(with_reducible refine Kd.C_alloc ?_ _)|(with_reducible refine Kd.C_drewN ?_ _)|(with_reducible refine Kd.C_drew ?_)));(case side2=>exact HC0_2.out);(case side3=>repeat(first|exact(Kd.R_reads' HO920.out).2.2|(with_reducible refine Kd.C_alloc ?_ _)|(with_reducible refine Kd.C_drewN ?_ _)|(with_reducible refine Kd.C_drew ?_)));(case side4=>exact(Kd.R_reads' HO920.out).2.1);rintro e w15 ⟨rfl,hb⟩;refine⟨_,rfl,?_⟩;have n0_:=Aside0.mk (Kd.R_below (by(with_reducible repeat(first|apply Kd.R_alloc|apply Kd.R_drewN|apply Kd.R_drew));exact HO920.out) hb);have n1_:=Aside0.mk (blk_below (g:=gb916) (o:= .cells #[.int .i64 a0_0, .bool a0_1, .slice A0_2 l0_2.length c0_2] 24 (0,0)) (by(with_reducible repeat(first|refine blk_drewN ?_ _|refine blk_drew ?_|refine blk_alloc ?_ _));exact BK916.out) hb);have n2_:=Aside0.mk (below_step (by repeat(first|(with_reducible first|exact HB.out|apply below_alloc|apply pw_below_drewN|apply below_drew1|refine below_set ?_ GE916.out)|exact HB.out)) hb);clear HO920;clear BK916;clear HB;have HO920:=n0_;have BK916:=n1_;have HB:=n2_;clear n0_ n1_ n2_;(try clear hb);(try clear hb2);(try clear hk);(try clear hi)))
 go_ret3
 exact⟨_,by first|rfl|(simp[errW_none,errW_some]<;>rfl)|(simp[*,errW_none,errW_some]<;>rfl),by(with_reducible repeat(first|apply Kd.R_alloc|apply Kd.R_drewN|apply Kd.R_drew));exact HO920.out,by repeat(first|(with_reducible first|exact HB.out|apply below_alloc|apply pw_below_drewN|apply below_drew1|refine below_set ?_ GE916.out)|exact HB.out)⟩
end Go.Proofs.Ytkcpanpdipmmmaa.P
namespace Go.Proofs.Ytkcpanpdipmmmaa.P
open Go.RowKit Go.Proofs.YtkcpanpdipmmmaaW.PrintWords Go.Proofs.YtkcpanpdipmmmaaW.PrintLast Go.Proofs.YtkcpanpdipmmmaaW.PrintMore
attribute [local go_sem] max2_int min2_int max_two min_two max_three min_three max_four min_four
def maxflow_Most.f (k:Nat) (a0_0:Int) (a0_1:Bool) (l0_2:List (S74)) (a1:Int) (a2:Int):Option (Int × Int):=(maxflow_Max.f k a0_0 a0_1 l0_2 a1 a2).bind fun bt923=>(some (bt923.2.1,bt923.2.2))
set_option maxHeartbeats 8000000 in
set_option maxRecDepth 100000 in
theorem maxflow_Most.calls (k:Nat) (a0_0:Int) (a0_1:Bool) (A0_2:Option Addr) (c0_2:Nat) (l0_2:List (S74)) (a1:Int) (a2:Int) (r1:Int) (r2:Int) (w:World) (hr0_2:Kd.C k74 w A0_2 l0_2.length l0_2) (hc0_2:l0_2.length≤c0_2) (h:maxflow_Most.f k a0_0 a0_1 l0_2 a1 a2=some (r1,r2)):
  Calls Try.prog 73 #[.agg #[.int .i64 a0_0, .bool a0_1, .slice A0_2 l0_2.length c0_2], .int .i64 a1, .int .i64 a2] w fun e w'=>e= .returned (.tuple #[.int .i64 r1, .int .i64 r2])∧Below w.heap.size w w':=by
 have hu24:=Try.underlying24
 have HR0_2:=Aside0.mk hr0_2
 have HC0_2:=Aside0.mk hc0_2
 clear hr0_2 hc0_2
 have HB:=Aside0.mk (Below.refl w.heap.size w)
 have H:((maxflow_Max.f k a0_0 a0_1 l0_2 a1 a2).bind fun bt923=>(some (bt923.2.1,bt923.2.2)))=some (r1,r2):=h
 clear h
 replace H:=Option.bind_eq_some_iff.mp H
 obtain⟨⟨t923,t926,t927⟩,A40,H⟩:=H
 replace H:(some (t926,t927))=some (r1,r2):=H
 have A4:=Aside0.mk A40
 clear A40
 simp only[Option.some.injEq,Prod.mk.injEq] at H
 obtain⟨rfl,rfl⟩:=H
 go_enter Try.func73,Try.ntmps73
 go_wp2_with (first|((with_reducible refine gate_dst (N:=3) rfl ?_);refine box_event ?hg (N:=3) ?hd (cs:= #[.int .i64 a0_0, .bool a0_1, .slice A0_2 l0_2.length c0_2]) (t:=24) ?hr ?_;(case hd=>rfl);(case hg=>rfl);(case hr=>first|(go_simp;done)|(go_simp;rfl));intro gb922 hg w5 hbox hb;have n0_:=Aside0.mk (below_step (by repeat(first|(with_reducible first|exact HB.out|apply below_alloc|apply pw_below_drewN|apply below_drew1)|exact HB.out)) hb);have n1_:=Aside0.mk (hbox);have n2_:=Aside0.mk ((by rw[hg];exact(below_size (by repeat(first|(with_reducible first|exact HB.out|apply below_alloc|apply pw_below_drewN|apply below_drew1)|exact HB.out))):w.heap.size≤gb922));have n3_:=Aside0.mk ((by rw[hg];exact(below_size (by repeat(first|(with_reducible first|exact HB.out|apply below_alloc|apply pw_below_drewN|apply below_drew1)|exact HB.out))):w.heap.size≤gb922));clear HB;have HB:=n0_;have BK922:=n1_;have GW922:=n2_;have GE922:=n3_;clear n0_ n1_ n2_ n3_;clear hb hbox hg;have hcz6_0:w5.cell? ⟨gb922,0,none⟩=some (.int .i64 a0_0):=(blk_cell BK922.out 0).trans rfl;have hcz6_1:w5.cell? ⟨gb922,1,none⟩=some (.bool a0_1):=(blk_cell BK922.out 1).trans rfl;have hcz6_2:w5.cell? ⟨gb922,2,none⟩=some (.slice A0_2 l0_2.length c0_2):=(blk_cell BK922.out 2).trans rfl;have hfz6_0:=blk_frozen BK922.out 0;have hfz6_1:=blk_frozen BK922.out 1;have hfz6_2:=blk_frozen BK922.out 2)|((with_reducible refine gate_callee (f:=76) rfl ?_);refine goesL_ (some 12) rfl rfl Try.func76 (by kernel_rfl) rfl #[.agg #[.int .i64 a0_0, .bool a0_1, .slice A0_2 l0_2.length c0_2], .int .i64 a1, .int .i64 a2] rfl (by(try simp only[List.map_toArray,List.map_cons,List.map_nil]);first|done|rfl|(simp only[List.length_drop,List.length_take];rfl)) ?_;(with_reducible refine(maxflow_Max.calls k a0_0 a0_1 _ _ l0_2 a1 a2 t923 t926 t927 _ ?side1 ?side2 A4.out).mono ?_);(case side1=>repeat(first|exact(Kd.C_below HR0_2.out HB.out)|(with_reducible refine Kd.C_alloc ?_ _)|(with_reducible refine Kd.C_drewN ?_ _)|(with_reducible refine Kd.C_drew ?_)));(case side2=>exact HC0_2.out);rintro e w7 ⟨v924,rfl,ho0,hb⟩;refine⟨_,rfl,?_⟩;have n0_:=Aside0.mk (Kd.R_lower ho0 (below_size (by repeat(first|(with_reducible first|exact HB.out|apply below_alloc|apply pw_below_drewN|apply below_drew1|refine below_set ?_ GE922.out)|exact HB.out))));have n1_:=Aside0.mk (blk_below (g:=gb922) (o:= .cells #[.int .i64 a0_0, .bool a0_1, .slice A0_2 l0_2.length c0_2] 24 (0,0)) (by(with_reducible repeat(first|refine blk_drewN ?_ _|refine blk_drew ?_|refine blk_alloc ?_ _));exact BK922.out) hb);have n2_:=Aside0.mk (below_step (by repeat(first|(with_reducible first|exact HB.out|apply below_alloc|apply pw_below_drewN|apply below_drew1|refine below_set ?_ GE922.out)|exact HB.out)) hb);clear BK922;clear HB;have HO925:=n0_;have BK922:=n1_;have HB:=n2_;clear n0_ n1_ n2_;(try clear hb);(try clear hb2);(try clear hk);(try clear hi);(try clear ho0)))
 go_ret2
 exact⟨by first|rfl|(simp[errW_none,errW_some]<;>rfl)|(simp[*,errW_none,errW_some]<;>rfl),by repeat(first|(with_reducible first|exact HB.out|apply below_alloc|apply pw_below_drewN|apply below_drew1|refine below_set ?_ GE922.out)|exact HB.out)⟩
end Go.Proofs.Ytkcpanpdipmmmaa.P
namespace Go.Proofs.Ytkcpanpdipmmmaa.P
open Go.RowKit Go.Proofs.YtkcpanpdipmmmaaW.PrintWords Go.Proofs.YtkcpanpdipmmmaaW.PrintLast Go.Proofs.YtkcpanpdipmmmaaW.PrintMore
attribute [local go_sem] max2_int min2_int max_two min_two max_three min_three max_four min_four
def ebbtidelaw09_awake.f (k:Nat)  :Option (Bool):=(some (([(⟨0,1,3,0⟩:S74),(⟨0,2,2,0⟩:S74),(⟨1,3,2,0⟩:S74),(⟨2,3,3,0⟩:S74),(⟨1,2,5,0⟩:S74)]:List (S74)):List (S74))).bind fun y949=>((maxflow_Max.f k 4 false y949 0 3).bind fun bt953=>((maxflow_Most.f k 4 false y949 3 0).bind fun bt958=>((maxflow_Max.f k 4 false y949 1 1).bind fun bt960=>(if bt953.2.2=0 then(if bt953.2.1=5 then(if (bt953.1.length:Int)=5 then(if bt958.2=0 then(if bt958.1=0 then(some (bt960.2.2 == 70)) else(some false)) else(some false)) else(some false)) else(some false)) else(some false)))))
set_option maxHeartbeats 8000000 in
set_option maxRecDepth 100000 in
theorem ebbtidelaw09_awake.calls (k:Nat)  (r:Bool) (w:World) (h:ebbtidelaw09_awake.f k  =some r) (hrT_:r=true:=by first|rfl|exact Aside0.out (by assumption)):
  Calls Try.prog 75 #[] w fun e w'=>e= .returned (.bool r)∧Below w.heap.size w w':=by
 have HRT:=Aside0.mk hrT_
 clear hrT_
 have hu74:=Try.underlying74
 have hu24:=Try.underlying24
 have HB:=Aside0.mk (Below.refl w.heap.size w)
 have H:((some (([(⟨0,1,3,0⟩:S74),(⟨0,2,2,0⟩:S74),(⟨1,3,2,0⟩:S74),(⟨2,3,3,0⟩:S74),(⟨1,2,5,0⟩:S74)]:List (S74)):List (S74))).bind fun y949=>((maxflow_Max.f k 4 false y949 0 3).bind fun bt953=>((maxflow_Most.f k 4 false y949 3 0).bind fun bt958=>((maxflow_Max.f k 4 false y949 1 1).bind fun bt960=>(if bt953.2.2=0 then(if bt953.2.1=5 then(if (bt953.1.length:Int)=5 then(if bt958.2=0 then(if bt958.1=0 then(some (bt960.2.2 == 70)) else(some false)) else(some false)) else(some false)) else(some false)) else(some false))))))=some r:=h
 clear h
 obtain⟨y949,hy949⟩: ∃ y_:List (S74),y_=(([(⟨0,1,3,0⟩:S74),(⟨0,2,2,0⟩:S74),(⟨1,3,2,0⟩:S74),(⟨2,3,3,0⟩:S74),(⟨1,2,5,0⟩:S74)]:List (S74))):=⟨_,rfl⟩
 replace H:((maxflow_Max.f k 4 false y949 0 3).bind fun bt953=>((maxflow_Most.f k 4 false y949 3 0).bind fun bt958=>((maxflow_Max.f k 4 false y949 1 1).bind fun bt960=>(if bt953.2.2=0 then(if bt953.2.1=5 then(if (bt953.1.length:Int)=5 then(if bt958.2=0 then(if bt958.1=0 then(some (bt960.2.2 == 70)) else(some false)) else(some false)) else(some false)) else(some false)) else(some false)))))=some r:=by first|(rw[hy949];with_reducible exact H)|(have H2_:=(Option.bind_some _ _).symm.trans H;rw[hy949];with_reducible exact H2_)|(have H2_:=(Option.bind_some _ _).symm.trans H;with_reducible exact H2_)|with_reducible exact H|(rw[hy949];exact H)|exact H
 have Ny949:=Aside0.mk hy949
 clear hy949
 replace H:=Option.bind_eq_some_iff.mp H
 obtain⟨⟨t953,t956,t957⟩,A10,H⟩:=H
 replace H:((maxflow_Most.f k 4 false y949 3 0).bind fun bt958=>((maxflow_Max.f k 4 false y949 1 1).bind fun bt960=>(if t957=0 then(if t956=5 then(if (t953.length:Int)=5 then(if bt958.2=0 then(if bt958.1=0 then(some (bt960.2.2 == 70)) else(some false)) else(some false)) else(some false)) else(some false)) else(some false))))=some r:=H
 have A1:=Aside0.mk A10
 clear A10
 replace H:=Option.bind_eq_some_iff.mp H
 obtain⟨⟨t958,t959⟩,A20,H⟩:=H
 replace H:((maxflow_Max.f k 4 false y949 1 1).bind fun bt960=>(if t957=0 then(if t956=5 then(if (t953.length:Int)=5 then(if t959=0 then(if t958=0 then(some (bt960.2.2 == 70)) else(some false)) else(some false)) else(some false)) else(some false)) else(some false)))=some r:=H
 have A2:=Aside0.mk A20
 clear A20
 replace H:=Option.bind_eq_some_iff.mp H
 obtain⟨⟨t960,t963,t964⟩,A30,H⟩:=H
 replace H:(if t957=0 then(if t956=5 then(if (t953.length:Int)=5 then(if t959=0 then(if t958=0 then(some (t964 == 70)) else(some false)) else(some false)) else(some false)) else(some false)) else(some false))=some r:=H
 have A3:=Aside0.mk A30
 clear A30
 by_cases c4:t957=0
 rotate_left
 ·rw[if_neg c4] at H
  exact absurd (Option.some.inj H) (by rw[HRT.out];decide)
 rw[if_pos c4] at H
 have c4b0:(t957 == 0)=true:=beq_iff_eq.mpr c4
 have c4b1:(t957 != 0)=false:=bne_eq_false_iff_eq.mpr c4
 clear c4
 by_cases c5:t956=5
 rotate_left
 ·rw[if_neg c5] at H
  exact absurd (Option.some.inj H) (by rw[HRT.out];decide)
 rw[if_pos c5] at H
 have c5b0:(t956 == 5)=true:=beq_iff_eq.mpr c5
 have c5b1:(t956 != 5)=false:=bne_eq_false_iff_eq.mpr c5
 clear c5
 by_cases c6:(t953.length:Int)=5
 rotate_left
 ·rw[if_neg c6] at H
  exact absurd (Option.some.inj H) (by rw[HRT.out];decide)
 rw[if_pos c6] at H
 have c6b0:((t953.length:Int) == 5)=true:=beq_iff_eq.mpr c6
 have c6b1:((t953.length:Int) != 5)=false:=bne_eq_false_iff_eq.mpr c6
 clear c6
 by_cases c7:t959=0
 rotate_left
 ·rw[if_neg c7] at H
  exact absurd (Option.some.inj H) (by rw[HRT.out];decide)
 rw[if_pos c7] at H
 have c7b0:(t959 == 0)=true:=beq_iff_eq.mpr c7
 have c7b1:(t959 != 0)=false:=bne_eq_false_iff_eq.mpr c7
 clear c7
 by_cases c8:t958=0
 rotate_left
 ·rw[if_neg c8] at H
  exact absurd (Option.some.inj H) (by rw[HRT.out];decide)
 rw[if_pos c8] at H
 have c8b0:(t958 == 0)=true:=beq_iff_eq.mpr c8
 have c8b1:(t958 != 0)=false:=bne_eq_false_iff_eq.mpr c8
 clear c8
 obtain rfl:=Option.some.inj H
 go_enter Try.func75,Try.ntmps75
 go_wp2_with (first|((with_reducible refine gate_dst (N:=15) rfl ?_);(try (refine gate_guard (by rfl) ?_;dsimp only));refine Kd.R_lit k74 _ 74 ?hg (N:=15) ?hd (xs:=([(⟨0,1,3,0⟩:S74),(⟨0,2,2,0⟩:S74),(⟨1,3,2,0⟩:S74),(⟨2,3,3,0⟩:S74),(⟨1,2,5,0⟩:S74)]:List (S74))) (inner:=[.int .i64 0, .int .i64 1, .int .i64 3, .int .i64 0, .int .i64 0, .int .i64 2, .int .i64 2, .int .i64 0, .int .i64 1, .int .i64 3, .int .i64 2, .int .i64 0, .int .i64 2, .int .i64 3, .int .i64 3, .int .i64 0, .int .i64 1, .int .i64 2, .int .i64 5, .int .i64 0]) (ok:=fun _=>True) (okp:=fun _=>True) ?hr ?hp (fun _ hk=>hk) trivial (Below.refl _ _) (Nat.le_refl _) (by simp) ?_;(case hd=>rfl);(case hg=>rfl);(case hr=>first|(go_simp;done)|(go_simp;rfl));(case hp=>exact(Reps.c4 (show Kd.M k74 _ _ _ (⟨0,1,3,0⟩:S74) [.int .i64 0, .int .i64 1, .int .i64 3, .int .i64 0] from(k74_mkM _ _ _ (⟨0,1,3,0⟩:S74) )) (Reps.c4 (show Kd.M k74 _ _ _ (⟨0,2,2,0⟩:S74) [.int .i64 0, .int .i64 2, .int .i64 2, .int .i64 0] from(k74_mkM _ _ _ (⟨0,2,2,0⟩:S74) )) (Reps.c4 (show Kd.M k74 _ _ _ (⟨1,3,2,0⟩:S74) [.int .i64 1, .int .i64 3, .int .i64 2, .int .i64 0] from(k74_mkM _ _ _ (⟨1,3,2,0⟩:S74) )) (Reps.c4 (show Kd.M k74 _ _ _ (⟨2,3,3,0⟩:S74) [.int .i64 2, .int .i64 3, .int .i64 3, .int .i64 0] from(k74_mkM _ _ _ (⟨2,3,3,0⟩:S74) )) (Reps.c4 (show Kd.M k74 _ _ _ (⟨1,2,5,0⟩:S74) [.int .i64 1, .int .i64 2, .int .i64 5, .int .i64 0] from(k74_mkM _ _ _ (⟨1,2,5,0⟩:S74) )) (Reps.none _ _)))))));intro v950 w9 ho10 hb hg_ hnew_;clear hg_ hnew_;(first|rw[← Ny949.out] at ho10|(simp only[Int.reduceToNat] at ho10;rw[← Ny949.out] at ho10));have n0_:=Aside0.mk (Kd.R_lower ho10 (below_size (by repeat(first|(with_reducible first|exact HB.out|apply below_alloc|apply pw_below_drewN|apply below_drew1)|exact HB.out))));have n1_:=Aside0.mk (below_step (by repeat(first|(with_reducible first|exact HB.out|apply below_alloc|apply pw_below_drewN|apply below_drew1)|exact HB.out)) hb);clear HB;have HO951:=n0_;have HB:=n1_;clear n0_ n1_;clear hb ho10;obtain⟨Ao11,co11,eo11⟩:=Kd.R_slice HO951.out;subst eo11)|((with_reducible refine gate_dst (N:=1) rfl ?_);(try (refine gate_guard (by rfl) ?_;dsimp only));refine box_event ?hg (N:=1) ?hd (cs:= #[.int .i64 0, .bool false, .slice none 0 0]) (t:=24) ?hr ?_;(case hd=>rfl);(case hg=>rfl);(case hr=>first|(go_simp;done)|(go_simp;rfl));intro gb952 hg w12 hbox hb;have n0_:=Aside0.mk (Kd.R_below (by(with_reducible repeat(first|apply Kd.R_alloc|apply Kd.R_drewN|apply Kd.R_drew));exact HO951.out) hb);have n1_:=Aside0.mk (below_step (by repeat(first|(with_reducible first|exact HB.out|apply below_alloc|apply pw_below_drewN|apply below_drew1)|exact HB.out)) hb);have n2_:=Aside0.mk (hbox);have n3_:=Aside0.mk ((by rw[hg];exact(below_size (by repeat(first|(with_reducible first|exact HB.out|apply below_alloc|apply pw_below_drewN|apply below_drew1)|exact HB.out))):w.heap.size≤gb952));have n4_:=Aside0.mk ((by rw[hg];exact(below_size (by repeat(first|(with_reducible first|exact HB.out|apply below_alloc|apply pw_below_drewN|apply below_drew1)|exact HB.out))):w.heap.size≤gb952));clear HO951;clear HB;have HO951:=n0_;have HB:=n1_;have BK952:=n2_;have GW952:=n3_;have GE952:=n4_;clear n0_ n1_ n2_ n3_ n4_;clear hb hbox hg;have hcz13_0:w12.cell? ⟨gb952,0,none⟩=some (.int .i64 0):=(blk_cell BK952.out 0).trans rfl;have hcz13_1:w12.cell? ⟨gb952,1,none⟩=some (.bool false):=(blk_cell BK952.out 1).trans rfl;have hcz13_2:w12.cell? ⟨gb952,2,none⟩=some (.slice none 0 0):=(blk_cell BK952.out 2).trans rfl;have hfz13_0:=blk_frozen BK952.out 0;have hfz13_1:=blk_frozen BK952.out 1;have hfz13_2:=blk_frozen BK952.out 2)|((with_reducible refine gate_callee (f:=76) rfl ?_);refine goesL_ (some 19) rfl rfl Try.func76 (by kernel_rfl) rfl #[.agg #[.int .i64 4, .bool false, .slice Ao11 y949.length co11], .int .i64 0, .int .i64 3] rfl (by(try simp only[List.map_toArray,List.map_cons,List.map_nil]);first|done|rfl|(simp only[List.length_drop,List.length_take];rfl)) ?_;(with_reducible refine(maxflow_Max.calls k 4 false _ _ y949 0 3 t953 t956 t957 _ ?side1 ?side2 A1.out).mono ?_);(case side1=>refine(Kd.R_reads' (e:=74) (base:=w.heap.size) (ok:=fun k_=>True) (n:=y949.length) (c:=co11) ?_).2.2;exact(by(with_reducible repeat(first|apply Kd.R_alloc|apply Kd.R_drewN|apply Kd.R_drew));exact(Kd.R_mono (Kd.R_far (p:=⟨gb952,2,none⟩) (Kd.R_far (p:=⟨gb952,1,none⟩) (Kd.R_far (p:=⟨gb952,0,none⟩) (Kd.R_types HO951.out BK952.out (by decide)) (fun _ hk=>hk.2) (.int .i64 4)) (fun _ hk=>hk.2) (.bool false)) (fun _ hk=>hk.2) (.slice Ao11 y949.length co11)) (fun _ h_=>h_.1))));(case side2=>exact(Kd.R_reads' HO951.out).2.1);rintro e w14 ⟨v954,rfl,ho0,hb⟩;refine⟨_,rfl,?_⟩;have n0_:=Aside0.mk (Kd.R_below (by(with_reducible repeat(first|apply Kd.R_alloc|apply Kd.R_drewN|apply Kd.R_drew));exact(Kd.R_mono (Kd.R_far (p:=⟨gb952,2,none⟩) (Kd.R_far (p:=⟨gb952,1,none⟩) (Kd.R_far (p:=⟨gb952,0,none⟩) (Kd.R_types HO951.out BK952.out (by decide)) (fun _ hk=>hk.2) (.int .i64 4)) (fun _ hk=>hk.2) (.bool false)) (fun _ hk=>hk.2) (.slice Ao11 y949.length co11)) (fun _ h_=>h_.1))) hb);have n1_:=Aside0.mk (Kd.R_lower ho0 (below_size (by repeat(first|(with_reducible first|exact HB.out|apply below_alloc|apply pw_below_drewN|apply below_drew1|refine below_set ?_ GE952.out)|exact HB.out))));have n2_:=Aside0.mk (blk_below (g:=gb952) (o:= .cells #[.int .i64 4, .bool false, .slice Ao11 y949.length co11] 24 (0,0)) (by(with_reducible repeat(first|refine blk_drewN ?_ _|refine blk_drew ?_|refine blk_alloc ?_ _));refine blk_put (cs:= #[.int .i64 4, .bool false, .slice none 0 0]) ?_ 2 _ rfl;(with_reducible repeat(first|refine blk_drewN ?_ _|refine blk_drew ?_|refine blk_alloc ?_ _));refine blk_put (cs:= #[.int .i64 4, .bool false, .slice none 0 0]) ?_ 1 _ rfl;(with_reducible repeat(first|refine blk_drewN ?_ _|refine blk_drew ?_|refine blk_alloc ?_ _));refine blk_put (cs:= #[.int .i64 0, .bool false, .slice none 0 0]) ?_ 0 _ rfl;(with_reducible repeat(first|refine blk_drewN ?_ _|refine blk_drew ?_|refine blk_alloc ?_ _));exact BK952.out) hb);have n3_:=Aside0.mk (below_step (by repeat(first|(with_reducible first|exact HB.out|apply below_alloc|apply pw_below_drewN|apply below_drew1|refine below_set ?_ GE952.out)|exact HB.out)) hb);clear HO951;clear BK952;clear HB;have HO951:=n0_;have HO955:=n1_;have BK952:=n2_;have HB:=n3_;clear n0_ n1_ n2_ n3_;(try clear hb);(try clear hb2);(try clear hk);(try clear hi);(try clear ho0);have hcz15_0:w14.cell? ⟨gb952,0,none⟩=some (.int .i64 4):=(blk_cell BK952.out 0).trans rfl;have hcz15_1:w14.cell? ⟨gb952,1,none⟩=some (.bool false):=(blk_cell BK952.out 1).trans rfl;have hcz15_2:w14.cell? ⟨gb952,2,none⟩=some (.slice Ao11 y949.length co11):=(blk_cell BK952.out 2).trans rfl;have hfz15_0:=blk_frozen BK952.out 0;have hfz15_1:=blk_frozen BK952.out 1;have hfz15_2:=blk_frozen BK952.out 2)|((with_reducible refine gate_callee (f:=73) rfl ?_);refine goesL_ (some 25) rfl rfl Try.func73 (by kernel_rfl) rfl #[.agg #[.int .i64 4, .bool false, .slice Ao11 y949.length co11], .int .i64 3, .int .i64 0] rfl (by(try simp only[List.map_toArray,List.map_cons,List.map_nil]);first|done|rfl|(simp only[List.length_drop,List.length_take];rfl)) ?_;(with_reducible refine(maxflow_Most.calls k 4 false _ _ y949 3 0 t958 t959 _ ?side1 ?side2 A2.out).mono ?_);(case side1=>repeat(first|exact(Kd.R_reads' HO951.out).2.2|(with_reducible refine Kd.C_alloc ?_ _)|(with_reducible refine Kd.C_drewN ?_ _)|(with_reducible refine Kd.C_drew ?_)));(case side2=>exact(Kd.R_reads' HO951.out).2.1);rintro e w16 ⟨rfl,hb⟩;refine⟨_,rfl,?_⟩;have n0_:=Aside0.mk (Kd.R_below (by(with_reducible repeat(first|apply Kd.R_alloc|apply Kd.R_drewN|apply Kd.R_drew));exact HO951.out) hb);have n1_:=Aside0.mk (Kd.R_below (by(with_reducible repeat(first|apply Kd.R_alloc|apply Kd.R_drewN|apply Kd.R_drew));exact HO955.out) hb);have n2_:=Aside0.mk (blk_below (g:=gb952) (o:= .cells #[.int .i64 4, .bool false, .slice Ao11 y949.length co11] 24 (0,0)) (by(with_reducible repeat(first|refine blk_drewN ?_ _|refine blk_drew ?_|refine blk_alloc ?_ _));exact BK952.out) hb);have n3_:=Aside0.mk (below_step (by repeat(first|(with_reducible first|exact HB.out|apply below_alloc|apply pw_below_drewN|apply below_drew1|refine below_set ?_ GE952.out)|exact HB.out)) hb);clear HO951;clear HO955;clear BK952;clear HB;have HO951:=n0_;have HO955:=n1_;have BK952:=n2_;have HB:=n3_;clear n0_ n1_ n2_ n3_;(try clear hb);(try clear hb2);(try clear hk);(try clear hi);have hcz17_0:w16.cell? ⟨gb952,0,none⟩=some (.int .i64 4):=(blk_cell BK952.out 0).trans rfl;have hcz17_1:w16.cell? ⟨gb952,1,none⟩=some (.bool false):=(blk_cell BK952.out 1).trans rfl;have hcz17_2:w16.cell? ⟨gb952,2,none⟩=some (.slice Ao11 y949.length co11):=(blk_cell BK952.out 2).trans rfl;have hfz17_0:=blk_frozen BK952.out 0;have hfz17_1:=blk_frozen BK952.out 1;have hfz17_2:=blk_frozen BK952.out 2)|((with_reducible refine gate_callee (f:=76) rfl ?_);refine goesL_ (some 30) rfl rfl Try.func76 (by kernel_rfl) rfl #[.agg #[.int .i64 4, .bool false, .slice Ao11 y949.length co11], .int .i64 1, .int .i64 1] rfl (by(try simp only[List.map_toArray,List.map_cons,List.map_nil]);first|done|rfl|(simp only[List.length_drop,List.length_take];rfl)) ?_;(with_reducible refine(maxflow_Max.calls k 4 false _ _ y949 1 1 t960 t963 t964 _ ?side1 ?side2 A3.out).mono ?_);(case side1=>repeat(first|exact(Kd.R_reads' HO951.out).2.2|(with_reducible refine Kd.C_alloc ?_ _)|(with_reducible refine Kd.C_drewN ?_ _)|(with_reducible refine Kd.C_drew ?_)));(case side2=>exact(Kd.R_reads' HO951.out).2.1);rintro e w18 ⟨v961,rfl,ho0,hb⟩;refine⟨_,rfl,?_⟩;have n0_:=Aside0.mk (Kd.R_below (by(with_reducible repeat(first|apply Kd.R_alloc|apply Kd.R_drewN|apply Kd.R_drew));exact HO951.out) hb);have n1_:=Aside0.mk (Kd.R_elder' (by(with_reducible repeat(first|apply Kd.R_alloc|apply Kd.R_drewN|apply Kd.R_drew));exact HO955.out) (Kd.R_base ho0) hb);have n2_:=Aside0.mk (Kd.R_lower (Kd.R_new' ho0 (Kd.R_lt (by(with_reducible repeat(first|apply Kd.R_alloc|apply Kd.R_drewN|apply Kd.R_drew));exact HO955.out))) (below_size (by repeat(first|(with_reducible first|exact HB.out|apply below_alloc|apply pw_below_drewN|apply below_drew1|refine below_set ?_ GE952.out)|exact HB.out))));have n3_:=Aside0.mk (blk_below (g:=gb952) (o:= .cells #[.int .i64 4, .bool false, .slice Ao11 y949.length co11] 24 (0,0)) (by(with_reducible repeat(first|refine blk_drewN ?_ _|refine blk_drew ?_|refine blk_alloc ?_ _));exact BK952.out) hb);have n4_:=Aside0.mk (below_step (by repeat(first|(with_reducible first|exact HB.out|apply below_alloc|apply pw_below_drewN|apply below_drew1|refine below_set ?_ GE952.out)|exact HB.out)) hb);clear HO951;clear HO955;clear BK952;clear HB;have HO951:=n0_;have HO955:=n1_;have HO962:=n2_;have BK952:=n3_;have HB:=n4_;clear n0_ n1_ n2_ n3_ n4_;(try clear hb);(try clear hb2);(try clear hk);(try clear hi);(try clear ho0);obtain⟨Ao19,co19,eo19⟩:=Kd.R_slice HO955.out;subst eo19))
 go_ret
 exact⟨by first|rfl|(simp[errW_none,errW_some]<;>rfl)|(simp[*,errW_none,errW_some]<;>rfl),by repeat(first|(with_reducible first|exact HB.out|apply below_alloc|apply pw_below_drewN|apply below_drew1|refine below_set ?_ GE952.out)|exact HB.out)⟩
end Go.Proofs.Ytkcpanpdipmmmaa.P
