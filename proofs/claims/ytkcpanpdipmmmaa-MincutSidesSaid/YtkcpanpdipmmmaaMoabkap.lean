/- What the law's row needs of these texts, taken out of them by wip/tool/mini.py: P134 P139 QLevelWalk P66 P144 P136 P145 P146 QOpen QLevelLaw QCheckRef QMostLaw QMinLaw QLMincut. -/
import Derived.Test.YtkcpanpdipmmmaaMgacmmg
import Derived.Test.YtkcpanpdipmmmaaMcheinm
import Derived.Test.YtkcpanpdipmmmaaMjdgmph
import Derived.Test.YtkcpanpdipmmmaaMhlcjga
import Derived.Test.YtkcpanpdipmmmaaVhghhha
import Derived.Deep.Slices
import Derived.Deep.Fields
import Derived.ChangeSame
import Derived.ChangeArms
import Derived.OpenShut
set_option linter.unusedVariables false
set_option linter.unusedSimpArgs false
namespace Go.Proofs.Ytkcpanpdipmmmaa.P
open Go.RowKit Go.Proofs.YtkcpanpdipmmmaaW.PrintWords Go.Proofs.YtkcpanpdipmmmaaW.PrintLast Go.Proofs.YtkcpanpdipmmmaaW.PrintMore
attribute [local go_sem] max2_int min2_int max_two min_two max_three min_three max_four min_four
def mincut_Least.f (k:Nat) (a0_0:Int) (a0_1:Bool) (l0_2:List (S74)) (a1:Int) (a2:Int):Option (List Bool × Int × Int):=(static_Ends.f k a0_0 a0_1 l0_2 a1 a2).bind fun t1038=>(if t1038=0 then((maxflow_Fill.f a0_0 a0_1 l0_2 a1 a2).bind fun t1039=>((mincut_Behind.f a0_0 a0_1 l0_2 t1039 a1).bind fun t1042=>((mincut_takes.f k a0_0 a0_1 l0_2 t1042).bind fun t1045=>(some (t1042,t1045,0))))) else(some (([]:List Bool),0,t1038)))
def mincut_Least.T4:Bool × List (List Nat × List Nat):=(true,[([],[]),([],[]),([],[]),([],[]),([1,2,3],[1,2,3]),([],[]),([0,4,5,4],[0,4,5]),([6,6,0,1,2,3,4,5,6],[6])])
def mincut_Least.B4:List Nat:=[0,0,0,0,14,0,63,127]
theorem mincut_Least.tab4:rtab .any (opsOf Try.f79 4)=mincut_Least.T4:=by kernel_rfl
theorem mincut_Least.bits4:waitsOk mincut_Least.T4.2 mincut_Least.B4=true:=by kernel_rfl
set_option maxHeartbeats 8000000 in
set_option maxRecDepth 100000 in
theorem mincut_Least.calls (k:Nat) (a0_0:Int) (a0_1:Bool) (A0_2:Option Addr) (c0_2:Nat) (l0_2:List (S74)) (a1:Int) (a2:Int) (r1:List Bool) (r2:Int) (r3:Int) (w:World) (hr0_2:Kd.C k74 w A0_2 l0_2.length l0_2) (hc0_2:l0_2.length≤c0_2) (h:mincut_Least.f k a0_0 a0_1 l0_2 a1 a2=some (r1,r2,r3)):
  Calls Try.prog 79 #[.agg #[.int .i64 a0_0, .bool a0_1, .slice A0_2 l0_2.length c0_2], .int .i64 a1, .int .i64 a2] w fun e w'=> ∃ v0_:Value,e= .returned (.tuple #[v0_, .int .i64 r2, .int .i64 r3])∧Kd.R Kd.bool 4 w' w.heap.size (fun _=>True) v0_ r1∧Below w.heap.size w w':=by
 have hu24:=Try.underlying24
 have HR0_2:=Aside0.mk hr0_2
 have HC0_2:=Aside0.mk hc0_2
 clear hr0_2 hc0_2
 have HB:=Aside0.mk (Below.refl w.heap.size w)
 have H:((static_Ends.f k a0_0 a0_1 l0_2 a1 a2).bind fun t1038=>(if t1038=0 then((maxflow_Fill.f a0_0 a0_1 l0_2 a1 a2).bind fun t1039=>((mincut_Behind.f a0_0 a0_1 l0_2 t1039 a1).bind fun t1042=>((mincut_takes.f k a0_0 a0_1 l0_2 t1042).bind fun t1045=>(some (t1042,t1045,0))))) else(some (([]:List Bool),0,t1038))))=some (r1,r2,r3):=h
 clear h
 replace H:=Option.bind_eq_some_iff.mp H
 obtain⟨t1038,A40,H⟩:=H
 replace H:(if t1038=0 then((maxflow_Fill.f a0_0 a0_1 l0_2 a1 a2).bind fun t1039=>((mincut_Behind.f a0_0 a0_1 l0_2 t1039 a1).bind fun t1042=>((mincut_takes.f k a0_0 a0_1 l0_2 t1042).bind fun t1045=>(some (t1042,t1045,0))))) else(some (([]:List Bool),0,t1038)))=some (r1,r2,r3):=H
 have A4:=Aside0.mk A40
 clear A40
 by_cases c5:t1038=0
 rotate_left
 ·rw[if_neg c5] at H
  have c5b0:(t1038 == 0)=false:=beq_eq_false_iff_ne.mpr c5
  have c5b1:(t1038 != 0)=true:=bne_iff_ne.mpr c5
  simp only[Option.some.injEq,Prod.mk.injEq] at H
  obtain⟨rfl,rfl,rfl⟩:=H
  go_enter Try.func79,Try.ntmps79
  go_wp2_with (first|((with_reducible refine gate_dst (N:=3) rfl ?_);refine box_event ?hg (N:=3) ?hd (cs:= #[.int .i64 a0_0, .bool a0_1, .slice A0_2 l0_2.length c0_2]) (t:=24) ?hr ?_;(case hd=>rfl);(case hg=>rfl);(case hr=>first|(go_simp;done)|(go_simp;rfl));intro gb1037 hg w19 hbox hb;have n0_:=Aside0.mk (below_step (by repeat(first|(with_reducible first|exact HB.out|apply below_alloc|apply pw_below_drewN|apply below_drew1)|exact HB.out)) hb);have n1_:=Aside0.mk (hbox);have n2_:=Aside0.mk ((by rw[hg];exact(below_size (by repeat(first|(with_reducible first|exact HB.out|apply below_alloc|apply pw_below_drewN|apply below_drew1)|exact HB.out))):w.heap.size≤gb1037));have n3_:=Aside0.mk ((by rw[hg];exact(below_size (by repeat(first|(with_reducible first|exact HB.out|apply below_alloc|apply pw_below_drewN|apply below_drew1)|exact HB.out))):w.heap.size≤gb1037));clear HB;have HB:=n0_;have BK1037:=n1_;have GW1037:=n2_;have GE1037:=n3_;clear n0_ n1_ n2_ n3_;clear hb hbox hg;have hcz20_0:w19.cell? ⟨gb1037,0,none⟩=some (.int .i64 a0_0):=(blk_cell BK1037.out 0).trans rfl;have hcz20_1:w19.cell? ⟨gb1037,1,none⟩=some (.bool a0_1):=(blk_cell BK1037.out 1).trans rfl;have hcz20_2:w19.cell? ⟨gb1037,2,none⟩=some (.slice A0_2 l0_2.length c0_2):=(blk_cell BK1037.out 2).trans rfl;have hfz20_0:=blk_frozen BK1037.out 0;have hfz20_1:=blk_frozen BK1037.out 1;have hfz20_2:=blk_frozen BK1037.out 2)|((with_reducible refine gate_callee (f:=111) rfl ?_);refine goesL_ (some 12) rfl rfl Try.func111 (by kernel_rfl) rfl #[.agg #[.int .i64 a0_0, .bool a0_1, .slice A0_2 l0_2.length c0_2], .int .i64 a1, .int .i64 a2] rfl (by(try simp only[List.map_toArray,List.map_cons,List.map_nil]);first|done|rfl|(simp only[List.length_drop,List.length_take];rfl)) ?_;(with_reducible refine(static_Ends.calls k a0_0 a0_1 _ _ l0_2 a1 a2 t1038 _ ?side1 ?side2 A4.out).mono ?_);(case side1=>repeat(first|exact(Kd.C_below HR0_2.out HB.out)|(with_reducible refine Kd.C_alloc ?_ _)|(with_reducible refine Kd.C_drewN ?_ _)|(with_reducible refine Kd.C_drew ?_)));(case side2=>exact HC0_2.out);rintro e w21 ⟨rfl,hb⟩;refine⟨_,rfl,?_⟩;have n0_:=Aside0.mk (blk_below (g:=gb1037) (o:= .cells #[.int .i64 a0_0, .bool a0_1, .slice A0_2 l0_2.length c0_2] 24 (0,0)) (by(with_reducible repeat(first|refine blk_drewN ?_ _|refine blk_drew ?_|refine blk_alloc ?_ _));exact BK1037.out) hb);have n1_:=Aside0.mk (below_step (by repeat(first|(with_reducible first|exact HB.out|apply below_alloc|apply pw_below_drewN|apply below_drew1|refine below_set ?_ GE1037.out)|exact HB.out)) hb);clear BK1037;clear HB;have BK1037:=n0_;have HB:=n1_;clear n0_ n1_;(try clear hb);(try clear hb2);(try clear hk);(try clear hi)))
  go_ret3
  exact⟨_,by first|rfl|(simp[errW_none,errW_some]<;>rfl)|(simp[*,errW_none,errW_some]<;>rfl),by first|exact Kd.R_nil _ _ _ _ _|exact Kd.N_nil _ _ _ _ _|exact Kd.V_nil _ _ _ _ _|exact Kd.Q_nil _ _ _ _ _|exact Kd.S_nil _ _ _ _ _,by repeat(first|(with_reducible first|exact HB.out|apply below_alloc|apply pw_below_drewN|apply below_drew1|refine below_set ?_ GE1037.out)|exact HB.out)⟩
 rw[if_pos c5] at H
 have c5b0:(t1038 == 0)=true:=beq_iff_eq.mpr c5
 have c5b1:(t1038 != 0)=false:=bne_eq_false_iff_eq.mpr c5
 clear c5
 replace H:=Option.bind_eq_some_iff.mp H
 obtain⟨t1039,A60,H⟩:=H
 replace H:((mincut_Behind.f a0_0 a0_1 l0_2 t1039 a1).bind fun t1042=>((mincut_takes.f k a0_0 a0_1 l0_2 t1042).bind fun t1045=>(some (t1042,t1045,0))))=some (r1,r2,r3):=H
 have A6:=Aside0.mk A60
 clear A60
 replace H:=Option.bind_eq_some_iff.mp H
 obtain⟨t1042,A70,H⟩:=H
 replace H:((mincut_takes.f k a0_0 a0_1 l0_2 t1042).bind fun t1045=>(some (t1042,t1045,0)))=some (r1,r2,r3):=H
 have A7:=Aside0.mk A70
 clear A70
 replace H:=Option.bind_eq_some_iff.mp H
 obtain⟨t1045,A80,H⟩:=H
 replace H:(some (t1042,t1045,0))=some (r1,r2,r3):=H
 have A8:=Aside0.mk A80
 clear A80
 simp only[Option.some.injEq,Prod.mk.injEq] at H
 obtain⟨rfl,rfl,rfl⟩:=H
 go_enter Try.func79,Try.ntmps79
 try go_wp2_with (first|((with_reducible refine gate_dst (N:=3) rfl ?_);refine box_event ?hg (N:=3) ?hd (cs:= #[.int .i64 a0_0, .bool a0_1, .slice A0_2 l0_2.length c0_2]) (t:=24) ?hr ?_;(case hd=>rfl);(case hg=>rfl);(case hr=>first|(go_simp;done)|(go_simp;rfl));intro gb1037 hg w9 hbox hb;have n0_:=Aside0.mk (below_step (by repeat(first|(with_reducible first|exact HB.out|apply below_alloc|apply pw_below_drewN|apply below_drew1)|exact HB.out)) hb);have n1_:=Aside0.mk (hbox);have n2_:=Aside0.mk ((by rw[hg];exact(below_size (by repeat(first|(with_reducible first|exact HB.out|apply below_alloc|apply pw_below_drewN|apply below_drew1)|exact HB.out))):w.heap.size≤gb1037));have n3_:=Aside0.mk ((by rw[hg];exact(below_size (by repeat(first|(with_reducible first|exact HB.out|apply below_alloc|apply pw_below_drewN|apply below_drew1)|exact HB.out))):w.heap.size≤gb1037));clear HB;have HB:=n0_;have BK1037:=n1_;have GW1037:=n2_;have GE1037:=n3_;clear n0_ n1_ n2_ n3_;clear hb hbox hg;have hcz10_0:w9.cell? ⟨gb1037,0,none⟩=some (.int .i64 a0_0):=(blk_cell BK1037.out 0).trans rfl;have hcz10_1:w9.cell? ⟨gb1037,1,none⟩=some (.bool a0_1):=(blk_cell BK1037.out 1).trans rfl;have hcz10_2:w9.cell? ⟨gb1037,2,none⟩=some (.slice A0_2 l0_2.length c0_2):=(blk_cell BK1037.out 2).trans rfl;have hfz10_0:=blk_frozen BK1037.out 0;have hfz10_1:=blk_frozen BK1037.out 1;have hfz10_2:=blk_frozen BK1037.out 2)|((with_reducible refine gate_callee (f:=111) rfl ?_);refine goesL_ (some 12) rfl rfl Try.func111 (by kernel_rfl) rfl #[.agg #[.int .i64 a0_0, .bool a0_1, .slice A0_2 l0_2.length c0_2], .int .i64 a1, .int .i64 a2] rfl (by(try simp only[List.map_toArray,List.map_cons,List.map_nil]);first|done|rfl|(simp only[List.length_drop,List.length_take];rfl)) ?_;(with_reducible refine(static_Ends.calls k a0_0 a0_1 _ _ l0_2 a1 a2 t1038 _ ?side1 ?side2 A4.out).mono ?_);(case side1=>repeat(first|exact(Kd.C_below HR0_2.out HB.out)|(with_reducible refine Kd.C_alloc ?_ _)|(with_reducible refine Kd.C_drewN ?_ _)|(with_reducible refine Kd.C_drew ?_)));(case side2=>exact HC0_2.out);rintro e w11 ⟨rfl,hb⟩;refine⟨_,rfl,?_⟩;have n0_:=Aside0.mk (blk_below (g:=gb1037) (o:= .cells #[.int .i64 a0_0, .bool a0_1, .slice A0_2 l0_2.length c0_2] 24 (0,0)) (by(with_reducible repeat(first|refine blk_drewN ?_ _|refine blk_drew ?_|refine blk_alloc ?_ _));exact BK1037.out) hb);have n1_:=Aside0.mk (below_step (by repeat(first|(with_reducible first|exact HB.out|apply below_alloc|apply pw_below_drewN|apply below_drew1|refine below_set ?_ GE1037.out)|exact HB.out)) hb);clear BK1037;clear HB;have BK1037:=n0_;have HB:=n1_;clear n0_ n1_;(try clear hb);(try clear hb2);(try clear hk);(try clear hi)))
 have n0_:=Aside0.mk (blk_drew BK1037.out)
 have n1_:=Aside0.mk (below_drew1 HB.out)
 clear BK1037
 clear HB
 have BK1037:=n0_
 have HB:=n1_
 clear n0_ n1_
 refine start_ (n:=8) (S:=fun w'=>w'.cell? ⟨gb1037,0,none⟩=some (.int .i64 a0_0)∧w'.cell? ⟨gb1037,1,none⟩=some (.bool a0_1)∧w'.cell? ⟨gb1037,2,none⟩=some (.slice A0_2 l0_2.length c0_2)) (ds:=[]) #[false,false,false,false,false,false,false,false] (by kernel_rfl) rfl rfl ⟨(blk_cell BK1037.out 0).trans rfl,(blk_cell BK1037.out 1).trans rfl,(blk_cell BK1037.out 2).trans rfl⟩ (fun hHeld=> ?_);refine with_tabW mincut_Least.tab4 mincut_Least.bits4 (fun HT_ HW_=> ?_)
 generalize w11.drew=w12 at BK1037 HB hHeld ⊢
 refine pure_ (i:=2) (N:=some 18) (v:= ?_) (a':= ?_) #[false,false,true,false,false,false,false,false] rfl rfl (any_of HT_.out (by kernel_rfl)) (fun _ _ _ h=>h) (Or.inl ⟨by rfl,?_⟩) ?_ ?_
 rotate_left
 ·intro w'
  go_simp
  with_reducible rfl
 rotate_left
 ·simp only[Act.put,List.setIfInBounds_toArray,List.set_cons_zero,List.set_cons_succ,i64_w,i32_w]
  rfl
 refine pure_ (i:=3) (N:=some 19) (v:= ?_) (a':= ?_) #[false,false,true,true,false,false,false,false] rfl rfl (any_of HT_.out (by kernel_rfl)) (fun _ _ _ h=>h) (Or.inl ⟨by rfl,?_⟩) ?_ ?_
 rotate_left
 ·intro w'
  go_simp
  with_reducible rfl
 rotate_left
 ·simp only[Act.put,List.setIfInBounds_toArray,List.set_cons_zero,List.set_cons_succ,i64_w,i32_w]
  rfl
 refine pure_ (i:=5) (N:=some 21) (v:= ?_) (a':= ?_) #[false,false,true,true,false,true,false,false] rfl rfl (any_of HT_.out (by kernel_rfl)) (fun _ _ _ h=>h) (Or.inl ⟨by rfl,?_⟩) ?_ ?_
 rotate_left
 ·intro w'
  go_simp
  with_reducible rfl
 rotate_left
 ·simp only[Act.put,List.setIfInBounds_toArray,List.set_cons_zero,List.set_cons_succ,i64_w,i32_w]
  rfl
 refine take_ (i:=0) (N:=some 16) (v:= ?_) (a':= ?_) #[true,false,true,true,false,true,false,false] rfl rfl (take_ofW HT_.out HW_.out (by kernel_rfl)) (fun _ _ _ h=>h) (Or.inl ⟨by rfl,?_⟩) hHeld ?_ ?_
 rotate_left
 ·rintro w' ⟨s0,s1,s2⟩
  go_simp
  with_reducible rfl
 rotate_left
 ·simp only[Act.put,List.setIfInBounds_toArray,List.set_cons_zero,List.set_cons_succ,i64_w,i32_w]
  rfl
 refine take_ (i:=1) (N:=some 17) (v:= ?_) (a':= ?_) #[true,true,true,true,false,true,false,false] rfl rfl (take_ofW HT_.out HW_.out (by kernel_rfl)) (fun _ _ _ h=>h) (Or.inl ⟨by rfl,?_⟩) hHeld ?_ ?_
 rotate_left
 ·rintro w' ⟨s0,s1,s2⟩
  go_simp
  with_reducible rfl
 rotate_left
 ·simp only[Act.put,List.setIfInBounds_toArray,List.set_cons_zero,List.set_cons_succ,i64_w,i32_w]
  rfl
 refine one_ (i:=4) (N:=some 20) #[true,true,true,true,true,true,false,false] rfl rfl (one_of HT_.out (by kernel_rfl)) (by decide) (fun K hK=> ?_)
 refine goes_ Try.func121 (by kernel_rfl) rfl #[.agg #[.int .i64 a0_0, .bool a0_1, .slice A0_2 l0_2.length c0_2], .int .i64 a1, .int .i64 a2] (by rfl) rfl rfl (by(try simp only[List.map_toArray,List.map_cons,List.map_nil]);first|done|rfl|(simp only[List.length_drop,List.length_take];rfl)) ?_
 with_reducible refine(maxflow_Fill.calls a0_0 a0_1 _ _ l0_2 a1 a2 t1039 _ ?side1 ?side2 A6.out).mono ?_
 (case side1=>repeat(first|exact(Kd.C_below HR0_2.out HB.out)|(with_reducible refine Kd.C_alloc ?_ _)|(with_reducible refine Kd.C_drewN ?_ _)|(with_reducible refine Kd.C_drew ?_)))
 (case side2=>exact HC0_2.out)
 rintro e w13 ⟨v1040,rfl,ho0,hb⟩
 refine⟨_,rfl,?_⟩
 have n0_:=Aside0.mk (Kd.R_lower ho0 (below_size (by repeat(first|(with_reducible first|exact HB.out|apply below_alloc|apply pw_below_drewN|apply below_drew1|refine below_set ?_ GE1037.out)|exact HB.out))))
 have n1_:=Aside0.mk (blk_below (g:=gb1037) (o:= .cells #[.int .i64 a0_0, .bool a0_1, .slice A0_2 l0_2.length c0_2] 24 (0,0)) (by(with_reducible repeat(first|refine blk_drewN ?_ _|refine blk_drew ?_|refine blk_alloc ?_ _));exact BK1037.out) hb)
 have n2_:=Aside0.mk (below_step (by repeat(first|(with_reducible first|exact HB.out|apply below_alloc|apply pw_below_drewN|apply below_drew1|refine below_set ?_ GE1037.out)|exact HB.out)) hb)
 clear BK1037
 clear HB
 have HO1041:=n0_
 have BK1037:=n1_
 have HB:=n2_
 clear n0_ n1_ n2_
 (try clear hb)
 (try clear hb2)
 (try clear hk)
 (try clear hi)
 (try clear ho0)
 obtain⟨Ao14,co14,eo14⟩:=Kd.R_slice HO1041.out
 (first|subst eo14|(injection eo14 with f1_ f2_ f3_;have f4_:=f1_.symm;have f5_:=f3_.symm;clear f1_ f2_ f3_;subst f4_;subst f5_))
 refine hK.out _ _ ⟨(blk_cell BK1037.out 0).trans rfl,(blk_cell BK1037.out 1).trans rfl,(blk_cell BK1037.out 2).trans rfl⟩ (fun hHeld=> ?_)
 clear hK K
 refine norm_ (a':= ?_) ?_ ?_
 rotate_left
 ·show Act.put _ (some 20) _=_
  simp only[Act.put,List.setIfInBounds_toArray,List.set_cons_zero,List.set_cons_succ,i64_w,i32_w]
  rfl
 refine one_ (i:=6) (N:=some 22) #[true,true,true,true,true,true,true,false] rfl rfl (one_of HT_.out (by kernel_rfl)) (by decide) (fun K hK=> ?_)
 refine goes_ Try.func124 (by kernel_rfl) rfl #[.agg #[.int .i64 a0_0, .bool a0_1, .slice A0_2 l0_2.length c0_2], .slice Ao14 t1039.length co14, .int .i64 a1] (by rfl) rfl rfl (by(try simp only[List.map_toArray,List.map_cons,List.map_nil]);first|done|rfl|(simp only[List.length_drop,List.length_take];rfl)) ?_
 with_reducible refine(mincut_Behind.calls a0_0 a0_1 _ _ l0_2 _ _ t1039 a1 t1042 _ ?side1 ?side2 ?side3 ?side4 A7.out).mono ?_
 (case side1=>repeat(first|exact(Kd.C_below HR0_2.out HB.out)|(with_reducible refine Kd.C_alloc ?_ _)|(with_reducible refine Kd.C_drewN ?_ _)|(with_reducible refine Kd.C_drew ?_)))
 (case side2=>exact HC0_2.out)
 (case side3=>repeat(first|exact(Kd.R_reads' HO1041.out).2.2|(with_reducible refine Kd.C_alloc ?_ _)|(with_reducible refine Kd.C_drewN ?_ _)|(with_reducible refine Kd.C_drew ?_)))
 (case side4=>exact(Kd.R_reads' HO1041.out).2.1)
 rintro e w15 ⟨v1043,rfl,ho0,hb⟩
 refine⟨_,rfl,?_⟩
 have n0_:=Aside0.mk (Kd.R_below (by(with_reducible repeat(first|apply Kd.R_alloc|apply Kd.R_drewN|apply Kd.R_drew));exact HO1041.out) hb)
 have n1_:=Aside0.mk (Kd.R_lower ho0 (below_size (by repeat(first|(with_reducible first|exact HB.out|apply below_alloc|apply pw_below_drewN|apply below_drew1|refine below_set ?_ GE1037.out)|exact HB.out))))
 have n2_:=Aside0.mk (blk_below (g:=gb1037) (o:= .cells #[.int .i64 a0_0, .bool a0_1, .slice A0_2 l0_2.length c0_2] 24 (0,0)) (by(with_reducible repeat(first|refine blk_drewN ?_ _|refine blk_drew ?_|refine blk_alloc ?_ _));exact BK1037.out) hb)
 have n3_:=Aside0.mk (below_step (by repeat(first|(with_reducible first|exact HB.out|apply below_alloc|apply pw_below_drewN|apply below_drew1|refine below_set ?_ GE1037.out)|exact HB.out)) hb)
 clear HO1041
 clear BK1037
 clear HB
 have HO1041:=n0_
 have HO1044:=n1_
 have BK1037:=n2_
 have HB:=n3_
 clear n0_ n1_ n2_ n3_
 (try clear hb)
 (try clear hb2)
 (try clear hk)
 (try clear hi)
 (try clear ho0)
 refine hK.out _ _ ⟨(blk_cell BK1037.out 0).trans rfl,(blk_cell BK1037.out 1).trans rfl,(blk_cell BK1037.out 2).trans rfl⟩ (fun hHeld=> ?_)
 clear hK K
 refine norm_ (a':= ?_) ?_ ?_
 rotate_left
 ·show Act.put _ (some 22) _=_
  simp only[Act.put,List.setIfInBounds_toArray,List.set_cons_zero,List.set_cons_succ,i64_w,i32_w]
  rfl
 refine pure_ (i:=7) (N:=some 6) (v:= ?_) (a':= ?_) #[true,true,true,true,true,true,true,true] rfl rfl (any_of HT_.out (by kernel_rfl)) (fun _ _ _ h=>h) (Or.inl ⟨by rfl,?_⟩) ?_ ?_
 rotate_left
 ·intro w'
  go_simp
  with_reducible rfl
 rotate_left
 ·simp only[Act.put,List.setIfInBounds_toArray,List.set_cons_zero,List.set_cons_succ,i64_w,i32_w]
  rfl
 refine done_ (done_of HT_.out (by kernel_rfl)) ?_
 have hcz16_0:w15.cell? ⟨gb1037,0,none⟩=some (.int .i64 a0_0):=(blk_cell BK1037.out 0).trans rfl
 have hcz16_1:w15.cell? ⟨gb1037,1,none⟩=some (.bool a0_1):=(blk_cell BK1037.out 1).trans rfl
 have hcz16_2:w15.cell? ⟨gb1037,2,none⟩=some (.slice A0_2 l0_2.length c0_2):=(blk_cell BK1037.out 2).trans rfl
 have hfz16_0:=blk_frozen BK1037.out 0
 have hfz16_1:=blk_frozen BK1037.out 1
 have hfz16_2:=blk_frozen BK1037.out 2
 obtain⟨Ao17,co17,eo17⟩:=Kd.R_slice HO1044.out
 subst eo17
 try go_wp2_with (first|((with_reducible refine gate_callee (f:=125) rfl ?_);refine goesL_ (some 26) rfl rfl Try.func125 (by kernel_rfl) rfl #[.agg #[.int .i64 a0_0, .bool a0_1, .slice A0_2 l0_2.length c0_2], .slice Ao17 t1042.length co17] rfl (by(try simp only[List.map_toArray,List.map_cons,List.map_nil]);first|done|rfl|(simp only[List.length_drop,List.length_take];rfl)) ?_;(with_reducible refine(mincut_takes.calls k a0_0 a0_1 _ _ l0_2 _ _ t1042 t1045 _ ?side1 ?side2 ?side3 ?side4 A8.out).mono ?_);(case side1=>repeat(first|exact(Kd.C_below HR0_2.out HB.out)|(with_reducible refine Kd.C_alloc ?_ _)|(with_reducible refine Kd.C_drewN ?_ _)|(with_reducible refine Kd.C_drew ?_)));(case side2=>exact HC0_2.out);(case side3=>repeat(first|exact(Kd.R_reads' HO1044.out).2.2|(with_reducible refine Kd.C_alloc ?_ _)|(with_reducible refine Kd.C_drewN ?_ _)|(with_reducible refine Kd.C_drew ?_)));(case side4=>exact(Kd.R_reads' HO1044.out).2.1);rintro e w18 ⟨rfl,hb⟩;refine⟨_,rfl,?_⟩;have n0_:=Aside0.mk (Kd.R_below (by(with_reducible repeat(first|apply Kd.R_alloc|apply Kd.R_drewN|apply Kd.R_drew));exact HO1041.out) hb);have n1_:=Aside0.mk (Kd.R_below (by(with_reducible repeat(first|apply Kd.R_alloc|apply Kd.R_drewN|apply Kd.R_drew));exact HO1044.out) hb);have n2_:=Aside0.mk (blk_below (g:=gb1037) (o:= .cells #[.int .i64 a0_0, .bool a0_1, .slice A0_2 l0_2.length c0_2] 24 (0,0)) (by(with_reducible repeat(first|refine blk_drewN ?_ _|refine blk_drew ?_|refine blk_alloc ?_ _));exact BK1037.out) hb);have n3_:=Aside0.mk (below_step (by repeat(first|(with_reducible first|exact HB.out|apply below_alloc|apply pw_below_drewN|apply below_drew1|refine below_set ?_ GE1037.out)|exact HB.out)) hb);clear HO1041;clear HO1044;clear BK1037;clear HB;have HO1041:=n0_;have HO1044:=n1_;have BK1037:=n2_;have HB:=n3_;clear n0_ n1_ n2_ n3_;(try clear hb);(try clear hb2);(try clear hk);(try clear hi)))
 go_ret3
 exact⟨_,by first|rfl|(simp[errW_none,errW_some]<;>rfl)|(simp[*,errW_none,errW_some]<;>rfl),by(with_reducible repeat(first|apply Kd.R_alloc|apply Kd.R_drewN|apply Kd.R_drew));exact HO1044.out,by repeat(first|(with_reducible first|exact HB.out|apply below_alloc|apply pw_below_drewN|apply below_drew1|refine below_set ?_ GE1037.out)|exact HB.out)⟩
end Go.Proofs.Ytkcpanpdipmmmaa.P
namespace Go.Proofs.Ytkcpanpdipmmmaa.P
open Go.RowKit Go.Proofs.YtkcpanpdipmmmaaW.PrintWords Go.Proofs.YtkcpanpdipmmmaaW.PrintLast Go.Proofs.YtkcpanpdipmmmaaW.PrintMore
attribute [local go_sem] max2_int min2_int max_two min_two max_three min_three max_four min_four
def ebbtidelaw10_awake.f (k:Nat)  :Option (Bool):=(some (([(⟨0,1,3,0⟩:S74),(⟨1,2,1,0⟩:S74)]:List (S74)):List (S74))).bind fun y1074=>((mincut_Least.f k 3 false y1074 0 2).bind fun bt1078=>((mincut_Capacity.f k 3 false y1074 (([true,false,false]:List Bool))).bind fun bt1086=>(if bt1078.2.2=0 then(if bt1078.2.1=1 then((ebbtideref10_Same.f k bt1078.1 (([true,true,false]:List Bool))).bind fun t1091=>(if t1091=true then(if bt1086.2=0 then(some (bt1086.1 == 3)) else(some false)) else(some false))) else(some false)) else(some false))))
set_option maxHeartbeats 8000000 in
set_option maxRecDepth 100000 in
theorem ebbtidelaw10_awake.calls (k:Nat)  (r:Bool) (w:World) (h:ebbtidelaw10_awake.f k  =some r) (hrT_:r=true:=by first|rfl|exact Aside0.out (by assumption)):
  Calls Try.prog 81 #[] w fun e w'=>e= .returned (.bool r)∧Below w.heap.size w w':=by
 have HRT:=Aside0.mk hrT_
 clear hrT_
 have hu74:=Try.underlying74
 have hu24:=Try.underlying24
 have HB:=Aside0.mk (Below.refl w.heap.size w)
 have H:((some (([(⟨0,1,3,0⟩:S74),(⟨1,2,1,0⟩:S74)]:List (S74)):List (S74))).bind fun y1074=>((mincut_Least.f k 3 false y1074 0 2).bind fun bt1078=>((mincut_Capacity.f k 3 false y1074 (([true,false,false]:List Bool))).bind fun bt1086=>(if bt1078.2.2=0 then(if bt1078.2.1=1 then((ebbtideref10_Same.f k bt1078.1 (([true,true,false]:List Bool))).bind fun t1091=>(if t1091=true then(if bt1086.2=0 then(some (bt1086.1 == 3)) else(some false)) else(some false))) else(some false)) else(some false)))))=some r:=h
 clear h
 obtain⟨y1074,hy1074⟩: ∃ y_:List (S74),y_=(([(⟨0,1,3,0⟩:S74),(⟨1,2,1,0⟩:S74)]:List (S74))):=⟨_,rfl⟩
 replace H:((mincut_Least.f k 3 false y1074 0 2).bind fun bt1078=>((mincut_Capacity.f k 3 false y1074 (([true,false,false]:List Bool))).bind fun bt1086=>(if bt1078.2.2=0 then(if bt1078.2.1=1 then((ebbtideref10_Same.f k bt1078.1 (([true,true,false]:List Bool))).bind fun t1091=>(if t1091=true then(if bt1086.2=0 then(some (bt1086.1 == 3)) else(some false)) else(some false))) else(some false)) else(some false))))=some r:=by first|(rw[hy1074];with_reducible exact H)|(have H2_:=(Option.bind_some _ _).symm.trans H;rw[hy1074];with_reducible exact H2_)|(have H2_:=(Option.bind_some _ _).symm.trans H;with_reducible exact H2_)|with_reducible exact H|(rw[hy1074];exact H)|exact H
 have Ny1074:=Aside0.mk hy1074
 clear hy1074
 replace H:=Option.bind_eq_some_iff.mp H
 obtain⟨⟨t1078,t1081,t1082⟩,A10,H⟩:=H
 replace H:((mincut_Capacity.f k 3 false y1074 (([true,false,false]:List Bool))).bind fun bt1086=>(if t1082=0 then(if t1081=1 then((ebbtideref10_Same.f k t1078 (([true,true,false]:List Bool))).bind fun t1091=>(if t1091=true then(if bt1086.2=0 then(some (bt1086.1 == 3)) else(some false)) else(some false))) else(some false)) else(some false)))=some r:=H
 have A1:=Aside0.mk A10
 clear A10
 obtain⟨y1083,hy1083⟩: ∃ y_:List Bool,y_=(([true,false,false]:List Bool)):=⟨_,rfl⟩
 replace H:((mincut_Capacity.f k 3 false y1074 y1083).bind fun bt1086=>(if t1082=0 then(if t1081=1 then((ebbtideref10_Same.f k t1078 (([true,true,false]:List Bool))).bind fun t1091=>(if t1091=true then(if bt1086.2=0 then(some (bt1086.1 == 3)) else(some false)) else(some false))) else(some false)) else(some false)))=some r:=by first|(rw[hy1083];with_reducible exact H)|(have H2_:=(Option.bind_some _ _).symm.trans H;rw[hy1083];with_reducible exact H2_)|(have H2_:=(Option.bind_some _ _).symm.trans H;with_reducible exact H2_)|with_reducible exact H|(rw[hy1083];exact H)|exact H
 have Ny1083:=Aside0.mk hy1083
 clear hy1083
 replace H:=Option.bind_eq_some_iff.mp H
 obtain⟨⟨t1086,t1087⟩,A20,H⟩:=H
 replace H:(if t1082=0 then(if t1081=1 then((ebbtideref10_Same.f k t1078 (([true,true,false]:List Bool))).bind fun t1091=>(if t1091=true then(if t1087=0 then(some (t1086 == 3)) else(some false)) else(some false))) else(some false)) else(some false))=some r:=H
 have A2:=Aside0.mk A20
 clear A20
 by_cases c3:t1082=0
 rotate_left
 ·rw[if_neg c3] at H
  exact absurd (Option.some.inj H) (by rw[HRT.out];decide)
 rw[if_pos c3] at H
 have c3b0:(t1082 == 0)=true:=beq_iff_eq.mpr c3
 have c3b1:(t1082 != 0)=false:=bne_eq_false_iff_eq.mpr c3
 clear c3
 by_cases c4:t1081=1
 rotate_left
 ·rw[if_neg c4] at H
  exact absurd (Option.some.inj H) (by rw[HRT.out];decide)
 rw[if_pos c4] at H
 have c4b0:(t1081 == 1)=true:=beq_iff_eq.mpr c4
 have c4b1:(t1081 != 1)=false:=bne_eq_false_iff_eq.mpr c4
 clear c4
 obtain⟨y1088,hy1088⟩: ∃ y_:List Bool,y_=(([true,true,false]:List Bool)):=⟨_,rfl⟩
 replace H:((ebbtideref10_Same.f k t1078 y1088).bind fun t1091=>(if t1091=true then(if t1087=0 then(some (t1086 == 3)) else(some false)) else(some false)))=some r:=by first|(rw[hy1088];with_reducible exact H)|(have H2_:=(Option.bind_some _ _).symm.trans H;rw[hy1088];with_reducible exact H2_)|(have H2_:=(Option.bind_some _ _).symm.trans H;with_reducible exact H2_)|with_reducible exact H|(rw[hy1088];exact H)|exact H
 have Ny1088:=Aside0.mk hy1088
 clear hy1088
 replace H:=Option.bind_eq_some_iff.mp H
 obtain⟨t1091,A50,H⟩:=H
 replace H:(if t1091=true then(if t1087=0 then(some (t1086 == 3)) else(some false)) else(some false))=some r:=H
 have A5:=Aside0.mk A50
 clear A50
 by_cases c6:t1091=true
 rotate_left
 ·replace c6:=Bool.eq_false_iff.mpr c6
  subst c6
  have H1:(some false)=some r:=by rw[if_neg (show ¬ (false=true) by decide)] at H;exact H
  exact absurd (Option.some.inj H1) (by rw[HRT.out];decide)
 subst c6
 have H1:(if t1087=0 then(some (t1086 == 3)) else(some false))=some r:=by first|(rw[if_pos rfl] at H;exact H)|(rw[if_pos trivial] at H;exact H)
 clear H
 have H:=H1
 clear H1
 by_cases c7:t1087=0
 rotate_left
 ·rw[if_neg c7] at H
  exact absurd (Option.some.inj H) (by rw[HRT.out];decide)
 rw[if_pos c7] at H
 have c7b0:(t1087 == 0)=true:=beq_iff_eq.mpr c7
 have c7b1:(t1087 != 0)=false:=bne_eq_false_iff_eq.mpr c7
 clear c7
 obtain rfl:=Option.some.inj H
 go_enter Try.func81,Try.ntmps81
 go_wp2_with (first|((with_reducible refine gate_dst (N:=9) rfl ?_);(try (refine gate_guard (by rfl) ?_;dsimp only));refine Kd.R_lit k74 _ 74 ?hg (N:=9) ?hd (xs:=([(⟨0,1,3,0⟩:S74),(⟨1,2,1,0⟩:S74)]:List (S74))) (inner:=[.int .i64 0, .int .i64 1, .int .i64 3, .int .i64 0, .int .i64 1, .int .i64 2, .int .i64 1, .int .i64 0]) (ok:=fun _=>True) (okp:=fun _=>True) ?hr ?hp (fun _ hk=>hk) trivial (Below.refl _ _) (Nat.le_refl _) (by simp) ?_;(case hd=>rfl);(case hg=>rfl);(case hr=>first|(go_simp;done)|(go_simp;rfl));(case hp=>exact(Reps.c4 (show Kd.M k74 _ _ _ (⟨0,1,3,0⟩:S74) [.int .i64 0, .int .i64 1, .int .i64 3, .int .i64 0] from(k74_mkM _ _ _ (⟨0,1,3,0⟩:S74) )) (Reps.c4 (show Kd.M k74 _ _ _ (⟨1,2,1,0⟩:S74) [.int .i64 1, .int .i64 2, .int .i64 1, .int .i64 0] from(k74_mkM _ _ _ (⟨1,2,1,0⟩:S74) )) (Reps.none _ _))));intro v1075 w8 ho9 hb hg_ hnew_;clear hg_ hnew_;(first|rw[← Ny1074.out] at ho9|(simp only[Int.reduceToNat] at ho9;rw[← Ny1074.out] at ho9));have n0_:=Aside0.mk (Kd.R_lower ho9 (below_size (by repeat(first|(with_reducible first|exact HB.out|apply below_alloc|apply pw_below_drewN|apply below_drew1)|exact HB.out))));have n1_:=Aside0.mk (below_step (by repeat(first|(with_reducible first|exact HB.out|apply below_alloc|apply pw_below_drewN|apply below_drew1)|exact HB.out)) hb);clear HB;have HO1076:=n0_;have HB:=n1_;clear n0_ n1_;clear hb ho9;obtain⟨Ao10,co10,eo10⟩:=Kd.R_slice HO1076.out;subst eo10)|((with_reducible refine gate_dst (N:=1) rfl ?_);(try (refine gate_guard (by rfl) ?_;dsimp only));refine box_event ?hg (N:=1) ?hd (cs:= #[.int .i64 0, .bool false, .slice none 0 0]) (t:=24) ?hr ?_;(case hd=>rfl);(case hg=>rfl);(case hr=>first|(go_simp;done)|(go_simp;rfl));intro gb1077 hg w11 hbox hb;have n0_:=Aside0.mk (Kd.R_below (by(with_reducible repeat(first|apply Kd.R_alloc|apply Kd.R_drewN|apply Kd.R_drew));exact HO1076.out) hb);have n1_:=Aside0.mk (below_step (by repeat(first|(with_reducible first|exact HB.out|apply below_alloc|apply pw_below_drewN|apply below_drew1)|exact HB.out)) hb);have n2_:=Aside0.mk (hbox);have n3_:=Aside0.mk ((by rw[hg];exact(below_size (by repeat(first|(with_reducible first|exact HB.out|apply below_alloc|apply pw_below_drewN|apply below_drew1)|exact HB.out))):w.heap.size≤gb1077));have n4_:=Aside0.mk ((by rw[hg];exact(below_size (by repeat(first|(with_reducible first|exact HB.out|apply below_alloc|apply pw_below_drewN|apply below_drew1)|exact HB.out))):w.heap.size≤gb1077));clear HO1076;clear HB;have HO1076:=n0_;have HB:=n1_;have BK1077:=n2_;have GW1077:=n3_;have GE1077:=n4_;clear n0_ n1_ n2_ n3_ n4_;clear hb hbox hg;have hcz12_0:w11.cell? ⟨gb1077,0,none⟩=some (.int .i64 0):=(blk_cell BK1077.out 0).trans rfl;have hcz12_1:w11.cell? ⟨gb1077,1,none⟩=some (.bool false):=(blk_cell BK1077.out 1).trans rfl;have hcz12_2:w11.cell? ⟨gb1077,2,none⟩=some (.slice none 0 0):=(blk_cell BK1077.out 2).trans rfl;have hfz12_0:=blk_frozen BK1077.out 0;have hfz12_1:=blk_frozen BK1077.out 1;have hfz12_2:=blk_frozen BK1077.out 2)|((with_reducible refine gate_callee (f:=79) rfl ?_);refine goesL_ (some 13) rfl rfl Try.func79 (by kernel_rfl) rfl #[.agg #[.int .i64 3, .bool false, .slice Ao10 y1074.length co10], .int .i64 0, .int .i64 2] rfl (by(try simp only[List.map_toArray,List.map_cons,List.map_nil]);first|done|rfl|(simp only[List.length_drop,List.length_take];rfl)) ?_;(with_reducible refine(mincut_Least.calls k 3 false _ _ y1074 0 2 t1078 t1081 t1082 _ ?side1 ?side2 A1.out).mono ?_);(case side1=>refine(Kd.R_reads' (e:=74) (base:=w.heap.size) (ok:=fun k_=>True) (n:=y1074.length) (c:=co10) ?_).2.2;exact(by(with_reducible repeat(first|apply Kd.R_alloc|apply Kd.R_drewN|apply Kd.R_drew));exact(Kd.R_mono (Kd.R_far (p:=⟨gb1077,2,none⟩) (Kd.R_far (p:=⟨gb1077,1,none⟩) (Kd.R_far (p:=⟨gb1077,0,none⟩) (Kd.R_types HO1076.out BK1077.out (by decide)) (fun _ hk=>hk.2) (.int .i64 3)) (fun _ hk=>hk.2) (.bool false)) (fun _ hk=>hk.2) (.slice Ao10 y1074.length co10)) (fun _ h_=>h_.1))));(case side2=>exact(Kd.R_reads' HO1076.out).2.1);rintro e w13 ⟨v1079,rfl,ho0,hb⟩;refine⟨_,rfl,?_⟩;have n0_:=Aside0.mk (Kd.R_below (by(with_reducible repeat(first|apply Kd.R_alloc|apply Kd.R_drewN|apply Kd.R_drew));exact(Kd.R_mono (Kd.R_far (p:=⟨gb1077,2,none⟩) (Kd.R_far (p:=⟨gb1077,1,none⟩) (Kd.R_far (p:=⟨gb1077,0,none⟩) (Kd.R_types HO1076.out BK1077.out (by decide)) (fun _ hk=>hk.2) (.int .i64 3)) (fun _ hk=>hk.2) (.bool false)) (fun _ hk=>hk.2) (.slice Ao10 y1074.length co10)) (fun _ h_=>h_.1))) hb);have n1_:=Aside0.mk (Kd.R_lower ho0 (below_size (by repeat(first|(with_reducible first|exact HB.out|apply below_alloc|apply pw_below_drewN|apply below_drew1|refine below_set ?_ GE1077.out)|exact HB.out))));have n2_:=Aside0.mk (blk_below (g:=gb1077) (o:= .cells #[.int .i64 3, .bool false, .slice Ao10 y1074.length co10] 24 (0,0)) (by(with_reducible repeat(first|refine blk_drewN ?_ _|refine blk_drew ?_|refine blk_alloc ?_ _));refine blk_put (cs:= #[.int .i64 3, .bool false, .slice none 0 0]) ?_ 2 _ rfl;(with_reducible repeat(first|refine blk_drewN ?_ _|refine blk_drew ?_|refine blk_alloc ?_ _));refine blk_put (cs:= #[.int .i64 3, .bool false, .slice none 0 0]) ?_ 1 _ rfl;(with_reducible repeat(first|refine blk_drewN ?_ _|refine blk_drew ?_|refine blk_alloc ?_ _));refine blk_put (cs:= #[.int .i64 0, .bool false, .slice none 0 0]) ?_ 0 _ rfl;(with_reducible repeat(first|refine blk_drewN ?_ _|refine blk_drew ?_|refine blk_alloc ?_ _));exact BK1077.out) hb);have n3_:=Aside0.mk (below_step (by repeat(first|(with_reducible first|exact HB.out|apply below_alloc|apply pw_below_drewN|apply below_drew1|refine below_set ?_ GE1077.out)|exact HB.out)) hb);clear HO1076;clear BK1077;clear HB;have HO1076:=n0_;have HO1080:=n1_;have BK1077:=n2_;have HB:=n3_;clear n0_ n1_ n2_ n3_;(try clear hb);(try clear hb2);(try clear hk);(try clear hi);(try clear ho0);have hcz14_0:w13.cell? ⟨gb1077,0,none⟩=some (.int .i64 3):=(blk_cell BK1077.out 0).trans rfl;have hcz14_1:w13.cell? ⟨gb1077,1,none⟩=some (.bool false):=(blk_cell BK1077.out 1).trans rfl;have hcz14_2:w13.cell? ⟨gb1077,2,none⟩=some (.slice Ao10 y1074.length co10):=(blk_cell BK1077.out 2).trans rfl;have hfz14_0:=blk_frozen BK1077.out 0;have hfz14_1:=blk_frozen BK1077.out 1;have hfz14_2:=blk_frozen BK1077.out 2)|((with_reducible refine gate_dst (N:=19) rfl ?_);(try (refine gate_guard (by rfl) ?_;dsimp only));refine Kd.R_lit Kd.bool _ 4 ?hg (N:=19) ?hd (xs:=([true,false,false]:List Bool)) (inner:=[.bool true, .bool false, .bool false]) (ok:=fun _=>True) (okp:=fun _=>True) ?hr ?hp (fun _ hk=>hk) trivial (Below.refl _ _) (Nat.le_refl _) (by simp) ?_;(case hd=>rfl);(case hg=>rfl);(case hr=>first|(go_simp;done)|(go_simp;rfl));(case hp=>exact(Reps.one (show Kd.M Kd.bool _ _ _ true [.bool true] from rfl) (Reps.one (show Kd.M Kd.bool _ _ _ false [.bool false] from rfl) (Reps.one (show Kd.M Kd.bool _ _ _ false [.bool false] from rfl) (Reps.none _ _)))));intro v1084 w15 ho16 hb hg_ hnew_;clear hg_ hnew_;(first|rw[← Ny1083.out] at ho16|(simp only[Int.reduceToNat] at ho16;rw[← Ny1083.out] at ho16));have n0_:=Aside0.mk (Kd.R_below (by(with_reducible repeat(first|apply Kd.R_alloc|apply Kd.R_drewN|apply Kd.R_drew));exact HO1076.out) hb);have n1_:=Aside0.mk (Kd.R_elder' (by(with_reducible repeat(first|apply Kd.R_alloc|apply Kd.R_drewN|apply Kd.R_drew));exact HO1080.out) (Kd.R_base ho16) hb);have n2_:=Aside0.mk (Kd.R_lower (Kd.R_new' ho16 (Kd.R_lt (by(with_reducible repeat(first|apply Kd.R_alloc|apply Kd.R_drewN|apply Kd.R_drew));exact HO1080.out))) (below_size (by repeat(first|(with_reducible first|exact HB.out|apply below_alloc|apply pw_below_drewN|apply below_drew1|refine below_set ?_ GE1077.out)|exact HB.out))));have n3_:=Aside0.mk (blk_below (g:=gb1077) (o:= .cells #[.int .i64 3, .bool false, .slice Ao10 y1074.length co10] 24 (0,0)) (by(with_reducible repeat(first|refine blk_drewN ?_ _|refine blk_drew ?_|refine blk_alloc ?_ _));exact BK1077.out) hb);have n4_:=Aside0.mk (below_step (by repeat(first|(with_reducible first|exact HB.out|apply below_alloc|apply pw_below_drewN|apply below_drew1|refine below_set ?_ GE1077.out)|exact HB.out)) hb);clear HO1076;clear HO1080;clear BK1077;clear HB;have HO1076:=n0_;have HO1080:=n1_;have HO1085:=n2_;have BK1077:=n3_;have HB:=n4_;clear n0_ n1_ n2_ n3_ n4_;clear hb ho16;obtain⟨Ao17,co17,eo17⟩:=Kd.R_slice HO1085.out;subst eo17)|((with_reducible refine gate_callee (f:=82) rfl ?_);refine goesL_ (some 20) rfl rfl Try.func82 (by kernel_rfl) rfl #[.agg #[.int .i64 3, .bool false, .slice Ao10 y1074.length co10], .slice Ao17 y1083.length co17] rfl (by(try simp only[List.map_toArray,List.map_cons,List.map_nil]);first|done|rfl|(simp only[List.length_drop,List.length_take];rfl)) ?_;(with_reducible refine(mincut_Capacity.calls k 3 false _ _ y1074 _ _ y1083 t1086 t1087 _ ?side1 ?side2 ?side3 ?side4 A2.out).mono ?_);(case side1=>repeat(first|exact(Kd.R_reads' HO1076.out).2.2|(with_reducible refine Kd.C_alloc ?_ _)|(with_reducible refine Kd.C_drewN ?_ _)|(with_reducible refine Kd.C_drew ?_)));(case side2=>exact(Kd.R_reads' HO1076.out).2.1);(case side3=>repeat(first|exact(Kd.R_reads' HO1085.out).2.2|(with_reducible refine Kd.C_alloc ?_ _)|(with_reducible refine Kd.C_drewN ?_ _)|(with_reducible refine Kd.C_drew ?_)));(case side4=>exact(Kd.R_reads' HO1085.out).2.1);rintro e w18 ⟨rfl,hb⟩;refine⟨_,rfl,?_⟩;have n0_:=Aside0.mk (Kd.R_below (by(with_reducible repeat(first|apply Kd.R_alloc|apply Kd.R_drewN|apply Kd.R_drew));exact HO1076.out) hb);have n1_:=Aside0.mk (Kd.R_below (by(with_reducible repeat(first|apply Kd.R_alloc|apply Kd.R_drewN|apply Kd.R_drew));exact HO1080.out) hb);have n2_:=Aside0.mk (Kd.R_below (by(with_reducible repeat(first|apply Kd.R_alloc|apply Kd.R_drewN|apply Kd.R_drew));exact HO1085.out) hb);have n3_:=Aside0.mk (blk_below (g:=gb1077) (o:= .cells #[.int .i64 3, .bool false, .slice Ao10 y1074.length co10] 24 (0,0)) (by(with_reducible repeat(first|refine blk_drewN ?_ _|refine blk_drew ?_|refine blk_alloc ?_ _));exact BK1077.out) hb);have n4_:=Aside0.mk (below_step (by repeat(first|(with_reducible first|exact HB.out|apply below_alloc|apply pw_below_drewN|apply below_drew1|refine below_set ?_ GE1077.out)|exact HB.out)) hb);clear HO1076;clear HO1080;clear HO1085;clear BK1077;clear HB;have HO1076:=n0_;have HO1080:=n1_;have HO1085:=n2_;have BK1077:=n3_;have HB:=n4_;clear n0_ n1_ n2_ n3_ n4_;(try clear hb);(try clear hb2);(try clear hk);(try clear hi))|((with_reducible refine gate_dst (N:=31) rfl ?_);(try (refine gate_guard (by rfl) ?_;dsimp only));refine Kd.R_lit Kd.bool _ 4 ?hg (N:=31) ?hd (xs:=([true,true,false]:List Bool)) (inner:=[.bool true, .bool true, .bool false]) (ok:=fun _=>True) (okp:=fun _=>True) ?hr ?hp (fun _ hk=>hk) trivial (Below.refl _ _) (Nat.le_refl _) (by simp) ?_;(case hd=>rfl);(case hg=>rfl);(case hr=>first|(go_simp;done)|(go_simp;rfl));(case hp=>exact(Reps.one (show Kd.M Kd.bool _ _ _ true [.bool true] from rfl) (Reps.one (show Kd.M Kd.bool _ _ _ true [.bool true] from rfl) (Reps.one (show Kd.M Kd.bool _ _ _ false [.bool false] from rfl) (Reps.none _ _)))));intro v1089 w19 ho20 hb hg_ hnew_;clear hg_ hnew_;(first|rw[← Ny1088.out] at ho20|(simp only[Int.reduceToNat] at ho20;rw[← Ny1088.out] at ho20));have n0_:=Aside0.mk (Kd.R_below (by(with_reducible repeat(first|apply Kd.R_alloc|apply Kd.R_drewN|apply Kd.R_drew));exact HO1076.out) hb);have n1_:=Aside0.mk (Kd.R_elder' (by(with_reducible repeat(first|apply Kd.R_alloc|apply Kd.R_drewN|apply Kd.R_drew));exact HO1080.out) (Kd.R_base ho20) hb);have n2_:=Aside0.mk (Kd.R_elder' (by(with_reducible repeat(first|apply Kd.R_alloc|apply Kd.R_drewN|apply Kd.R_drew));exact HO1085.out) (Kd.R_base ho20) hb);have n3_:=Aside0.mk (Kd.R_lower (Kd.R_new' (Kd.R_new' ho20 (Kd.R_lt (by(with_reducible repeat(first|apply Kd.R_alloc|apply Kd.R_drewN|apply Kd.R_drew));exact HO1080.out))) (Kd.R_lt (by(with_reducible repeat(first|apply Kd.R_alloc|apply Kd.R_drewN|apply Kd.R_drew));exact HO1085.out))) (below_size (by repeat(first|(with_reducible first|exact HB.out|apply below_alloc|apply pw_below_drewN|apply below_drew1|refine below_set ?_ GE1077.out)|exact HB.out))));have n4_:=Aside0.mk (blk_below (g:=gb1077) (o:= .cells #[.int .i64 3, .bool false, .slice Ao10 y1074.length co10] 24 (0,0)) (by(with_reducible repeat(first|refine blk_drewN ?_ _|refine blk_drew ?_|refine blk_alloc ?_ _));exact BK1077.out) hb);have n5_:=Aside0.mk (below_step (by repeat(first|(with_reducible first|exact HB.out|apply below_alloc|apply pw_below_drewN|apply below_drew1|refine below_set ?_ GE1077.out)|exact HB.out)) hb);clear HO1076;clear HO1080;clear HO1085;clear BK1077;clear HB;have HO1076:=n0_;have HO1080:=n1_;have HO1085:=n2_;have HO1090:=n3_;have BK1077:=n4_;have HB:=n5_;clear n0_ n1_ n2_ n3_ n4_ n5_;clear hb ho20;obtain⟨Ao21,co21,eo21⟩:=Kd.R_slice HO1080.out;subst eo21;obtain⟨Ao22,co22,eo22⟩:=Kd.R_slice HO1090.out;subst eo22)|(go_at_call 42;(with_reducible refine(ebbtideref10_Same.calls k _ _ t1078 _ _ y1088 true _ ?side1 ?side2 ?side3 ?side4 A5.out).mono ?_);(case side1=>repeat(first|exact(Kd.R_reads' HO1080.out).2.2|(with_reducible refine Kd.C_alloc ?_ _)|(with_reducible refine Kd.C_drewN ?_ _)|(with_reducible refine Kd.C_drew ?_)));(case side2=>exact(Kd.R_reads' HO1080.out).2.1);(case side3=>repeat(first|exact(Kd.R_reads' HO1090.out).2.2|(with_reducible refine Kd.C_alloc ?_ _)|(with_reducible refine Kd.C_drewN ?_ _)|(with_reducible refine Kd.C_drew ?_)));(case side4=>exact(Kd.R_reads' HO1090.out).2.1);rintro e w' ⟨rfl,⟨nd,rfl⟩⟩))
 go_ret
 exact⟨by first|rfl|(simp[errW_none,errW_some]<;>rfl)|(simp[*,errW_none,errW_some]<;>rfl),by repeat(first|(with_reducible first|exact HB.out|apply below_alloc|apply pw_below_drewN|apply below_drew1|refine below_set ?_ GE1077.out)|exact HB.out)⟩
end Go.Proofs.Ytkcpanpdipmmmaa.P
namespace Go.Proofs.Ytkcpanpdipmmmaa.H
open Go.RowKit Go.Proofs.YtkcpanpdipmmmaaW.PrintWords Go.Proofs.YtkcpanpdipmmmaaW.PrintLast Go.Proofs.YtkcpanpdipmmmaaW.PrintMore Go.Proofs.Ytkcpanpdipmmmaa.P Go.Proofs.Ytkcpanpdipmmmaa.Q
theorem levels_zero {n:Int} {l:List S74} {F:List Int} {s:Int} (h0:askErr n l F=0) (h:0≤s∧s<n):levelsRes n l F s=(dOf n.toNat (bfP l F n.toNat s.toNat),0):=by unfold levelsRes;rw[if_pos h0,if_pos h]
set_option maxHeartbeats 2000000 in
set_option maxRecDepth 100000 in
theorem level_Levels_calls (a0_0:Int) (a0_1:Bool) (A2:Option Addr) (c2:Nat) (l:List S74) (A1:Option Addr) (c1:Nat) (F:List Int) (s:Int) (r1:List Int) (r2:Int) (w:World) (hr2:Kd.C k74 w A2 l.length l) (hc2:l.length≤c2) (hr1:Kd.C (Kd.int .i64) w A1 F.length F) (hc1:F.length≤c1) (h:some (levelsRes a0_0 l F s)=some (r1,r2)):
  Calls Try.prog 53 #[.agg #[.int .i64 a0_0, .bool a0_1, .slice A2 l.length c2], .slice A1 F.length c1, .int .i64 s] w fun e w'=> ∃ v0_:Value,e= .returned (.tuple #[v0_, .int .i64 r2])∧Kd.R (Kd.int .i64) 3 w' w.heap.size (fun _=>True) v0_ r1∧Below w.heap.size w w':=by
 have hu24:=Try.underlying24
 injection h with h
 obtain⟨K,hK⟩:=asked_ev a0_0 a0_1 l F
 have hA:=hK K (Nat.le_refl _)
 obtain⟨k,hk⟩: ∃ k_,k_=K:=⟨_,rfl⟩
 rw[← hk] at hA
 clear hK hk K
 have H2:=Aside0.mk hr2
 have H3:=Aside0.mk hr1
 have HC2:=Aside0.mk hc2
 have HC1:=Aside0.mk hc1
 have HB:=Aside0.mk (Below.refl w.heap.size w)
 clear hr2 hr1 hc2 hc1
 by_cases h0:askErr a0_0 l F=0
 ·rw[h0] at hA
  have HA:=Aside0.mk hA
  clear hA
  by_cases hs:0≤s∧s<a0_0
  ·rw[levels_zero h0 hs] at h
   obtain⟨n0,rfl,hR⟩:=right_of h0
   obtain⟨s0,rfl⟩: ∃ s0:Nat,s=s0:=⟨s.toNat,by omega⟩
   rw[Int.toNat_natCast,Int.toNat_natCast] at h
   injection h with q1 q2
   subst q1
   subst q2
   have HR:=Aside0.mk hR
   have hn50:=hR.fifty
   have hs0:s0<n0:=by omega
   have e1:decide ((s0:Int)<0)=false:=decide_eq_false (by omega)
   have e2:decide ((n0:Int)≤(s0:Int))=false:=decide_eq_false (by omega)
   clear hs h0 hR
   go_enter Try.func53,Try.ntmps53
   go_wp2_with (first|((with_reducible refine gate_dst (N:=3) rfl ?_);refine box_event ?hg (N:=3) ?hd (cs:= #[.int .i64 (n0:Int), .bool a0_1, .slice A2 l.length c2]) (t:=24) ?hr ?_;(case hd=>rfl);(case hg=>rfl);(case hr=>first|(go_simp;done)|(go_simp;rfl));intro g3 hg w4 hbox hb;have n0_:=Aside0.mk (below_step HB.out hb);have B3:=Aside0.mk hbox;clear HB;have HB:=n0_;clear n0_ hb hbox hg;have hb0:w4.cell? ⟨g3,0,none⟩=some (.int .i64 (n0:Int)):=(blk_cell B3.out 0).trans rfl;have hb1:w4.cell? ⟨g3,1,none⟩=some (.bool a0_1):=(blk_cell B3.out 1).trans rfl;have hb2:w4.cell? ⟨g3,2,none⟩=some (.slice A2 l.length c2):=(blk_cell B3.out 2).trans rfl)|(go_at_call 96;refine(static_Asked.calls k (n0:Int) a0_1 A2 c2 l A1 c1 F 0 _ (Kd.C_below H2.out HB.out) HC2.out (Kd.C_below H3.out HB.out) HC1.out HA.out).mono ?_;rintro e_ w5 ⟨rfl,hb⟩;have n0_:=Aside0.mk (below_step HB.out hb);have n1_:=Aside0.mk (blk_below B3.out hb);clear HB B3 hb0 hb1 hb2 hb;have HB:=n0_;have B3:=n1_;clear n0_ n1_;have hb0:w5.cell? ⟨g3,0,none⟩=some (.int .i64 (n0:Int)):=(blk_cell B3.out 0).trans rfl;have hb1:w5.cell? ⟨g3,1,none⟩=some (.bool a0_1):=(blk_cell B3.out 1).trans rfl;have hb2:w5.cell? ⟨g3,2,none⟩=some (.slice A2 l.length c2):=(blk_cell B3.out 2).trans rfl)|(go_at_call 101;refine(at_calls n0 a0_1 A2 c2 l A1 c1 F.length _ (Kd.C_below H2.out HB.out) HC2.out (by omega) (by omega) (by have:=HR.out.arcs;omega) (fun k hk=>(HR.out.ends k hk).1) (fun k hk=>(HR.out.ends k hk).2)).mono ?_;rintro e_ w7 ⟨vr,rfl,hS,hb⟩;obtain⟨A4,c4,ev⟩:=Kd.S_slice hS;subst ev;have H4:=Aside0.mk (Kd.S_reads' hS).2.2;rw[rowsAt_len] at H4 ⊢;have n0_:=Aside0.mk (below_step HB.out hb);have n1_:=Aside0.mk (blk_below B3.out hb);clear HB B3 hb0 hb1 hb2 hb;have HB:=n0_;have B3:=n1_;clear n0_ n1_;clear hS)|(go_at_call 108;refine(far_calls n0 a0_1 A2 c2 l A1 c1 F A4 c4 s0 _ HR.out hs0 HC2.out HC1.out (Kd.C_below H2.out HB.out) (Kd.C_below H3.out HB.out) H4.out).mono ?_;rintro e_ w8 ⟨gd,rfl,hge,hd,hb⟩;have HGE:=Aside0.mk (Nat.le_trans HB.out.size hge);have HD:=Aside0.mk hd;have n0_:=Aside0.mk (below_step HB.out hb);clear HB hb hd hge;have HB:=n0_;clear n0_)|fail)
   go_ret2
   have hr:=HD.out.R (ok:=fun _=>True) (by rw[dOf_len];omega) HGE.out trivial
   rw[dOf_len] at hr
   exact⟨_,rfl,hr,HB.out⟩
  ·have hl:levelsRes a0_0 l F s=([],1):=by unfold levelsRes;rw[if_pos h0,if_neg hs]
   rw[hl] at h
   injection h with q1 q2
   subst q1
   subst q2
   go_enter Try.func53,Try.ntmps53
   by_cases h1:s<0
   ·have e1:decide (s<0)=true:=decide_eq_true h1
    clear hs h1 h0
    go_wp2_with (first|((with_reducible refine gate_dst (N:=3) rfl ?_);refine box_event ?hg (N:=3) ?hd (cs:= #[.int .i64 a0_0, .bool a0_1, .slice A2 l.length c2]) (t:=24) ?hr ?_;(case hd=>rfl);(case hg=>rfl);(case hr=>first|(go_simp;done)|(go_simp;rfl));intro g3 hg w4 hbox hb;have n0_:=Aside0.mk (below_step HB.out hb);have B3:=Aside0.mk hbox;clear HB;have HB:=n0_;clear n0_ hb hbox hg;have hb0:w4.cell? ⟨g3,0,none⟩=some (.int .i64 a0_0):=(blk_cell B3.out 0).trans rfl;have hb1:w4.cell? ⟨g3,1,none⟩=some (.bool a0_1):=(blk_cell B3.out 1).trans rfl;have hb2:w4.cell? ⟨g3,2,none⟩=some (.slice A2 l.length c2):=(blk_cell B3.out 2).trans rfl)|(go_at_call 96;refine(static_Asked.calls k a0_0 a0_1 A2 c2 l A1 c1 F 0 _ (Kd.C_below H2.out HB.out) HC2.out (Kd.C_below H3.out HB.out) HC1.out HA.out).mono ?_;rintro e_ w5 ⟨rfl,hb⟩;have n0_:=Aside0.mk (below_step HB.out hb);have n1_:=Aside0.mk (blk_below B3.out hb);clear HB B3 hb0 hb1 hb2 hb;have HB:=n0_;have B3:=n1_;clear n0_ n1_;have hb0:w5.cell? ⟨g3,0,none⟩=some (.int .i64 a0_0):=(blk_cell B3.out 0).trans rfl;have hb1:w5.cell? ⟨g3,1,none⟩=some (.bool a0_1):=(blk_cell B3.out 1).trans rfl;have hb2:w5.cell? ⟨g3,2,none⟩=some (.slice A2 l.length c2):=(blk_cell B3.out 2).trans rfl)|fail)
    go_ret2
    exact⟨_,rfl,Kd.R_nil _ _ _ _ _,HB.out⟩
   ·have e1:decide (s<0)=false:=decide_eq_false h1
    have e2:decide (a0_0≤s)=true:=decide_eq_true (by omega)
    clear hs h1 h0
    go_wp2_with (first|((with_reducible refine gate_dst (N:=3) rfl ?_);refine box_event ?hg (N:=3) ?hd (cs:= #[.int .i64 a0_0, .bool a0_1, .slice A2 l.length c2]) (t:=24) ?hr ?_;(case hd=>rfl);(case hg=>rfl);(case hr=>first|(go_simp;done)|(go_simp;rfl));intro g3 hg w4 hbox hb;have n0_:=Aside0.mk (below_step HB.out hb);have B3:=Aside0.mk hbox;clear HB;have HB:=n0_;clear n0_ hb hbox hg;have hb0:w4.cell? ⟨g3,0,none⟩=some (.int .i64 a0_0):=(blk_cell B3.out 0).trans rfl;have hb1:w4.cell? ⟨g3,1,none⟩=some (.bool a0_1):=(blk_cell B3.out 1).trans rfl;have hb2:w4.cell? ⟨g3,2,none⟩=some (.slice A2 l.length c2):=(blk_cell B3.out 2).trans rfl)|(go_at_call 96;refine(static_Asked.calls k a0_0 a0_1 A2 c2 l A1 c1 F 0 _ (Kd.C_below H2.out HB.out) HC2.out (Kd.C_below H3.out HB.out) HC1.out HA.out).mono ?_;rintro e_ w5 ⟨rfl,hb⟩;have n0_:=Aside0.mk (below_step HB.out hb);have n1_:=Aside0.mk (blk_below B3.out hb);clear HB B3 hb0 hb1 hb2 hb;have HB:=n0_;have B3:=n1_;clear n0_ n1_;have hb0:w5.cell? ⟨g3,0,none⟩=some (.int .i64 a0_0):=(blk_cell B3.out 0).trans rfl;have hb1:w5.cell? ⟨g3,1,none⟩=some (.bool a0_1):=(blk_cell B3.out 1).trans rfl;have hb2:w5.cell? ⟨g3,2,none⟩=some (.slice A2 l.length c2):=(blk_cell B3.out 2).trans rfl)|fail)
    go_ret2
    exact⟨_,rfl,Kd.R_nil _ _ _ _ _,HB.out⟩
 ·have hl:levelsRes a0_0 l F s=([],askErr a0_0 l F):=by unfold levelsRes;rw[if_neg h0]
  rw[hl] at h
  injection h with q1 q2
  subst q1
  rw[q2] at hA h0
  have HA:=Aside0.mk hA
  have e1:(r2 != 0)=true:=by rw[bne_iff_ne];exact h0
  clear q2 h0 hA hl
  go_enter Try.func53,Try.ntmps53
  go_wp2_with (first|((with_reducible refine gate_dst (N:=3) rfl ?_);refine box_event ?hg (N:=3) ?hd (cs:= #[.int .i64 a0_0, .bool a0_1, .slice A2 l.length c2]) (t:=24) ?hr ?_;(case hd=>rfl);(case hg=>rfl);(case hr=>first|(go_simp;done)|(go_simp;rfl));intro g3 hg w4 hbox hb;have n0_:=Aside0.mk (below_step HB.out hb);have B3:=Aside0.mk hbox;clear HB;have HB:=n0_;clear n0_ hb hbox hg;have hb0:w4.cell? ⟨g3,0,none⟩=some (.int .i64 a0_0):=(blk_cell B3.out 0).trans rfl;have hb1:w4.cell? ⟨g3,1,none⟩=some (.bool a0_1):=(blk_cell B3.out 1).trans rfl;have hb2:w4.cell? ⟨g3,2,none⟩=some (.slice A2 l.length c2):=(blk_cell B3.out 2).trans rfl)|(go_at_call 96;refine(static_Asked.calls k a0_0 a0_1 A2 c2 l A1 c1 F r2 _ (Kd.C_below H2.out HB.out) HC2.out (Kd.C_below H3.out HB.out) HC1.out HA.out).mono ?_;rintro e_ w5 ⟨rfl,hb⟩;have n0_:=Aside0.mk (below_step HB.out hb);have n1_:=Aside0.mk (blk_below B3.out hb);clear HB B3 hb0 hb1 hb2 hb;have HB:=n0_;have B3:=n1_;clear n0_ n1_;have hb0:w5.cell? ⟨g3,0,none⟩=some (.int .i64 a0_0):=(blk_cell B3.out 0).trans rfl;have hb1:w5.cell? ⟨g3,1,none⟩=some (.bool a0_1):=(blk_cell B3.out 1).trans rfl;have hb2:w5.cell? ⟨g3,2,none⟩=some (.slice A2 l.length c2):=(blk_cell B3.out 2).trans rfl)|fail)
  go_ret2
  exact⟨_,rfl,Kd.R_nil _ _ _ _ _,HB.out⟩
end Go.Proofs.Ytkcpanpdipmmmaa.H
namespace Go.Proofs.Ytkcpanpdipmmmaa.P
open Go.RowKit Go.Proofs.YtkcpanpdipmmmaaW.PrintWords Go.Proofs.YtkcpanpdipmmmaaW.PrintLast Go.Proofs.YtkcpanpdipmmmaaW.PrintMore
attribute [local go_sem] max2_int min2_int max_two min_two max_three min_three max_four min_four
def level_Levels.f (a0_0:Int) (a0_1:Bool) (l0_2:List (S74)) (l1:List Int) (a2:Int):Option (List Int × Int):=some (H.levelsRes a0_0 l0_2 l1 a2)
theorem level_Levels.calls (a0_0:Int) (a0_1:Bool) (A0_2:Option Addr) (c0_2:Nat) (l0_2:List (S74)) (A1:Option Addr) (c1:Nat) (l1:List Int) (a2:Int) (r1:List Int) (r2:Int) (w:World) (hr0_2:Kd.C k74 w A0_2 l0_2.length l0_2) (hc0_2:l0_2.length≤c0_2) (hr1:Kd.C (Kd.int .i64) w A1 l1.length l1) (hc1:l1.length≤c1) (h:level_Levels.f a0_0 a0_1 l0_2 l1 a2=some (r1,r2)):
  Calls Try.prog 53 #[.agg #[.int .i64 a0_0, .bool a0_1, .slice A0_2 l0_2.length c0_2], .slice A1 l1.length c1, .int .i64 a2] w fun e w'=> ∃ v0_:Value,e= .returned (.tuple #[v0_, .int .i64 r2])∧Kd.R (Kd.int .i64) 3 w' w.heap.size (fun _=>True) v0_ r1∧Below w.heap.size w w':=H.level_Levels_calls a0_0 a0_1 A0_2 c0_2 l0_2 A1 c1 l1 a2 r1 r2 w hr0_2 hc0_2 hr1 hc1 h
end Go.Proofs.Ytkcpanpdipmmmaa.P
namespace Go.Proofs.Ytkcpanpdipmmmaa.P
open Go.RowKit Go.Proofs.YtkcpanpdipmmmaaW.PrintWords Go.Proofs.YtkcpanpdipmmmaaW.PrintLast Go.Proofs.YtkcpanpdipmmmaaW.PrintMore
attribute [local go_sem] max2_int min2_int max_two min_two max_three min_three max_four min_four
def mincut_Side.f (k:Nat) (a0_0:Int) (a0_1:Bool) (l0_2:List (S74)) (l1:List Int) (a2:Int):Option (List Bool × Int):=(level_Levels.f a0_0 a0_1 l0_2 l1 a2).bind fun bt1142=>(if bt1142.2=0 then((mincut_reached.f k bt1142.1).bind fun t1146=>(some (t1146,0))) else(some (([]:List Bool),bt1142.2)))
set_option maxHeartbeats 8000000 in
set_option maxRecDepth 100000 in
theorem mincut_Side.calls (k:Nat) (a0_0:Int) (a0_1:Bool) (A0_2:Option Addr) (c0_2:Nat) (l0_2:List (S74)) (A1:Option Addr) (c1:Nat) (l1:List Int) (a2:Int) (r1:List Bool) (r2:Int) (w:World) (hr0_2:Kd.C k74 w A0_2 l0_2.length l0_2) (hc0_2:l0_2.length≤c0_2) (hr1:Kd.C (Kd.int .i64) w A1 l1.length l1) (hc1:l1.length≤c1) (h:mincut_Side.f k a0_0 a0_1 l0_2 l1 a2=some (r1,r2)):
  Calls Try.prog 83 #[.agg #[.int .i64 a0_0, .bool a0_1, .slice A0_2 l0_2.length c0_2], .slice A1 l1.length c1, .int .i64 a2] w fun e w'=> ∃ v0_:Value,e= .returned (.tuple #[v0_, .int .i64 r2])∧Kd.R Kd.bool 4 w' w.heap.size (fun _=>True) v0_ r1∧Below w.heap.size w w':=by
 have hu24:=Try.underlying24
 have HR0_2:=Aside0.mk hr0_2
 have HC0_2:=Aside0.mk hc0_2
 clear hr0_2 hc0_2
 have HR1:=Aside0.mk hr1
 have HC1:=Aside0.mk hc1
 clear hr1 hc1
 have HB:=Aside0.mk (Below.refl w.heap.size w)
 have H:((level_Levels.f a0_0 a0_1 l0_2 l1 a2).bind fun bt1142=>(if bt1142.2=0 then((mincut_reached.f k bt1142.1).bind fun t1146=>(some (t1146,0))) else(some (([]:List Bool),bt1142.2))))=some (r1,r2):=h
 clear h
 replace H:=Option.bind_eq_some_iff.mp H
 obtain⟨⟨t1142,t1145⟩,A40,H⟩:=H
 replace H:(if t1145=0 then((mincut_reached.f k t1142).bind fun t1146=>(some (t1146,0))) else(some (([]:List Bool),t1145)))=some (r1,r2):=H
 have A4:=Aside0.mk A40
 clear A40
 by_cases c5:t1145=0
 rotate_left
 ·rw[if_neg c5] at H
  have c5b0:(t1145 == 0)=false:=beq_eq_false_iff_ne.mpr c5
  have c5b1:(t1145 != 0)=true:=bne_iff_ne.mpr c5
  simp only[Option.some.injEq,Prod.mk.injEq] at H
  obtain⟨rfl,rfl⟩:=H
  go_enter Try.func83,Try.ntmps83
  go_wp2_with (first|((with_reducible refine gate_dst (N:=3) rfl ?_);refine box_event ?hg (N:=3) ?hd (cs:= #[.int .i64 a0_0, .bool a0_1, .slice A0_2 l0_2.length c0_2]) (t:=24) ?hr ?_;(case hd=>rfl);(case hg=>rfl);(case hr=>first|(go_simp;done)|(go_simp;rfl));intro gb1141 hg w12 hbox hb;have n0_:=Aside0.mk (below_step (by repeat(first|(with_reducible first|exact HB.out|apply below_alloc|apply pw_below_drewN|apply below_drew1)|exact HB.out)) hb);have n1_:=Aside0.mk (hbox);have n2_:=Aside0.mk ((by rw[hg];exact(below_size (by repeat(first|(with_reducible first|exact HB.out|apply below_alloc|apply pw_below_drewN|apply below_drew1)|exact HB.out))):w.heap.size≤gb1141));have n3_:=Aside0.mk ((by rw[hg];exact(below_size (by repeat(first|(with_reducible first|exact HB.out|apply below_alloc|apply pw_below_drewN|apply below_drew1)|exact HB.out))):w.heap.size≤gb1141));clear HB;have HB:=n0_;have BK1141:=n1_;have GW1141:=n2_;have GE1141:=n3_;clear n0_ n1_ n2_ n3_;clear hb hbox hg;have hcz13_0:w12.cell? ⟨gb1141,0,none⟩=some (.int .i64 a0_0):=(blk_cell BK1141.out 0).trans rfl;have hcz13_1:w12.cell? ⟨gb1141,1,none⟩=some (.bool a0_1):=(blk_cell BK1141.out 1).trans rfl;have hcz13_2:w12.cell? ⟨gb1141,2,none⟩=some (.slice A0_2 l0_2.length c0_2):=(blk_cell BK1141.out 2).trans rfl;have hfz13_0:=blk_frozen BK1141.out 0;have hfz13_1:=blk_frozen BK1141.out 1;have hfz13_2:=blk_frozen BK1141.out 2)|((with_reducible refine gate_callee (f:=53) rfl ?_);refine goesL_ (some 14) rfl rfl Try.func53 (by kernel_rfl) rfl #[.agg #[.int .i64 a0_0, .bool a0_1, .slice A0_2 l0_2.length c0_2], .slice A1 l1.length c1, .int .i64 a2] rfl (by(try simp only[List.map_toArray,List.map_cons,List.map_nil]);first|done|rfl|(simp only[List.length_drop,List.length_take];rfl)) ?_;(with_reducible refine(level_Levels.calls a0_0 a0_1 _ _ l0_2 _ _ l1 a2 t1142 t1145 _ ?side1 ?side2 ?side3 ?side4 A4.out).mono ?_);(case side1=>repeat(first|exact(Kd.C_below HR0_2.out HB.out)|(with_reducible refine Kd.C_alloc ?_ _)|(with_reducible refine Kd.C_drewN ?_ _)|(with_reducible refine Kd.C_drew ?_)));(case side2=>exact HC0_2.out);(case side3=>repeat(first|exact(Kd.C_below HR1.out HB.out)|(with_reducible refine Kd.C_alloc ?_ _)|(with_reducible refine Kd.C_drewN ?_ _)|(with_reducible refine Kd.C_drew ?_)));(case side4=>exact HC1.out);rintro e w14 ⟨v1143,rfl,ho0,hb⟩;refine⟨_,rfl,?_⟩;have n0_:=Aside0.mk (Kd.R_lower ho0 (below_size (by repeat(first|(with_reducible first|exact HB.out|apply below_alloc|apply pw_below_drewN|apply below_drew1|refine below_set ?_ GE1141.out)|exact HB.out))));have n1_:=Aside0.mk (blk_below (g:=gb1141) (o:= .cells #[.int .i64 a0_0, .bool a0_1, .slice A0_2 l0_2.length c0_2] 24 (0,0)) (by(with_reducible repeat(first|refine blk_drewN ?_ _|refine blk_drew ?_|refine blk_alloc ?_ _));exact BK1141.out) hb);have n2_:=Aside0.mk (below_step (by repeat(first|(with_reducible first|exact HB.out|apply below_alloc|apply pw_below_drewN|apply below_drew1|refine below_set ?_ GE1141.out)|exact HB.out)) hb);clear BK1141;clear HB;have HO1144:=n0_;have BK1141:=n1_;have HB:=n2_;clear n0_ n1_ n2_;(try clear hb);(try clear hb2);(try clear hk);(try clear hi);(try clear ho0)))
  go_ret2
  exact⟨_,by first|rfl|(simp[errW_none,errW_some]<;>rfl)|(simp[*,errW_none,errW_some]<;>rfl),by first|exact Kd.R_nil _ _ _ _ _|exact Kd.N_nil _ _ _ _ _|exact Kd.V_nil _ _ _ _ _|exact Kd.Q_nil _ _ _ _ _|exact Kd.S_nil _ _ _ _ _,by repeat(first|(with_reducible first|exact HB.out|apply below_alloc|apply pw_below_drewN|apply below_drew1|refine below_set ?_ GE1141.out)|exact HB.out)⟩
 rw[if_pos c5] at H
 have c5b0:(t1145 == 0)=true:=beq_iff_eq.mpr c5
 have c5b1:(t1145 != 0)=false:=bne_eq_false_iff_eq.mpr c5
 clear c5
 replace H:=Option.bind_eq_some_iff.mp H
 obtain⟨t1146,A60,H⟩:=H
 replace H:(some (t1146,0))=some (r1,r2):=H
 have A6:=Aside0.mk A60
 clear A60
 simp only[Option.some.injEq,Prod.mk.injEq] at H
 obtain⟨rfl,rfl⟩:=H
 go_enter Try.func83,Try.ntmps83
 go_wp2_with (first|((with_reducible refine gate_dst (N:=3) rfl ?_);refine box_event ?hg (N:=3) ?hd (cs:= #[.int .i64 a0_0, .bool a0_1, .slice A0_2 l0_2.length c0_2]) (t:=24) ?hr ?_;(case hd=>rfl);(case hg=>rfl);(case hr=>first|(go_simp;done)|(go_simp;rfl));intro gb1141 hg w7 hbox hb;have n0_:=Aside0.mk (below_step (by repeat(first|(with_reducible first|exact HB.out|apply below_alloc|apply pw_below_drewN|apply below_drew1)|exact HB.out)) hb);have n1_:=Aside0.mk (hbox);have n2_:=Aside0.mk ((by rw[hg];exact(below_size (by repeat(first|(with_reducible first|exact HB.out|apply below_alloc|apply pw_below_drewN|apply below_drew1)|exact HB.out))):w.heap.size≤gb1141));have n3_:=Aside0.mk ((by rw[hg];exact(below_size (by repeat(first|(with_reducible first|exact HB.out|apply below_alloc|apply pw_below_drewN|apply below_drew1)|exact HB.out))):w.heap.size≤gb1141));clear HB;have HB:=n0_;have BK1141:=n1_;have GW1141:=n2_;have GE1141:=n3_;clear n0_ n1_ n2_ n3_;clear hb hbox hg;have hcz8_0:w7.cell? ⟨gb1141,0,none⟩=some (.int .i64 a0_0):=(blk_cell BK1141.out 0).trans rfl;have hcz8_1:w7.cell? ⟨gb1141,1,none⟩=some (.bool a0_1):=(blk_cell BK1141.out 1).trans rfl;have hcz8_2:w7.cell? ⟨gb1141,2,none⟩=some (.slice A0_2 l0_2.length c0_2):=(blk_cell BK1141.out 2).trans rfl;have hfz8_0:=blk_frozen BK1141.out 0;have hfz8_1:=blk_frozen BK1141.out 1;have hfz8_2:=blk_frozen BK1141.out 2)|((with_reducible refine gate_callee (f:=53) rfl ?_);refine goesL_ (some 14) rfl rfl Try.func53 (by kernel_rfl) rfl #[.agg #[.int .i64 a0_0, .bool a0_1, .slice A0_2 l0_2.length c0_2], .slice A1 l1.length c1, .int .i64 a2] rfl (by(try simp only[List.map_toArray,List.map_cons,List.map_nil]);first|done|rfl|(simp only[List.length_drop,List.length_take];rfl)) ?_;(with_reducible refine(level_Levels.calls a0_0 a0_1 _ _ l0_2 _ _ l1 a2 t1142 t1145 _ ?side1 ?side2 ?side3 ?side4 A4.out).mono ?_);(case side1=>repeat(first|exact(Kd.C_below HR0_2.out HB.out)|(with_reducible refine Kd.C_alloc ?_ _)|(with_reducible refine Kd.C_drewN ?_ _)|(with_reducible refine Kd.C_drew ?_)));(case side2=>exact HC0_2.out);(case side3=>repeat(first|exact(Kd.C_below HR1.out HB.out)|(with_reducible refine Kd.C_alloc ?_ _)|(with_reducible refine Kd.C_drewN ?_ _)|(with_reducible refine Kd.C_drew ?_)));(case side4=>exact HC1.out);rintro e w9 ⟨v1143,rfl,ho0,hb⟩;refine⟨_,rfl,?_⟩;have n0_:=Aside0.mk (Kd.R_lower ho0 (below_size (by repeat(first|(with_reducible first|exact HB.out|apply below_alloc|apply pw_below_drewN|apply below_drew1|refine below_set ?_ GE1141.out)|exact HB.out))));have n1_:=Aside0.mk (blk_below (g:=gb1141) (o:= .cells #[.int .i64 a0_0, .bool a0_1, .slice A0_2 l0_2.length c0_2] 24 (0,0)) (by(with_reducible repeat(first|refine blk_drewN ?_ _|refine blk_drew ?_|refine blk_alloc ?_ _));exact BK1141.out) hb);have n2_:=Aside0.mk (below_step (by repeat(first|(with_reducible first|exact HB.out|apply below_alloc|apply pw_below_drewN|apply below_drew1|refine below_set ?_ GE1141.out)|exact HB.out)) hb);clear BK1141;clear HB;have HO1144:=n0_;have BK1141:=n1_;have HB:=n2_;clear n0_ n1_ n2_;(try clear hb);(try clear hb2);(try clear hk);(try clear hi);(try clear ho0);obtain⟨Ao10,co10,eo10⟩:=Kd.R_slice HO1144.out;subst eo10)|((with_reducible refine gate_callee (f:=128) rfl ?_);refine goesL_ (some 21) rfl rfl Try.func128 (by kernel_rfl) rfl #[.slice Ao10 t1142.length co10] rfl (by(try simp only[List.map_toArray,List.map_cons,List.map_nil]);first|done|rfl|(simp only[List.length_drop,List.length_take];rfl)) ?_;(with_reducible refine(mincut_reached.calls k _ _ t1142 t1146 _ ?side1 ?side2 A6.out).mono ?_);(case side1=>repeat(first|exact(Kd.R_reads' HO1144.out).2.2|(with_reducible refine Kd.C_alloc ?_ _)|(with_reducible refine Kd.C_drewN ?_ _)|(with_reducible refine Kd.C_drew ?_)));(case side2=>exact(Kd.R_reads' HO1144.out).2.1);rintro e w11 ⟨v1147,rfl,ho0,hb⟩;refine⟨_,rfl,?_⟩;have n0_:=Aside0.mk (Kd.R_below (by(with_reducible repeat(first|apply Kd.R_alloc|apply Kd.R_drewN|apply Kd.R_drew));exact HO1144.out) hb);have n1_:=Aside0.mk (Kd.R_lower ho0 (below_size (by repeat(first|(with_reducible first|exact HB.out|apply below_alloc|apply pw_below_drewN|apply below_drew1|refine below_set ?_ GE1141.out)|exact HB.out))));have n2_:=Aside0.mk (blk_below (g:=gb1141) (o:= .cells #[.int .i64 a0_0, .bool a0_1, .slice A0_2 l0_2.length c0_2] 24 (0,0)) (by(with_reducible repeat(first|refine blk_drewN ?_ _|refine blk_drew ?_|refine blk_alloc ?_ _));exact BK1141.out) hb);have n3_:=Aside0.mk (below_step (by repeat(first|(with_reducible first|exact HB.out|apply below_alloc|apply pw_below_drewN|apply below_drew1|refine below_set ?_ GE1141.out)|exact HB.out)) hb);clear HO1144;clear BK1141;clear HB;have HO1144:=n0_;have HO1148:=n1_;have BK1141:=n2_;have HB:=n3_;clear n0_ n1_ n2_ n3_;(try clear hb);(try clear hb2);(try clear hk);(try clear hi);(try clear ho0)))
 go_ret2
 exact⟨_,by first|rfl|(simp[errW_none,errW_some]<;>rfl)|(simp[*,errW_none,errW_some]<;>rfl),by(with_reducible repeat(first|apply Kd.R_alloc|apply Kd.R_drewN|apply Kd.R_drew));exact HO1148.out,by repeat(first|(with_reducible first|exact HB.out|apply below_alloc|apply pw_below_drewN|apply below_drew1|refine below_set ?_ GE1141.out)|exact HB.out)⟩
end Go.Proofs.Ytkcpanpdipmmmaa.P
namespace Go.Proofs.Ytkcpanpdipmmmaa.P
open Go.RowKit Go.Proofs.YtkcpanpdipmmmaaW.PrintWords Go.Proofs.YtkcpanpdipmmmaaW.PrintLast Go.Proofs.YtkcpanpdipmmmaaW.PrintMore
attribute [local go_sem] max2_int min2_int max_two min_two max_three min_three max_four min_four
def ebbtideref10_Takes.l0:Nat→List Bool→Int→Int→Int→Bool→List (S74)→Option (Int)
 |0,_,_,_,_,_,_=>none
 |k+1,x1,x5,x6,x1056000,x1056001,x1056002=>if x6<(x1056002.length:Int) then(if 0≤x6 then(if 0≤((rd_T74 x1056002 x6).f0) then(if ((rd_T74 x1056002 x6).f0)<(x1.length:Int) then(if rdOf false x1 ((rd_T74 x1056002 x6).f0)=true then(if 0≤((rd_T74 x1056002 x6).f1) then(if ((rd_T74 x1056002 x6).f1)<(x1.length:Int) then(if (rdOf false x1 ((rd_T74 x1056002 x6).f1)=true) then(ebbtideref10_Takes.l0 k x1 x5 (wrap64 (x6+1)) x1056000 x1056001 x1056002) else(ebbtideref10_Takes.l0 k x1 (wrap64 (x5+((rd_T74 x1056002 x6).f2))) (wrap64 (x6+1)) x1056000 x1056001 x1056002)) else(none)) else(none)) else(ebbtideref10_Takes.l0 k x1 x5 (wrap64 (x6+1)) x1056000 x1056001 x1056002)) else(none)) else(none)) else(none)) else(some x5)
def ebbtideref10_Takes.f (k:Nat) (a0_0:Int) (a0_1:Bool) (l0_2:List (S74)) (l1:List Bool):Option (Int):=ebbtideref10_Takes.l0 k l1 0 0 a0_0 a0_1 l0_2
set_option maxHeartbeats 8000000 in
set_option maxRecDepth 100000 in
theorem ebbtideref10_Takes.calls (k:Nat) (a0_0:Int) (a0_1:Bool) (A0_2:Option Addr) (c0_2:Nat) (l0_2:List (S74)) (A1:Option Addr) (c1:Nat) (l1:List Bool) (r:Int) (w:World) (hr0_2:Kd.C k74 w A0_2 l0_2.length l0_2) (hc0_2:l0_2.length≤c0_2) (hr1:Kd.C Kd.bool w A1 l1.length l1) (hc1:l1.length≤c1) (h:ebbtideref10_Takes.f k a0_0 a0_1 l0_2 l1=some r):
  Calls Try.prog 126 #[.agg #[.int .i64 a0_0, .bool a0_1, .slice A0_2 l0_2.length c0_2], .slice A1 l1.length c1] w fun e w'=>e= .returned (.int .i64 r)∧Below w.heap.size w w':=by
 have hu24:=Try.underlying24
 have HR0_2:=Aside0.mk hr0_2
 have HC0_2:=Aside0.mk hc0_2
 clear hr0_2 hc0_2
 have HR1:=Aside0.mk hr1
 have HC1:=Aside0.mk hc1
 clear hr1 hc1
 have HB:=Aside0.mk (Below.refl w.heap.size w)
 have H:(ebbtideref10_Takes.l0 k l1 0 0 a0_0 a0_1 l0_2)=some r:=h
 clear h
 have H':=Aside0.mk H
 clear H
 go_enter Try.func126,Try.ntmps126
 go_wp2_with (first|((with_reducible refine gate_dst (N:=2) rfl ?_);refine box_event ?hg (N:=2) ?hd (cs:= #[.int .i64 a0_0, .bool a0_1, .slice A0_2 l0_2.length c0_2]) (t:=24) ?hr ?_;(case hd=>rfl);(case hg=>rfl);(case hr=>first|(go_simp;done)|(go_simp;rfl));intro gb1055 hg w3 hbox hb;have n0_:=Aside0.mk (below_step (by repeat(first|(with_reducible first|exact HB.out|apply below_alloc|apply pw_below_drewN|apply below_drew1)|exact HB.out)) hb);have n1_:=Aside0.mk (hbox);have n2_:=Aside0.mk ((by rw[hg];exact(below_size (by repeat(first|(with_reducible first|exact HB.out|apply below_alloc|apply pw_below_drewN|apply below_drew1)|exact HB.out))):w.heap.size≤gb1055));have n3_:=Aside0.mk ((by rw[hg];exact(below_size (by repeat(first|(with_reducible first|exact HB.out|apply below_alloc|apply pw_below_drewN|apply below_drew1)|exact HB.out))):w.heap.size≤gb1055));clear HB;have HB:=n0_;have BK1055:=n1_;have GW1055:=n2_;have GE1055:=n3_;clear n0_ n1_ n2_ n3_;clear hb hbox hg))
 go_loopg [5,6] k (fun kq v5 v6 w'=> ∃ (x5_1:Int) (x6_1:Int),v5= .int .i64 x5_1∧v6= .int .i64 x6_1∧Aside0 (ebbtideref10_Takes.l0 kq l1 x5_1 x6_1 a0_0 a0_1 l0_2=some r)∧Aside0 (kq≤k)∧Aside0 (w'.heap[gb1055]? =some (.cells #[.int .i64 a0_0, .bool a0_1,(.slice A0_2 l0_2.length c0_2)] 24 (0,0)))∧Aside0 (Below w.heap.size w w'))
 case atStart=>exact⟨(0),(0),(by first|rfl|(simp;done)|(simp[*];done)),(by first|rfl|(simp;done)|(simp[*];done)),H',⟨Nat.le_refl _⟩,⟨by(with_reducible repeat(first|refine blk_drewN ?_ _|refine blk_drew ?_|refine blk_alloc ?_ _));exact BK1055.out⟩,⟨by repeat(first|(with_reducible first|exact HB.out|apply below_alloc|apply pw_below_drewN|apply below_drew1|refine below_set ?_ GE1055.out)|exact HB.out)⟩⟩
 case round=>
  clear H'
  try clear c1
  try clear p2
  obtain⟨x5_1,x6_1,rfl,rfl,HA,HK1,BK1055,HB⟩:=hrel
  cases gk with
  |zero=>exact absurd HA.out (by simp[ebbtideref10_Takes.l0])
  |succ k1=>
   have H:=HA.out
   clear HA
   simp only[ebbtideref10_Takes.l0] at H
   by_cases c4:x6_1<(l0_2.length:Int)
   rotate_left
   ·rw[if_neg c4] at H
    have c4b0:decide (x6_1<(l0_2.length:Int))=false:=decide_eq_false c4
    clear c4
    obtain rfl:=Option.some.inj H
    have hcz17_0:wr.cell? ⟨gb1055,0,none⟩=some (.int .i64 a0_0):=(blk_cell BK1055.out 0).trans rfl
    have hcz17_1:wr.cell? ⟨gb1055,1,none⟩=some (.bool a0_1):=(blk_cell BK1055.out 1).trans rfl
    have hcz17_2:wr.cell? ⟨gb1055,2,none⟩=some (.slice A0_2 l0_2.length c0_2):=(blk_cell BK1055.out 2).trans rfl
    have hfz17_0:=blk_frozen BK1055.out 0
    have hfz17_1:=blk_frozen BK1055.out 1
    have hfz17_2:=blk_frozen BK1055.out 2
    go_wp2
    go_ret
    exact⟨by first|rfl|(simp[errW_none,errW_some]<;>rfl)|(simp[*,errW_none,errW_some]<;>rfl),by repeat(first|(with_reducible first|exact HB.out|apply below_alloc|apply pw_below_drewN|apply below_drew1|refine below_set ?_ GE1055.out)|exact HB.out)⟩
   rw[if_pos c4] at H
   have c4b0:decide (x6_1<(l0_2.length:Int))=true:=decide_eq_true c4
   clear c4
   by_cases c5:0≤x6_1
   rotate_left
   ·rw[if_neg c5] at H
    exact absurd H (by simp)
   rw[if_pos c5] at H
   have c5b0:decide (0≤x6_1)=true:=decide_eq_true c5
   clear c5
   by_cases c6:0≤((rd_T74 l0_2 x6_1).f0)
   rotate_left
   ·rw[if_neg c6] at H
    exact absurd H (by simp)
   rw[if_pos c6] at H
   have c6b0:decide (0≤((rd_T74 l0_2 x6_1).f0))=true:=decide_eq_true c6
   clear c6
   by_cases c7:((rd_T74 l0_2 x6_1).f0)<(l1.length:Int)
   rotate_left
   ·rw[if_neg c7] at H
    exact absurd H (by simp)
   rw[if_pos c7] at H
   have c7b0:decide (((rd_T74 l0_2 x6_1).f0)<(l1.length:Int))=true:=decide_eq_true c7
   clear c7
   obtain⟨bq8,hbq8⟩: ∃ b_:Bool,b_=(rdOf false l1 ((rd_T74 l0_2 x6_1).f0)):=⟨_,rfl⟩
   replace H:(if bq8=true then(if 0≤((rd_T74 l0_2 x6_1).f1) then(if ((rd_T74 l0_2 x6_1).f1)<(l1.length:Int) then(if (rdOf false l1 ((rd_T74 l0_2 x6_1).f1)=true) then(ebbtideref10_Takes.l0 k1 l1 x5_1 (wrap64 (x6_1+1)) a0_0 a0_1 l0_2) else(ebbtideref10_Takes.l0 k1 l1 (wrap64 (x5_1+((rd_T74 l0_2 x6_1).f2))) (wrap64 (x6_1+1)) a0_0 a0_1 l0_2)) else(none)) else(none)) else(ebbtideref10_Takes.l0 k1 l1 x5_1 (wrap64 (x6_1+1)) a0_0 a0_1 l0_2))=some r:=by rw[← hbq8] at H;exact H
   have Nbq8:=Aside0.mk hbq8
   clear hbq8
   by_cases c9:bq8=true
   rotate_left
   ·replace c9:=Bool.eq_false_iff.mpr c9
    subst c9
    have H1:(ebbtideref10_Takes.l0 k1 l1 x5_1 (wrap64 (x6_1+1)) a0_0 a0_1 l0_2)=some r:=by rw[if_neg (show ¬ (false=true) by decide)] at H;exact H
    clear H
    have H:=H1
    clear H1
    have H':=Aside0.mk H
    clear H
    have hcz16_0:wr.cell? ⟨gb1055,0,none⟩=some (.int .i64 a0_0):=(blk_cell BK1055.out 0).trans rfl
    have hcz16_1:wr.cell? ⟨gb1055,1,none⟩=some (.bool a0_1):=(blk_cell BK1055.out 1).trans rfl
    have hcz16_2:wr.cell? ⟨gb1055,2,none⟩=some (.slice A0_2 l0_2.length c0_2):=(blk_cell BK1055.out 2).trans rfl
    have hfz16_0:=blk_frozen BK1055.out 0
    have hfz16_1:=blk_frozen BK1055.out 1
    have hfz16_2:=blk_frozen BK1055.out 2
    have p1056:0≤(x6_1:Int):=of_decide_eq_true (by first|(with_reducible assumption)|assumption)
    have q1056:x6_1<(l0_2.length:Int):=of_decide_eq_true (by first|(with_reducible assumption)|assumption)
    obtain⟨ad1056,e1056,hx1056_0,hx1056_1,hx1056_2,hx1056_3⟩:=at_T74 HR0_2.out x6_1 p1056 q1056
    cases e1056
    replace hx1056_0:=(HB.out.cell (World.block_lt_of_cell? w _ hx1056_0)).trans hx1056_0
    replace hx1056_1:=(HB.out.cell (World.block_lt_of_cell? w _ hx1056_1)).trans hx1056_1
    replace hx1056_2:=(HB.out.cell (World.block_lt_of_cell? w _ hx1056_2)).trans hx1056_2
    replace hx1056_3:=(HB.out.cell (World.block_lt_of_cell? w _ hx1056_3)).trans hx1056_3
    replace p1056:=eq_true p1056
    replace q1056:=eq_true q1056
    have p1057:0≤(((rd_T74 l0_2 x6_1).f0):Int):=of_decide_eq_true (by first|(with_reducible assumption)|assumption)
    have q1057:((rd_T74 l0_2 x6_1).f0)<(l1.length:Int):=of_decide_eq_true (by first|(with_reducible assumption)|assumption)
    obtain⟨ad1057,e1057,hx1057_0⟩:=Kd.at_bool HR1.out ((rd_T74 l0_2 x6_1).f0) p1057 q1057
    (try rw[← Nbq8.out] at hx1057_0)
    cases e1057
    replace hx1057_0:=(HB.out.cell (World.block_lt_of_cell? w _ hx1057_0)).trans hx1057_0
    replace p1057:=eq_true p1057
    replace q1057:=eq_true q1057
    go_wp2
    go_roundg k1
    case measure=>have:=HK1.out;omega
    case rel=>exact⟨(x5_1),(wrap64 (x6_1+1)),(by first|rfl|(simp;done)|(simp[*];done)),(by first|rfl|(simp;done)|(simp[*];done)),H',⟨by have:=HK1.out;omega⟩,⟨by(with_reducible repeat(first|refine blk_drewN ?_ _|refine blk_drew ?_|refine blk_alloc ?_ _));exact BK1055.out⟩,⟨by repeat(first|(with_reducible first|exact HB.out|apply below_alloc|apply pw_below_drewN|apply below_drew1|refine below_set ?_ GE1055.out)|exact HB.out)⟩⟩
   subst c9
   have H1:(if 0≤((rd_T74 l0_2 x6_1).f1) then(if ((rd_T74 l0_2 x6_1).f1)<(l1.length:Int) then(if (rdOf false l1 ((rd_T74 l0_2 x6_1).f1)=true) then(ebbtideref10_Takes.l0 k1 l1 x5_1 (wrap64 (x6_1+1)) a0_0 a0_1 l0_2) else(ebbtideref10_Takes.l0 k1 l1 (wrap64 (x5_1+((rd_T74 l0_2 x6_1).f2))) (wrap64 (x6_1+1)) a0_0 a0_1 l0_2)) else(none)) else(none))=some r:=by first|(rw[if_pos rfl] at H;exact H)|(rw[if_pos trivial] at H;exact H)
   clear H
   have H:=H1
   clear H1
   by_cases c10:0≤((rd_T74 l0_2 x6_1).f1)
   rotate_left
   ·rw[if_neg c10] at H
    exact absurd H (by simp)
   rw[if_pos c10] at H
   have c10b0:decide (0≤((rd_T74 l0_2 x6_1).f1))=true:=decide_eq_true c10
   clear c10
   by_cases c11:((rd_T74 l0_2 x6_1).f1)<(l1.length:Int)
   rotate_left
   ·rw[if_neg c11] at H
    exact absurd H (by simp)
   rw[if_pos c11] at H
   have c11b0:decide (((rd_T74 l0_2 x6_1).f1)<(l1.length:Int))=true:=decide_eq_true c11
   clear c11
   obtain⟨bq12,hbq12⟩: ∃ b_:Bool,b_=(rdOf false l1 ((rd_T74 l0_2 x6_1).f1)):=⟨_,rfl⟩
   replace H:(if (bq12=true) then(ebbtideref10_Takes.l0 k1 l1 x5_1 (wrap64 (x6_1+1)) a0_0 a0_1 l0_2) else(ebbtideref10_Takes.l0 k1 l1 (wrap64 (x5_1+((rd_T74 l0_2 x6_1).f2))) (wrap64 (x6_1+1)) a0_0 a0_1 l0_2))=some r:=by rw[← hbq12] at H;exact H
   have Nbq12:=Aside0.mk hbq12
   clear hbq12
   by_cases c13:(bq12=true)
   ·subst c13
    have H1:(ebbtideref10_Takes.l0 k1 l1 x5_1 (wrap64 (x6_1+1)) a0_0 a0_1 l0_2)=some r:=by first|(rw[if_pos rfl] at H;exact H)|(rw[if_pos trivial] at H;exact H)
    clear H
    have H:=H1
    clear H1
    have H':=Aside0.mk H
    clear H
    have hcz14_0:wr.cell? ⟨gb1055,0,none⟩=some (.int .i64 a0_0):=(blk_cell BK1055.out 0).trans rfl
    have hcz14_1:wr.cell? ⟨gb1055,1,none⟩=some (.bool a0_1):=(blk_cell BK1055.out 1).trans rfl
    have hcz14_2:wr.cell? ⟨gb1055,2,none⟩=some (.slice A0_2 l0_2.length c0_2):=(blk_cell BK1055.out 2).trans rfl
    have hfz14_0:=blk_frozen BK1055.out 0
    have hfz14_1:=blk_frozen BK1055.out 1
    have hfz14_2:=blk_frozen BK1055.out 2
    have p1056:0≤(x6_1:Int):=of_decide_eq_true (by first|(with_reducible assumption)|assumption)
    have q1056:x6_1<(l0_2.length:Int):=of_decide_eq_true (by first|(with_reducible assumption)|assumption)
    obtain⟨ad1056,e1056,hx1056_0,hx1056_1,hx1056_2,hx1056_3⟩:=at_T74 HR0_2.out x6_1 p1056 q1056
    cases e1056
    replace hx1056_0:=(HB.out.cell (World.block_lt_of_cell? w _ hx1056_0)).trans hx1056_0
    replace hx1056_1:=(HB.out.cell (World.block_lt_of_cell? w _ hx1056_1)).trans hx1056_1
    replace hx1056_2:=(HB.out.cell (World.block_lt_of_cell? w _ hx1056_2)).trans hx1056_2
    replace hx1056_3:=(HB.out.cell (World.block_lt_of_cell? w _ hx1056_3)).trans hx1056_3
    replace p1056:=eq_true p1056
    replace q1056:=eq_true q1056
    have p1057:0≤(((rd_T74 l0_2 x6_1).f0):Int):=of_decide_eq_true (by first|(with_reducible assumption)|assumption)
    have q1057:((rd_T74 l0_2 x6_1).f0)<(l1.length:Int):=of_decide_eq_true (by first|(with_reducible assumption)|assumption)
    obtain⟨ad1057,e1057,hx1057_0⟩:=Kd.at_bool HR1.out ((rd_T74 l0_2 x6_1).f0) p1057 q1057
    (try rw[← Nbq8.out] at hx1057_0)
    (try rw[← Nbq12.out] at hx1057_0)
    cases e1057
    replace hx1057_0:=(HB.out.cell (World.block_lt_of_cell? w _ hx1057_0)).trans hx1057_0
    replace p1057:=eq_true p1057
    replace q1057:=eq_true q1057
    have p1058:0≤(x6_1:Int):=of_decide_eq_true (by first|(with_reducible assumption)|assumption)
    have q1058:x6_1<(l0_2.length:Int):=of_decide_eq_true (by first|(with_reducible assumption)|assumption)
    obtain⟨ad1058,e1058,hx1058_0,hx1058_1,hx1058_2,hx1058_3⟩:=at_T74 HR0_2.out x6_1 p1058 q1058
    obtain rfl:ad1056=ad1058:=(by injection e1058)
    replace hx1058_0:=(HB.out.cell (World.block_lt_of_cell? w _ hx1058_0)).trans hx1058_0
    replace hx1058_1:=(HB.out.cell (World.block_lt_of_cell? w _ hx1058_1)).trans hx1058_1
    replace hx1058_2:=(HB.out.cell (World.block_lt_of_cell? w _ hx1058_2)).trans hx1058_2
    replace hx1058_3:=(HB.out.cell (World.block_lt_of_cell? w _ hx1058_3)).trans hx1058_3
    replace p1058:=eq_true p1058
    replace q1058:=eq_true q1058
    have p1059:0≤(((rd_T74 l0_2 x6_1).f1):Int):=of_decide_eq_true (by first|(with_reducible assumption)|assumption)
    have q1059:((rd_T74 l0_2 x6_1).f1)<(l1.length:Int):=of_decide_eq_true (by first|(with_reducible assumption)|assumption)
    obtain⟨ad1059,e1059,hx1059_0⟩:=Kd.at_bool HR1.out ((rd_T74 l0_2 x6_1).f1) p1059 q1059
    (try rw[← Nbq8.out] at hx1059_0)
    (try rw[← Nbq12.out] at hx1059_0)
    obtain rfl:ad1057=ad1059:=(by injection e1059)
    replace hx1059_0:=(HB.out.cell (World.block_lt_of_cell? w _ hx1059_0)).trans hx1059_0
    replace p1059:=eq_true p1059
    replace q1059:=eq_true q1059
    go_wp2
    go_roundg k1
    case measure=>have:=HK1.out;omega
    case rel=>exact⟨(x5_1),(wrap64 (x6_1+1)),(by first|rfl|(simp;done)|(simp[*];done)),(by first|rfl|(simp;done)|(simp[*];done)),H',⟨by have:=HK1.out;omega⟩,⟨by(with_reducible repeat(first|refine blk_drewN ?_ _|refine blk_drew ?_|refine blk_alloc ?_ _));exact BK1055.out⟩,⟨by repeat(first|(with_reducible first|exact HB.out|apply below_alloc|apply pw_below_drewN|apply below_drew1|refine below_set ?_ GE1055.out)|exact HB.out)⟩⟩
   replace c13:=Bool.eq_false_iff.mpr c13
   subst c13
   have H1:(ebbtideref10_Takes.l0 k1 l1 (wrap64 (x5_1+((rd_T74 l0_2 x6_1).f2))) (wrap64 (x6_1+1)) a0_0 a0_1 l0_2)=some r:=by rw[if_neg (show ¬ (false=true) by decide)] at H;exact H
   clear H
   have H:=H1
   clear H1
   have H':=Aside0.mk H
   clear H
   have hcz15_0:wr.cell? ⟨gb1055,0,none⟩=some (.int .i64 a0_0):=(blk_cell BK1055.out 0).trans rfl
   have hcz15_1:wr.cell? ⟨gb1055,1,none⟩=some (.bool a0_1):=(blk_cell BK1055.out 1).trans rfl
   have hcz15_2:wr.cell? ⟨gb1055,2,none⟩=some (.slice A0_2 l0_2.length c0_2):=(blk_cell BK1055.out 2).trans rfl
   have hfz15_0:=blk_frozen BK1055.out 0
   have hfz15_1:=blk_frozen BK1055.out 1
   have hfz15_2:=blk_frozen BK1055.out 2
   have p1056:0≤(x6_1:Int):=of_decide_eq_true (by first|(with_reducible assumption)|assumption)
   have q1056:x6_1<(l0_2.length:Int):=of_decide_eq_true (by first|(with_reducible assumption)|assumption)
   obtain⟨ad1056,e1056,hx1056_0,hx1056_1,hx1056_2,hx1056_3⟩:=at_T74 HR0_2.out x6_1 p1056 q1056
   cases e1056
   replace hx1056_0:=(HB.out.cell (World.block_lt_of_cell? w _ hx1056_0)).trans hx1056_0
   replace hx1056_1:=(HB.out.cell (World.block_lt_of_cell? w _ hx1056_1)).trans hx1056_1
   replace hx1056_2:=(HB.out.cell (World.block_lt_of_cell? w _ hx1056_2)).trans hx1056_2
   replace hx1056_3:=(HB.out.cell (World.block_lt_of_cell? w _ hx1056_3)).trans hx1056_3
   replace p1056:=eq_true p1056
   replace q1056:=eq_true q1056
   have p1057:0≤(((rd_T74 l0_2 x6_1).f0):Int):=of_decide_eq_true (by first|(with_reducible assumption)|assumption)
   have q1057:((rd_T74 l0_2 x6_1).f0)<(l1.length:Int):=of_decide_eq_true (by first|(with_reducible assumption)|assumption)
   obtain⟨ad1057,e1057,hx1057_0⟩:=Kd.at_bool HR1.out ((rd_T74 l0_2 x6_1).f0) p1057 q1057
   (try rw[← Nbq8.out] at hx1057_0)
   (try rw[← Nbq12.out] at hx1057_0)
   cases e1057
   replace hx1057_0:=(HB.out.cell (World.block_lt_of_cell? w _ hx1057_0)).trans hx1057_0
   replace p1057:=eq_true p1057
   replace q1057:=eq_true q1057
   have p1058:0≤(x6_1:Int):=of_decide_eq_true (by first|(with_reducible assumption)|assumption)
   have q1058:x6_1<(l0_2.length:Int):=of_decide_eq_true (by first|(with_reducible assumption)|assumption)
   obtain⟨ad1058,e1058,hx1058_0,hx1058_1,hx1058_2,hx1058_3⟩:=at_T74 HR0_2.out x6_1 p1058 q1058
   obtain rfl:ad1056=ad1058:=(by injection e1058)
   replace hx1058_0:=(HB.out.cell (World.block_lt_of_cell? w _ hx1058_0)).trans hx1058_0
   replace hx1058_1:=(HB.out.cell (World.block_lt_of_cell? w _ hx1058_1)).trans hx1058_1
   replace hx1058_2:=(HB.out.cell (World.block_lt_of_cell? w _ hx1058_2)).trans hx1058_2
   replace hx1058_3:=(HB.out.cell (World.block_lt_of_cell? w _ hx1058_3)).trans hx1058_3
   replace p1058:=eq_true p1058
   replace q1058:=eq_true q1058
   have p1059:0≤(((rd_T74 l0_2 x6_1).f1):Int):=of_decide_eq_true (by first|(with_reducible assumption)|assumption)
   have q1059:((rd_T74 l0_2 x6_1).f1)<(l1.length:Int):=of_decide_eq_true (by first|(with_reducible assumption)|assumption)
   obtain⟨ad1059,e1059,hx1059_0⟩:=Kd.at_bool HR1.out ((rd_T74 l0_2 x6_1).f1) p1059 q1059
   (try rw[← Nbq8.out] at hx1059_0)
   (try rw[← Nbq12.out] at hx1059_0)
   obtain rfl:ad1057=ad1059:=(by injection e1059)
   replace hx1059_0:=(HB.out.cell (World.block_lt_of_cell? w _ hx1059_0)).trans hx1059_0
   replace p1059:=eq_true p1059
   replace q1059:=eq_true q1059
   have p1060:0≤(x6_1:Int):=of_decide_eq_true (by first|(with_reducible assumption)|assumption)
   have q1060:x6_1<(l0_2.length:Int):=of_decide_eq_true (by first|(with_reducible assumption)|assumption)
   obtain⟨ad1060,e1060,hx1060_0,hx1060_1,hx1060_2,hx1060_3⟩:=at_T74 HR0_2.out x6_1 p1060 q1060
   obtain rfl:ad1056=ad1060:=(by injection e1060)
   replace hx1060_0:=(HB.out.cell (World.block_lt_of_cell? w _ hx1060_0)).trans hx1060_0
   replace hx1060_1:=(HB.out.cell (World.block_lt_of_cell? w _ hx1060_1)).trans hx1060_1
   replace hx1060_2:=(HB.out.cell (World.block_lt_of_cell? w _ hx1060_2)).trans hx1060_2
   replace hx1060_3:=(HB.out.cell (World.block_lt_of_cell? w _ hx1060_3)).trans hx1060_3
   replace p1060:=eq_true p1060
   replace q1060:=eq_true q1060
   go_wp2
   go_roundg k1
   case measure=>have:=HK1.out;omega
   case rel=>exact⟨(wrap64 (x5_1+((rd_T74 l0_2 x6_1).f2))),(wrap64 (x6_1+1)),(by first|rfl|(simp;done)|(simp[*];done)),(by first|rfl|(simp;done)|(simp[*];done)),H',⟨by have:=HK1.out;omega⟩,⟨by(with_reducible repeat(first|refine blk_drewN ?_ _|refine blk_drew ?_|refine blk_alloc ?_ _));exact BK1055.out⟩,⟨by repeat(first|(with_reducible first|exact HB.out|apply below_alloc|apply pw_below_drewN|apply below_drew1|refine below_set ?_ GE1055.out)|exact HB.out)⟩⟩
end Go.Proofs.Ytkcpanpdipmmmaa.P
namespace Go.Proofs.Ytkcpanpdipmmmaa.P
open Go.RowKit Go.Proofs.YtkcpanpdipmmmaaW.PrintWords Go.Proofs.YtkcpanpdipmmmaaW.PrintLast Go.Proofs.YtkcpanpdipmmmaaW.PrintMore
attribute [local go_sem] max2_int min2_int max_two min_two max_three min_three max_four min_four
def ebbtideref10_Capacity.f (k:Nat) (a0_0:Int) (a0_1:Bool) (l0_2:List (S74)) (l1:List Bool):Option (Int × Int):=(ebbtideref05_Check.f k a0_0 a0_1 l0_2).bind fun t1150=>(if t1150=0 then(if (l1.length:Int)=a0_0 then((ebbtideref10_Takes.f k a0_0 a0_1 l0_2 l1).bind fun t1151=>(some (t1151,0))) else(some (0,1))) else(some (0,t1150)))
set_option maxHeartbeats 8000000 in
set_option maxRecDepth 100000 in
theorem ebbtideref10_Capacity.calls (k:Nat) (a0_0:Int) (a0_1:Bool) (A0_2:Option Addr) (c0_2:Nat) (l0_2:List (S74)) (A1:Option Addr) (c1:Nat) (l1:List Bool) (r1:Int) (r2:Int) (w:World) (hr0_2:Kd.C k74 w A0_2 l0_2.length l0_2) (hc0_2:l0_2.length≤c0_2) (hr1:Kd.C Kd.bool w A1 l1.length l1) (hc1:l1.length≤c1) (h:ebbtideref10_Capacity.f k a0_0 a0_1 l0_2 l1=some (r1,r2)):
  Calls Try.prog 85 #[.agg #[.int .i64 a0_0, .bool a0_1, .slice A0_2 l0_2.length c0_2], .slice A1 l1.length c1] w fun e w'=>e= .returned (.tuple #[.int .i64 r1, .int .i64 r2])∧Below w.heap.size w w':=by
 have hu24:=Try.underlying24
 have HR0_2:=Aside0.mk hr0_2
 have HC0_2:=Aside0.mk hc0_2
 clear hr0_2 hc0_2
 have HR1:=Aside0.mk hr1
 have HC1:=Aside0.mk hc1
 clear hr1 hc1
 have HB:=Aside0.mk (Below.refl w.heap.size w)
 have H:((ebbtideref05_Check.f k a0_0 a0_1 l0_2).bind fun t1150=>(if t1150=0 then(if (l1.length:Int)=a0_0 then((ebbtideref10_Takes.f k a0_0 a0_1 l0_2 l1).bind fun t1151=>(some (t1151,0))) else(some (0,1))) else(some (0,t1150))))=some (r1,r2):=h
 clear h
 replace H:=Option.bind_eq_some_iff.mp H
 obtain⟨t1150,A30,H⟩:=H
 replace H:(if t1150=0 then(if (l1.length:Int)=a0_0 then((ebbtideref10_Takes.f k a0_0 a0_1 l0_2 l1).bind fun t1151=>(some (t1151,0))) else(some (0,1))) else(some (0,t1150)))=some (r1,r2):=H
 have A3:=Aside0.mk A30
 clear A30
 by_cases c4:t1150=0
 rotate_left
 ·rw[if_neg c4] at H
  have c4b0:(t1150 == 0)=false:=beq_eq_false_iff_ne.mpr c4
  have c4b1:(t1150 != 0)=true:=bne_iff_ne.mpr c4
  simp only[Option.some.injEq,Prod.mk.injEq] at H
  obtain⟨rfl,rfl⟩:=H
  go_enter Try.func85,Try.ntmps85
  go_wp2_with (first|((with_reducible refine gate_dst (N:=2) rfl ?_);refine box_event ?hg (N:=2) ?hd (cs:= #[.int .i64 a0_0, .bool a0_1, .slice A0_2 l0_2.length c0_2]) (t:=24) ?hr ?_;(case hd=>rfl);(case hg=>rfl);(case hr=>first|(go_simp;done)|(go_simp;rfl));intro gb1149 hg w16 hbox hb;have n0_:=Aside0.mk (below_step (by repeat(first|(with_reducible first|exact HB.out|apply below_alloc|apply pw_below_drewN|apply below_drew1)|exact HB.out)) hb);have n1_:=Aside0.mk (hbox);have n2_:=Aside0.mk ((by rw[hg];exact(below_size (by repeat(first|(with_reducible first|exact HB.out|apply below_alloc|apply pw_below_drewN|apply below_drew1)|exact HB.out))):w.heap.size≤gb1149));have n3_:=Aside0.mk ((by rw[hg];exact(below_size (by repeat(first|(with_reducible first|exact HB.out|apply below_alloc|apply pw_below_drewN|apply below_drew1)|exact HB.out))):w.heap.size≤gb1149));clear HB;have HB:=n0_;have BK1149:=n1_;have GW1149:=n2_;have GE1149:=n3_;clear n0_ n1_ n2_ n3_;clear hb hbox hg;have hcz17_0:w16.cell? ⟨gb1149,0,none⟩=some (.int .i64 a0_0):=(blk_cell BK1149.out 0).trans rfl;have hcz17_1:w16.cell? ⟨gb1149,1,none⟩=some (.bool a0_1):=(blk_cell BK1149.out 1).trans rfl;have hcz17_2:w16.cell? ⟨gb1149,2,none⟩=some (.slice A0_2 l0_2.length c0_2):=(blk_cell BK1149.out 2).trans rfl;have hfz17_0:=blk_frozen BK1149.out 0;have hfz17_1:=blk_frozen BK1149.out 1;have hfz17_2:=blk_frozen BK1149.out 2)|((with_reducible refine gate_callee (f:=78) rfl ?_);refine goesL_ (some 8) rfl rfl Try.func78 (by kernel_rfl) rfl #[.agg #[.int .i64 a0_0, .bool a0_1, .slice A0_2 l0_2.length c0_2]] rfl (by(try simp only[List.map_toArray,List.map_cons,List.map_nil]);first|done|rfl|(simp only[List.length_drop,List.length_take];rfl)) ?_;(with_reducible refine(ebbtideref05_Check.calls k a0_0 a0_1 _ _ l0_2 t1150 _ ?side1 ?side2 A3.out).mono ?_);(case side1=>repeat(first|exact(Kd.C_below HR0_2.out HB.out)|(with_reducible refine Kd.C_alloc ?_ _)|(with_reducible refine Kd.C_drewN ?_ _)|(with_reducible refine Kd.C_drew ?_)));(case side2=>exact HC0_2.out);rintro e w18 ⟨rfl,hb⟩;refine⟨_,rfl,?_⟩;have n0_:=Aside0.mk (blk_below (g:=gb1149) (o:= .cells #[.int .i64 a0_0, .bool a0_1, .slice A0_2 l0_2.length c0_2] 24 (0,0)) (by(with_reducible repeat(first|refine blk_drewN ?_ _|refine blk_drew ?_|refine blk_alloc ?_ _));exact BK1149.out) hb);have n1_:=Aside0.mk (below_step (by repeat(first|(with_reducible first|exact HB.out|apply below_alloc|apply pw_below_drewN|apply below_drew1|refine below_set ?_ GE1149.out)|exact HB.out)) hb);clear BK1149;clear HB;have BK1149:=n0_;have HB:=n1_;clear n0_ n1_;(try clear hb);(try clear hb2);(try clear hk);(try clear hi)))
  go_ret2
  exact⟨by first|rfl|(simp[errW_none,errW_some]<;>rfl)|(simp[*,errW_none,errW_some]<;>rfl),by repeat(first|(with_reducible first|exact HB.out|apply below_alloc|apply pw_below_drewN|apply below_drew1|refine below_set ?_ GE1149.out)|exact HB.out)⟩
 rw[if_pos c4] at H
 have c4b0:(t1150 == 0)=true:=beq_iff_eq.mpr c4
 have c4b1:(t1150 != 0)=false:=bne_eq_false_iff_eq.mpr c4
 clear c4
 by_cases c5:(l1.length:Int)=a0_0
 rotate_left
 ·rw[if_neg c5] at H
  have c5b0:((l1.length:Int) == a0_0)=false:=beq_eq_false_iff_ne.mpr c5
  have c5b1:((l1.length:Int) != a0_0)=true:=bne_iff_ne.mpr c5
  simp only[Option.some.injEq,Prod.mk.injEq] at H
  obtain⟨rfl,rfl⟩:=H
  go_enter Try.func85,Try.ntmps85
  go_wp2_with (first|((with_reducible refine gate_dst (N:=2) rfl ?_);refine box_event ?hg (N:=2) ?hd (cs:= #[.int .i64 a0_0, .bool a0_1, .slice A0_2 l0_2.length c0_2]) (t:=24) ?hr ?_;(case hd=>rfl);(case hg=>rfl);(case hr=>first|(go_simp;done)|(go_simp;rfl));intro gb1149 hg w12 hbox hb;have n0_:=Aside0.mk (below_step (by repeat(first|(with_reducible first|exact HB.out|apply below_alloc|apply pw_below_drewN|apply below_drew1)|exact HB.out)) hb);have n1_:=Aside0.mk (hbox);have n2_:=Aside0.mk ((by rw[hg];exact(below_size (by repeat(first|(with_reducible first|exact HB.out|apply below_alloc|apply pw_below_drewN|apply below_drew1)|exact HB.out))):w.heap.size≤gb1149));have n3_:=Aside0.mk ((by rw[hg];exact(below_size (by repeat(first|(with_reducible first|exact HB.out|apply below_alloc|apply pw_below_drewN|apply below_drew1)|exact HB.out))):w.heap.size≤gb1149));clear HB;have HB:=n0_;have BK1149:=n1_;have GW1149:=n2_;have GE1149:=n3_;clear n0_ n1_ n2_ n3_;clear hb hbox hg;have hcz13_0:w12.cell? ⟨gb1149,0,none⟩=some (.int .i64 a0_0):=(blk_cell BK1149.out 0).trans rfl;have hcz13_1:w12.cell? ⟨gb1149,1,none⟩=some (.bool a0_1):=(blk_cell BK1149.out 1).trans rfl;have hcz13_2:w12.cell? ⟨gb1149,2,none⟩=some (.slice A0_2 l0_2.length c0_2):=(blk_cell BK1149.out 2).trans rfl;have hfz13_0:=blk_frozen BK1149.out 0;have hfz13_1:=blk_frozen BK1149.out 1;have hfz13_2:=blk_frozen BK1149.out 2)|((with_reducible refine gate_callee (f:=78) rfl ?_);refine goesL_ (some 8) rfl rfl Try.func78 (by kernel_rfl) rfl #[.agg #[.int .i64 a0_0, .bool a0_1, .slice A0_2 l0_2.length c0_2]] rfl (by(try simp only[List.map_toArray,List.map_cons,List.map_nil]);first|done|rfl|(simp only[List.length_drop,List.length_take];rfl)) ?_;(with_reducible refine(ebbtideref05_Check.calls k a0_0 a0_1 _ _ l0_2 t1150 _ ?side1 ?side2 A3.out).mono ?_);(case side1=>repeat(first|exact(Kd.C_below HR0_2.out HB.out)|(with_reducible refine Kd.C_alloc ?_ _)|(with_reducible refine Kd.C_drewN ?_ _)|(with_reducible refine Kd.C_drew ?_)));(case side2=>exact HC0_2.out);rintro e w14 ⟨rfl,hb⟩;refine⟨_,rfl,?_⟩;have n0_:=Aside0.mk (blk_below (g:=gb1149) (o:= .cells #[.int .i64 a0_0, .bool a0_1, .slice A0_2 l0_2.length c0_2] 24 (0,0)) (by(with_reducible repeat(first|refine blk_drewN ?_ _|refine blk_drew ?_|refine blk_alloc ?_ _));exact BK1149.out) hb);have n1_:=Aside0.mk (below_step (by repeat(first|(with_reducible first|exact HB.out|apply below_alloc|apply pw_below_drewN|apply below_drew1|refine below_set ?_ GE1149.out)|exact HB.out)) hb);clear BK1149;clear HB;have BK1149:=n0_;have HB:=n1_;clear n0_ n1_;(try clear hb);(try clear hb2);(try clear hk);(try clear hi);have hcz15_0:w14.cell? ⟨gb1149,0,none⟩=some (.int .i64 a0_0):=(blk_cell BK1149.out 0).trans rfl;have hcz15_1:w14.cell? ⟨gb1149,1,none⟩=some (.bool a0_1):=(blk_cell BK1149.out 1).trans rfl;have hcz15_2:w14.cell? ⟨gb1149,2,none⟩=some (.slice A0_2 l0_2.length c0_2):=(blk_cell BK1149.out 2).trans rfl;have hfz15_0:=blk_frozen BK1149.out 0;have hfz15_1:=blk_frozen BK1149.out 1;have hfz15_2:=blk_frozen BK1149.out 2))
  go_ret2
  exact⟨by first|rfl|(simp[errW_none,errW_some]<;>rfl)|(simp[*,errW_none,errW_some]<;>rfl),by repeat(first|(with_reducible first|exact HB.out|apply below_alloc|apply pw_below_drewN|apply below_drew1|refine below_set ?_ GE1149.out)|exact HB.out)⟩
 rw[if_pos c5] at H
 have c5b0:((l1.length:Int) == a0_0)=true:=beq_iff_eq.mpr c5
 have c5b1:((l1.length:Int) != a0_0)=false:=bne_eq_false_iff_eq.mpr c5
 clear c5
 replace H:=Option.bind_eq_some_iff.mp H
 obtain⟨t1151,A60,H⟩:=H
 replace H:(some (t1151,0))=some (r1,r2):=H
 have A6:=Aside0.mk A60
 clear A60
 simp only[Option.some.injEq,Prod.mk.injEq] at H
 obtain⟨rfl,rfl⟩:=H
 go_enter Try.func85,Try.ntmps85
 go_wp2_with (first|((with_reducible refine gate_dst (N:=2) rfl ?_);refine box_event ?hg (N:=2) ?hd (cs:= #[.int .i64 a0_0, .bool a0_1, .slice A0_2 l0_2.length c0_2]) (t:=24) ?hr ?_;(case hd=>rfl);(case hg=>rfl);(case hr=>first|(go_simp;done)|(go_simp;rfl));intro gb1149 hg w7 hbox hb;have n0_:=Aside0.mk (below_step (by repeat(first|(with_reducible first|exact HB.out|apply below_alloc|apply pw_below_drewN|apply below_drew1)|exact HB.out)) hb);have n1_:=Aside0.mk (hbox);have n2_:=Aside0.mk ((by rw[hg];exact(below_size (by repeat(first|(with_reducible first|exact HB.out|apply below_alloc|apply pw_below_drewN|apply below_drew1)|exact HB.out))):w.heap.size≤gb1149));have n3_:=Aside0.mk ((by rw[hg];exact(below_size (by repeat(first|(with_reducible first|exact HB.out|apply below_alloc|apply pw_below_drewN|apply below_drew1)|exact HB.out))):w.heap.size≤gb1149));clear HB;have HB:=n0_;have BK1149:=n1_;have GW1149:=n2_;have GE1149:=n3_;clear n0_ n1_ n2_ n3_;clear hb hbox hg;have hcz8_0:w7.cell? ⟨gb1149,0,none⟩=some (.int .i64 a0_0):=(blk_cell BK1149.out 0).trans rfl;have hcz8_1:w7.cell? ⟨gb1149,1,none⟩=some (.bool a0_1):=(blk_cell BK1149.out 1).trans rfl;have hcz8_2:w7.cell? ⟨gb1149,2,none⟩=some (.slice A0_2 l0_2.length c0_2):=(blk_cell BK1149.out 2).trans rfl;have hfz8_0:=blk_frozen BK1149.out 0;have hfz8_1:=blk_frozen BK1149.out 1;have hfz8_2:=blk_frozen BK1149.out 2)|((with_reducible refine gate_callee (f:=78) rfl ?_);refine goesL_ (some 8) rfl rfl Try.func78 (by kernel_rfl) rfl #[.agg #[.int .i64 a0_0, .bool a0_1, .slice A0_2 l0_2.length c0_2]] rfl (by(try simp only[List.map_toArray,List.map_cons,List.map_nil]);first|done|rfl|(simp only[List.length_drop,List.length_take];rfl)) ?_;(with_reducible refine(ebbtideref05_Check.calls k a0_0 a0_1 _ _ l0_2 t1150 _ ?side1 ?side2 A3.out).mono ?_);(case side1=>repeat(first|exact(Kd.C_below HR0_2.out HB.out)|(with_reducible refine Kd.C_alloc ?_ _)|(with_reducible refine Kd.C_drewN ?_ _)|(with_reducible refine Kd.C_drew ?_)));(case side2=>exact HC0_2.out);rintro e w9 ⟨rfl,hb⟩;refine⟨_,rfl,?_⟩;have n0_:=Aside0.mk (blk_below (g:=gb1149) (o:= .cells #[.int .i64 a0_0, .bool a0_1, .slice A0_2 l0_2.length c0_2] 24 (0,0)) (by(with_reducible repeat(first|refine blk_drewN ?_ _|refine blk_drew ?_|refine blk_alloc ?_ _));exact BK1149.out) hb);have n1_:=Aside0.mk (below_step (by repeat(first|(with_reducible first|exact HB.out|apply below_alloc|apply pw_below_drewN|apply below_drew1|refine below_set ?_ GE1149.out)|exact HB.out)) hb);clear BK1149;clear HB;have BK1149:=n0_;have HB:=n1_;clear n0_ n1_;(try clear hb);(try clear hb2);(try clear hk);(try clear hi);have hcz10_0:w9.cell? ⟨gb1149,0,none⟩=some (.int .i64 a0_0):=(blk_cell BK1149.out 0).trans rfl;have hcz10_1:w9.cell? ⟨gb1149,1,none⟩=some (.bool a0_1):=(blk_cell BK1149.out 1).trans rfl;have hcz10_2:w9.cell? ⟨gb1149,2,none⟩=some (.slice A0_2 l0_2.length c0_2):=(blk_cell BK1149.out 2).trans rfl;have hfz10_0:=blk_frozen BK1149.out 0;have hfz10_1:=blk_frozen BK1149.out 1;have hfz10_2:=blk_frozen BK1149.out 2)|((with_reducible refine gate_callee (f:=126) rfl ?_);refine goesL_ (some 19) rfl rfl Try.func126 (by kernel_rfl) rfl #[.agg #[.int .i64 a0_0, .bool a0_1, .slice A0_2 l0_2.length c0_2], .slice A1 l1.length c1] rfl (by(try simp only[List.map_toArray,List.map_cons,List.map_nil]);first|done|rfl|(simp only[List.length_drop,List.length_take];rfl)) ?_;(with_reducible refine(ebbtideref10_Takes.calls k a0_0 a0_1 _ _ l0_2 _ _ l1 t1151 _ ?side1 ?side2 ?side3 ?side4 A6.out).mono ?_);(case side1=>repeat(first|exact(Kd.C_below HR0_2.out HB.out)|(with_reducible refine Kd.C_alloc ?_ _)|(with_reducible refine Kd.C_drewN ?_ _)|(with_reducible refine Kd.C_drew ?_)));(case side2=>exact HC0_2.out);(case side3=>repeat(first|exact(Kd.C_below HR1.out HB.out)|(with_reducible refine Kd.C_alloc ?_ _)|(with_reducible refine Kd.C_drewN ?_ _)|(with_reducible refine Kd.C_drew ?_)));(case side4=>exact HC1.out);rintro e w11 ⟨rfl,hb⟩;refine⟨_,rfl,?_⟩;have n0_:=Aside0.mk (blk_below (g:=gb1149) (o:= .cells #[.int .i64 a0_0, .bool a0_1, .slice A0_2 l0_2.length c0_2] 24 (0,0)) (by(with_reducible repeat(first|refine blk_drewN ?_ _|refine blk_drew ?_|refine blk_alloc ?_ _));exact BK1149.out) hb);have n1_:=Aside0.mk (below_step (by repeat(first|(with_reducible first|exact HB.out|apply below_alloc|apply pw_below_drewN|apply below_drew1|refine below_set ?_ GE1149.out)|exact HB.out)) hb);clear BK1149;clear HB;have BK1149:=n0_;have HB:=n1_;clear n0_ n1_;(try clear hb);(try clear hb2);(try clear hk);(try clear hi)))
 go_ret2
 exact⟨by first|rfl|(simp[errW_none,errW_some]<;>rfl)|(simp[*,errW_none,errW_some]<;>rfl),by repeat(first|(with_reducible first|exact HB.out|apply below_alloc|apply pw_below_drewN|apply below_drew1|refine below_set ?_ GE1149.out)|exact HB.out)⟩
end Go.Proofs.Ytkcpanpdipmmmaa.P
namespace Go.Proofs.Ytkcpanpdipmmmaa.P
open Go.RowKit Go.Proofs.YtkcpanpdipmmmaaW.PrintWords Go.Proofs.YtkcpanpdipmmmaaW.PrintLast Go.Proofs.YtkcpanpdipmmmaaW.PrintMore
attribute [local go_sem] max2_int min2_int max_two min_two max_three min_three max_four min_four
def ebbtidelaw10_MincutSides.f (k:Nat) (a0_0:Int) (a0_1:Bool) (l0_2:List (S74)) (l1:List Int) (a2:Int) (l3:List Bool):Option (Bool):=(mincut_Side.f k a0_0 a0_1 l0_2 l1 a2).bind fun bt1153=>((ebbtideref10_Side.f k a0_0 a0_1 l0_2 l1 a2).bind fun bt1157=>((mincut_Capacity.f k a0_0 a0_1 l0_2 l3).bind fun bt1161=>((ebbtideref10_Capacity.f k a0_0 a0_1 l0_2 l3).bind fun bt1163=>((ebbtidelaw10_awake.f k).bind fun t1165=>(if t1165=true then((ebbtideref10_Same.f k bt1153.1 bt1157.1).bind fun t1166=>(if t1166=true then(if bt1153.2=bt1157.2 then(if bt1161.1=bt1163.1 then(some (bt1161.2 == bt1163.2)) else(some false)) else(some false)) else(some false))) else(some false))))))
set_option maxHeartbeats 8000000 in
set_option maxRecDepth 100000 in
theorem ebbtidelaw10_MincutSides.calls (k:Nat) (a0_0:Int) (a0_1:Bool) (A0_2:Option Addr) (c0_2:Nat) (l0_2:List (S74)) (A1:Option Addr) (c1:Nat) (l1:List Int) (a2:Int) (A3:Option Addr) (c3:Nat) (l3:List Bool) (r:Bool) (w:World) (hr0_2:Kd.C k74 w A0_2 l0_2.length l0_2) (hc0_2:l0_2.length≤c0_2) (hr1:Kd.C (Kd.int .i64) w A1 l1.length l1) (hc1:l1.length≤c1) (hr3:Kd.C Kd.bool w A3 l3.length l3) (hc3:l3.length≤c3) (h:ebbtidelaw10_MincutSides.f k a0_0 a0_1 l0_2 l1 a2 l3=some r) (hrT_:r=true:=by first|rfl|exact Aside0.out (by assumption)):
  Calls Try.prog 29 #[.agg #[.int .i64 a0_0, .bool a0_1, .slice A0_2 l0_2.length c0_2], .slice A1 l1.length c1, .int .i64 a2, .slice A3 l3.length c3] w fun e w'=>e= .returned (.bool r)∧Below w.heap.size w w':=by
 have HRT:=Aside0.mk hrT_
 clear hrT_
 have hu24:=Try.underlying24
 have HR0_2:=Aside0.mk hr0_2
 have HC0_2:=Aside0.mk hc0_2
 clear hr0_2 hc0_2
 have HR1:=Aside0.mk hr1
 have HC1:=Aside0.mk hc1
 clear hr1 hc1
 have HR3:=Aside0.mk hr3
 have HC3:=Aside0.mk hc3
 clear hr3 hc3
 have HB:=Aside0.mk (Below.refl w.heap.size w)
 have H:((mincut_Side.f k a0_0 a0_1 l0_2 l1 a2).bind fun bt1153=>((ebbtideref10_Side.f k a0_0 a0_1 l0_2 l1 a2).bind fun bt1157=>((mincut_Capacity.f k a0_0 a0_1 l0_2 l3).bind fun bt1161=>((ebbtideref10_Capacity.f k a0_0 a0_1 l0_2 l3).bind fun bt1163=>((ebbtidelaw10_awake.f k).bind fun t1165=>(if t1165=true then((ebbtideref10_Same.f k bt1153.1 bt1157.1).bind fun t1166=>(if t1166=true then(if bt1153.2=bt1157.2 then(if bt1161.1=bt1163.1 then(some (bt1161.2 == bt1163.2)) else(some false)) else(some false)) else(some false))) else(some false)))))))=some r:=h
 clear h
 replace H:=Option.bind_eq_some_iff.mp H
 obtain⟨⟨t1153,t1156⟩,A50,H⟩:=H
 replace H:((ebbtideref10_Side.f k a0_0 a0_1 l0_2 l1 a2).bind fun bt1157=>((mincut_Capacity.f k a0_0 a0_1 l0_2 l3).bind fun bt1161=>((ebbtideref10_Capacity.f k a0_0 a0_1 l0_2 l3).bind fun bt1163=>((ebbtidelaw10_awake.f k).bind fun t1165=>(if t1165=true then((ebbtideref10_Same.f k t1153 bt1157.1).bind fun t1166=>(if t1166=true then(if t1156=bt1157.2 then(if bt1161.1=bt1163.1 then(some (bt1161.2 == bt1163.2)) else(some false)) else(some false)) else(some false))) else(some false))))))=some r:=H
 have A5:=Aside0.mk A50
 clear A50
 replace H:=Option.bind_eq_some_iff.mp H
 obtain⟨⟨t1157,t1160⟩,A60,H⟩:=H
 replace H:((mincut_Capacity.f k a0_0 a0_1 l0_2 l3).bind fun bt1161=>((ebbtideref10_Capacity.f k a0_0 a0_1 l0_2 l3).bind fun bt1163=>((ebbtidelaw10_awake.f k).bind fun t1165=>(if t1165=true then((ebbtideref10_Same.f k t1153 t1157).bind fun t1166=>(if t1166=true then(if t1156=t1160 then(if bt1161.1=bt1163.1 then(some (bt1161.2 == bt1163.2)) else(some false)) else(some false)) else(some false))) else(some false)))))=some r:=H
 have A6:=Aside0.mk A60
 clear A60
 replace H:=Option.bind_eq_some_iff.mp H
 obtain⟨⟨t1161,t1162⟩,A70,H⟩:=H
 replace H:((ebbtideref10_Capacity.f k a0_0 a0_1 l0_2 l3).bind fun bt1163=>((ebbtidelaw10_awake.f k).bind fun t1165=>(if t1165=true then((ebbtideref10_Same.f k t1153 t1157).bind fun t1166=>(if t1166=true then(if t1156=t1160 then(if t1161=bt1163.1 then(some (t1162 == bt1163.2)) else(some false)) else(some false)) else(some false))) else(some false))))=some r:=H
 have A7:=Aside0.mk A70
 clear A70
 replace H:=Option.bind_eq_some_iff.mp H
 obtain⟨⟨t1163,t1164⟩,A80,H⟩:=H
 replace H:((ebbtidelaw10_awake.f k).bind fun t1165=>(if t1165=true then((ebbtideref10_Same.f k t1153 t1157).bind fun t1166=>(if t1166=true then(if t1156=t1160 then(if t1161=t1163 then(some (t1162 == t1164)) else(some false)) else(some false)) else(some false))) else(some false)))=some r:=H
 have A8:=Aside0.mk A80
 clear A80
 replace H:=Option.bind_eq_some_iff.mp H
 obtain⟨t1165,A90,H⟩:=H
 replace H:(if t1165=true then((ebbtideref10_Same.f k t1153 t1157).bind fun t1166=>(if t1166=true then(if t1156=t1160 then(if t1161=t1163 then(some (t1162 == t1164)) else(some false)) else(some false)) else(some false))) else(some false))=some r:=H
 have A9:=Aside0.mk A90
 clear A90
 by_cases c10:t1165=true
 rotate_left
 ·replace c10:=Bool.eq_false_iff.mpr c10
  subst c10
  have H1:(some false)=some r:=by rw[if_neg (show ¬ (false=true) by decide)] at H;exact H
  exact absurd (Option.some.inj H1) (by rw[HRT.out];decide)
 subst c10
 have H1:((ebbtideref10_Same.f k t1153 t1157).bind fun t1166=>(if t1166=true then(if t1156=t1160 then(if t1161=t1163 then(some (t1162 == t1164)) else(some false)) else(some false)) else(some false)))=some r:=by first|(rw[if_pos rfl] at H;exact H)|(rw[if_pos trivial] at H;exact H)
 clear H
 have H:=H1
 clear H1
 replace H:=Option.bind_eq_some_iff.mp H
 obtain⟨t1166,A110,H⟩:=H
 replace H:(if t1166=true then(if t1156=t1160 then(if t1161=t1163 then(some (t1162 == t1164)) else(some false)) else(some false)) else(some false))=some r:=H
 have A11:=Aside0.mk A110
 clear A110
 by_cases c12:t1166=true
 rotate_left
 ·replace c12:=Bool.eq_false_iff.mpr c12
  subst c12
  have H1:(some false)=some r:=by rw[if_neg (show ¬ (false=true) by decide)] at H;exact H
  exact absurd (Option.some.inj H1) (by rw[HRT.out];decide)
 subst c12
 have H1:(if t1156=t1160 then(if t1161=t1163 then(some (t1162 == t1164)) else(some false)) else(some false))=some r:=by first|(rw[if_pos rfl] at H;exact H)|(rw[if_pos trivial] at H;exact H)
 clear H
 have H:=H1
 clear H1
 by_cases c13:t1156=t1160
 rotate_left
 ·rw[if_neg c13] at H
  exact absurd (Option.some.inj H) (by rw[HRT.out];decide)
 rw[if_pos c13] at H
 have c13b0:(t1156 == t1160)=true:=beq_iff_eq.mpr c13
 have c13b1:(t1156 != t1160)=false:=bne_eq_false_iff_eq.mpr c13
 clear c13
 by_cases c14:t1161=t1163
 rotate_left
 ·rw[if_neg c14] at H
  exact absurd (Option.some.inj H) (by rw[HRT.out];decide)
 rw[if_pos c14] at H
 have c14b0:(t1161 == t1163)=true:=beq_iff_eq.mpr c14
 have c14b1:(t1161 != t1163)=false:=bne_eq_false_iff_eq.mpr c14
 clear c14
 obtain rfl:=Option.some.inj H
 go_enter Try.func29,Try.ntmps29
 go_wp2_with (first|((with_reducible refine gate_dst (N:=4) rfl ?_);refine box_event ?hg (N:=4) ?hd (cs:= #[.int .i64 a0_0, .bool a0_1, .slice A0_2 l0_2.length c0_2]) (t:=24) ?hr ?_;(case hd=>rfl);(case hg=>rfl);(case hr=>first|(go_simp;done)|(go_simp;rfl));intro gb1152 hg w15 hbox hb;have n0_:=Aside0.mk (below_step (by repeat(first|(with_reducible first|exact HB.out|apply below_alloc|apply pw_below_drewN|apply below_drew1)|exact HB.out)) hb);have n1_:=Aside0.mk (hbox);have n2_:=Aside0.mk ((by rw[hg];exact(below_size (by repeat(first|(with_reducible first|exact HB.out|apply below_alloc|apply pw_below_drewN|apply below_drew1)|exact HB.out))):w.heap.size≤gb1152));have n3_:=Aside0.mk ((by rw[hg];exact(below_size (by repeat(first|(with_reducible first|exact HB.out|apply below_alloc|apply pw_below_drewN|apply below_drew1)|exact HB.out))):w.heap.size≤gb1152));clear HB;have HB:=n0_;have BK1152:=n1_;have GW1152:=n2_;have GE1152:=n3_;clear n0_ n1_ n2_ n3_;clear hb hbox hg;have hcz16_0:w15.cell? ⟨gb1152,0,none⟩=some (.int .i64 a0_0):=(blk_cell BK1152.out 0).trans rfl;have hcz16_1:w15.cell? ⟨gb1152,1,none⟩=some (.bool a0_1):=(blk_cell BK1152.out 1).trans rfl;have hcz16_2:w15.cell? ⟨gb1152,2,none⟩=some (.slice A0_2 l0_2.length c0_2):=(blk_cell BK1152.out 2).trans rfl;have hfz16_0:=blk_frozen BK1152.out 0;have hfz16_1:=blk_frozen BK1152.out 1;have hfz16_2:=blk_frozen BK1152.out 2)|((with_reducible refine gate_callee (f:=83) rfl ?_);refine goesL_ (some 21) rfl rfl Try.func83 (by kernel_rfl) rfl #[.agg #[.int .i64 a0_0, .bool a0_1, .slice A0_2 l0_2.length c0_2], .slice A1 l1.length c1, .int .i64 a2] rfl (by(try simp only[List.map_toArray,List.map_cons,List.map_nil]);first|done|rfl|(simp only[List.length_drop,List.length_take];rfl)) ?_;(with_reducible refine(mincut_Side.calls k a0_0 a0_1 _ _ l0_2 _ _ l1 a2 t1153 t1156 _ ?side1 ?side2 ?side3 ?side4 A5.out).mono ?_);(case side1=>repeat(first|exact(Kd.C_below HR0_2.out HB.out)|(with_reducible refine Kd.C_alloc ?_ _)|(with_reducible refine Kd.C_drewN ?_ _)|(with_reducible refine Kd.C_drew ?_)));(case side2=>exact HC0_2.out);(case side3=>repeat(first|exact(Kd.C_below HR1.out HB.out)|(with_reducible refine Kd.C_alloc ?_ _)|(with_reducible refine Kd.C_drewN ?_ _)|(with_reducible refine Kd.C_drew ?_)));(case side4=>exact HC1.out);rintro e w17 ⟨v1154,rfl,ho0,hb⟩;refine⟨_,rfl,?_⟩;have n0_:=Aside0.mk (Kd.R_lower ho0 (below_size (by repeat(first|(with_reducible first|exact HB.out|apply below_alloc|apply pw_below_drewN|apply below_drew1|refine below_set ?_ GE1152.out)|exact HB.out))));have n1_:=Aside0.mk (blk_below (g:=gb1152) (o:= .cells #[.int .i64 a0_0, .bool a0_1, .slice A0_2 l0_2.length c0_2] 24 (0,0)) (by(with_reducible repeat(first|refine blk_drewN ?_ _|refine blk_drew ?_|refine blk_alloc ?_ _));exact BK1152.out) hb);have n2_:=Aside0.mk (below_step (by repeat(first|(with_reducible first|exact HB.out|apply below_alloc|apply pw_below_drewN|apply below_drew1|refine below_set ?_ GE1152.out)|exact HB.out)) hb);clear BK1152;clear HB;have HO1155:=n0_;have BK1152:=n1_;have HB:=n2_;clear n0_ n1_ n2_;(try clear hb);(try clear hb2);(try clear hk);(try clear hi);(try clear ho0);have hcz18_0:w17.cell? ⟨gb1152,0,none⟩=some (.int .i64 a0_0):=(blk_cell BK1152.out 0).trans rfl;have hcz18_1:w17.cell? ⟨gb1152,1,none⟩=some (.bool a0_1):=(blk_cell BK1152.out 1).trans rfl;have hcz18_2:w17.cell? ⟨gb1152,2,none⟩=some (.slice A0_2 l0_2.length c0_2):=(blk_cell BK1152.out 2).trans rfl;have hfz18_0:=blk_frozen BK1152.out 0;have hfz18_1:=blk_frozen BK1152.out 1;have hfz18_2:=blk_frozen BK1152.out 2)|((with_reducible refine gate_callee (f:=84) rfl ?_);refine goesL_ (some 28) rfl rfl Try.func84 (by kernel_rfl) rfl #[.agg #[.int .i64 a0_0, .bool a0_1, .slice A0_2 l0_2.length c0_2], .slice A1 l1.length c1, .int .i64 a2] rfl (by(try simp only[List.map_toArray,List.map_cons,List.map_nil]);first|done|rfl|(simp only[List.length_drop,List.length_take];rfl)) ?_;(with_reducible refine(ebbtideref10_Side.calls k a0_0 a0_1 _ _ l0_2 _ _ l1 a2 t1157 t1160 _ ?side1 ?side2 ?side3 ?side4 A6.out).mono ?_);(case side1=>repeat(first|exact(Kd.C_below HR0_2.out HB.out)|(with_reducible refine Kd.C_alloc ?_ _)|(with_reducible refine Kd.C_drewN ?_ _)|(with_reducible refine Kd.C_drew ?_)));(case side2=>exact HC0_2.out);(case side3=>repeat(first|exact(Kd.C_below HR1.out HB.out)|(with_reducible refine Kd.C_alloc ?_ _)|(with_reducible refine Kd.C_drewN ?_ _)|(with_reducible refine Kd.C_drew ?_)));(case side4=>exact HC1.out);rintro e w19 ⟨v1158,rfl,ho0,hb⟩;refine⟨_,rfl,?_⟩;have n0_:=Aside0.mk (Kd.R_elder' (by(with_reducible repeat(first|apply Kd.R_alloc|apply Kd.R_drewN|apply Kd.R_drew));exact HO1155.out) (Kd.R_base ho0) hb);have n1_:=Aside0.mk (Kd.R_lower (Kd.R_new' ho0 (Kd.R_lt (by(with_reducible repeat(first|apply Kd.R_alloc|apply Kd.R_drewN|apply Kd.R_drew));exact HO1155.out))) (below_size (by repeat(first|(with_reducible first|exact HB.out|apply below_alloc|apply pw_below_drewN|apply below_drew1|refine below_set ?_ GE1152.out)|exact HB.out))));have n2_:=Aside0.mk (blk_below (g:=gb1152) (o:= .cells #[.int .i64 a0_0, .bool a0_1, .slice A0_2 l0_2.length c0_2] 24 (0,0)) (by(with_reducible repeat(first|refine blk_drewN ?_ _|refine blk_drew ?_|refine blk_alloc ?_ _));exact BK1152.out) hb);have n3_:=Aside0.mk (below_step (by repeat(first|(with_reducible first|exact HB.out|apply below_alloc|apply pw_below_drewN|apply below_drew1|refine below_set ?_ GE1152.out)|exact HB.out)) hb);clear HO1155;clear BK1152;clear HB;have HO1155:=n0_;have HO1159:=n1_;have BK1152:=n2_;have HB:=n3_;clear n0_ n1_ n2_ n3_;(try clear hb);(try clear hb2);(try clear hk);(try clear hi);(try clear ho0);have hcz20_0:w19.cell? ⟨gb1152,0,none⟩=some (.int .i64 a0_0):=(blk_cell BK1152.out 0).trans rfl;have hcz20_1:w19.cell? ⟨gb1152,1,none⟩=some (.bool a0_1):=(blk_cell BK1152.out 1).trans rfl;have hcz20_2:w19.cell? ⟨gb1152,2,none⟩=some (.slice A0_2 l0_2.length c0_2):=(blk_cell BK1152.out 2).trans rfl;have hfz20_0:=blk_frozen BK1152.out 0;have hfz20_1:=blk_frozen BK1152.out 1;have hfz20_2:=blk_frozen BK1152.out 2)|((with_reducible refine gate_callee (f:=82) rfl ?_);refine goesL_ (some 34) rfl rfl Try.func82 (by kernel_rfl) rfl #[.agg #[.int .i64 a0_0, .bool a0_1, .slice A0_2 l0_2.length c0_2], .slice A3 l3.length c3] rfl (by(try simp only[List.map_toArray,List.map_cons,List.map_nil]);first|done|rfl|(simp only[List.length_drop,List.length_take];rfl)) ?_;(with_reducible refine(mincut_Capacity.calls k a0_0 a0_1 _ _ l0_2 _ _ l3 t1161 t1162 _ ?side1 ?side2 ?side3 ?side4 A7.out).mono ?_);(case side1=>repeat(first|exact(Kd.C_below HR0_2.out HB.out)|(with_reducible refine Kd.C_alloc ?_ _)|(with_reducible refine Kd.C_drewN ?_ _)|(with_reducible refine Kd.C_drew ?_)));(case side2=>exact HC0_2.out);(case side3=>repeat(first|exact(Kd.C_below HR3.out HB.out)|(with_reducible refine Kd.C_alloc ?_ _)|(with_reducible refine Kd.C_drewN ?_ _)|(with_reducible refine Kd.C_drew ?_)));(case side4=>exact HC3.out);rintro e w21 ⟨rfl,hb⟩;refine⟨_,rfl,?_⟩;have n0_:=Aside0.mk (Kd.R_below (by(with_reducible repeat(first|apply Kd.R_alloc|apply Kd.R_drewN|apply Kd.R_drew));exact HO1155.out) hb);have n1_:=Aside0.mk (Kd.R_below (by(with_reducible repeat(first|apply Kd.R_alloc|apply Kd.R_drewN|apply Kd.R_drew));exact HO1159.out) hb);have n2_:=Aside0.mk (blk_below (g:=gb1152) (o:= .cells #[.int .i64 a0_0, .bool a0_1, .slice A0_2 l0_2.length c0_2] 24 (0,0)) (by(with_reducible repeat(first|refine blk_drewN ?_ _|refine blk_drew ?_|refine blk_alloc ?_ _));exact BK1152.out) hb);have n3_:=Aside0.mk (below_step (by repeat(first|(with_reducible first|exact HB.out|apply below_alloc|apply pw_below_drewN|apply below_drew1|refine below_set ?_ GE1152.out)|exact HB.out)) hb);clear HO1155;clear HO1159;clear BK1152;clear HB;have HO1155:=n0_;have HO1159:=n1_;have BK1152:=n2_;have HB:=n3_;clear n0_ n1_ n2_ n3_;(try clear hb);(try clear hb2);(try clear hk);(try clear hi);have hcz22_0:w21.cell? ⟨gb1152,0,none⟩=some (.int .i64 a0_0):=(blk_cell BK1152.out 0).trans rfl;have hcz22_1:w21.cell? ⟨gb1152,1,none⟩=some (.bool a0_1):=(blk_cell BK1152.out 1).trans rfl;have hcz22_2:w21.cell? ⟨gb1152,2,none⟩=some (.slice A0_2 l0_2.length c0_2):=(blk_cell BK1152.out 2).trans rfl;have hfz22_0:=blk_frozen BK1152.out 0;have hfz22_1:=blk_frozen BK1152.out 1;have hfz22_2:=blk_frozen BK1152.out 2)|((with_reducible refine gate_callee (f:=85) rfl ?_);refine goesL_ (some 40) rfl rfl Try.func85 (by kernel_rfl) rfl #[.agg #[.int .i64 a0_0, .bool a0_1, .slice A0_2 l0_2.length c0_2], .slice A3 l3.length c3] rfl (by(try simp only[List.map_toArray,List.map_cons,List.map_nil]);first|done|rfl|(simp only[List.length_drop,List.length_take];rfl)) ?_;(with_reducible refine(ebbtideref10_Capacity.calls k a0_0 a0_1 _ _ l0_2 _ _ l3 t1163 t1164 _ ?side1 ?side2 ?side3 ?side4 A8.out).mono ?_);(case side1=>repeat(first|exact(Kd.C_below HR0_2.out HB.out)|(with_reducible refine Kd.C_alloc ?_ _)|(with_reducible refine Kd.C_drewN ?_ _)|(with_reducible refine Kd.C_drew ?_)));(case side2=>exact HC0_2.out);(case side3=>repeat(first|exact(Kd.C_below HR3.out HB.out)|(with_reducible refine Kd.C_alloc ?_ _)|(with_reducible refine Kd.C_drewN ?_ _)|(with_reducible refine Kd.C_drew ?_)));(case side4=>exact HC3.out);rintro e w23 ⟨rfl,hb⟩;refine⟨_,rfl,?_⟩;have n0_:=Aside0.mk (Kd.R_below (by(with_reducible repeat(first|apply Kd.R_alloc|apply Kd.R_drewN|apply Kd.R_drew));exact HO1155.out) hb);have n1_:=Aside0.mk (Kd.R_below (by(with_reducible repeat(first|apply Kd.R_alloc|apply Kd.R_drewN|apply Kd.R_drew));exact HO1159.out) hb);have n2_:=Aside0.mk (blk_below (g:=gb1152) (o:= .cells #[.int .i64 a0_0, .bool a0_1, .slice A0_2 l0_2.length c0_2] 24 (0,0)) (by(with_reducible repeat(first|refine blk_drewN ?_ _|refine blk_drew ?_|refine blk_alloc ?_ _));exact BK1152.out) hb);have n3_:=Aside0.mk (below_step (by repeat(first|(with_reducible first|exact HB.out|apply below_alloc|apply pw_below_drewN|apply below_drew1|refine below_set ?_ GE1152.out)|exact HB.out)) hb);clear HO1155;clear HO1159;clear BK1152;clear HB;have HO1155:=n0_;have HO1159:=n1_;have BK1152:=n2_;have HB:=n3_;clear n0_ n1_ n2_ n3_;(try clear hb);(try clear hb2);(try clear hk);(try clear hi))|((with_reducible refine gate_callee (f:=81) rfl ?_);refine goesL_ (some 43) rfl rfl Try.func81 (by kernel_rfl) rfl #[] rfl (by(try simp only[List.map_toArray,List.map_cons,List.map_nil]);first|done|rfl|(simp only[List.length_drop,List.length_take];rfl)) ?_;(with_reducible refine(ebbtidelaw10_awake.calls k  true _ A9.out).mono ?_);rintro e w24 ⟨rfl,hb⟩;refine⟨_,rfl,?_⟩;have n0_:=Aside0.mk (Kd.R_below (by(with_reducible repeat(first|apply Kd.R_alloc|apply Kd.R_drewN|apply Kd.R_drew));exact HO1155.out) hb);have n1_:=Aside0.mk (Kd.R_below (by(with_reducible repeat(first|apply Kd.R_alloc|apply Kd.R_drewN|apply Kd.R_drew));exact HO1159.out) hb);have n2_:=Aside0.mk (blk_below (g:=gb1152) (o:= .cells #[.int .i64 a0_0, .bool a0_1, .slice A0_2 l0_2.length c0_2] 24 (0,0)) (by(with_reducible repeat(first|refine blk_drewN ?_ _|refine blk_drew ?_|refine blk_alloc ?_ _));exact BK1152.out) hb);have n3_:=Aside0.mk (below_step (by repeat(first|(with_reducible first|exact HB.out|apply below_alloc|apply pw_below_drewN|apply below_drew1|refine below_set ?_ GE1152.out)|exact HB.out)) hb);clear HO1155;clear HO1159;clear BK1152;clear HB;have HO1155:=n0_;have HO1159:=n1_;have BK1152:=n2_;have HB:=n3_;clear n0_ n1_ n2_ n3_;(try clear hb);(try clear hb2);(try clear hk);(try clear hi);obtain⟨Ao25,co25,eo25⟩:=Kd.R_slice HO1155.out;subst eo25;obtain⟨Ao26,co26,eo26⟩:=Kd.R_slice HO1159.out;subst eo26)|(go_at_call 42;(with_reducible refine(ebbtideref10_Same.calls k _ _ t1153 _ _ t1157 true _ ?side1 ?side2 ?side3 ?side4 A11.out).mono ?_);(case side1=>repeat(first|exact(Kd.R_reads' HO1155.out).2.2|(with_reducible refine Kd.C_alloc ?_ _)|(with_reducible refine Kd.C_drewN ?_ _)|(with_reducible refine Kd.C_drew ?_)));(case side2=>exact(Kd.R_reads' HO1155.out).2.1);(case side3=>repeat(first|exact(Kd.R_reads' HO1159.out).2.2|(with_reducible refine Kd.C_alloc ?_ _)|(with_reducible refine Kd.C_drewN ?_ _)|(with_reducible refine Kd.C_drew ?_)));(case side4=>exact(Kd.R_reads' HO1159.out).2.1);rintro e w' ⟨rfl,⟨nd,rfl⟩⟩))
 go_ret
 exact⟨by first|rfl|(simp[errW_none,errW_some]<;>rfl)|(simp[*,errW_none,errW_some]<;>rfl),by repeat(first|(with_reducible first|exact HB.out|apply below_alloc|apply pw_below_drewN|apply below_drew1|refine below_set ?_ GE1152.out)|exact HB.out)⟩
end Go.Proofs.Ytkcpanpdipmmmaa.P
namespace Go.Proofs.Ytkcpanpdipmmmaa.Opn
open Go.RowKit Go.ChangeShapes Go.WideShapes Go.Deep Go.Proofs.YtkcpanpdipmmmaaW.PrintWords
def Opens (P:Program) (t:TypeId) {α:Type} (d:Kd α) (ok:α→Prop):Prop:=
 ∀ (H:Type) (enc:TypeId × Value→H) (w:World) (base:Nat) (spare:Nat→Bool) (held:Bool) (fuel:Nat) (cs:List Value) (x:DataW H × List MemPlace),
  DataW.trod enc P w base spare held fuel t cs=some x→ ∃ a:α,d.K w a cs∧ok a
theorem opens_int {P:Program} {t:TypeId} {k:IntKind} (ht:P.underlying t=some (.int k)):Opens P t (Kd.int k) (fun n=>(Lit.int k n).wf=true):=by
 intro H enc w base spare held fuel cs x h
 obtain⟨n,rfl,_,hw⟩:=DataW.trod_int ht h
 exact⟨n,rfl,hw⟩
theorem opens_bool {P:Program} {t:TypeId} (ht:P.underlying t=some .bool):Opens P t Kd.bool (fun _=>True):=by
 intro H enc w base spare held fuel cs x h
 obtain⟨b,rfl,_⟩:=DataW.trod_bool ht h
 exact⟨b,rfl,trivial⟩
theorem opens_slice {P:Program} {t e:TypeId} {α:Type} {d:Kd α} {ok:α→Prop} (ht:P.underlying t=some (.slice e)) (hc:P.cellsOf e=d.sz) (h:Opens P e d ok):
  Opens P t (Kd.slice e d) (fun l=>l.length≤9223372036854775807∧ ∀ x∈l,ok x):=by
 intro H enc w base spare held fuel cs x hx
 rcases open_slice ht hx with ⟨rfl,_⟩|⟨a,len,cap,m,n,D,Pl,rfl,hb,hl,hm,hmm,_,hi⟩
 ·exact⟨[],⟨none,0,rfl,Nat.le_refl _,rfl,by simp,fun h=>absurd h (by simp)⟩,by simp,by simp⟩
 ·have hlm:len≤m:=by rw[hmm];split<;>omega
  have hel: ∀ i:Nat,i<len→ ∃ a':α,ok a'∧ ∃ c,c.length=d.sz∧d.K w a' c∧ ∀ j u,c[j]? =some u→w.cell? (a.add (i * d.sz+j))=some u:=by
   intro i hil
   obtain⟨cs',hcs,htr⟩:=hi i (by omega)
   obtain⟨a',hK,hok⟩:=h H enc w base spare held n cs' _ htr
   rw[hc] at hcs
   obtain⟨_,hcl,hat⟩:=World.cells?_some hcs
   refine⟨a',hok,cs',hcl,hK,fun j u hu=> ?_⟩
   have hj:j<d.sz:=by have:=(List.getElem?_eq_some_iff.1 hu).1;omega
   have:=hat j hj
   rw[← Go.Deep.add_add,this,hu]
  have hrow: ∀ k:Nat,k≤len→ ∃ xs:List α,xs.length=k∧(∀ x∈xs,ok x)∧ ∀ j p,xs[j]? =some p→ ∃ c,c.length=d.sz∧d.K w p c∧ ∀ i u,c[i]? =some u→w.cell? (a.add (j * d.sz+i))=some u:=by
   intro k
   induction k with
   |zero=>exact fun _=>⟨[],rfl,by simp,by simp⟩
   |succ k ih=>
    intro hk
    obtain⟨xs,h1,h2,h3⟩:=ih (by omega)
    obtain⟨a',ho,c,hcl,hK,hcell⟩:=hel k (by omega)
    refine⟨xs ++ [a'],by simp[h1],fun x hx=> ?_,fun j p hj=> ?_⟩
    ·rcases List.mem_append.1 hx with h|h
     ·exact h2 x h
     ·rw[List.mem_singleton.1 h];exact ho
    ·by_cases hjk:j<xs.length
     ·rw[List.getElem?_append_left hjk] at hj
      exact h3 j p hj
     ·have hjl:=(List.getElem?_eq_some_iff.1 hj).1
      simp at hjl
      have hje:j=k:=by omega
      subst hje
      rw[← h1,List.getElem?_concat_length] at hj
      obtain rfl:=Option.some.inj hj
      exact⟨c,hcl,hK,hcell⟩
  obtain⟨xs,h1,h2,h3⟩:=hrow len (Nat.le_refl _)
  have hmx:len≤9223372036854775807:=by unfold maxLen at hm;omega
  subst h1
  exact⟨xs,⟨some a,cap,rfl,hl,rfl,hmx,fun _=>⟨a,rfl,h3⟩⟩,hmx,h2⟩
theorem opens_iso {P:Program} {t:TypeId} {α β:Type} {d:Kd α} {ok:α→Prop} (h:Opens P t d ok) (f:β→α) (g:α→β) (hfg: ∀ x,f (g x)=x):Opens P t (Kd.iso d f) (fun y=>ok (f y)):=by
 intro H enc w base spare held fuel cs x hx
 obtain⟨a,hK,hok⟩:=h H enc w base spare held fuel cs x hx
 exact⟨g a,by show d.K w (f (g a)) cs;rw[hfg];exact hK,by show ok (f (g a));rw[hfg];exact hok⟩
def OpensFs (P:Program) (fs:List Field) (off:Nat) {α:Type} (d:Kd α) (ok:α→Prop):Prop:=
 ∀ (H:Type) (enc:TypeId × Value→H) (w:World) (base:Nat) (spare:Nat→Bool) (held:Bool) (n:Nat) (cs:List Value),cs.length=off+d.sz→
  (∀ f∈fs, ∃ y,DataW.trod enc P w base spare held n f.type ((cs.drop f.offset).take (P.cellsOf f.type))=some y)→ ∃ a:α,d.K w a (cs.drop off)∧ok a
theorem fs_one {P:Program} {f:Field} {off:Nat} {α:Type} {d:Kd α} {ok:α→Prop} (ho:f.offset=off) (hc:P.cellsOf f.type=d.sz) (h:Opens P f.type d ok):OpensFs P [f] off d ok:=by
 intro H enc w base spare held n cs hl hf
 obtain⟨y,hy⟩:=hf f (by simp)
 rw[ho,hc,List.take_of_length_le (by simp;omega)] at hy
 exact h H enc w base spare held n _ y hy
theorem fs_cons {P:Program} {f:Field} {fs:List Field} {off:Nat} {α β:Type} {d:Kd α} {d':Kd β} {ok:α→Prop} {ok':β→Prop} (ho:f.offset=off) (hc:P.cellsOf f.type=d.sz) (h:Opens P f.type d ok)
  (hr:OpensFs P fs (off+d.sz) d' ok'):OpensFs P (f::fs) off (Kd.pair d d') (fun x=>ok x.1∧ok' x.2):=by
 intro H enc w base spare held n cs hl hf
 have hsz:(Kd.pair d d').sz=d.sz+d'.sz:=rfl
 rw[hsz] at hl
 obtain⟨y,hy⟩:=hf f (by simp)
 rw[ho,hc] at hy
 obtain⟨a,hK,hok⟩:=h H enc w base spare held n _ y hy
 obtain⟨b,hKb,hokb⟩:=hr H enc w base spare held n cs (by omega) (fun f' hf'=>hf f' (List.mem_cons_of_mem _ hf'))
 refine⟨(a,b),⟨_,_,?_,hK,hKb⟩,hok,hokb⟩
 rw[← List.drop_drop]
 exact(List.take_append_drop _ _).symm
theorem opens_struct {P:Program} {t:TypeId} {fs:Array Field} {α:Type} {d:Kd α} {ok:α→Prop} (hs:P.underlying t=some (.struct fs)) (hC:P.cellsOf t=d.sz) (h:OpensFs P fs.toList 0 d ok):Opens P t d ok:=by
 intro H enc w base spare held fuel cs x hx
 obtain⟨xs,n,_,_,hl,hlen,hf⟩:=DataW.trod_struct hs hx
 obtain⟨a,hK,hok⟩:=h H enc w base spare held n cs (by rw[hl,hC,Nat.zero_add]) (fun f hfm=>by
  obtain⟨j,hj⟩:=List.getElem?_of_mem hfm
  have hj':fs[j]? =some f:=by rw[← hj];simp
  have hjl:j<xs.length:=by rw[hlen];exact(Array.getElem?_eq_some_iff.1 hj').1
  have h1:=hf j f hj'
  rw[List.getElem?_eq_getElem hjl] at h1
  exact⟨_,h1⟩)
 exact⟨a,hK,hok⟩
theorem arg_struct {H:Type} {enc:TypeId × Value→H} {P:Program} {w:World} {base b0:Nat} {spare:Nat→Bool} {held:Bool} {r:Reach} {t:TypeId} {fs:Array Field} {v:Value} {dd:DataW H} {p:List MemPlace} {α:Type} {d:Kd α} {ok:α→Prop}
  (hs:P.underlying t=some (.struct fs)) (ho:Opens P t d ok) (hv:Value.okWide P w r b0 t v) (h:DataW.Trod enc P w base spare held t v dd p): ∃ a cs,v= .agg cs∧d.K w a cs.toList∧ok a:=by
 obtain⟨cs,rfl,hsz⟩:=okWide_struct hs hv
 obtain⟨fuel,hf⟩:=h
 obtain⟨a,hK,hok⟩:=ho H enc w base spare held fuel _ _ hf
 exact⟨a,cs,rfl,by simpa [Value.cells] using hK,hok⟩
theorem arg_slice {H:Type} {enc:TypeId × Value→H} {P:Program} {w:World} {base b0:Nat} {spare:Nat→Bool} {held:Bool} {r:Reach} {t e:TypeId} {v:Value} {dd:DataW H} {p:List MemPlace} {α:Type} {d:Kd α} {ok:List α→Prop}
  (hs:P.underlying t=some (.slice e)) (ho:Opens P t (Kd.slice e d) ok) (hv:Value.okWide P w r b0 t v) (h:DataW.Trod enc P w base spare held t v dd p): ∃ A c l,v= .slice A l.length c∧l.length≤c∧d.C w A l.length l∧ok l:=by
 obtain⟨A,len,cap,rfl⟩:=okWide_slice hs hv
 obtain⟨fuel,hf⟩:=h
 obtain⟨l,⟨A',c,he,hlc,hC⟩,hok⟩:=ho H enc w base spare held fuel _ _ hf
 simp[Value.cells] at he
 obtain⟨rfl,rfl,rfl⟩:=he
 exact⟨A,cap,l,rfl,hlc,hC,hok⟩
end Go.Proofs.Ytkcpanpdipmmmaa.Opn
namespace Go.Proofs.Ytkcpanpdipmmmaa.Q
open Go.RowKit Go.Proofs.YtkcpanpdipmmmaaW.PrintWords Go.Proofs.YtkcpanpdipmmmaaW.PrintLast Go.Proofs.YtkcpanpdipmmmaaW.PrintMore Go.Proofs.Ytkcpanpdipmmmaa.P
open Go.Proofs.Ytkcpanpdipmmmaa.H (levelsRes wayP endsErr wayRes wayF wayF_eq StepsOk Right right_of stepsR bfP bfL dOf nodes wayL frP toP esP way_nat bf_same Fd bfP_upto dOf_len dOf_get fnd fnd_some fnd_none fnd_of backL_spec lv_lt esP_fr esP_to steps_ev)
theorem stepsOk {l:List S74} {F:List Int} {n:Nat} (hr:Right l F n):StepsOk l n (stepsR l F F.length):=
 ⟨hr.ends,hr.arcs,fun s hs=>H.stepsR_of hr s hs,by have:=H.stepsR_len l F F.length;have:=hr.len;have:=hr.arcs;omega⟩
theorem way_same {l:List S74} {F:List Int} {n:Nat} (hr:Right l F n) (s v:Nat):wayRes l (stepsR l F F.length) n s (v:Int)=(wayP l F n s v,decide (v∈nodes (bfP l F n s))):=by
 rw[way_nat,bf_same hr]
 unfold wayP
 by_cases h:v∈nodes (bfP l F n s)
 ·rw[if_pos h,if_pos h,decide_eq_true h]
 ·rw[if_neg h,if_neg h,decide_eq_false h]
theorem way_ref_eq {l:List S74} {F:List Int} {n:Nat} (hr:Right l F n) {s:Nat} (hs:s<n) (b:Bool) (v:Nat):ebbtideref08_Way.f (n:Int) b l (s:Int) (v:Int) (stepsR l F F.length)=some (wayP l F n s v,decide (v∈nodes (bfP l F n s))):=by
 unfold ebbtideref08_Way.f
 rw[wayF_eq (stepsOk hr) hs hr.fifty,way_same hr]
theorem wayP_len {l:List S74} {F:List Int} {n:Nat} (hr:Right l F n) {s:Nat} (hs:s<n) {v:Nat} (hv:v<n) (h:v∈nodes (bfP l F n s)):((wayP l F n s v).length:Int)=(dOf n (bfP l F n s)).getD v 0:=by
 obtain⟨x,hx,rfl⟩:=List.mem_map.1 h
 have hu:=(bfP_upto hr hs).fds
 unfold wayP
 rw[if_pos h]
 unfold wayL
 rw[List.length_reverse,(backL_spec hu esP_fr _ hx (Nat.le_of_lt (lv_lt hu hx))).1,H.dOf_mem hu.nodup hx 0 hv]
theorem levels_l0 {l:List S74} {F:List Int} {n:Nat} (hr:Right l F n) {s:Nat} (hs:s<n) (b:Bool) (d:Nat): ∀ v:Nat,v+d=n→
  Ev (fun k=>ebbtideref08_Levels.l0 k (s:Int) (stepsR l F F.length) ((dOf n (bfP l F n s)).take v) (v:Int) (n:Int) b l) (dOf n (bfP l F n s),0):=by
 have hn:=hr.fifty
 induction d with
 |zero=>
  intro v hv
  refine Ev.succ ?_;simp only[ebbtideref08_Levels.l0]
  refine Ev.neg (by omega) ?_
  exact Ev.done (by rw[List.take_of_length_le (by rw[dOf_len];omega)])
 |succ d ih=>
  intro v hv
  have hvn:v<n:=by omega
  have hg:=dOf_get (bfP l F n s) 0 hvn
  have htk:(dOf n (bfP l F n s)).take (v+1)=(dOf n (bfP l F n s)).take v ++ [(dOf n (bfP l F n s)).getD v 0]:=by
   rw[List.take_add_one,List.getElem?_eq_getElem (by rw[dOf_len];exact hvn),List.getD_eq_getElem?_getD,List.getElem?_eq_getElem (by rw[dOf_len];exact hvn)]
   rfl
  have hnext:=ih (v+1) (by omega)
  rw[htk] at hnext
  refine Ev.succ ?_;simp only[ebbtideref08_Levels.l0]
  refine Ev.pos (by omega) ?_
  refine Ev.call (way_ref_eq hr hs b v) ?_
  rw[wrap_succ (n:=n) (by omega) (by omega)]
  by_cases hm:v∈nodes (bfP l F n s)
  ·refine Ev.pos (by simpa using hm) ?_
   refine Ev.pos (by rw[List.length_take,dOf_len];omega) ?_
   rw[← wayP_len hr hs hvn hm] at hnext
   exact hnext
  ·refine Ev.neg (by simpa using hm) ?_
   refine Ev.pos (by rw[List.length_take,dOf_len];omega) ?_
   rw[hg,fnd_none.2 hm] at hnext
   exact hnext
theorem ref_levels_ev (n:Int) (b:Bool) (l:List S74) (F:List Int) (s:Int):Ev (fun k=>ebbtideref08_Levels.f k n b l F s) (levelsRes n l F s):=by
 unfold ebbtideref08_Levels.f levelsRes
 refine Ev.bind (ref_asked_ev n b l F) ?_
 by_cases h0:askErr n l F=0
 ·rw[if_pos h0]
  refine Ev.pos h0 ?_
  obtain⟨n0,rfl,hr⟩:=right_of h0
  refine Ev.call (node_eq n0 b l s) ?_
  by_cases hs:0≤s∧s<(n0:Int)
  ·rw[if_pos hs]
   refine Ev.pos (decide_eq_true hs) ?_
   obtain⟨s0,rfl⟩: ∃ s0:Nat,s=s0:=⟨s.toNat,by omega⟩
   refine Ev.bind (steps_ev hr _ b) ?_
   rw[Int.toNat_natCast,Int.toNat_natCast]
   exact levels_l0 hr (by omega) b n0 0 (by omega)
  ·rw[if_neg hs]
   refine Ev.neg (by simpa using hs) ?_
   exact Ev.now _
 ·rw[if_neg h0]
  refine Ev.neg h0 ?_
  exact Ev.now _
theorem levels_eq (n:Int) (b:Bool) (l:List S74) (F:List Int) (s:Int):level_Levels.f n b l F s=some (levelsRes n l F s):=rfl
theorem levelsRes_len (n:Int) (l:List S74) (F:List Int) (s:Int):(levelsRes n l F s).1.length≤50:=by
 unfold levelsRes
 split
 ·rename_i h0
  split
  ·obtain⟨n0,rfl,hr⟩:=right_of h0
   have:=hr.fifty
   rw[Int.toNat_natCast]
   show (dOf n0 _).length≤50
   rw[dOf_len];omega
  ·simp
 ·simp
end Go.Proofs.Ytkcpanpdipmmmaa.Q
namespace Go.Proofs.Ytkcpanpdipmmmaa.Q
open Go.RowKit Go.Proofs.YtkcpanpdipmmmaaW.PrintWords Go.Proofs.YtkcpanpdipmmmaaW.PrintLast Go.Proofs.YtkcpanpdipmmmaaW.PrintMore Go.Proofs.Ytkcpanpdipmmmaa.P
open Go.Proofs.Ytkcpanpdipmmmaa.H (endsErr Right right_of StepOf stRoom IsFlow leastR pushW stRoom_in)
theorem flowOk_of {l:List S74} {F:List Int} {n:Nat} (hr:Right l F n):FlowOk l F:=by
 refine⟨hr.len,fun i hi=> ?_⟩
 have:=hr.nums i (by rw[← hr.len];exact hi)
 rw[rd_nat]
 exact⟨this.2.2.1,this.2.2.2.1⟩
end Go.Proofs.Ytkcpanpdipmmmaa.Q
namespace Go.Proofs.Ytkcpanpdipmmmaa.Q
open Go.RowKit Go.Proofs.YtkcpanpdipmmmaaW.PrintWords Go.Proofs.YtkcpanpdipmmmaaW.PrintLast Go.Proofs.YtkcpanpdipmmmaaW.PrintMore Go.Proofs.Ytkcpanpdipmmmaa.P
open Go.Proofs.Ytkcpanpdipmmmaa.H (endsErr Right right_of StepOf stRoom IsFlow MaxF leastR pushW fillF bfP nodes wayP stepsR steps_ev netG dOf frP toP)
theorem max_fill {l:List S74} {n s t:Nat} (hr:Right l (List.replicate l.length 0) n) (hs:s<n) (ht:t<n) (hst:s≠t):MaxF l (fillF l n s t) n s t:=H.fill_max hr hs ht hst
theorem fill_eq {n:Int} {l:List S74} {s t:Int} (b:Bool) (h:endsErr n l s t=0):maxflow_Fill.f n b l s t=some (fillF l n.toNat s.toNat t.toNat):=by unfold maxflow_Fill.f;rw[if_pos h]
end Go.Proofs.Ytkcpanpdipmmmaa.Q
namespace Go.Proofs.Ytkcpanpdipmmmaa.Q
open Go.RowKit Go.Proofs.YtkcpanpdipmmmaaW.PrintWords Go.Proofs.YtkcpanpdipmmmaaW.PrintLast Go.Proofs.YtkcpanpdipmmmaaW.PrintMore Go.Proofs.Ytkcpanpdipmmmaa.P
open Go.Proofs.Ytkcpanpdipmmmaa.H (endsErr Right right_of IsFlow MaxF fillF bfP nodes dOf dOf_len dOf_get fnd fnd_none levelsRes capR capR_cons sideP sideP_iff behindF)
def sd (S:List Bool) (v:Int):Bool:=rdOf false S v
theorem takes_l0 (m:Int) (l:List S74) (S:List Bool) (hn:NetOk m l) (hS:(S.length:Int)=m) (d:Nat): ∀ (i:Nat) (acc:Int),i+d=l.length→0≤acc→acc≤1048576 * i→
  Ev (fun k=>mincut_takes.l0 k S acc l (l.length:Int) (i:Int)) (acc+capR (sd S) (l.drop i)):=by
 have hl:=hn.len
 induction d with
 |zero=>
  intro i acc hi h0 h1
  refine Ev.succ ?_;simp only[mincut_takes.l0]
  refine Ev.neg (by omega) ?_
  rw[List.drop_of_length_le (by omega)]
  exact Ev.done (by simp[capR])
 |succ d ih=>
  intro i acc hi h0 h1
  have ha:=hn.at_ (i:=(i:Int)) (by omega) (by omega)
  have a0:=ha.f0
  have a1:=ha.f1
  have a2:=ha.f2
  have a3:=ha.h0
  have a4:=ha.h1
  have a5:=ha.h2
  rw[drop_getD l i z74 (by omega), ← rdArc_nat,capR_cons]
  refine Ev.succ ?_;simp only[mincut_takes.l0]
  refine Ev.pos (by omega) ?_
  refine Ev.pos (by omega) ?_
  refine Ev.pos (by omega) ?_
  refine Ev.pos (by omega) ?_
  refine Ev.pos (by omega) ?_
  rw[wrap_succ (n:=l.length) (by omega) (by omega)]
  refine Ev.ite (fun g=> ?_) (fun g=> ?_)
  ·have g1:sd S (rd_T74 l (i:Int)).f0=true:=g
   refine Ev.pos (by omega) ?_
   refine Ev.pos (by omega) ?_
   refine Ev.ite (fun g2=> ?_) (fun g2=> ?_)
   ·have g3:sd S (rd_T74 l (i:Int)).f1=true:=g2
    rw[g1,g3,if_neg (by decide)]
    exact Ev.eq (ih (i+1) _ (by omega) (by omega) (by omega)) (by omega)
   ·have g3:sd S (rd_T74 l (i:Int)).f1=false:=Bool.eq_false_iff.2 g2
    rw[g1,g3,if_pos (by decide),wrap_id (by omega) (by omega)]
    exact Ev.eq (ih (i+1) _ (by omega) (by omega) (by omega)) (by omega)
  ·have g1:sd S (rd_T74 l (i:Int)).f0=false:=Bool.eq_false_iff.2 g
   rw[g1,if_neg (by simp)]
   exact Ev.eq (ih (i+1) _ (by omega) (by omega) (by omega)) (by omega)
theorem takes_ev (n m:Int) (b:Bool) (l:List S74) (S:List Bool) (hn:NetOk m l) (hS:(S.length:Int)=m):Ev (fun k=>mincut_takes.f k n b l S) (capR (sd S) l):=by
 unfold mincut_takes.f
 exact Ev.eq (takes_l0 m l S hn hS l.length 0 0 (by omega) (by omega) (by omega)) (by rw[List.drop_zero];omega)
theorem ref_takes_l0 (n m:Int) (b:Bool) (l:List S74) (S:List Bool) (hn:NetOk m l) (hS:(S.length:Int)=m) (d:Nat): ∀ (i:Nat) (acc:Int),i+d=l.length→0≤acc→acc≤1048576 * i→
  Ev (fun k=>ebbtideref10_Takes.l0 k S acc (i:Int) n b l) (acc+capR (sd S) (l.drop i)):=by
 have hl:=hn.len
 induction d with
 |zero=>
  intro i acc hi h0 h1
  refine Ev.succ ?_;simp only[ebbtideref10_Takes.l0]
  refine Ev.neg (by omega) ?_
  rw[List.drop_of_length_le (by omega)]
  exact Ev.done (by simp[capR])
 |succ d ih=>
  intro i acc hi h0 h1
  have ha:=hn.at_ (i:=(i:Int)) (by omega) (by omega)
  have a0:=ha.f0
  have a1:=ha.f1
  have a2:=ha.f2
  have a3:=ha.h0
  have a4:=ha.h1
  have a5:=ha.h2
  rw[drop_getD l i z74 (by omega), ← rdArc_nat,capR_cons]
  refine Ev.succ ?_;simp only[ebbtideref10_Takes.l0]
  refine Ev.pos (by omega) ?_
  refine Ev.pos (by omega) ?_
  refine Ev.pos (by omega) ?_
  refine Ev.pos (by omega) ?_
  rw[wrap_succ (n:=l.length) (by omega) (by omega)]
  refine Ev.ite (fun g=> ?_) (fun g=> ?_)
  ·have g1:sd S (rd_T74 l (i:Int)).f0=true:=g
   refine Ev.pos (by omega) ?_
   refine Ev.pos (by omega) ?_
   refine Ev.ite (fun g2=> ?_) (fun g2=> ?_)
   ·have g3:sd S (rd_T74 l (i:Int)).f1=true:=g2
    rw[g1,g3,if_neg (by decide)]
    exact Ev.eq (ih (i+1) _ (by omega) (by omega) (by omega)) (by omega)
   ·have g3:sd S (rd_T74 l (i:Int)).f1=false:=Bool.eq_false_iff.2 g2
    rw[g1,g3,if_pos (by decide),wrap_id (by omega) (by omega)]
    exact Ev.eq (ih (i+1) _ (by omega) (by omega) (by omega)) (by omega)
  ·have g1:sd S (rd_T74 l (i:Int)).f0=false:=Bool.eq_false_iff.2 g
   rw[g1,if_neg (by simp)]
   exact Ev.eq (ih (i+1) _ (by omega) (by omega) (by omega)) (by omega)
theorem ref_takes_ev (n m:Int) (b:Bool) (l:List S74) (S:List Bool) (hn:NetOk m l) (hS:(S.length:Int)=m):Ev (fun k=>ebbtideref10_Takes.f k n b l S) (capR (sd S) l):=by
 unfold ebbtideref10_Takes.f
 exact Ev.eq (ref_takes_l0 n m b l S hn hS l.length 0 0 (by omega) (by omega) (by omega)) (by rw[List.drop_zero];omega)
def capaR (n:Int) (l:List S74) (S:List Bool):Int × Int:=if netErr n l=0 then(if (S.length:Int)=n then(capR (sd S) l,0) else(0,1)) else(0,netErr n l)
theorem capacity_ev (n:Int) (b:Bool) (l:List S74) (S:List Bool):Ev (fun k=>mincut_Capacity.f k n b l S) (capaR n l S):=by
 unfold mincut_Capacity.f capaR
 refine Ev.bind (check_ev n b l) ?_
 refine Ev.ite (fun h=> ?_) (fun h=> ?_)
 ·rw[if_pos h]
  refine Ev.ite (fun g=> ?_) (fun g=> ?_)
  ·rw[if_pos g]
   exact Ev.bind (takes_ev n n b l S (netErr_ok h) g) (Ev.now _)
  ·rw[if_neg g];exact Ev.now _
 ·rw[if_neg h];exact Ev.now _
theorem ref_capacity_ev (n:Int) (b:Bool) (l:List S74) (S:List Bool):Ev (fun k=>ebbtideref10_Capacity.f k n b l S) (capaR n l S):=by
 unfold ebbtideref10_Capacity.f capaR
 refine Ev.bind (ref_check_ev n b l) ?_
 refine Ev.ite (fun h=> ?_) (fun h=> ?_)
 ·rw[if_pos h]
  refine Ev.ite (fun g=> ?_) (fun g=> ?_)
  ·rw[if_pos g]
   exact Ev.bind (ref_takes_ev n n b l S (netErr_ok h) g) (Ev.now _)
  ·rw[if_neg g];exact Ev.now _
 ·rw[if_neg h];exact Ev.now _
def sideR (n:Int) (l:List S74) (F:List Int) (s:Int):List Bool × Int:=if (levelsRes n l F s).2=0 then(farB (levelsRes n l F s).1,0) else([],(levelsRes n l F s).2)
theorem side_ev (n:Int) (b:Bool) (l:List S74) (F:List Int) (s:Int):Ev (fun k=>mincut_Side.f k n b l F s) (sideR n l F s):=by
 unfold mincut_Side.f sideR
 refine Ev.call (levels_eq n b l F s) ?_
 refine Ev.ite (fun h=> ?_) (fun h=> ?_)
 ·rw[if_pos h]
  exact Ev.bind (reached_ev _ (by have:=levelsRes_len n l F s;omega)) (Ev.now _)
 ·rw[if_neg h];exact Ev.now _
theorem ref_side_l0 (d:List Int) (hd:d.length≤1000000) (m:Nat): ∀ i:Nat,i+m=d.length→
  Ev (fun k=>ebbtideref10_Side.l0 k d (farB (d.take i)) (i:Int)) (farB d,0):=by
 induction m with
 |zero=>
  intro i hi
  refine Ev.succ ?_;simp only[ebbtideref10_Side.l0]
  refine Ev.neg (by omega) ?_
  exact Ev.done (by rw[List.take_of_length_le (by omega)])
 |succ m ih=>
  intro i hi
  have hnx:=ih (i+1) (by omega)
  have e:farB (d.take i) ++ [decide (rd d (i:Int)≥0)]=farB (d.take (i+1)):=by
   rw[rd_nat,List.getD_eq_getElem?_getD,List.take_add_one,List.getElem?_eq_getElem (by omega)]
   unfold farB
   rw[List.map_append]
   rfl
  rw[← e] at hnx
  refine Ev.succ ?_;simp only[ebbtideref10_Side.l0]
  refine Ev.pos (by omega) ?_
  refine Ev.pos (by omega) ?_
  refine Ev.pos (by unfold farB;rw[List.length_map,List.length_take];omega) ?_
  rw[wrap_succ (n:=d.length) (by omega) (by omega)]
  exact hnx
theorem ref_side_ev (n:Int) (b:Bool) (l:List S74) (F:List Int) (s:Int):Ev (fun k=>ebbtideref10_Side.f k n b l F s) (sideR n l F s):=by
 unfold ebbtideref10_Side.f sideR
 refine Ev.bind (ref_levels_ev n b l F s) ?_
 refine Ev.ite (fun h=> ?_) (fun h=> ?_)
 ·rw[if_pos h]
  have h_:=levelsRes_len n l F s
  exact ref_side_l0 _ (by omega) (levelsRes n l F s).1.length 0 (by omega)
 ·rw[if_neg h];exact Ev.now _
theorem same10_l0 (a:List Bool) (hl:a.length≤1000000) (d:Nat): ∀ i:Nat,i+d=a.length→Ev (fun k=>ebbtideref10_Same.l0 k a a (i:Int)) true:=by
 induction d with
 |zero=>
  intro i hi
  refine Ev.succ ?_;simp only[ebbtideref10_Same.l0]
  refine Ev.neg (by omega) ?_
  exact Ev.now _
 |succ d ih=>
  intro i hi
  refine Ev.succ ?_;simp only[ebbtideref10_Same.l0]
  refine Ev.pos (by omega) ?_
  refine Ev.pos (by omega) ?_
  refine Ev.pos (by omega) ?_
  refine Ev.neg (by simp) ?_
  rw[wrap_succ (n:=a.length) (by omega) (by omega)]
  exact ih (i+1) (by omega)
theorem same10_ev (a:List Bool) (hl:a.length≤1000000):Ev (fun k=>ebbtideref10_Same.f k a a) true:=by
 unfold ebbtideref10_Same.f
 refine Ev.pos rfl ?_
 exact same10_l0 a hl a.length 0 (by omega)
theorem behind_len (l:List S74) (F:List Int) (n s:Nat):(behindF l F n s).length=n:=by unfold behindF;rw[List.length_map,dOf_len]
theorem behind_get {l:List S74} {F:List Int} {n s v:Nat} (hv:v<n):sd (behindF l F n s) (v:Int)=decide (v∈nodes (bfP l F n s)):=by
 unfold sd rdOf behindF
 rw[Int.toNat_natCast,List.getD_eq_getElem?_getD,List.getElem?_map]
 have hlt:v<(dOf n (bfP l F n s)).length:=by rw[dOf_len];exact hv
 have h:=H.dOf_neg (bfP l F n s) 0 hv
 rw[List.getD_eq_getElem?_getD,List.getElem?_eq_getElem hlt] at h
 rw[List.getElem?_eq_getElem hlt]
 simp only[Option.getD_some] at h
 show decide ((dOf n (bfP l F n s))[v]≥0)=_
 by_cases hm:v∈nodes (bfP l F n s)
 ·rw[decide_eq_true hm,decide_eq_true]
  have: ¬ (dOf n (bfP l F n s))[v]<0:=fun g=>h.1 g hm
  omega
 ·rw[decide_eq_false hm,decide_eq_false]
  have:=h.2 hm
  omega
theorem behind_ext {S T:List Bool} {n:Nat} (h1:S.length=n) (h2:T.length=n) (h: ∀ v:Nat,v<n→sd S v=sd T v):S=T:=by
 apply List.ext_getElem (by omega)
 intro i g1 g2
 have:=h i (by omega)
 unfold sd rdOf at this
 rw[Int.toNat_natCast,List.getD_eq_getElem?_getD,List.getD_eq_getElem?_getD,List.getElem?_eq_getElem g1,List.getElem?_eq_getElem g2] at this
 simpa using this
theorem behind_same {l:List S74} {F G:List Int} {n s t:Nat} (h:MaxF l F n s t) (g:MaxF l G n s t) (hs:s<n) (hst:s≠t):behindF l F n s=behindF l G n s:=by
 refine behind_ext (behind_len _ _ _ _) (behind_len _ _ _ _) fun v hv=> ?_
 rw[behind_get hv,behind_get hv]
 exact decide_eq_decide.2 (H.side_same h g hs hst v)
theorem capR_congr {R Q:Int→Bool} {n:Int} : ∀ {l:List S74},(∀ a∈l,ArcOk n a)→(∀ v:Int,0≤v→v<n→R v=Q v)→capR R l=capR Q l
 |[],_,_=>rfl
 |a::l,ha,h=>by
  have h1:=ha a List.mem_cons_self
  rw[capR_cons,capR_cons,h _ h1.f0 h1.h0,h _ h1.f1 h1.h1,capR_congr (fun b hb=>ha b (List.mem_cons_of_mem _ hb)) h]
theorem behind_cap {l:List S74} {F:List Int} {n s t:Nat} (hn:NetOk n l) (h:MaxF l F n s t) (hs:s<n) (hst:s≠t):capR (sd (behindF l F n s)) l=bal l F s:=by
 rw[(H.max_value h hs hst).1]
 refine capR_congr hn.arcs fun v h0 h1=> ?_
 obtain⟨v,rfl⟩: ∃ v':Nat,v=v':=⟨v.toNat,by omega⟩
 rw[behind_get (by omega)]
 unfold sideP
 rw[Int.toNat_natCast]
 exact decide_eq_decide.2 ⟨fun g=>⟨by omega,g⟩,fun g=>g.2⟩
def leastS (n:Int) (l:List S74) (s t:Int):List Bool × Int × Int:=
 if endsErr n l s t=0 then(behindF l (fillF l n.toNat s.toNat t.toNat) n.toNat s.toNat,bal l (fillF l n.toNat s.toNat t.toNat) s,0) else([],0,endsErr n l s t)
theorem leastS_nat {l:List S74} {n s t:Nat} (h:endsErr (n:Int) l (s:Int) (t:Int)=0):leastS n l s t=(behindF l (fillF l n s t) n s,bal l (fillF l n s t) s,0):=by
 unfold leastS;rw[if_pos h];simp only[Int.toNat_natCast]
theorem leastS_no {l:List S74} {n s t:Int} (h: ¬ endsErr n l s t=0):leastS n l s t=([],0,endsErr n l s t):=by unfold leastS;rw[if_neg h]
theorem least_ev (n:Int) (b:Bool) (l:List S74) (s t:Int):Ev (fun k=>mincut_Least.f k n b l s t) (leastS n l s t):=by
 unfold mincut_Least.f
 refine Ev.bind (ends_ev n b l s t) ?_
 by_cases h:endsErr n l s t=0
 ·refine Ev.pos h ?_
  refine Ev.call (fill_eq b h) ?_
  obtain⟨n0,s0,t0,rfl,rfl,rfl,hs,ht,hst,hn,hr⟩:=ends_zero h
  rw[leastS_nat h]
  simp only[Int.toNat_natCast]
  have hM:=max_fill hr hs ht hst
  have ha:=ask_of hn (flowOk_of hM.flow.right)
  have hB:mincut_Behind.f (n0:Int) b l (fillF l n0 s0 t0) (s0:Int)=some (behindF l (fillF l n0 s0 t0) n0 s0):=by
   unfold mincut_Behind.f
   rw[if_pos ⟨ha,by omega,by omega⟩,Int.toNat_natCast,Int.toNat_natCast]
  refine Ev.call hB ?_
  refine Ev.bind (takes_ev n0 n0 b l _ hn (by rw[behind_len])) ?_
  exact Ev.done (by rw[behind_cap hn hM hs hst])
 ·rw[leastS_no h]
  refine Ev.neg h ?_
  exact Ev.now _
end Go.Proofs.Ytkcpanpdipmmmaa.Q
namespace Go.Proofs.Ytkcpanpdipmmmaa.Q
open Go.RowKit Go.Proofs.YtkcpanpdipmmmaaW.PrintWords Go.Proofs.YtkcpanpdipmmmaaW.PrintLast Go.Proofs.YtkcpanpdipmmmaaW.PrintMore Go.Proofs.Ytkcpanpdipmmmaa.P
open Go.Proofs.Ytkcpanpdipmmmaa.H (endsErr Right right_of IsFlow MaxF fillF bfP nodes dOf dOf_len levelsRes capR capR_cons sideP sideP_iff behindF)
def two10:List S74:=[(⟨0,1,3,0⟩:S74),(⟨1,2,1,0⟩:S74)]
theorem two10_right:Right two10 (List.replicate two10.length 0) 3:=by
 obtain⟨n0,h1,h2⟩:=right_of (n:=3) (l:=two10) (F:=List.replicate two10.length 0) (by decide +kernel)
 obtain rfl:n0=3:=by omega
 exact h2
theorem two10_max:MaxF two10 (fillF two10 3 0 2) 3 0 2:=max_fill two10_right (by decide) (by decide) (by decide)
theorem two10_top:MaxF two10 [1,1] 3 0 2:=by
 obtain⟨n0,h1,h2⟩:=right_of (n:=3) (l:=two10) (F:=[1,1]) (by decide +kernel)
 obtain rfl:n0=3:=by omega
 refine⟨⟨h2,fun v a b c d=> ?_⟩,by decide +kernel⟩
 obtain rfl:v=1:=by omega
 decide +kernel
theorem awake10_ev:Ev (fun k=>ebbtidelaw10_awake.f k) true:=by
 have e1:endsErr 3 two10 0 2=0:=by decide +kernel
 have v1:bal two10 (fillF two10 3 0 2) 0=1:=by
  have h_:=H.max_same (s:=0) (t:=2) two10_max two10_top (by decide) (by decide)
  have h_2:bal two10 [1,1] ((0:Nat):Int)=1:=by decide +kernel
  rw[h_2] at h_
  exact h_
 have v2:behindF two10 (fillF two10 3 0 2) 3 0=[true,true,false]:=by
  rw[behind_same (s:=0) (t:=2) two10_max two10_top (by decide) (by decide)]
  decide +kernel
 have m1:leastS 3 two10 0 2=([true,true,false],1,0):=by
  have h_:=leastS_nat (n:=3) (l:=two10) (s:=0) (t:=2) e1
  have h_2:leastS 3 two10 0 2=(behindF two10 (fillF two10 3 0 2) 3 0,bal two10 (fillF two10 3 0 2) 0,0):=h_
  rw[h_2,v1,v2]
 have m2:capaR 3 two10 [true,false,false]=(3,0):=by decide +kernel
 unfold ebbtidelaw10_awake.f
 refine Ev.let_ ?_
 refine Ev.bind (least_ev 3 false two10 0 2) ?_
 refine Ev.bind (capacity_ev 3 false two10 _) ?_
 rw[m1,m2]
 refine Ev.pos rfl ?_
 refine Ev.pos rfl ?_
 refine Ev.bind (same10_ev [true,true,false] (by decide)) ?_
 refine Ev.pos rfl ?_
 refine Ev.pos rfl ?_
 exact Ev.now _
theorem sideR_len (n:Int) (l:List S74) (F:List Int) (s:Int):(sideR n l F s).1.length≤1000000:=by
 have h_:=levelsRes_len n l F s
 unfold sideR
 split
 ·show (farB _).length≤_;unfold farB;rw[List.length_map];omega
 ·simp
theorem mincutSides_ev (n:Int) (b:Bool) (l:List S74) (F:List Int) (s:Int) (S:List Bool):Ev (fun k=>ebbtidelaw10_MincutSides.f k n b l F s S) true:=by
 unfold ebbtidelaw10_MincutSides.f
 refine Ev.bind (side_ev n b l F s) ?_
 refine Ev.bind (ref_side_ev n b l F s) ?_
 refine Ev.bind (capacity_ev n b l S) ?_
 refine Ev.bind (ref_capacity_ev n b l S) ?_
 refine Ev.bind awake10_ev ?_
 refine Ev.pos rfl ?_
 refine Ev.bind (same10_ev _ (sideR_len n l F s)) ?_
 refine Ev.pos rfl ?_
 refine Ev.pos rfl ?_
 refine Ev.pos rfl ?_
 exact Ev.done (beq_self_eq_true _)
end Go.Proofs.Ytkcpanpdipmmmaa.Q
