/- What the law's row needs of these texts, taken out of them by wip/tool/mini.py: P178 P179 P92 P93 P95 P180 P114 P119. -/
import Derived.Test.YtkcpanpdipmmmaaMellffm
import Derived.Test.YtkcpanpdipmmmaaMblgdcn
import Derived.Test.YtkcpanpdipmmmaaMiildjg
set_option linter.unusedVariables false
set_option linter.unusedSimpArgs false
namespace Go.Proofs.Ytkcpanpdipmmmaa.P
open Go.RowKit Go.Proofs.YtkcpanpdipmmmaaW.PrintWords Go.Proofs.YtkcpanpdipmmmaaW.PrintLast Go.Proofs.YtkcpanpdipmmmaaW.PrintMore
attribute [local go_sem] max2_int min2_int max_two min_two max_three min_three max_four min_four
def span_Best.f (k:Nat) (a0_0:Int) (a0_1:Bool) (l0_2:List (S74)) (a1:Int) (a2:Int) (a3:Int):Option (List Int × Int × Int):=(span_Asked.f k a0_0 a0_1 l0_2 a1 a2 a3).bind fun t765=>(if t765=0 then((span_Fill.f a0_0 a0_1 l0_2 a1 a2 a3).bind fun bt766=>((maxflow_Value.f k a0_0 a0_1 l0_2 a1 bt766.1).bind fun t778=>((span_paid.f k a0_0 a0_1 l0_2 bt766.1).bind fun t779=>(some (bt766.1,wrap64 ((wrap64 ((wrap64 (a3+1)) * t778)) - t779),0))))) else(some (([]:List Int),0,t765)))
def span_Best.T5:Bool × List (List Nat × List Nat):=(true,[([],[]),([],[]),([1],[1]),([],[]),([],[]),([],[]),([3,4,5],[3,4,5]),([2,6],[2,6]),([],[]),([],[]),([8,9,6],[8,9]),([7,10],[7,10]),([0,10,0,5,9],[0,5,9]),([11,12,0,1,2,3,4,5,6,7,8,9,10,11,12],[11]),([13,0,1,2,3,4,5,6,7,8,9,10,11,12,13],[])])
def span_Best.B5:List Nat:=[0,0,2,0,0,0,56,126,0,0,888,2046,1913,8191,16383]
theorem span_Best.tab5:rtab .any (opsOf Try.f69 5)=span_Best.T5:=by kernel_rfl
theorem span_Best.bits5:waitsOk span_Best.T5.2 span_Best.B5=true:=by kernel_rfl
set_option maxHeartbeats 8000000 in
set_option maxRecDepth 100000 in
theorem span_Best.calls (k:Nat) (a0_0:Int) (a0_1:Bool) (A0_2:Option Addr) (c0_2:Nat) (l0_2:List (S74)) (a1:Int) (a2:Int) (a3:Int) (r1:List Int) (r2:Int) (r3:Int) (w:World) (hr0_2:Kd.C k74 w A0_2 l0_2.length l0_2) (hc0_2:l0_2.length≤c0_2) (h:span_Best.f k a0_0 a0_1 l0_2 a1 a2 a3=some (r1,r2,r3)):
  Calls Try.prog 69 #[.agg #[.int .i64 a0_0, .bool a0_1, .slice A0_2 l0_2.length c0_2], .int .i64 a1, .int .i64 a2, .int .i64 a3] w fun e w'=> ∃ v0_:Value,e= .returned (.tuple #[v0_, .int .i64 r2, .int .i64 r3])∧Kd.R (Kd.int .i64) 3 w' w.heap.size (fun _=>True) v0_ r1∧Below w.heap.size w w':=by
 have hu24:=Try.underlying24
 have HR0_2:=Aside0.mk hr0_2
 have HC0_2:=Aside0.mk hc0_2
 clear hr0_2 hc0_2
 have HB:=Aside0.mk (Below.refl w.heap.size w)
 have H:((span_Asked.f k a0_0 a0_1 l0_2 a1 a2 a3).bind fun t765=>(if t765=0 then((span_Fill.f a0_0 a0_1 l0_2 a1 a2 a3).bind fun bt766=>((maxflow_Value.f k a0_0 a0_1 l0_2 a1 bt766.1).bind fun t778=>((span_paid.f k a0_0 a0_1 l0_2 bt766.1).bind fun t779=>(some (bt766.1,wrap64 ((wrap64 ((wrap64 (a3+1)) * t778)) - t779),0))))) else(some (([]:List Int),0,t765))))=some (r1,r2,r3):=h
 clear h
 replace H:=Option.bind_eq_some_iff.mp H
 obtain⟨t765,A50,H⟩:=H
 replace H:(if t765=0 then((span_Fill.f a0_0 a0_1 l0_2 a1 a2 a3).bind fun bt766=>((maxflow_Value.f k a0_0 a0_1 l0_2 a1 bt766.1).bind fun t778=>((span_paid.f k a0_0 a0_1 l0_2 bt766.1).bind fun t779=>(some (bt766.1,wrap64 ((wrap64 ((wrap64 (a3+1)) * t778)) - t779),0))))) else(some (([]:List Int),0,t765)))=some (r1,r2,r3):=H
 have A5:=Aside0.mk A50
 clear A50
 by_cases c6:t765=0
 rotate_left
 ·rw[if_neg c6] at H
  have c6b0:(t765 == 0)=false:=beq_eq_false_iff_ne.mpr c6
  have c6b1:(t765 != 0)=true:=bne_iff_ne.mpr c6
  simp only[Option.some.injEq,Prod.mk.injEq] at H
  obtain⟨rfl,rfl,rfl⟩:=H
  go_enter Try.func69,Try.ntmps69
  go_wp2_with (first|((with_reducible refine gate_dst (N:=4) rfl ?_);refine box_event ?hg (N:=4) ?hd (cs:= #[.int .i64 a0_0, .bool a0_1, .slice A0_2 l0_2.length c0_2]) (t:=24) ?hr ?_;(case hd=>rfl);(case hg=>rfl);(case hr=>first|(go_simp;done)|(go_simp;rfl));intro gb764 hg w19 hbox hb;have n0_:=Aside0.mk (below_step (by repeat(first|(with_reducible first|exact HB.out|apply below_alloc|apply pw_below_drewN|apply below_drew1)|exact HB.out)) hb);have n1_:=Aside0.mk (hbox);have n2_:=Aside0.mk ((by rw[hg];exact(below_size (by repeat(first|(with_reducible first|exact HB.out|apply below_alloc|apply pw_below_drewN|apply below_drew1)|exact HB.out))):w.heap.size≤gb764));have n3_:=Aside0.mk ((by rw[hg];exact(below_size (by repeat(first|(with_reducible first|exact HB.out|apply below_alloc|apply pw_below_drewN|apply below_drew1)|exact HB.out))):w.heap.size≤gb764));clear HB;have HB:=n0_;have BK764:=n1_;have GW764:=n2_;have GE764:=n3_;clear n0_ n1_ n2_ n3_;clear hb hbox hg;have hcz20_0:w19.cell? ⟨gb764,0,none⟩=some (.int .i64 a0_0):=(blk_cell BK764.out 0).trans rfl;have hcz20_1:w19.cell? ⟨gb764,1,none⟩=some (.bool a0_1):=(blk_cell BK764.out 1).trans rfl;have hcz20_2:w19.cell? ⟨gb764,2,none⟩=some (.slice A0_2 l0_2.length c0_2):=(blk_cell BK764.out 2).trans rfl;have hfz20_0:=blk_frozen BK764.out 0;have hfz20_1:=blk_frozen BK764.out 1;have hfz20_2:=blk_frozen BK764.out 2)|((with_reducible refine gate_callee (f:=114) rfl ?_);refine goesL_ (some 15) rfl rfl Try.func114 (by kernel_rfl) rfl #[.agg #[.int .i64 a0_0, .bool a0_1, .slice A0_2 l0_2.length c0_2], .int .i64 a1, .int .i64 a2, .int .i64 a3] rfl (by(try simp only[List.map_toArray,List.map_cons,List.map_nil]);first|done|rfl|(simp only[List.length_drop,List.length_take];rfl)) ?_;(with_reducible refine(span_Asked.calls k a0_0 a0_1 _ _ l0_2 a1 a2 a3 t765 _ ?side1 ?side2 A5.out).mono ?_);(case side1=>repeat(first|exact(Kd.C_below HR0_2.out HB.out)|(with_reducible refine Kd.C_alloc ?_ _)|(with_reducible refine Kd.C_drewN ?_ _)|(with_reducible refine Kd.C_drew ?_)));(case side2=>exact HC0_2.out);rintro e w21 ⟨rfl,hb⟩;refine⟨_,rfl,?_⟩;have n0_:=Aside0.mk (blk_below (g:=gb764) (o:= .cells #[.int .i64 a0_0, .bool a0_1, .slice A0_2 l0_2.length c0_2] 24 (0,0)) (by(with_reducible repeat(first|refine blk_drewN ?_ _|refine blk_drew ?_|refine blk_alloc ?_ _));exact BK764.out) hb);have n1_:=Aside0.mk (below_step (by repeat(first|(with_reducible first|exact HB.out|apply below_alloc|apply pw_below_drewN|apply below_drew1|refine below_set ?_ GE764.out)|exact HB.out)) hb);clear BK764;clear HB;have BK764:=n0_;have HB:=n1_;clear n0_ n1_;(try clear hb);(try clear hb2);(try clear hk);(try clear hi)))
  go_ret3
  exact⟨_,by first|rfl|(simp[errW_none,errW_some]<;>rfl)|(simp[*,errW_none,errW_some]<;>rfl),by first|exact Kd.R_nil _ _ _ _ _|exact Kd.N_nil _ _ _ _ _|exact Kd.V_nil _ _ _ _ _|exact Kd.Q_nil _ _ _ _ _|exact Kd.S_nil _ _ _ _ _,by repeat(first|(with_reducible first|exact HB.out|apply below_alloc|apply pw_below_drewN|apply below_drew1|refine below_set ?_ GE764.out)|exact HB.out)⟩
 rw[if_pos c6] at H
 have c6b0:(t765 == 0)=true:=beq_iff_eq.mpr c6
 have c6b1:(t765 != 0)=false:=bne_eq_false_iff_eq.mpr c6
 clear c6
 replace H:=Option.bind_eq_some_iff.mp H
 obtain⟨⟨t766,t769,t772,t775⟩,A70,H⟩:=H
 replace H:((maxflow_Value.f k a0_0 a0_1 l0_2 a1 t766).bind fun t778=>((span_paid.f k a0_0 a0_1 l0_2 t766).bind fun t779=>(some (t766,wrap64 ((wrap64 ((wrap64 (a3+1)) * t778)) - t779),0))))=some (r1,r2,r3):=H
 have A7:=Aside0.mk A70
 clear A70
 replace H:=Option.bind_eq_some_iff.mp H
 obtain⟨t778,A80,H⟩:=H
 replace H:((span_paid.f k a0_0 a0_1 l0_2 t766).bind fun t779=>(some (t766,wrap64 ((wrap64 ((wrap64 (a3+1)) * t778)) - t779),0)))=some (r1,r2,r3):=H
 have A8:=Aside0.mk A80
 clear A80
 replace H:=Option.bind_eq_some_iff.mp H
 obtain⟨t779,A90,H⟩:=H
 replace H:(some (t766,wrap64 ((wrap64 ((wrap64 (a3+1)) * t778)) - t779),0))=some (r1,r2,r3):=H
 have A9:=Aside0.mk A90
 clear A90
 simp only[Option.some.injEq,Prod.mk.injEq] at H
 obtain⟨rfl,rfl,rfl⟩:=H
 go_enter Try.func69,Try.ntmps69
 try go_wp2_with (first|((with_reducible refine gate_dst (N:=4) rfl ?_);refine box_event ?hg (N:=4) ?hd (cs:= #[.int .i64 a0_0, .bool a0_1, .slice A0_2 l0_2.length c0_2]) (t:=24) ?hr ?_;(case hd=>rfl);(case hg=>rfl);(case hr=>first|(go_simp;done)|(go_simp;rfl));intro gb764 hg w10 hbox hb;have n0_:=Aside0.mk (below_step (by repeat(first|(with_reducible first|exact HB.out|apply below_alloc|apply pw_below_drewN|apply below_drew1)|exact HB.out)) hb);have n1_:=Aside0.mk (hbox);have n2_:=Aside0.mk ((by rw[hg];exact(below_size (by repeat(first|(with_reducible first|exact HB.out|apply below_alloc|apply pw_below_drewN|apply below_drew1)|exact HB.out))):w.heap.size≤gb764));have n3_:=Aside0.mk ((by rw[hg];exact(below_size (by repeat(first|(with_reducible first|exact HB.out|apply below_alloc|apply pw_below_drewN|apply below_drew1)|exact HB.out))):w.heap.size≤gb764));clear HB;have HB:=n0_;have BK764:=n1_;have GW764:=n2_;have GE764:=n3_;clear n0_ n1_ n2_ n3_;clear hb hbox hg;have hcz11_0:w10.cell? ⟨gb764,0,none⟩=some (.int .i64 a0_0):=(blk_cell BK764.out 0).trans rfl;have hcz11_1:w10.cell? ⟨gb764,1,none⟩=some (.bool a0_1):=(blk_cell BK764.out 1).trans rfl;have hcz11_2:w10.cell? ⟨gb764,2,none⟩=some (.slice A0_2 l0_2.length c0_2):=(blk_cell BK764.out 2).trans rfl;have hfz11_0:=blk_frozen BK764.out 0;have hfz11_1:=blk_frozen BK764.out 1;have hfz11_2:=blk_frozen BK764.out 2)|((with_reducible refine gate_callee (f:=114) rfl ?_);refine goesL_ (some 15) rfl rfl Try.func114 (by kernel_rfl) rfl #[.agg #[.int .i64 a0_0, .bool a0_1, .slice A0_2 l0_2.length c0_2], .int .i64 a1, .int .i64 a2, .int .i64 a3] rfl (by(try simp only[List.map_toArray,List.map_cons,List.map_nil]);first|done|rfl|(simp only[List.length_drop,List.length_take];rfl)) ?_;(with_reducible refine(span_Asked.calls k a0_0 a0_1 _ _ l0_2 a1 a2 a3 t765 _ ?side1 ?side2 A5.out).mono ?_);(case side1=>repeat(first|exact(Kd.C_below HR0_2.out HB.out)|(with_reducible refine Kd.C_alloc ?_ _)|(with_reducible refine Kd.C_drewN ?_ _)|(with_reducible refine Kd.C_drew ?_)));(case side2=>exact HC0_2.out);rintro e w12 ⟨rfl,hb⟩;refine⟨_,rfl,?_⟩;have n0_:=Aside0.mk (blk_below (g:=gb764) (o:= .cells #[.int .i64 a0_0, .bool a0_1, .slice A0_2 l0_2.length c0_2] 24 (0,0)) (by(with_reducible repeat(first|refine blk_drewN ?_ _|refine blk_drew ?_|refine blk_alloc ?_ _));exact BK764.out) hb);have n1_:=Aside0.mk (below_step (by repeat(first|(with_reducible first|exact HB.out|apply below_alloc|apply pw_below_drewN|apply below_drew1|refine below_set ?_ GE764.out)|exact HB.out)) hb);clear BK764;clear HB;have BK764:=n0_;have HB:=n1_;clear n0_ n1_;(try clear hb);(try clear hb2);(try clear hk);(try clear hi);have hcz13_0:w12.cell? ⟨gb764,0,none⟩=some (.int .i64 a0_0):=(blk_cell BK764.out 0).trans rfl;have hcz13_1:w12.cell? ⟨gb764,1,none⟩=some (.bool a0_1):=(blk_cell BK764.out 1).trans rfl;have hcz13_2:w12.cell? ⟨gb764,2,none⟩=some (.slice A0_2 l0_2.length c0_2):=(blk_cell BK764.out 2).trans rfl;have hfz13_0:=blk_frozen BK764.out 0;have hfz13_1:=blk_frozen BK764.out 1;have hfz13_2:=blk_frozen BK764.out 2)|((with_reducible refine gate_callee (f:=118) rfl ?_);refine goesL_ (some 24) rfl rfl Try.func118 (by kernel_rfl) rfl #[.agg #[.int .i64 a0_0, .bool a0_1, .slice A0_2 l0_2.length c0_2], .int .i64 a1, .int .i64 a2, .int .i64 a3] rfl (by(try simp only[List.map_toArray,List.map_cons,List.map_nil]);first|done|rfl|(simp only[List.length_drop,List.length_take];rfl)) ?_;(with_reducible refine(span_Fill.calls a0_0 a0_1 _ _ l0_2 a1 a2 a3 t766 t769 t772 t775 _ ?side1 ?side2 A7.out).mono ?_);(case side1=>repeat(first|exact(Kd.C_below HR0_2.out HB.out)|(with_reducible refine Kd.C_alloc ?_ _)|(with_reducible refine Kd.C_drewN ?_ _)|(with_reducible refine Kd.C_drew ?_)));(case side2=>exact HC0_2.out);rintro e w14 ⟨v767,v770,v773,v776,rfl,ho0,ho1,ho2,ho3,hb⟩;refine⟨_,rfl,?_⟩;have n0_:=Aside0.mk (Kd.R_lower ho0 (below_size (by repeat(first|(with_reducible first|exact HB.out|apply below_alloc|apply pw_below_drewN|apply below_drew1|refine below_set ?_ GE764.out)|exact HB.out))));have n1_:=Aside0.mk (Kd.R_lower ho1 (below_size (by repeat(first|(with_reducible first|exact HB.out|apply below_alloc|apply pw_below_drewN|apply below_drew1|refine below_set ?_ GE764.out)|exact HB.out))));have n2_:=Aside0.mk (Kd.R_lower ho2 (below_size (by repeat(first|(with_reducible first|exact HB.out|apply below_alloc|apply pw_below_drewN|apply below_drew1|refine below_set ?_ GE764.out)|exact HB.out))));have n3_:=Aside0.mk (Kd.R_lower ho3 (below_size (by repeat(first|(with_reducible first|exact HB.out|apply below_alloc|apply pw_below_drewN|apply below_drew1|refine below_set ?_ GE764.out)|exact HB.out))));have n4_:=Aside0.mk (blk_below (g:=gb764) (o:= .cells #[.int .i64 a0_0, .bool a0_1, .slice A0_2 l0_2.length c0_2] 24 (0,0)) (by(with_reducible repeat(first|refine blk_drewN ?_ _|refine blk_drew ?_|refine blk_alloc ?_ _));exact BK764.out) hb);have n5_:=Aside0.mk (below_step (by repeat(first|(with_reducible first|exact HB.out|apply below_alloc|apply pw_below_drewN|apply below_drew1|refine below_set ?_ GE764.out)|exact HB.out)) hb);clear BK764;clear HB;have HO768:=n0_;have HO771:=n1_;have HO774:=n2_;have HO777:=n3_;have BK764:=n4_;have HB:=n5_;clear n0_ n1_ n2_ n3_ n4_ n5_;(try clear hb);(try clear hb2);(try clear hk);(try clear hi);(try clear ho0);(try clear ho1);(try clear ho2);(try clear ho3)))
 have n0_:=Aside0.mk (Kd.R_drew HO768.out)
 have n1_:=Aside0.mk (Kd.R_drew HO771.out)
 have n2_:=Aside0.mk (Kd.R_drew HO774.out)
 have n3_:=Aside0.mk (Kd.R_drew HO777.out)
 have n4_:=Aside0.mk (blk_drew BK764.out)
 have n5_:=Aside0.mk (below_drew1 HB.out)
 clear HO768
 clear HO771
 clear HO774
 clear HO777
 clear BK764
 clear HB
 have HO768:=n0_
 have HO771:=n1_
 have HO774:=n2_
 have HO777:=n3_
 have BK764:=n4_
 have HB:=n5_
 clear n0_ n1_ n2_ n3_ n4_ n5_
 obtain⟨Ao16,co16,eo16⟩:=Kd.R_slice HO768.out
 (first|subst eo16|(injection eo16 with f1_ f2_ f3_;have f4_:=f1_.symm;have f5_:=f3_.symm;clear f1_ f2_ f3_;subst f4_;subst f5_))
 refine start_ (n:=15) (S:=fun w'=>w'.cell? ⟨gb764,0,none⟩=some (.int .i64 a0_0)∧w'.cell? ⟨gb764,1,none⟩=some (.bool a0_1)∧w'.cell? ⟨gb764,2,none⟩=some (.slice A0_2 l0_2.length c0_2)) (ds:=[]) #[false,false,false,false,false,false,false,false,false,false,false,false,false,false,false] (by kernel_rfl) rfl rfl ⟨(blk_cell BK764.out 0).trans rfl,(blk_cell BK764.out 1).trans rfl,(blk_cell BK764.out 2).trans rfl⟩ (fun hHeld=> ?_);refine with_tabW span_Best.tab5 span_Best.bits5 (fun HT_ HW_=> ?_)
 generalize w14.drew=w15 at HO768 HO771 HO774 HO777 BK764 HB hHeld ⊢
 refine pure_ (i:=0) (N:=some 27) (v:= ?_) (a':= ?_) #[true,false,false,false,false,false,false,false,false,false,false,false,false,false,false] rfl rfl (any_of HT_.out (by kernel_rfl)) (fun _ _ _ h=>h) (Or.inl ⟨by rfl,?_⟩) ?_ ?_
 rotate_left
 ·intro w'
  go_simp
  with_reducible rfl
 rotate_left
 ·simp only[Act.put,List.setIfInBounds_toArray,List.set_cons_zero,List.set_cons_succ,i64_w,i32_w]
  rfl
 refine pure_ (i:=1) (N:=some 28) (v:= ?_) (a':= ?_) #[true,true,false,false,false,false,false,false,false,false,false,false,false,false,false] rfl rfl (any_of HT_.out (by kernel_rfl)) (fun _ _ _ h=>h) (Or.inl ⟨by rfl,?_⟩) ?_ ?_
 rotate_left
 ·intro w'
  go_simp
  with_reducible rfl
 rotate_left
 ·simp only[Act.put,List.setIfInBounds_toArray,List.set_cons_zero,List.set_cons_succ,i64_w,i32_w]
  rfl
 refine pure_ (i:=2) (N:=some 29) (v:= ?_) (a':= ?_) #[true,true,true,false,false,false,false,false,false,false,false,false,false,false,false] rfl rfl (any_of HT_.out (by kernel_rfl)) (fun _ _ _ h=>h) (Or.inl ⟨by rfl,?_⟩) ?_ ?_
 rotate_left
 ·intro w'
  go_simp
  with_reducible rfl
 rotate_left
 ·simp only[Act.put,List.setIfInBounds_toArray,List.set_cons_zero,List.set_cons_succ,i64_w,i32_w]
  rfl
 refine pure_ (i:=4) (N:=some 31) (v:= ?_) (a':= ?_) #[true,true,true,false,true,false,false,false,false,false,false,false,false,false,false] rfl rfl (any_of HT_.out (by kernel_rfl)) (fun _ _ _ h=>h) (Or.inl ⟨by rfl,?_⟩) ?_ ?_
 rotate_left
 ·intro w'
  go_simp
  with_reducible rfl
 rotate_left
 ·simp only[Act.put,List.setIfInBounds_toArray,List.set_cons_zero,List.set_cons_succ,i64_w,i32_w]
  rfl
 refine pure_ (i:=5) (N:=some 32) (v:= ?_) (a':= ?_) #[true,true,true,false,true,true,false,false,false,false,false,false,false,false,false] rfl rfl (any_of HT_.out (by kernel_rfl)) (fun _ _ _ h=>h) (Or.inl ⟨by rfl,?_⟩) ?_ ?_
 rotate_left
 ·intro w'
  go_simp
  with_reducible rfl
 rotate_left
 ·simp only[Act.put,List.setIfInBounds_toArray,List.set_cons_zero,List.set_cons_succ,i64_w,i32_w]
  rfl
 refine pure_ (i:=9) (N:=some 36) (v:= ?_) (a':= ?_) #[true,true,true,false,true,true,false,false,false,true,false,false,false,false,false] rfl rfl (any_of HT_.out (by kernel_rfl)) (fun _ _ _ h=>h) (Or.inl ⟨by rfl,?_⟩) ?_ ?_
 rotate_left
 ·intro w'
  go_simp
  with_reducible rfl
 rotate_left
 ·simp only[Act.put,List.setIfInBounds_toArray,List.set_cons_zero,List.set_cons_succ,i64_w,i32_w]
  rfl
 refine take_ (i:=3) (N:=some 30) (v:= ?_) (a':= ?_) #[true,true,true,true,true,true,false,false,false,true,false,false,false,false,false] rfl rfl (take_ofW HT_.out HW_.out (by kernel_rfl)) (fun _ _ _ h=>h) (Or.inl ⟨by rfl,?_⟩) hHeld ?_ ?_
 rotate_left
 ·rintro w' ⟨s0,s1,s2⟩
  go_simp
  with_reducible rfl
 rotate_left
 ·simp only[Act.put,List.setIfInBounds_toArray,List.set_cons_zero,List.set_cons_succ,i64_w,i32_w]
  rfl
 refine take_ (i:=8) (N:=some 35) (v:= ?_) (a':= ?_) #[true,true,true,true,true,true,false,false,true,true,false,false,false,false,false] rfl rfl (take_ofW HT_.out HW_.out (by kernel_rfl)) (fun _ _ _ h=>h) (Or.inl ⟨by rfl,?_⟩) hHeld ?_ ?_
 rotate_left
 ·rintro w' ⟨s0,s1,s2⟩
  go_simp
  with_reducible rfl
 rotate_left
 ·simp only[Act.put,List.setIfInBounds_toArray,List.set_cons_zero,List.set_cons_succ,i64_w,i32_w]
  rfl
 refine one_ (i:=6) (N:=some 33) #[true,true,true,true,true,true,true,false,true,true,false,false,false,false,false] rfl rfl (one_of HT_.out (by kernel_rfl)) (by decide) (fun K hK=> ?_)
 refine goes_ Try.func119 (by kernel_rfl) rfl #[.agg #[.int .i64 a0_0, .bool a0_1, .slice A0_2 l0_2.length c0_2], .int .i64 a1, .slice Ao16 t766.length co16] (by rfl) rfl rfl (by(try simp only[List.map_toArray,List.map_cons,List.map_nil]);first|done|rfl|(simp only[List.length_drop,List.length_take];rfl)) ?_
 with_reducible refine(maxflow_Value.calls k a0_0 a0_1 _ _ l0_2 a1 _ _ t766 t778 _ ?side1 ?side2 ?side3 ?side4 A8.out).mono ?_
 (case side1=>repeat(first|exact(Kd.C_below HR0_2.out HB.out)|(with_reducible refine Kd.C_alloc ?_ _)|(with_reducible refine Kd.C_drewN ?_ _)|(with_reducible refine Kd.C_drew ?_)))
 (case side2=>exact HC0_2.out)
 (case side3=>repeat(first|exact(Kd.R_reads' HO768.out).2.2|(with_reducible refine Kd.C_alloc ?_ _)|(with_reducible refine Kd.C_drewN ?_ _)|(with_reducible refine Kd.C_drew ?_)))
 (case side4=>exact(Kd.R_reads' HO768.out).2.1)
 rintro e w17 ⟨rfl,hb⟩
 refine⟨_,rfl,?_⟩
 have n0_:=Aside0.mk (Kd.R_below (by(with_reducible repeat(first|apply Kd.R_alloc|apply Kd.R_drewN|apply Kd.R_drew));exact HO768.out) hb)
 have n1_:=Aside0.mk (Kd.R_below (by(with_reducible repeat(first|apply Kd.R_alloc|apply Kd.R_drewN|apply Kd.R_drew));exact HO771.out) hb)
 have n2_:=Aside0.mk (Kd.R_below (by(with_reducible repeat(first|apply Kd.R_alloc|apply Kd.R_drewN|apply Kd.R_drew));exact HO774.out) hb)
 have n3_:=Aside0.mk (Kd.R_below (by(with_reducible repeat(first|apply Kd.R_alloc|apply Kd.R_drewN|apply Kd.R_drew));exact HO777.out) hb)
 have n4_:=Aside0.mk (blk_below (g:=gb764) (o:= .cells #[.int .i64 a0_0, .bool a0_1, .slice A0_2 l0_2.length c0_2] 24 (0,0)) (by(with_reducible repeat(first|refine blk_drewN ?_ _|refine blk_drew ?_|refine blk_alloc ?_ _));exact BK764.out) hb)
 have n5_:=Aside0.mk (below_step (by repeat(first|(with_reducible first|exact HB.out|apply below_alloc|apply pw_below_drewN|apply below_drew1|refine below_set ?_ GE764.out)|exact HB.out)) hb)
 clear HO768
 clear HO771
 clear HO774
 clear HO777
 clear BK764
 clear HB
 have HO768:=n0_
 have HO771:=n1_
 have HO774:=n2_
 have HO777:=n3_
 have BK764:=n4_
 have HB:=n5_
 clear n0_ n1_ n2_ n3_ n4_ n5_
 (try clear hb)
 (try clear hb2)
 (try clear hk)
 (try clear hi)
 refine hK.out _ _ ⟨(blk_cell BK764.out 0).trans rfl,(blk_cell BK764.out 1).trans rfl,(blk_cell BK764.out 2).trans rfl⟩ (fun hHeld=> ?_)
 clear hK K
 refine norm_ (a':= ?_) ?_ ?_
 rotate_left
 ·show Act.put _ (some 33) _=_
  simp only[Act.put,List.setIfInBounds_toArray,List.set_cons_zero,List.set_cons_succ,i64_w,i32_w]
  rfl
 refine pure_ (i:=7) (N:=some 34) (v:= ?_) (a':= ?_) #[true,true,true,true,true,true,true,true,true,true,false,false,false,false,false] rfl rfl (any_of HT_.out (by kernel_rfl)) (fun _ _ _ h=>h) (Or.inl ⟨by rfl,?_⟩) ?_ ?_
 rotate_left
 ·intro w'
  go_simp
  with_reducible rfl
 rotate_left
 ·simp only[Act.put,List.setIfInBounds_toArray,List.set_cons_zero,List.set_cons_succ,i64_w,i32_w]
  rfl
 refine one_ (i:=10) (N:=some 37) #[true,true,true,true,true,true,true,true,true,true,true,false,false,false,false] rfl rfl (one_of HT_.out (by kernel_rfl)) (by decide) (fun K hK=> ?_)
 refine goes_ Try.func116 (by kernel_rfl) rfl #[.agg #[.int .i64 a0_0, .bool a0_1, .slice A0_2 l0_2.length c0_2], .slice Ao16 t766.length co16] (by rfl) rfl rfl (by(try simp only[List.map_toArray,List.map_cons,List.map_nil]);first|done|rfl|(simp only[List.length_drop,List.length_take];rfl)) ?_
 with_reducible refine(span_paid.calls k a0_0 a0_1 _ _ l0_2 _ _ t766 t779 _ ?side1 ?side2 ?side3 ?side4 A9.out).mono ?_
 (case side1=>repeat(first|exact(Kd.C_below HR0_2.out HB.out)|(with_reducible refine Kd.C_alloc ?_ _)|(with_reducible refine Kd.C_drewN ?_ _)|(with_reducible refine Kd.C_drew ?_)))
 (case side2=>exact HC0_2.out)
 (case side3=>repeat(first|exact(Kd.R_reads' HO768.out).2.2|(with_reducible refine Kd.C_alloc ?_ _)|(with_reducible refine Kd.C_drewN ?_ _)|(with_reducible refine Kd.C_drew ?_)))
 (case side4=>exact(Kd.R_reads' HO768.out).2.1)
 rintro e w18 ⟨rfl,hb⟩
 refine⟨_,rfl,?_⟩
 have n0_:=Aside0.mk (Kd.R_below (by(with_reducible repeat(first|apply Kd.R_alloc|apply Kd.R_drewN|apply Kd.R_drew));exact HO768.out) hb)
 have n1_:=Aside0.mk (Kd.R_below (by(with_reducible repeat(first|apply Kd.R_alloc|apply Kd.R_drewN|apply Kd.R_drew));exact HO771.out) hb)
 have n2_:=Aside0.mk (Kd.R_below (by(with_reducible repeat(first|apply Kd.R_alloc|apply Kd.R_drewN|apply Kd.R_drew));exact HO774.out) hb)
 have n3_:=Aside0.mk (Kd.R_below (by(with_reducible repeat(first|apply Kd.R_alloc|apply Kd.R_drewN|apply Kd.R_drew));exact HO777.out) hb)
 have n4_:=Aside0.mk (blk_below (g:=gb764) (o:= .cells #[.int .i64 a0_0, .bool a0_1, .slice A0_2 l0_2.length c0_2] 24 (0,0)) (by(with_reducible repeat(first|refine blk_drewN ?_ _|refine blk_drew ?_|refine blk_alloc ?_ _));exact BK764.out) hb)
 have n5_:=Aside0.mk (below_step (by repeat(first|(with_reducible first|exact HB.out|apply below_alloc|apply pw_below_drewN|apply below_drew1|refine below_set ?_ GE764.out)|exact HB.out)) hb)
 clear HO768
 clear HO771
 clear HO774
 clear HO777
 clear BK764
 clear HB
 have HO768:=n0_
 have HO771:=n1_
 have HO774:=n2_
 have HO777:=n3_
 have BK764:=n4_
 have HB:=n5_
 clear n0_ n1_ n2_ n3_ n4_ n5_
 (try clear hb)
 (try clear hb2)
 (try clear hk)
 (try clear hi)
 refine hK.out _ _ ⟨(blk_cell BK764.out 0).trans rfl,(blk_cell BK764.out 1).trans rfl,(blk_cell BK764.out 2).trans rfl⟩ (fun hHeld=> ?_)
 clear hK K
 refine norm_ (a':= ?_) ?_ ?_
 rotate_left
 ·show Act.put _ (some 37) _=_
  simp only[Act.put,List.setIfInBounds_toArray,List.set_cons_zero,List.set_cons_succ,i64_w,i32_w]
  rfl
 refine pure_ (i:=11) (N:=some 38) (v:= ?_) (a':= ?_) #[true,true,true,true,true,true,true,true,true,true,true,true,false,false,false] rfl rfl (any_of HT_.out (by kernel_rfl)) (fun _ _ _ h=>h) (Or.inl ⟨by rfl,?_⟩) ?_ ?_
 rotate_left
 ·intro w'
  go_simp
  with_reducible rfl
 rotate_left
 ·simp only[Act.put,List.setIfInBounds_toArray,List.set_cons_zero,List.set_cons_succ,i64_w,i32_w]
  rfl
 refine pure_ (i:=12) (N:=some 8) (v:= ?_) (a':= ?_) #[true,true,true,true,true,true,true,true,true,true,true,true,true,false,false] rfl rfl (any_of HT_.out (by kernel_rfl)) (fun _ _ _ h=>h) (Or.inl ⟨by rfl,?_⟩) ?_ ?_
 rotate_left
 ·intro w'
  go_simp
  with_reducible rfl
 rotate_left
 ·simp only[Act.put,List.setIfInBounds_toArray,List.set_cons_zero,List.set_cons_succ,i64_w,i32_w]
  rfl
 refine pure_ (i:=13) (N:=some 9) (v:= ?_) (a':= ?_) #[true,true,true,true,true,true,true,true,true,true,true,true,true,true,false] rfl rfl (any_of HT_.out (by kernel_rfl)) (fun _ _ _ h=>h) (Or.inl ⟨by rfl,?_⟩) ?_ ?_
 rotate_left
 ·intro w'
  go_simp
  with_reducible rfl
 rotate_left
 ·simp only[Act.put,List.setIfInBounds_toArray,List.set_cons_zero,List.set_cons_succ,i64_w,i32_w]
  rfl
 refine pure_ (i:=14) (N:=some 10) (v:= ?_) (a':= ?_) #[true,true,true,true,true,true,true,true,true,true,true,true,true,true,true] rfl rfl (any_of HT_.out (by kernel_rfl)) (fun _ _ _ h=>h) (Or.inl ⟨by rfl,?_⟩) ?_ ?_
 rotate_left
 ·intro w'
  go_simp
  with_reducible rfl
 rotate_left
 ·simp only[Act.put,List.setIfInBounds_toArray,List.set_cons_zero,List.set_cons_succ,i64_w,i32_w]
  rfl
 refine done_ (done_of HT_.out (by kernel_rfl)) ?_
 try go_wp2
 go_ret3
 exact⟨_,by first|rfl|(simp[errW_none,errW_some]<;>rfl)|(simp[*,errW_none,errW_some]<;>rfl),by(with_reducible repeat(first|apply Kd.R_alloc|apply Kd.R_drewN|apply Kd.R_drew));exact Kd.R_mono HO768.out (fun _ hk=>trivial),by repeat(first|(with_reducible first|exact HB.out|apply below_alloc|apply pw_below_drewN|apply below_drew1|refine below_set ?_ GE764.out)|exact HB.out)⟩
end Go.Proofs.Ytkcpanpdipmmmaa.P
namespace Go.Proofs.Ytkcpanpdipmmmaa.P
open Go.RowKit Go.Proofs.YtkcpanpdipmmmaaW.PrintWords Go.Proofs.YtkcpanpdipmmmaaW.PrintLast Go.Proofs.YtkcpanpdipmmmaaW.PrintMore
attribute [local go_sem] max2_int min2_int max_two min_two max_three min_three max_four min_four
def span_Most.f (k:Nat) (a0_0:Int) (a0_1:Bool) (l0_2:List (S74)) (a1:Int) (a2:Int) (a3:Int):Option (Int × Int):=(span_Best.f k a0_0 a0_1 l0_2 a1 a2 a3).bind fun bt781=>(some (bt781.2.1,bt781.2.2))
set_option maxHeartbeats 8000000 in
set_option maxRecDepth 100000 in
theorem span_Most.calls (k:Nat) (a0_0:Int) (a0_1:Bool) (A0_2:Option Addr) (c0_2:Nat) (l0_2:List (S74)) (a1:Int) (a2:Int) (a3:Int) (r1:Int) (r2:Int) (w:World) (hr0_2:Kd.C k74 w A0_2 l0_2.length l0_2) (hc0_2:l0_2.length≤c0_2) (h:span_Most.f k a0_0 a0_1 l0_2 a1 a2 a3=some (r1,r2)):
  Calls Try.prog 67 #[.agg #[.int .i64 a0_0, .bool a0_1, .slice A0_2 l0_2.length c0_2], .int .i64 a1, .int .i64 a2, .int .i64 a3] w fun e w'=>e= .returned (.tuple #[.int .i64 r1, .int .i64 r2])∧Below w.heap.size w w':=by
 have hu24:=Try.underlying24
 have HR0_2:=Aside0.mk hr0_2
 have HC0_2:=Aside0.mk hc0_2
 clear hr0_2 hc0_2
 have HB:=Aside0.mk (Below.refl w.heap.size w)
 have H:((span_Best.f k a0_0 a0_1 l0_2 a1 a2 a3).bind fun bt781=>(some (bt781.2.1,bt781.2.2)))=some (r1,r2):=h
 clear h
 replace H:=Option.bind_eq_some_iff.mp H
 obtain⟨⟨t781,t784,t785⟩,A50,H⟩:=H
 replace H:(some (t784,t785))=some (r1,r2):=H
 have A5:=Aside0.mk A50
 clear A50
 simp only[Option.some.injEq,Prod.mk.injEq] at H
 obtain⟨rfl,rfl⟩:=H
 go_enter Try.func67,Try.ntmps67
 go_wp2_with (first|((with_reducible refine gate_dst (N:=4) rfl ?_);refine box_event ?hg (N:=4) ?hd (cs:= #[.int .i64 a0_0, .bool a0_1, .slice A0_2 l0_2.length c0_2]) (t:=24) ?hr ?_;(case hd=>rfl);(case hg=>rfl);(case hr=>first|(go_simp;done)|(go_simp;rfl));intro gb780 hg w6 hbox hb;have n0_:=Aside0.mk (below_step (by repeat(first|(with_reducible first|exact HB.out|apply below_alloc|apply pw_below_drewN|apply below_drew1)|exact HB.out)) hb);have n1_:=Aside0.mk (hbox);have n2_:=Aside0.mk ((by rw[hg];exact(below_size (by repeat(first|(with_reducible first|exact HB.out|apply below_alloc|apply pw_below_drewN|apply below_drew1)|exact HB.out))):w.heap.size≤gb780));have n3_:=Aside0.mk ((by rw[hg];exact(below_size (by repeat(first|(with_reducible first|exact HB.out|apply below_alloc|apply pw_below_drewN|apply below_drew1)|exact HB.out))):w.heap.size≤gb780));clear HB;have HB:=n0_;have BK780:=n1_;have GW780:=n2_;have GE780:=n3_;clear n0_ n1_ n2_ n3_;clear hb hbox hg;have hcz7_0:w6.cell? ⟨gb780,0,none⟩=some (.int .i64 a0_0):=(blk_cell BK780.out 0).trans rfl;have hcz7_1:w6.cell? ⟨gb780,1,none⟩=some (.bool a0_1):=(blk_cell BK780.out 1).trans rfl;have hcz7_2:w6.cell? ⟨gb780,2,none⟩=some (.slice A0_2 l0_2.length c0_2):=(blk_cell BK780.out 2).trans rfl;have hfz7_0:=blk_frozen BK780.out 0;have hfz7_1:=blk_frozen BK780.out 1;have hfz7_2:=blk_frozen BK780.out 2)|((with_reducible refine gate_callee (f:=69) rfl ?_);refine goesL_ (some 15) rfl rfl Try.func69 (by kernel_rfl) rfl #[.agg #[.int .i64 a0_0, .bool a0_1, .slice A0_2 l0_2.length c0_2], .int .i64 a1, .int .i64 a2, .int .i64 a3] rfl (by(try simp only[List.map_toArray,List.map_cons,List.map_nil]);first|done|rfl|(simp only[List.length_drop,List.length_take];rfl)) ?_;(with_reducible refine(span_Best.calls k a0_0 a0_1 _ _ l0_2 a1 a2 a3 t781 t784 t785 _ ?side1 ?side2 A5.out).mono ?_);(case side1=>repeat(first|exact(Kd.C_below HR0_2.out HB.out)|(with_reducible refine Kd.C_alloc ?_ _)|(with_reducible refine Kd.C_drewN ?_ _)|(with_reducible refine Kd.C_drew ?_)));(case side2=>exact HC0_2.out);rintro e w8 ⟨v782,rfl,ho0,hb⟩;refine⟨_,rfl,?_⟩;have n0_:=Aside0.mk (Kd.R_lower ho0 (below_size (by repeat(first|(with_reducible first|exact HB.out|apply below_alloc|apply pw_below_drewN|apply below_drew1|refine below_set ?_ GE780.out)|exact HB.out))));have n1_:=Aside0.mk (blk_below (g:=gb780) (o:= .cells #[.int .i64 a0_0, .bool a0_1, .slice A0_2 l0_2.length c0_2] 24 (0,0)) (by(with_reducible repeat(first|refine blk_drewN ?_ _|refine blk_drew ?_|refine blk_alloc ?_ _));exact BK780.out) hb);have n2_:=Aside0.mk (below_step (by repeat(first|(with_reducible first|exact HB.out|apply below_alloc|apply pw_below_drewN|apply below_drew1|refine below_set ?_ GE780.out)|exact HB.out)) hb);clear BK780;clear HB;have HO783:=n0_;have BK780:=n1_;have HB:=n2_;clear n0_ n1_ n2_;(try clear hb);(try clear hb2);(try clear hk);(try clear hi);(try clear ho0)))
 go_ret2
 exact⟨by first|rfl|(simp[errW_none,errW_some]<;>rfl)|(simp[*,errW_none,errW_some]<;>rfl),by repeat(first|(with_reducible first|exact HB.out|apply below_alloc|apply pw_below_drewN|apply below_drew1|refine below_set ?_ GE780.out)|exact HB.out)⟩
end Go.Proofs.Ytkcpanpdipmmmaa.P
namespace Go.Proofs.Ytkcpanpdipmmmaa.P
open Go.RowKit Go.Proofs.YtkcpanpdipmmmaaW.PrintWords Go.Proofs.YtkcpanpdipmmmaaW.PrintLast Go.Proofs.YtkcpanpdipmmmaaW.PrintMore
attribute [local go_sem] max2_int min2_int max_two min_two max_three min_three max_four min_four
def static_Balance.l0:Nat→List Int→List Int→List (S74)→Int→Int→Option (List Int × Int)
 |0,_,_,_,_,_=>none
 |k+1,x1,x7,x20,x21,x22=>if x22<x21 then(if 0≤x22 then(if x22<(x20.length:Int) then(if 0≤((rd_T74 x20 x22).f0) then(if ((rd_T74 x20 x22).f0)<(x7.length:Int) then(if x22<(x1.length:Int) then((some (x7.set (((rd_T74 x20 x22).f0):Int).toNat (wrap64 ((rd x7 ((rd_T74 x20 x22).f0))+(rd x1 x22))):List Int)).bind fun y714=>(if 0≤((rd_T74 x20 x22).f1) then(if ((rd_T74 x20 x22).f1)<(x7.length:Int) then(static_Balance.l0 k x1 (y714.set (((rd_T74 x20 x22).f1):Int).toNat (wrap64 ((rd y714 ((rd_T74 x20 x22).f1)) - (rd x1 x22)))) x20 x21 (wrap64 (x22+1))) else(none)) else(none))) else(none)) else(none)) else(none)) else(none)) else(none)) else(some (x7,0))
def static_Balance.f (k:Nat) (a0_0:Int) (a0_1:Bool) (l0_2:List (S74)) (l1:List Int):Option (List Int × Int):=(static_Asked.f k a0_0 a0_1 l0_2 l1).bind fun t706=>(if t706=0 then(if 0≤a0_0 then(if (a0_0:Int).toNat≤35184372088832 then(static_Balance.l0 k l1 (List.replicate (a0_0:Int).toNat 0) l0_2 (l0_2.length:Int) 0) else(none)) else(none)) else(some (([]:List Int),t706)))
def static_Balance.T8:Bool × List (List Nat × List Nat):=(true,[([],[]),([],[]),([1],[1]),([0,2],[0,2]),([3],[3]),([],[]),([],[]),([5,6],[5,6]),([7],[7]),([4,8],[4,8]),([0,2,0,1,2,3,4,5,6,7,8,9],[0,2]),([10,9,0,1,2,3,4,5,6,7,8,9],[9,10])])
def static_Balance.B8:List Nat:=[0,0,2,7,15,0,0,96,224,511,1023,2047]
theorem static_Balance.tab8:rtab .any (opsOf Try.f150 8)=static_Balance.T8:=by kernel_rfl
theorem static_Balance.bits8:waitsOk static_Balance.T8.2 static_Balance.B8=true:=by kernel_rfl
def static_Balance.T9:Bool × List (List Nat × List Nat):=(true,[([],[]),([],[]),([1],[1]),([0,2],[0,2]),([3],[3]),([],[]),([],[]),([5,6],[5,6]),([7],[7]),([4,8],[4,8]),([0,2,0,1,2,3,4,5,6,7,8,9],[0,2]),([10,9,0,1,2,3,4,5,6,7,8,9],[9,10])])
def static_Balance.B9:List Nat:=[0,0,2,7,15,0,0,96,224,511,1023,2047]
theorem static_Balance.tab9:rtab .any (opsOf Try.f150 9)=static_Balance.T9:=by kernel_rfl
theorem static_Balance.bits9:waitsOk static_Balance.T9.2 static_Balance.B9=true:=by kernel_rfl
set_option maxHeartbeats 8000000 in
set_option maxRecDepth 100000 in
theorem static_Balance.calls (k:Nat) (a0_0:Int) (a0_1:Bool) (A0_2:Option Addr) (c0_2:Nat) (l0_2:List (S74)) (A1:Option Addr) (c1:Nat) (l1:List Int) (r1:List Int) (r2:Int) (w:World) (hr0_2:Kd.C k74 w A0_2 l0_2.length l0_2) (hc0_2:l0_2.length≤c0_2) (hr1:Kd.C (Kd.int .i64) w A1 l1.length l1) (hc1:l1.length≤c1) (h:static_Balance.f k a0_0 a0_1 l0_2 l1=some (r1,r2)):
  Calls Try.prog 150 #[.agg #[.int .i64 a0_0, .bool a0_1, .slice A0_2 l0_2.length c0_2], .slice A1 l1.length c1] w fun e w'=> ∃ v0_:Value,e= .returned (.tuple #[v0_, .int .i64 r2])∧Kd.R (Kd.int .i64) 3 w' w.heap.size (fun _=>True) v0_ r1∧Below w.heap.size w w':=by
 have hu24:=Try.underlying24
 have hu74:=Try.underlying74
 have HR0_2:=Aside0.mk hr0_2
 have HC0_2:=Aside0.mk hc0_2
 clear hr0_2 hc0_2
 have HR1:=Aside0.mk hr1
 have HC1:=Aside0.mk hc1
 clear hr1 hc1
 have HB:=Aside0.mk (Below.refl w.heap.size w)
 have H:((static_Asked.f k a0_0 a0_1 l0_2 l1).bind fun t706=>(if t706=0 then(if 0≤a0_0 then(if (a0_0:Int).toNat≤35184372088832 then(static_Balance.l0 k l1 (List.replicate (a0_0:Int).toNat 0) l0_2 (l0_2.length:Int) 0) else(none)) else(none)) else(some (([]:List Int),t706))))=some (r1,r2):=h
 clear h
 replace H:=Option.bind_eq_some_iff.mp H
 obtain⟨t706,A30,H⟩:=H
 replace H:(if t706=0 then(if 0≤a0_0 then(if (a0_0:Int).toNat≤35184372088832 then(static_Balance.l0 k l1 (List.replicate (a0_0:Int).toNat 0) l0_2 (l0_2.length:Int) 0) else(none)) else(none)) else(some (([]:List Int),t706)))=some (r1,r2):=H
 have A3:=Aside0.mk A30
 clear A30
 by_cases c4:t706=0
 rotate_left
 ·rw[if_neg c4] at H
  have c4b0:(t706 == 0)=false:=beq_eq_false_iff_ne.mpr c4
  have c4b1:(t706 != 0)=true:=bne_iff_ne.mpr c4
  simp only[Option.some.injEq,Prod.mk.injEq] at H
  obtain⟨rfl,rfl⟩:=H
  go_enter Try.func150,Try.ntmps150
  go_wp2_with (first|((with_reducible refine gate_dst (N:=2) rfl ?_);refine box_event ?hg (N:=2) ?hd (cs:= #[.int .i64 a0_0, .bool a0_1, .slice A0_2 l0_2.length c0_2]) (t:=24) ?hr ?_;(case hd=>rfl);(case hg=>rfl);(case hr=>first|(go_simp;done)|(go_simp;rfl));intro gb705 hg w34 hbox hb;have n0_:=Aside0.mk (below_step (by repeat(first|(with_reducible first|exact HB.out|apply below_alloc|apply pw_below_drewN|apply below_drew1)|exact HB.out)) hb);have n1_:=Aside0.mk (hbox);have n2_:=Aside0.mk ((by rw[hg];exact(below_size (by repeat(first|(with_reducible first|exact HB.out|apply below_alloc|apply pw_below_drewN|apply below_drew1)|exact HB.out))):w.heap.size≤gb705));have n3_:=Aside0.mk ((by rw[hg];exact(below_size (by repeat(first|(with_reducible first|exact HB.out|apply below_alloc|apply pw_below_drewN|apply below_drew1)|exact HB.out))):w.heap.size≤gb705));clear HB;have HB:=n0_;have BK705:=n1_;have GW705:=n2_;have GE705:=n3_;clear n0_ n1_ n2_ n3_;clear hb hbox hg;have hcz35_0:w34.cell? ⟨gb705,0,none⟩=some (.int .i64 a0_0):=(blk_cell BK705.out 0).trans rfl;have hcz35_1:w34.cell? ⟨gb705,1,none⟩=some (.bool a0_1):=(blk_cell BK705.out 1).trans rfl;have hcz35_2:w34.cell? ⟨gb705,2,none⟩=some (.slice A0_2 l0_2.length c0_2):=(blk_cell BK705.out 2).trans rfl;have hfz35_0:=blk_frozen BK705.out 0;have hfz35_1:=blk_frozen BK705.out 1;have hfz35_2:=blk_frozen BK705.out 2)|((with_reducible refine gate_callee (f:=96) rfl ?_);refine goesL_ (some 12) rfl rfl Try.func96 (by kernel_rfl) rfl #[.agg #[.int .i64 a0_0, .bool a0_1, .slice A0_2 l0_2.length c0_2], .slice A1 l1.length c1] rfl (by(try simp only[List.map_toArray,List.map_cons,List.map_nil]);first|done|rfl|(simp only[List.length_drop,List.length_take];rfl)) ?_;(with_reducible refine(static_Asked.calls k a0_0 a0_1 _ _ l0_2 _ _ l1 t706 _ ?side1 ?side2 ?side3 ?side4 A3.out).mono ?_);(case side1=>repeat(first|exact(Kd.C_below HR0_2.out HB.out)|(with_reducible refine Kd.C_alloc ?_ _)|(with_reducible refine Kd.C_drewN ?_ _)|(with_reducible refine Kd.C_drew ?_)));(case side2=>exact HC0_2.out);(case side3=>repeat(first|exact(Kd.C_below HR1.out HB.out)|(with_reducible refine Kd.C_alloc ?_ _)|(with_reducible refine Kd.C_drewN ?_ _)|(with_reducible refine Kd.C_drew ?_)));(case side4=>exact HC1.out);rintro e w36 ⟨rfl,hb⟩;refine⟨_,rfl,?_⟩;have n0_:=Aside0.mk (blk_below (g:=gb705) (o:= .cells #[.int .i64 a0_0, .bool a0_1, .slice A0_2 l0_2.length c0_2] 24 (0,0)) (by(with_reducible repeat(first|refine blk_drewN ?_ _|refine blk_drew ?_|refine blk_alloc ?_ _));exact BK705.out) hb);have n1_:=Aside0.mk (below_step (by repeat(first|(with_reducible first|exact HB.out|apply below_alloc|apply pw_below_drewN|apply below_drew1|refine below_set ?_ GE705.out)|exact HB.out)) hb);clear BK705;clear HB;have BK705:=n0_;have HB:=n1_;clear n0_ n1_;(try clear hb);(try clear hb2);(try clear hk);(try clear hi)))
  go_ret2
  exact⟨_,by first|rfl|(simp[errW_none,errW_some]<;>rfl)|(simp[*,errW_none,errW_some]<;>rfl),by first|exact Kd.R_nil _ _ _ _ _|exact Kd.N_nil _ _ _ _ _|exact Kd.V_nil _ _ _ _ _|exact Kd.Q_nil _ _ _ _ _|exact Kd.S_nil _ _ _ _ _,by repeat(first|(with_reducible first|exact HB.out|apply below_alloc|apply pw_below_drewN|apply below_drew1|refine below_set ?_ GE705.out)|exact HB.out)⟩
 rw[if_pos c4] at H
 have c4b0:(t706 == 0)=true:=beq_iff_eq.mpr c4
 have c4b1:(t706 != 0)=false:=bne_eq_false_iff_eq.mpr c4
 clear c4
 by_cases c5:0≤a0_0
 rotate_left
 ·rw[if_neg c5] at H
  exact absurd H (by simp)
 rw[if_pos c5] at H
 have c5b0:=eq_true c5
 have c5b1:decide (0≤a0_0)=true:=decide_eq_true c5
 clear c5
 by_cases c6:(a0_0:Int).toNat≤35184372088832
 rotate_left
 ·rw[if_neg c6] at H
  exact absurd H (by simp)
 rw[if_pos c6] at H
 have c6b0:=eq_true c6
 have c6b1:decide ((a0_0:Int).toNat≤35184372088832)=true:=decide_eq_true c6
 clear c6
 obtain⟨y707,hy707⟩: ∃ y_:List Int,y_=(List.replicate (a0_0:Int).toNat 0):=⟨_,rfl⟩
 replace H:(static_Balance.l0 k l1 y707 l0_2 (l0_2.length:Int) 0)=some (r1,r2):=by first|(rw[hy707];with_reducible exact H)|(have H2_:=(Option.bind_some _ _).symm.trans H;rw[hy707];with_reducible exact H2_)|(have H2_:=(Option.bind_some _ _).symm.trans H;with_reducible exact H2_)|with_reducible exact H|(rw[hy707];exact H)|exact H
 have Ny707:=Aside0.mk hy707
 clear hy707
 have H':=Aside0.mk H
 clear H
 go_enter Try.func150,Try.ntmps150
 go_wp2_with (first|((with_reducible refine gate_dst (N:=2) rfl ?_);refine box_event ?hg (N:=2) ?hd (cs:= #[.int .i64 a0_0, .bool a0_1, .slice A0_2 l0_2.length c0_2]) (t:=24) ?hr ?_;(case hd=>rfl);(case hg=>rfl);(case hr=>first|(go_simp;done)|(go_simp;rfl));intro gb705 hg w7 hbox hb;have n0_:=Aside0.mk (below_step (by repeat(first|(with_reducible first|exact HB.out|apply below_alloc|apply pw_below_drewN|apply below_drew1)|exact HB.out)) hb);have n1_:=Aside0.mk (hbox);have n2_:=Aside0.mk ((by rw[hg];exact(below_size (by repeat(first|(with_reducible first|exact HB.out|apply below_alloc|apply pw_below_drewN|apply below_drew1)|exact HB.out))):w.heap.size≤gb705));have n3_:=Aside0.mk ((by rw[hg];exact(below_size (by repeat(first|(with_reducible first|exact HB.out|apply below_alloc|apply pw_below_drewN|apply below_drew1)|exact HB.out))):w.heap.size≤gb705));clear HB;have HB:=n0_;have BK705:=n1_;have GW705:=n2_;have GE705:=n3_;clear n0_ n1_ n2_ n3_;clear hb hbox hg;have hcz8_0:w7.cell? ⟨gb705,0,none⟩=some (.int .i64 a0_0):=(blk_cell BK705.out 0).trans rfl;have hcz8_1:w7.cell? ⟨gb705,1,none⟩=some (.bool a0_1):=(blk_cell BK705.out 1).trans rfl;have hcz8_2:w7.cell? ⟨gb705,2,none⟩=some (.slice A0_2 l0_2.length c0_2):=(blk_cell BK705.out 2).trans rfl;have hfz8_0:=blk_frozen BK705.out 0;have hfz8_1:=blk_frozen BK705.out 1;have hfz8_2:=blk_frozen BK705.out 2)|((with_reducible refine gate_callee (f:=96) rfl ?_);refine goesL_ (some 12) rfl rfl Try.func96 (by kernel_rfl) rfl #[.agg #[.int .i64 a0_0, .bool a0_1, .slice A0_2 l0_2.length c0_2], .slice A1 l1.length c1] rfl (by(try simp only[List.map_toArray,List.map_cons,List.map_nil]);first|done|rfl|(simp only[List.length_drop,List.length_take];rfl)) ?_;(with_reducible refine(static_Asked.calls k a0_0 a0_1 _ _ l0_2 _ _ l1 t706 _ ?side1 ?side2 ?side3 ?side4 A3.out).mono ?_);(case side1=>repeat(first|exact(Kd.C_below HR0_2.out HB.out)|(with_reducible refine Kd.C_alloc ?_ _)|(with_reducible refine Kd.C_drewN ?_ _)|(with_reducible refine Kd.C_drew ?_)));(case side2=>exact HC0_2.out);(case side3=>repeat(first|exact(Kd.C_below HR1.out HB.out)|(with_reducible refine Kd.C_alloc ?_ _)|(with_reducible refine Kd.C_drewN ?_ _)|(with_reducible refine Kd.C_drew ?_)));(case side4=>exact HC1.out);rintro e w9 ⟨rfl,hb⟩;refine⟨_,rfl,?_⟩;have n0_:=Aside0.mk (blk_below (g:=gb705) (o:= .cells #[.int .i64 a0_0, .bool a0_1, .slice A0_2 l0_2.length c0_2] 24 (0,0)) (by(with_reducible repeat(first|refine blk_drewN ?_ _|refine blk_drew ?_|refine blk_alloc ?_ _));exact BK705.out) hb);have n1_:=Aside0.mk (below_step (by repeat(first|(with_reducible first|exact HB.out|apply below_alloc|apply pw_below_drewN|apply below_drew1|refine below_set ?_ GE705.out)|exact HB.out)) hb);clear BK705;clear HB;have BK705:=n0_;have HB:=n1_;clear n0_ n1_;(try clear hb);(try clear hb2);(try clear hk);(try clear hi);have hcz10_0:w9.cell? ⟨gb705,0,none⟩=some (.int .i64 a0_0):=(blk_cell BK705.out 0).trans rfl;have hcz10_1:w9.cell? ⟨gb705,1,none⟩=some (.bool a0_1):=(blk_cell BK705.out 1).trans rfl;have hcz10_2:w9.cell? ⟨gb705,2,none⟩=some (.slice A0_2 l0_2.length c0_2):=(blk_cell BK705.out 2).trans rfl;have hfz10_0:=blk_frozen BK705.out 0;have hfz10_1:=blk_frozen BK705.out 1;have hfz10_2:=blk_frozen BK705.out 2)|((with_reducible refine gate_dst (N:=18) rfl ?_);refine Kd.R_make (Kd.int .i64) _ 3 rfl (N:=18) rfl 25 _ _ rfl a0_0 rfl rfl Try.underlying25 (.int .i64 0) 8 info3 rfl (by decide) (by omega) 0 (ok:=fun _=>True) (okp:=fun _=>True) rfl (fun _ hk=>hk) trivial (of_decide_eq_true (by first|(with_reducible assumption)|assumption)) (Nat.le_trans (Nat.mul_le_mul_right _ (of_decide_eq_true (by first|(with_reducible assumption)|assumption):a0_0.toNat≤35184372088832)) (by omega)) (Below.refl _ _) (Nat.le_refl _) ?_;intro v708 w11 ho12 hb hg_ hnew_;clear hg_ hnew_;(first|rw[← Ny707.out] at ho12|(simp only[Int.reduceToNat] at ho12;rw[← Ny707.out] at ho12));have n0_:=Aside0.mk (Kd.R_lower ho12 (below_size (by repeat(first|(with_reducible first|exact HB.out|apply below_alloc|apply pw_below_drewN|apply below_drew1|refine below_set ?_ GE705.out)|exact HB.out))));have n1_:=Aside0.mk (blk_below (g:=gb705) (o:= .cells #[.int .i64 a0_0, .bool a0_1, .slice A0_2 l0_2.length c0_2] 24 (0,0)) (by(with_reducible repeat(first|refine blk_drewN ?_ _|refine blk_drew ?_|refine blk_alloc ?_ _));exact BK705.out) hb);have n2_:=Aside0.mk (below_step (by repeat(first|(with_reducible first|exact HB.out|apply below_alloc|apply pw_below_drewN|apply below_drew1|refine below_set ?_ GE705.out)|exact HB.out)) hb);clear BK705;clear HB;have HO709:=n0_;have BK705:=n1_;have HB:=n2_;clear n0_ n1_ n2_;clear hb ho12;have hcz13_0:w11.cell? ⟨gb705,0,none⟩=some (.int .i64 a0_0):=(blk_cell BK705.out 0).trans rfl;have hcz13_1:w11.cell? ⟨gb705,1,none⟩=some (.bool a0_1):=(blk_cell BK705.out 1).trans rfl;have hcz13_2:w11.cell? ⟨gb705,2,none⟩=some (.slice A0_2 l0_2.length c0_2):=(blk_cell BK705.out 2).trans rfl;have hfz13_0:=blk_frozen BK705.out 0;have hfz13_1:=blk_frozen BK705.out 1;have hfz13_2:=blk_frozen BK705.out 2))
 go_loopg [22] k (fun kq v22 w'=> ∃ (x7_1:List Int) (x22_1:Int),v22= .int .i64 x22_1∧Aside0 (static_Balance.l0 kq l1 x7_1 l0_2 (l0_2.length:Int) x22_1=some (r1,r2))∧Aside0 (kq≤k)∧Aside0 (Kd.R (Kd.int .i64) 3 w' w.heap.size (fun _=>True) v708 x7_1)∧Aside0 (w'.heap[gb705]? =some (.cells #[.int .i64 a0_0, .bool a0_1,(.slice A0_2 l0_2.length c0_2)] 24 (0,0)))∧Aside0 (Below w.heap.size w w'))
 case atStart=>exact⟨(y707),(0),(by first|rfl|(simp;done)|(simp[*];done)),H',⟨Nat.le_refl _⟩,⟨by(with_reducible repeat(first|apply Kd.R_alloc|apply Kd.R_drewN|apply Kd.R_drew));exact HO709.out⟩,⟨by(with_reducible repeat(first|refine blk_drewN ?_ _|refine blk_drew ?_|refine blk_alloc ?_ _));exact BK705.out⟩,⟨by repeat(first|(with_reducible first|exact HB.out|apply below_alloc|apply pw_below_drewN|apply below_drew1|refine below_set ?_ GE705.out)|exact HB.out)⟩⟩
 case round=>
  clear H'
  try clear c1
  try clear p2
  try clear c4
  try clear c4b0
  try clear c4b1
  try clear c5
  try clear c5b0
  try clear c5b1
  try clear c6
  try clear c6b0
  try clear c6b1
  try clear c9
  try clear hcz10_0
  try clear hcz10_1
  try clear hcz10_2
  try clear hcz13_0
  try clear hcz13_1
  try clear hcz13_2
  try clear hcz8_0
  try clear hcz8_1
  try clear hcz8_2
  try clear hfz10_0
  try clear hfz10_1
  try clear hfz10_2
  try clear hfz13_0
  try clear hfz13_1
  try clear hfz13_2
  try clear hfz8_0
  try clear hfz8_1
  try clear hfz8_2
  obtain⟨x7_1,x22_1,rfl,HA,HK1,HO_7,BK705,HB⟩:=hrel
  cases gk with
  |zero=>exact absurd HA.out (by simp[static_Balance.l0])
  |succ k1=>
   have H:=HA.out
   clear HA
   simp only[static_Balance.l0] at H
   by_cases c14:x22_1<(l0_2.length:Int)
   rotate_left
   ·rw[if_neg c14] at H
    have c14b0:decide (x22_1<(l0_2.length:Int))=false:=decide_eq_false c14
    clear c14
    simp only[Option.some.injEq,Prod.mk.injEq] at H
    obtain⟨rfl,rfl⟩:=H
    go_wp2
    go_ret2
    exact⟨_,by first|rfl|(simp[errW_none,errW_some]<;>rfl)|(simp[*,errW_none,errW_some]<;>rfl),by(with_reducible repeat(first|apply Kd.R_alloc|apply Kd.R_drewN|apply Kd.R_drew));exact HO_7.out,by repeat(first|(with_reducible first|exact HB.out|apply below_alloc|apply pw_below_drewN|apply below_drew1|refine below_set ?_ GE705.out)|exact HB.out)⟩
   rw[if_pos c14] at H
   have c14b0:decide (x22_1<(l0_2.length:Int))=true:=decide_eq_true c14
   clear c14
   by_cases c15:0≤x22_1
   rotate_left
   ·rw[if_neg c15] at H
    exact absurd H (by simp)
   rw[if_pos c15] at H
   have c15b0:decide (0≤x22_1)=true:=decide_eq_true c15
   clear c15
   by_cases c16:x22_1<(l0_2.length:Int)
   rotate_left
   ·rw[if_neg c16] at H
    exact absurd H (by simp)
   rw[if_pos c16] at H
   have c16b0:decide (x22_1<(l0_2.length:Int))=true:=decide_eq_true c16
   clear c16
   by_cases c17:0≤((rd_T74 l0_2 x22_1).f0)
   rotate_left
   ·rw[if_neg c17] at H
    exact absurd H (by simp)
   rw[if_pos c17] at H
   have c17b0:decide (0≤((rd_T74 l0_2 x22_1).f0))=true:=decide_eq_true c17
   clear c17
   by_cases c18:((rd_T74 l0_2 x22_1).f0)<(x7_1.length:Int)
   rotate_left
   ·rw[if_neg c18] at H
    exact absurd H (by simp)
   rw[if_pos c18] at H
   have c18b0:decide (((rd_T74 l0_2 x22_1).f0)<(x7_1.length:Int))=true:=decide_eq_true c18
   clear c18
   by_cases c19:x22_1<(l1.length:Int)
   rotate_left
   ·rw[if_neg c19] at H
    exact absurd H (by simp)
   rw[if_pos c19] at H
   have c19b0:decide (x22_1<(l1.length:Int))=true:=decide_eq_true c19
   clear c19
   obtain⟨y714,hy714⟩: ∃ y_:List Int,y_=(x7_1.set (((rd_T74 l0_2 x22_1).f0):Int).toNat (wrap64 ((rd x7_1 ((rd_T74 l0_2 x22_1).f0))+(rd l1 x22_1)))):=⟨_,rfl⟩
   replace H:(if 0≤((rd_T74 l0_2 x22_1).f1) then(if ((rd_T74 l0_2 x22_1).f1)<(x7_1.length:Int) then(static_Balance.l0 k1 l1 (y714.set (((rd_T74 l0_2 x22_1).f1):Int).toNat (wrap64 ((rd y714 ((rd_T74 l0_2 x22_1).f1)) - (rd l1 x22_1)))) l0_2 (l0_2.length:Int) (wrap64 (x22_1+1))) else(none)) else(none))=some (r1,r2):=by first|(rw[hy714];with_reducible exact H)|(have H2_:=(Option.bind_some _ _).symm.trans H;rw[hy714];with_reducible exact H2_)|(have H2_:=(Option.bind_some _ _).symm.trans H;with_reducible exact H2_)|with_reducible exact H|(rw[hy714];exact H)|exact H
   have Ny714:=Aside0.mk hy714
   clear hy714
   by_cases c21:0≤((rd_T74 l0_2 x22_1).f1)
   rotate_left
   ·rw[if_neg c21] at H
    exact absurd H (by simp)
   rw[if_pos c21] at H
   have c21b0:decide (0≤((rd_T74 l0_2 x22_1).f1))=true:=decide_eq_true c21
   clear c21
   by_cases c22:((rd_T74 l0_2 x22_1).f1)<(x7_1.length:Int)
   rotate_left
   ·rw[if_neg c22] at H
    exact absurd H (by simp)
   rw[if_pos c22] at H
   have c22b0:decide (((rd_T74 l0_2 x22_1).f1)<(x7_1.length:Int))=true:=decide_eq_true c22
   clear c22
   obtain⟨y717,hy717⟩: ∃ y_:List Int,y_=(y714.set (((rd_T74 l0_2 x22_1).f1):Int).toNat (wrap64 ((rd y714 ((rd_T74 l0_2 x22_1).f1)) - (rd l1 x22_1)))):=⟨_,rfl⟩
   replace H:(static_Balance.l0 k1 l1 y717 l0_2 (l0_2.length:Int) (wrap64 (x22_1+1)))=some (r1,r2):=by first|(rw[hy717];with_reducible exact H)|(have H2_:=(Option.bind_some _ _).symm.trans H;rw[hy717];with_reducible exact H2_)|(have H2_:=(Option.bind_some _ _).symm.trans H;with_reducible exact H2_)|with_reducible exact H|(rw[hy717];exact H)|exact H
   have Ny717:=Aside0.mk hy717
   clear hy717
   have H':=Aside0.mk H
   clear H
   have p710:0≤(x22_1:Int):=of_decide_eq_true (by first|(with_reducible assumption)|assumption)
   have q710:x22_1<(l0_2.length:Int):=of_decide_eq_true (by first|(with_reducible assumption)|assumption)
   obtain⟨ad710,e710,hx710_0,hx710_1,hx710_2,hx710_3⟩:=at_T74 HR0_2.out x22_1 p710 q710
   cases e710
   replace hx710_0:=(HB.out.cell (World.block_lt_of_cell? w _ hx710_0)).trans hx710_0
   replace hx710_1:=(HB.out.cell (World.block_lt_of_cell? w _ hx710_1)).trans hx710_1
   replace hx710_2:=(HB.out.cell (World.block_lt_of_cell? w _ hx710_2)).trans hx710_2
   replace hx710_3:=(HB.out.cell (World.block_lt_of_cell? w _ hx710_3)).trans hx710_3
   replace p710:=eq_true p710
   replace q710:=eq_true q710
   try go_wp2_with (first|((with_reducible refine gate_dst (N:=9) rfl ?_);refine box_event ?hg (N:=9) ?hd (cs:= #[.int .i64 0, .int .i64 0, .int .i64 0, .int .i64 0]) (t:=74) ?hr ?_;(case hd=>rfl);(case hg=>rfl);(case hr=>first|(go_simp;done)|(go_simp;rfl));intro gb711 hg w24 hbox hb;have n0_:=Aside0.mk (Kd.R_below (by(with_reducible repeat(first|apply Kd.R_alloc|apply Kd.R_drewN|apply Kd.R_drew));exact HO_7.out) hb);have n1_:=Aside0.mk (blk_below (g:=gb705) (o:= .cells #[.int .i64 a0_0, .bool a0_1, .slice (some ad710) l0_2.length c0_2] 24 (0,0)) (by(with_reducible repeat(first|refine blk_drewN ?_ _|refine blk_drew ?_|refine blk_alloc ?_ _));exact BK705.out) hb);have n2_:=Aside0.mk (below_step (by repeat(first|(with_reducible first|exact HB.out|apply below_alloc|apply pw_below_drewN|apply below_drew1|refine below_set ?_ GE705.out)|exact HB.out)) hb);have n3_:=Aside0.mk (hbox);have n4_:=Aside0.mk ((by rw[hg];exact(below_size (by repeat(first|(with_reducible first|exact HB.out|apply below_alloc|apply pw_below_drewN|apply below_drew1|refine below_set ?_ GE705.out)|exact HB.out))):w.heap.size≤gb711));have n5_:=Aside0.mk ((by rw[hg];exact(below_size (by repeat(first|(with_reducible first|exact HB.out|apply below_alloc|apply pw_below_drewN|apply below_drew1|refine below_set ?_ GE705.out)|exact HB.out))):w.heap.size≤gb711));have n6_:=Aside0.mk ((by rw[hg];exact Nat.ne_of_lt (blk_lt (g:=gb705) (o:= .cells #[.int .i64 a0_0, .bool a0_1, .slice (some ad710) l0_2.length c0_2] 24 (0,0)) (by(with_reducible repeat(first|refine blk_drewN ?_ _|refine blk_drew ?_|refine blk_alloc ?_ _));exact BK705.out)):gb705≠gb711));have n7_:=Aside0.mk ((by rw[hg];exact Nat.ne_of_gt (blk_lt (g:=gb705) (o:= .cells #[.int .i64 a0_0, .bool a0_1, .slice (some ad710) l0_2.length c0_2] 24 (0,0)) (by(with_reducible repeat(first|refine blk_drewN ?_ _|refine blk_drew ?_|refine blk_alloc ?_ _));exact BK705.out)):gb711≠gb705));clear HO_7;clear BK705;clear HB;have HO_7:=n0_;have BK705:=n1_;have HB:=n2_;have BK711:=n3_;have GW711:=n4_;have GE711:=n5_;have NB705_711:=n6_;have NB711_705:=n7_;clear n0_ n1_ n2_ n3_ n4_ n5_ n6_ n7_;clear hb hbox hg;have hnb25:=NB711_705.out;have hnc25:=NB705_711.out;have hcz26_0:w24.cell? ⟨gb711,0,none⟩=some (.int .i64 0):=(blk_cell BK711.out 0).trans rfl;have hcz26_1:w24.cell? ⟨gb711,1,none⟩=some (.int .i64 0):=(blk_cell BK711.out 1).trans rfl;have hcz26_2:w24.cell? ⟨gb711,2,none⟩=some (.int .i64 0):=(blk_cell BK711.out 2).trans rfl;have hcz26_3:w24.cell? ⟨gb711,3,none⟩=some (.int .i64 0):=(blk_cell BK711.out 3).trans rfl;have hfz26_0:=blk_frozen BK711.out 0;have hfz26_1:=blk_frozen BK711.out 1;have hfz26_2:=blk_frozen BK711.out 2;have hfz26_3:=blk_frozen BK711.out 3))
   have n0_:Aside0 (Kd.R (Kd.int .i64) 3 ((((w24.setCell ⟨gb711,0,none⟩ (.int .i64 ((rd_T74 l0_2 x22_1).f0))).setCell ⟨gb711,1,none⟩ (.int .i64 ((rd_T74 l0_2 x22_1).f1))).setCell ⟨gb711,2,none⟩ (.int .i64 ((rd_T74 l0_2 x22_1).f2))).setCell ⟨gb711,3,none⟩ (.int .i64 ((rd_T74 l0_2 x22_1).f3))) w.heap.size (fun _=>True) v708 x7_1):=⟨by(with_reducible repeat(first|apply Kd.R_alloc|apply Kd.R_drewN|apply Kd.R_drew));exact Kd.R_mono (Kd.R_far (p:=⟨gb711,3,none⟩) (Kd.R_far (p:=⟨gb711,2,none⟩) (Kd.R_far (p:=⟨gb711,1,none⟩) (Kd.R_far (p:=⟨gb711,0,none⟩) (Kd.R_types HO_7.out BK711.out (by decide)) (fun _ hk=>hk.2) (.int .i64 ((rd_T74 l0_2 x22_1).f0))) (fun _ hk=>hk.2) (.int .i64 ((rd_T74 l0_2 x22_1).f1))) (fun _ hk=>hk.2) (.int .i64 ((rd_T74 l0_2 x22_1).f2))) (fun _ hk=>hk.2) (.int .i64 ((rd_T74 l0_2 x22_1).f3))) (fun _ hk=>trivial)⟩
   have n1_:Aside0 (((((w24.setCell ⟨gb711,0,none⟩ (.int .i64 ((rd_T74 l0_2 x22_1).f0))).setCell ⟨gb711,1,none⟩ (.int .i64 ((rd_T74 l0_2 x22_1).f1))).setCell ⟨gb711,2,none⟩ (.int .i64 ((rd_T74 l0_2 x22_1).f2))).setCell ⟨gb711,3,none⟩ (.int .i64 ((rd_T74 l0_2 x22_1).f3))).heap[gb705]? =some (.cells #[.int .i64 a0_0, .bool a0_1, .slice (some ad710) l0_2.length c0_2] 24 (0,0))):=⟨by(with_reducible repeat(first|refine blk_drewN ?_ _|refine blk_drew ?_|refine blk_alloc ?_ _));refine blk_far ?_ NB705_711.out _;(with_reducible repeat(first|refine blk_drewN ?_ _|refine blk_drew ?_|refine blk_alloc ?_ _));refine blk_far ?_ NB705_711.out _;(with_reducible repeat(first|refine blk_drewN ?_ _|refine blk_drew ?_|refine blk_alloc ?_ _));refine blk_far ?_ NB705_711.out _;(with_reducible repeat(first|refine blk_drewN ?_ _|refine blk_drew ?_|refine blk_alloc ?_ _));refine blk_far ?_ NB705_711.out _;(with_reducible repeat(first|refine blk_drewN ?_ _|refine blk_drew ?_|refine blk_alloc ?_ _));exact BK705.out⟩
   have n2_:Aside0 (((((w24.setCell ⟨gb711,0,none⟩ (.int .i64 ((rd_T74 l0_2 x22_1).f0))).setCell ⟨gb711,1,none⟩ (.int .i64 ((rd_T74 l0_2 x22_1).f1))).setCell ⟨gb711,2,none⟩ (.int .i64 ((rd_T74 l0_2 x22_1).f2))).setCell ⟨gb711,3,none⟩ (.int .i64 ((rd_T74 l0_2 x22_1).f3))).heap[gb711]? =some (.cells #[.int .i64 ((rd_T74 l0_2 x22_1).f0), .int .i64 ((rd_T74 l0_2 x22_1).f1), .int .i64 ((rd_T74 l0_2 x22_1).f2), .int .i64 ((rd_T74 l0_2 x22_1).f3)] 74 (0,0))):=⟨by(with_reducible repeat(first|refine blk_drewN ?_ _|refine blk_drew ?_|refine blk_alloc ?_ _));refine blk_put (cs:= #[.int .i64 ((rd_T74 l0_2 x22_1).f0), .int .i64 ((rd_T74 l0_2 x22_1).f1), .int .i64 ((rd_T74 l0_2 x22_1).f2), .int .i64 0]) ?_ 3 _ rfl;(with_reducible repeat(first|refine blk_drewN ?_ _|refine blk_drew ?_|refine blk_alloc ?_ _));refine blk_put (cs:= #[.int .i64 ((rd_T74 l0_2 x22_1).f0), .int .i64 ((rd_T74 l0_2 x22_1).f1), .int .i64 0, .int .i64 0]) ?_ 2 _ rfl;(with_reducible repeat(first|refine blk_drewN ?_ _|refine blk_drew ?_|refine blk_alloc ?_ _));refine blk_put (cs:= #[.int .i64 ((rd_T74 l0_2 x22_1).f0), .int .i64 0, .int .i64 0, .int .i64 0]) ?_ 1 _ rfl;(with_reducible repeat(first|refine blk_drewN ?_ _|refine blk_drew ?_|refine blk_alloc ?_ _));refine blk_put (cs:= #[.int .i64 0, .int .i64 0, .int .i64 0, .int .i64 0]) ?_ 0 _ rfl;(with_reducible repeat(first|refine blk_drewN ?_ _|refine blk_drew ?_|refine blk_alloc ?_ _));exact BK711.out⟩
   have n3_:Aside0 (Below w.heap.size w ((((w24.setCell ⟨gb711,0,none⟩ (.int .i64 ((rd_T74 l0_2 x22_1).f0))).setCell ⟨gb711,1,none⟩ (.int .i64 ((rd_T74 l0_2 x22_1).f1))).setCell ⟨gb711,2,none⟩ (.int .i64 ((rd_T74 l0_2 x22_1).f2))).setCell ⟨gb711,3,none⟩ (.int .i64 ((rd_T74 l0_2 x22_1).f3)))):=⟨by repeat(first|(with_reducible first|exact HB.out|apply below_alloc|apply pw_below_drewN|apply below_drew1|refine below_set ?_ GE705.out|refine below_set ?_ GE711.out)|exact HB.out)⟩
   (try clear HO_7)
   (try clear BK705)
   (try clear BK711)
   (try clear HB)
   generalize ((((w24.setCell ⟨gb711,0,none⟩ (.int .i64 ((rd_T74 l0_2 x22_1).f0))).setCell ⟨gb711,1,none⟩ (.int .i64 ((rd_T74 l0_2 x22_1).f1))).setCell ⟨gb711,2,none⟩ (.int .i64 ((rd_T74 l0_2 x22_1).f2))).setCell ⟨gb711,3,none⟩ (.int .i64 ((rd_T74 l0_2 x22_1).f3)))=w27 at n0_ n1_ n2_ n3_ ⊢
   have HO_7:=n0_
   have BK705:=n1_
   have BK711:=n2_
   have HB:=n3_
   clear n0_ n1_ n2_ n3_
   have n0_:=Aside0.mk (Kd.R_drew HO_7.out)
   have n1_:=Aside0.mk (blk_drew BK705.out)
   have n2_:=Aside0.mk (blk_drew BK711.out)
   have n3_:=Aside0.mk (below_drew1 HB.out)
   clear HO_7
   clear BK705
   clear BK711
   clear HB
   have HO_7:=n0_
   have BK705:=n1_
   have BK711:=n2_
   have HB:=n3_
   clear n0_ n1_ n2_ n3_
   obtain⟨Ao29,co29,eo29⟩:=Kd.R_slice HO_7.out
   (first|subst eo29|(injection eo29 with f1_ f2_ f3_;have f4_:=f1_.symm;have f5_:=f3_.symm;clear f1_ f2_ f3_;subst f4_;subst f5_))
   have p712:0≤(((rd_T74 l0_2 x22_1).f0):Int):=of_decide_eq_true (by first|(with_reducible assumption)|assumption)
   have q712:((rd_T74 l0_2 x22_1).f0)<(x7_1.length:Int):=of_decide_eq_true (by first|(with_reducible assumption)|assumption)
   obtain⟨ad712,e712,hx712_0⟩:=Kd.at_int (Kd.R_reads' HO_7.out).2.2 ((rd_T74 l0_2 x22_1).f0) p712 q712
   cases e712
   replace p712:=eq_true p712
   replace q712:=eq_true q712
   have p713:0≤(x22_1:Int):=of_decide_eq_true (by first|(with_reducible assumption)|assumption)
   have q713:x22_1<(l1.length:Int):=of_decide_eq_true (by first|(with_reducible assumption)|assumption)
   obtain⟨ad713,e713,hx713_0⟩:=Kd.at_int HR1.out x22_1 p713 q713
   have hw713_0:=hx713_0
   cases e713
   replace hx713_0:=(HB.out.cell (World.block_lt_of_cell? w _ hx713_0)).trans hx713_0
   replace p713:=eq_true p713
   replace q713:=eq_true q713
   have p20:0≤(((rd_T74 l0_2 x22_1).f0):Int):=of_decide_eq_true (by first|(with_reducible assumption)|assumption)
   have q20:(((rd_T74 l0_2 x22_1).f0):Int)<((x7_1.length:Int):Int):=of_decide_eq_true (by first|(with_reducible assumption)|assumption)
   obtain⟨go20,co20,eo20,gb20,gl20,cl20,HG20⟩:=Kd.R_form HO_7.out (by omega)
   (first|cases eo20|(injection eo20 with ea_ en_ ec_;(first|subst ea_|(injection ea_ with ea_;subst ea_));subst ec_;clear en_))
   have GB20:=Aside0.mk gb20
   have GG20:=Aside0.mk HG20
   clear gb20 gl20 HG20
   (first|simp only[add_plain] at hx712_0|skip)
   obtain⟨hx20_0,hf20_0⟩:=Kd.R_celln 0 HO_7.out (((rd_T74 l0_2 x22_1).f0):Int) p20 q20
   replace p20:=eq_true p20
   replace q20:=eq_true q20
   have HP30:=Kd.R_putn HO_7.out (((rd_T74 l0_2 x22_1).f0):Int) (wrap64 ((rd x7_1 ((rd_T74 l0_2 x22_1).f0))+(rd l1 x22_1)))
   rw[← Ny714.out] at HP30
   have HQ30:=Aside0.mk HP30
   clear HP30
   refine start_ (n:=12) (S:=fun w'=>w'.cell? ⟨gb711,0,none⟩=some (.int .i64 ((rd_T74 l0_2 x22_1).f0))∧w'.cell? ⟨gb711,1,none⟩=some (.int .i64 ((rd_T74 l0_2 x22_1).f1))∧w'.cell? ⟨gb711,2,none⟩=some (.int .i64 ((rd_T74 l0_2 x22_1).f2))∧w'.cell? ⟨gb711,3,none⟩=some (.int .i64 ((rd_T74 l0_2 x22_1).f3))∧w'.cell? ⟨go20,(((rd_T74 l0_2 x22_1).f0)).toNat,none⟩=some (.int .i64 (rd x7_1 ((rd_T74 l0_2 x22_1).f0)))∧w'.cell? (ad713.add (x22_1).toNat)=some (.int .i64 (rd l1 x22_1))) (ds:=[11]) #[false,false,false,false,false,false,false,false,false,false,false,false] (by kernel_rfl) rfl rfl ⟨(blk_cell BK711.out 0).trans rfl,(blk_cell BK711.out 1).trans rfl,(blk_cell BK711.out 2).trans rfl,(blk_cell BK711.out 3).trans rfl,hx712_0,((HB.out.cell (World.block_lt_of_cell? w _ hw713_0)).trans hw713_0)⟩ (fun hHeld=> ?_);refine with_tabW static_Balance.tab8 static_Balance.bits8 (fun HT_ HW_=> ?_)
   generalize w27.drew=w28 at HO_7 BK705 BK711 HB GG20 HQ30 hf20_0 hx20_0 hx712_0 hx713_0 hHeld ⊢
   refine pure_ (i:=0) (N:=some 27) (v:= ?_) (a':= ?_) #[true,false,false,false,false,false,false,false,false,false,false,false] rfl rfl (any_of HT_.out (by kernel_rfl)) (fun _ _ _ h=>h) (Or.inl ⟨by rfl,?_⟩) ?_ ?_
   rotate_left
   ·intro w'
    go_simp
    with_reducible rfl
   rotate_left
   ·simp only[Act.put,List.setIfInBounds_toArray,List.set_cons_zero,List.set_cons_succ,i64_w,i32_w]
    rfl
   refine pure_ (i:=1) (N:=some 28) (v:= ?_) (a':= ?_) #[true,true,false,false,false,false,false,false,false,false,false,false] rfl rfl (any_of HT_.out (by kernel_rfl)) (fun _ _ _ h=>h) (Or.inl ⟨by rfl,?_⟩) ?_ ?_
   rotate_left
   ·intro w'
    go_simp
    with_reducible rfl
   rotate_left
   ·simp only[Act.put,List.setIfInBounds_toArray,List.set_cons_zero,List.set_cons_succ,i64_w,i32_w]
    rfl
   refine pure_ (i:=5) (N:=some 32) (v:= ?_) (a':= ?_) #[true,true,false,false,false,true,false,false,false,false,false,false] rfl rfl (any_of HT_.out (by kernel_rfl)) (fun _ _ _ h=>h) (Or.inl ⟨by rfl,?_⟩) ?_ ?_
   rotate_left
   ·intro w'
    go_simp
    with_reducible rfl
   rotate_left
   ·simp only[Act.put,List.setIfInBounds_toArray,List.set_cons_zero,List.set_cons_succ,i64_w,i32_w]
    rfl
   refine pure_ (i:=6) (N:=some 33) (v:= ?_) (a':= ?_) #[true,true,false,false,false,true,true,false,false,false,false,false] rfl rfl (any_of HT_.out (by kernel_rfl)) (fun _ _ _ h=>h) (Or.inl ⟨by rfl,?_⟩) ?_ ?_
   rotate_left
   ·intro w'
    go_simp
    with_reducible rfl
   rotate_left
   ·simp only[Act.put,List.setIfInBounds_toArray,List.set_cons_zero,List.set_cons_succ,i64_w,i32_w]
    rfl
   refine pure_ (i:=7) (N:=some 34) (v:= ?_) (a':= ?_) #[true,true,false,false,false,true,true,true,false,false,false,false] rfl rfl (any_of HT_.out (by kernel_rfl)) (fun _ _ _ h=>h) (Or.inl ⟨by rfl,?_⟩) ?_ ?_
   rotate_left
   ·intro w'
    go_simp
    with_reducible rfl
   rotate_left
   ·simp only[Act.put,List.setIfInBounds_toArray,List.set_cons_zero,List.set_cons_succ,i64_w,i32_w]
    rfl
   refine take_ (i:=2) (N:=some 29) (v:= ?_) (a':= ?_) #[true,true,true,false,false,true,true,true,false,false,false,false] rfl rfl (take_ofW HT_.out HW_.out (by kernel_rfl)) (fun _ _ _ h=>h) (Or.inl ⟨by rfl,?_⟩) hHeld ?_ ?_
   rotate_left
   ·rintro w' ⟨s0,s1,s2,s3,s4,s5⟩
    go_simp
    with_reducible rfl
   rotate_left
   ·simp only[Act.put,List.setIfInBounds_toArray,List.set_cons_zero,List.set_cons_succ,i64_w,i32_w]
    rfl
   refine pure_ (i:=3) (N:=some 30) (v:= ?_) (a':= ?_) #[true,true,true,true,false,true,true,true,false,false,false,false] rfl rfl (any_of HT_.out (by kernel_rfl)) (fun _ _ _ h=>h) (Or.inl ⟨by rfl,?_⟩) ?_ ?_
   rotate_left
   ·intro w'
    go_simp
    with_reducible rfl
   rotate_left
   ·simp only[Act.put,List.setIfInBounds_toArray,List.set_cons_zero,List.set_cons_succ,i64_w,i32_w]
    rfl
   refine take_ (i:=4) (N:=some 31) (v:= ?_) (a':= ?_) #[true,true,true,true,true,true,true,true,false,false,false,false] rfl rfl (take_ofW HT_.out HW_.out (by kernel_rfl)) (fun _ _ _ h=>h) (Or.inl ⟨by rfl,?_⟩) hHeld ?_ ?_
   rotate_left
   ·rintro w' ⟨s0,s1,s2,s3,s4,s5⟩
    go_simp
    with_reducible rfl
   rotate_left
   ·simp only[Act.put,List.setIfInBounds_toArray,List.set_cons_zero,List.set_cons_succ,i64_w,i32_w]
    rfl
   refine take_ (i:=8) (N:=some 35) (v:= ?_) (a':= ?_) #[true,true,true,true,true,true,true,true,true,false,false,false] rfl rfl (take_ofW HT_.out HW_.out (by kernel_rfl)) (fun _ _ _ h=>h) (Or.inl ⟨by rfl,?_⟩) hHeld ?_ ?_
   rotate_left
   ·rintro w' ⟨s0,s1,s2,s3,s4,s5⟩
    go_simp
    with_reducible rfl
   rotate_left
   ·simp only[Act.put,List.setIfInBounds_toArray,List.set_cons_zero,List.set_cons_succ,i64_w,i32_w]
    rfl
   refine pure_ (i:=9) (N:=some 36) (v:= ?_) (a':= ?_) #[true,true,true,true,true,true,true,true,true,true,false,false] rfl rfl (any_of HT_.out (by kernel_rfl)) (fun _ _ _ h=>h) (Or.inl ⟨by rfl,?_⟩) ?_ ?_
   rotate_left
   ·intro w'
    go_simp
    with_reducible rfl
   rotate_left
   ·simp only[Act.put,List.setIfInBounds_toArray,List.set_cons_zero,List.set_cons_succ,i64_w,i32_w]
    rfl
   refine pure_ (i:=10) (N:=some 37) (v:= ?_) (a':= ?_) #[true,true,true,true,true,true,true,true,true,true,true,false] rfl rfl (any_of HT_.out (by kernel_rfl)) (fun _ _ _ h=>h) (Or.inl ⟨by rfl,?_⟩) ?_ ?_
   rotate_left
   ·intro w'
    go_simp
    with_reducible rfl
   rotate_left
   ·simp only[Act.put,List.setIfInBounds_toArray,List.set_cons_zero,List.set_cons_succ,i64_w,i32_w]
    rfl
   refine last_ (i:=11) (N:=none) #[true,true,true,true,true,true,true,true,true,true,true,true] rfl rfl (one_of HT_.out (by kernel_rfl)) (by decide) (fun K hK=> ?_)
   refine skip_ (w1:= ?_) (by rfl) rfl ?_ ?_
   rotate_left
   ·go_simp
    rfl
   refine hK.out _ _ ?_
   clear hK K
   refine done_ (done_of HT_.out (by kernel_rfl)) ?_
   try go_wp2
   have n0_:Aside0 (Kd.R (Kd.int .i64) 3 (w28.setCell ⟨go20,(((rd_T74 l0_2 x22_1).f0):Int).toNat,none⟩ (.int .i64 (wrap64 ((rd x7_1 ((rd_T74 l0_2 x22_1).f0))+(rd l1 x22_1))))) w.heap.size (fun _=>True) (.slice (some ⟨go20,0,none⟩) x7_1.length co29) y714):=⟨by(with_reducible repeat(first|apply Kd.R_alloc|apply Kd.R_drewN|apply Kd.R_drew));exact HQ30.out⟩
   have n1_:Aside0 ((w28.setCell ⟨go20,(((rd_T74 l0_2 x22_1).f0):Int).toNat,none⟩ (.int .i64 (wrap64 ((rd x7_1 ((rd_T74 l0_2 x22_1).f0))+(rd l1 x22_1))))).heap[gb705]? =some (.cells #[.int .i64 a0_0, .bool a0_1, .slice (some ad710) l0_2.length c0_2] 24 (0,0))):=⟨by(with_reducible repeat(first|refine blk_drewN ?_ _|refine blk_drew ?_|refine blk_alloc ?_ _));refine blk_far ?_ (by have h_:=Kd.R_ne HO_7.out BK705.out (by decide);intro e_;exact h_ (by rw[e_];rfl)) _;(with_reducible repeat(first|refine blk_drewN ?_ _|refine blk_drew ?_|refine blk_alloc ?_ _));exact BK705.out⟩
   have n2_:Aside0 ((w28.setCell ⟨go20,(((rd_T74 l0_2 x22_1).f0):Int).toNat,none⟩ (.int .i64 (wrap64 ((rd x7_1 ((rd_T74 l0_2 x22_1).f0))+(rd l1 x22_1))))).heap[gb711]? =some (.cells #[.int .i64 ((rd_T74 l0_2 x22_1).f0), .int .i64 ((rd_T74 l0_2 x22_1).f1), .int .i64 ((rd_T74 l0_2 x22_1).f2), .int .i64 ((rd_T74 l0_2 x22_1).f3)] 74 (0,0))):=⟨by(with_reducible repeat(first|refine blk_drewN ?_ _|refine blk_drew ?_|refine blk_alloc ?_ _));refine blk_far ?_ (by have h_:=Kd.R_ne HO_7.out BK711.out (by decide);intro e_;exact h_ (by rw[e_];rfl)) _;(with_reducible repeat(first|refine blk_drewN ?_ _|refine blk_drew ?_|refine blk_alloc ?_ _));exact BK711.out⟩
   have n3_:Aside0 (Below w.heap.size w (w28.setCell ⟨go20,(((rd_T74 l0_2 x22_1).f0):Int).toNat,none⟩ (.int .i64 (wrap64 ((rd x7_1 ((rd_T74 l0_2 x22_1).f0))+(rd l1 x22_1)))))):=⟨by repeat(first|(with_reducible first|exact HB.out|apply below_alloc|apply pw_below_drewN|apply below_drew1|refine below_set ?_ GB20.out|refine below_set ?_ GE705.out|refine below_set ?_ GE711.out)|exact HB.out)⟩
   (try clear HO_7)
   (try clear BK705)
   (try clear BK711)
   (try clear HB)
   generalize (w28.setCell ⟨go20,(((rd_T74 l0_2 x22_1).f0):Int).toNat,none⟩ (.int .i64 (wrap64 ((rd x7_1 ((rd_T74 l0_2 x22_1).f0))+(rd l1 x22_1)))))=w31 at n0_ n1_ n2_ n3_ ⊢
   have HO_7:=n0_
   have BK705:=n1_
   have BK711:=n2_
   have HB:=n3_
   clear n0_ n1_ n2_ n3_
   have n0_:=Aside0.mk (Kd.R_drew HO_7.out)
   have n1_:=Aside0.mk (blk_drew BK705.out)
   have n2_:=Aside0.mk (blk_drew BK711.out)
   have n3_:=Aside0.mk (below_drew1 HB.out)
   clear HO_7
   clear BK705
   clear BK711
   clear HB
   have HO_7:=n0_
   have BK705:=n1_
   have BK711:=n2_
   have HB:=n3_
   clear n0_ n1_ n2_ n3_
   have p715:0≤(((rd_T74 l0_2 x22_1).f1):Int):=of_decide_eq_true (by first|(with_reducible assumption)|assumption)
   have q715:((rd_T74 l0_2 x22_1).f1)<(y714.length:Int):=(by have h_:(((rd_T74 l0_2 x22_1).f1):Int)<((x7_1.length:Int):Int):=of_decide_eq_true (by first|(with_reducible assumption)|assumption);first|(have e_:=(Kd.R_reads' HO_7.out).1;omega)|simpa only[Ny714.out,List.length_set] using h_)
   have ql715:((((rd_T74 l0_2 x22_1).f1):Int)<((x7_1.length:Int):Int))=True:=eq_true (of_decide_eq_true (by first|(with_reducible assumption)|assumption))
   obtain⟨ad715,e715,hx715_0⟩:=Kd.at_int (Kd.R_reads' HO_7.out).2.2 ((rd_T74 l0_2 x22_1).f1) p715 q715
   obtain rfl:(⟨go20,0,none⟩:Addr)=ad715:=(by injection e715)
   (first|simp only[add_plain] at hx715_0|simp only[add_at] at hx715_0|simp only[Addr.add,Nat.zero_add] at hx715_0|skip)
   replace p715:=eq_true p715
   replace q715:=eq_true q715
   have p716:0≤(x22_1:Int):=of_decide_eq_true (by first|(with_reducible assumption)|assumption)
   have q716:x22_1<(l1.length:Int):=of_decide_eq_true (by first|(with_reducible assumption)|assumption)
   obtain⟨ad716,e716,hx716_0⟩:=Kd.at_int HR1.out x22_1 p716 q716
   have hw716_0:=hx716_0
   obtain rfl:ad713=ad716:=(by injection e716)
   replace hx716_0:=(HB.out.cell (World.block_lt_of_cell? w _ hx716_0)).trans hx716_0
   replace p716:=eq_true p716
   replace q716:=eq_true q716
   have p23:0≤(((rd_T74 l0_2 x22_1).f1):Int):=of_decide_eq_true (by first|(with_reducible assumption)|assumption)
   have q23:(((rd_T74 l0_2 x22_1).f1):Int)<((x7_1.length:Int):Int):=of_decide_eq_true (by first|(with_reducible assumption)|assumption)
   obtain⟨hx23_0,hf23_0⟩:=Kd.R_celln 0 HO_7.out (((rd_T74 l0_2 x22_1).f1):Int) p23 q23
   replace p23:=eq_true p23
   replace q23:=eq_true q23
   have HP33:=Kd.R_putn HO_7.out (((rd_T74 l0_2 x22_1).f1):Int) (wrap64 ((rd y714 ((rd_T74 l0_2 x22_1).f1)) - (rd l1 x22_1)))
   rw[← Ny717.out] at HP33
   have HQ33:=Aside0.mk HP33
   clear HP33
   refine start_ (n:=12) (S:=fun w'=>w'.cell? ⟨gb711,0,none⟩=some (.int .i64 ((rd_T74 l0_2 x22_1).f0))∧w'.cell? ⟨gb711,1,none⟩=some (.int .i64 ((rd_T74 l0_2 x22_1).f1))∧w'.cell? ⟨gb711,2,none⟩=some (.int .i64 ((rd_T74 l0_2 x22_1).f2))∧w'.cell? ⟨gb711,3,none⟩=some (.int .i64 ((rd_T74 l0_2 x22_1).f3))∧w'.cell? ⟨go20,(((rd_T74 l0_2 x22_1).f1)).toNat,none⟩=some (.int .i64 (rd y714 ((rd_T74 l0_2 x22_1).f1)))∧w'.cell? (ad713.add (x22_1).toNat)=some (.int .i64 (rd l1 x22_1))) (ds:=[11]) #[false,false,false,false,false,false,false,false,false,false,false,false] (by kernel_rfl) rfl rfl ⟨(blk_cell BK711.out 0).trans rfl,(blk_cell BK711.out 1).trans rfl,(blk_cell BK711.out 2).trans rfl,(blk_cell BK711.out 3).trans rfl,hx715_0,((HB.out.cell (World.block_lt_of_cell? w _ hw716_0)).trans hw716_0)⟩ (fun hHeld=> ?_);refine with_tabW static_Balance.tab9 static_Balance.bits9 (fun HT_ HW_=> ?_)
   generalize w31.drew=w32 at HO_7 BK705 BK711 HB HQ30 HQ33 hf23_0 hx23_0 hx715_0 hx716_0 hHeld ⊢
   refine pure_ (i:=0) (N:=some 38) (v:= ?_) (a':= ?_) #[true,false,false,false,false,false,false,false,false,false,false,false] rfl rfl (any_of HT_.out (by kernel_rfl)) (fun _ _ _ h=>h) (Or.inl ⟨by rfl,?_⟩) ?_ ?_
   rotate_left
   ·intro w'
    go_simp
    with_reducible rfl
   rotate_left
   ·simp only[Act.put,List.setIfInBounds_toArray,List.set_cons_zero,List.set_cons_succ,i64_w,i32_w]
    rfl
   refine pure_ (i:=1) (N:=some 39) (v:= ?_) (a':= ?_) #[true,true,false,false,false,false,false,false,false,false,false,false] rfl rfl (any_of HT_.out (by kernel_rfl)) (fun _ _ _ h=>h) (Or.inl ⟨by rfl,?_⟩) ?_ ?_
   rotate_left
   ·intro w'
    go_simp
    with_reducible rfl
   rotate_left
   ·simp only[Act.put,List.setIfInBounds_toArray,List.set_cons_zero,List.set_cons_succ,i64_w,i32_w]
    rfl
   refine pure_ (i:=5) (N:=some 43) (v:= ?_) (a':= ?_) #[true,true,false,false,false,true,false,false,false,false,false,false] rfl rfl (any_of HT_.out (by kernel_rfl)) (fun _ _ _ h=>h) (Or.inl ⟨by rfl,?_⟩) ?_ ?_
   rotate_left
   ·intro w'
    go_simp
    with_reducible rfl
   rotate_left
   ·simp only[Act.put,List.setIfInBounds_toArray,List.set_cons_zero,List.set_cons_succ,i64_w,i32_w]
    rfl
   refine pure_ (i:=6) (N:=some 44) (v:= ?_) (a':= ?_) #[true,true,false,false,false,true,true,false,false,false,false,false] rfl rfl (any_of HT_.out (by kernel_rfl)) (fun _ _ _ h=>h) (Or.inl ⟨by rfl,?_⟩) ?_ ?_
   rotate_left
   ·intro w'
    go_simp
    with_reducible rfl
   rotate_left
   ·simp only[Act.put,List.setIfInBounds_toArray,List.set_cons_zero,List.set_cons_succ,i64_w,i32_w]
    rfl
   refine pure_ (i:=7) (N:=some 45) (v:= ?_) (a':= ?_) #[true,true,false,false,false,true,true,true,false,false,false,false] rfl rfl (any_of HT_.out (by kernel_rfl)) (fun _ _ _ h=>h) (Or.inl ⟨by rfl,?_⟩) ?_ ?_
   rotate_left
   ·intro w'
    go_simp
    with_reducible rfl
   rotate_left
   ·simp only[Act.put,List.setIfInBounds_toArray,List.set_cons_zero,List.set_cons_succ,i64_w,i32_w]
    rfl
   refine take_ (i:=2) (N:=some 40) (v:= ?_) (a':= ?_) #[true,true,true,false,false,true,true,true,false,false,false,false] rfl rfl (take_ofW HT_.out HW_.out (by kernel_rfl)) (fun _ _ _ h=>h) (Or.inl ⟨by rfl,?_⟩) hHeld ?_ ?_
   rotate_left
   ·rintro w' ⟨s0,s1,s2,s3,s4,s5⟩
    go_simp
    with_reducible rfl
   rotate_left
   ·simp only[Act.put,List.setIfInBounds_toArray,List.set_cons_zero,List.set_cons_succ,i64_w,i32_w]
    rfl
   refine pure_ (i:=3) (N:=some 41) (v:= ?_) (a':= ?_) #[true,true,true,true,false,true,true,true,false,false,false,false] rfl rfl (any_of HT_.out (by kernel_rfl)) (fun _ _ _ h=>h) (Or.inl ⟨by rfl,?_⟩) ?_ ?_
   rotate_left
   ·intro w'
    go_simp
    with_reducible rfl
   rotate_left
   ·simp only[Act.put,List.setIfInBounds_toArray,List.set_cons_zero,List.set_cons_succ,i64_w,i32_w]
    rfl
   refine take_ (i:=4) (N:=some 42) (v:= ?_) (a':= ?_) #[true,true,true,true,true,true,true,true,false,false,false,false] rfl rfl (take_ofW HT_.out HW_.out (by kernel_rfl)) (fun _ _ _ h=>h) (Or.inl ⟨by rfl,?_⟩) hHeld ?_ ?_
   rotate_left
   ·rintro w' ⟨s0,s1,s2,s3,s4,s5⟩
    go_simp
    with_reducible rfl
   rotate_left
   ·simp only[Act.put,List.setIfInBounds_toArray,List.set_cons_zero,List.set_cons_succ,i64_w,i32_w]
    rfl
   refine take_ (i:=8) (N:=some 46) (v:= ?_) (a':= ?_) #[true,true,true,true,true,true,true,true,true,false,false,false] rfl rfl (take_ofW HT_.out HW_.out (by kernel_rfl)) (fun _ _ _ h=>h) (Or.inl ⟨by rfl,?_⟩) hHeld ?_ ?_
   rotate_left
   ·rintro w' ⟨s0,s1,s2,s3,s4,s5⟩
    go_simp
    with_reducible rfl
   rotate_left
   ·simp only[Act.put,List.setIfInBounds_toArray,List.set_cons_zero,List.set_cons_succ,i64_w,i32_w]
    rfl
   refine pure_ (i:=9) (N:=some 47) (v:= ?_) (a':= ?_) #[true,true,true,true,true,true,true,true,true,true,false,false] rfl rfl (any_of HT_.out (by kernel_rfl)) (fun _ _ _ h=>h) (Or.inl ⟨by rfl,?_⟩) ?_ ?_
   rotate_left
   ·intro w'
    go_simp
    with_reducible rfl
   rotate_left
   ·simp only[Act.put,List.setIfInBounds_toArray,List.set_cons_zero,List.set_cons_succ,i64_w,i32_w]
    rfl
   refine pure_ (i:=10) (N:=some 48) (v:= ?_) (a':= ?_) #[true,true,true,true,true,true,true,true,true,true,true,false] rfl rfl (any_of HT_.out (by kernel_rfl)) (fun _ _ _ h=>h) (Or.inl ⟨by rfl,?_⟩) ?_ ?_
   rotate_left
   ·intro w'
    go_simp
    with_reducible rfl
   rotate_left
   ·simp only[Act.put,List.setIfInBounds_toArray,List.set_cons_zero,List.set_cons_succ,i64_w,i32_w]
    rfl
   refine last_ (i:=11) (N:=none) #[true,true,true,true,true,true,true,true,true,true,true,true] rfl rfl (one_of HT_.out (by kernel_rfl)) (by decide) (fun K hK=> ?_)
   refine skip_ (w1:= ?_) (by rfl) rfl ?_ ?_
   rotate_left
   ·go_simp
    rfl
   refine hK.out _ _ ?_
   clear hK K
   refine done_ (done_of HT_.out (by kernel_rfl)) ?_
   try go_wp2
   go_roundg k1
   case measure=>have:=HK1.out;omega
   case rel=>exact⟨(y717),(wrap64 (x22_1+1)),(by first|rfl|(simp;done)|(simp[*];done)),H',⟨by have:=HK1.out;omega⟩,⟨by(with_reducible repeat(first|apply Kd.R_alloc|apply Kd.R_drewN|apply Kd.R_drew));exact HQ33.out⟩,⟨by(with_reducible repeat(first|refine blk_drewN ?_ _|refine blk_drew ?_|refine blk_alloc ?_ _));refine blk_far ?_ (by have h_:=Kd.R_ne HO_7.out BK705.out (by decide);intro e_;exact h_ (by rw[e_];rfl)) _;(with_reducible repeat(first|refine blk_drewN ?_ _|refine blk_drew ?_|refine blk_alloc ?_ _));exact BK705.out⟩,⟨by repeat(first|(with_reducible first|exact HB.out|apply below_alloc|apply pw_below_drewN|apply below_drew1|refine below_set ?_ GB20.out|refine below_set ?_ GE705.out|refine below_set ?_ GE711.out)|exact HB.out)⟩⟩
end Go.Proofs.Ytkcpanpdipmmmaa.P
namespace Go.Proofs.Ytkcpanpdipmmmaa.P
open Go.RowKit Go.Proofs.YtkcpanpdipmmmaaW.PrintWords Go.Proofs.YtkcpanpdipmmmaaW.PrintLast Go.Proofs.YtkcpanpdipmmmaaW.PrintMore
attribute [local go_sem] max2_int min2_int max_two min_two max_three min_three max_four min_four
def static_Check.l0:Nat→Int→Int→List Int→List Int→Int→Int→Option (Int × Int)
 |0,_,_,_,_,_,_=>none
 |k+1,x1,x2,x10,x29,x30,x31=>if x31<x30 then(if 0≤x31 then(if x31<(x29.length:Int) then(if (rd x29 x31)=0 then(static_Check.l0 k x1 x2 x10 x29 x30 (wrap64 (x31+1))) else(if x31=x1 then(static_Check.l0 k x1 x2 x10 x29 x30 (wrap64 (x31+1))) else(if x31=x2 then(static_Check.l0 k x1 x2 x10 x29 x30 (wrap64 (x31+1))) else(some (0,71))))) else(none)) else(none)) else(if 0≤x1 then(if x1<(x10.length:Int) then(some (rd x10 x1,0)) else(none)) else(none))
def static_Check.f (k:Nat) (a0_0:Int) (a0_1:Bool) (l0_2:List (S74)) (a1:Int) (a2:Int) (l3:List Int):Option (Int × Int):=(static_Ends.f k a0_0 a0_1 l0_2 a1 a2).bind fun t719=>(if t719=0 then((static_Balance.f k a0_0 a0_1 l0_2 l3).bind fun bt720=>(if bt720.2=0 then(static_Check.l0 k a1 a2 bt720.1 bt720.1 (bt720.1.length:Int) 0) else(some (0,bt720.2)))) else(some (0,t719)))
set_option maxHeartbeats 8000000 in
set_option maxRecDepth 100000 in
theorem static_Check.calls (k:Nat) (a0_0:Int) (a0_1:Bool) (A0_2:Option Addr) (c0_2:Nat) (l0_2:List (S74)) (a1:Int) (a2:Int) (A3:Option Addr) (c3:Nat) (l3:List Int) (r1:Int) (r2:Int) (w:World) (hr0_2:Kd.C k74 w A0_2 l0_2.length l0_2) (hc0_2:l0_2.length≤c0_2) (hr3:Kd.C (Kd.int .i64) w A3 l3.length l3) (hc3:l3.length≤c3) (h:static_Check.f k a0_0 a0_1 l0_2 a1 a2 l3=some (r1,r2)):
  Calls Try.prog 115 #[.agg #[.int .i64 a0_0, .bool a0_1, .slice A0_2 l0_2.length c0_2], .int .i64 a1, .int .i64 a2, .slice A3 l3.length c3] w fun e w'=>e= .returned (.tuple #[.int .i64 r1, .int .i64 r2])∧Below w.heap.size w w':=by
 have hu24:=Try.underlying24
 have HR0_2:=Aside0.mk hr0_2
 have HC0_2:=Aside0.mk hc0_2
 clear hr0_2 hc0_2
 have HR3:=Aside0.mk hr3
 have HC3:=Aside0.mk hc3
 clear hr3 hc3
 have HB:=Aside0.mk (Below.refl w.heap.size w)
 have H:((static_Ends.f k a0_0 a0_1 l0_2 a1 a2).bind fun t719=>(if t719=0 then((static_Balance.f k a0_0 a0_1 l0_2 l3).bind fun bt720=>(if bt720.2=0 then(static_Check.l0 k a1 a2 bt720.1 bt720.1 (bt720.1.length:Int) 0) else(some (0,bt720.2)))) else(some (0,t719))))=some (r1,r2):=h
 clear h
 replace H:=Option.bind_eq_some_iff.mp H
 obtain⟨t719,A50,H⟩:=H
 replace H:(if t719=0 then((static_Balance.f k a0_0 a0_1 l0_2 l3).bind fun bt720=>(if bt720.2=0 then(static_Check.l0 k a1 a2 bt720.1 bt720.1 (bt720.1.length:Int) 0) else(some (0,bt720.2)))) else(some (0,t719)))=some (r1,r2):=H
 have A5:=Aside0.mk A50
 clear A50
 by_cases c6:t719=0
 rotate_left
 ·rw[if_neg c6] at H
  have c6b0:(t719 == 0)=false:=beq_eq_false_iff_ne.mpr c6
  have c6b1:(t719 != 0)=true:=bne_iff_ne.mpr c6
  simp only[Option.some.injEq,Prod.mk.injEq] at H
  obtain⟨rfl,rfl⟩:=H
  go_enter Try.func115,Try.ntmps115
  go_wp2_with (first|((with_reducible refine gate_dst (N:=4) rfl ?_);refine box_event ?hg (N:=4) ?hd (cs:= #[.int .i64 a0_0, .bool a0_1, .slice A0_2 l0_2.length c0_2]) (t:=24) ?hr ?_;(case hd=>rfl);(case hg=>rfl);(case hr=>first|(go_simp;done)|(go_simp;rfl));intro gb718 hg w28 hbox hb;have n0_:=Aside0.mk (below_step (by repeat(first|(with_reducible first|exact HB.out|apply below_alloc|apply pw_below_drewN|apply below_drew1)|exact HB.out)) hb);have n1_:=Aside0.mk (hbox);have n2_:=Aside0.mk ((by rw[hg];exact(below_size (by repeat(first|(with_reducible first|exact HB.out|apply below_alloc|apply pw_below_drewN|apply below_drew1)|exact HB.out))):w.heap.size≤gb718));have n3_:=Aside0.mk ((by rw[hg];exact(below_size (by repeat(first|(with_reducible first|exact HB.out|apply below_alloc|apply pw_below_drewN|apply below_drew1)|exact HB.out))):w.heap.size≤gb718));clear HB;have HB:=n0_;have BK718:=n1_;have GW718:=n2_;have GE718:=n3_;clear n0_ n1_ n2_ n3_;clear hb hbox hg;have hcz29_0:w28.cell? ⟨gb718,0,none⟩=some (.int .i64 a0_0):=(blk_cell BK718.out 0).trans rfl;have hcz29_1:w28.cell? ⟨gb718,1,none⟩=some (.bool a0_1):=(blk_cell BK718.out 1).trans rfl;have hcz29_2:w28.cell? ⟨gb718,2,none⟩=some (.slice A0_2 l0_2.length c0_2):=(blk_cell BK718.out 2).trans rfl;have hfz29_0:=blk_frozen BK718.out 0;have hfz29_1:=blk_frozen BK718.out 1;have hfz29_2:=blk_frozen BK718.out 2)|((with_reducible refine gate_callee (f:=111) rfl ?_);refine goesL_ (some 16) rfl rfl Try.func111 (by kernel_rfl) rfl #[.agg #[.int .i64 a0_0, .bool a0_1, .slice A0_2 l0_2.length c0_2], .int .i64 a1, .int .i64 a2] rfl (by(try simp only[List.map_toArray,List.map_cons,List.map_nil]);first|done|rfl|(simp only[List.length_drop,List.length_take];rfl)) ?_;(with_reducible refine(static_Ends.calls k a0_0 a0_1 _ _ l0_2 a1 a2 t719 _ ?side1 ?side2 A5.out).mono ?_);(case side1=>repeat(first|exact(Kd.C_below HR0_2.out HB.out)|(with_reducible refine Kd.C_alloc ?_ _)|(with_reducible refine Kd.C_drewN ?_ _)|(with_reducible refine Kd.C_drew ?_)));(case side2=>exact HC0_2.out);rintro e w30 ⟨rfl,hb⟩;refine⟨_,rfl,?_⟩;have n0_:=Aside0.mk (blk_below (g:=gb718) (o:= .cells #[.int .i64 a0_0, .bool a0_1, .slice A0_2 l0_2.length c0_2] 24 (0,0)) (by(with_reducible repeat(first|refine blk_drewN ?_ _|refine blk_drew ?_|refine blk_alloc ?_ _));exact BK718.out) hb);have n1_:=Aside0.mk (below_step (by repeat(first|(with_reducible first|exact HB.out|apply below_alloc|apply pw_below_drewN|apply below_drew1|refine below_set ?_ GE718.out)|exact HB.out)) hb);clear BK718;clear HB;have BK718:=n0_;have HB:=n1_;clear n0_ n1_;(try clear hb);(try clear hb2);(try clear hk);(try clear hi)))
  go_ret2
  exact⟨by first|rfl|(simp[errW_none,errW_some]<;>rfl)|(simp[*,errW_none,errW_some]<;>rfl),by repeat(first|(with_reducible first|exact HB.out|apply below_alloc|apply pw_below_drewN|apply below_drew1|refine below_set ?_ GE718.out)|exact HB.out)⟩
 rw[if_pos c6] at H
 have c6b0:(t719 == 0)=true:=beq_iff_eq.mpr c6
 have c6b1:(t719 != 0)=false:=bne_eq_false_iff_eq.mpr c6
 clear c6
 replace H:=Option.bind_eq_some_iff.mp H
 obtain⟨⟨t720,t723⟩,A70,H⟩:=H
 replace H:(if t723=0 then(static_Check.l0 k a1 a2 t720 t720 (t720.length:Int) 0) else(some (0,t723)))=some (r1,r2):=H
 have A7:=Aside0.mk A70
 clear A70
 by_cases c8:t723=0
 rotate_left
 ·rw[if_neg c8] at H
  have c8b0:(t723 == 0)=false:=beq_eq_false_iff_ne.mpr c8
  have c8b1:(t723 != 0)=true:=bne_iff_ne.mpr c8
  simp only[Option.some.injEq,Prod.mk.injEq] at H
  obtain⟨rfl,rfl⟩:=H
  go_enter Try.func115,Try.ntmps115
  go_wp2_with (first|((with_reducible refine gate_dst (N:=4) rfl ?_);refine box_event ?hg (N:=4) ?hd (cs:= #[.int .i64 a0_0, .bool a0_1, .slice A0_2 l0_2.length c0_2]) (t:=24) ?hr ?_;(case hd=>rfl);(case hg=>rfl);(case hr=>first|(go_simp;done)|(go_simp;rfl));intro gb718 hg w23 hbox hb;have n0_:=Aside0.mk (below_step (by repeat(first|(with_reducible first|exact HB.out|apply below_alloc|apply pw_below_drewN|apply below_drew1)|exact HB.out)) hb);have n1_:=Aside0.mk (hbox);have n2_:=Aside0.mk ((by rw[hg];exact(below_size (by repeat(first|(with_reducible first|exact HB.out|apply below_alloc|apply pw_below_drewN|apply below_drew1)|exact HB.out))):w.heap.size≤gb718));have n3_:=Aside0.mk ((by rw[hg];exact(below_size (by repeat(first|(with_reducible first|exact HB.out|apply below_alloc|apply pw_below_drewN|apply below_drew1)|exact HB.out))):w.heap.size≤gb718));clear HB;have HB:=n0_;have BK718:=n1_;have GW718:=n2_;have GE718:=n3_;clear n0_ n1_ n2_ n3_;clear hb hbox hg;have hcz24_0:w23.cell? ⟨gb718,0,none⟩=some (.int .i64 a0_0):=(blk_cell BK718.out 0).trans rfl;have hcz24_1:w23.cell? ⟨gb718,1,none⟩=some (.bool a0_1):=(blk_cell BK718.out 1).trans rfl;have hcz24_2:w23.cell? ⟨gb718,2,none⟩=some (.slice A0_2 l0_2.length c0_2):=(blk_cell BK718.out 2).trans rfl;have hfz24_0:=blk_frozen BK718.out 0;have hfz24_1:=blk_frozen BK718.out 1;have hfz24_2:=blk_frozen BK718.out 2)|((with_reducible refine gate_callee (f:=111) rfl ?_);refine goesL_ (some 16) rfl rfl Try.func111 (by kernel_rfl) rfl #[.agg #[.int .i64 a0_0, .bool a0_1, .slice A0_2 l0_2.length c0_2], .int .i64 a1, .int .i64 a2] rfl (by(try simp only[List.map_toArray,List.map_cons,List.map_nil]);first|done|rfl|(simp only[List.length_drop,List.length_take];rfl)) ?_;(with_reducible refine(static_Ends.calls k a0_0 a0_1 _ _ l0_2 a1 a2 t719 _ ?side1 ?side2 A5.out).mono ?_);(case side1=>repeat(first|exact(Kd.C_below HR0_2.out HB.out)|(with_reducible refine Kd.C_alloc ?_ _)|(with_reducible refine Kd.C_drewN ?_ _)|(with_reducible refine Kd.C_drew ?_)));(case side2=>exact HC0_2.out);rintro e w25 ⟨rfl,hb⟩;refine⟨_,rfl,?_⟩;have n0_:=Aside0.mk (blk_below (g:=gb718) (o:= .cells #[.int .i64 a0_0, .bool a0_1, .slice A0_2 l0_2.length c0_2] 24 (0,0)) (by(with_reducible repeat(first|refine blk_drewN ?_ _|refine blk_drew ?_|refine blk_alloc ?_ _));exact BK718.out) hb);have n1_:=Aside0.mk (below_step (by repeat(first|(with_reducible first|exact HB.out|apply below_alloc|apply pw_below_drewN|apply below_drew1|refine below_set ?_ GE718.out)|exact HB.out)) hb);clear BK718;clear HB;have BK718:=n0_;have HB:=n1_;clear n0_ n1_;(try clear hb);(try clear hb2);(try clear hk);(try clear hi);have hcz26_0:w25.cell? ⟨gb718,0,none⟩=some (.int .i64 a0_0):=(blk_cell BK718.out 0).trans rfl;have hcz26_1:w25.cell? ⟨gb718,1,none⟩=some (.bool a0_1):=(blk_cell BK718.out 1).trans rfl;have hcz26_2:w25.cell? ⟨gb718,2,none⟩=some (.slice A0_2 l0_2.length c0_2):=(blk_cell BK718.out 2).trans rfl;have hfz26_0:=blk_frozen BK718.out 0;have hfz26_1:=blk_frozen BK718.out 1;have hfz26_2:=blk_frozen BK718.out 2)|((with_reducible refine gate_callee (f:=150) rfl ?_);refine goesL_ (some 23) rfl rfl Try.func150 (by kernel_rfl) rfl #[.agg #[.int .i64 a0_0, .bool a0_1, .slice A0_2 l0_2.length c0_2], .slice A3 l3.length c3] rfl (by(try simp only[List.map_toArray,List.map_cons,List.map_nil]);first|done|rfl|(simp only[List.length_drop,List.length_take];rfl)) ?_;(with_reducible refine(static_Balance.calls k a0_0 a0_1 _ _ l0_2 _ _ l3 t720 t723 _ ?side1 ?side2 ?side3 ?side4 A7.out).mono ?_);(case side1=>repeat(first|exact(Kd.C_below HR0_2.out HB.out)|(with_reducible refine Kd.C_alloc ?_ _)|(with_reducible refine Kd.C_drewN ?_ _)|(with_reducible refine Kd.C_drew ?_)));(case side2=>exact HC0_2.out);(case side3=>repeat(first|exact(Kd.C_below HR3.out HB.out)|(with_reducible refine Kd.C_alloc ?_ _)|(with_reducible refine Kd.C_drewN ?_ _)|(with_reducible refine Kd.C_drew ?_)));(case side4=>exact HC3.out);rintro e w27 ⟨v721,rfl,ho0,hb⟩;refine⟨_,rfl,?_⟩;have n0_:=Aside0.mk (Kd.R_lower ho0 (below_size (by repeat(first|(with_reducible first|exact HB.out|apply below_alloc|apply pw_below_drewN|apply below_drew1|refine below_set ?_ GE718.out)|exact HB.out))));have n1_:=Aside0.mk (blk_below (g:=gb718) (o:= .cells #[.int .i64 a0_0, .bool a0_1, .slice A0_2 l0_2.length c0_2] 24 (0,0)) (by(with_reducible repeat(first|refine blk_drewN ?_ _|refine blk_drew ?_|refine blk_alloc ?_ _));exact BK718.out) hb);have n2_:=Aside0.mk (below_step (by repeat(first|(with_reducible first|exact HB.out|apply below_alloc|apply pw_below_drewN|apply below_drew1|refine below_set ?_ GE718.out)|exact HB.out)) hb);clear BK718;clear HB;have HO722:=n0_;have BK718:=n1_;have HB:=n2_;clear n0_ n1_ n2_;(try clear hb);(try clear hb2);(try clear hk);(try clear hi);(try clear ho0)))
  go_ret2
  exact⟨by first|rfl|(simp[errW_none,errW_some]<;>rfl)|(simp[*,errW_none,errW_some]<;>rfl),by repeat(first|(with_reducible first|exact HB.out|apply below_alloc|apply pw_below_drewN|apply below_drew1|refine below_set ?_ GE718.out)|exact HB.out)⟩
 rw[if_pos c8] at H
 have c8b0:(t723 == 0)=true:=beq_iff_eq.mpr c8
 have c8b1:(t723 != 0)=false:=bne_eq_false_iff_eq.mpr c8
 clear c8
 have H':=Aside0.mk H
 clear H
 go_enter Try.func115,Try.ntmps115
 go_wp2_with (first|((with_reducible refine gate_dst (N:=4) rfl ?_);refine box_event ?hg (N:=4) ?hd (cs:= #[.int .i64 a0_0, .bool a0_1, .slice A0_2 l0_2.length c0_2]) (t:=24) ?hr ?_;(case hd=>rfl);(case hg=>rfl);(case hr=>first|(go_simp;done)|(go_simp;rfl));intro gb718 hg w9 hbox hb;have n0_:=Aside0.mk (below_step (by repeat(first|(with_reducible first|exact HB.out|apply below_alloc|apply pw_below_drewN|apply below_drew1)|exact HB.out)) hb);have n1_:=Aside0.mk (hbox);have n2_:=Aside0.mk ((by rw[hg];exact(below_size (by repeat(first|(with_reducible first|exact HB.out|apply below_alloc|apply pw_below_drewN|apply below_drew1)|exact HB.out))):w.heap.size≤gb718));have n3_:=Aside0.mk ((by rw[hg];exact(below_size (by repeat(first|(with_reducible first|exact HB.out|apply below_alloc|apply pw_below_drewN|apply below_drew1)|exact HB.out))):w.heap.size≤gb718));clear HB;have HB:=n0_;have BK718:=n1_;have GW718:=n2_;have GE718:=n3_;clear n0_ n1_ n2_ n3_;clear hb hbox hg;have hcz10_0:w9.cell? ⟨gb718,0,none⟩=some (.int .i64 a0_0):=(blk_cell BK718.out 0).trans rfl;have hcz10_1:w9.cell? ⟨gb718,1,none⟩=some (.bool a0_1):=(blk_cell BK718.out 1).trans rfl;have hcz10_2:w9.cell? ⟨gb718,2,none⟩=some (.slice A0_2 l0_2.length c0_2):=(blk_cell BK718.out 2).trans rfl;have hfz10_0:=blk_frozen BK718.out 0;have hfz10_1:=blk_frozen BK718.out 1;have hfz10_2:=blk_frozen BK718.out 2)|((with_reducible refine gate_callee (f:=111) rfl ?_);refine goesL_ (some 16) rfl rfl Try.func111 (by kernel_rfl) rfl #[.agg #[.int .i64 a0_0, .bool a0_1, .slice A0_2 l0_2.length c0_2], .int .i64 a1, .int .i64 a2] rfl (by(try simp only[List.map_toArray,List.map_cons,List.map_nil]);first|done|rfl|(simp only[List.length_drop,List.length_take];rfl)) ?_;(with_reducible refine(static_Ends.calls k a0_0 a0_1 _ _ l0_2 a1 a2 t719 _ ?side1 ?side2 A5.out).mono ?_);(case side1=>repeat(first|exact(Kd.C_below HR0_2.out HB.out)|(with_reducible refine Kd.C_alloc ?_ _)|(with_reducible refine Kd.C_drewN ?_ _)|(with_reducible refine Kd.C_drew ?_)));(case side2=>exact HC0_2.out);rintro e w11 ⟨rfl,hb⟩;refine⟨_,rfl,?_⟩;have n0_:=Aside0.mk (blk_below (g:=gb718) (o:= .cells #[.int .i64 a0_0, .bool a0_1, .slice A0_2 l0_2.length c0_2] 24 (0,0)) (by(with_reducible repeat(first|refine blk_drewN ?_ _|refine blk_drew ?_|refine blk_alloc ?_ _));exact BK718.out) hb);have n1_:=Aside0.mk (below_step (by repeat(first|(with_reducible first|exact HB.out|apply below_alloc|apply pw_below_drewN|apply below_drew1|refine below_set ?_ GE718.out)|exact HB.out)) hb);clear BK718;clear HB;have BK718:=n0_;have HB:=n1_;clear n0_ n1_;(try clear hb);(try clear hb2);(try clear hk);(try clear hi);have hcz12_0:w11.cell? ⟨gb718,0,none⟩=some (.int .i64 a0_0):=(blk_cell BK718.out 0).trans rfl;have hcz12_1:w11.cell? ⟨gb718,1,none⟩=some (.bool a0_1):=(blk_cell BK718.out 1).trans rfl;have hcz12_2:w11.cell? ⟨gb718,2,none⟩=some (.slice A0_2 l0_2.length c0_2):=(blk_cell BK718.out 2).trans rfl;have hfz12_0:=blk_frozen BK718.out 0;have hfz12_1:=blk_frozen BK718.out 1;have hfz12_2:=blk_frozen BK718.out 2)|((with_reducible refine gate_callee (f:=150) rfl ?_);refine goesL_ (some 23) rfl rfl Try.func150 (by kernel_rfl) rfl #[.agg #[.int .i64 a0_0, .bool a0_1, .slice A0_2 l0_2.length c0_2], .slice A3 l3.length c3] rfl (by(try simp only[List.map_toArray,List.map_cons,List.map_nil]);first|done|rfl|(simp only[List.length_drop,List.length_take];rfl)) ?_;(with_reducible refine(static_Balance.calls k a0_0 a0_1 _ _ l0_2 _ _ l3 t720 t723 _ ?side1 ?side2 ?side3 ?side4 A7.out).mono ?_);(case side1=>repeat(first|exact(Kd.C_below HR0_2.out HB.out)|(with_reducible refine Kd.C_alloc ?_ _)|(with_reducible refine Kd.C_drewN ?_ _)|(with_reducible refine Kd.C_drew ?_)));(case side2=>exact HC0_2.out);(case side3=>repeat(first|exact(Kd.C_below HR3.out HB.out)|(with_reducible refine Kd.C_alloc ?_ _)|(with_reducible refine Kd.C_drewN ?_ _)|(with_reducible refine Kd.C_drew ?_)));(case side4=>exact HC3.out);rintro e w13 ⟨v721,rfl,ho0,hb⟩;refine⟨_,rfl,?_⟩;have n0_:=Aside0.mk (Kd.R_lower ho0 (below_size (by repeat(first|(with_reducible first|exact HB.out|apply below_alloc|apply pw_below_drewN|apply below_drew1|refine below_set ?_ GE718.out)|exact HB.out))));have n1_:=Aside0.mk (blk_below (g:=gb718) (o:= .cells #[.int .i64 a0_0, .bool a0_1, .slice A0_2 l0_2.length c0_2] 24 (0,0)) (by(with_reducible repeat(first|refine blk_drewN ?_ _|refine blk_drew ?_|refine blk_alloc ?_ _));exact BK718.out) hb);have n2_:=Aside0.mk (below_step (by repeat(first|(with_reducible first|exact HB.out|apply below_alloc|apply pw_below_drewN|apply below_drew1|refine below_set ?_ GE718.out)|exact HB.out)) hb);clear BK718;clear HB;have HO722:=n0_;have BK718:=n1_;have HB:=n2_;clear n0_ n1_ n2_;(try clear hb);(try clear hb2);(try clear hk);(try clear hi);(try clear ho0);obtain⟨Ao14,co14,eo14⟩:=Kd.R_slice HO722.out;subst eo14))
 go_loopg [31] k (fun kq v31 w'=> ∃ (x31_1:Int),v31= .int .i64 x31_1∧Aside0 (static_Check.l0 kq a1 a2 t720 t720 (t720.length:Int) x31_1=some (r1,r2))∧Aside0 (kq≤k)∧Aside0 (Kd.R (Kd.int .i64) 3 w' w.heap.size (fun _=>True) (.slice Ao14 t720.length co14) t720)∧Aside0 (Kd.R (Kd.int .i64) 3 w' w.heap.size (fun _=>True) (.slice Ao14 t720.length co14) t720)∧Aside0 (w'.heap[gb718]? =some (.cells #[.int .i64 a0_0, .bool a0_1,(.slice A0_2 l0_2.length c0_2)] 24 (0,0)))∧Aside0 (Below w.heap.size w w'))
 case atStart=>exact⟨(0),(by first|rfl|(simp;done)|(simp[*];done)),H',⟨Nat.le_refl _⟩,⟨by(with_reducible repeat(first|apply Kd.R_alloc|apply Kd.R_drewN|apply Kd.R_drew));exact HO722.out⟩,⟨by(with_reducible repeat(first|apply Kd.R_alloc|apply Kd.R_drewN|apply Kd.R_drew));exact HO722.out⟩,⟨by(with_reducible repeat(first|refine blk_drewN ?_ _|refine blk_drew ?_|refine blk_alloc ?_ _));exact BK718.out⟩,⟨by repeat(first|(with_reducible first|exact HB.out|apply below_alloc|apply pw_below_drewN|apply below_drew1|refine below_set ?_ GE718.out)|exact HB.out)⟩⟩
 case round=>
  clear H'
  try clear c1
  try clear p2
  try clear c3
  try clear c6
  try clear c6b0
  try clear c6b1
  try clear c8
  try clear c8b0
  try clear c8b1
  try clear c11
  try clear hcz10_0
  try clear hcz10_1
  try clear hcz10_2
  try clear hcz12_0
  try clear hcz12_1
  try clear hcz12_2
  try clear hfz10_0
  try clear hfz10_1
  try clear hfz10_2
  try clear hfz12_0
  try clear hfz12_1
  try clear hfz12_2
  obtain⟨x31_1,rfl,HA,HK1,HO_10,HO_29,BK718,HB⟩:=hrel
  cases gk with
  |zero=>exact absurd HA.out (by simp[static_Check.l0])
  |succ k1=>
   have H:=HA.out
   clear HA
   simp only[static_Check.l0] at H
   by_cases c15:x31_1<(t720.length:Int)
   rotate_left
   ·rw[if_neg c15] at H
    have c15b0:decide (x31_1<(t720.length:Int))=false:=decide_eq_false c15
    clear c15
    by_cases c21:0≤a1
    rotate_left
    ·rw[if_neg c21] at H
     exact absurd H (by simp)
    rw[if_pos c21] at H
    have c21b0:decide (0≤a1)=true:=decide_eq_true c21
    clear c21
    by_cases c22:a1<(t720.length:Int)
    rotate_left
    ·rw[if_neg c22] at H
     exact absurd H (by simp)
    rw[if_pos c22] at H
    have c22b0:decide (a1<(t720.length:Int))=true:=decide_eq_true c22
    clear c22
    simp only[Option.some.injEq,Prod.mk.injEq] at H
    obtain⟨rfl,rfl⟩:=H
    have p725:0≤(a1:Int):=of_decide_eq_true (by first|(with_reducible assumption)|assumption)
    have q725:a1<(t720.length:Int):=of_decide_eq_true (by first|(with_reducible assumption)|assumption)
    obtain⟨ad725,e725,hx725_0⟩:=Kd.at_int (Kd.R_reads' HO_10.out).2.2 a1 p725 q725
    cases e725
    replace p725:=eq_true p725
    replace q725:=eq_true q725
    go_wp2
    go_ret2
    exact⟨by first|rfl|(simp[errW_none,errW_some]<;>rfl)|(simp[*,errW_none,errW_some]<;>rfl),by repeat(first|(with_reducible first|exact HB.out|apply below_alloc|apply pw_below_drewN|apply below_drew1|refine below_set ?_ GE718.out)|exact HB.out)⟩
   rw[if_pos c15] at H
   have c15b0:decide (x31_1<(t720.length:Int))=true:=decide_eq_true c15
   clear c15
   by_cases c16:0≤x31_1
   rotate_left
   ·rw[if_neg c16] at H
    exact absurd H (by simp)
   rw[if_pos c16] at H
   have c16b0:decide (0≤x31_1)=true:=decide_eq_true c16
   clear c16
   by_cases c17:x31_1<(t720.length:Int)
   rotate_left
   ·rw[if_neg c17] at H
    exact absurd H (by simp)
   rw[if_pos c17] at H
   have c17b0:decide (x31_1<(t720.length:Int))=true:=decide_eq_true c17
   clear c17
   by_cases c18:(rd t720 x31_1)=0
   ·rw[if_pos c18] at H
    have c18b0:((rd t720 x31_1) == 0)=true:=beq_iff_eq.mpr c18
    have c18b1:((rd t720 x31_1) != 0)=false:=bne_eq_false_iff_eq.mpr c18
    clear c18
    have H':=Aside0.mk H
    clear H
    have p724:0≤(x31_1:Int):=of_decide_eq_true (by first|(with_reducible assumption)|assumption)
    have q724:x31_1<(t720.length:Int):=of_decide_eq_true (by first|(with_reducible assumption)|assumption)
    obtain⟨ad724,e724,hx724_0⟩:=Kd.at_int (Kd.R_reads' HO_29.out).2.2 x31_1 p724 q724
    cases e724
    replace p724:=eq_true p724
    replace q724:=eq_true q724
    go_wp2
    go_roundg k1
    case measure=>have:=HK1.out;omega
    case rel=>exact⟨(wrap64 (x31_1+1)),(by first|rfl|(simp;done)|(simp[*];done)),H',⟨by have:=HK1.out;omega⟩,⟨by(with_reducible repeat(first|apply Kd.R_alloc|apply Kd.R_drewN|apply Kd.R_drew));exact HO_10.out⟩,⟨by(with_reducible repeat(first|apply Kd.R_alloc|apply Kd.R_drewN|apply Kd.R_drew));exact HO_29.out⟩,⟨by(with_reducible repeat(first|refine blk_drewN ?_ _|refine blk_drew ?_|refine blk_alloc ?_ _));exact BK718.out⟩,⟨by repeat(first|(with_reducible first|exact HB.out|apply below_alloc|apply pw_below_drewN|apply below_drew1|refine below_set ?_ GE718.out)|exact HB.out)⟩⟩
   rw[if_neg c18] at H
   have c18b0:((rd t720 x31_1) == 0)=false:=beq_eq_false_iff_ne.mpr c18
   have c18b1:((rd t720 x31_1) != 0)=true:=bne_iff_ne.mpr c18
   by_cases c19:x31_1=a1
   ·rw[if_pos c19] at H
    have c19b0:(x31_1 == a1)=true:=beq_iff_eq.mpr c19
    have c19b1:(x31_1 != a1)=false:=bne_eq_false_iff_eq.mpr c19
    clear c19
    have H':=Aside0.mk H
    clear H
    have p724:0≤(x31_1:Int):=of_decide_eq_true (by first|(with_reducible assumption)|assumption)
    have q724:x31_1<(t720.length:Int):=of_decide_eq_true (by first|(with_reducible assumption)|assumption)
    obtain⟨ad724,e724,hx724_0⟩:=Kd.at_int (Kd.R_reads' HO_29.out).2.2 x31_1 p724 q724
    cases e724
    replace p724:=eq_true p724
    replace q724:=eq_true q724
    go_wp2
    go_roundg k1
    case measure=>have:=HK1.out;omega
    case rel=>exact⟨(wrap64 (x31_1+1)),(by first|rfl|(simp;done)|(simp[*];done)),H',⟨by have:=HK1.out;omega⟩,⟨by(with_reducible repeat(first|apply Kd.R_alloc|apply Kd.R_drewN|apply Kd.R_drew));exact HO_10.out⟩,⟨by(with_reducible repeat(first|apply Kd.R_alloc|apply Kd.R_drewN|apply Kd.R_drew));exact HO_29.out⟩,⟨by(with_reducible repeat(first|refine blk_drewN ?_ _|refine blk_drew ?_|refine blk_alloc ?_ _));exact BK718.out⟩,⟨by repeat(first|(with_reducible first|exact HB.out|apply below_alloc|apply pw_below_drewN|apply below_drew1|refine below_set ?_ GE718.out)|exact HB.out)⟩⟩
   rw[if_neg c19] at H
   have c19b0:(x31_1 == a1)=false:=beq_eq_false_iff_ne.mpr c19
   have c19b1:(x31_1 != a1)=true:=bne_iff_ne.mpr c19
   by_cases c20:x31_1=a2
   rotate_left
   ·rw[if_neg c20] at H
    have c20b0:(x31_1 == a2)=false:=beq_eq_false_iff_ne.mpr c20
    have c20b1:(x31_1 != a2)=true:=bne_iff_ne.mpr c20
    simp only[Option.some.injEq,Prod.mk.injEq] at H
    obtain⟨rfl,rfl⟩:=H
    have p724:0≤(x31_1:Int):=of_decide_eq_true (by first|(with_reducible assumption)|assumption)
    have q724:x31_1<(t720.length:Int):=of_decide_eq_true (by first|(with_reducible assumption)|assumption)
    obtain⟨ad724,e724,hx724_0⟩:=Kd.at_int (Kd.R_reads' HO_29.out).2.2 x31_1 p724 q724
    cases e724
    replace p724:=eq_true p724
    replace q724:=eq_true q724
    go_wp2
    go_ret2
    exact⟨by first|rfl|(simp[errW_none,errW_some]<;>rfl)|(simp[*,errW_none,errW_some]<;>rfl),by repeat(first|(with_reducible first|exact HB.out|apply below_alloc|apply pw_below_drewN|apply below_drew1|refine below_set ?_ GE718.out)|exact HB.out)⟩
   rw[if_pos c20] at H
   have c20b0:(x31_1 == a2)=true:=beq_iff_eq.mpr c20
   have c20b1:(x31_1 != a2)=false:=bne_eq_false_iff_eq.mpr c20
   clear c20
   have H':=Aside0.mk H
   clear H
   have p724:0≤(x31_1:Int):=of_decide_eq_true (by first|(with_reducible assumption)|assumption)
   have q724:x31_1<(t720.length:Int):=of_decide_eq_true (by first|(with_reducible assumption)|assumption)
   obtain⟨ad724,e724,hx724_0⟩:=Kd.at_int (Kd.R_reads' HO_29.out).2.2 x31_1 p724 q724
   cases e724
   replace p724:=eq_true p724
   replace q724:=eq_true q724
   go_wp2
   go_roundg k1
   case measure=>have:=HK1.out;omega
   case rel=>exact⟨(wrap64 (x31_1+1)),(by first|rfl|(simp;done)|(simp[*];done)),H',⟨by have:=HK1.out;omega⟩,⟨by(with_reducible repeat(first|apply Kd.R_alloc|apply Kd.R_drewN|apply Kd.R_drew));exact HO_10.out⟩,⟨by(with_reducible repeat(first|apply Kd.R_alloc|apply Kd.R_drewN|apply Kd.R_drew));exact HO_29.out⟩,⟨by(with_reducible repeat(first|refine blk_drewN ?_ _|refine blk_drew ?_|refine blk_alloc ?_ _));exact BK718.out⟩,⟨by repeat(first|(with_reducible first|exact HB.out|apply below_alloc|apply pw_below_drewN|apply below_drew1|refine below_set ?_ GE718.out)|exact HB.out)⟩⟩
end Go.Proofs.Ytkcpanpdipmmmaa.P
namespace Go.Proofs.Ytkcpanpdipmmmaa.P
open Go.RowKit Go.Proofs.YtkcpanpdipmmmaaW.PrintWords Go.Proofs.YtkcpanpdipmmmaaW.PrintLast Go.Proofs.YtkcpanpdipmmmaaW.PrintMore
attribute [local go_sem] max2_int min2_int max_two min_two max_three min_three max_four min_four
def span_Worth.f (k:Nat) (a0_0:Int) (a0_1:Bool) (l0_2:List (S74)) (a1:Int) (a2:Int) (l3:List Int) (a4:Int):Option (Int × Int):=(span_Asked.f k a0_0 a0_1 l0_2 a1 a2 a4).bind fun t731=>(if t731=0 then((static_Check.f k a0_0 a0_1 l0_2 a1 a2 l3).bind fun bt732=>(if bt732.2=0 then((span_paid.f k a0_0 a0_1 l0_2 l3).bind fun t734=>(some (wrap64 ((wrap64 ((wrap64 (a4+1)) * bt732.1)) - t734),0))) else(some (0,bt732.2)))) else(some (0,t731)))
set_option maxHeartbeats 8000000 in
set_option maxRecDepth 100000 in
theorem span_Worth.calls (k:Nat) (a0_0:Int) (a0_1:Bool) (A0_2:Option Addr) (c0_2:Nat) (l0_2:List (S74)) (a1:Int) (a2:Int) (A3:Option Addr) (c3:Nat) (l3:List Int) (a4:Int) (r1:Int) (r2:Int) (w:World) (hr0_2:Kd.C k74 w A0_2 l0_2.length l0_2) (hc0_2:l0_2.length≤c0_2) (hr3:Kd.C (Kd.int .i64) w A3 l3.length l3) (hc3:l3.length≤c3) (h:span_Worth.f k a0_0 a0_1 l0_2 a1 a2 l3 a4=some (r1,r2)):
  Calls Try.prog 63 #[.agg #[.int .i64 a0_0, .bool a0_1, .slice A0_2 l0_2.length c0_2], .int .i64 a1, .int .i64 a2, .slice A3 l3.length c3, .int .i64 a4] w fun e w'=>e= .returned (.tuple #[.int .i64 r1, .int .i64 r2])∧Below w.heap.size w w':=by
 have hu24:=Try.underlying24
 have HR0_2:=Aside0.mk hr0_2
 have HC0_2:=Aside0.mk hc0_2
 clear hr0_2 hc0_2
 have HR3:=Aside0.mk hr3
 have HC3:=Aside0.mk hc3
 clear hr3 hc3
 have HB:=Aside0.mk (Below.refl w.heap.size w)
 have H:((span_Asked.f k a0_0 a0_1 l0_2 a1 a2 a4).bind fun t731=>(if t731=0 then((static_Check.f k a0_0 a0_1 l0_2 a1 a2 l3).bind fun bt732=>(if bt732.2=0 then((span_paid.f k a0_0 a0_1 l0_2 l3).bind fun t734=>(some (wrap64 ((wrap64 ((wrap64 (a4+1)) * bt732.1)) - t734),0))) else(some (0,bt732.2)))) else(some (0,t731))))=some (r1,r2):=h
 clear h
 replace H:=Option.bind_eq_some_iff.mp H
 obtain⟨t731,A60,H⟩:=H
 replace H:(if t731=0 then((static_Check.f k a0_0 a0_1 l0_2 a1 a2 l3).bind fun bt732=>(if bt732.2=0 then((span_paid.f k a0_0 a0_1 l0_2 l3).bind fun t734=>(some (wrap64 ((wrap64 ((wrap64 (a4+1)) * bt732.1)) - t734),0))) else(some (0,bt732.2)))) else(some (0,t731)))=some (r1,r2):=H
 have A6:=Aside0.mk A60
 clear A60
 by_cases c7:t731=0
 rotate_left
 ·rw[if_neg c7] at H
  have c7b0:(t731 == 0)=false:=beq_eq_false_iff_ne.mpr c7
  have c7b1:(t731 != 0)=true:=bne_iff_ne.mpr c7
  simp only[Option.some.injEq,Prod.mk.injEq] at H
  obtain⟨rfl,rfl⟩:=H
  go_enter Try.func63,Try.ntmps63
  go_wp2_with (first|((with_reducible refine gate_dst (N:=5) rfl ?_);refine box_event ?hg (N:=5) ?hd (cs:= #[.int .i64 a0_0, .bool a0_1, .slice A0_2 l0_2.length c0_2]) (t:=24) ?hr ?_;(case hd=>rfl);(case hg=>rfl);(case hr=>first|(go_simp;done)|(go_simp;rfl));intro gb730 hg w23 hbox hb;have n0_:=Aside0.mk (below_step (by repeat(first|(with_reducible first|exact HB.out|apply below_alloc|apply pw_below_drewN|apply below_drew1)|exact HB.out)) hb);have n1_:=Aside0.mk (hbox);have n2_:=Aside0.mk ((by rw[hg];exact(below_size (by repeat(first|(with_reducible first|exact HB.out|apply below_alloc|apply pw_below_drewN|apply below_drew1)|exact HB.out))):w.heap.size≤gb730));have n3_:=Aside0.mk ((by rw[hg];exact(below_size (by repeat(first|(with_reducible first|exact HB.out|apply below_alloc|apply pw_below_drewN|apply below_drew1)|exact HB.out))):w.heap.size≤gb730));clear HB;have HB:=n0_;have BK730:=n1_;have GW730:=n2_;have GE730:=n3_;clear n0_ n1_ n2_ n3_;clear hb hbox hg;have hcz24_0:w23.cell? ⟨gb730,0,none⟩=some (.int .i64 a0_0):=(blk_cell BK730.out 0).trans rfl;have hcz24_1:w23.cell? ⟨gb730,1,none⟩=some (.bool a0_1):=(blk_cell BK730.out 1).trans rfl;have hcz24_2:w23.cell? ⟨gb730,2,none⟩=some (.slice A0_2 l0_2.length c0_2):=(blk_cell BK730.out 2).trans rfl;have hfz24_0:=blk_frozen BK730.out 0;have hfz24_1:=blk_frozen BK730.out 1;have hfz24_2:=blk_frozen BK730.out 2)|((with_reducible refine gate_callee (f:=114) rfl ?_);refine goesL_ (some 19) rfl rfl Try.func114 (by kernel_rfl) rfl #[.agg #[.int .i64 a0_0, .bool a0_1, .slice A0_2 l0_2.length c0_2], .int .i64 a1, .int .i64 a2, .int .i64 a4] rfl (by(try simp only[List.map_toArray,List.map_cons,List.map_nil]);first|done|rfl|(simp only[List.length_drop,List.length_take];rfl)) ?_;(with_reducible refine(span_Asked.calls k a0_0 a0_1 _ _ l0_2 a1 a2 a4 t731 _ ?side1 ?side2 A6.out).mono ?_);(case side1=>repeat(first|exact(Kd.C_below HR0_2.out HB.out)|(with_reducible refine Kd.C_alloc ?_ _)|(with_reducible refine Kd.C_drewN ?_ _)|(with_reducible refine Kd.C_drew ?_)));(case side2=>exact HC0_2.out);rintro e w25 ⟨rfl,hb⟩;refine⟨_,rfl,?_⟩;have n0_:=Aside0.mk (blk_below (g:=gb730) (o:= .cells #[.int .i64 a0_0, .bool a0_1, .slice A0_2 l0_2.length c0_2] 24 (0,0)) (by(with_reducible repeat(first|refine blk_drewN ?_ _|refine blk_drew ?_|refine blk_alloc ?_ _));exact BK730.out) hb);have n1_:=Aside0.mk (below_step (by repeat(first|(with_reducible first|exact HB.out|apply below_alloc|apply pw_below_drewN|apply below_drew1|refine below_set ?_ GE730.out)|exact HB.out)) hb);clear BK730;clear HB;have BK730:=n0_;have HB:=n1_;clear n0_ n1_;(try clear hb);(try clear hb2);(try clear hk);(try clear hi)))
  go_ret2
  exact⟨by first|rfl|(simp[errW_none,errW_some]<;>rfl)|(simp[*,errW_none,errW_some]<;>rfl),by repeat(first|(with_reducible first|exact HB.out|apply below_alloc|apply pw_below_drewN|apply below_drew1|refine below_set ?_ GE730.out)|exact HB.out)⟩
 rw[if_pos c7] at H
 have c7b0:(t731 == 0)=true:=beq_iff_eq.mpr c7
 have c7b1:(t731 != 0)=false:=bne_eq_false_iff_eq.mpr c7
 clear c7
 replace H:=Option.bind_eq_some_iff.mp H
 obtain⟨⟨t732,t733⟩,A80,H⟩:=H
 replace H:(if t733=0 then((span_paid.f k a0_0 a0_1 l0_2 l3).bind fun t734=>(some (wrap64 ((wrap64 ((wrap64 (a4+1)) * t732)) - t734),0))) else(some (0,t733)))=some (r1,r2):=H
 have A8:=Aside0.mk A80
 clear A80
 by_cases c9:t733=0
 rotate_left
 ·rw[if_neg c9] at H
  have c9b0:(t733 == 0)=false:=beq_eq_false_iff_ne.mpr c9
  have c9b1:(t733 != 0)=true:=bne_iff_ne.mpr c9
  simp only[Option.some.injEq,Prod.mk.injEq] at H
  obtain⟨rfl,rfl⟩:=H
  go_enter Try.func63,Try.ntmps63
  go_wp2_with (first|((with_reducible refine gate_dst (N:=5) rfl ?_);refine box_event ?hg (N:=5) ?hd (cs:= #[.int .i64 a0_0, .bool a0_1, .slice A0_2 l0_2.length c0_2]) (t:=24) ?hr ?_;(case hd=>rfl);(case hg=>rfl);(case hr=>first|(go_simp;done)|(go_simp;rfl));intro gb730 hg w18 hbox hb;have n0_:=Aside0.mk (below_step (by repeat(first|(with_reducible first|exact HB.out|apply below_alloc|apply pw_below_drewN|apply below_drew1)|exact HB.out)) hb);have n1_:=Aside0.mk (hbox);have n2_:=Aside0.mk ((by rw[hg];exact(below_size (by repeat(first|(with_reducible first|exact HB.out|apply below_alloc|apply pw_below_drewN|apply below_drew1)|exact HB.out))):w.heap.size≤gb730));have n3_:=Aside0.mk ((by rw[hg];exact(below_size (by repeat(first|(with_reducible first|exact HB.out|apply below_alloc|apply pw_below_drewN|apply below_drew1)|exact HB.out))):w.heap.size≤gb730));clear HB;have HB:=n0_;have BK730:=n1_;have GW730:=n2_;have GE730:=n3_;clear n0_ n1_ n2_ n3_;clear hb hbox hg;have hcz19_0:w18.cell? ⟨gb730,0,none⟩=some (.int .i64 a0_0):=(blk_cell BK730.out 0).trans rfl;have hcz19_1:w18.cell? ⟨gb730,1,none⟩=some (.bool a0_1):=(blk_cell BK730.out 1).trans rfl;have hcz19_2:w18.cell? ⟨gb730,2,none⟩=some (.slice A0_2 l0_2.length c0_2):=(blk_cell BK730.out 2).trans rfl;have hfz19_0:=blk_frozen BK730.out 0;have hfz19_1:=blk_frozen BK730.out 1;have hfz19_2:=blk_frozen BK730.out 2)|((with_reducible refine gate_callee (f:=114) rfl ?_);refine goesL_ (some 19) rfl rfl Try.func114 (by kernel_rfl) rfl #[.agg #[.int .i64 a0_0, .bool a0_1, .slice A0_2 l0_2.length c0_2], .int .i64 a1, .int .i64 a2, .int .i64 a4] rfl (by(try simp only[List.map_toArray,List.map_cons,List.map_nil]);first|done|rfl|(simp only[List.length_drop,List.length_take];rfl)) ?_;(with_reducible refine(span_Asked.calls k a0_0 a0_1 _ _ l0_2 a1 a2 a4 t731 _ ?side1 ?side2 A6.out).mono ?_);(case side1=>repeat(first|exact(Kd.C_below HR0_2.out HB.out)|(with_reducible refine Kd.C_alloc ?_ _)|(with_reducible refine Kd.C_drewN ?_ _)|(with_reducible refine Kd.C_drew ?_)));(case side2=>exact HC0_2.out);rintro e w20 ⟨rfl,hb⟩;refine⟨_,rfl,?_⟩;have n0_:=Aside0.mk (blk_below (g:=gb730) (o:= .cells #[.int .i64 a0_0, .bool a0_1, .slice A0_2 l0_2.length c0_2] 24 (0,0)) (by(with_reducible repeat(first|refine blk_drewN ?_ _|refine blk_drew ?_|refine blk_alloc ?_ _));exact BK730.out) hb);have n1_:=Aside0.mk (below_step (by repeat(first|(with_reducible first|exact HB.out|apply below_alloc|apply pw_below_drewN|apply below_drew1|refine below_set ?_ GE730.out)|exact HB.out)) hb);clear BK730;clear HB;have BK730:=n0_;have HB:=n1_;clear n0_ n1_;(try clear hb);(try clear hb2);(try clear hk);(try clear hi);have hcz21_0:w20.cell? ⟨gb730,0,none⟩=some (.int .i64 a0_0):=(blk_cell BK730.out 0).trans rfl;have hcz21_1:w20.cell? ⟨gb730,1,none⟩=some (.bool a0_1):=(blk_cell BK730.out 1).trans rfl;have hcz21_2:w20.cell? ⟨gb730,2,none⟩=some (.slice A0_2 l0_2.length c0_2):=(blk_cell BK730.out 2).trans rfl;have hfz21_0:=blk_frozen BK730.out 0;have hfz21_1:=blk_frozen BK730.out 1;have hfz21_2:=blk_frozen BK730.out 2)|((with_reducible refine gate_callee (f:=115) rfl ?_);refine goesL_ (some 28) rfl rfl Try.func115 (by kernel_rfl) rfl #[.agg #[.int .i64 a0_0, .bool a0_1, .slice A0_2 l0_2.length c0_2], .int .i64 a1, .int .i64 a2, .slice A3 l3.length c3] rfl (by(try simp only[List.map_toArray,List.map_cons,List.map_nil]);first|done|rfl|(simp only[List.length_drop,List.length_take];rfl)) ?_;(with_reducible refine(static_Check.calls k a0_0 a0_1 _ _ l0_2 a1 a2 _ _ l3 t732 t733 _ ?side1 ?side2 ?side3 ?side4 A8.out).mono ?_);(case side1=>repeat(first|exact(Kd.C_below HR0_2.out HB.out)|(with_reducible refine Kd.C_alloc ?_ _)|(with_reducible refine Kd.C_drewN ?_ _)|(with_reducible refine Kd.C_drew ?_)));(case side2=>exact HC0_2.out);(case side3=>repeat(first|exact(Kd.C_below HR3.out HB.out)|(with_reducible refine Kd.C_alloc ?_ _)|(with_reducible refine Kd.C_drewN ?_ _)|(with_reducible refine Kd.C_drew ?_)));(case side4=>exact HC3.out);rintro e w22 ⟨rfl,hb⟩;refine⟨_,rfl,?_⟩;have n0_:=Aside0.mk (blk_below (g:=gb730) (o:= .cells #[.int .i64 a0_0, .bool a0_1, .slice A0_2 l0_2.length c0_2] 24 (0,0)) (by(with_reducible repeat(first|refine blk_drewN ?_ _|refine blk_drew ?_|refine blk_alloc ?_ _));exact BK730.out) hb);have n1_:=Aside0.mk (below_step (by repeat(first|(with_reducible first|exact HB.out|apply below_alloc|apply pw_below_drewN|apply below_drew1|refine below_set ?_ GE730.out)|exact HB.out)) hb);clear BK730;clear HB;have BK730:=n0_;have HB:=n1_;clear n0_ n1_;(try clear hb);(try clear hb2);(try clear hk);(try clear hi)))
  go_ret2
  exact⟨by first|rfl|(simp[errW_none,errW_some]<;>rfl)|(simp[*,errW_none,errW_some]<;>rfl),by repeat(first|(with_reducible first|exact HB.out|apply below_alloc|apply pw_below_drewN|apply below_drew1|refine below_set ?_ GE730.out)|exact HB.out)⟩
 rw[if_pos c9] at H
 have c9b0:(t733 == 0)=true:=beq_iff_eq.mpr c9
 have c9b1:(t733 != 0)=false:=bne_eq_false_iff_eq.mpr c9
 clear c9
 replace H:=Option.bind_eq_some_iff.mp H
 obtain⟨t734,A100,H⟩:=H
 replace H:(some (wrap64 ((wrap64 ((wrap64 (a4+1)) * t732)) - t734),0))=some (r1,r2):=H
 have A10:=Aside0.mk A100
 clear A100
 simp only[Option.some.injEq,Prod.mk.injEq] at H
 obtain⟨rfl,rfl⟩:=H
 go_enter Try.func63,Try.ntmps63
 go_wp2_with (first|((with_reducible refine gate_dst (N:=5) rfl ?_);refine box_event ?hg (N:=5) ?hd (cs:= #[.int .i64 a0_0, .bool a0_1, .slice A0_2 l0_2.length c0_2]) (t:=24) ?hr ?_;(case hd=>rfl);(case hg=>rfl);(case hr=>first|(go_simp;done)|(go_simp;rfl));intro gb730 hg w11 hbox hb;have n0_:=Aside0.mk (below_step (by repeat(first|(with_reducible first|exact HB.out|apply below_alloc|apply pw_below_drewN|apply below_drew1)|exact HB.out)) hb);have n1_:=Aside0.mk (hbox);have n2_:=Aside0.mk ((by rw[hg];exact(below_size (by repeat(first|(with_reducible first|exact HB.out|apply below_alloc|apply pw_below_drewN|apply below_drew1)|exact HB.out))):w.heap.size≤gb730));have n3_:=Aside0.mk ((by rw[hg];exact(below_size (by repeat(first|(with_reducible first|exact HB.out|apply below_alloc|apply pw_below_drewN|apply below_drew1)|exact HB.out))):w.heap.size≤gb730));clear HB;have HB:=n0_;have BK730:=n1_;have GW730:=n2_;have GE730:=n3_;clear n0_ n1_ n2_ n3_;clear hb hbox hg;have hcz12_0:w11.cell? ⟨gb730,0,none⟩=some (.int .i64 a0_0):=(blk_cell BK730.out 0).trans rfl;have hcz12_1:w11.cell? ⟨gb730,1,none⟩=some (.bool a0_1):=(blk_cell BK730.out 1).trans rfl;have hcz12_2:w11.cell? ⟨gb730,2,none⟩=some (.slice A0_2 l0_2.length c0_2):=(blk_cell BK730.out 2).trans rfl;have hfz12_0:=blk_frozen BK730.out 0;have hfz12_1:=blk_frozen BK730.out 1;have hfz12_2:=blk_frozen BK730.out 2)|((with_reducible refine gate_callee (f:=114) rfl ?_);refine goesL_ (some 19) rfl rfl Try.func114 (by kernel_rfl) rfl #[.agg #[.int .i64 a0_0, .bool a0_1, .slice A0_2 l0_2.length c0_2], .int .i64 a1, .int .i64 a2, .int .i64 a4] rfl (by(try simp only[List.map_toArray,List.map_cons,List.map_nil]);first|done|rfl|(simp only[List.length_drop,List.length_take];rfl)) ?_;(with_reducible refine(span_Asked.calls k a0_0 a0_1 _ _ l0_2 a1 a2 a4 t731 _ ?side1 ?side2 A6.out).mono ?_);(case side1=>repeat(first|exact(Kd.C_below HR0_2.out HB.out)|(with_reducible refine Kd.C_alloc ?_ _)|(with_reducible refine Kd.C_drewN ?_ _)|(with_reducible refine Kd.C_drew ?_)));(case side2=>exact HC0_2.out);rintro e w13 ⟨rfl,hb⟩;refine⟨_,rfl,?_⟩;have n0_:=Aside0.mk (blk_below (g:=gb730) (o:= .cells #[.int .i64 a0_0, .bool a0_1, .slice A0_2 l0_2.length c0_2] 24 (0,0)) (by(with_reducible repeat(first|refine blk_drewN ?_ _|refine blk_drew ?_|refine blk_alloc ?_ _));exact BK730.out) hb);have n1_:=Aside0.mk (below_step (by repeat(first|(with_reducible first|exact HB.out|apply below_alloc|apply pw_below_drewN|apply below_drew1|refine below_set ?_ GE730.out)|exact HB.out)) hb);clear BK730;clear HB;have BK730:=n0_;have HB:=n1_;clear n0_ n1_;(try clear hb);(try clear hb2);(try clear hk);(try clear hi);have hcz14_0:w13.cell? ⟨gb730,0,none⟩=some (.int .i64 a0_0):=(blk_cell BK730.out 0).trans rfl;have hcz14_1:w13.cell? ⟨gb730,1,none⟩=some (.bool a0_1):=(blk_cell BK730.out 1).trans rfl;have hcz14_2:w13.cell? ⟨gb730,2,none⟩=some (.slice A0_2 l0_2.length c0_2):=(blk_cell BK730.out 2).trans rfl;have hfz14_0:=blk_frozen BK730.out 0;have hfz14_1:=blk_frozen BK730.out 1;have hfz14_2:=blk_frozen BK730.out 2)|((with_reducible refine gate_callee (f:=115) rfl ?_);refine goesL_ (some 28) rfl rfl Try.func115 (by kernel_rfl) rfl #[.agg #[.int .i64 a0_0, .bool a0_1, .slice A0_2 l0_2.length c0_2], .int .i64 a1, .int .i64 a2, .slice A3 l3.length c3] rfl (by(try simp only[List.map_toArray,List.map_cons,List.map_nil]);first|done|rfl|(simp only[List.length_drop,List.length_take];rfl)) ?_;(with_reducible refine(static_Check.calls k a0_0 a0_1 _ _ l0_2 a1 a2 _ _ l3 t732 t733 _ ?side1 ?side2 ?side3 ?side4 A8.out).mono ?_);(case side1=>repeat(first|exact(Kd.C_below HR0_2.out HB.out)|(with_reducible refine Kd.C_alloc ?_ _)|(with_reducible refine Kd.C_drewN ?_ _)|(with_reducible refine Kd.C_drew ?_)));(case side2=>exact HC0_2.out);(case side3=>repeat(first|exact(Kd.C_below HR3.out HB.out)|(with_reducible refine Kd.C_alloc ?_ _)|(with_reducible refine Kd.C_drewN ?_ _)|(with_reducible refine Kd.C_drew ?_)));(case side4=>exact HC3.out);rintro e w15 ⟨rfl,hb⟩;refine⟨_,rfl,?_⟩;have n0_:=Aside0.mk (blk_below (g:=gb730) (o:= .cells #[.int .i64 a0_0, .bool a0_1, .slice A0_2 l0_2.length c0_2] 24 (0,0)) (by(with_reducible repeat(first|refine blk_drewN ?_ _|refine blk_drew ?_|refine blk_alloc ?_ _));exact BK730.out) hb);have n1_:=Aside0.mk (below_step (by repeat(first|(with_reducible first|exact HB.out|apply below_alloc|apply pw_below_drewN|apply below_drew1|refine below_set ?_ GE730.out)|exact HB.out)) hb);clear BK730;clear HB;have BK730:=n0_;have HB:=n1_;clear n0_ n1_;(try clear hb);(try clear hb2);(try clear hk);(try clear hi);have hcz16_0:w15.cell? ⟨gb730,0,none⟩=some (.int .i64 a0_0):=(blk_cell BK730.out 0).trans rfl;have hcz16_1:w15.cell? ⟨gb730,1,none⟩=some (.bool a0_1):=(blk_cell BK730.out 1).trans rfl;have hcz16_2:w15.cell? ⟨gb730,2,none⟩=some (.slice A0_2 l0_2.length c0_2):=(blk_cell BK730.out 2).trans rfl;have hfz16_0:=blk_frozen BK730.out 0;have hfz16_1:=blk_frozen BK730.out 1;have hfz16_2:=blk_frozen BK730.out 2)|((with_reducible refine gate_callee (f:=116) rfl ?_);refine goesL_ (some 40) rfl rfl Try.func116 (by kernel_rfl) rfl #[.agg #[.int .i64 a0_0, .bool a0_1, .slice A0_2 l0_2.length c0_2], .slice A3 l3.length c3] rfl (by(try simp only[List.map_toArray,List.map_cons,List.map_nil]);first|done|rfl|(simp only[List.length_drop,List.length_take];rfl)) ?_;(with_reducible refine(span_paid.calls k a0_0 a0_1 _ _ l0_2 _ _ l3 t734 _ ?side1 ?side2 ?side3 ?side4 A10.out).mono ?_);(case side1=>repeat(first|exact(Kd.C_below HR0_2.out HB.out)|(with_reducible refine Kd.C_alloc ?_ _)|(with_reducible refine Kd.C_drewN ?_ _)|(with_reducible refine Kd.C_drew ?_)));(case side2=>exact HC0_2.out);(case side3=>repeat(first|exact(Kd.C_below HR3.out HB.out)|(with_reducible refine Kd.C_alloc ?_ _)|(with_reducible refine Kd.C_drewN ?_ _)|(with_reducible refine Kd.C_drew ?_)));(case side4=>exact HC3.out);rintro e w17 ⟨rfl,hb⟩;refine⟨_,rfl,?_⟩;have n0_:=Aside0.mk (blk_below (g:=gb730) (o:= .cells #[.int .i64 a0_0, .bool a0_1, .slice A0_2 l0_2.length c0_2] 24 (0,0)) (by(with_reducible repeat(first|refine blk_drewN ?_ _|refine blk_drew ?_|refine blk_alloc ?_ _));exact BK730.out) hb);have n1_:=Aside0.mk (below_step (by repeat(first|(with_reducible first|exact HB.out|apply below_alloc|apply pw_below_drewN|apply below_drew1|refine below_set ?_ GE730.out)|exact HB.out)) hb);clear BK730;clear HB;have BK730:=n0_;have HB:=n1_;clear n0_ n1_;(try clear hb);(try clear hb2);(try clear hk);(try clear hi)))
 go_ret2
 exact⟨by first|rfl|(simp[errW_none,errW_some]<;>rfl)|(simp[*,errW_none,errW_some]<;>rfl),by repeat(first|(with_reducible first|exact HB.out|apply below_alloc|apply pw_below_drewN|apply below_drew1|refine below_set ?_ GE730.out)|exact HB.out)⟩
end Go.Proofs.Ytkcpanpdipmmmaa.P
namespace Go.Proofs.Ytkcpanpdipmmmaa.P
open Go.RowKit Go.Proofs.YtkcpanpdipmmmaaW.PrintWords Go.Proofs.YtkcpanpdipmmmaaW.PrintLast Go.Proofs.YtkcpanpdipmmmaaW.PrintMore
attribute [local go_sem] max2_int min2_int max_two min_two max_three min_three max_four min_four
def ebbtidelaw12_awake.f (k:Nat)  :Option (Bool):=(some (([(⟨0,1,2,1⟩:S74),(⟨1,2,2,1⟩:S74)]:List (S74)):List (S74))).bind fun y786=>((span_Most.f k 3 false y786 0 2 1).bind fun bt790=>((span_Most.f k 3 false y786 0 2 5).bind fun bt792=>((span_Worth.f k 3 false y786 0 2 (([1,1]:List Int)) 2).bind fun bt797=>((span_Most.f k 3 false y786 0 2 (-1)).bind fun bt799=>(if bt790.2=0 then(if bt790.1=0 then(if bt792.2=0 then(if bt792.1=8 then(if bt797.2=0 then(if bt797.1=1 then(some (bt799.2 == 1)) else(some false)) else(some false)) else(some false)) else(some false)) else(some false)) else(some false))))))
set_option maxHeartbeats 8000000 in
set_option maxRecDepth 100000 in
theorem ebbtidelaw12_awake.calls (k:Nat)  (r:Bool) (w:World) (h:ebbtidelaw12_awake.f k  =some r) (hrT_:r=true:=by first|rfl|exact Aside0.out (by assumption)):
  Calls Try.prog 65 #[] w fun e w'=>e= .returned (.bool r)∧Below w.heap.size w w':=by
 have HRT:=Aside0.mk hrT_
 clear hrT_
 have hu74:=Try.underlying74
 have hu24:=Try.underlying24
 have HB:=Aside0.mk (Below.refl w.heap.size w)
 have H:((some (([(⟨0,1,2,1⟩:S74),(⟨1,2,2,1⟩:S74)]:List (S74)):List (S74))).bind fun y786=>((span_Most.f k 3 false y786 0 2 1).bind fun bt790=>((span_Most.f k 3 false y786 0 2 5).bind fun bt792=>((span_Worth.f k 3 false y786 0 2 (([1,1]:List Int)) 2).bind fun bt797=>((span_Most.f k 3 false y786 0 2 (-1)).bind fun bt799=>(if bt790.2=0 then(if bt790.1=0 then(if bt792.2=0 then(if bt792.1=8 then(if bt797.2=0 then(if bt797.1=1 then(some (bt799.2 == 1)) else(some false)) else(some false)) else(some false)) else(some false)) else(some false)) else(some false)))))))=some r:=h
 clear h
 obtain⟨y786,hy786⟩: ∃ y_:List (S74),y_=(([(⟨0,1,2,1⟩:S74),(⟨1,2,2,1⟩:S74)]:List (S74))):=⟨_,rfl⟩
 replace H:((span_Most.f k 3 false y786 0 2 1).bind fun bt790=>((span_Most.f k 3 false y786 0 2 5).bind fun bt792=>((span_Worth.f k 3 false y786 0 2 (([1,1]:List Int)) 2).bind fun bt797=>((span_Most.f k 3 false y786 0 2 (-1)).bind fun bt799=>(if bt790.2=0 then(if bt790.1=0 then(if bt792.2=0 then(if bt792.1=8 then(if bt797.2=0 then(if bt797.1=1 then(some (bt799.2 == 1)) else(some false)) else(some false)) else(some false)) else(some false)) else(some false)) else(some false))))))=some r:=by first|(rw[hy786];with_reducible exact H)|(have H2_:=(Option.bind_some _ _).symm.trans H;rw[hy786];with_reducible exact H2_)|(have H2_:=(Option.bind_some _ _).symm.trans H;with_reducible exact H2_)|with_reducible exact H|(rw[hy786];exact H)|exact H
 have Ny786:=Aside0.mk hy786
 clear hy786
 replace H:=Option.bind_eq_some_iff.mp H
 obtain⟨⟨t790,t791⟩,A10,H⟩:=H
 replace H:((span_Most.f k 3 false y786 0 2 5).bind fun bt792=>((span_Worth.f k 3 false y786 0 2 (([1,1]:List Int)) 2).bind fun bt797=>((span_Most.f k 3 false y786 0 2 (-1)).bind fun bt799=>(if t791=0 then(if t790=0 then(if bt792.2=0 then(if bt792.1=8 then(if bt797.2=0 then(if bt797.1=1 then(some (bt799.2 == 1)) else(some false)) else(some false)) else(some false)) else(some false)) else(some false)) else(some false)))))=some r:=H
 have A1:=Aside0.mk A10
 clear A10
 replace H:=Option.bind_eq_some_iff.mp H
 obtain⟨⟨t792,t793⟩,A20,H⟩:=H
 replace H:((span_Worth.f k 3 false y786 0 2 (([1,1]:List Int)) 2).bind fun bt797=>((span_Most.f k 3 false y786 0 2 (-1)).bind fun bt799=>(if t791=0 then(if t790=0 then(if t793=0 then(if t792=8 then(if bt797.2=0 then(if bt797.1=1 then(some (bt799.2 == 1)) else(some false)) else(some false)) else(some false)) else(some false)) else(some false)) else(some false))))=some r:=H
 have A2:=Aside0.mk A20
 clear A20
 obtain⟨y794,hy794⟩: ∃ y_:List Int,y_=(([1,1]:List Int)):=⟨_,rfl⟩
 replace H:((span_Worth.f k 3 false y786 0 2 y794 2).bind fun bt797=>((span_Most.f k 3 false y786 0 2 (-1)).bind fun bt799=>(if t791=0 then(if t790=0 then(if t793=0 then(if t792=8 then(if bt797.2=0 then(if bt797.1=1 then(some (bt799.2 == 1)) else(some false)) else(some false)) else(some false)) else(some false)) else(some false)) else(some false))))=some r:=by first|(rw[hy794];with_reducible exact H)|(have H2_:=(Option.bind_some _ _).symm.trans H;rw[hy794];with_reducible exact H2_)|(have H2_:=(Option.bind_some _ _).symm.trans H;with_reducible exact H2_)|with_reducible exact H|(rw[hy794];exact H)|exact H
 have Ny794:=Aside0.mk hy794
 clear hy794
 replace H:=Option.bind_eq_some_iff.mp H
 obtain⟨⟨t797,t798⟩,A30,H⟩:=H
 replace H:((span_Most.f k 3 false y786 0 2 (-1)).bind fun bt799=>(if t791=0 then(if t790=0 then(if t793=0 then(if t792=8 then(if t798=0 then(if t797=1 then(some (bt799.2 == 1)) else(some false)) else(some false)) else(some false)) else(some false)) else(some false)) else(some false)))=some r:=H
 have A3:=Aside0.mk A30
 clear A30
 replace H:=Option.bind_eq_some_iff.mp H
 obtain⟨⟨t799,t800⟩,A40,H⟩:=H
 replace H:(if t791=0 then(if t790=0 then(if t793=0 then(if t792=8 then(if t798=0 then(if t797=1 then(some (t800 == 1)) else(some false)) else(some false)) else(some false)) else(some false)) else(some false)) else(some false))=some r:=H
 have A4:=Aside0.mk A40
 clear A40
 by_cases c5:t791=0
 rotate_left
 ·rw[if_neg c5] at H
  exact absurd (Option.some.inj H) (by rw[HRT.out];decide)
 rw[if_pos c5] at H
 have c5b0:(t791 == 0)=true:=beq_iff_eq.mpr c5
 have c5b1:(t791 != 0)=false:=bne_eq_false_iff_eq.mpr c5
 clear c5
 by_cases c6:t790=0
 rotate_left
 ·rw[if_neg c6] at H
  exact absurd (Option.some.inj H) (by rw[HRT.out];decide)
 rw[if_pos c6] at H
 have c6b0:(t790 == 0)=true:=beq_iff_eq.mpr c6
 have c6b1:(t790 != 0)=false:=bne_eq_false_iff_eq.mpr c6
 clear c6
 by_cases c7:t793=0
 rotate_left
 ·rw[if_neg c7] at H
  exact absurd (Option.some.inj H) (by rw[HRT.out];decide)
 rw[if_pos c7] at H
 have c7b0:(t793 == 0)=true:=beq_iff_eq.mpr c7
 have c7b1:(t793 != 0)=false:=bne_eq_false_iff_eq.mpr c7
 clear c7
 by_cases c8:t792=8
 rotate_left
 ·rw[if_neg c8] at H
  exact absurd (Option.some.inj H) (by rw[HRT.out];decide)
 rw[if_pos c8] at H
 have c8b0:(t792 == 8)=true:=beq_iff_eq.mpr c8
 have c8b1:(t792 != 8)=false:=bne_eq_false_iff_eq.mpr c8
 clear c8
 by_cases c9:t798=0
 rotate_left
 ·rw[if_neg c9] at H
  exact absurd (Option.some.inj H) (by rw[HRT.out];decide)
 rw[if_pos c9] at H
 have c9b0:(t798 == 0)=true:=beq_iff_eq.mpr c9
 have c9b1:(t798 != 0)=false:=bne_eq_false_iff_eq.mpr c9
 clear c9
 by_cases c10:t797=1
 rotate_left
 ·rw[if_neg c10] at H
  exact absurd (Option.some.inj H) (by rw[HRT.out];decide)
 rw[if_pos c10] at H
 have c10b0:(t797 == 1)=true:=beq_iff_eq.mpr c10
 have c10b1:(t797 != 1)=false:=bne_eq_false_iff_eq.mpr c10
 clear c10
 obtain rfl:=Option.some.inj H
 go_enter Try.func65,Try.ntmps65
 go_wp2_with (first|((with_reducible refine gate_dst (N:=12) rfl ?_);refine Kd.R_lit k74 _ 74 ?hg (N:=12) ?hd (xs:=([(⟨0,1,2,1⟩:S74),(⟨1,2,2,1⟩:S74)]:List (S74))) (inner:=[.int .i64 0, .int .i64 1, .int .i64 2, .int .i64 1, .int .i64 1, .int .i64 2, .int .i64 2, .int .i64 1]) (ok:=fun _=>True) (okp:=fun _=>True) ?hr ?hp (fun _ hk=>hk) trivial (Below.refl _ _) (Nat.le_refl _) (by simp) ?_;(case hd=>rfl);(case hg=>rfl);(case hr=>first|(go_simp;done)|(go_simp;rfl));(case hp=>exact(Reps.c4 (show Kd.M k74 _ _ _ (⟨0,1,2,1⟩:S74) [.int .i64 0, .int .i64 1, .int .i64 2, .int .i64 1] from(k74_mkM _ _ _ (⟨0,1,2,1⟩:S74) )) (Reps.c4 (show Kd.M k74 _ _ _ (⟨1,2,2,1⟩:S74) [.int .i64 1, .int .i64 2, .int .i64 2, .int .i64 1] from(k74_mkM _ _ _ (⟨1,2,2,1⟩:S74) )) (Reps.none _ _))));intro v787 w11 ho12 hb hg_ hnew_;clear hg_ hnew_;(first|rw[← Ny786.out] at ho12|(simp only[Int.reduceToNat] at ho12;rw[← Ny786.out] at ho12));have n0_:=Aside0.mk (Kd.R_lower ho12 (below_size (by repeat(first|(with_reducible first|exact HB.out|apply below_alloc|apply pw_below_drewN|apply below_drew1)|exact HB.out))));have n1_:=Aside0.mk (below_step (by repeat(first|(with_reducible first|exact HB.out|apply below_alloc|apply pw_below_drewN|apply below_drew1)|exact HB.out)) hb);clear HB;have HO788:=n0_;have HB:=n1_;clear n0_ n1_;clear hb ho12;obtain⟨Ao13,co13,eo13⟩:=Kd.R_slice HO788.out;subst eo13)|((with_reducible refine gate_dst (N:=1) rfl ?_);refine box_event ?hg (N:=1) ?hd (cs:= #[.int .i64 0, .bool false, .slice none 0 0]) (t:=24) ?hr ?_;(case hd=>rfl);(case hg=>rfl);(case hr=>first|(go_simp;done)|(go_simp;rfl));intro gb789 hg w14 hbox hb;have n0_:=Aside0.mk (Kd.R_below (by(with_reducible repeat(first|apply Kd.R_alloc|apply Kd.R_drewN|apply Kd.R_drew));exact HO788.out) hb);have n1_:=Aside0.mk (below_step (by repeat(first|(with_reducible first|exact HB.out|apply below_alloc|apply pw_below_drewN|apply below_drew1)|exact HB.out)) hb);have n2_:=Aside0.mk (hbox);have n3_:=Aside0.mk ((by rw[hg];exact(below_size (by repeat(first|(with_reducible first|exact HB.out|apply below_alloc|apply pw_below_drewN|apply below_drew1)|exact HB.out))):w.heap.size≤gb789));have n4_:=Aside0.mk ((by rw[hg];exact(below_size (by repeat(first|(with_reducible first|exact HB.out|apply below_alloc|apply pw_below_drewN|apply below_drew1)|exact HB.out))):w.heap.size≤gb789));clear HO788;clear HB;have HO788:=n0_;have HB:=n1_;have BK789:=n2_;have GW789:=n3_;have GE789:=n4_;clear n0_ n1_ n2_ n3_ n4_;clear hb hbox hg;have hcz15_0:w14.cell? ⟨gb789,0,none⟩=some (.int .i64 0):=(blk_cell BK789.out 0).trans rfl;have hcz15_1:w14.cell? ⟨gb789,1,none⟩=some (.bool false):=(blk_cell BK789.out 1).trans rfl;have hcz15_2:w14.cell? ⟨gb789,2,none⟩=some (.slice none 0 0):=(blk_cell BK789.out 2).trans rfl;have hfz15_0:=blk_frozen BK789.out 0;have hfz15_1:=blk_frozen BK789.out 1;have hfz15_2:=blk_frozen BK789.out 2)|((with_reducible refine gate_callee (f:=67) rfl ?_);refine goesL_ (some 16) rfl rfl Try.func67 (by kernel_rfl) rfl #[.agg #[.int .i64 3, .bool false, .slice Ao13 y786.length co13], .int .i64 0, .int .i64 2, .int .i64 1] rfl (by(try simp only[List.map_toArray,List.map_cons,List.map_nil]);first|done|rfl|(simp only[List.length_drop,List.length_take];rfl)) ?_;(with_reducible refine(span_Most.calls k 3 false _ _ y786 0 2 1 t790 t791 _ ?side1 ?side2 A1.out).mono ?_);(case side1=>refine(Kd.R_reads' (e:=74) (base:=w.heap.size) (ok:=fun k_=>True) (n:=y786.length) (c:=co13) ?_).2.2;exact(by(with_reducible repeat(first|apply Kd.R_alloc|apply Kd.R_drewN|apply Kd.R_drew));exact(Kd.R_mono (Kd.R_far (p:=⟨gb789,2,none⟩) (Kd.R_far (p:=⟨gb789,1,none⟩) (Kd.R_far (p:=⟨gb789,0,none⟩) (Kd.R_types HO788.out BK789.out (by decide)) (fun _ hk=>hk.2) (.int .i64 3)) (fun _ hk=>hk.2) (.bool false)) (fun _ hk=>hk.2) (.slice Ao13 y786.length co13)) (fun _ h_=>h_.1))));(case side2=>exact(Kd.R_reads' HO788.out).2.1);rintro e w16 ⟨rfl,hb⟩;refine⟨_,rfl,?_⟩;have n0_:=Aside0.mk (Kd.R_below (by(with_reducible repeat(first|apply Kd.R_alloc|apply Kd.R_drewN|apply Kd.R_drew));exact(Kd.R_mono (Kd.R_far (p:=⟨gb789,2,none⟩) (Kd.R_far (p:=⟨gb789,1,none⟩) (Kd.R_far (p:=⟨gb789,0,none⟩) (Kd.R_types HO788.out BK789.out (by decide)) (fun _ hk=>hk.2) (.int .i64 3)) (fun _ hk=>hk.2) (.bool false)) (fun _ hk=>hk.2) (.slice Ao13 y786.length co13)) (fun _ h_=>h_.1))) hb);have n1_:=Aside0.mk (blk_below (g:=gb789) (o:= .cells #[.int .i64 3, .bool false, .slice Ao13 y786.length co13] 24 (0,0)) (by(with_reducible repeat(first|refine blk_drewN ?_ _|refine blk_drew ?_|refine blk_alloc ?_ _));refine blk_put (cs:= #[.int .i64 3, .bool false, .slice none 0 0]) ?_ 2 _ rfl;(with_reducible repeat(first|refine blk_drewN ?_ _|refine blk_drew ?_|refine blk_alloc ?_ _));refine blk_put (cs:= #[.int .i64 3, .bool false, .slice none 0 0]) ?_ 1 _ rfl;(with_reducible repeat(first|refine blk_drewN ?_ _|refine blk_drew ?_|refine blk_alloc ?_ _));refine blk_put (cs:= #[.int .i64 0, .bool false, .slice none 0 0]) ?_ 0 _ rfl;(with_reducible repeat(first|refine blk_drewN ?_ _|refine blk_drew ?_|refine blk_alloc ?_ _));exact BK789.out) hb);have n2_:=Aside0.mk (below_step (by repeat(first|(with_reducible first|exact HB.out|apply below_alloc|apply pw_below_drewN|apply below_drew1|refine below_set ?_ GE789.out)|exact HB.out)) hb);clear HO788;clear BK789;clear HB;have HO788:=n0_;have BK789:=n1_;have HB:=n2_;clear n0_ n1_ n2_;(try clear hb);(try clear hb2);(try clear hk);(try clear hi);have hcz17_0:w16.cell? ⟨gb789,0,none⟩=some (.int .i64 3):=(blk_cell BK789.out 0).trans rfl;have hcz17_1:w16.cell? ⟨gb789,1,none⟩=some (.bool false):=(blk_cell BK789.out 1).trans rfl;have hcz17_2:w16.cell? ⟨gb789,2,none⟩=some (.slice Ao13 y786.length co13):=(blk_cell BK789.out 2).trans rfl;have hfz17_0:=blk_frozen BK789.out 0;have hfz17_1:=blk_frozen BK789.out 1;have hfz17_2:=blk_frozen BK789.out 2)|((with_reducible refine gate_callee (f:=67) rfl ?_);refine goesL_ (some 21) rfl rfl Try.func67 (by kernel_rfl) rfl #[.agg #[.int .i64 3, .bool false, .slice Ao13 y786.length co13], .int .i64 0, .int .i64 2, .int .i64 5] rfl (by(try simp only[List.map_toArray,List.map_cons,List.map_nil]);first|done|rfl|(simp only[List.length_drop,List.length_take];rfl)) ?_;(with_reducible refine(span_Most.calls k 3 false _ _ y786 0 2 5 t792 t793 _ ?side1 ?side2 A2.out).mono ?_);(case side1=>repeat(first|exact(Kd.R_reads' HO788.out).2.2|(with_reducible refine Kd.C_alloc ?_ _)|(with_reducible refine Kd.C_drewN ?_ _)|(with_reducible refine Kd.C_drew ?_)));(case side2=>exact(Kd.R_reads' HO788.out).2.1);rintro e w18 ⟨rfl,hb⟩;refine⟨_,rfl,?_⟩;have n0_:=Aside0.mk (Kd.R_below (by(with_reducible repeat(first|apply Kd.R_alloc|apply Kd.R_drewN|apply Kd.R_drew));exact HO788.out) hb);have n1_:=Aside0.mk (blk_below (g:=gb789) (o:= .cells #[.int .i64 3, .bool false, .slice Ao13 y786.length co13] 24 (0,0)) (by(with_reducible repeat(first|refine blk_drewN ?_ _|refine blk_drew ?_|refine blk_alloc ?_ _));exact BK789.out) hb);have n2_:=Aside0.mk (below_step (by repeat(first|(with_reducible first|exact HB.out|apply below_alloc|apply pw_below_drewN|apply below_drew1|refine below_set ?_ GE789.out)|exact HB.out)) hb);clear HO788;clear BK789;clear HB;have HO788:=n0_;have BK789:=n1_;have HB:=n2_;clear n0_ n1_ n2_;(try clear hb);(try clear hb2);(try clear hk);(try clear hi);have hcz19_0:w18.cell? ⟨gb789,0,none⟩=some (.int .i64 3):=(blk_cell BK789.out 0).trans rfl;have hcz19_1:w18.cell? ⟨gb789,1,none⟩=some (.bool false):=(blk_cell BK789.out 1).trans rfl;have hcz19_2:w18.cell? ⟨gb789,2,none⟩=some (.slice Ao13 y786.length co13):=(blk_cell BK789.out 2).trans rfl;have hfz19_0:=blk_frozen BK789.out 0;have hfz19_1:=blk_frozen BK789.out 1;have hfz19_2:=blk_frozen BK789.out 2)|((with_reducible refine gate_dst (N:=26) rfl ?_);refine Kd.R_lit (Kd.int .i64) _ 3 ?hg (N:=26) ?hd (xs:=([1,1]:List Int)) (inner:=[.int .i64 1, .int .i64 1]) (ok:=fun _=>True) (okp:=fun _=>True) ?hr ?hp (fun _ hk=>hk) trivial (Below.refl _ _) (Nat.le_refl _) (by simp) ?_;(case hd=>rfl);(case hg=>rfl);(case hr=>first|(go_simp;done)|(go_simp;rfl));(case hp=>exact(Reps.one (show Kd.M (Kd.int .i64) _ _ _ 1 [.int .i64 1] from rfl) (Reps.one (show Kd.M (Kd.int .i64) _ _ _ 1 [.int .i64 1] from rfl) (Reps.none _ _))));intro v795 w20 ho21 hb hg_ hnew_;clear hg_ hnew_;(first|rw[← Ny794.out] at ho21|(simp only[Int.reduceToNat] at ho21;rw[← Ny794.out] at ho21));have n0_:=Aside0.mk (Kd.R_below (by(with_reducible repeat(first|apply Kd.R_alloc|apply Kd.R_drewN|apply Kd.R_drew));exact HO788.out) hb);have n1_:=Aside0.mk (Kd.R_lower ho21 (below_size (by repeat(first|(with_reducible first|exact HB.out|apply below_alloc|apply pw_below_drewN|apply below_drew1|refine below_set ?_ GE789.out)|exact HB.out))));have n2_:=Aside0.mk (blk_below (g:=gb789) (o:= .cells #[.int .i64 3, .bool false, .slice Ao13 y786.length co13] 24 (0,0)) (by(with_reducible repeat(first|refine blk_drewN ?_ _|refine blk_drew ?_|refine blk_alloc ?_ _));exact BK789.out) hb);have n3_:=Aside0.mk (below_step (by repeat(first|(with_reducible first|exact HB.out|apply below_alloc|apply pw_below_drewN|apply below_drew1|refine below_set ?_ GE789.out)|exact HB.out)) hb);clear HO788;clear BK789;clear HB;have HO788:=n0_;have HO796:=n1_;have BK789:=n2_;have HB:=n3_;clear n0_ n1_ n2_ n3_;clear hb ho21;obtain⟨Ao22,co22,eo22⟩:=Kd.R_slice HO796.out;subst eo22)|((with_reducible refine gate_callee (f:=63) rfl ?_);refine goesL_ (some 27) rfl rfl Try.func63 (by kernel_rfl) rfl #[.agg #[.int .i64 3, .bool false, .slice Ao13 y786.length co13], .int .i64 0, .int .i64 2, .slice Ao22 y794.length co22, .int .i64 2] rfl (by(try simp only[List.map_toArray,List.map_cons,List.map_nil]);first|done|rfl|(simp only[List.length_drop,List.length_take];rfl)) ?_;(with_reducible refine(span_Worth.calls k 3 false _ _ y786 0 2 _ _ y794 2 t797 t798 _ ?side1 ?side2 ?side3 ?side4 A3.out).mono ?_);(case side1=>repeat(first|exact(Kd.R_reads' HO788.out).2.2|(with_reducible refine Kd.C_alloc ?_ _)|(with_reducible refine Kd.C_drewN ?_ _)|(with_reducible refine Kd.C_drew ?_)));(case side2=>exact(Kd.R_reads' HO788.out).2.1);(case side3=>repeat(first|exact(Kd.R_reads' HO796.out).2.2|(with_reducible refine Kd.C_alloc ?_ _)|(with_reducible refine Kd.C_drewN ?_ _)|(with_reducible refine Kd.C_drew ?_)));(case side4=>exact(Kd.R_reads' HO796.out).2.1);rintro e w23 ⟨rfl,hb⟩;refine⟨_,rfl,?_⟩;have n0_:=Aside0.mk (Kd.R_below (by(with_reducible repeat(first|apply Kd.R_alloc|apply Kd.R_drewN|apply Kd.R_drew));exact HO788.out) hb);have n1_:=Aside0.mk (Kd.R_below (by(with_reducible repeat(first|apply Kd.R_alloc|apply Kd.R_drewN|apply Kd.R_drew));exact HO796.out) hb);have n2_:=Aside0.mk (blk_below (g:=gb789) (o:= .cells #[.int .i64 3, .bool false, .slice Ao13 y786.length co13] 24 (0,0)) (by(with_reducible repeat(first|refine blk_drewN ?_ _|refine blk_drew ?_|refine blk_alloc ?_ _));exact BK789.out) hb);have n3_:=Aside0.mk (below_step (by repeat(first|(with_reducible first|exact HB.out|apply below_alloc|apply pw_below_drewN|apply below_drew1|refine below_set ?_ GE789.out)|exact HB.out)) hb);clear HO788;clear HO796;clear BK789;clear HB;have HO788:=n0_;have HO796:=n1_;have BK789:=n2_;have HB:=n3_;clear n0_ n1_ n2_ n3_;(try clear hb);(try clear hb2);(try clear hk);(try clear hi);have hcz24_0:w23.cell? ⟨gb789,0,none⟩=some (.int .i64 3):=(blk_cell BK789.out 0).trans rfl;have hcz24_1:w23.cell? ⟨gb789,1,none⟩=some (.bool false):=(blk_cell BK789.out 1).trans rfl;have hcz24_2:w23.cell? ⟨gb789,2,none⟩=some (.slice Ao13 y786.length co13):=(blk_cell BK789.out 2).trans rfl;have hfz24_0:=blk_frozen BK789.out 0;have hfz24_1:=blk_frozen BK789.out 1;have hfz24_2:=blk_frozen BK789.out 2)|((with_reducible refine gate_callee (f:=67) rfl ?_);refine goesL_ (some 32) rfl rfl Try.func67 (by kernel_rfl) rfl #[.agg #[.int .i64 3, .bool false, .slice Ao13 y786.length co13], .int .i64 0, .int .i64 2, .int .i64 (-1)] rfl (by(try simp only[List.map_toArray,List.map_cons,List.map_nil]);first|done|rfl|(simp only[List.length_drop,List.length_take];rfl)) ?_;(with_reducible refine(span_Most.calls k 3 false _ _ y786 0 2 (-1) t799 t800 _ ?side1 ?side2 A4.out).mono ?_);(case side1=>repeat(first|exact(Kd.R_reads' HO788.out).2.2|(with_reducible refine Kd.C_alloc ?_ _)|(with_reducible refine Kd.C_drewN ?_ _)|(with_reducible refine Kd.C_drew ?_)));(case side2=>exact(Kd.R_reads' HO788.out).2.1);rintro e w25 ⟨rfl,hb⟩;refine⟨_,rfl,?_⟩;have n0_:=Aside0.mk (Kd.R_below (by(with_reducible repeat(first|apply Kd.R_alloc|apply Kd.R_drewN|apply Kd.R_drew));exact HO788.out) hb);have n1_:=Aside0.mk (Kd.R_below (by(with_reducible repeat(first|apply Kd.R_alloc|apply Kd.R_drewN|apply Kd.R_drew));exact HO796.out) hb);have n2_:=Aside0.mk (blk_below (g:=gb789) (o:= .cells #[.int .i64 3, .bool false, .slice Ao13 y786.length co13] 24 (0,0)) (by(with_reducible repeat(first|refine blk_drewN ?_ _|refine blk_drew ?_|refine blk_alloc ?_ _));exact BK789.out) hb);have n3_:=Aside0.mk (below_step (by repeat(first|(with_reducible first|exact HB.out|apply below_alloc|apply pw_below_drewN|apply below_drew1|refine below_set ?_ GE789.out)|exact HB.out)) hb);clear HO788;clear HO796;clear BK789;clear HB;have HO788:=n0_;have HO796:=n1_;have BK789:=n2_;have HB:=n3_;clear n0_ n1_ n2_ n3_;(try clear hb);(try clear hb2);(try clear hk);(try clear hi)))
 go_ret
 exact⟨by first|rfl|(simp[errW_none,errW_some]<;>rfl)|(simp[*,errW_none,errW_some]<;>rfl),by repeat(first|(with_reducible first|exact HB.out|apply below_alloc|apply pw_below_drewN|apply below_drew1|refine below_set ?_ GE789.out)|exact HB.out)⟩
end Go.Proofs.Ytkcpanpdipmmmaa.P
namespace Go.Proofs.Ytkcpanpdipmmmaa.P
open Go.RowKit Go.Proofs.YtkcpanpdipmmmaaW.PrintWords Go.Proofs.YtkcpanpdipmmmaaW.PrintLast Go.Proofs.YtkcpanpdipmmmaaW.PrintMore
attribute [local go_sem] max2_int min2_int max_two min_two max_three min_three max_four min_four
def ebbtidelaw12_Read.l0:Nat→Int→Int→Int→Bool→List (S135)→Int→Int→Int→Int→Bool→List (S74)→Option (Int × Bool × (List (S74)) × Int × Int × Int)
 |0,_,_,_,_,_,_,_,_,_,_,_=>none
 |k+1,x1,x9,x884000,x884001,x884002,x884003,x884004,x884005,x886000,x886001,x886002=>if x9<(x884002.length:Int) then(if x9<x1 then(if 0≤x9 then(if x886000=0 then(none) else(if x886002.length<4398046511104 then(ebbtidelaw12_Read.l0 k x1 (wrap64 (x9+1)) x884000 x884001 x884002 x884003 x884004 x884005 x886000 x886001 (x886002 ++ [(⟨Int.tmod (wrap64 ((rd_T135 x884002 x9).f0)) x886000,Int.tmod (wrap64 ((rd_T135 x884002 x9).f1)) x886000,Int.tmod (wrap64 ((rd_T135 x884002 x9).f2)) 6,Int.tmod (wrap64 ((rd_T135 x884002 x9).f3)) 4⟩:S74)])) else(none))) else(none)) else(if x886000=0 then(none) else(if (wrap64 (x886000 - 1))=0 then(none) else(some (x886000,x886001,x886002,Int.tmod (wrap64 (x884003)) x886000,Int.tmod (wrap64 ((wrap64 ((Int.tmod (wrap64 (x884003)) x886000)+1))+(Int.tmod (wrap64 (x884004)) (wrap64 (x886000 - 1))))) x886000,Int.tmod (wrap64 (x884005)) 8))))) else(if x886000=0 then(none) else(if (wrap64 (x886000 - 1))=0 then(none) else(some (x886000,x886001,x886002,Int.tmod (wrap64 (x884003)) x886000,Int.tmod (wrap64 ((wrap64 ((Int.tmod (wrap64 (x884003)) x886000)+1))+(Int.tmod (wrap64 (x884004)) (wrap64 (x886000 - 1))))) x886000,Int.tmod (wrap64 (x884005)) 8))))
def ebbtidelaw12_Read.f (k:Nat) (a0_0:Int) (a0_1:Bool) (l0_2:List (S135)) (a0_3:Int) (a0_4:Int) (a0_5:Int) (a1:Int):Option (Int × Bool × (List (S74)) × Int × Int × Int):=ebbtidelaw12_Read.l0 k a1 0 a0_0 a0_1 l0_2 a0_3 a0_4 a0_5 (wrap64 (2+(Int.tmod (wrap64 (a0_0)) 4))) a0_1 ([]:List (S74))
def ebbtidelaw12_Read.T6:Bool × List (List Nat × List Nat):=(true,[([],[]),([0],[0]),([],[]),([2],[2]),([3],[3]),([],[]),([5],[5]),([4,6],[4,6]),([],[]),([8],[8]),([9],[9]),([],[]),([11],[11]),([10,12],[10,12]),([],[]),([14],[14]),([15],[15]),([16],[16]),([],[]),([18],[18]),([19],[19]),([20],[20]),([7,13,17,21],[7,13,17,21]),([22],[22]),([1,23],[1,23]),([0,1,2,3,4,5,6,7,8,9,10,11,12,13,14,15,16,17,18,19,20,21,22,23,24],[]),([25,24,24,0,1,2,3,4,5,6,7,8,9,10,11,12,13,14,15,16,17,18,19,20,21,22,23,24],[24,25])])
def ebbtidelaw12_Read.B6:List Nat:=[0,1,0,4,12,0,32,124,0,256,768,0,2048,7936,0,16384,49152,114688,0,262144,786432,1835008,4194300,8388604,16777215,33554431,67108863]
theorem ebbtidelaw12_Read.tab6:rtab .any (opsOf Try.f72 6)=ebbtidelaw12_Read.T6:=by kernel_rfl
theorem ebbtidelaw12_Read.bits6:waitsOk ebbtidelaw12_Read.T6.2 ebbtidelaw12_Read.B6=true:=by kernel_rfl
def ebbtidelaw12_Read.T8:Bool × List (List Nat × List Nat):=(true,[([],[]),([0],[0]),([],[]),([2],[2]),([3],[3]),([],[]),([5],[5]),([6],[6]),([4,7],[4,7]),([1,8],[1,8]),([],[]),([10],[10]),([9,11],[9,11]),([12,0,1,2,3,4,5,6,7,8,9,10,11,12],[12])])
def ebbtidelaw12_Read.B8:List Nat:=[0,1,0,4,12,0,32,96,252,511,0,1024,4095,8191]
theorem ebbtidelaw12_Read.tab8:rtab .any (opsOf Try.f72 8)=ebbtidelaw12_Read.T8:=by kernel_rfl
theorem ebbtidelaw12_Read.bits8:waitsOk ebbtidelaw12_Read.T8.2 ebbtidelaw12_Read.B8=true:=by kernel_rfl
def ebbtidelaw12_Read.T9:Bool × List (List Nat × List Nat):=(true,[([],[]),([],[]),([],[]),([],[]),([3],[3]),([4],[4]),([5],[5]),([0,0],[0]),([1,7,0,1,7],[1]),([2,8,0,1,2,7,8],[2]),([6,9,0,1,2,3,4,5,6,7,8,9],[6])])
def ebbtidelaw12_Read.B9:List Nat:=[0,0,0,0,8,24,56,1,131,391,1023]
theorem ebbtidelaw12_Read.tab9:rtab .any (opsOf Try.f72 9)=ebbtidelaw12_Read.T9:=by kernel_rfl
theorem ebbtidelaw12_Read.bits9:waitsOk ebbtidelaw12_Read.T9.2 ebbtidelaw12_Read.B9=true:=by kernel_rfl
set_option maxHeartbeats 8000000 in
set_option maxRecDepth 100000 in
theorem ebbtidelaw12_Read.calls (k:Nat) (a0_0:Int) (a0_1:Bool) (A0_2:Option Addr) (c0_2:Nat) (l0_2:List (S135)) (a0_3:Int) (a0_4:Int) (a0_5:Int) (a1:Int) (r1:Int) (r2:Bool) (r3:List (S74)) (r4:Int) (r5:Int) (r6:Int) (w:World) (hr0_2:Kd.C k135 w A0_2 l0_2.length l0_2) (hc0_2:l0_2.length≤c0_2) (h:ebbtidelaw12_Read.f k a0_0 a0_1 l0_2 a0_3 a0_4 a0_5 a1=some (r1,r2,r3,r4,r5,r6)):
  Calls Try.prog 72 #[.agg #[.int .u8 a0_0, .bool a0_1, .slice A0_2 l0_2.length c0_2, .int .u8 a0_3, .int .u8 a0_4, .int .u8 a0_5], .int .i64 a1] w fun e w'=> ∃ v2_:Value,e= .returned (.tuple #[.agg #[.int .i64 r1, .bool r2,v2_], .int .i64 r4, .int .i64 r5, .int .i64 r6])∧Kd.R k74 74 w' w.heap.size (fun _=>True) v2_ r3∧Below w.heap.size w w':=by
 have hu70:=Try.underlying70
 have hu24:=Try.underlying24
 have hu135:=Try.underlying135
 have hu74:=Try.underlying74
 have HR0_2:=Aside0.mk hr0_2
 have HC0_2:=Aside0.mk hc0_2
 clear hr0_2 hc0_2
 have HB:=Aside0.mk (Below.refl w.heap.size w)
 have H:(ebbtidelaw12_Read.l0 k a1 0 a0_0 a0_1 l0_2 a0_3 a0_4 a0_5 (wrap64 (2+(Int.tmod (wrap64 (a0_0)) 4))) a0_1 ([]:List (S74)))=some (r1,r2,r3,r4,r5,r6):=h
 clear h
 have H':=Aside0.mk H
 clear H
 go_enter Try.func72,Try.ntmps72
 go_wp2_with (first|((with_reducible refine gate_dst (N:=2) rfl ?_);refine box_event ?hg (N:=2) ?hd (cs:= #[.int .u8 a0_0, .bool a0_1, .slice A0_2 l0_2.length c0_2, .int .u8 a0_3, .int .u8 a0_4, .int .u8 a0_5]) (t:=70) ?hr ?_;(case hd=>rfl);(case hg=>rfl);(case hr=>first|(go_simp;done)|(go_simp;rfl));intro gb883 hg w3 hbox hb;have n0_:=Aside0.mk (below_step (by repeat(first|(with_reducible first|exact HB.out|apply below_alloc|apply pw_below_drewN|apply below_drew1)|exact HB.out)) hb);have n1_:=Aside0.mk (hbox);have n2_:=Aside0.mk ((by rw[hg];exact(below_size (by repeat(first|(with_reducible first|exact HB.out|apply below_alloc|apply pw_below_drewN|apply below_drew1)|exact HB.out))):w.heap.size≤gb883));have n3_:=Aside0.mk ((by rw[hg];exact(below_size (by repeat(first|(with_reducible first|exact HB.out|apply below_alloc|apply pw_below_drewN|apply below_drew1)|exact HB.out))):w.heap.size≤gb883));clear HB;have HB:=n0_;have BK883:=n1_;have GW883:=n2_;have GE883:=n3_;clear n0_ n1_ n2_ n3_;clear hb hbox hg)|((with_reducible refine gate_dst (N:=4) rfl ?_);refine box_event ?hg (N:=4) ?hd (cs:= #[.int .i64 0, .bool false, .slice none 0 0]) (t:=24) ?hr ?_;(case hd=>rfl);(case hg=>rfl);(case hr=>first|(go_simp;done)|(go_simp;rfl));intro gb884 hg w4 hbox hb;have n0_:=Aside0.mk (blk_below (g:=gb883) (o:= .cells #[.int .u8 a0_0, .bool a0_1, .slice A0_2 l0_2.length c0_2, .int .u8 a0_3, .int .u8 a0_4, .int .u8 a0_5] 70 (0,0)) (by(with_reducible repeat(first|refine blk_drewN ?_ _|refine blk_drew ?_|refine blk_alloc ?_ _));exact BK883.out) hb);have n1_:=Aside0.mk (below_step (by repeat(first|(with_reducible first|exact HB.out|apply below_alloc|apply pw_below_drewN|apply below_drew1|refine below_set ?_ GE883.out)|exact HB.out)) hb);have n2_:=Aside0.mk (hbox);have n3_:=Aside0.mk ((by rw[hg];exact(below_size (by repeat(first|(with_reducible first|exact HB.out|apply below_alloc|apply pw_below_drewN|apply below_drew1|refine below_set ?_ GE883.out)|exact HB.out))):w.heap.size≤gb884));have n4_:=Aside0.mk ((by rw[hg];exact(below_size (by repeat(first|(with_reducible first|exact HB.out|apply below_alloc|apply pw_below_drewN|apply below_drew1|refine below_set ?_ GE883.out)|exact HB.out))):w.heap.size≤gb884));have n5_:=Aside0.mk ((by rw[hg];exact Nat.ne_of_lt (blk_lt (g:=gb883) (o:= .cells #[.int .u8 a0_0, .bool a0_1, .slice A0_2 l0_2.length c0_2, .int .u8 a0_3, .int .u8 a0_4, .int .u8 a0_5] 70 (0,0)) (by(with_reducible repeat(first|refine blk_drewN ?_ _|refine blk_drew ?_|refine blk_alloc ?_ _));exact BK883.out)):gb883≠gb884));have n6_:=Aside0.mk ((by rw[hg];exact Nat.ne_of_gt (blk_lt (g:=gb883) (o:= .cells #[.int .u8 a0_0, .bool a0_1, .slice A0_2 l0_2.length c0_2, .int .u8 a0_3, .int .u8 a0_4, .int .u8 a0_5] 70 (0,0)) (by(with_reducible repeat(first|refine blk_drewN ?_ _|refine blk_drew ?_|refine blk_alloc ?_ _));exact BK883.out)):gb884≠gb883));clear BK883;clear HB;have BK883:=n0_;have HB:=n1_;have BK884:=n2_;have GW884:=n3_;have GE884:=n4_;have NB883_884:=n5_;have NB884_883:=n6_;clear n0_ n1_ n2_ n3_ n4_ n5_ n6_;clear hb hbox hg;have hnb5:=NB883_884.out;have hnc5:=NB884_883.out;have hcz6_0:w4.cell? ⟨gb883,0,none⟩=some (.int .u8 a0_0):=(blk_cell BK883.out 0).trans rfl;have hcz6_1:w4.cell? ⟨gb883,1,none⟩=some (.bool a0_1):=(blk_cell BK883.out 1).trans rfl;have hcz6_2:w4.cell? ⟨gb883,2,none⟩=some (.slice A0_2 l0_2.length c0_2):=(blk_cell BK883.out 2).trans rfl;have hcz6_3:w4.cell? ⟨gb883,3,none⟩=some (.int .u8 a0_3):=(blk_cell BK883.out 3).trans rfl;have hcz6_4:w4.cell? ⟨gb883,4,none⟩=some (.int .u8 a0_4):=(blk_cell BK883.out 4).trans rfl;have hcz6_5:w4.cell? ⟨gb883,5,none⟩=some (.int .u8 a0_5):=(blk_cell BK883.out 5).trans rfl;have hfz6_0:=blk_frozen BK883.out 0;have hfz6_1:=blk_frozen BK883.out 1;have hfz6_2:=blk_frozen BK883.out 2;have hfz6_3:=blk_frozen BK883.out 3;have hfz6_4:=blk_frozen BK883.out 4;have hfz6_5:=blk_frozen BK883.out 5)|((with_reducible refine gate_dst (N:=8) rfl ?_);refine box_event ?hg (N:=8) ?hd (cs:= #[.int .i64 0, .bool false, .slice none 0 0]) (t:=24) ?hr ?_;(case hd=>rfl);(case hg=>rfl);(case hr=>first|(go_simp;done)|(go_simp;rfl));intro gb885 hg w7 hbox hb;have n0_:=Aside0.mk (blk_below (g:=gb883) (o:= .cells #[.int .u8 a0_0, .bool a0_1, .slice A0_2 l0_2.length c0_2, .int .u8 a0_3, .int .u8 a0_4, .int .u8 a0_5] 70 (0,0)) (by(with_reducible repeat(first|refine blk_drewN ?_ _|refine blk_drew ?_|refine blk_alloc ?_ _));exact BK883.out) hb);have n1_:=Aside0.mk (blk_below (g:=gb884) (o:= .cells #[.int .i64 0, .bool false, .slice none 0 0] 24 (0,0)) (by(with_reducible repeat(first|refine blk_drewN ?_ _|refine blk_drew ?_|refine blk_alloc ?_ _));exact BK884.out) hb);have n2_:=Aside0.mk (below_step (by repeat(first|(with_reducible first|exact HB.out|apply below_alloc|apply pw_below_drewN|apply below_drew1|refine below_set ?_ GE883.out|refine below_set ?_ GE884.out)|exact HB.out)) hb);have n3_:=Aside0.mk (hbox);have n4_:=Aside0.mk ((by rw[hg];exact(below_size (by repeat(first|(with_reducible first|exact HB.out|apply below_alloc|apply pw_below_drewN|apply below_drew1|refine below_set ?_ GE883.out|refine below_set ?_ GE884.out)|exact HB.out))):w.heap.size≤gb885));have n5_:=Aside0.mk ((by rw[hg];exact(below_size (by repeat(first|(with_reducible first|exact HB.out|apply below_alloc|apply pw_below_drewN|apply below_drew1|refine below_set ?_ GE883.out|refine below_set ?_ GE884.out)|exact HB.out))):w.heap.size≤gb885));have n6_:=Aside0.mk ((by rw[hg];exact Nat.ne_of_lt (blk_lt (g:=gb883) (o:= .cells #[.int .u8 a0_0, .bool a0_1, .slice A0_2 l0_2.length c0_2, .int .u8 a0_3, .int .u8 a0_4, .int .u8 a0_5] 70 (0,0)) (by(with_reducible repeat(first|refine blk_drewN ?_ _|refine blk_drew ?_|refine blk_alloc ?_ _));exact BK883.out)):gb883≠gb885));have n7_:=Aside0.mk ((by rw[hg];exact Nat.ne_of_gt (blk_lt (g:=gb883) (o:= .cells #[.int .u8 a0_0, .bool a0_1, .slice A0_2 l0_2.length c0_2, .int .u8 a0_3, .int .u8 a0_4, .int .u8 a0_5] 70 (0,0)) (by(with_reducible repeat(first|refine blk_drewN ?_ _|refine blk_drew ?_|refine blk_alloc ?_ _));exact BK883.out)):gb885≠gb883));have n8_:=Aside0.mk ((by rw[hg];exact Nat.ne_of_lt (blk_lt (g:=gb884) (o:= .cells #[.int .i64 0, .bool false, .slice none 0 0] 24 (0,0)) (by(with_reducible repeat(first|refine blk_drewN ?_ _|refine blk_drew ?_|refine blk_alloc ?_ _));exact BK884.out)):gb884≠gb885));have n9_:=Aside0.mk ((by rw[hg];exact Nat.ne_of_gt (blk_lt (g:=gb884) (o:= .cells #[.int .i64 0, .bool false, .slice none 0 0] 24 (0,0)) (by(with_reducible repeat(first|refine blk_drewN ?_ _|refine blk_drew ?_|refine blk_alloc ?_ _));exact BK884.out)):gb885≠gb884));clear BK883;clear BK884;clear HB;have BK883:=n0_;have BK884:=n1_;have HB:=n2_;have BK885:=n3_;have GW885:=n4_;have GE885:=n5_;have NB883_885:=n6_;have NB885_883:=n7_;have NB884_885:=n8_;have NB885_884:=n9_;clear n0_ n1_ n2_ n3_ n4_ n5_ n6_ n7_ n8_ n9_;clear hb hbox hg;have hnb8:=NB885_883.out;have hnc8:=NB883_885.out;have hnb9:=NB885_884.out;have hnc9:=NB884_885.out;have hcz10_0:w7.cell? ⟨gb885,0,none⟩=some (.int .i64 0):=(blk_cell BK885.out 0).trans rfl;have hcz10_1:w7.cell? ⟨gb885,1,none⟩=some (.bool false):=(blk_cell BK885.out 1).trans rfl;have hcz10_2:w7.cell? ⟨gb885,2,none⟩=some (.slice none 0 0):=(blk_cell BK885.out 2).trans rfl;have hfz10_0:=blk_frozen BK885.out 0;have hfz10_1:=blk_frozen BK885.out 1;have hfz10_2:=blk_frozen BK885.out 2))
 go_loopg [9] k (fun kq v9 w'=> ∃ (x9_1:Int) (x886002_1:List (S74)) (u886002:Value),v9= .int .i64 x9_1∧Aside0 (ebbtidelaw12_Read.l0 kq a1 x9_1 a0_0 a0_1 l0_2 a0_3 a0_4 a0_5 (wrap64 (2+(Int.tmod (wrap64 (a0_0)) 4))) a0_1 x886002_1=some (r1,r2,r3,r4,r5,r6))∧Aside0 (kq≤k)∧Aside0 (Kd.R k74 74 w' w.heap.size (fun _=>True) u886002 x886002_1)∧Aside0 (w'.heap[gb883]? =some (.cells #[.int .u8 a0_0, .bool a0_1,(.slice A0_2 l0_2.length c0_2), .int .u8 a0_3, .int .u8 a0_4, .int .u8 a0_5] 70 (0,0)))∧Aside0 (w'.heap[gb884]? =some (.cells #[.int .i64 0, .bool false,(.slice none 0 0)] 24 (0,0)))∧Aside0 (w'.heap[gb885]? =some (.cells #[.int .i64 (wrap64 (2+(Int.tmod (wrap64 (a0_0)) 4))), .bool a0_1,u886002] 24 (0,0)))∧Aside0 (Below w.heap.size w w'))
 case atStart=>exact⟨(0),(([]:List (S74))),(.slice none 0 0),(by first|rfl|(simp;done)|(simp[*];done)),H',⟨Nat.le_refl _⟩,⟨by first|exact Kd.R_nil _ _ _ _ _|exact Kd.N_nil _ _ _ _ _|exact Kd.V_nil _ _ _ _ _|exact Kd.Q_nil _ _ _ _ _|exact Kd.S_nil _ _ _ _ _⟩,⟨by(with_reducible repeat(first|refine blk_drewN ?_ _|refine blk_drew ?_|refine blk_alloc ?_ _));refine blk_far ?_ NB883_885.out _;(with_reducible repeat(first|refine blk_drewN ?_ _|refine blk_drew ?_|refine blk_alloc ?_ _));refine blk_far ?_ NB883_885.out _;(with_reducible repeat(first|refine blk_drewN ?_ _|refine blk_drew ?_|refine blk_alloc ?_ _));refine blk_far ?_ NB883_885.out _;(with_reducible repeat(first|refine blk_drewN ?_ _|refine blk_drew ?_|refine blk_alloc ?_ _));exact BK883.out⟩,⟨by(with_reducible repeat(first|refine blk_drewN ?_ _|refine blk_drew ?_|refine blk_alloc ?_ _));refine blk_far ?_ NB884_885.out _;(with_reducible repeat(first|refine blk_drewN ?_ _|refine blk_drew ?_|refine blk_alloc ?_ _));refine blk_far ?_ NB884_885.out _;(with_reducible repeat(first|refine blk_drewN ?_ _|refine blk_drew ?_|refine blk_alloc ?_ _));refine blk_far ?_ NB884_885.out _;(with_reducible repeat(first|refine blk_drewN ?_ _|refine blk_drew ?_|refine blk_alloc ?_ _));exact BK884.out⟩,⟨by(with_reducible repeat(first|refine blk_drewN ?_ _|refine blk_drew ?_|refine blk_alloc ?_ _));refine blk_put (cs:= #[.int .i64 (wrap64 (2+(Int.tmod (wrap64 (a0_0)) 4))), .bool a0_1, .slice none 0 0]) ?_ 2 _ rfl;(with_reducible repeat(first|refine blk_drewN ?_ _|refine blk_drew ?_|refine blk_alloc ?_ _));refine blk_put (cs:= #[.int .i64 (wrap64 (2+(Int.tmod (wrap64 (a0_0)) 4))), .bool false, .slice none 0 0]) ?_ 1 _ rfl;(with_reducible repeat(first|refine blk_drewN ?_ _|refine blk_drew ?_|refine blk_alloc ?_ _));refine blk_put (cs:= #[.int .i64 0, .bool false, .slice none 0 0]) ?_ 0 _ rfl;(with_reducible repeat(first|refine blk_drewN ?_ _|refine blk_drew ?_|refine blk_alloc ?_ _));exact BK885.out⟩,⟨by repeat(first|(with_reducible first|exact HB.out|apply below_alloc|apply pw_below_drewN|apply below_drew1|refine below_set ?_ GE883.out|refine below_set ?_ GE884.out|refine below_set ?_ GE885.out)|exact HB.out)⟩⟩
 case round=>
  clear H'
  try clear p2
  try clear c5
  try clear p6
  try clear c7
  try clear c8
  try clear c9
  try clear hcz10_0
  try clear hcz10_1
  try clear hcz10_2
  try clear hcz6_0
  try clear hcz6_1
  try clear hcz6_2
  try clear hcz6_3
  try clear hcz6_4
  try clear hcz6_5
  try clear hfz10_0
  try clear hfz10_1
  try clear hfz10_2
  try clear hfz6_0
  try clear hfz6_1
  try clear hfz6_2
  try clear hfz6_3
  try clear hfz6_4
  try clear hfz6_5
  obtain⟨x9_1,x886002_1,u886002,rfl,HA,HK1,HO_886002,BK883,BK884,BK885,HB⟩:=hrel
  cases gk with
  |zero=>exact absurd HA.out (by simp[ebbtidelaw12_Read.l0])
  |succ k1=>
   have H:=HA.out
   clear HA
   simp only[ebbtidelaw12_Read.l0] at H
   by_cases c11:x9_1<(l0_2.length:Int)
   rotate_left
   ·rw[if_neg c11] at H
    have c11b0:decide (x9_1<(l0_2.length:Int))=false:=decide_eq_false c11
    clear c11
    by_cases c42:(wrap64 (2+(Int.tmod (wrap64 (a0_0)) 4)))=0
    ·rw[if_pos c42] at H
     exact absurd H (by simp)
    rw[if_neg c42] at H
    have c42b0:((wrap64 (2+(Int.tmod (wrap64 (a0_0)) 4))) == 0)=false:=beq_eq_false_iff_ne.mpr c42
    have c42b1:((wrap64 (2+(Int.tmod (wrap64 (a0_0)) 4))) != 0)=true:=bne_iff_ne.mpr c42
    by_cases c43:(wrap64 ((wrap64 (2+(Int.tmod (wrap64 (a0_0)) 4))) - 1))=0
    ·rw[if_pos c43] at H
     exact absurd H (by simp)
    rw[if_neg c43] at H
    have c43b0:((wrap64 ((wrap64 (2+(Int.tmod (wrap64 (a0_0)) 4))) - 1)) == 0)=false:=beq_eq_false_iff_ne.mpr c43
    have c43b1:((wrap64 ((wrap64 (2+(Int.tmod (wrap64 (a0_0)) 4))) - 1)) != 0)=true:=bne_iff_ne.mpr c43
    simp only[Option.some.injEq,Prod.mk.injEq] at H
    obtain⟨rfl,rfl,rfl,rfl,rfl,rfl⟩:=H
    have hnb44:=NB883_884.out
    have hnc44:=NB884_883.out
    have hnb45:=NB883_885.out
    have hnc45:=NB885_883.out
    have hcz46_0:wr.cell? ⟨gb883,0,none⟩=some (.int .u8 a0_0):=(blk_cell BK883.out 0).trans rfl
    have hcz46_1:wr.cell? ⟨gb883,1,none⟩=some (.bool a0_1):=(blk_cell BK883.out 1).trans rfl
    have hcz46_2:wr.cell? ⟨gb883,2,none⟩=some (.slice A0_2 l0_2.length c0_2):=(blk_cell BK883.out 2).trans rfl
    have hcz46_3:wr.cell? ⟨gb883,3,none⟩=some (.int .u8 a0_3):=(blk_cell BK883.out 3).trans rfl
    have hcz46_4:wr.cell? ⟨gb883,4,none⟩=some (.int .u8 a0_4):=(blk_cell BK883.out 4).trans rfl
    have hcz46_5:wr.cell? ⟨gb883,5,none⟩=some (.int .u8 a0_5):=(blk_cell BK883.out 5).trans rfl
    have hfz46_0:=blk_frozen BK883.out 0
    have hfz46_1:=blk_frozen BK883.out 1
    have hfz46_2:=blk_frozen BK883.out 2
    have hfz46_3:=blk_frozen BK883.out 3
    have hfz46_4:=blk_frozen BK883.out 4
    have hfz46_5:=blk_frozen BK883.out 5
    have hnb47:=NB885_884.out
    have hnc47:=NB884_885.out
    have hcz48_0:wr.cell? ⟨gb885,0,none⟩=some (.int .i64 (wrap64 (2+(Int.tmod (wrap64 (a0_0)) 4)))):=(blk_cell BK885.out 0).trans rfl
    have hcz48_1:wr.cell? ⟨gb885,1,none⟩=some (.bool a0_1):=(blk_cell BK885.out 1).trans rfl
    have hcz48_2:wr.cell? ⟨gb885,2,none⟩=some (u886002):=(blk_cell BK885.out 2).trans rfl
    have hfz48_0:=blk_frozen BK885.out 0
    have hfz48_1:=blk_frozen BK885.out 1
    have hfz48_2:=blk_frozen BK885.out 2
    try go_wp2
    have n0_:=Aside0.mk (Kd.R_drew HO_886002.out)
    have n1_:=Aside0.mk (blk_drew BK883.out)
    have n2_:=Aside0.mk (blk_drew BK884.out)
    have n3_:=Aside0.mk (blk_drew BK885.out)
    have n4_:=Aside0.mk (below_drew1 HB.out)
    clear HO_886002
    clear BK883
    clear BK884
    clear BK885
    clear HB
    have HO_886002:=n0_
    have BK883:=n1_
    have BK884:=n2_
    have BK885:=n3_
    have HB:=n4_
    clear n0_ n1_ n2_ n3_ n4_
    refine start_ (n:=14) (S:=fun w'=>w'.cell? ⟨gb883,0,none⟩=some (.int .u8 a0_0)∧w'.cell? ⟨gb883,1,none⟩=some (.bool a0_1)∧w'.cell? ⟨gb883,2,none⟩=some (.slice A0_2 l0_2.length c0_2)∧w'.cell? ⟨gb883,3,none⟩=some (.int .u8 a0_3)∧w'.cell? ⟨gb883,4,none⟩=some (.int .u8 a0_4)∧w'.cell? ⟨gb883,5,none⟩=some (.int .u8 a0_5)∧w'.cell? ⟨gb885,0,none⟩=some (.int .i64 (wrap64 (2+(Int.tmod (wrap64 (a0_0)) 4))))∧w'.cell? ⟨gb885,1,none⟩=some (.bool a0_1)∧w'.cell? ⟨gb885,2,none⟩=some (u886002)) (ds:=[]) #[false,false,false,false,false,false,false,false,false,false,false,false,false,false] (by kernel_rfl) rfl rfl ⟨(blk_cell BK883.out 0).trans rfl,(blk_cell BK883.out 1).trans rfl,(blk_cell BK883.out 2).trans rfl,(blk_cell BK883.out 3).trans rfl,(blk_cell BK883.out 4).trans rfl,(blk_cell BK883.out 5).trans rfl,(blk_cell BK885.out 0).trans rfl,(blk_cell BK885.out 1).trans rfl,(blk_cell BK885.out 2).trans rfl⟩ (fun hHeld=> ?_);refine with_tabW ebbtidelaw12_Read.tab8 ebbtidelaw12_Read.bits8 (fun HT_ HW_=> ?_)
    generalize wr.drew=w49 at HO_886002 BK883 BK884 BK885 HB hHeld ⊢
    refine pure_ (i:=0) (N:=some 70) (v:= ?_) (a':= ?_) #[true,false,false,false,false,false,false,false,false,false,false,false,false,false] rfl rfl (any_of HT_.out (by kernel_rfl)) (fun _ _ _ h=>h) (Or.inl ⟨by rfl,?_⟩) ?_ ?_
    rotate_left
    ·intro w'
     go_simp
     with_reducible rfl
    rotate_left
    ·simp only[Act.put,List.setIfInBounds_toArray,List.set_cons_zero,List.set_cons_succ,i64_w,i32_w]
     rfl
    refine pure_ (i:=1) (N:=some 71) (v:= ?_) (a':= ?_) #[true,true,false,false,false,false,false,false,false,false,false,false,false,false] rfl rfl (any_of HT_.out (by kernel_rfl)) (fun _ _ _ h=>h) (Or.inl ⟨by rfl,?_⟩) ?_ ?_
    rotate_left
    ·intro w'
     go_simp
     with_reducible rfl
    rotate_left
    ·simp only[Act.put,List.setIfInBounds_toArray,List.set_cons_zero,List.set_cons_succ,i64_w,i32_w]
     rfl
    refine pure_ (i:=2) (N:=some 72) (v:= ?_) (a':= ?_) #[true,true,true,false,false,false,false,false,false,false,false,false,false,false] rfl rfl (any_of HT_.out (by kernel_rfl)) (fun _ _ _ h=>h) (Or.inl ⟨by rfl,?_⟩) ?_ ?_
    rotate_left
    ·intro w'
     go_simp
     with_reducible rfl
    rotate_left
    ·simp only[Act.put,List.setIfInBounds_toArray,List.set_cons_zero,List.set_cons_succ,i64_w,i32_w]
     rfl
    refine pure_ (i:=5) (N:=some 75) (v:= ?_) (a':= ?_) #[true,true,true,false,false,true,false,false,false,false,false,false,false,false] rfl rfl (any_of HT_.out (by kernel_rfl)) (fun _ _ _ h=>h) (Or.inl ⟨by rfl,?_⟩) ?_ ?_
    rotate_left
    ·intro w'
     go_simp
     with_reducible rfl
    rotate_left
    ·simp only[Act.put,List.setIfInBounds_toArray,List.set_cons_zero,List.set_cons_succ,i64_w,i32_w]
     rfl
    refine pure_ (i:=10) (N:=some 80) (v:= ?_) (a':= ?_) #[true,true,true,false,false,true,false,false,false,false,true,false,false,false] rfl rfl (any_of HT_.out (by kernel_rfl)) (fun _ _ _ h=>h) (Or.inl ⟨by rfl,?_⟩) ?_ ?_
    rotate_left
    ·intro w'
     go_simp
     with_reducible rfl
    rotate_left
    ·simp only[Act.put,List.setIfInBounds_toArray,List.set_cons_zero,List.set_cons_succ,i64_w,i32_w]
     rfl
    refine take_ (i:=3) (N:=some 73) (v:= ?_) (a':= ?_) #[true,true,true,true,false,true,false,false,false,false,true,false,false,false] rfl rfl (take_ofW HT_.out HW_.out (by kernel_rfl)) (fun _ _ _ h=>h) (Or.inl ⟨by rfl,?_⟩) hHeld ?_ ?_
    rotate_left
    ·rintro w' ⟨s0,s1,s2,s3,s4,s5,s6,s7,s8⟩
     go_simp
     with_reducible rfl
    rotate_left
    ·simp only[Act.put,List.setIfInBounds_toArray,List.set_cons_zero,List.set_cons_succ,i64_w,i32_w]
     rfl
    refine pure_ (i:=4) (N:=some 74) (v:= ?_) (a':= ?_) #[true,true,true,true,true,true,false,false,false,false,true,false,false,false] rfl rfl (any_of HT_.out (by kernel_rfl)) (fun _ _ _ h=>h) (Or.inl ⟨by rfl,?_⟩) ?_ ?_
    rotate_left
    ·intro w'
     go_simp
     with_reducible rfl
    rotate_left
    ·simp only[Act.put,List.setIfInBounds_toArray,List.set_cons_zero,List.set_cons_succ,i64_w,i32_w]
     rfl
    refine take_ (i:=6) (N:=some 76) (v:= ?_) (a':= ?_) #[true,true,true,true,true,true,true,false,false,false,true,false,false,false] rfl rfl (take_ofW HT_.out HW_.out (by kernel_rfl)) (fun _ _ _ h=>h) (Or.inl ⟨by rfl,?_⟩) hHeld ?_ ?_
    rotate_left
    ·rintro w' ⟨s0,s1,s2,s3,s4,s5,s6,s7,s8⟩
     go_simp
     with_reducible rfl
    rotate_left
    ·simp only[Act.put,List.setIfInBounds_toArray,List.set_cons_zero,List.set_cons_succ,i64_w,i32_w]
     rfl
    refine pure_ (i:=7) (N:=some 77) (v:= ?_) (a':= ?_) #[true,true,true,true,true,true,true,true,false,false,true,false,false,false] rfl rfl (any_of HT_.out (by kernel_rfl)) (fun _ _ _ h=>h) (Or.inl ⟨by rfl,?_⟩) ?_ ?_
    rotate_left
    ·intro w'
     go_simp
     with_reducible rfl
    rotate_left
    ·simp only[Act.put,List.setIfInBounds_toArray,List.set_cons_zero,List.set_cons_succ,i64_w,i32_w]
     rfl
    refine pure_ (i:=8) (N:=some 78) (v:= ?_) (a':= ?_) #[true,true,true,true,true,true,true,true,true,false,true,false,false,false] rfl rfl (any_of HT_.out (by kernel_rfl)) (fun _ _ _ h=>h) (Or.inl ⟨by rfl,?_⟩) ?_ ?_
    rotate_left
    ·intro w'
     go_simp
     with_reducible rfl
    rotate_left
    ·simp only[Act.put,List.setIfInBounds_toArray,List.set_cons_zero,List.set_cons_succ,i64_w,i32_w]
     rfl
    refine pure_ (i:=9) (N:=some 79) (v:= ?_) (a':= ?_) #[true,true,true,true,true,true,true,true,true,true,true,false,false,false] rfl rfl (any_of HT_.out (by kernel_rfl)) (fun _ _ _ h=>h) (Or.inl ⟨by rfl,?_⟩) ?_ ?_
    rotate_left
    ·intro w'
     go_simp
     with_reducible rfl
    rotate_left
    ·simp only[Act.put,List.setIfInBounds_toArray,List.set_cons_zero,List.set_cons_succ,i64_w,i32_w]
     rfl
    refine take_ (i:=11) (N:=some 81) (v:= ?_) (a':= ?_) #[true,true,true,true,true,true,true,true,true,true,true,true,false,false] rfl rfl (take_ofW HT_.out HW_.out (by kernel_rfl)) (fun _ _ _ h=>h) (Or.inl ⟨by rfl,?_⟩) hHeld ?_ ?_
    rotate_left
    ·rintro w' ⟨s0,s1,s2,s3,s4,s5,s6,s7,s8⟩
     go_simp
     with_reducible rfl
    rotate_left
    ·simp only[Act.put,List.setIfInBounds_toArray,List.set_cons_zero,List.set_cons_succ,i64_w,i32_w]
     rfl
    refine pure_ (i:=12) (N:=some 82) (v:= ?_) (a':= ?_) #[true,true,true,true,true,true,true,true,true,true,true,true,true,false] rfl rfl (any_of HT_.out (by kernel_rfl)) (fun _ _ _ h=>h) (Or.inl ⟨by rfl,?_⟩) ?_ ?_
    rotate_left
    ·intro w'
     go_simp
     with_reducible rfl
    rotate_left
    ·simp only[Act.put,List.setIfInBounds_toArray,List.set_cons_zero,List.set_cons_succ,i64_w,i32_w]
     rfl
    refine pure_ (i:=13) (N:=some 12) (v:= ?_) (a':= ?_) #[true,true,true,true,true,true,true,true,true,true,true,true,true,true] rfl rfl (any_of HT_.out (by kernel_rfl)) (fun _ _ _ h=>h) (Or.inl ⟨by rfl,?_⟩) ?_ ?_
    rotate_left
    ·intro w'
     go_simp
     with_reducible rfl
    rotate_left
    ·simp only[Act.put,List.setIfInBounds_toArray,List.set_cons_zero,List.set_cons_succ,i64_w,i32_w]
     rfl
    refine done_ (done_of HT_.out (by kernel_rfl)) ?_
    try go_wp2
    have n0_:=Aside0.mk (Kd.R_drew HO_886002.out)
    have n1_:=Aside0.mk (blk_drew BK883.out)
    have n2_:=Aside0.mk (blk_drew BK884.out)
    have n3_:=Aside0.mk (blk_drew BK885.out)
    have n4_:=Aside0.mk (below_drew1 HB.out)
    clear HO_886002
    clear BK883
    clear BK884
    clear BK885
    clear HB
    have HO_886002:=n0_
    have BK883:=n1_
    have BK884:=n2_
    have BK885:=n3_
    have HB:=n4_
    clear n0_ n1_ n2_ n3_ n4_
    obtain⟨Ao53,co53,eo53⟩:=Kd.R_slice HO_886002.out
    (first|subst eo53|(injection eo53 with f1_ f2_ f3_;have f4_:=f1_.symm;have f5_:=f3_.symm;clear f1_ f2_ f3_;subst f4_;subst f5_))
    refine start_ (n:=11) (S:=fun w'=>w'.cell? ⟨gb885,0,none⟩=some (.int .i64 (wrap64 (2+(Int.tmod (wrap64 (a0_0)) 4))))∧w'.cell? ⟨gb885,1,none⟩=some (.bool a0_1)∧w'.cell? ⟨gb885,2,none⟩=some (.slice Ao53 x886002_1.length co53)∧w'.cell? ⟨gb883,0,none⟩=some (.int .u8 a0_0)∧w'.cell? ⟨gb883,1,none⟩=some (.bool a0_1)∧w'.cell? ⟨gb883,2,none⟩=some (.slice A0_2 l0_2.length c0_2)∧w'.cell? ⟨gb883,3,none⟩=some (.int .u8 a0_3)∧w'.cell? ⟨gb883,4,none⟩=some (.int .u8 a0_4)∧w'.cell? ⟨gb883,5,none⟩=some (.int .u8 a0_5)) (ds:=[]) #[false,false,false,false,false,false,false,false,false,false,false] (by kernel_rfl) rfl rfl ⟨(blk_cell BK885.out 0).trans rfl,(blk_cell BK885.out 1).trans rfl,(blk_cell BK885.out 2).trans rfl,(blk_cell BK883.out 0).trans rfl,(blk_cell BK883.out 1).trans rfl,(blk_cell BK883.out 2).trans rfl,(blk_cell BK883.out 3).trans rfl,(blk_cell BK883.out 4).trans rfl,(blk_cell BK883.out 5).trans rfl⟩ (fun hHeld=> ?_);refine with_tabW ebbtidelaw12_Read.tab9 ebbtidelaw12_Read.bits9 (fun HT_ HW_=> ?_)
    generalize w49.drew=w50 at HO_886002 BK883 BK884 BK885 HB hHeld ⊢
    refine pure_ (i:=1) (N:=some 84) (v:= ?_) (a':= ?_) #[false,true,false,false,false,false,false,false,false,false,false] rfl rfl (any_of HT_.out (by kernel_rfl)) (fun _ _ _ h=>h) (Or.inl ⟨by rfl,?_⟩) ?_ ?_
    rotate_left
    ·intro w'
     go_simp
     with_reducible rfl
    rotate_left
    ·simp only[Act.put,List.setIfInBounds_toArray,List.set_cons_zero,List.set_cons_succ,i64_w,i32_w]
     rfl
    refine pure_ (i:=2) (N:=some 85) (v:= ?_) (a':= ?_) #[false,true,true,false,false,false,false,false,false,false,false] rfl rfl (any_of HT_.out (by kernel_rfl)) (fun _ _ _ h=>h) (Or.inl ⟨by rfl,?_⟩) ?_ ?_
    rotate_left
    ·intro w'
     go_simp
     with_reducible rfl
    rotate_left
    ·simp only[Act.put,List.setIfInBounds_toArray,List.set_cons_zero,List.set_cons_succ,i64_w,i32_w]
     rfl
    refine pure_ (i:=3) (N:=some 86) (v:= ?_) (a':= ?_) #[false,true,true,true,false,false,false,false,false,false,false] rfl rfl (any_of HT_.out (by kernel_rfl)) (fun _ _ _ h=>h) (Or.inl ⟨by rfl,?_⟩) ?_ ?_
    rotate_left
    ·intro w'
     go_simp
     with_reducible rfl
    rotate_left
    ·simp only[Act.put,List.setIfInBounds_toArray,List.set_cons_zero,List.set_cons_succ,i64_w,i32_w]
     rfl
    refine take_ (i:=0) (N:=some 83) (v:= ?_) (a':= ?_) #[true,true,true,true,false,false,false,false,false,false,false] rfl rfl (take_ofW HT_.out HW_.out (by kernel_rfl)) (fun _ _ _ h=>h) (Or.inl ⟨by rfl,?_⟩) hHeld ?_ ?_
    rotate_left
    ·rintro w' ⟨s0,s1,s2,s3,s4,s5,s6,s7,s8⟩
     go_simp
     with_reducible rfl
    rotate_left
    ·simp only[Act.put,List.setIfInBounds_toArray,List.set_cons_zero,List.set_cons_succ,i64_w,i32_w]
     rfl
    refine take_ (i:=4) (N:=some 87) (v:= ?_) (a':= ?_) #[true,true,true,true,true,false,false,false,false,false,false] rfl rfl (take_ofW HT_.out HW_.out (by kernel_rfl)) (fun _ _ _ h=>h) (Or.inl ⟨by rfl,?_⟩) hHeld ?_ ?_
    rotate_left
    ·rintro w' ⟨s0,s1,s2,s3,s4,s5,s6,s7,s8⟩
     go_simp
     with_reducible rfl
    rotate_left
    ·simp only[Act.put,List.setIfInBounds_toArray,List.set_cons_zero,List.set_cons_succ,i64_w,i32_w]
     rfl
    refine pure_ (i:=5) (N:=some 88) (v:= ?_) (a':= ?_) #[true,true,true,true,true,true,false,false,false,false,false] rfl rfl (any_of HT_.out (by kernel_rfl)) (fun _ _ _ h=>h) (Or.inl ⟨by rfl,?_⟩) ?_ ?_
    rotate_left
    ·intro w'
     go_simp
     with_reducible rfl
    rotate_left
    ·simp only[Act.put,List.setIfInBounds_toArray,List.set_cons_zero,List.set_cons_succ,i64_w,i32_w]
     rfl
    refine pure_ (i:=6) (N:=some 89) (v:= ?_) (a':= ?_) #[true,true,true,true,true,true,true,false,false,false,false] rfl rfl (any_of HT_.out (by kernel_rfl)) (fun _ _ _ h=>h) (Or.inl ⟨by rfl,?_⟩) ?_ ?_
    rotate_left
    ·intro w'
     go_simp
     with_reducible rfl
    rotate_left
    ·simp only[Act.put,List.setIfInBounds_toArray,List.set_cons_zero,List.set_cons_succ,i64_w,i32_w]
     rfl
    refine one_ (i:=7) (N:=none) #[true,true,true,true,true,true,true,true,false,false,false] rfl rfl (one_of HT_.out (by kernel_rfl)) (by decide) (fun K hK=> ?_)
    have hs51:w50.cell? ⟨gb884,0,none⟩=some (.int .i64 0):=(blk_cell BK884.out 0).trans rfl
    have hfs51:=blk_frozen BK884.out 0
    have hns51_0:=NB883_884.out
    have hns51_2:=NB885_884.out
    have hms51_0:=NB884_883.out
    have hms51_2:=NB884_885.out
    have hs52:w50.cell? ⟨gb884,1,none⟩=some (.bool false):=(blk_cell BK884.out 1).trans rfl
    have hfs52:=blk_frozen BK884.out 1
    have hns52_0:=NB883_884.out
    have hns52_2:=NB885_884.out
    have hms52_0:=NB884_883.out
    have hms52_2:=NB884_885.out
    have hs54:w50.cell? ⟨gb884,2,none⟩=some (.slice none 0 0):=(blk_cell BK884.out 2).trans rfl
    have hfs54:=blk_frozen BK884.out 2
    have hns54_0:=NB883_884.out
    have hns54_2:=NB885_884.out
    have hms54_0:=NB884_883.out
    have hms54_2:=NB884_885.out
    refine skip_ (w1:= ?_) (by rfl) rfl ?_ ?_
    rotate_left
    ·go_simp
     rfl
    refine hK.out _ _ ⟨((cell_far (p:=⟨gb884,_,none⟩) NB885_884.out _).trans (((cell_far (p:=⟨gb884,_,none⟩) NB885_884.out _).trans (((cell_far (p:=⟨gb884,_,none⟩) NB885_884.out _).trans (hHeld.1)))))),((cell_far (p:=⟨gb884,_,none⟩) NB885_884.out _).trans (((cell_far (p:=⟨gb884,_,none⟩) NB885_884.out _).trans (((cell_far (p:=⟨gb884,_,none⟩) NB885_884.out _).trans (hHeld.2.1)))))),((cell_far (p:=⟨gb884,_,none⟩) NB885_884.out _).trans (((cell_far (p:=⟨gb884,_,none⟩) NB885_884.out _).trans (((cell_far (p:=⟨gb884,_,none⟩) NB885_884.out _).trans (hHeld.2.2.1)))))),((cell_far (p:=⟨gb884,_,none⟩) NB883_884.out _).trans (((cell_far (p:=⟨gb884,_,none⟩) NB883_884.out _).trans (((cell_far (p:=⟨gb884,_,none⟩) NB883_884.out _).trans (hHeld.2.2.2.1)))))),((cell_far (p:=⟨gb884,_,none⟩) NB883_884.out _).trans (((cell_far (p:=⟨gb884,_,none⟩) NB883_884.out _).trans (((cell_far (p:=⟨gb884,_,none⟩) NB883_884.out _).trans (hHeld.2.2.2.2.1)))))),((cell_far (p:=⟨gb884,_,none⟩) NB883_884.out _).trans (((cell_far (p:=⟨gb884,_,none⟩) NB883_884.out _).trans (((cell_far (p:=⟨gb884,_,none⟩) NB883_884.out _).trans (hHeld.2.2.2.2.2.1)))))),((cell_far (p:=⟨gb884,_,none⟩) NB883_884.out _).trans (((cell_far (p:=⟨gb884,_,none⟩) NB883_884.out _).trans (((cell_far (p:=⟨gb884,_,none⟩) NB883_884.out _).trans (hHeld.2.2.2.2.2.2.1)))))),((cell_far (p:=⟨gb884,_,none⟩) NB883_884.out _).trans (((cell_far (p:=⟨gb884,_,none⟩) NB883_884.out _).trans (((cell_far (p:=⟨gb884,_,none⟩) NB883_884.out _).trans (hHeld.2.2.2.2.2.2.2.1)))))),((cell_far (p:=⟨gb884,_,none⟩) NB883_884.out _).trans (((cell_far (p:=⟨gb884,_,none⟩) NB883_884.out _).trans (((cell_far (p:=⟨gb884,_,none⟩) NB883_884.out _).trans (hHeld.2.2.2.2.2.2.2.2))))))⟩ (fun hHeld=> ?_)
    clear hK K
    refine pure_ (i:=8) (N:=some 5) (v:= ?_) (a':= ?_) #[true,true,true,true,true,true,true,true,true,false,false] rfl rfl (any_of HT_.out (by kernel_rfl)) (fun _ _ _ h=>h) (Or.inl ⟨by rfl,?_⟩) ?_ ?_
    rotate_left
    ·intro w'
     go_simp
     with_reducible rfl
    rotate_left
    ·simp only[Act.put,List.setIfInBounds_toArray,List.set_cons_zero,List.set_cons_succ,i64_w,i32_w]
     rfl
    refine pure_ (i:=9) (N:=some 6) (v:= ?_) (a':= ?_) #[true,true,true,true,true,true,true,true,true,true,false] rfl rfl (any_of HT_.out (by kernel_rfl)) (fun _ _ _ h=>h) (Or.inl ⟨by rfl,?_⟩) ?_ ?_
    rotate_left
    ·intro w'
     go_simp
     with_reducible rfl
    rotate_left
    ·simp only[Act.put,List.setIfInBounds_toArray,List.set_cons_zero,List.set_cons_succ,i64_w,i32_w]
     rfl
    refine pure_ (i:=10) (N:=some 7) (v:= ?_) (a':= ?_) #[true,true,true,true,true,true,true,true,true,true,true] rfl rfl (any_of HT_.out (by kernel_rfl)) (fun _ _ _ h=>h) (Or.inl ⟨by rfl,?_⟩) ?_ ?_
    rotate_left
    ·intro w'
     go_simp
     with_reducible rfl
    rotate_left
    ·simp only[Act.put,List.setIfInBounds_toArray,List.set_cons_zero,List.set_cons_succ,i64_w,i32_w]
     rfl
    refine done_ (done_of HT_.out (by kernel_rfl)) ?_
    try go_wp2
    refine bodyPost_ret (results_list (rs:=[.cell 4 24, .tmp 5, .tmp 6, .tmp 7]) rfl (by simp) (.cell gb884 24 #[.int .i64 (wrap64 (2+(Int.tmod (wrap64 (a0_0)) 4))), .bool a0_1, .slice Ao53 x886002_1.length co53] (0,0) _ rfl (by(with_reducible repeat(first|refine blk_drewN ?_ _|refine blk_drew ?_|refine blk_alloc ?_ _));refine blk_put (cs:= #[.int .i64 (wrap64 (2+(Int.tmod (wrap64 (a0_0)) 4))), .bool a0_1, .slice none 0 0]) ?_ 2 _ rfl;(with_reducible repeat(first|refine blk_drewN ?_ _|refine blk_drew ?_|refine blk_alloc ?_ _));refine blk_put (cs:= #[.int .i64 (wrap64 (2+(Int.tmod (wrap64 (a0_0)) 4))), .bool false, .slice none 0 0]) ?_ 1 _ rfl;(with_reducible repeat(first|refine blk_drewN ?_ _|refine blk_drew ?_|refine blk_alloc ?_ _));refine blk_put (cs:= #[.int .i64 0, .bool false, .slice none 0 0]) ?_ 0 _ rfl;(with_reducible repeat(first|refine blk_drewN ?_ _|refine blk_drew ?_|refine blk_alloc ?_ _));exact BK884.out) Try.underlying24 rfl (by kernel_rfl) (.tmp (.tmp (.tmp .nil))))) rfl ?_
    exact⟨_,by first|rfl|(simp[errW_none,errW_some]<;>rfl)|(simp[*,errW_none,errW_some]<;>rfl),by(with_reducible repeat(first|apply Kd.R_alloc|apply Kd.R_drewN|apply Kd.R_drew));exact Kd.R_mono (Kd.R_far (p:=⟨gb884,2,none⟩) (Kd.R_far (p:=⟨gb884,1,none⟩) (Kd.R_far (p:=⟨gb884,0,none⟩) (Kd.R_types HO_886002.out BK884.out (by decide)) (fun _ hk=>hk.2) (.int .i64 (wrap64 (2+(Int.tmod (wrap64 (a0_0)) 4))))) (fun _ hk=>hk.2) (.bool a0_1)) (fun _ hk=>hk.2) (.slice Ao53 x886002_1.length co53)) (fun _ hk=>trivial),by repeat(first|(with_reducible first|exact HB.out|apply below_alloc|apply pw_below_drewN|apply below_drew1|refine below_set ?_ GE883.out|refine below_set ?_ GE884.out|refine below_set ?_ GE885.out)|exact HB.out)⟩
   rw[if_pos c11] at H
   have c11b0:decide (x9_1<(l0_2.length:Int))=true:=decide_eq_true c11
   clear c11
   by_cases c12:x9_1<a1
   rotate_left
   ·rw[if_neg c12] at H
    have c12b0:decide (x9_1<a1)=false:=decide_eq_false c12
    clear c12
    by_cases c29:(wrap64 (2+(Int.tmod (wrap64 (a0_0)) 4)))=0
    ·rw[if_pos c29] at H
     exact absurd H (by simp)
    rw[if_neg c29] at H
    have c29b0:((wrap64 (2+(Int.tmod (wrap64 (a0_0)) 4))) == 0)=false:=beq_eq_false_iff_ne.mpr c29
    have c29b1:((wrap64 (2+(Int.tmod (wrap64 (a0_0)) 4))) != 0)=true:=bne_iff_ne.mpr c29
    by_cases c30:(wrap64 ((wrap64 (2+(Int.tmod (wrap64 (a0_0)) 4))) - 1))=0
    ·rw[if_pos c30] at H
     exact absurd H (by simp)
    rw[if_neg c30] at H
    have c30b0:((wrap64 ((wrap64 (2+(Int.tmod (wrap64 (a0_0)) 4))) - 1)) == 0)=false:=beq_eq_false_iff_ne.mpr c30
    have c30b1:((wrap64 ((wrap64 (2+(Int.tmod (wrap64 (a0_0)) 4))) - 1)) != 0)=true:=bne_iff_ne.mpr c30
    simp only[Option.some.injEq,Prod.mk.injEq] at H
    obtain⟨rfl,rfl,rfl,rfl,rfl,rfl⟩:=H
    have hnb31:=NB883_884.out
    have hnc31:=NB884_883.out
    have hnb32:=NB883_885.out
    have hnc32:=NB885_883.out
    have hcz33_0:wr.cell? ⟨gb883,0,none⟩=some (.int .u8 a0_0):=(blk_cell BK883.out 0).trans rfl
    have hcz33_1:wr.cell? ⟨gb883,1,none⟩=some (.bool a0_1):=(blk_cell BK883.out 1).trans rfl
    have hcz33_2:wr.cell? ⟨gb883,2,none⟩=some (.slice A0_2 l0_2.length c0_2):=(blk_cell BK883.out 2).trans rfl
    have hcz33_3:wr.cell? ⟨gb883,3,none⟩=some (.int .u8 a0_3):=(blk_cell BK883.out 3).trans rfl
    have hcz33_4:wr.cell? ⟨gb883,4,none⟩=some (.int .u8 a0_4):=(blk_cell BK883.out 4).trans rfl
    have hcz33_5:wr.cell? ⟨gb883,5,none⟩=some (.int .u8 a0_5):=(blk_cell BK883.out 5).trans rfl
    have hfz33_0:=blk_frozen BK883.out 0
    have hfz33_1:=blk_frozen BK883.out 1
    have hfz33_2:=blk_frozen BK883.out 2
    have hfz33_3:=blk_frozen BK883.out 3
    have hfz33_4:=blk_frozen BK883.out 4
    have hfz33_5:=blk_frozen BK883.out 5
    have hnb34:=NB885_884.out
    have hnc34:=NB884_885.out
    have hcz35_0:wr.cell? ⟨gb885,0,none⟩=some (.int .i64 (wrap64 (2+(Int.tmod (wrap64 (a0_0)) 4)))):=(blk_cell BK885.out 0).trans rfl
    have hcz35_1:wr.cell? ⟨gb885,1,none⟩=some (.bool a0_1):=(blk_cell BK885.out 1).trans rfl
    have hcz35_2:wr.cell? ⟨gb885,2,none⟩=some (u886002):=(blk_cell BK885.out 2).trans rfl
    have hfz35_0:=blk_frozen BK885.out 0
    have hfz35_1:=blk_frozen BK885.out 1
    have hfz35_2:=blk_frozen BK885.out 2
    try go_wp2
    have n0_:=Aside0.mk (Kd.R_drew HO_886002.out)
    have n1_:=Aside0.mk (blk_drew BK883.out)
    have n2_:=Aside0.mk (blk_drew BK884.out)
    have n3_:=Aside0.mk (blk_drew BK885.out)
    have n4_:=Aside0.mk (below_drew1 HB.out)
    clear HO_886002
    clear BK883
    clear BK884
    clear BK885
    clear HB
    have HO_886002:=n0_
    have BK883:=n1_
    have BK884:=n2_
    have BK885:=n3_
    have HB:=n4_
    clear n0_ n1_ n2_ n3_ n4_
    refine start_ (n:=14) (S:=fun w'=>w'.cell? ⟨gb883,0,none⟩=some (.int .u8 a0_0)∧w'.cell? ⟨gb883,1,none⟩=some (.bool a0_1)∧w'.cell? ⟨gb883,2,none⟩=some (.slice A0_2 l0_2.length c0_2)∧w'.cell? ⟨gb883,3,none⟩=some (.int .u8 a0_3)∧w'.cell? ⟨gb883,4,none⟩=some (.int .u8 a0_4)∧w'.cell? ⟨gb883,5,none⟩=some (.int .u8 a0_5)∧w'.cell? ⟨gb885,0,none⟩=some (.int .i64 (wrap64 (2+(Int.tmod (wrap64 (a0_0)) 4))))∧w'.cell? ⟨gb885,1,none⟩=some (.bool a0_1)∧w'.cell? ⟨gb885,2,none⟩=some (u886002)) (ds:=[]) #[false,false,false,false,false,false,false,false,false,false,false,false,false,false] (by kernel_rfl) rfl rfl ⟨(blk_cell BK883.out 0).trans rfl,(blk_cell BK883.out 1).trans rfl,(blk_cell BK883.out 2).trans rfl,(blk_cell BK883.out 3).trans rfl,(blk_cell BK883.out 4).trans rfl,(blk_cell BK883.out 5).trans rfl,(blk_cell BK885.out 0).trans rfl,(blk_cell BK885.out 1).trans rfl,(blk_cell BK885.out 2).trans rfl⟩ (fun hHeld=> ?_);refine with_tabW ebbtidelaw12_Read.tab8 ebbtidelaw12_Read.bits8 (fun HT_ HW_=> ?_)
    generalize wr.drew=w36 at HO_886002 BK883 BK884 BK885 HB hHeld ⊢
    refine pure_ (i:=0) (N:=some 70) (v:= ?_) (a':= ?_) #[true,false,false,false,false,false,false,false,false,false,false,false,false,false] rfl rfl (any_of HT_.out (by kernel_rfl)) (fun _ _ _ h=>h) (Or.inl ⟨by rfl,?_⟩) ?_ ?_
    rotate_left
    ·intro w'
     go_simp
     with_reducible rfl
    rotate_left
    ·simp only[Act.put,List.setIfInBounds_toArray,List.set_cons_zero,List.set_cons_succ,i64_w,i32_w]
     rfl
    refine pure_ (i:=1) (N:=some 71) (v:= ?_) (a':= ?_) #[true,true,false,false,false,false,false,false,false,false,false,false,false,false] rfl rfl (any_of HT_.out (by kernel_rfl)) (fun _ _ _ h=>h) (Or.inl ⟨by rfl,?_⟩) ?_ ?_
    rotate_left
    ·intro w'
     go_simp
     with_reducible rfl
    rotate_left
    ·simp only[Act.put,List.setIfInBounds_toArray,List.set_cons_zero,List.set_cons_succ,i64_w,i32_w]
     rfl
    refine pure_ (i:=2) (N:=some 72) (v:= ?_) (a':= ?_) #[true,true,true,false,false,false,false,false,false,false,false,false,false,false] rfl rfl (any_of HT_.out (by kernel_rfl)) (fun _ _ _ h=>h) (Or.inl ⟨by rfl,?_⟩) ?_ ?_
    rotate_left
    ·intro w'
     go_simp
     with_reducible rfl
    rotate_left
    ·simp only[Act.put,List.setIfInBounds_toArray,List.set_cons_zero,List.set_cons_succ,i64_w,i32_w]
     rfl
    refine pure_ (i:=5) (N:=some 75) (v:= ?_) (a':= ?_) #[true,true,true,false,false,true,false,false,false,false,false,false,false,false] rfl rfl (any_of HT_.out (by kernel_rfl)) (fun _ _ _ h=>h) (Or.inl ⟨by rfl,?_⟩) ?_ ?_
    rotate_left
    ·intro w'
     go_simp
     with_reducible rfl
    rotate_left
    ·simp only[Act.put,List.setIfInBounds_toArray,List.set_cons_zero,List.set_cons_succ,i64_w,i32_w]
     rfl
    refine pure_ (i:=10) (N:=some 80) (v:= ?_) (a':= ?_) #[true,true,true,false,false,true,false,false,false,false,true,false,false,false] rfl rfl (any_of HT_.out (by kernel_rfl)) (fun _ _ _ h=>h) (Or.inl ⟨by rfl,?_⟩) ?_ ?_
    rotate_left
    ·intro w'
     go_simp
     with_reducible rfl
    rotate_left
    ·simp only[Act.put,List.setIfInBounds_toArray,List.set_cons_zero,List.set_cons_succ,i64_w,i32_w]
     rfl
    refine take_ (i:=3) (N:=some 73) (v:= ?_) (a':= ?_) #[true,true,true,true,false,true,false,false,false,false,true,false,false,false] rfl rfl (take_ofW HT_.out HW_.out (by kernel_rfl)) (fun _ _ _ h=>h) (Or.inl ⟨by rfl,?_⟩) hHeld ?_ ?_
    rotate_left
    ·rintro w' ⟨s0,s1,s2,s3,s4,s5,s6,s7,s8⟩
     go_simp
     with_reducible rfl
    rotate_left
    ·simp only[Act.put,List.setIfInBounds_toArray,List.set_cons_zero,List.set_cons_succ,i64_w,i32_w]
     rfl
    refine pure_ (i:=4) (N:=some 74) (v:= ?_) (a':= ?_) #[true,true,true,true,true,true,false,false,false,false,true,false,false,false] rfl rfl (any_of HT_.out (by kernel_rfl)) (fun _ _ _ h=>h) (Or.inl ⟨by rfl,?_⟩) ?_ ?_
    rotate_left
    ·intro w'
     go_simp
     with_reducible rfl
    rotate_left
    ·simp only[Act.put,List.setIfInBounds_toArray,List.set_cons_zero,List.set_cons_succ,i64_w,i32_w]
     rfl
    refine take_ (i:=6) (N:=some 76) (v:= ?_) (a':= ?_) #[true,true,true,true,true,true,true,false,false,false,true,false,false,false] rfl rfl (take_ofW HT_.out HW_.out (by kernel_rfl)) (fun _ _ _ h=>h) (Or.inl ⟨by rfl,?_⟩) hHeld ?_ ?_
    rotate_left
    ·rintro w' ⟨s0,s1,s2,s3,s4,s5,s6,s7,s8⟩
     go_simp
     with_reducible rfl
    rotate_left
    ·simp only[Act.put,List.setIfInBounds_toArray,List.set_cons_zero,List.set_cons_succ,i64_w,i32_w]
     rfl
    refine pure_ (i:=7) (N:=some 77) (v:= ?_) (a':= ?_) #[true,true,true,true,true,true,true,true,false,false,true,false,false,false] rfl rfl (any_of HT_.out (by kernel_rfl)) (fun _ _ _ h=>h) (Or.inl ⟨by rfl,?_⟩) ?_ ?_
    rotate_left
    ·intro w'
     go_simp
     with_reducible rfl
    rotate_left
    ·simp only[Act.put,List.setIfInBounds_toArray,List.set_cons_zero,List.set_cons_succ,i64_w,i32_w]
     rfl
    refine pure_ (i:=8) (N:=some 78) (v:= ?_) (a':= ?_) #[true,true,true,true,true,true,true,true,true,false,true,false,false,false] rfl rfl (any_of HT_.out (by kernel_rfl)) (fun _ _ _ h=>h) (Or.inl ⟨by rfl,?_⟩) ?_ ?_
    rotate_left
    ·intro w'
     go_simp
     with_reducible rfl
    rotate_left
    ·simp only[Act.put,List.setIfInBounds_toArray,List.set_cons_zero,List.set_cons_succ,i64_w,i32_w]
     rfl
    refine pure_ (i:=9) (N:=some 79) (v:= ?_) (a':= ?_) #[true,true,true,true,true,true,true,true,true,true,true,false,false,false] rfl rfl (any_of HT_.out (by kernel_rfl)) (fun _ _ _ h=>h) (Or.inl ⟨by rfl,?_⟩) ?_ ?_
    rotate_left
    ·intro w'
     go_simp
     with_reducible rfl
    rotate_left
    ·simp only[Act.put,List.setIfInBounds_toArray,List.set_cons_zero,List.set_cons_succ,i64_w,i32_w]
     rfl
    refine take_ (i:=11) (N:=some 81) (v:= ?_) (a':= ?_) #[true,true,true,true,true,true,true,true,true,true,true,true,false,false] rfl rfl (take_ofW HT_.out HW_.out (by kernel_rfl)) (fun _ _ _ h=>h) (Or.inl ⟨by rfl,?_⟩) hHeld ?_ ?_
    rotate_left
    ·rintro w' ⟨s0,s1,s2,s3,s4,s5,s6,s7,s8⟩
     go_simp
     with_reducible rfl
    rotate_left
    ·simp only[Act.put,List.setIfInBounds_toArray,List.set_cons_zero,List.set_cons_succ,i64_w,i32_w]
     rfl
    refine pure_ (i:=12) (N:=some 82) (v:= ?_) (a':= ?_) #[true,true,true,true,true,true,true,true,true,true,true,true,true,false] rfl rfl (any_of HT_.out (by kernel_rfl)) (fun _ _ _ h=>h) (Or.inl ⟨by rfl,?_⟩) ?_ ?_
    rotate_left
    ·intro w'
     go_simp
     with_reducible rfl
    rotate_left
    ·simp only[Act.put,List.setIfInBounds_toArray,List.set_cons_zero,List.set_cons_succ,i64_w,i32_w]
     rfl
    refine pure_ (i:=13) (N:=some 12) (v:= ?_) (a':= ?_) #[true,true,true,true,true,true,true,true,true,true,true,true,true,true] rfl rfl (any_of HT_.out (by kernel_rfl)) (fun _ _ _ h=>h) (Or.inl ⟨by rfl,?_⟩) ?_ ?_
    rotate_left
    ·intro w'
     go_simp
     with_reducible rfl
    rotate_left
    ·simp only[Act.put,List.setIfInBounds_toArray,List.set_cons_zero,List.set_cons_succ,i64_w,i32_w]
     rfl
    refine done_ (done_of HT_.out (by kernel_rfl)) ?_
    try go_wp2
    have n0_:=Aside0.mk (Kd.R_drew HO_886002.out)
    have n1_:=Aside0.mk (blk_drew BK883.out)
    have n2_:=Aside0.mk (blk_drew BK884.out)
    have n3_:=Aside0.mk (blk_drew BK885.out)
    have n4_:=Aside0.mk (below_drew1 HB.out)
    clear HO_886002
    clear BK883
    clear BK884
    clear BK885
    clear HB
    have HO_886002:=n0_
    have BK883:=n1_
    have BK884:=n2_
    have BK885:=n3_
    have HB:=n4_
    clear n0_ n1_ n2_ n3_ n4_
    obtain⟨Ao40,co40,eo40⟩:=Kd.R_slice HO_886002.out
    (first|subst eo40|(injection eo40 with f1_ f2_ f3_;have f4_:=f1_.symm;have f5_:=f3_.symm;clear f1_ f2_ f3_;subst f4_;subst f5_))
    refine start_ (n:=11) (S:=fun w'=>w'.cell? ⟨gb885,0,none⟩=some (.int .i64 (wrap64 (2+(Int.tmod (wrap64 (a0_0)) 4))))∧w'.cell? ⟨gb885,1,none⟩=some (.bool a0_1)∧w'.cell? ⟨gb885,2,none⟩=some (.slice Ao40 x886002_1.length co40)∧w'.cell? ⟨gb883,0,none⟩=some (.int .u8 a0_0)∧w'.cell? ⟨gb883,1,none⟩=some (.bool a0_1)∧w'.cell? ⟨gb883,2,none⟩=some (.slice A0_2 l0_2.length c0_2)∧w'.cell? ⟨gb883,3,none⟩=some (.int .u8 a0_3)∧w'.cell? ⟨gb883,4,none⟩=some (.int .u8 a0_4)∧w'.cell? ⟨gb883,5,none⟩=some (.int .u8 a0_5)) (ds:=[]) #[false,false,false,false,false,false,false,false,false,false,false] (by kernel_rfl) rfl rfl ⟨(blk_cell BK885.out 0).trans rfl,(blk_cell BK885.out 1).trans rfl,(blk_cell BK885.out 2).trans rfl,(blk_cell BK883.out 0).trans rfl,(blk_cell BK883.out 1).trans rfl,(blk_cell BK883.out 2).trans rfl,(blk_cell BK883.out 3).trans rfl,(blk_cell BK883.out 4).trans rfl,(blk_cell BK883.out 5).trans rfl⟩ (fun hHeld=> ?_);refine with_tabW ebbtidelaw12_Read.tab9 ebbtidelaw12_Read.bits9 (fun HT_ HW_=> ?_)
    generalize w36.drew=w37 at HO_886002 BK883 BK884 BK885 HB hHeld ⊢
    refine pure_ (i:=1) (N:=some 84) (v:= ?_) (a':= ?_) #[false,true,false,false,false,false,false,false,false,false,false] rfl rfl (any_of HT_.out (by kernel_rfl)) (fun _ _ _ h=>h) (Or.inl ⟨by rfl,?_⟩) ?_ ?_
    rotate_left
    ·intro w'
     go_simp
     with_reducible rfl
    rotate_left
    ·simp only[Act.put,List.setIfInBounds_toArray,List.set_cons_zero,List.set_cons_succ,i64_w,i32_w]
     rfl
    refine pure_ (i:=2) (N:=some 85) (v:= ?_) (a':= ?_) #[false,true,true,false,false,false,false,false,false,false,false] rfl rfl (any_of HT_.out (by kernel_rfl)) (fun _ _ _ h=>h) (Or.inl ⟨by rfl,?_⟩) ?_ ?_
    rotate_left
    ·intro w'
     go_simp
     with_reducible rfl
    rotate_left
    ·simp only[Act.put,List.setIfInBounds_toArray,List.set_cons_zero,List.set_cons_succ,i64_w,i32_w]
     rfl
    refine pure_ (i:=3) (N:=some 86) (v:= ?_) (a':= ?_) #[false,true,true,true,false,false,false,false,false,false,false] rfl rfl (any_of HT_.out (by kernel_rfl)) (fun _ _ _ h=>h) (Or.inl ⟨by rfl,?_⟩) ?_ ?_
    rotate_left
    ·intro w'
     go_simp
     with_reducible rfl
    rotate_left
    ·simp only[Act.put,List.setIfInBounds_toArray,List.set_cons_zero,List.set_cons_succ,i64_w,i32_w]
     rfl
    refine take_ (i:=0) (N:=some 83) (v:= ?_) (a':= ?_) #[true,true,true,true,false,false,false,false,false,false,false] rfl rfl (take_ofW HT_.out HW_.out (by kernel_rfl)) (fun _ _ _ h=>h) (Or.inl ⟨by rfl,?_⟩) hHeld ?_ ?_
    rotate_left
    ·rintro w' ⟨s0,s1,s2,s3,s4,s5,s6,s7,s8⟩
     go_simp
     with_reducible rfl
    rotate_left
    ·simp only[Act.put,List.setIfInBounds_toArray,List.set_cons_zero,List.set_cons_succ,i64_w,i32_w]
     rfl
    refine take_ (i:=4) (N:=some 87) (v:= ?_) (a':= ?_) #[true,true,true,true,true,false,false,false,false,false,false] rfl rfl (take_ofW HT_.out HW_.out (by kernel_rfl)) (fun _ _ _ h=>h) (Or.inl ⟨by rfl,?_⟩) hHeld ?_ ?_
    rotate_left
    ·rintro w' ⟨s0,s1,s2,s3,s4,s5,s6,s7,s8⟩
     go_simp
     with_reducible rfl
    rotate_left
    ·simp only[Act.put,List.setIfInBounds_toArray,List.set_cons_zero,List.set_cons_succ,i64_w,i32_w]
     rfl
    refine pure_ (i:=5) (N:=some 88) (v:= ?_) (a':= ?_) #[true,true,true,true,true,true,false,false,false,false,false] rfl rfl (any_of HT_.out (by kernel_rfl)) (fun _ _ _ h=>h) (Or.inl ⟨by rfl,?_⟩) ?_ ?_
    rotate_left
    ·intro w'
     go_simp
     with_reducible rfl
    rotate_left
    ·simp only[Act.put,List.setIfInBounds_toArray,List.set_cons_zero,List.set_cons_succ,i64_w,i32_w]
     rfl
    refine pure_ (i:=6) (N:=some 89) (v:= ?_) (a':= ?_) #[true,true,true,true,true,true,true,false,false,false,false] rfl rfl (any_of HT_.out (by kernel_rfl)) (fun _ _ _ h=>h) (Or.inl ⟨by rfl,?_⟩) ?_ ?_
    rotate_left
    ·intro w'
     go_simp
     with_reducible rfl
    rotate_left
    ·simp only[Act.put,List.setIfInBounds_toArray,List.set_cons_zero,List.set_cons_succ,i64_w,i32_w]
     rfl
    refine one_ (i:=7) (N:=none) #[true,true,true,true,true,true,true,true,false,false,false] rfl rfl (one_of HT_.out (by kernel_rfl)) (by decide) (fun K hK=> ?_)
    have hs38:w37.cell? ⟨gb884,0,none⟩=some (.int .i64 0):=(blk_cell BK884.out 0).trans rfl
    have hfs38:=blk_frozen BK884.out 0
    have hns38_0:=NB883_884.out
    have hns38_2:=NB885_884.out
    have hms38_0:=NB884_883.out
    have hms38_2:=NB884_885.out
    have hs39:w37.cell? ⟨gb884,1,none⟩=some (.bool false):=(blk_cell BK884.out 1).trans rfl
    have hfs39:=blk_frozen BK884.out 1
    have hns39_0:=NB883_884.out
    have hns39_2:=NB885_884.out
    have hms39_0:=NB884_883.out
    have hms39_2:=NB884_885.out
    have hs41:w37.cell? ⟨gb884,2,none⟩=some (.slice none 0 0):=(blk_cell BK884.out 2).trans rfl
    have hfs41:=blk_frozen BK884.out 2
    have hns41_0:=NB883_884.out
    have hns41_2:=NB885_884.out
    have hms41_0:=NB884_883.out
    have hms41_2:=NB884_885.out
    refine skip_ (w1:= ?_) (by rfl) rfl ?_ ?_
    rotate_left
    ·go_simp
     rfl
    refine hK.out _ _ ⟨((cell_far (p:=⟨gb884,_,none⟩) NB885_884.out _).trans (((cell_far (p:=⟨gb884,_,none⟩) NB885_884.out _).trans (((cell_far (p:=⟨gb884,_,none⟩) NB885_884.out _).trans (hHeld.1)))))),((cell_far (p:=⟨gb884,_,none⟩) NB885_884.out _).trans (((cell_far (p:=⟨gb884,_,none⟩) NB885_884.out _).trans (((cell_far (p:=⟨gb884,_,none⟩) NB885_884.out _).trans (hHeld.2.1)))))),((cell_far (p:=⟨gb884,_,none⟩) NB885_884.out _).trans (((cell_far (p:=⟨gb884,_,none⟩) NB885_884.out _).trans (((cell_far (p:=⟨gb884,_,none⟩) NB885_884.out _).trans (hHeld.2.2.1)))))),((cell_far (p:=⟨gb884,_,none⟩) NB883_884.out _).trans (((cell_far (p:=⟨gb884,_,none⟩) NB883_884.out _).trans (((cell_far (p:=⟨gb884,_,none⟩) NB883_884.out _).trans (hHeld.2.2.2.1)))))),((cell_far (p:=⟨gb884,_,none⟩) NB883_884.out _).trans (((cell_far (p:=⟨gb884,_,none⟩) NB883_884.out _).trans (((cell_far (p:=⟨gb884,_,none⟩) NB883_884.out _).trans (hHeld.2.2.2.2.1)))))),((cell_far (p:=⟨gb884,_,none⟩) NB883_884.out _).trans (((cell_far (p:=⟨gb884,_,none⟩) NB883_884.out _).trans (((cell_far (p:=⟨gb884,_,none⟩) NB883_884.out _).trans (hHeld.2.2.2.2.2.1)))))),((cell_far (p:=⟨gb884,_,none⟩) NB883_884.out _).trans (((cell_far (p:=⟨gb884,_,none⟩) NB883_884.out _).trans (((cell_far (p:=⟨gb884,_,none⟩) NB883_884.out _).trans (hHeld.2.2.2.2.2.2.1)))))),((cell_far (p:=⟨gb884,_,none⟩) NB883_884.out _).trans (((cell_far (p:=⟨gb884,_,none⟩) NB883_884.out _).trans (((cell_far (p:=⟨gb884,_,none⟩) NB883_884.out _).trans (hHeld.2.2.2.2.2.2.2.1)))))),((cell_far (p:=⟨gb884,_,none⟩) NB883_884.out _).trans (((cell_far (p:=⟨gb884,_,none⟩) NB883_884.out _).trans (((cell_far (p:=⟨gb884,_,none⟩) NB883_884.out _).trans (hHeld.2.2.2.2.2.2.2.2))))))⟩ (fun hHeld=> ?_)
    clear hK K
    refine pure_ (i:=8) (N:=some 5) (v:= ?_) (a':= ?_) #[true,true,true,true,true,true,true,true,true,false,false] rfl rfl (any_of HT_.out (by kernel_rfl)) (fun _ _ _ h=>h) (Or.inl ⟨by rfl,?_⟩) ?_ ?_
    rotate_left
    ·intro w'
     go_simp
     with_reducible rfl
    rotate_left
    ·simp only[Act.put,List.setIfInBounds_toArray,List.set_cons_zero,List.set_cons_succ,i64_w,i32_w]
     rfl
    refine pure_ (i:=9) (N:=some 6) (v:= ?_) (a':= ?_) #[true,true,true,true,true,true,true,true,true,true,false] rfl rfl (any_of HT_.out (by kernel_rfl)) (fun _ _ _ h=>h) (Or.inl ⟨by rfl,?_⟩) ?_ ?_
    rotate_left
    ·intro w'
     go_simp
     with_reducible rfl
    rotate_left
    ·simp only[Act.put,List.setIfInBounds_toArray,List.set_cons_zero,List.set_cons_succ,i64_w,i32_w]
     rfl
    refine pure_ (i:=10) (N:=some 7) (v:= ?_) (a':= ?_) #[true,true,true,true,true,true,true,true,true,true,true] rfl rfl (any_of HT_.out (by kernel_rfl)) (fun _ _ _ h=>h) (Or.inl ⟨by rfl,?_⟩) ?_ ?_
    rotate_left
    ·intro w'
     go_simp
     with_reducible rfl
    rotate_left
    ·simp only[Act.put,List.setIfInBounds_toArray,List.set_cons_zero,List.set_cons_succ,i64_w,i32_w]
     rfl
    refine done_ (done_of HT_.out (by kernel_rfl)) ?_
    try go_wp2
    refine bodyPost_ret (results_list (rs:=[.cell 4 24, .tmp 5, .tmp 6, .tmp 7]) rfl (by simp) (.cell gb884 24 #[.int .i64 (wrap64 (2+(Int.tmod (wrap64 (a0_0)) 4))), .bool a0_1, .slice Ao40 x886002_1.length co40] (0,0) _ rfl (by(with_reducible repeat(first|refine blk_drewN ?_ _|refine blk_drew ?_|refine blk_alloc ?_ _));refine blk_put (cs:= #[.int .i64 (wrap64 (2+(Int.tmod (wrap64 (a0_0)) 4))), .bool a0_1, .slice none 0 0]) ?_ 2 _ rfl;(with_reducible repeat(first|refine blk_drewN ?_ _|refine blk_drew ?_|refine blk_alloc ?_ _));refine blk_put (cs:= #[.int .i64 (wrap64 (2+(Int.tmod (wrap64 (a0_0)) 4))), .bool false, .slice none 0 0]) ?_ 1 _ rfl;(with_reducible repeat(first|refine blk_drewN ?_ _|refine blk_drew ?_|refine blk_alloc ?_ _));refine blk_put (cs:= #[.int .i64 0, .bool false, .slice none 0 0]) ?_ 0 _ rfl;(with_reducible repeat(first|refine blk_drewN ?_ _|refine blk_drew ?_|refine blk_alloc ?_ _));exact BK884.out) Try.underlying24 rfl (by kernel_rfl) (.tmp (.tmp (.tmp .nil))))) rfl ?_
    exact⟨_,by first|rfl|(simp[errW_none,errW_some]<;>rfl)|(simp[*,errW_none,errW_some]<;>rfl),by(with_reducible repeat(first|apply Kd.R_alloc|apply Kd.R_drewN|apply Kd.R_drew));exact Kd.R_mono (Kd.R_far (p:=⟨gb884,2,none⟩) (Kd.R_far (p:=⟨gb884,1,none⟩) (Kd.R_far (p:=⟨gb884,0,none⟩) (Kd.R_types HO_886002.out BK884.out (by decide)) (fun _ hk=>hk.2) (.int .i64 (wrap64 (2+(Int.tmod (wrap64 (a0_0)) 4))))) (fun _ hk=>hk.2) (.bool a0_1)) (fun _ hk=>hk.2) (.slice Ao40 x886002_1.length co40)) (fun _ hk=>trivial),by repeat(first|(with_reducible first|exact HB.out|apply below_alloc|apply pw_below_drewN|apply below_drew1|refine below_set ?_ GE883.out|refine below_set ?_ GE884.out|refine below_set ?_ GE885.out)|exact HB.out)⟩
   rw[if_pos c12] at H
   have c12b0:decide (x9_1<a1)=true:=decide_eq_true c12
   clear c12
   by_cases c13:0≤x9_1
   rotate_left
   ·rw[if_neg c13] at H
    exact absurd H (by simp)
   rw[if_pos c13] at H
   have c13b0:decide (0≤x9_1)=true:=decide_eq_true c13
   clear c13
   by_cases c14:(wrap64 (2+(Int.tmod (wrap64 (a0_0)) 4)))=0
   ·rw[if_pos c14] at H
    exact absurd H (by simp)
   rw[if_neg c14] at H
   have c14b0:((wrap64 (2+(Int.tmod (wrap64 (a0_0)) 4))) == 0)=false:=beq_eq_false_iff_ne.mpr c14
   have c14b1:((wrap64 (2+(Int.tmod (wrap64 (a0_0)) 4))) != 0)=true:=bne_iff_ne.mpr c14
   by_cases c15:x886002_1.length<4398046511104
   rotate_left
   ·rw[if_neg c15] at H
    exact absurd H (by simp)
   rw[if_pos c15] at H
   have LMc15:=Aside0.mk c15
   clear c15
   obtain⟨y888,hy888⟩: ∃ y_:List (S74),y_=(x886002_1 ++ [(⟨Int.tmod (wrap64 ((rd_T135 l0_2 x9_1).f0)) (wrap64 (2+(Int.tmod (wrap64 (a0_0)) 4))),Int.tmod (wrap64 ((rd_T135 l0_2 x9_1).f1)) (wrap64 (2+(Int.tmod (wrap64 (a0_0)) 4))),Int.tmod (wrap64 ((rd_T135 l0_2 x9_1).f2)) 6,Int.tmod (wrap64 ((rd_T135 l0_2 x9_1).f3)) 4⟩:S74)]):=⟨_,rfl⟩
   replace H:(ebbtidelaw12_Read.l0 k1 a1 (wrap64 (x9_1+1)) a0_0 a0_1 l0_2 a0_3 a0_4 a0_5 (wrap64 (2+(Int.tmod (wrap64 (a0_0)) 4))) a0_1 y888)=some (r1,r2,r3,r4,r5,r6):=by first|(rw[hy888];with_reducible exact H)|(have H2_:=(Option.bind_some _ _).symm.trans H;rw[hy888];with_reducible exact H2_)|(have H2_:=(Option.bind_some _ _).symm.trans H;with_reducible exact H2_)|with_reducible exact H|(rw[hy888];exact H)|exact H
   have Ny888:=Aside0.mk hy888
   clear hy888
   have H':=Aside0.mk H
   clear H
   have hnb16:=NB883_884.out
   have hnc16:=NB884_883.out
   have hnb17:=NB883_885.out
   have hnc17:=NB885_883.out
   have hcz18_0:wr.cell? ⟨gb883,0,none⟩=some (.int .u8 a0_0):=(blk_cell BK883.out 0).trans rfl
   have hcz18_1:wr.cell? ⟨gb883,1,none⟩=some (.bool a0_1):=(blk_cell BK883.out 1).trans rfl
   have hcz18_2:wr.cell? ⟨gb883,2,none⟩=some (.slice A0_2 l0_2.length c0_2):=(blk_cell BK883.out 2).trans rfl
   have hcz18_3:wr.cell? ⟨gb883,3,none⟩=some (.int .u8 a0_3):=(blk_cell BK883.out 3).trans rfl
   have hcz18_4:wr.cell? ⟨gb883,4,none⟩=some (.int .u8 a0_4):=(blk_cell BK883.out 4).trans rfl
   have hcz18_5:wr.cell? ⟨gb883,5,none⟩=some (.int .u8 a0_5):=(blk_cell BK883.out 5).trans rfl
   have hfz18_0:=blk_frozen BK883.out 0
   have hfz18_1:=blk_frozen BK883.out 1
   have hfz18_2:=blk_frozen BK883.out 2
   have hfz18_3:=blk_frozen BK883.out 3
   have hfz18_4:=blk_frozen BK883.out 4
   have hfz18_5:=blk_frozen BK883.out 5
   have p886:0≤(x9_1:Int):=of_decide_eq_true (by first|(with_reducible assumption)|assumption)
   have q886:x9_1<(l0_2.length:Int):=of_decide_eq_true (by first|(with_reducible assumption)|assumption)
   obtain⟨ad886,e886,hx886_0,hx886_1,hx886_2,hx886_3⟩:=at_T135 HR0_2.out x9_1 p886 q886
   cases e886
   replace hx886_0:=(HB.out.cell (World.block_lt_of_cell? w _ hx886_0)).trans hx886_0
   replace hx886_1:=(HB.out.cell (World.block_lt_of_cell? w _ hx886_1)).trans hx886_1
   replace hx886_2:=(HB.out.cell (World.block_lt_of_cell? w _ hx886_2)).trans hx886_2
   replace hx886_3:=(HB.out.cell (World.block_lt_of_cell? w _ hx886_3)).trans hx886_3
   replace p886:=eq_true p886
   replace q886:=eq_true q886
   try go_wp2_with (first|((with_reducible refine gate_dst (N:=10) rfl ?_);refine box_event ?hg (N:=10) ?hd (cs:= #[.int .u8 0, .int .u8 0, .int .u8 0, .int .u8 0]) (t:=135) ?hr ?_;(case hd=>rfl);(case hg=>rfl);(case hr=>first|(go_simp;done)|(go_simp;rfl));intro gb887 hg w19 hbox hb;have n0_:=Aside0.mk (Kd.R_below (by(with_reducible repeat(first|apply Kd.R_alloc|apply Kd.R_drewN|apply Kd.R_drew));exact HO_886002.out) hb);have n1_:=Aside0.mk (blk_below (g:=gb883) (o:= .cells #[.int .u8 a0_0, .bool a0_1, .slice (some ad886) l0_2.length c0_2, .int .u8 a0_3, .int .u8 a0_4, .int .u8 a0_5] 70 (0,0)) (by(with_reducible repeat(first|refine blk_drewN ?_ _|refine blk_drew ?_|refine blk_alloc ?_ _));exact BK883.out) hb);have n2_:=Aside0.mk (blk_below (g:=gb884) (o:= .cells #[.int .i64 0, .bool false, .slice none 0 0] 24 (0,0)) (by(with_reducible repeat(first|refine blk_drewN ?_ _|refine blk_drew ?_|refine blk_alloc ?_ _));exact BK884.out) hb);have n3_:=Aside0.mk (blk_below (g:=gb885) (o:= .cells #[.int .i64 (wrap64 (2+(Int.tmod (wrap64 (a0_0)) 4))), .bool a0_1,u886002] 24 (0,0)) (by(with_reducible repeat(first|refine blk_drewN ?_ _|refine blk_drew ?_|refine blk_alloc ?_ _));exact BK885.out) hb);have n4_:=Aside0.mk (below_step (by repeat(first|(with_reducible first|exact HB.out|apply below_alloc|apply pw_below_drewN|apply below_drew1|refine below_set ?_ GE883.out|refine below_set ?_ GE884.out|refine below_set ?_ GE885.out)|exact HB.out)) hb);have n5_:=Aside0.mk (hbox);have n6_:=Aside0.mk ((by rw[hg];exact(below_size (by repeat(first|(with_reducible first|exact HB.out|apply below_alloc|apply pw_below_drewN|apply below_drew1|refine below_set ?_ GE883.out|refine below_set ?_ GE884.out|refine below_set ?_ GE885.out)|exact HB.out))):w.heap.size≤gb887));have n7_:=Aside0.mk ((by rw[hg];exact(below_size (by repeat(first|(with_reducible first|exact HB.out|apply below_alloc|apply pw_below_drewN|apply below_drew1|refine below_set ?_ GE883.out|refine below_set ?_ GE884.out|refine below_set ?_ GE885.out)|exact HB.out))):w.heap.size≤gb887));have n8_:=Aside0.mk ((by rw[hg];exact Nat.ne_of_lt (blk_lt (g:=gb883) (o:= .cells #[.int .u8 a0_0, .bool a0_1, .slice (some ad886) l0_2.length c0_2, .int .u8 a0_3, .int .u8 a0_4, .int .u8 a0_5] 70 (0,0)) (by(with_reducible repeat(first|refine blk_drewN ?_ _|refine blk_drew ?_|refine blk_alloc ?_ _));exact BK883.out)):gb883≠gb887));have n9_:=Aside0.mk ((by rw[hg];exact Nat.ne_of_gt (blk_lt (g:=gb883) (o:= .cells #[.int .u8 a0_0, .bool a0_1, .slice (some ad886) l0_2.length c0_2, .int .u8 a0_3, .int .u8 a0_4, .int .u8 a0_5] 70 (0,0)) (by(with_reducible repeat(first|refine blk_drewN ?_ _|refine blk_drew ?_|refine blk_alloc ?_ _));exact BK883.out)):gb887≠gb883));have n10_:=Aside0.mk ((by rw[hg];exact Nat.ne_of_lt (blk_lt (g:=gb884) (o:= .cells #[.int .i64 0, .bool false, .slice none 0 0] 24 (0,0)) (by(with_reducible repeat(first|refine blk_drewN ?_ _|refine blk_drew ?_|refine blk_alloc ?_ _));exact BK884.out)):gb884≠gb887));have n11_:=Aside0.mk ((by rw[hg];exact Nat.ne_of_gt (blk_lt (g:=gb884) (o:= .cells #[.int .i64 0, .bool false, .slice none 0 0] 24 (0,0)) (by(with_reducible repeat(first|refine blk_drewN ?_ _|refine blk_drew ?_|refine blk_alloc ?_ _));exact BK884.out)):gb887≠gb884));have n12_:=Aside0.mk ((by rw[hg];exact Nat.ne_of_lt (blk_lt (g:=gb885) (o:= .cells #[.int .i64 (wrap64 (2+(Int.tmod (wrap64 (a0_0)) 4))), .bool a0_1,u886002] 24 (0,0)) (by(with_reducible repeat(first|refine blk_drewN ?_ _|refine blk_drew ?_|refine blk_alloc ?_ _));exact BK885.out)):gb885≠gb887));have n13_:=Aside0.mk ((by rw[hg];exact Nat.ne_of_gt (blk_lt (g:=gb885) (o:= .cells #[.int .i64 (wrap64 (2+(Int.tmod (wrap64 (a0_0)) 4))), .bool a0_1,u886002] 24 (0,0)) (by(with_reducible repeat(first|refine blk_drewN ?_ _|refine blk_drew ?_|refine blk_alloc ?_ _));exact BK885.out)):gb887≠gb885));clear HO_886002;clear BK883;clear BK884;clear BK885;clear HB;have HO_886002:=n0_;have BK883:=n1_;have BK884:=n2_;have BK885:=n3_;have HB:=n4_;have BK887:=n5_;have GW887:=n6_;have GE887:=n7_;have NB883_887:=n8_;have NB887_883:=n9_;have NB884_887:=n10_;have NB887_884:=n11_;have NB885_887:=n12_;have NB887_885:=n13_;clear n0_ n1_ n2_ n3_ n4_ n5_ n6_ n7_ n8_ n9_ n10_ n11_ n12_ n13_;clear hb hbox hg;have hnb20:=NB887_883.out;have hnc20:=NB883_887.out;have hnb21:=NB887_884.out;have hnc21:=NB884_887.out;have hnb22:=NB887_885.out;have hnc22:=NB885_887.out;have hcz23_0:w19.cell? ⟨gb887,0,none⟩=some (.int .u8 0):=(blk_cell BK887.out 0).trans rfl;have hcz23_1:w19.cell? ⟨gb887,1,none⟩=some (.int .u8 0):=(blk_cell BK887.out 1).trans rfl;have hcz23_2:w19.cell? ⟨gb887,2,none⟩=some (.int .u8 0):=(blk_cell BK887.out 2).trans rfl;have hcz23_3:w19.cell? ⟨gb887,3,none⟩=some (.int .u8 0):=(blk_cell BK887.out 3).trans rfl;have hfz23_0:=blk_frozen BK887.out 0;have hfz23_1:=blk_frozen BK887.out 1;have hfz23_2:=blk_frozen BK887.out 2;have hfz23_3:=blk_frozen BK887.out 3))
   have n0_:Aside0 (Kd.R k74 74 ((((w19.setCell ⟨gb887,0,none⟩ (.int .u8 ((rd_T135 l0_2 x9_1).f0))).setCell ⟨gb887,1,none⟩ (.int .u8 ((rd_T135 l0_2 x9_1).f1))).setCell ⟨gb887,2,none⟩ (.int .u8 ((rd_T135 l0_2 x9_1).f2))).setCell ⟨gb887,3,none⟩ (.int .u8 ((rd_T135 l0_2 x9_1).f3))) w.heap.size (fun _=>True) u886002 x886002_1):=⟨by(with_reducible repeat(first|apply Kd.R_alloc|apply Kd.R_drewN|apply Kd.R_drew));exact Kd.R_mono (Kd.R_far (p:=⟨gb887,3,none⟩) (Kd.R_far (p:=⟨gb887,2,none⟩) (Kd.R_far (p:=⟨gb887,1,none⟩) (Kd.R_far (p:=⟨gb887,0,none⟩) (Kd.R_types HO_886002.out BK887.out (by decide)) (fun _ hk=>hk.2) (.int .u8 ((rd_T135 l0_2 x9_1).f0))) (fun _ hk=>hk.2) (.int .u8 ((rd_T135 l0_2 x9_1).f1))) (fun _ hk=>hk.2) (.int .u8 ((rd_T135 l0_2 x9_1).f2))) (fun _ hk=>hk.2) (.int .u8 ((rd_T135 l0_2 x9_1).f3))) (fun _ hk=>trivial)⟩
   have n1_:Aside0 (((((w19.setCell ⟨gb887,0,none⟩ (.int .u8 ((rd_T135 l0_2 x9_1).f0))).setCell ⟨gb887,1,none⟩ (.int .u8 ((rd_T135 l0_2 x9_1).f1))).setCell ⟨gb887,2,none⟩ (.int .u8 ((rd_T135 l0_2 x9_1).f2))).setCell ⟨gb887,3,none⟩ (.int .u8 ((rd_T135 l0_2 x9_1).f3))).heap[gb883]? =some (.cells #[.int .u8 a0_0, .bool a0_1, .slice (some ad886) l0_2.length c0_2, .int .u8 a0_3, .int .u8 a0_4, .int .u8 a0_5] 70 (0,0))):=⟨by(with_reducible repeat(first|refine blk_drewN ?_ _|refine blk_drew ?_|refine blk_alloc ?_ _));refine blk_far ?_ NB883_887.out _;(with_reducible repeat(first|refine blk_drewN ?_ _|refine blk_drew ?_|refine blk_alloc ?_ _));refine blk_far ?_ NB883_887.out _;(with_reducible repeat(first|refine blk_drewN ?_ _|refine blk_drew ?_|refine blk_alloc ?_ _));refine blk_far ?_ NB883_887.out _;(with_reducible repeat(first|refine blk_drewN ?_ _|refine blk_drew ?_|refine blk_alloc ?_ _));refine blk_far ?_ NB883_887.out _;(with_reducible repeat(first|refine blk_drewN ?_ _|refine blk_drew ?_|refine blk_alloc ?_ _));exact BK883.out⟩
   have n2_:Aside0 (((((w19.setCell ⟨gb887,0,none⟩ (.int .u8 ((rd_T135 l0_2 x9_1).f0))).setCell ⟨gb887,1,none⟩ (.int .u8 ((rd_T135 l0_2 x9_1).f1))).setCell ⟨gb887,2,none⟩ (.int .u8 ((rd_T135 l0_2 x9_1).f2))).setCell ⟨gb887,3,none⟩ (.int .u8 ((rd_T135 l0_2 x9_1).f3))).heap[gb884]? =some (.cells #[.int .i64 0, .bool false, .slice none 0 0] 24 (0,0))):=⟨by(with_reducible repeat(first|refine blk_drewN ?_ _|refine blk_drew ?_|refine blk_alloc ?_ _));refine blk_far ?_ NB884_887.out _;(with_reducible repeat(first|refine blk_drewN ?_ _|refine blk_drew ?_|refine blk_alloc ?_ _));refine blk_far ?_ NB884_887.out _;(with_reducible repeat(first|refine blk_drewN ?_ _|refine blk_drew ?_|refine blk_alloc ?_ _));refine blk_far ?_ NB884_887.out _;(with_reducible repeat(first|refine blk_drewN ?_ _|refine blk_drew ?_|refine blk_alloc ?_ _));refine blk_far ?_ NB884_887.out _;(with_reducible repeat(first|refine blk_drewN ?_ _|refine blk_drew ?_|refine blk_alloc ?_ _));exact BK884.out⟩
   have n3_:Aside0 (((((w19.setCell ⟨gb887,0,none⟩ (.int .u8 ((rd_T135 l0_2 x9_1).f0))).setCell ⟨gb887,1,none⟩ (.int .u8 ((rd_T135 l0_2 x9_1).f1))).setCell ⟨gb887,2,none⟩ (.int .u8 ((rd_T135 l0_2 x9_1).f2))).setCell ⟨gb887,3,none⟩ (.int .u8 ((rd_T135 l0_2 x9_1).f3))).heap[gb885]? =some (.cells #[.int .i64 (wrap64 (2+(Int.tmod (wrap64 (a0_0)) 4))), .bool a0_1,u886002] 24 (0,0))):=⟨by(with_reducible repeat(first|refine blk_drewN ?_ _|refine blk_drew ?_|refine blk_alloc ?_ _));refine blk_far ?_ NB885_887.out _;(with_reducible repeat(first|refine blk_drewN ?_ _|refine blk_drew ?_|refine blk_alloc ?_ _));refine blk_far ?_ NB885_887.out _;(with_reducible repeat(first|refine blk_drewN ?_ _|refine blk_drew ?_|refine blk_alloc ?_ _));refine blk_far ?_ NB885_887.out _;(with_reducible repeat(first|refine blk_drewN ?_ _|refine blk_drew ?_|refine blk_alloc ?_ _));refine blk_far ?_ NB885_887.out _;(with_reducible repeat(first|refine blk_drewN ?_ _|refine blk_drew ?_|refine blk_alloc ?_ _));exact BK885.out⟩
   have n4_:Aside0 (((((w19.setCell ⟨gb887,0,none⟩ (.int .u8 ((rd_T135 l0_2 x9_1).f0))).setCell ⟨gb887,1,none⟩ (.int .u8 ((rd_T135 l0_2 x9_1).f1))).setCell ⟨gb887,2,none⟩ (.int .u8 ((rd_T135 l0_2 x9_1).f2))).setCell ⟨gb887,3,none⟩ (.int .u8 ((rd_T135 l0_2 x9_1).f3))).heap[gb887]? =some (.cells #[.int .u8 ((rd_T135 l0_2 x9_1).f0), .int .u8 ((rd_T135 l0_2 x9_1).f1), .int .u8 ((rd_T135 l0_2 x9_1).f2), .int .u8 ((rd_T135 l0_2 x9_1).f3)] 135 (0,0))):=⟨by(with_reducible repeat(first|refine blk_drewN ?_ _|refine blk_drew ?_|refine blk_alloc ?_ _));refine blk_put (cs:= #[.int .u8 ((rd_T135 l0_2 x9_1).f0), .int .u8 ((rd_T135 l0_2 x9_1).f1), .int .u8 ((rd_T135 l0_2 x9_1).f2), .int .u8 0]) ?_ 3 _ rfl;(with_reducible repeat(first|refine blk_drewN ?_ _|refine blk_drew ?_|refine blk_alloc ?_ _));refine blk_put (cs:= #[.int .u8 ((rd_T135 l0_2 x9_1).f0), .int .u8 ((rd_T135 l0_2 x9_1).f1), .int .u8 0, .int .u8 0]) ?_ 2 _ rfl;(with_reducible repeat(first|refine blk_drewN ?_ _|refine blk_drew ?_|refine blk_alloc ?_ _));refine blk_put (cs:= #[.int .u8 ((rd_T135 l0_2 x9_1).f0), .int .u8 0, .int .u8 0, .int .u8 0]) ?_ 1 _ rfl;(with_reducible repeat(first|refine blk_drewN ?_ _|refine blk_drew ?_|refine blk_alloc ?_ _));refine blk_put (cs:= #[.int .u8 0, .int .u8 0, .int .u8 0, .int .u8 0]) ?_ 0 _ rfl;(with_reducible repeat(first|refine blk_drewN ?_ _|refine blk_drew ?_|refine blk_alloc ?_ _));exact BK887.out⟩
   have n5_:Aside0 (Below w.heap.size w ((((w19.setCell ⟨gb887,0,none⟩ (.int .u8 ((rd_T135 l0_2 x9_1).f0))).setCell ⟨gb887,1,none⟩ (.int .u8 ((rd_T135 l0_2 x9_1).f1))).setCell ⟨gb887,2,none⟩ (.int .u8 ((rd_T135 l0_2 x9_1).f2))).setCell ⟨gb887,3,none⟩ (.int .u8 ((rd_T135 l0_2 x9_1).f3)))):=⟨by repeat(first|(with_reducible first|exact HB.out|apply below_alloc|apply pw_below_drewN|apply below_drew1|refine below_set ?_ GE883.out|refine below_set ?_ GE884.out|refine below_set ?_ GE885.out|refine below_set ?_ GE887.out)|exact HB.out)⟩
   (try clear HO_886002)
   (try clear BK883)
   (try clear BK884)
   (try clear BK885)
   (try clear BK887)
   (try clear HB)
   generalize ((((w19.setCell ⟨gb887,0,none⟩ (.int .u8 ((rd_T135 l0_2 x9_1).f0))).setCell ⟨gb887,1,none⟩ (.int .u8 ((rd_T135 l0_2 x9_1).f1))).setCell ⟨gb887,2,none⟩ (.int .u8 ((rd_T135 l0_2 x9_1).f2))).setCell ⟨gb887,3,none⟩ (.int .u8 ((rd_T135 l0_2 x9_1).f3)))=w24 at n0_ n1_ n2_ n3_ n4_ n5_ ⊢
   have HO_886002:=n0_
   have BK883:=n1_
   have BK884:=n2_
   have BK885:=n3_
   have BK887:=n4_
   have HB:=n5_
   clear n0_ n1_ n2_ n3_ n4_ n5_
   have n0_:=Aside0.mk (Kd.R_drew HO_886002.out)
   have n1_:=Aside0.mk (blk_drew BK883.out)
   have n2_:=Aside0.mk (blk_drew BK884.out)
   have n3_:=Aside0.mk (blk_drew BK885.out)
   have n4_:=Aside0.mk (blk_drew BK887.out)
   have n5_:=Aside0.mk (below_drew1 HB.out)
   clear HO_886002
   clear BK883
   clear BK884
   clear BK885
   clear BK887
   clear HB
   have HO_886002:=n0_
   have BK883:=n1_
   have BK884:=n2_
   have BK885:=n3_
   have BK887:=n4_
   have HB:=n5_
   clear n0_ n1_ n2_ n3_ n4_ n5_
   refine start_ (n:=27) (S:=fun w'=>w'.cell? ⟨gb885,0,none⟩=some (.int .i64 (wrap64 (2+(Int.tmod (wrap64 (a0_0)) 4))))∧w'.cell? ⟨gb885,1,none⟩=some (.bool a0_1)∧w'.cell? ⟨gb885,2,none⟩=some (u886002)∧w'.cell? ⟨gb887,0,none⟩=some (.int .u8 ((rd_T135 l0_2 x9_1).f0))∧w'.cell? ⟨gb887,1,none⟩=some (.int .u8 ((rd_T135 l0_2 x9_1).f1))∧w'.cell? ⟨gb887,2,none⟩=some (.int .u8 ((rd_T135 l0_2 x9_1).f2))∧w'.cell? ⟨gb887,3,none⟩=some (.int .u8 ((rd_T135 l0_2 x9_1).f3))) (ds:=[26]) #[false,false,false,false,false,false,false,false,false,false,false,false,false,false,false,false,false,false,false,false,false,false,false,false,false,false,false] (by kernel_rfl) rfl rfl ⟨(blk_cell BK885.out 0).trans rfl,(blk_cell BK885.out 1).trans rfl,(blk_cell BK885.out 2).trans rfl,(blk_cell BK887.out 0).trans rfl,(blk_cell BK887.out 1).trans rfl,(blk_cell BK887.out 2).trans rfl,(blk_cell BK887.out 3).trans rfl⟩ (fun hHeld=> ?_);refine with_tabW ebbtidelaw12_Read.tab6 ebbtidelaw12_Read.bits6 (fun HT_ HW_=> ?_)
   generalize w24.drew=w25 at HO_886002 BK883 BK884 BK885 BK887 HB hHeld ⊢
   refine pure_ (i:=0) (N:=some 38) (v:= ?_) (a':= ?_) #[true,false,false,false,false,false,false,false,false,false,false,false,false,false,false,false,false,false,false,false,false,false,false,false,false,false,false] rfl rfl (any_of HT_.out (by kernel_rfl)) (fun _ _ _ h=>h) (Or.inl ⟨by rfl,?_⟩) ?_ ?_
   rotate_left
   ·intro w'
    go_simp
    with_reducible rfl
   rotate_left
   ·simp only[Act.put,List.setIfInBounds_toArray,List.set_cons_zero,List.set_cons_succ,i64_w,i32_w]
    rfl
   refine pure_ (i:=2) (N:=some 40) (v:= ?_) (a':= ?_) #[true,false,true,false,false,false,false,false,false,false,false,false,false,false,false,false,false,false,false,false,false,false,false,false,false,false,false] rfl rfl (any_of HT_.out (by kernel_rfl)) (fun _ _ _ h=>h) (Or.inl ⟨by rfl,?_⟩) ?_ ?_
   rotate_left
   ·intro w'
    go_simp
    with_reducible rfl
   rotate_left
   ·simp only[Act.put,List.setIfInBounds_toArray,List.set_cons_zero,List.set_cons_succ,i64_w,i32_w]
    rfl
   refine pure_ (i:=5) (N:=some 43) (v:= ?_) (a':= ?_) #[true,false,true,false,false,true,false,false,false,false,false,false,false,false,false,false,false,false,false,false,false,false,false,false,false,false,false] rfl rfl (any_of HT_.out (by kernel_rfl)) (fun _ _ _ h=>h) (Or.inl ⟨by rfl,?_⟩) ?_ ?_
   rotate_left
   ·intro w'
    go_simp
    with_reducible rfl
   rotate_left
   ·simp only[Act.put,List.setIfInBounds_toArray,List.set_cons_zero,List.set_cons_succ,i64_w,i32_w]
    rfl
   refine pure_ (i:=8) (N:=some 46) (v:= ?_) (a':= ?_) #[true,false,true,false,false,true,false,false,true,false,false,false,false,false,false,false,false,false,false,false,false,false,false,false,false,false,false] rfl rfl (any_of HT_.out (by kernel_rfl)) (fun _ _ _ h=>h) (Or.inl ⟨by rfl,?_⟩) ?_ ?_
   rotate_left
   ·intro w'
    go_simp
    with_reducible rfl
   rotate_left
   ·simp only[Act.put,List.setIfInBounds_toArray,List.set_cons_zero,List.set_cons_succ,i64_w,i32_w]
    rfl
   refine pure_ (i:=11) (N:=some 49) (v:= ?_) (a':= ?_) #[true,false,true,false,false,true,false,false,true,false,false,true,false,false,false,false,false,false,false,false,false,false,false,false,false,false,false] rfl rfl (any_of HT_.out (by kernel_rfl)) (fun _ _ _ h=>h) (Or.inl ⟨by rfl,?_⟩) ?_ ?_
   rotate_left
   ·intro w'
    go_simp
    with_reducible rfl
   rotate_left
   ·simp only[Act.put,List.setIfInBounds_toArray,List.set_cons_zero,List.set_cons_succ,i64_w,i32_w]
    rfl
   refine pure_ (i:=14) (N:=some 52) (v:= ?_) (a':= ?_) #[true,false,true,false,false,true,false,false,true,false,false,true,false,false,true,false,false,false,false,false,false,false,false,false,false,false,false] rfl rfl (any_of HT_.out (by kernel_rfl)) (fun _ _ _ h=>h) (Or.inl ⟨by rfl,?_⟩) ?_ ?_
   rotate_left
   ·intro w'
    go_simp
    with_reducible rfl
   rotate_left
   ·simp only[Act.put,List.setIfInBounds_toArray,List.set_cons_zero,List.set_cons_succ,i64_w,i32_w]
    rfl
   refine pure_ (i:=18) (N:=some 56) (v:= ?_) (a':= ?_) #[true,false,true,false,false,true,false,false,true,false,false,true,false,false,true,false,false,false,true,false,false,false,false,false,false,false,false] rfl rfl (any_of HT_.out (by kernel_rfl)) (fun _ _ _ h=>h) (Or.inl ⟨by rfl,?_⟩) ?_ ?_
   rotate_left
   ·intro w'
    go_simp
    with_reducible rfl
   rotate_left
   ·simp only[Act.put,List.setIfInBounds_toArray,List.set_cons_zero,List.set_cons_succ,i64_w,i32_w]
    rfl
   refine take_ (i:=1) (N:=some 39) (v:= ?_) (a':= ?_) #[true,true,true,false,false,true,false,false,true,false,false,true,false,false,true,false,false,false,true,false,false,false,false,false,false,false,false] rfl rfl (take_ofW HT_.out HW_.out (by kernel_rfl)) (fun _ _ _ h=>h) (Or.inl ⟨by rfl,?_⟩) hHeld ?_ ?_
   rotate_left
   ·rintro w' ⟨s0,s1,s2,s3,s4,s5,s6⟩
    go_simp
    with_reducible rfl
   rotate_left
   ·simp only[Act.put,List.setIfInBounds_toArray,List.set_cons_zero,List.set_cons_succ,i64_w,i32_w]
    rfl
   refine take_ (i:=3) (N:=some 41) (v:= ?_) (a':= ?_) #[true,true,true,true,false,true,false,false,true,false,false,true,false,false,true,false,false,false,true,false,false,false,false,false,false,false,false] rfl rfl (take_ofW HT_.out HW_.out (by kernel_rfl)) (fun _ _ _ h=>h) (Or.inl ⟨by rfl,?_⟩) hHeld ?_ ?_
   rotate_left
   ·rintro w' ⟨s0,s1,s2,s3,s4,s5,s6⟩
    go_simp
    with_reducible rfl
   rotate_left
   ·simp only[Act.put,List.setIfInBounds_toArray,List.set_cons_zero,List.set_cons_succ,i64_w,i32_w]
    rfl
   refine pure_ (i:=4) (N:=some 42) (v:= ?_) (a':= ?_) #[true,true,true,true,true,true,false,false,true,false,false,true,false,false,true,false,false,false,true,false,false,false,false,false,false,false,false] rfl rfl (any_of HT_.out (by kernel_rfl)) (fun _ _ _ h=>h) (Or.inl ⟨by rfl,?_⟩) ?_ ?_
   rotate_left
   ·intro w'
    go_simp
    with_reducible rfl
   rotate_left
   ·simp only[Act.put,List.setIfInBounds_toArray,List.set_cons_zero,List.set_cons_succ,i64_w,i32_w]
    rfl
   refine take_ (i:=6) (N:=some 44) (v:= ?_) (a':= ?_) #[true,true,true,true,true,true,true,false,true,false,false,true,false,false,true,false,false,false,true,false,false,false,false,false,false,false,false] rfl rfl (take_ofW HT_.out HW_.out (by kernel_rfl)) (fun _ _ _ h=>h) (Or.inl ⟨by rfl,?_⟩) hHeld ?_ ?_
   rotate_left
   ·rintro w' ⟨s0,s1,s2,s3,s4,s5,s6⟩
    go_simp
    with_reducible rfl
   rotate_left
   ·simp only[Act.put,List.setIfInBounds_toArray,List.set_cons_zero,List.set_cons_succ,i64_w,i32_w]
    rfl
   refine pure_ (i:=7) (N:=some 45) (v:= ?_) (a':= ?_) #[true,true,true,true,true,true,true,true,true,false,false,true,false,false,true,false,false,false,true,false,false,false,false,false,false,false,false] rfl rfl (any_of HT_.out (by kernel_rfl)) (fun _ _ _ h=>h) (Or.inl ⟨by rfl,?_⟩) ?_ ?_
   rotate_left
   ·intro w'
    go_simp
    with_reducible rfl
   rotate_left
   ·simp only[Act.put,List.setIfInBounds_toArray,List.set_cons_zero,List.set_cons_succ,i64_w,i32_w]
    rfl
   refine take_ (i:=9) (N:=some 47) (v:= ?_) (a':= ?_) #[true,true,true,true,true,true,true,true,true,true,false,true,false,false,true,false,false,false,true,false,false,false,false,false,false,false,false] rfl rfl (take_ofW HT_.out HW_.out (by kernel_rfl)) (fun _ _ _ h=>h) (Or.inl ⟨by rfl,?_⟩) hHeld ?_ ?_
   rotate_left
   ·rintro w' ⟨s0,s1,s2,s3,s4,s5,s6⟩
    go_simp
    with_reducible rfl
   rotate_left
   ·simp only[Act.put,List.setIfInBounds_toArray,List.set_cons_zero,List.set_cons_succ,i64_w,i32_w]
    rfl
   refine pure_ (i:=10) (N:=some 48) (v:= ?_) (a':= ?_) #[true,true,true,true,true,true,true,true,true,true,true,true,false,false,true,false,false,false,true,false,false,false,false,false,false,false,false] rfl rfl (any_of HT_.out (by kernel_rfl)) (fun _ _ _ h=>h) (Or.inl ⟨by rfl,?_⟩) ?_ ?_
   rotate_left
   ·intro w'
    go_simp
    with_reducible rfl
   rotate_left
   ·simp only[Act.put,List.setIfInBounds_toArray,List.set_cons_zero,List.set_cons_succ,i64_w,i32_w]
    rfl
   refine take_ (i:=12) (N:=some 50) (v:= ?_) (a':= ?_) #[true,true,true,true,true,true,true,true,true,true,true,true,true,false,true,false,false,false,true,false,false,false,false,false,false,false,false] rfl rfl (take_ofW HT_.out HW_.out (by kernel_rfl)) (fun _ _ _ h=>h) (Or.inl ⟨by rfl,?_⟩) hHeld ?_ ?_
   rotate_left
   ·rintro w' ⟨s0,s1,s2,s3,s4,s5,s6⟩
    go_simp
    with_reducible rfl
   rotate_left
   ·simp only[Act.put,List.setIfInBounds_toArray,List.set_cons_zero,List.set_cons_succ,i64_w,i32_w]
    rfl
   refine pure_ (i:=13) (N:=some 51) (v:= ?_) (a':= ?_) #[true,true,true,true,true,true,true,true,true,true,true,true,true,true,true,false,false,false,true,false,false,false,false,false,false,false,false] rfl rfl (any_of HT_.out (by kernel_rfl)) (fun _ _ _ h=>h) (Or.inl ⟨by rfl,?_⟩) ?_ ?_
   rotate_left
   ·intro w'
    go_simp
    with_reducible rfl
   rotate_left
   ·simp only[Act.put,List.setIfInBounds_toArray,List.set_cons_zero,List.set_cons_succ,i64_w,i32_w]
    rfl
   refine take_ (i:=15) (N:=some 53) (v:= ?_) (a':= ?_) #[true,true,true,true,true,true,true,true,true,true,true,true,true,true,true,true,false,false,true,false,false,false,false,false,false,false,false] rfl rfl (take_ofW HT_.out HW_.out (by kernel_rfl)) (fun _ _ _ h=>h) (Or.inl ⟨by rfl,?_⟩) hHeld ?_ ?_
   rotate_left
   ·rintro w' ⟨s0,s1,s2,s3,s4,s5,s6⟩
    go_simp
    with_reducible rfl
   rotate_left
   ·simp only[Act.put,List.setIfInBounds_toArray,List.set_cons_zero,List.set_cons_succ,i64_w,i32_w]
    rfl
   refine pure_ (i:=16) (N:=some 54) (v:= ?_) (a':= ?_) #[true,true,true,true,true,true,true,true,true,true,true,true,true,true,true,true,true,false,true,false,false,false,false,false,false,false,false] rfl rfl (any_of HT_.out (by kernel_rfl)) (fun _ _ _ h=>h) (Or.inl ⟨by rfl,?_⟩) ?_ ?_
   rotate_left
   ·intro w'
    go_simp
    with_reducible rfl
   rotate_left
   ·simp only[Act.put,List.setIfInBounds_toArray,List.set_cons_zero,List.set_cons_succ,i64_w,i32_w]
    rfl
   refine pure_ (i:=17) (N:=some 55) (v:= ?_) (a':= ?_) #[true,true,true,true,true,true,true,true,true,true,true,true,true,true,true,true,true,true,true,false,false,false,false,false,false,false,false] rfl rfl (any_of HT_.out (by kernel_rfl)) (fun _ _ _ h=>h) (Or.inl ⟨by rfl,?_⟩) ?_ ?_
   rotate_left
   ·intro w'
    go_simp
    with_reducible rfl
   rotate_left
   ·simp only[Act.put,List.setIfInBounds_toArray,List.set_cons_zero,List.set_cons_succ,i64_w,i32_w]
    rfl
   refine take_ (i:=19) (N:=some 57) (v:= ?_) (a':= ?_) #[true,true,true,true,true,true,true,true,true,true,true,true,true,true,true,true,true,true,true,true,false,false,false,false,false,false,false] rfl rfl (take_ofW HT_.out HW_.out (by kernel_rfl)) (fun _ _ _ h=>h) (Or.inl ⟨by rfl,?_⟩) hHeld ?_ ?_
   rotate_left
   ·rintro w' ⟨s0,s1,s2,s3,s4,s5,s6⟩
    go_simp
    with_reducible rfl
   rotate_left
   ·simp only[Act.put,List.setIfInBounds_toArray,List.set_cons_zero,List.set_cons_succ,i64_w,i32_w]
    rfl
   refine pure_ (i:=20) (N:=some 58) (v:= ?_) (a':= ?_) #[true,true,true,true,true,true,true,true,true,true,true,true,true,true,true,true,true,true,true,true,true,false,false,false,false,false,false] rfl rfl (any_of HT_.out (by kernel_rfl)) (fun _ _ _ h=>h) (Or.inl ⟨by rfl,?_⟩) ?_ ?_
   rotate_left
   ·intro w'
    go_simp
    with_reducible rfl
   rotate_left
   ·simp only[Act.put,List.setIfInBounds_toArray,List.set_cons_zero,List.set_cons_succ,i64_w,i32_w]
    rfl
   refine pure_ (i:=21) (N:=some 59) (v:= ?_) (a':= ?_) #[true,true,true,true,true,true,true,true,true,true,true,true,true,true,true,true,true,true,true,true,true,true,false,false,false,false,false] rfl rfl (any_of HT_.out (by kernel_rfl)) (fun _ _ _ h=>h) (Or.inl ⟨by rfl,?_⟩) ?_ ?_
   rotate_left
   ·intro w'
    go_simp
    with_reducible rfl
   rotate_left
   ·simp only[Act.put,List.setIfInBounds_toArray,List.set_cons_zero,List.set_cons_succ,i64_w,i32_w]
    rfl
   refine pure_ (i:=22) (N:=some 60) (v:= ?_) (a':= ?_) #[true,true,true,true,true,true,true,true,true,true,true,true,true,true,true,true,true,true,true,true,true,true,true,false,false,false,false] rfl rfl (any_of HT_.out (by kernel_rfl)) (fun _ _ _ h=>h) (Or.inl ⟨by rfl,?_⟩) ?_ ?_
   rotate_left
   ·intro w'
    go_simp
    with_reducible rfl
   rotate_left
   ·simp only[Act.put,List.setIfInBounds_toArray,List.set_cons_zero,List.set_cons_succ,i64_w,i32_w]
    rfl
   refine one_ (i:=23) (N:=some 61) #[true,true,true,true,true,true,true,true,true,true,true,true,true,true,true,true,true,true,true,true,true,true,true,true,false,false,false] rfl rfl (one_of HT_.out (by kernel_rfl)) (by decide) (fun K hK=> ?_)
   refine value_ (w1:= ?_) (v:= ?_) (by rfl) rfl ?_ ?_
   rotate_left 2
   ·go_simp
    constructor
    ·rfl
    ·rfl
   refine hK.out _ _ ⟨(blk_cell (blk_alloc BK885.out _) 0).trans rfl,(blk_cell (blk_alloc BK885.out _) 1).trans rfl,(blk_cell (blk_alloc BK885.out _) 2).trans rfl,(blk_cell (blk_alloc BK887.out _) 0).trans rfl,(blk_cell (blk_alloc BK887.out _) 1).trans rfl,(blk_cell (blk_alloc BK887.out _) 2).trans rfl,(blk_cell (blk_alloc BK887.out _) 3).trans rfl⟩ (fun hHeld=> ?_)
   clear hK K
   refine norm_ (a':= ?_) ?_ ?_
   rotate_left
   ·show Act.put _ (some 61) _=_
    simp only[Act.put,List.setIfInBounds_toArray,List.set_cons_zero,List.set_cons_succ,i64_w,i32_w]
    rfl
   refine one_ (i:=24) (N:=some 62) #[true,true,true,true,true,true,true,true,true,true,true,true,true,true,true,true,true,true,true,true,true,true,true,true,true,false,false] rfl rfl (one_of HT_.out (by kernel_rfl)) (by decide) (fun K hK=> ?_)
   refine Kd.R_append_step k74 (w0:=w) w.heap.size (by rfl) (.tmp 39) (.tmp 61) 22 74 (.agg #[(.int .i64 0),(.int .i64 0),(.int .i64 0),(.int .i64 0)]) 32 rfl Try.underlying22 info74 rfl (by decide) (by omega) u886002 x886002_1 (⟨Int.tmod (wrap64 ((rd_T135 l0_2 x9_1).f0)) (wrap64 (2+(Int.tmod (wrap64 (a0_0)) 4))),Int.tmod (wrap64 ((rd_T135 l0_2 x9_1).f1)) (wrap64 (2+(Int.tmod (wrap64 (a0_0)) 4))),Int.tmod (wrap64 ((rd_T135 l0_2 x9_1).f2)) 6,Int.tmod (wrap64 ((rd_T135 l0_2 x9_1).f3)) 4⟩:S74) [.int .i64 (Int.tmod (wrap64 ((rd_T135 l0_2 x9_1).f0)) (wrap64 (2+(Int.tmod (wrap64 (a0_0)) 4)))), .int .i64 (Int.tmod (wrap64 ((rd_T135 l0_2 x9_1).f1)) (wrap64 (2+(Int.tmod (wrap64 (a0_0)) 4)))), .int .i64 (Int.tmod (wrap64 ((rd_T135 l0_2 x9_1).f2)) 6), .int .i64 (Int.tmod (wrap64 ((rd_T135 l0_2 x9_1).f3)) 4)] (fun _=>True) (fun _=>False) rfl rfl ?aP (fun _ hk=>hk.elim) ?aF ?aO ?aB ?aS ?aL ?_
   (case aP=>exact k74_mkM _ _ _ (⟨Int.tmod (wrap64 ((rd_T135 l0_2 x9_1).f0)) (wrap64 (2+(Int.tmod (wrap64 (a0_0)) 4))),Int.tmod (wrap64 ((rd_T135 l0_2 x9_1).f1)) (wrap64 (2+(Int.tmod (wrap64 (a0_0)) 4))),Int.tmod (wrap64 ((rd_T135 l0_2 x9_1).f2)) 6,Int.tmod (wrap64 ((rd_T135 l0_2 x9_1).f3)) 4⟩:S74))
   (case aB=>exact(by repeat(first|(with_reducible first|exact HB.out|apply below_alloc|apply pw_below_drewN|apply below_drew1|refine below_set ?_ GE883.out|refine below_set ?_ GE884.out|refine below_set ?_ GE885.out|refine below_set ?_ GE887.out)|exact HB.out)))
   (case aF=>exact(fun _ _=>trivial))
   (case aO=>exact(by(with_reducible repeat(first|apply Kd.R_alloc|apply Kd.R_drewN|apply Kd.R_drew));exact HO_886002.out))
   (case aS=>exact(below_size (by repeat(first|(with_reducible first|exact HB.out|apply below_alloc|apply pw_below_drewN|apply below_drew1|refine below_set ?_ GE883.out|refine below_set ?_ GE884.out|refine below_set ?_ GE885.out|refine below_set ?_ GE887.out)|exact HB.out))))
   (case aL=>have:=LMc15.out;omega)
   intro v889 w26 ho hb hg hat
   rw[← Ny888.out] at ho
   have n0_:=Aside0.mk (blk_grown (g:=gb883) (o:= .cells #[.int .u8 a0_0, .bool a0_1, .slice (some ad886) l0_2.length c0_2, .int .u8 a0_3, .int .u8 a0_4, .int .u8 a0_5] 70 (0,0)) (by(with_reducible repeat(first|refine blk_drewN ?_ _|refine blk_drew ?_|refine blk_alloc ?_ _));exact BK883.out) hg (Kd.R_ne HO_886002.out BK883.out (by decide)))
   have n1_:=Aside0.mk (blk_grown (g:=gb884) (o:= .cells #[.int .i64 0, .bool false, .slice none 0 0] 24 (0,0)) (by(with_reducible repeat(first|refine blk_drewN ?_ _|refine blk_drew ?_|refine blk_alloc ?_ _));exact BK884.out) hg (Kd.R_ne HO_886002.out BK884.out (by decide)))
   have n2_:=Aside0.mk (blk_grown (g:=gb885) (o:= .cells #[.int .i64 (wrap64 (2+(Int.tmod (wrap64 (a0_0)) 4))), .bool a0_1,u886002] 24 (0,0)) (by(with_reducible repeat(first|refine blk_drewN ?_ _|refine blk_drew ?_|refine blk_alloc ?_ _));exact BK885.out) hg (Kd.R_ne HO_886002.out BK885.out (by decide)))
   have n3_:=Aside0.mk (blk_grown (g:=gb887) (o:= .cells #[.int .u8 ((rd_T135 l0_2 x9_1).f0), .int .u8 ((rd_T135 l0_2 x9_1).f1), .int .u8 ((rd_T135 l0_2 x9_1).f2), .int .u8 ((rd_T135 l0_2 x9_1).f3)] 135 (0,0)) (by(with_reducible repeat(first|refine blk_drewN ?_ _|refine blk_drew ?_|refine blk_alloc ?_ _));exact BK887.out) hg (Kd.R_ne HO_886002.out BK887.out (by decide)))
   have n4_:=Aside0.mk (hb)
   have n5_:=Aside0.mk (ho)
   clear BK883
   clear BK884
   clear BK885
   clear BK887
   clear HB
   clear HO_886002
   have BK883:=n0_
   have BK884:=n1_
   have BK885:=n2_
   have BK887:=n3_
   have HB:=n4_
   have HO890:=n5_
   clear n0_ n1_ n2_ n3_ n4_ n5_
   clear ho hb hg hat
   obtain⟨Ao27,co27,eo27⟩:=Kd.R_slice HO890.out
   (first|subst eo27|(injection eo27 with f1_ f2_ f3_;have f4_:=f1_.symm;have f5_:=f3_.symm;clear f1_ f2_ f3_;subst f4_;subst f5_))
   refine hK.out _ _ ⟨(blk_cell BK885.out 0).trans rfl,(blk_cell BK885.out 1).trans rfl,(blk_cell BK885.out 2).trans rfl,(blk_cell BK887.out 0).trans rfl,(blk_cell BK887.out 1).trans rfl,(blk_cell BK887.out 2).trans rfl,(blk_cell BK887.out 3).trans rfl⟩ (fun hHeld=> ?_)
   clear hK K
   refine norm_ (a':= ?_) ?_ ?_
   rotate_left
   ·show Act.put _ (some 62) _=_
    simp only[Act.put,List.setIfInBounds_toArray,List.set_cons_zero,List.set_cons_succ,i64_w,i32_w]
    rfl
   refine pure_ (i:=25) (N:=some 63) (v:= ?_) (a':= ?_) #[true,true,true,true,true,true,true,true,true,true,true,true,true,true,true,true,true,true,true,true,true,true,true,true,true,true,false] rfl rfl (any_of HT_.out (by kernel_rfl)) (fun _ _ _ h=>h) (Or.inl ⟨by rfl,?_⟩) ?_ ?_
   rotate_left
   ·intro w'
    go_simp
    with_reducible rfl
   rotate_left
   ·simp only[Act.put,List.setIfInBounds_toArray,List.set_cons_zero,List.set_cons_succ,i64_w,i32_w]
    rfl
   refine last_ (i:=26) (N:=none) #[true,true,true,true,true,true,true,true,true,true,true,true,true,true,true,true,true,true,true,true,true,true,true,true,true,true,true] rfl rfl (one_of HT_.out (by kernel_rfl)) (by decide) (fun K hK=> ?_)
   have hs28:w26.cell? ⟨gb885,2,none⟩=some (u886002):=(blk_cell BK885.out 2).trans rfl
   have hfs28:=blk_frozen BK885.out 2
   have hns28_0:=NB883_885.out
   have hns28_1:=NB884_885.out
   have hns28_3:=NB887_885.out
   have hms28_0:=NB885_883.out
   have hms28_1:=NB885_884.out
   have hms28_3:=NB885_887.out
   refine skip_ (w1:= ?_) (by rfl) rfl ?_ ?_
   rotate_left
   ·go_simp
    rfl
   refine hK.out _ _ ?_
   clear hK K
   refine done_ (done_of HT_.out (by kernel_rfl)) ?_
   try go_wp2
   go_roundg k1
   case measure=>have:=HK1.out;omega
   case rel=>exact⟨(wrap64 (x9_1+1)),(y888),(.slice Ao27 y888.length co27),(by first|rfl|(simp;done)|(simp[*];done)),H',⟨by have:=HK1.out;omega⟩,⟨by(with_reducible repeat(first|apply Kd.R_alloc|apply Kd.R_drewN|apply Kd.R_drew));exact Kd.R_mono (Kd.R_far (p:=⟨gb885,2,none⟩) (Kd.R_types HO890.out BK885.out (by decide)) (fun _ hk=>hk.2) (.slice Ao27 y888.length co27)) (fun _ hk=>trivial)⟩,⟨by(with_reducible repeat(first|refine blk_drewN ?_ _|refine blk_drew ?_|refine blk_alloc ?_ _));refine blk_far ?_ NB883_885.out _;(with_reducible repeat(first|refine blk_drewN ?_ _|refine blk_drew ?_|refine blk_alloc ?_ _));exact BK883.out⟩,⟨by(with_reducible repeat(first|refine blk_drewN ?_ _|refine blk_drew ?_|refine blk_alloc ?_ _));refine blk_far ?_ NB884_885.out _;(with_reducible repeat(first|refine blk_drewN ?_ _|refine blk_drew ?_|refine blk_alloc ?_ _));exact BK884.out⟩,⟨by(with_reducible repeat(first|refine blk_drewN ?_ _|refine blk_drew ?_|refine blk_alloc ?_ _));refine blk_put (cs:= #[.int .i64 (wrap64 (2+(Int.tmod (wrap64 (a0_0)) 4))), .bool a0_1,u886002]) ?_ 2 _ rfl;(with_reducible repeat(first|refine blk_drewN ?_ _|refine blk_drew ?_|refine blk_alloc ?_ _));exact BK885.out⟩,⟨by repeat(first|(with_reducible first|exact HB.out|apply below_alloc|apply pw_below_drewN|apply below_drew1|refine below_set ?_ GE883.out|refine below_set ?_ GE884.out|refine below_set ?_ GE885.out|refine below_set ?_ GE887.out)|exact HB.out)⟩⟩
end Go.Proofs.Ytkcpanpdipmmmaa.P
namespace Go.Proofs.Ytkcpanpdipmmmaa.P
open Go.RowKit Go.Proofs.YtkcpanpdipmmmaaW.PrintWords Go.Proofs.YtkcpanpdipmmmaaW.PrintLast Go.Proofs.YtkcpanpdipmmmaaW.PrintMore
attribute [local go_sem] max2_int min2_int max_two min_two max_three min_three max_four min_four
def maxflow_Fill.f (a0_0:Int) (a0_1:Bool) (l0_2:List (S74)) (a1:Int) (a2:Int):Option (List Int):=(if H.endsErr a0_0 l0_2 a1 a2=0 then some (H.fillF l0_2 a0_0.toNat a1.toNat a2.toNat) else none)
theorem maxflow_Fill.calls (a0_0:Int) (a0_1:Bool) (A0_2:Option Addr) (c0_2:Nat) (l0_2:List (S74)) (a1:Int) (a2:Int) (r:List Int) (w:World) (hr0_2:Kd.C k74 w A0_2 l0_2.length l0_2) (hc0_2:l0_2.length≤c0_2) (h:maxflow_Fill.f a0_0 a0_1 l0_2 a1 a2=some r):
  Calls Try.prog 121 #[.agg #[.int .i64 a0_0, .bool a0_1, .slice A0_2 l0_2.length c0_2], .int .i64 a1, .int .i64 a2] w fun e w'=> ∃ v0_:Value,e= .returned (v0_)∧Kd.R (Kd.int .i64) 3 w' w.heap.size (fun _=>True) v0_ r∧Below w.heap.size w w':=H.maxflow_Fill_calls a0_0 a0_1 A0_2 c0_2 l0_2 a1 a2 r w hr0_2 hc0_2 h
end Go.Proofs.Ytkcpanpdipmmmaa.P
