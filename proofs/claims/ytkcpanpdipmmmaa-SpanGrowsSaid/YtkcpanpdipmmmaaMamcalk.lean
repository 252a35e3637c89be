/- What the law's row needs of these texts, taken out of them by wip/tool/mini.py: P120 P121 P183 QOpen QCheckRef QMostLaw QWorthLaw QSpanMostLaw QGrowLaw QRead12B QLSpanGrows. -/
import Derived.Test.YtkcpanpdipmmmaaMellffm
import Derived.Test.YtkcpanpdipmmmaaMblgdcn
import Derived.Test.YtkcpanpdipmmmaaMfnjine
import Derived.Test.YtkcpanpdipmmmaaVplgjen
import Derived.Deep.Slices
import Derived.Deep.Fields
import Derived.ChangeSame
import Derived.ChangeArms
import Derived.OpenShut
import Derived.Test.YtkcpanpdipmmmaaMlfdgnm
import Derived.Test.YtkcpanpdipmmmaaMiildjg
import Derived.Deep.RegionHeld3
import Derived.Deep.DeepCutAuto
set_option linter.unusedVariables false
set_option linter.unusedSimpArgs false
namespace Go.Proofs.Ytkcpanpdipmmmaa.P
open Go.RowKit Go.Proofs.YtkcpanpdipmmmaaW.PrintWords Go.Proofs.YtkcpanpdipmmmaaW.PrintLast Go.Proofs.YtkcpanpdipmmmaaW.PrintMore
attribute [local go_sem] max2_int min2_int max_two min_two max_three min_three max_four min_four
def maxflow_Max.f (k:Nat) (a0_0:Int) (a0_1:Bool) (l0_2:List (S74)) (a1:Int) (a2:Int):Option (List Int × Int × Int):=(static_Ends.f k a0_0 a0_1 l0_2 a1 a2).bind fun t917=>(if t917=0 then((maxflow_Fill.f a0_0 a0_1 l0_2 a1 a2).bind fun t918=>((maxflow_Value.f k a0_0 a0_1 l0_2 a1 t918).bind fun t921=>(some (t918,t921,0)))) else(some (([]:List Int),0,t917)))
set_option maxHeartbeats 8000000 in
set_option maxRecDepth 100000 in
theorem maxflow_Max.calls (k:Nat) (a0_0:Int) (a0_1:Bool) (A0_2:Option Addr) (c0_2:Nat) (l0_2:List (S74)) (a1:Int) (a2:Int) (r1:List Int) (r2:Int) (r3:Int) (w:World) (hr0_2:Kd.C k74 w A0_2 l0_2.length l0_2) (hc0_2:l0_2.length≤c0_2) (h:maxflow_Max.f k a0_0 a0_1 l0_2 a1 a2=some (r1,r2,r3)):
  Calls Try.prog 76 #[.agg #[.int .i64 a0_0, .bool a0_1, .slice A0_2 l0_2.length c0_2], .int .i64 a1, .int .i64 a2] w fun e w'=> ∃ v0_:Value,e= .returned (.tuple #[v0_, .int .i64 r2, .int .i64 r3])∧Kd.R (Kd.int .i64) 3 w' w.heap.size (fun _=>True) v0_ r1∧Below w.heap.size w w':=by
 have hu24:=Try.underlying24
 have HR0_2:=Aside0.mk hr0_2
 have HC0_2:=Aside0.mk hc0_2
 clear hr0_2 hc0_2
 have HB:=Aside0.mk (Below.refl w.heap.size w)
 have H:((static_Ends.f k a0_0 a0_1 l0_2 a1 a2).bind fun t917=>(if t917=0 then((maxflow_Fill.f a0_0 a0_1 l0_2 a1 a2).bind fun t918=>((maxflow_Value.f k a0_0 a0_1 l0_2 a1 t918).bind fun t921=>(some (t918,t921,0)))) else(some (([]:List Int),0,t917))))=some (r1,r2,r3):=h
 clear h
 replace H:=Option.bind_eq_some_iff.mp H
 obtain⟨t917,A40,H⟩:=H
 replace H:(if t917=0 then((maxflow_Fill.f a0_0 a0_1 l0_2 a1 a2).bind fun t918=>((maxflow_Value.f k a0_0 a0_1 l0_2 a1 t918).bind fun t921=>(some (t918,t921,0)))) else(some (([]:List Int),0,t917)))=some (r1,r2,r3):=H
 have A4:=Aside0.mk A40
 clear A40
 by_cases c5:t917=0
 rotate_left
 ·rw[if_neg c5] at H
  have c5b0:(t917 == 0)=false:=beq_eq_false_iff_ne.mpr c5
  have c5b1:(t917 != 0)=true:=bne_iff_ne.mpr c5
  simp only[Option.some.injEq,Prod.mk.injEq] at H
  obtain⟨rfl,rfl,rfl⟩:=H
  go_enter Try.func76,Try.ntmps76
  go_wp2_with (first|((with_reducible refine gate_dst (N:=3) rfl ?_);refine box_event ?hg (N:=3) ?hd (cs:= #[.int .i64 a0_0, .bool a0_1, .slice A0_2 l0_2.length c0_2]) (t:=24) ?hr ?_;(case hd=>rfl);(case hg=>rfl);(case hr=>first|(go_simp;done)|(go_simp;rfl));intro gb916 hg w16 hbox hb;have n0_:=Aside0.mk (below_step (by repeat(first|(with_reducible first|exact HB.out|apply below_alloc|apply pw_below_drewN|apply below_drew1)|exact HB.out)) hb);have n1_:=Aside0.mk (hbox);have n2_:=Aside0.mk ((by rw[hg];exact(below_size (by repeat(first|(with_reducible first|exact HB.out|apply below_alloc|apply pw_below_drewN|apply below_drew1)|exact HB.out))):w.heap.size≤gb916));have n3_:=Aside0.mk ((by rw[hg];exact(below_size (by repeat(first|(with_reducible first|exact HB.out|apply below_alloc|apply pw_below_drewN|apply below_drew1)|exact HB.out))):w.heap.size≤gb916));clear HB;have HB:=n0_;have BK916:=n1_;have GW916:=n2_;have GE916:=n3_;clear n0_ n1_ n2_ n3_;clear hb hbox hg;have hcz17_0:w16.cell? ⟨gb916,0,none⟩=some (.int .i64 a0_0):=(blk_cell BK916.out 0).trans rfl;have hcz17_1:w16.cell? ⟨gb916,1,none⟩=some (.bool a0_1):=(blk_cell BK916.out 1).trans rfl;have hcz17_2:w16.cell? ⟨gb916,2,none⟩=some (.slice A0_2 l0_2.length c0_2):=(blk_cell BK916.out 2).trans rfl;have hfz17_0:=blk_frozen BK916.out 0;have hfz17_1:=blk_frozen BK916.out 1;have hfz17_2:=blk_frozen BK916.out 2)|((with_reducible refine gate_callee (f:=111) rfl ?_);refine goesL_ (some 12) rfl rfl Try.func111 (by kernel_rfl) rfl #[.agg #[.int .i64 a0_0, .bool a0_1, .slice A0_2 l0_2.length c0_2], .int .i64 a1, .int .i64 a2] rfl (by(try simp only[List.map_toArray,List.map_cons,List.map_nil]);first|done|rfl|(simp only[List.length_drop,List.length_take];rfl)) ?_;(with_reducible refine(static_Ends.calls k a0_0 a0_1 _ _ l0_2 a1 a2 t917 _ ?side1 ?side2 A4.out).mono ?_);(case side1=>repeat(first|exact(Kd.C_below HR0_2.out HB.out)|(with_reducible refine Kd.C_alloc ?_ _)|(with_reducible refine Kd.C_drewN ?_ _)|(with_reducible refine Kd.C_drew ?_)));(case side2=>exact HC0_2.out);rintro e w18 ⟨rfl,hb⟩;refine⟨_,rfl,?_⟩;have n0_:=Aside0.mk (blk_below (g:=gb916) (o:= .cells #[.int .i64 a0_0, .bool a0_1, .slice A0_2 l0_2.length c0_2] 24 (0,0)) (by(with_reducible repeat(first|refine blk_drewN ?_ _|refine blk_drew ?_|refine blk_alloc ?_ _));exact BK916.out) hb);have n1_:=Aside0.mk (below_step (by repeat(first|(with_reducible first|exact HB.out|apply below_alloc|apply pw_below_drewN|apply below_drew1|refine below_set ?_ GE916.out)|exact HB.out)) hb);clear BK916;clear HB;have BK916:=n0_;have HB:=n1_;clear n0_ n1_;(try clear hb);(try clear hb2);(try clear hk);(try clear hi)))
  go_ret3
  exact⟨_,by first|rfl|(simp[errW_none,errW_some]<;>rfl)|(simp[*,errW_none,errW_some]<;>rfl),by first|exact Kd.R_nil _ _ _ _ _|exact Kd.N_nil _ _ _ _ _|exact Kd.V_nil _ _ _ _ _|exact Kd.Q_nil _ _ _ _ _|exact Kd.S_nil _ _ _ _ _,by repeat(first|(with_reducible first|exact HB.out|apply below_alloc|apply pw_below_drewN|apply below_drew1|refine below_set ?_ GE916.out)|exact HB.out)⟩
 rw[if_pos c5] at H
 have c5b0:(t917 == 0)=true:=beq_iff_eq.mpr c5
 have c5b1:(t917 != 0)=false:=bne_eq_false_iff_eq.mpr c5
 clear c5
 replace H:=Option.bind_eq_some_iff.mp H
 obtain⟨t918,A60,H⟩:=H
 replace H:((maxflow_Value.f k a0_0 a0_1 l0_2 a1 t918).bind fun t921=>(some (t918,t921,0)))=some (r1,r2,r3):=H
 have A6:=Aside0.mk A60
 clear A60
 replace H:=Option.bind_eq_some_iff.mp H
 obtain⟨t921,A70,H⟩:=H
 replace H:(some (t918,t921,0))=some (r1,r2,r3):=H
 have A7:=Aside0.mk A70
 clear A70
 simp only[Option.some.injEq,Prod.mk.injEq] at H
 obtain⟨rfl,rfl,rfl⟩:=H
 go_enter Try.func76,Try.ntmps76
 go_wp2_with (first|((with_reducible refine gate_dst (N:=3) rfl ?_);refine box_event ?hg (N:=3) ?hd (cs:= #[.int .i64 a0_0, .bool a0_1, .slice A0_2 l0_2.length c0_2]) (t:=24) ?hr ?_;(case hd=>rfl);(case hg=>rfl);(case hr=>first|(go_simp;done)|(go_simp;rfl));intro gb916 hg w8 hbox hb;have n0_:=Aside0.mk (below_step (by repeat(first|(with_reducible first|exact HB.out|apply below_alloc|apply pw_below_drewN|apply below_drew1)|exact HB.out)) hb);have n1_:=Aside0.mk (hbox);have n2_:=Aside0.mk ((by rw[hg];exact(below_size (by repeat(first|(with_reducible first|exact HB.out|apply below_alloc|apply pw_below_drewN|apply below_drew1)|exact HB.out))):w.heap.size≤gb916));have n3_:=Aside0.mk ((by rw[hg];exact(below_size (by repeat(first|(with_reducible first|exact HB.out|apply below_alloc|apply pw_below_drewN|apply below_drew1)|exact HB.out))):w.heap.size≤gb916));clear HB;have HB:=n0_;have BK916:=n1_;have GW916:=n2_;have GE916:=n3_;clear n0_ n1_ n2_ n3_;clear hb hbox hg;have hcz9_0:w8.cell? ⟨gb916,0,none⟩=some (.int .i64 a0_0):=(blk_cell BK916.out 0).trans rfl;have hcz9_1:w8.cell? ⟨gb916,1,none⟩=some (.bool a0_1):=(blk_cell BK916.out 1).trans rfl;have hcz9_2:w8.cell? ⟨gb916,2,none⟩=some (.slice A0_2 l0_2.length c0_2):=(blk_cell BK916.out 2).trans rfl;have hfz9_0:=blk_frozen BK916.out 0;have hfz9_1:=blk_frozen BK916.out 1;have hfz9_2:=blk_frozen BK916.out 2)|((with_reducible refine gate_callee (f:=111) rfl ?_);refine goesL_ (some 12) rfl rfl Try.func111 (by kernel_rfl) rfl #[.agg #[.int .i64 a0_0, .bool a0_1, .slice A0_2 l0_2.length c0_2], .int .i64 a1, .int .i64 a2] rfl (by(try simp only[List.map_toArray,List.map_cons,List.map_nil]);first|done|rfl|(simp only[List.length_drop,List.length_take];rfl)) ?_;(with_reducible refine(static_Ends.calls k a0_0 a0_1 _ _ l0_2 a1 a2 t917 _ ?side1 ?side2 A4.out).mono ?_);(case side1=>repeat(first|exact(Kd.C_below HR0_2.out HB.out)|(with_reducible refine Kd.C_alloc ?_ _)|(with_reducible refine Kd.C_drewN ?_ _)|(with_reducible refine Kd.C_drew ?_)));(case side2=>exact HC0_2.out);rintro e w10 ⟨rfl,hb⟩;refine⟨_,rfl,?_⟩;have n0_:=Aside0.mk (blk_below (g:=gb916) (o:= .cells #[.int .i64 a0_0, .bool a0_1, .slice A0_2 l0_2.length c0_2] 24 (0,0)) (by(with_reducible repeat(first|refine blk_drewN ?_ _|refine blk_drew ?_|refine blk_alloc ?_ _));exact BK916.out) hb);have n1_:=Aside0.mk (below_step (by repeat(first|(with_reducible first|exact HB.out|apply below_alloc|apply pw_below_drewN|apply below_drew1|refine below_set ?_ GE916.out)|exact HB.out)) hb);clear BK916;clear HB;have BK916:=n0_;have HB:=n1_;clear n0_ n1_;(try clear hb);(try clear hb2);(try clear hk);(try clear hi);have hcz11_0:w10.cell? ⟨gb916,0,none⟩=some (.int .i64 a0_0):=(blk_cell BK916.out 0).trans rfl;have hcz11_1:w10.cell? ⟨gb916,1,none⟩=some (.bool a0_1):=(blk_cell BK916.out 1).trans rfl;have hcz11_2:w10.cell? ⟨gb916,2,none⟩=some (.slice A0_2 l0_2.length c0_2):=(blk_cell BK916.out 2).trans rfl;have hfz11_0:=blk_frozen BK916.out 0;have hfz11_1:=blk_frozen BK916.out 1;have hfz11_2:=blk_frozen BK916.out 2)|((with_reducible refine gate_callee (f:=121) rfl ?_);refine goesL_ (some 19) rfl rfl Try.func121 (by kernel_rfl) rfl #[.agg #[.int .i64 a0_0, .bool a0_1, .slice A0_2 l0_2.length c0_2], .int .i64 a1, .int .i64 a2] rfl (by(try simp only[List.map_toArray,List.map_cons,List.map_nil]);first|done|rfl|(simp only[List.length_drop,List.length_take];rfl)) ?_;(with_reducible refine(maxflow_Fill.calls a0_0 a0_1 _ _ l0_2 a1 a2 t918 _ ?side1 ?side2 A6.out).mono ?_);(case side1=>repeat(first|exact(Kd.C_below HR0_2.out HB.out)|(with_reducible refine Kd.C_alloc ?_ _)|(with_reducible refine Kd.C_drewN ?_ _)|(with_reducible refine Kd.C_drew ?_)));(case side2=>exact HC0_2.out);rintro e w12 ⟨v919,rfl,ho0,hb⟩;refine⟨_,rfl,?_⟩;have n0_:=Aside0.mk (Kd.R_lower ho0 (below_size (by repeat(first|(with_reducible first|exact HB.out|apply below_alloc|apply pw_below_drewN|apply below_drew1|refine below_set ?_ GE916.out)|exact HB.out))));have n1_:=Aside0.mk (blk_below (g:=gb916) (o:= .cells #[.int .i64 a0_0, .bool a0_1, .slice A0_2 l0_2.length c0_2] 24 (0,0)) (by(with_reducible repeat(first|refine blk_drewN ?_ _|refine blk_drew ?_|refine blk_alloc ?_ _));exact BK916.out) hb);have n2_:=Aside0.mk (below_step (by repeat(first|(with_reducible first|exact HB.out|apply below_alloc|apply pw_below_drewN|apply below_drew1|refine below_set ?_ GE916.out)|exact HB.out)) hb);clear BK916;clear HB;have HO920:=n0_;have BK916:=n1_;have HB:=n2_;clear n0_ n1_ n2_;(try clear hb);(try clear hb2);(try clear hk);(try clear hi);(try clear ho0);have hcz13_0:w12.cell? ⟨gb916,0,none⟩=some (.int .i64 a0_0):=(blk_cell BK916.out 0).trans rfl;have hcz13_1:w12.cell? ⟨gb916,1,none⟩=some (.bool a0_1):=(blk_cell BK916.out 1).trans rfl;have hcz13_2:w12.cell? ⟨gb916,2,none⟩=some (.slice A0_2 l0_2.length c0_2):=(blk_cell BK916.out 2).trans rfl;have hfz13_0:=blk_frozen BK916.out 0;have hfz13_1:=blk_frozen BK916.out 1;have hfz13_2:=blk_frozen BK916.out 2;obtain⟨Ao14,co14,eo14⟩:=Kd.R_slice HO920.out;subst eo14)|((with_reducible refine gate_callee (f:=119) rfl ?_);refine goesL_ (some 24) rfl rfl Try.func119 (by kernel_rfl) rfl #[.agg #[.int .i64 a0_0, .bool a0_1, .slice A0_2 l0_2.length c0_2], .int .i64 a1, .slice Ao14 t918.length co14] rfl (by(try simp only[List.map_toArray,List.map_cons,List.map_nil]);first|done|rfl|(simp only[List.length_drop,List.length_take];rfl)) ?_;(with_reducible refine(maxflow_Value.calls k a0_0 a0_1 _ _ l0_2 a1 _ _ t918 t921 _ ?side1 ?side2 ?side3 ?side4 A7.out).mono ?_);(case side1=>repeat(first|exact(Kd.C_below HR0_2.out HB.out)|(with_reducible refine Kd.C_alloc ?_ _)|(with_reducible refine Kd.C_drewN ?_ _)|(with_reducible refine Kd.C_drew ?_)));(case side2=>exact HC0_2.out);(case side3=>repeat(first|exact(Kd.R_reads' HO920.out).2.2|(with_reducible refine Kd.C_alloc ?_ _)|(with_reducible refine Kd.C_drewN ?_ _)|(with_reducible refine Kd.C_drew ?_)));(case side4=>exact(Kd.R_reads' HO920.out).2.1);rintro e w15 ⟨rfl,hb⟩;refine⟨_,rfl,?_⟩;have n0_:=Aside0.mk (Kd.R_below (by(with_reducible repeat(first|apply Kd.R_alloc|apply Kd.R_drewN|apply Kd.R_drew));exact HO920.out) hb);have n1_:=Aside0.mk (blk_below (g:=gb916) (o:= .cells #[.int .i64 a0_0, .bool a0_1, .slice A0_2 l0_2.length c0_2] 24 (0,0)) (by(with_reducible repeat(first|refine blk_drewN ?_ _|refine blk_drew ?_|refine blk_alloc ?_ _));exact BK916.out) hb);have n2_:=Aside0.mk (below_step (by repeat(first|(with_reducible first|exact HB.out|apply below_alloc|apply pw_below_drewN|apply below_drew1|refine below_set ?_ GE916.out)|exact HB.out)) hb);clear HO920;clear BK916;clear HB;have HO920:=n0_;have BK916:=n1_;have HB:=n2_;clear n0_ n1_ n2_;(try clear hb);(try clear hb2);(try clear hk);(try clear hi)))
 go_ret3
 exact⟨_,by first|rfl|(simp[errW_none,errW_some]<;>rfl)|(simp[*,errW_none,errW_some]<;>rfl),by(with_reducible repeat(first|apply Kd.R_alloc|apply Kd.R_drewN|apply Kd.R_drew));exact HO920.out,by repeat(first|(with_reducible first|exact HB.out|apply below_alloc|apply pw_below_drewN|apply below_drew1|refine below_set ?_ GE916.out)|exact HB.out)⟩
end Go.Proofs.Ytkcpanpdipmmmaa.P
namespace Go.Proofs.Ytkcpanpdipmmmaa.P
open Go.RowKit Go.Proofs.YtkcpanpdipmmmaaW.PrintWords Go.Proofs.YtkcpanpdipmmmaaW.PrintLast Go.Proofs.YtkcpanpdipmmmaaW.PrintMore
attribute [local go_sem] max2_int min2_int max_two min_two max_three min_three max_four min_four
def maxflow_Most.f (k:Nat) (a0_0:Int) (a0_1:Bool) (l0_2:List (S74)) (a1:Int) (a2:Int):Option (Int × Int):=(maxflow_Max.f k a0_0 a0_1 l0_2 a1 a2).bind fun bt923=>(some (bt923.2.1,bt923.2.2))
set_option maxHeartbeats 8000000 in
set_option maxRecDepth 100000 in
theorem maxflow_Most.calls (k:Nat) (a0_0:Int) (a0_1:Bool) (A0_2:Option Addr) (c0_2:Nat) (l0_2:List (S74)) (a1:Int) (a2:Int) (r1:Int) (r2:Int) (w:World) (hr0_2:Kd.C k74 w A0_2 l0_2.length l0_2) (hc0_2:l0_2.length≤c0_2) (h:maxflow_Most.f k a0_0 a0_1 l0_2 a1 a2=some (r1,r2)):
  Calls Try.prog 73 #[.agg #[.int .i64 a0_0, .bool a0_1, .slice A0_2 l0_2.length c0_2], .int .i64 a1, .int .i64 a2] w fun e w'=>e= .returned (.tuple #[.int .i64 r1, .int .i64 r2])∧Below w.heap.size w w':=by
 have hu24:=Try.underlying24
 have HR0_2:=Aside0.mk hr0_2
 have HC0_2:=Aside0.mk hc0_2
 clear hr0_2 hc0_2
 have HB:=Aside0.mk (Below.refl w.heap.size w)
 have H:((maxflow_Max.f k a0_0 a0_1 l0_2 a1 a2).bind fun bt923=>(some (bt923.2.1,bt923.2.2)))=some (r1,r2):=h
 clear h
 replace H:=Option.bind_eq_some_iff.mp H
 obtain⟨⟨t923,t926,t927⟩,A40,H⟩:=H
 replace H:(some (t926,t927))=some (r1,r2):=H
 have A4:=Aside0.mk A40
 clear A40
 simp only[Option.some.injEq,Prod.mk.injEq] at H
 obtain⟨rfl,rfl⟩:=H
 go_enter Try.func73,Try.ntmps73
 go_wp2_with (first|((with_reducible refine gate_dst (N:=3) rfl ?_);refine box_event ?hg (N:=3) ?hd (cs:= #[.int .i64 a0_0, .bool a0_1, .slice A0_2 l0_2.length c0_2]) (t:=24) ?hr ?_;(case hd=>rfl);(case hg=>rfl);(case hr=>first|(go_simp;done)|(go_simp;rfl));intro gb922 hg w5 hbox hb;have n0_:=Aside0.mk (below_step (by repeat(first|(with_reducible first|exact HB.out|apply below_alloc|apply pw_below_drewN|apply below_drew1)|exact HB.out)) hb);have n1_:=Aside0.mk (hbox);have n2_:=Aside0.mk ((by rw[hg];exact(below_size (by repeat(first|(with_reducible first|exact HB.out|apply below_alloc|apply pw_below_drewN|apply below_drew1)|exact HB.out))):w.heap.size≤gb922));have n3_:=Aside0.mk ((by rw[hg];exact(below_size (by repeat(first|(with_reducible first|exact HB.out|apply below_alloc|apply pw_below_drewN|apply below_drew1)|exact HB.out))):w.heap.size≤gb922));clear HB;have HB:=n0_;have BK922:=n1_;have GW922:=n2_;have GE922:=n3_;clear n0_ n1_ n2_ n3_;clear hb hbox hg;have hcz6_0:w5.cell? ⟨gb922,0,none⟩=some (.int .i64 a0_0):=(blk_cell BK922.out 0).trans rfl;have hcz6_1:w5.cell? ⟨gb922,1,none⟩=some (.bool a0_1):=(blk_cell BK922.out 1).trans rfl;have hcz6_2:w5.cell? ⟨gb922,2,none⟩=some (.slice A0_2 l0_2.length c0_2):=(blk_cell BK922.out 2).trans rfl;have hfz6_0:=blk_frozen BK922.out 0;have hfz6_1:=blk_frozen BK922.out 1;have hfz6_2:=blk_frozen BK922.out 2)|((with_reducible refine gate_callee (f:=76) rfl ?_);refine goesL_ (some 12) rfl rfl Try.func76 (by kernel_rfl) rfl #[.agg #[.int .i64 a0_0, .bool a0_1, .slice A0_2 l0_2.length c0_2], .int .i64 a1, .int .i64 a2] rfl (by(try simp only[List.map_toArray,List.map_cons,List.map_nil]);first|done|rfl|(simp only[List.length_drop,List.length_take];rfl)) ?_;(with_reducible refine(maxflow_Max.calls k a0_0 a0_1 _ _ l0_2 a1 a2 t923 t926 t927 _ ?side1 ?side2 A4.out).mono ?_);(case side1=>repeat(first|exact(Kd.C_below HR0_2.out HB.out)|(with_reducible refine Kd.C_alloc ?_ _)|(with_reducible refine Kd.C_drewN ?_ _)|(with_reducible refine Kd.C_drew ?_)));(case side2=>exact HC0_2.out);rintro e w7 ⟨v924,rfl,ho0,hb⟩;refine⟨_,rfl,?_⟩;have n0_:=Aside0.mk (Kd.R_lower ho0 (below_size (by repeat(first|(with_reducible first|exact HB.out|apply below_alloc|apply pw_below_drewN|apply below_drew1|refine below_set ?_ GE922.out)|exact HB.out))));have n1_:=Aside0.mk (blk_below (g:=gb922) (o:= .cells #[.int .i64 a0_0, .bool a0_1, .slice A0_2 l0_2.length c0_2] 24 (0,0)) (by(with_reducible repeat(first|refine blk_drewN ?_ _|refine blk_drew ?_|refine blk_alloc ?_ _));exact BK922.out) hb);have n2_:=Aside0.mk (below_step (by repeat(first|(with_reducible first|exact HB.out|apply below_alloc|apply pw_below_drewN|apply below_drew1|refine below_set ?_ GE922.out)|exact HB.out)) hb);clear BK922;clear HB;have HO925:=n0_;have BK922:=n1_;have HB:=n2_;clear n0_ n1_ n2_;(try clear hb);(try clear hb2);(try clear hk);(try clear hi);(try clear ho0)))
 go_ret2
 exact⟨by first|rfl|(simp[errW_none,errW_some]<;>rfl)|(simp[*,errW_none,errW_some]<;>rfl),by repeat(first|(with_reducible first|exact HB.out|apply below_alloc|apply pw_below_drewN|apply below_drew1|refine below_set ?_ GE922.out)|exact HB.out)⟩
end Go.Proofs.Ytkcpanpdipmmmaa.P
namespace Go.Proofs.Ytkcpanpdipmmmaa.P
open Go.RowKit Go.Proofs.YtkcpanpdipmmmaaW.PrintWords Go.Proofs.YtkcpanpdipmmmaaW.PrintLast Go.Proofs.YtkcpanpdipmmmaaW.PrintMore
attribute [local go_sem] max2_int min2_int max_two min_two max_three min_three max_four min_four
def ebbtidelaw12_SpanGrows.f (k:Nat) (a0_0:Int) (a0_1:Bool) (l0_2:List (S135)) (a0_3:Int) (a0_4:Int) (a0_5:Int):Option (Bool):=(ebbtidelaw12_awake.f k).bind fun t1392=>(if t1392=true then((ebbtidelaw12_Read.f k a0_0 a0_1 l0_2 a0_3 a0_4 a0_5 10).bind fun bt1393=>((span_Most.f k bt1393.1 bt1393.2.1 bt1393.2.2.1 bt1393.2.2.2.1 bt1393.2.2.2.2.1 bt1393.2.2.2.2.2).bind fun bt1402=>((span_Most.f k bt1393.1 bt1393.2.1 bt1393.2.2.1 bt1393.2.2.2.1 bt1393.2.2.2.2.1 (wrap64 (bt1393.2.2.2.2.2+1))).bind fun bt1404=>((span_Most.f k bt1393.1 bt1393.2.1 bt1393.2.2.1 bt1393.2.2.2.1 bt1393.2.2.2.2.1 (wrap64 (bt1393.2.2.2.2.2+2))).bind fun bt1406=>((maxflow_Most.f k bt1393.1 bt1393.2.1 bt1393.2.2.1 bt1393.2.2.2.1 bt1393.2.2.2.2.1).bind fun bt1408=>(if bt1402.2=0 then(if bt1404.2=0 then(if bt1406.2=0 then(if bt1408.2=0 then(if bt1402.1≤bt1404.1 then(if (wrap64 (bt1404.1 - bt1402.1))≤(wrap64 (bt1406.1 - bt1404.1)) then(some (decide ((wrap64 (bt1406.1 - bt1404.1))≤bt1408.1))) else(some false)) else(some false)) else(some false)) else(some false)) else(some false)) else(some false))))))) else(some false))
set_option maxHeartbeats 8000000 in
set_option maxRecDepth 100000 in
theorem ebbtidelaw12_SpanGrows.calls (k:Nat) (a0_0:Int) (a0_1:Bool) (A0_2:Option Addr) (c0_2:Nat) (l0_2:List (S135)) (a0_3:Int) (a0_4:Int) (a0_5:Int) (r:Bool) (w:World) (hr0_2:Kd.C k135 w A0_2 l0_2.length l0_2) (hc0_2:l0_2.length≤c0_2) (h:ebbtidelaw12_SpanGrows.f k a0_0 a0_1 l0_2 a0_3 a0_4 a0_5=some r) (hrT_:r=true:=by first|rfl|exact Aside0.out (by assumption)):
  Calls Try.prog 36 #[.agg #[.int .u8 a0_0, .bool a0_1, .slice A0_2 l0_2.length c0_2, .int .u8 a0_3, .int .u8 a0_4, .int .u8 a0_5]] w fun e w'=>e= .returned (.bool r)∧Below w.heap.size w w':=by
 have HRT:=Aside0.mk hrT_
 clear hrT_
 have hu70:=Try.underlying70
 have hu24:=Try.underlying24
 have HR0_2:=Aside0.mk hr0_2
 have HC0_2:=Aside0.mk hc0_2
 clear hr0_2 hc0_2
 have HB:=Aside0.mk (Below.refl w.heap.size w)
 have H:((ebbtidelaw12_awake.f k).bind fun t1392=>(if t1392=true then((ebbtidelaw12_Read.f k a0_0 a0_1 l0_2 a0_3 a0_4 a0_5 10).bind fun bt1393=>((span_Most.f k bt1393.1 bt1393.2.1 bt1393.2.2.1 bt1393.2.2.2.1 bt1393.2.2.2.2.1 bt1393.2.2.2.2.2).bind fun bt1402=>((span_Most.f k bt1393.1 bt1393.2.1 bt1393.2.2.1 bt1393.2.2.2.1 bt1393.2.2.2.2.1 (wrap64 (bt1393.2.2.2.2.2+1))).bind fun bt1404=>((span_Most.f k bt1393.1 bt1393.2.1 bt1393.2.2.1 bt1393.2.2.2.1 bt1393.2.2.2.2.1 (wrap64 (bt1393.2.2.2.2.2+2))).bind fun bt1406=>((maxflow_Most.f k bt1393.1 bt1393.2.1 bt1393.2.2.1 bt1393.2.2.2.1 bt1393.2.2.2.2.1).bind fun bt1408=>(if bt1402.2=0 then(if bt1404.2=0 then(if bt1406.2=0 then(if bt1408.2=0 then(if bt1402.1≤bt1404.1 then(if (wrap64 (bt1404.1 - bt1402.1))≤(wrap64 (bt1406.1 - bt1404.1)) then(some (decide ((wrap64 (bt1406.1 - bt1404.1))≤bt1408.1))) else(some false)) else(some false)) else(some false)) else(some false)) else(some false)) else(some false))))))) else(some false)))=some r:=h
 clear h
 replace H:=Option.bind_eq_some_iff.mp H
 obtain⟨t1392,A20,H⟩:=H
 replace H:(if t1392=true then((ebbtidelaw12_Read.f k a0_0 a0_1 l0_2 a0_3 a0_4 a0_5 10).bind fun bt1393=>((span_Most.f k bt1393.1 bt1393.2.1 bt1393.2.2.1 bt1393.2.2.2.1 bt1393.2.2.2.2.1 bt1393.2.2.2.2.2).bind fun bt1402=>((span_Most.f k bt1393.1 bt1393.2.1 bt1393.2.2.1 bt1393.2.2.2.1 bt1393.2.2.2.2.1 (wrap64 (bt1393.2.2.2.2.2+1))).bind fun bt1404=>((span_Most.f k bt1393.1 bt1393.2.1 bt1393.2.2.1 bt1393.2.2.2.1 bt1393.2.2.2.2.1 (wrap64 (bt1393.2.2.2.2.2+2))).bind fun bt1406=>((maxflow_Most.f k bt1393.1 bt1393.2.1 bt1393.2.2.1 bt1393.2.2.2.1 bt1393.2.2.2.2.1).bind fun bt1408=>(if bt1402.2=0 then(if bt1404.2=0 then(if bt1406.2=0 then(if bt1408.2=0 then(if bt1402.1≤bt1404.1 then(if (wrap64 (bt1404.1 - bt1402.1))≤(wrap64 (bt1406.1 - bt1404.1)) then(some (decide ((wrap64 (bt1406.1 - bt1404.1))≤bt1408.1))) else(some false)) else(some false)) else(some false)) else(some false)) else(some false)) else(some false))))))) else(some false))=some r:=H
 have A2:=Aside0.mk A20
 clear A20
 by_cases c3:t1392=true
 rotate_left
 ·replace c3:=Bool.eq_false_iff.mpr c3
  subst c3
  have H1:(some false)=some r:=by rw[if_neg (show ¬ (false=true) by decide)] at H;exact H
  exact absurd (Option.some.inj H1) (by rw[HRT.out];decide)
 subst c3
 have H1:((ebbtidelaw12_Read.f k a0_0 a0_1 l0_2 a0_3 a0_4 a0_5 10).bind fun bt1393=>((span_Most.f k bt1393.1 bt1393.2.1 bt1393.2.2.1 bt1393.2.2.2.1 bt1393.2.2.2.2.1 bt1393.2.2.2.2.2).bind fun bt1402=>((span_Most.f k bt1393.1 bt1393.2.1 bt1393.2.2.1 bt1393.2.2.2.1 bt1393.2.2.2.2.1 (wrap64 (bt1393.2.2.2.2.2+1))).bind fun bt1404=>((span_Most.f k bt1393.1 bt1393.2.1 bt1393.2.2.1 bt1393.2.2.2.1 bt1393.2.2.2.2.1 (wrap64 (bt1393.2.2.2.2.2+2))).bind fun bt1406=>((maxflow_Most.f k bt1393.1 bt1393.2.1 bt1393.2.2.1 bt1393.2.2.2.1 bt1393.2.2.2.2.1).bind fun bt1408=>(if bt1402.2=0 then(if bt1404.2=0 then(if bt1406.2=0 then(if bt1408.2=0 then(if bt1402.1≤bt1404.1 then(if (wrap64 (bt1404.1 - bt1402.1))≤(wrap64 (bt1406.1 - bt1404.1)) then(some (decide ((wrap64 (bt1406.1 - bt1404.1))≤bt1408.1))) else(some false)) else(some false)) else(some false)) else(some false)) else(some false)) else(some false)))))))=some r:=by first|(rw[if_pos rfl] at H;exact H)|(rw[if_pos trivial] at H;exact H)
 clear H
 have H:=H1
 clear H1
 replace H:=Option.bind_eq_some_iff.mp H
 obtain⟨⟨t1393,t1394,t1395,t1398,t1399,t1400⟩,A40,H⟩:=H
 replace H:((span_Most.f k t1393 t1394 t1395 t1398 t1399 t1400).bind fun bt1402=>((span_Most.f k t1393 t1394 t1395 t1398 t1399 (wrap64 (t1400+1))).bind fun bt1404=>((span_Most.f k t1393 t1394 t1395 t1398 t1399 (wrap64 (t1400+2))).bind fun bt1406=>((maxflow_Most.f k t1393 t1394 t1395 t1398 t1399).bind fun bt1408=>(if bt1402.2=0 then(if bt1404.2=0 then(if bt1406.2=0 then(if bt1408.2=0 then(if bt1402.1≤bt1404.1 then(if (wrap64 (bt1404.1 - bt1402.1))≤(wrap64 (bt1406.1 - bt1404.1)) then(some (decide ((wrap64 (bt1406.1 - bt1404.1))≤bt1408.1))) else(some false)) else(some false)) else(some false)) else(some false)) else(some false)) else(some false))))))=some r:=H
 have A4:=Aside0.mk A40
 clear A40
 replace H:=Option.bind_eq_some_iff.mp H
 obtain⟨⟨t1402,t1403⟩,A50,H⟩:=H
 replace H:((span_Most.f k t1393 t1394 t1395 t1398 t1399 (wrap64 (t1400+1))).bind fun bt1404=>((span_Most.f k t1393 t1394 t1395 t1398 t1399 (wrap64 (t1400+2))).bind fun bt1406=>((maxflow_Most.f k t1393 t1394 t1395 t1398 t1399).bind fun bt1408=>(if t1403=0 then(if bt1404.2=0 then(if bt1406.2=0 then(if bt1408.2=0 then(if t1402≤bt1404.1 then(if (wrap64 (bt1404.1 - t1402))≤(wrap64 (bt1406.1 - bt1404.1)) then(some (decide ((wrap64 (bt1406.1 - bt1404.1))≤bt1408.1))) else(some false)) else(some false)) else(some false)) else(some false)) else(some false)) else(some false)))))=some r:=H
 have A5:=Aside0.mk A50
 clear A50
 replace H:=Option.bind_eq_some_iff.mp H
 obtain⟨⟨t1404,t1405⟩,A60,H⟩:=H
 replace H:((span_Most.f k t1393 t1394 t1395 t1398 t1399 (wrap64 (t1400+2))).bind fun bt1406=>((maxflow_Most.f k t1393 t1394 t1395 t1398 t1399).bind fun bt1408=>(if t1403=0 then(if t1405=0 then(if bt1406.2=0 then(if bt1408.2=0 then(if t1402≤t1404 then(if (wrap64 (t1404 - t1402))≤(wrap64 (bt1406.1 - t1404)) then(some (decide ((wrap64 (bt1406.1 - t1404))≤bt1408.1))) else(some false)) else(some false)) else(some false)) else(some false)) else(some false)) else(some false))))=some r:=H
 have A6:=Aside0.mk A60
 clear A60
 replace H:=Option.bind_eq_some_iff.mp H
 obtain⟨⟨t1406,t1407⟩,A70,H⟩:=H
 replace H:((maxflow_Most.f k t1393 t1394 t1395 t1398 t1399).bind fun bt1408=>(if t1403=0 then(if t1405=0 then(if t1407=0 then(if bt1408.2=0 then(if t1402≤t1404 then(if (wrap64 (t1404 - t1402))≤(wrap64 (t1406 - t1404)) then(some (decide ((wrap64 (t1406 - t1404))≤bt1408.1))) else(some false)) else(some false)) else(some false)) else(some false)) else(some false)) else(some false)))=some r:=H
 have A7:=Aside0.mk A70
 clear A70
 replace H:=Option.bind_eq_some_iff.mp H
 obtain⟨⟨t1408,t1409⟩,A80,H⟩:=H
 replace H:(if t1403=0 then(if t1405=0 then(if t1407=0 then(if t1409=0 then(if t1402≤t1404 then(if (wrap64 (t1404 - t1402))≤(wrap64 (t1406 - t1404)) then(some (decide ((wrap64 (t1406 - t1404))≤t1408))) else(some false)) else(some false)) else(some false)) else(some false)) else(some false)) else(some false))=some r:=H
 have A8:=Aside0.mk A80
 clear A80
 by_cases c9:t1403=0
 rotate_left
 ·rw[if_neg c9] at H
  exact absurd (Option.some.inj H) (by rw[HRT.out];decide)
 rw[if_pos c9] at H
 have c9b0:(t1403 == 0)=true:=beq_iff_eq.mpr c9
 have c9b1:(t1403 != 0)=false:=bne_eq_false_iff_eq.mpr c9
 clear c9
 by_cases c10:t1405=0
 rotate_left
 ·rw[if_neg c10] at H
  exact absurd (Option.some.inj H) (by rw[HRT.out];decide)
 rw[if_pos c10] at H
 have c10b0:(t1405 == 0)=true:=beq_iff_eq.mpr c10
 have c10b1:(t1405 != 0)=false:=bne_eq_false_iff_eq.mpr c10
 clear c10
 by_cases c11:t1407=0
 rotate_left
 ·rw[if_neg c11] at H
  exact absurd (Option.some.inj H) (by rw[HRT.out];decide)
 rw[if_pos c11] at H
 have c11b0:(t1407 == 0)=true:=beq_iff_eq.mpr c11
 have c11b1:(t1407 != 0)=false:=bne_eq_false_iff_eq.mpr c11
 clear c11
 by_cases c12:t1409=0
 rotate_left
 ·rw[if_neg c12] at H
  exact absurd (Option.some.inj H) (by rw[HRT.out];decide)
 rw[if_pos c12] at H
 have c12b0:(t1409 == 0)=true:=beq_iff_eq.mpr c12
 have c12b1:(t1409 != 0)=false:=bne_eq_false_iff_eq.mpr c12
 clear c12
 by_cases c13:t1402≤t1404
 rotate_left
 ·rw[if_neg c13] at H
  exact absurd (Option.some.inj H) (by rw[HRT.out];decide)
 rw[if_pos c13] at H
 have c13b0:decide (t1402≤t1404)=true:=decide_eq_true c13
 clear c13
 by_cases c14:(wrap64 (t1404 - t1402))≤(wrap64 (t1406 - t1404))
 rotate_left
 ·rw[if_neg c14] at H
  exact absurd (Option.some.inj H) (by rw[HRT.out];decide)
 rw[if_pos c14] at H
 have c14b0:decide ((wrap64 (t1404 - t1402))≤(wrap64 (t1406 - t1404)))=true:=decide_eq_true c14
 clear c14
 obtain rfl:=Option.some.inj H
 go_enter Try.func36,Try.ntmps36
 go_wp2_with (first|((with_reducible refine gate_dst (N:=1) rfl ?_);refine box_event ?hg (N:=1) ?hd (cs:= #[.int .u8 a0_0, .bool a0_1, .slice A0_2 l0_2.length c0_2, .int .u8 a0_3, .int .u8 a0_4, .int .u8 a0_5]) (t:=70) ?hr ?_;(case hd=>rfl);(case hg=>rfl);(case hr=>first|(go_simp;done)|(go_simp;rfl));intro gb1391 hg w15 hbox hb;have n0_:=Aside0.mk (below_step (by repeat(first|(with_reducible first|exact HB.out|apply below_alloc|apply pw_below_drewN|apply below_drew1)|exact HB.out)) hb);have n1_:=Aside0.mk (hbox);have n2_:=Aside0.mk ((by rw[hg];exact(below_size (by repeat(first|(with_reducible first|exact HB.out|apply below_alloc|apply pw_below_drewN|apply below_drew1)|exact HB.out))):w.heap.size≤gb1391));have n3_:=Aside0.mk ((by rw[hg];exact(below_size (by repeat(first|(with_reducible first|exact HB.out|apply below_alloc|apply pw_below_drewN|apply below_drew1)|exact HB.out))):w.heap.size≤gb1391));clear HB;have HB:=n0_;have BK1391:=n1_;have GW1391:=n2_;have GE1391:=n3_;clear n0_ n1_ n2_ n3_;clear hb hbox hg)|((with_reducible refine gate_callee (f:=65) rfl ?_);refine goesL_ (some 16) rfl rfl Try.func65 (by kernel_rfl) rfl #[] rfl (by(try simp only[List.map_toArray,List.map_cons,List.map_nil]);first|done|rfl|(simp only[List.length_drop,List.length_take];rfl)) ?_;(with_reducible refine(ebbtidelaw12_awake.calls k  true _ A2.out).mono ?_);rintro e w16 ⟨rfl,hb⟩;refine⟨_,rfl,?_⟩;have n0_:=Aside0.mk (blk_below (g:=gb1391) (o:= .cells #[.int .u8 a0_0, .bool a0_1, .slice A0_2 l0_2.length c0_2, .int .u8 a0_3, .int .u8 a0_4, .int .u8 a0_5] 70 (0,0)) (by(with_reducible repeat(first|refine blk_drewN ?_ _|refine blk_drew ?_|refine blk_alloc ?_ _));exact BK1391.out) hb);have n1_:=Aside0.mk (below_step (by repeat(first|(with_reducible first|exact HB.out|apply below_alloc|apply pw_below_drewN|apply below_drew1|refine below_set ?_ GE1391.out)|exact HB.out)) hb);clear BK1391;clear HB;have BK1391:=n0_;have HB:=n1_;clear n0_ n1_;(try clear hb);(try clear hb2);(try clear hk);(try clear hi);have hcz17_0:w16.cell? ⟨gb1391,0,none⟩=some (.int .u8 a0_0):=(blk_cell BK1391.out 0).trans rfl;have hcz17_1:w16.cell? ⟨gb1391,1,none⟩=some (.bool a0_1):=(blk_cell BK1391.out 1).trans rfl;have hcz17_2:w16.cell? ⟨gb1391,2,none⟩=some (.slice A0_2 l0_2.length c0_2):=(blk_cell BK1391.out 2).trans rfl;have hcz17_3:w16.cell? ⟨gb1391,3,none⟩=some (.int .u8 a0_3):=(blk_cell BK1391.out 3).trans rfl;have hcz17_4:w16.cell? ⟨gb1391,4,none⟩=some (.int .u8 a0_4):=(blk_cell BK1391.out 4).trans rfl;have hcz17_5:w16.cell? ⟨gb1391,5,none⟩=some (.int .u8 a0_5):=(blk_cell BK1391.out 5).trans rfl;have hfz17_0:=blk_frozen BK1391.out 0;have hfz17_1:=blk_frozen BK1391.out 1;have hfz17_2:=blk_frozen BK1391.out 2;have hfz17_3:=blk_frozen BK1391.out 3;have hfz17_4:=blk_frozen BK1391.out 4;have hfz17_5:=blk_frozen BK1391.out 5)|((with_reducible refine gate_callee (f:=72) rfl ?_);refine goesL_ (some 21) rfl rfl Try.func72 (by kernel_rfl) rfl #[.agg #[.int .u8 a0_0, .bool a0_1, .slice A0_2 l0_2.length c0_2, .int .u8 a0_3, .int .u8 a0_4, .int .u8 a0_5], .int .i64 10] rfl (by(try simp only[List.map_toArray,List.map_cons,List.map_nil]);first|done|rfl|(simp only[List.length_drop,List.length_take];rfl)) ?_;(with_reducible refine(ebbtidelaw12_Read.calls k a0_0 a0_1 _ _ l0_2 a0_3 a0_4 a0_5 10 t1393 t1394 t1395 t1398 t1399 t1400 _ ?side1 ?side2 A4.out).mono ?_);(case side1=>repeat(first|exact(Kd.C_below HR0_2.out HB.out)|(with_reducible refine Kd.C_alloc ?_ _)|(with_reducible refine Kd.C_drewN ?_ _)|(with_reducible refine Kd.C_drew ?_)));(case side2=>exact HC0_2.out);rintro e w18 ⟨v1396,rfl,ho0,hb⟩;refine⟨_,rfl,?_⟩;have n0_:=Aside0.mk (Kd.R_lower ho0 (below_size (by repeat(first|(with_reducible first|exact HB.out|apply below_alloc|apply pw_below_drewN|apply below_drew1|refine below_set ?_ GE1391.out)|exact HB.out))));have n1_:=Aside0.mk (blk_below (g:=gb1391) (o:= .cells #[.int .u8 a0_0, .bool a0_1, .slice A0_2 l0_2.length c0_2, .int .u8 a0_3, .int .u8 a0_4, .int .u8 a0_5] 70 (0,0)) (by(with_reducible repeat(first|refine blk_drewN ?_ _|refine blk_drew ?_|refine blk_alloc ?_ _));exact BK1391.out) hb);have n2_:=Aside0.mk (below_step (by repeat(first|(with_reducible first|exact HB.out|apply below_alloc|apply pw_below_drewN|apply below_drew1|refine below_set ?_ GE1391.out)|exact HB.out)) hb);clear BK1391;clear HB;have HO1397:=n0_;have BK1391:=n1_;have HB:=n2_;clear n0_ n1_ n2_;(try clear hb);(try clear hb2);(try clear hk);(try clear hi);(try clear ho0))|((with_reducible refine gate_dst (N:=4) rfl ?_);refine box_event ?hg (N:=4) ?hd (cs:= #[.int .i64 0, .bool false, .slice none 0 0]) (t:=24) ?hr ?_;(case hd=>rfl);(case hg=>rfl);(case hr=>first|(go_simp;done)|(go_simp;rfl));intro gb1401 hg w19 hbox hb;have n0_:=Aside0.mk (Kd.R_below (by(with_reducible repeat(first|apply Kd.R_alloc|apply Kd.R_drewN|apply Kd.R_drew));exact HO1397.out) hb);have n1_:=Aside0.mk (blk_below (g:=gb1391) (o:= .cells #[.int .u8 a0_0, .bool a0_1, .slice A0_2 l0_2.length c0_2, .int .u8 a0_3, .int .u8 a0_4, .int .u8 a0_5] 70 (0,0)) (by(with_reducible repeat(first|refine blk_drewN ?_ _|refine blk_drew ?_|refine blk_alloc ?_ _));exact BK1391.out) hb);have n2_:=Aside0.mk (below_step (by repeat(first|(with_reducible first|exact HB.out|apply below_alloc|apply pw_below_drewN|apply below_drew1|refine below_set ?_ GE1391.out)|exact HB.out)) hb);have n3_:=Aside0.mk (hbox);have n4_:=Aside0.mk ((by rw[hg];exact(below_size (by repeat(first|(with_reducible first|exact HB.out|apply below_alloc|apply pw_below_drewN|apply below_drew1|refine below_set ?_ GE1391.out)|exact HB.out))):w.heap.size≤gb1401));have n5_:=Aside0.mk ((by rw[hg];exact(below_size (by repeat(first|(with_reducible first|exact HB.out|apply below_alloc|apply pw_below_drewN|apply below_drew1|refine below_set ?_ GE1391.out)|exact HB.out))):w.heap.size≤gb1401));have n6_:=Aside0.mk ((by rw[hg];exact Nat.ne_of_lt (blk_lt (g:=gb1391) (o:= .cells #[.int .u8 a0_0, .bool a0_1, .slice A0_2 l0_2.length c0_2, .int .u8 a0_3, .int .u8 a0_4, .int .u8 a0_5] 70 (0,0)) (by(with_reducible repeat(first|refine blk_drewN ?_ _|refine blk_drew ?_|refine blk_alloc ?_ _));exact BK1391.out)):gb1391≠gb1401));have n7_:=Aside0.mk ((by rw[hg];exact Nat.ne_of_gt (blk_lt (g:=gb1391) (o:= .cells #[.int .u8 a0_0, .bool a0_1, .slice A0_2 l0_2.length c0_2, .int .u8 a0_3, .int .u8 a0_4, .int .u8 a0_5] 70 (0,0)) (by(with_reducible repeat(first|refine blk_drewN ?_ _|refine blk_drew ?_|refine blk_alloc ?_ _));exact BK1391.out)):gb1401≠gb1391));clear HO1397;clear BK1391;clear HB;have HO1397:=n0_;have BK1391:=n1_;have HB:=n2_;have BK1401:=n3_;have GW1401:=n4_;have GE1401:=n5_;have NB1391_1401:=n6_;have NB1401_1391:=n7_;clear n0_ n1_ n2_ n3_ n4_ n5_ n6_ n7_;clear hb hbox hg;have hnb20:=NB1401_1391.out;have hnc20:=NB1391_1401.out;have hcz21_0:w19.cell? ⟨gb1401,0,none⟩=some (.int .i64 0):=(blk_cell BK1401.out 0).trans rfl;have hcz21_1:w19.cell? ⟨gb1401,1,none⟩=some (.bool false):=(blk_cell BK1401.out 1).trans rfl;have hcz21_2:w19.cell? ⟨gb1401,2,none⟩=some (.slice none 0 0):=(blk_cell BK1401.out 2).trans rfl;have hfz21_0:=blk_frozen BK1401.out 0;have hfz21_1:=blk_frozen BK1401.out 1;have hfz21_2:=blk_frozen BK1401.out 2;obtain⟨Ao22,co22,eo22⟩:=Kd.R_slice HO1397.out;subst eo22)|((with_reducible refine gate_callee (f:=67) rfl ?_);refine goesL_ (some 31) rfl rfl Try.func67 (by kernel_rfl) rfl #[.agg #[.int .i64 t1393, .bool t1394, .slice Ao22 t1395.length co22], .int .i64 t1398, .int .i64 t1399, .int .i64 t1400] rfl (by(try simp only[List.map_toArray,List.map_cons,List.map_nil]);first|done|rfl|(simp only[List.length_drop,List.length_take];rfl)) ?_;(with_reducible refine(span_Most.calls k t1393 t1394 _ _ t1395 t1398 t1399 t1400 t1402 t1403 _ ?side1 ?side2 A5.out).mono ?_);(case side1=>refine(Kd.R_reads' (e:=74) (base:=w.heap.size) (ok:=fun k_=>True) (n:=t1395.length) (c:=co22) ?_).2.2;exact(by(with_reducible repeat(first|apply Kd.R_alloc|apply Kd.R_drewN|apply Kd.R_drew));exact(Kd.R_mono (Kd.R_far (p:=⟨gb1401,2,none⟩) (Kd.R_far (p:=⟨gb1401,1,none⟩) (Kd.R_far (p:=⟨gb1401,0,none⟩) (Kd.R_types HO1397.out BK1401.out (by decide)) (fun _ hk=>hk.2) (.int .i64 t1393)) (fun _ hk=>hk.2) (.bool t1394)) (fun _ hk=>hk.2) (.slice Ao22 t1395.length co22)) (fun _ h_=>h_.1))));(case side2=>exact(Kd.R_reads' HO1397.out).2.1);rintro e w23 ⟨rfl,hb⟩;refine⟨_,rfl,?_⟩;have n0_:=Aside0.mk (Kd.R_below (by(with_reducible repeat(first|apply Kd.R_alloc|apply Kd.R_drewN|apply Kd.R_drew));exact(Kd.R_mono (Kd.R_far (p:=⟨gb1401,2,none⟩) (Kd.R_far (p:=⟨gb1401,1,none⟩) (Kd.R_far (p:=⟨gb1401,0,none⟩) (Kd.R_types HO1397.out BK1401.out (by decide)) (fun _ hk=>hk.2) (.int .i64 t1393)) (fun _ hk=>hk.2) (.bool t1394)) (fun _ hk=>hk.2) (.slice Ao22 t1395.length co22)) (fun _ h_=>h_.1))) hb);have n1_:=Aside0.mk (blk_below (g:=gb1391) (o:= .cells #[.int .u8 a0_0, .bool a0_1, .slice A0_2 l0_2.length c0_2, .int .u8 a0_3, .int .u8 a0_4, .int .u8 a0_5] 70 (0,0)) (by(with_reducible repeat(first|refine blk_drewN ?_ _|refine blk_drew ?_|refine blk_alloc ?_ _));refine blk_far ?_ NB1391_1401.out _;(with_reducible repeat(first|refine blk_drewN ?_ _|refine blk_drew ?_|refine blk_alloc ?_ _));refine blk_far ?_ NB1391_1401.out _;(with_reducible repeat(first|refine blk_drewN ?_ _|refine blk_drew ?_|refine blk_alloc ?_ _));refine blk_far ?_ NB1391_1401.out _;(with_reducible repeat(first|refine blk_drewN ?_ _|refine blk_drew ?_|refine blk_alloc ?_ _));exact BK1391.out) hb);have n2_:=Aside0.mk (blk_below (g:=gb1401) (o:= .cells #[.int .i64 t1393, .bool t1394, .slice Ao22 t1395.length co22] 24 (0,0)) (by(with_reducible repeat(first|refine blk_drewN ?_ _|refine blk_drew ?_|refine blk_alloc ?_ _));refine blk_put (cs:= #[.int .i64 t1393, .bool t1394, .slice none 0 0]) ?_ 2 _ rfl;(with_reducible repeat(first|refine blk_drewN ?_ _|refine blk_drew ?_|refine blk_alloc ?_ _));refine blk_put (cs:= #[.int .i64 t1393, .bool false, .slice none 0 0]) ?_ 1 _ rfl;(with_reducible repeat(first|refine blk_drewN ?_ _|refine blk_drew ?_|refine blk_alloc ?_ _));refine blk_put (cs:= #[.int .i64 0, .bool false, .slice none 0 0]) ?_ 0 _ rfl;(with_reducible repeat(first|refine blk_drewN ?_ _|refine blk_drew ?_|refine blk_alloc ?_ _));exact BK1401.out) hb);have n3_:=Aside0.mk (below_step (by repeat(first|(with_reducible first|exact HB.out|apply below_alloc|apply pw_below_drewN|apply below_drew1|refine below_set ?_ GE1391.out|refine below_set ?_ GE1401.out)|exact HB.out)) hb);clear HO1397;clear BK1391;clear BK1401;clear HB;have HO1397:=n0_;have BK1391:=n1_;have BK1401:=n2_;have HB:=n3_;clear n0_ n1_ n2_ n3_;(try clear hb);(try clear hb2);(try clear hk);(try clear hi);have hcz24_0:w23.cell? ⟨gb1401,0,none⟩=some (.int .i64 t1393):=(blk_cell BK1401.out 0).trans rfl;have hcz24_1:w23.cell? ⟨gb1401,1,none⟩=some (.bool t1394):=(blk_cell BK1401.out 1).trans rfl;have hcz24_2:w23.cell? ⟨gb1401,2,none⟩=some (.slice Ao22 t1395.length co22):=(blk_cell BK1401.out 2).trans rfl;have hfz24_0:=blk_frozen BK1401.out 0;have hfz24_1:=blk_frozen BK1401.out 1;have hfz24_2:=blk_frozen BK1401.out 2)|((with_reducible refine gate_callee (f:=67) rfl ?_);refine goesL_ (some 40) rfl rfl Try.func67 (by kernel_rfl) rfl #[.agg #[.int .i64 t1393, .bool t1394, .slice Ao22 t1395.length co22], .int .i64 t1398, .int .i64 t1399, .int .i64 (wrap64 (t1400+1))] rfl (by(try simp only[List.map_toArray,List.map_cons,List.map_nil]);first|done|rfl|(simp only[List.length_drop,List.length_take];rfl)) ?_;(with_reducible refine(span_Most.calls k t1393 t1394 _ _ t1395 t1398 t1399 (wrap64 (t1400+1)) t1404 t1405 _ ?side1 ?side2 A6.out).mono ?_);(case side1=>repeat(first|exact(Kd.R_reads' HO1397.out).2.2|(with_reducible refine Kd.C_alloc ?_ _)|(with_reducible refine Kd.C_drewN ?_ _)|(with_reducible refine Kd.C_drew ?_)));(case side2=>exact(Kd.R_reads' HO1397.out).2.1);rintro e w25 ⟨rfl,hb⟩;refine⟨_,rfl,?_⟩;have n0_:=Aside0.mk (Kd.R_below (by(with_reducible repeat(first|apply Kd.R_alloc|apply Kd.R_drewN|apply Kd.R_drew));exact HO1397.out) hb);have n1_:=Aside0.mk (blk_below (g:=gb1391) (o:= .cells #[.int .u8 a0_0, .bool a0_1, .slice A0_2 l0_2.length c0_2, .int .u8 a0_3, .int .u8 a0_4, .int .u8 a0_5] 70 (0,0)) (by(with_reducible repeat(first|refine blk_drewN ?_ _|refine blk_drew ?_|refine blk_alloc ?_ _));exact BK1391.out) hb);have n2_:=Aside0.mk (blk_below (g:=gb1401) (o:= .cells #[.int .i64 t1393, .bool t1394, .slice Ao22 t1395.length co22] 24 (0,0)) (by(with_reducible repeat(first|refine blk_drewN ?_ _|refine blk_drew ?_|refine blk_alloc ?_ _));exact BK1401.out) hb);have n3_:=Aside0.mk (below_step (by repeat(first|(with_reducible first|exact HB.out|apply below_alloc|apply pw_below_drewN|apply below_drew1|refine below_set ?_ GE1391.out|refine below_set ?_ GE1401.out)|exact HB.out)) hb);clear HO1397;clear BK1391;clear BK1401;clear HB;have HO1397:=n0_;have BK1391:=n1_;have BK1401:=n2_;have HB:=n3_;clear n0_ n1_ n2_ n3_;(try clear hb);(try clear hb2);(try clear hk);(try clear hi);have hcz26_0:w25.cell? ⟨gb1401,0,none⟩=some (.int .i64 t1393):=(blk_cell BK1401.out 0).trans rfl;have hcz26_1:w25.cell? ⟨gb1401,1,none⟩=some (.bool t1394):=(blk_cell BK1401.out 1).trans rfl;have hcz26_2:w25.cell? ⟨gb1401,2,none⟩=some (.slice Ao22 t1395.length co22):=(blk_cell BK1401.out 2).trans rfl;have hfz26_0:=blk_frozen BK1401.out 0;have hfz26_1:=blk_frozen BK1401.out 1;have hfz26_2:=blk_frozen BK1401.out 2)|((with_reducible refine gate_callee (f:=67) rfl ?_);refine goesL_ (some 49) rfl rfl Try.func67 (by kernel_rfl) rfl #[.agg #[.int .i64 t1393, .bool t1394, .slice Ao22 t1395.length co22], .int .i64 t1398, .int .i64 t1399, .int .i64 (wrap64 (t1400+2))] rfl (by(try simp only[List.map_toArray,List.map_cons,List.map_nil]);first|done|rfl|(simp only[List.length_drop,List.length_take];rfl)) ?_;(with_reducible refine(span_Most.calls k t1393 t1394 _ _ t1395 t1398 t1399 (wrap64 (t1400+2)) t1406 t1407 _ ?side1 ?side2 A7.out).mono ?_);(case side1=>repeat(first|exact(Kd.R_reads' HO1397.out).2.2|(with_reducible refine Kd.C_alloc ?_ _)|(with_reducible refine Kd.C_drewN ?_ _)|(with_reducible refine Kd.C_drew ?_)));(case side2=>exact(Kd.R_reads' HO1397.out).2.1);rintro e w27 ⟨rfl,hb⟩;refine⟨_,rfl,?_⟩;have n0_:=Aside0.mk (Kd.R_below (by(with_reducible repeat(first|apply Kd.R_alloc|apply Kd.R_drewN|apply Kd.R_drew));exact HO1397.out) hb);have n1_:=Aside0.mk (blk_below (g:=gb1391) (o:= .cells #[.int .u8 a0_0, .bool a0_1, .slice A0_2 l0_2.length c0_2, .int .u8 a0_3, .int .u8 a0_4, .int .u8 a0_5] 70 (0,0)) (by(with_reducible repeat(first|refine blk_drewN ?_ _|refine blk_drew ?_|refine blk_alloc ?_ _));exact BK1391.out) hb);have n2_:=Aside0.mk (blk_below (g:=gb1401) (o:= .cells #[.int .i64 t1393, .bool t1394, .slice Ao22 t1395.length co22] 24 (0,0)) (by(with_reducible repeat(first|refine blk_drewN ?_ _|refine blk_drew ?_|refine blk_alloc ?_ _));exact BK1401.out) hb);have n3_:=Aside0.mk (below_step (by repeat(first|(with_reducible first|exact HB.out|apply below_alloc|apply pw_below_drewN|apply below_drew1|refine below_set ?_ GE1391.out|refine below_set ?_ GE1401.out)|exact HB.out)) hb);clear HO1397;clear BK1391;clear BK1401;clear HB;have HO1397:=n0_;have BK1391:=n1_;have BK1401:=n2_;have HB:=n3_;clear n0_ n1_ n2_ n3_;(try clear hb);(try clear hb2);(try clear hk);(try clear hi);have hcz28_0:w27.cell? ⟨gb1401,0,none⟩=some (.int .i64 t1393):=(blk_cell BK1401.out 0).trans rfl;have hcz28_1:w27.cell? ⟨gb1401,1,none⟩=some (.bool t1394):=(blk_cell BK1401.out 1).trans rfl;have hcz28_2:w27.cell? ⟨gb1401,2,none⟩=some (.slice Ao22 t1395.length co22):=(blk_cell BK1401.out 2).trans rfl;have hfz28_0:=blk_frozen BK1401.out 0;have hfz28_1:=blk_frozen BK1401.out 1;have hfz28_2:=blk_frozen BK1401.out 2)|((with_reducible refine gate_callee (f:=73) rfl ?_);refine goesL_ (some 56) rfl rfl Try.func73 (by kernel_rfl) rfl #[.agg #[.int .i64 t1393, .bool t1394, .slice Ao22 t1395.length co22], .int .i64 t1398, .int .i64 t1399] rfl (by(try simp only[List.map_toArray,List.map_cons,List.map_nil]);first|done|rfl|(simp only[List.length_drop,List.length_take];rfl)) ?_;(with_reducible refine(maxflow_Most.calls k t1393 t1394 _ _ t1395 t1398 t1399 t1408 t1409 _ ?side1 ?side2 A8.out).mono ?_);(case side1=>repeat(first|exact(Kd.R_reads' HO1397.out).2.2|(with_reducible refine Kd.C_alloc ?_ _)|(with_reducible refine Kd.C_drewN ?_ _)|(with_reducible refine Kd.C_drew ?_)));(case side2=>exact(Kd.R_reads' HO1397.out).2.1);rintro e w29 ⟨rfl,hb⟩;refine⟨_,rfl,?_⟩;have n0_:=Aside0.mk (Kd.R_below (by(with_reducible repeat(first|apply Kd.R_alloc|apply Kd.R_drewN|apply Kd.R_drew));exact HO1397.out) hb);have n1_:=Aside0.mk (blk_below (g:=gb1391) (o:= .cells #[.int .u8 a0_0, .bool a0_1, .slice A0_2 l0_2.length c0_2, .int .u8 a0_3, .int .u8 a0_4, .int .u8 a0_5] 70 (0,0)) (by(with_reducible repeat(first|refine blk_drewN ?_ _|refine blk_drew ?_|refine blk_alloc ?_ _));exact BK1391.out) hb);have n2_:=Aside0.mk (blk_below (g:=gb1401) (o:= .cells #[.int .i64 t1393, .bool t1394, .slice Ao22 t1395.length co22] 24 (0,0)) (by(with_reducible repeat(first|refine blk_drewN ?_ _|refine blk_drew ?_|refine blk_alloc ?_ _));exact BK1401.out) hb);have n3_:=Aside0.mk (below_step (by repeat(first|(with_reducible first|exact HB.out|apply below_alloc|apply pw_below_drewN|apply below_drew1|refine below_set ?_ GE1391.out|refine below_set ?_ GE1401.out)|exact HB.out)) hb);clear HO1397;clear BK1391;clear BK1401;clear HB;have HO1397:=n0_;have BK1391:=n1_;have BK1401:=n2_;have HB:=n3_;clear n0_ n1_ n2_ n3_;(try clear hb);(try clear hb2);(try clear hk);(try clear hi)))
 go_ret
 exact⟨by first|rfl|(simp[errW_none,errW_some]<;>rfl)|(simp[*,errW_none,errW_some]<;>rfl),by repeat(first|(with_reducible first|exact HB.out|apply below_alloc|apply pw_below_drewN|apply below_drew1|refine below_set ?_ GE1391.out|refine below_set ?_ GE1401.out)|exact HB.out)⟩
end Go.Proofs.Ytkcpanpdipmmmaa.P
namespace Go.Proofs.Ytkcpanpdipmmmaa.Opn
open Go.RowKit Go.ChangeShapes Go.WideShapes Go.Deep Go.Proofs.YtkcpanpdipmmmaaW.PrintWords
def Opens (P:Program) (t:TypeId) {α:Type} (d:Kd α) (ok:α→Prop):Prop:=
 ∀ (H:Type) (enc:TypeId × Value→H) (w:World) (base:Nat) (spare:Nat→Bool) (held:Bool) (fuel:Nat) (cs:List Value) (x:DataW H × List MemPlace),
  DataW.trod enc P w base spare held fuel t cs=some x→ ∃ a:α,d.K w a cs∧ok a
theorem opens_int {P:Program} {t:TypeId} {k:IntKind} (ht:P.underlying t=some (.int k)):Opens P t (Kd.int k) (fun n=>(Lit.int k n).wf=true):=by
 intro H enc w base spare held fuel cs x h
 obtain⟨n,rfl,_,hw⟩:=DataW.trod_int ht h
 exact⟨n,rfl,hw⟩
theorem opens_bool {P:Program} {t:TypeId} (ht:P.underlying t=some .bool):Opens P t Kd.bool (fun _=>True):=by
 intro H enc w base spare held fuel cs x h
 obtain⟨b,rfl,_⟩:=DataW.trod_bool ht h
 exact⟨b,rfl,trivial⟩
theorem opens_slice {P:Program} {t e:TypeId} {α:Type} {d:Kd α} {ok:α→Prop} (ht:P.underlying t=some (.slice e)) (hc:P.cellsOf e=d.sz) (h:Opens P e d ok):
  Opens P t (Kd.slice e d) (fun l=>l.length≤9223372036854775807∧ ∀ x∈l,ok x):=by
 intro H enc w base spare held fuel cs x hx
 rcases open_slice ht hx with ⟨rfl,_⟩|⟨a,len,cap,m,n,D,Pl,rfl,hb,hl,hm,hmm,_,hi⟩
 ·exact⟨[],⟨none,0,rfl,Nat.le_refl _,rfl,by simp,fun h=>absurd h (by simp)⟩,by simp,by simp⟩
 ·have hlm:len≤m:=by rw[hmm];split<;>omega
  have hel: ∀ i:Nat,i<len→ ∃ a':α,ok a'∧ ∃ c,c.length=d.sz∧d.K w a' c∧ ∀ j u,c[j]? =some u→w.cell? (a.add (i * d.sz+j))=some u:=by
   intro i hil
   obtain⟨cs',hcs,htr⟩:=hi i (by omega)
   obtain⟨a',hK,hok⟩:=h H enc w base spare held n cs' _ htr
   rw[hc] at hcs
   obtain⟨_,hcl,hat⟩:=World.cells?_some hcs
   refine⟨a',hok,cs',hcl,hK,fun j u hu=> ?_⟩
   have hj:j<d.sz:=by have:=(List.getElem?_eq_some_iff.1 hu).1;omega
   have:=hat j hj
   rw[← Go.Deep.add_add,this,hu]
  have hrow: ∀ k:Nat,k≤len→ ∃ xs:List α,xs.length=k∧(∀ x∈xs,ok x)∧ ∀ j p,xs[j]? =some p→ ∃ c,c.length=d.sz∧d.K w p c∧ ∀ i u,c[i]? =some u→w.cell? (a.add (j * d.sz+i))=some u:=by
   intro k
   induction k with
   |zero=>exact fun _=>⟨[],rfl,by simp,by simp⟩
   |succ k ih=>
    intro hk
    obtain⟨xs,h1,h2,h3⟩:=ih (by omega)
    obtain⟨a',ho,c,hcl,hK,hcell⟩:=hel k (by omega)
    refine⟨xs ++ [a'],by simp[h1],fun x hx=> ?_,fun j p hj=> ?_⟩
    ·rcases List.mem_append.1 hx with h|h
     ·exact h2 x h
     ·rw[List.mem_singleton.1 h];exact ho
    ·by_cases hjk:j<xs.length
     ·rw[List.getElem?_append_left hjk] at hj
      exact h3 j p hj
     ·have hjl:=(List.getElem?_eq_some_iff.1 hj).1
      simp at hjl
      have hje:j=k:=by omega
      subst hje
      rw[← h1,List.getElem?_concat_length] at hj
      obtain rfl:=Option.some.inj hj
      exact⟨c,hcl,hK,hcell⟩
  obtain⟨xs,h1,h2,h3⟩:=hrow len (Nat.le_refl _)
  have hmx:len≤9223372036854775807:=by unfold maxLen at hm;omega
  subst h1
  exact⟨xs,⟨some a,cap,rfl,hl,rfl,hmx,fun _=>⟨a,rfl,h3⟩⟩,hmx,h2⟩
theorem opens_iso {P:Program} {t:TypeId} {α β:Type} {d:Kd α} {ok:α→Prop} (h:Opens P t d ok) (f:β→α) (g:α→β) (hfg: ∀ x,f (g x)=x):Opens P t (Kd.iso d f) (fun y=>ok (f y)):=by
 intro H enc w base spare held fuel cs x hx
 obtain⟨a,hK,hok⟩:=h H enc w base spare held fuel cs x hx
 exact⟨g a,by show d.K w (f (g a)) cs;rw[hfg];exact hK,by show ok (f (g a));rw[hfg];exact hok⟩
def OpensFs (P:Program) (fs:List Field) (off:Nat) {α:Type} (d:Kd α) (ok:α→Prop):Prop:=
 ∀ (H:Type) (enc:TypeId × Value→H) (w:World) (base:Nat) (spare:Nat→Bool) (held:Bool) (n:Nat) (cs:List Value),cs.length=off+d.sz→
  (∀ f∈fs, ∃ y,DataW.trod enc P w base spare held n f.type ((cs.drop f.offset).take (P.cellsOf f.type))=some y)→ ∃ a:α,d.K w a (cs.drop off)∧ok a
theorem fs_one {P:Program} {f:Field} {off:Nat} {α:Type} {d:Kd α} {ok:α→Prop} (ho:f.offset=off) (hc:P.cellsOf f.type=d.sz) (h:Opens P f.type d ok):OpensFs P [f] off d ok:=by
 intro H enc w base spare held n cs hl hf
 obtain⟨y,hy⟩:=hf f (by simp)
 rw[ho,hc,List.take_of_length_le (by simp;omega)] at hy
 exact h H enc w base spare held n _ y hy
theorem fs_cons {P:Program} {f:Field} {fs:List Field} {off:Nat} {α β:Type} {d:Kd α} {d':Kd β} {ok:α→Prop} {ok':β→Prop} (ho:f.offset=off) (hc:P.cellsOf f.type=d.sz) (h:Opens P f.type d ok)
  (hr:OpensFs P fs (off+d.sz) d' ok'):OpensFs P (f::fs) off (Kd.pair d d') (fun x=>ok x.1∧ok' x.2):=by
 intro H enc w base spare held n cs hl hf
 have hsz:(Kd.pair d d').sz=d.sz+d'.sz:=rfl
 rw[hsz] at hl
 obtain⟨y,hy⟩:=hf f (by simp)
 rw[ho,hc] at hy
 obtain⟨a,hK,hok⟩:=h H enc w base spare held n _ y hy
 obtain⟨b,hKb,hokb⟩:=hr H enc w base spare held n cs (by omega) (fun f' hf'=>hf f' (List.mem_cons_of_mem _ hf'))
 refine⟨(a,b),⟨_,_,?_,hK,hKb⟩,hok,hokb⟩
 rw[← List.drop_drop]
 exact(List.take_append_drop _ _).symm
theorem opens_struct {P:Program} {t:TypeId} {fs:Array Field} {α:Type} {d:Kd α} {ok:α→Prop} (hs:P.underlying t=some (.struct fs)) (hC:P.cellsOf t=d.sz) (h:OpensFs P fs.toList 0 d ok):Opens P t d ok:=by
 intro H enc w base spare held fuel cs x hx
 obtain⟨xs,n,_,_,hl,hlen,hf⟩:=DataW.trod_struct hs hx
 obtain⟨a,hK,hok⟩:=h H enc w base spare held n cs (by rw[hl,hC,Nat.zero_add]) (fun f hfm=>by
  obtain⟨j,hj⟩:=List.getElem?_of_mem hfm
  have hj':fs[j]? =some f:=by rw[← hj];simp
  have hjl:j<xs.length:=by rw[hlen];exact(Array.getElem?_eq_some_iff.1 hj').1
  have h1:=hf j f hj'
  rw[List.getElem?_eq_getElem hjl] at h1
  exact⟨_,h1⟩)
 exact⟨a,hK,hok⟩
theorem arg_struct {H:Type} {enc:TypeId × Value→H} {P:Program} {w:World} {base b0:Nat} {spare:Nat→Bool} {held:Bool} {r:Reach} {t:TypeId} {fs:Array Field} {v:Value} {dd:DataW H} {p:List MemPlace} {α:Type} {d:Kd α} {ok:α→Prop}
  (hs:P.underlying t=some (.struct fs)) (ho:Opens P t d ok) (hv:Value.okWide P w r b0 t v) (h:DataW.Trod enc P w base spare held t v dd p): ∃ a cs,v= .agg cs∧d.K w a cs.toList∧ok a:=by
 obtain⟨cs,rfl,hsz⟩:=okWide_struct hs hv
 obtain⟨fuel,hf⟩:=h
 obtain⟨a,hK,hok⟩:=ho H enc w base spare held fuel _ _ hf
 exact⟨a,cs,rfl,by simpa [Value.cells] using hK,hok⟩
end Go.Proofs.Ytkcpanpdipmmmaa.Opn
namespace Go.Proofs.Ytkcpanpdipmmmaa.Q
open Go.RowKit Go.Proofs.YtkcpanpdipmmmaaW.PrintWords Go.Proofs.YtkcpanpdipmmmaaW.PrintLast Go.Proofs.YtkcpanpdipmmmaaW.PrintMore Go.Proofs.Ytkcpanpdipmmmaa.P
open Go.Proofs.Ytkcpanpdipmmmaa.H (endsErr Right right_of StepOf stRoom IsFlow leastR pushW stRoom_in)
theorem endsE_ok {n:Int} {l:List S74} {s t:Int} (h:endsErr n l s t=0):NetOk n l∧0≤s∧s<n∧0≤t∧t<n∧s≠t:=by
 unfold endsErr at h
 by_cases hn:netErr n l=0
 ·rw[if_pos hn] at h
  split at h
  ·rename_i he
   exact⟨netErr_ok hn,he⟩
  ·cases h
 ·rw[if_neg hn] at h;exact absurd h hn
theorem endsE_of {n:Int} {l:List S74} {s t:Int} (hn:NetOk n l) (h:0≤s∧s<n∧0≤t∧t<n∧s≠t):endsErr n l s t=0:=by
 unfold endsErr
 rw[if_pos (netOk_err hn),if_pos h]
def evenB (s t:Int):List Int→Int→Bool
 |[],_=>true
 |x::l,i=>if i=s then evenB s t l (i+1) else if i=t then evenB s t l (i+1) else if x=0 then evenB s t l (i+1) else false
def valRes (n:Int) (l:List S74) (s t:Int) (f:List Int):Int × Int:=
 if endsErr n l s t=0 then(if askErr n l f=0 then(if evenB s t (balOf n l f) 0=true then(bal l f s,0) else(0,71)) else(0,askErr n l f)) else(0,endsErr n l s t)
theorem evenB_iff (s t:Int) (X:List Int): ∀ i:Int,evenB s t X i=true↔ ∀ j:Nat,j<X.length→i+j≠s→i+j≠t→X.getD j 0=0:=by
 induction X with
 |nil=>intro i;simp[evenB]
 |cons x X ih=>
  intro i
  have key:evenB s t X (i+1)=true↔ ∀ j:Nat,j+1<(x::X).length→i+(j+1:Nat)≠s→i+(j+1:Nat)≠t→(x::X).getD (j+1) 0=0:=by
   rw[ih (i+1)]
   constructor
   ·intro h j h1 h2 h3
    rw[List.getD_cons_succ]
    exact h j (by simpa using h1) (by omega) (by omega)
   ·intro h j h1 h2 h3
    have:=h j (by simpa using h1) (by omega) (by omega)
    rwa [List.getD_cons_succ] at this
  have all:(i≠s→i≠t→x=0)→(evenB s t X (i+1)=true↔ ∀ j:Nat,j<(x::X).length→i+j≠s→i+j≠t→(x::X).getD j 0=0):=by
   intro hx
   rw[key]
   constructor
   ·intro h j h1 h2 h3
    cases j with
    |zero=>exact hx (by simpa using h2) (by simpa using h3)
    |succ j=>exact h j h1 h2 h3
   ·intro h j h1 h2 h3
    exact h (j+1) h1 h2 h3
  unfold evenB
  by_cases h1:i=s
  ·rw[if_pos h1];exact all (fun h=>absurd h1 h)
  rw[if_neg h1]
  by_cases h2:i=t
  ·rw[if_pos h2];exact all (fun _ h=>absurd h2 h)
  rw[if_neg h2]
  by_cases h3:x=0
  ·rw[if_pos h3];exact all (fun _ _=>h3)
  ·rw[if_neg h3]
   constructor
   ·intro h;cases h
   ·intro h
    exact absurd (h 0 (by simp) (by simpa using h1) (by simpa using h2)) h3
theorem flowOk_of {l:List S74} {F:List Int} {n:Nat} (hr:Right l F n):FlowOk l F:=by
 refine⟨hr.len,fun i hi=> ?_⟩
 have:=hr.nums i (by rw[← hr.len];exact hi)
 rw[rd_nat]
 exact⟨this.2.2.1,this.2.2.2.1⟩
theorem even_flow {n:Nat} {l:List S74} {F:List Int} {s t:Int} (hr:Right l F n):evenB s t (balOf n l F) 0=true↔IsFlow l F n s t:=by
 rw[evenB_iff]
 have hlen:=balOf_len (n:Int) l F
 rw[Int.toNat_natCast] at hlen
 have hg: ∀ v:Nat,v<n→(balOf n l F).getD v 0=bal l F v:=fun v hv=>by
  have h_:=rd_balOf (n:=(n:Int)) (l:=l) (f:=F) (v:=(v:Int)) (by omega) (by omega)
  rw[rd_nat] at h_
  exact h_
 constructor
 ·intro h
  refine⟨hr,fun v h0 h1 h2 h3=> ?_⟩
  obtain⟨v,rfl⟩: ∃ v':Nat,v=v':=⟨v.toNat,by omega⟩
  rw[← hg v (by omega)]
  exact h v (by omega) (by omega) (by omega)
 ·intro h v hv h2 h3
  rw[hg v (by omega)]
  exact h.keeps v (by omega) (by omega) (by omega) (by omega)
theorem flow_val {n:Int} {l:List S74} {F:List Int} {s t:Int} (h:(valRes n l s t F).2=0):endsErr n l s t=0∧askErr n l F=0∧ ∃ n0:Nat,n=n0∧IsFlow l F n0 s t∧valRes n l s t F=(bal l F s,0):=by
 unfold valRes at h ⊢
 by_cases h1:endsErr n l s t=0
 ·rw[if_pos h1] at h ⊢
  by_cases h2:askErr n l F=0
  ·rw[if_pos h2] at h ⊢
   obtain⟨n0,rfl,hr⟩:=right_of h2
   by_cases h3:evenB s t (balOf n0 l F) 0=true
   ·rw[if_pos h3]
    exact⟨h1,h2,n0,rfl,(even_flow hr).1 h3,rfl⟩
   ·rw[if_neg h3] at h;cases h
  ·rw[if_neg h2] at h;exact absurd h h2
 ·rw[if_neg h1] at h;exact absurd h h1
end Go.Proofs.Ytkcpanpdipmmmaa.Q
namespace Go.Proofs.Ytkcpanpdipmmmaa.Q
open Go.RowKit Go.Proofs.YtkcpanpdipmmmaaW.PrintWords Go.Proofs.YtkcpanpdipmmmaaW.PrintLast Go.Proofs.YtkcpanpdipmmmaaW.PrintMore Go.Proofs.Ytkcpanpdipmmmaa.P
open Go.Proofs.Ytkcpanpdipmmmaa.H (endsErr Right right_of StepOf stRoom IsFlow MaxF leastR pushW fillF bfP nodes stepsR netG dOf frP toP)
theorem max_fill {l:List S74} {n s t:Nat} (hr:Right l (List.replicate l.length 0) n) (hs:s<n) (ht:t<n) (hst:s≠t):MaxF l (fillF l n s t) n s t:=H.fill_max hr hs ht hst
theorem value_l0 (m:Int) (l:List S74) (f:List Int) (hn:NetOk m l) (hf:FlowOk l f) (v:Int) (d:Nat): ∀ (i:Nat) (acc:Int),i+d=l.length→ -(i * 2097152)≤acc→acc≤i * 2097152→
  Ev (fun k=>maxflow_Value.l0 k v f acc l (l.length:Int) (i:Int)) (acc+bal (l.drop i) (f.drop i) v):=by
 have hlen:=hf.len
 have hl:=hn.len
 induction d with
 |zero=>
  intro i acc hi h0 h1
  refine Ev.succ ?_;simp only[maxflow_Value.l0]
  repeat(first|exact Ev.now _|with_reducible refine Ev.pos (by first|assumption|omega) ?_|with_reducible refine Ev.neg (by first|assumption|omega) ?_|with_reducible refine Ev.let_ ?_)
  rw[List.drop_of_length_le (by omega)]
  exact Ev.done (by simp[bal])
 |succ d ih=>
  intro i acc hi h0 h1
  have hs:=hf.small hn (i:=(i:Int)) (by omega) (by omega)
  refine Ev.succ ?_;simp only[maxflow_Value.l0]
  repeat(first|exact Ev.now _|with_reducible refine Ev.pos (by first|assumption|omega) ?_|with_reducible refine Ev.neg (by first|assumption|omega) ?_|with_reducible refine Ev.let_ ?_)
  rw[wrap_succ (n:=l.length) (by omega) (by omega),drop_getD l i z74 (by omega),drop_getD f i 0 (by omega), ← rdArc_nat, ← rd_nat,bal_cons]
  refine Ev.ite (fun g=> ?_) (fun g=> ?_)
  ·rw[if_pos g]
   refine Ev.pos (by omega) ?_
   refine Ev.ite (fun g2=> ?_) (fun g2=> ?_)
   ·rw[if_pos g2,wrap_id (x:=acc+rd f (i:Int)) (by omega) (by omega),wrap_id (by omega) (by omega)]
    exact Ev.eq (ih (i+1) _ (by omega) (by omega) (by omega)) (by omega)
   ·rw[if_neg g2,wrap_id (x:=acc+rd f (i:Int)) (by omega) (by omega)]
    exact Ev.eq (ih (i+1) _ (by omega) (by omega) (by omega)) (by omega)
  ·rw[if_neg g]
   refine Ev.ite (fun g2=> ?_) (fun g2=> ?_)
   ·refine Ev.pos (by omega) ?_
    rw[if_pos g2,wrap_id (x:=acc - rd f (i:Int)) (by omega) (by omega)]
    exact Ev.eq (ih (i+1) _ (by omega) (by omega) (by omega)) (by omega)
   ·rw[if_neg g2]
    exact Ev.eq (ih (i+1) _ (by omega) (by omega) (by omega)) (by omega)
theorem value_ev (n m:Int) (b:Bool) (l:List S74) (f:List Int) (hn:NetOk m l) (hf:FlowOk l f) (v:Int):Ev (fun k=>maxflow_Value.f k n b l v f) (bal l f v):=by
 unfold maxflow_Value.f
 exact Ev.eq (value_l0 m l f hn hf v l.length 0 0 (by omega) (by omega) (by omega)) (by rw[List.drop_zero,List.drop_zero];omega)
def maxR (n:Int) (l:List S74) (s t:Int):List Int × Int × Int:=
 if endsErr n l s t=0 then(fillF l n.toNat s.toNat t.toNat,bal l (fillF l n.toNat s.toNat t.toNat) s,0) else([],0,endsErr n l s t)
def mostR (n:Int) (l:List S74) (s t:Int):Int × Int:=
 if endsErr n l s t=0 then(bal l (fillF l n.toNat s.toNat t.toNat) s,0) else(0,endsErr n l s t)
theorem fill_eq {n:Int} {l:List S74} {s t:Int} (b:Bool) (h:endsErr n l s t=0):maxflow_Fill.f n b l s t=some (fillF l n.toNat s.toNat t.toNat):=by unfold maxflow_Fill.f;rw[if_pos h]
theorem max_ev (n:Int) (b:Bool) (l:List S74) (s t:Int):Ev (fun k=>maxflow_Max.f k n b l s t) (maxR n l s t):=by
 unfold maxflow_Max.f maxR
 refine Ev.bind (ends_ev n b l s t) ?_
 by_cases h:endsErr n l s t=0
 ·rw[if_pos h]
  refine Ev.pos h ?_
  refine Ev.call (fill_eq b h) ?_
  obtain⟨n0,s0,t0,rfl,rfl,rfl,hs,ht,hst,hn,hr⟩:=ends_zero h
  simp only[Int.toNat_natCast]
  refine Ev.bind (value_ev n0 n0 b l _ hn (flowOk_of (max_fill hr hs ht hst).flow.right) s0) ?_
  exact Ev.now _
 ·rw[if_neg h]
  refine Ev.neg h ?_
  exact Ev.now _
theorem most_ev (n:Int) (b:Bool) (l:List S74) (s t:Int):Ev (fun k=>maxflow_Most.f k n b l s t) (mostR n l s t):=by
 unfold maxflow_Most.f
 refine Ev.bind (max_ev n b l s t) ?_
 refine Ev.done ?_
 unfold maxR mostR
 split<;>rfl
theorem mostR_nat {l:List S74} {n s t:Nat} (h:endsErr (n:Int) l (s:Int) (t:Int)=0):mostR n l s t=(bal l (fillF l n s t) s,0):=by
 unfold mostR;rw[if_pos h];simp only[Int.toNat_natCast]
end Go.Proofs.Ytkcpanpdipmmmaa.Q
namespace Go.Proofs.Ytkcpanpdipmmmaa.Q
open Go.RowKit Go.Proofs.YtkcpanpdipmmmaaW.PrintWords Go.Proofs.YtkcpanpdipmmmaaW.PrintLast Go.Proofs.YtkcpanpdipmmmaaW.PrintMore Go.Proofs.Ytkcpanpdipmmmaa.P
open Go.Proofs.Ytkcpanpdipmmmaa.H (endsErr Right right_of IsFlow payS worthS)
theorem balance_l0 (n:Int) (l:List S74) (f:List Int) (hn:NetOk n l) (hf:FlowOk l f) (d:Nat): ∀ (i:Nat) (x:List Int),i+d=l.length→x.length=n.toNat→(∀ v:Nat,v<x.length→ -(i * 2097152)≤rd x v∧rd x v≤i * 2097152)→
  ∃ r,Ev (fun k=>static_Balance.l0 k f x l (l.length:Int) (i:Int)) (r,0)∧r.length=x.length∧ ∀ v:Nat,v<x.length→rd r v=rd x v+bal (l.drop i) (f.drop i) v:=by
 have hlen:=hf.len
 have hl:=hn.len
 induction d with
 |zero=>
  intro i x hi hx hb
  refine⟨x,?_,rfl,fun v hv=> ?_⟩
  ·refine Ev.succ ?_;simp only[static_Balance.l0]
   repeat(first|exact Ev.now _|with_reducible refine Ev.pos (by first|assumption|omega) ?_|with_reducible refine Ev.neg (by first|assumption|omega) ?_|with_reducible refine Ev.let_ ?_)
  ·rw[List.drop_of_length_le (by omega)]
   simp[bal]
 |succ d ih=>
  intro i x hi hx hb
  have ha:=hn.at_ (i:=(i:Int)) (by omega) (by omega)
  have hs:=hf.small hn (i:=(i:Int)) (by omega) (by omega)
  have h1:=ha.f0
  have h2:=ha.f1
  have h3:=ha.h0
  have h4:=ha.h1
  have hb1:=hb (rd_T74 l (i:Int)).f0.toNat (by omega)
  have e1:(((rd_T74 l (i:Int)).f0.toNat:Nat):Int)=(rd_T74 l (i:Int)).f0:=by omega
  have e2:(((rd_T74 l (i:Int)).f1.toNat:Nat):Int)=(rd_T74 l (i:Int)).f1:=by omega
  rw[e1] at hb1
  have hb2:=hb (rd_T74 l (i:Int)).f1.toNat (by omega)
  rw[e2] at hb2
  obtain⟨r,hr,hrl,hrv⟩:=ih (i+1) ((x.set (rd_T74 l (i:Int)).f0.toNat (wrap64 (rd x (rd_T74 l (i:Int)).f0+rd f (i:Int)))).set (rd_T74 l (i:Int)).f1.toNat
    (wrap64 (rd (x.set (rd_T74 l (i:Int)).f0.toNat (wrap64 (rd x (rd_T74 l (i:Int)).f0+rd f (i:Int)))) (rd_T74 l (i:Int)).f1 - rd f (i:Int)))) (by omega) (by simpa using hx) (by
   intro v hv
   have hv':v<x.length:=by simpa using hv
   have hbv:=hb v hv'
   rw[rd_set _ _ _ _ h2 (by simp;omega) (by omega),rd_set _ _ _ _ h1 (by omega) h2,rd_set _ _ _ _ h1 (by omega) (by omega)]
   have w1:wrap64 (rd x (rd_T74 l (i:Int)).f0+rd f (i:Int))=rd x (rd_T74 l (i:Int)).f0+rd f (i:Int):=wrap_id (by omega) (by omega)
   rw[w1]
   split
   ·split
    ·rename_i h5 h6
     rw[wrap_id (by omega) (by omega)]
     omega
    ·rename_i h5 h6
     rw[wrap_id (by omega) (by omega)]
     omega
   ·split
    ·omega
    ·omega)
  refine⟨r,?_,by simpa using hrl,fun v hv=> ?_⟩
  ·refine Ev.succ ?_;simp only[static_Balance.l0]
   repeat(first|exact Ev.now _|with_reducible refine Ev.pos (by first|assumption|omega) ?_|with_reducible refine Ev.neg (by first|assumption|omega) ?_|with_reducible refine Ev.let_ ?_)
   rw[wrap_succ (n:=l.length) (by omega) (by omega)]
   exact hr
  ·rw[hrv v (by simpa using hv),rd_set _ _ _ _ h2 (by simp;omega) (by omega),rd_set _ _ _ _ h1 (by omega) h2,rd_set _ _ _ _ h1 (by omega) (by omega)]
   have w1:wrap64 (rd x (rd_T74 l (i:Int)).f0+rd f (i:Int))=rd x (rd_T74 l (i:Int)).f0+rd f (i:Int):=wrap_id (by omega) (by omega)
   rw[w1,drop_getD l i z74 (by omega),drop_getD f i 0 (by omega), ← rdArc_nat, ← rd_nat,bal_cons]
   by_cases h5:(rd_T74 l (i:Int)).f1=(v:Int)
   ·rw[if_pos h5,if_pos h5]
    by_cases h6:(rd_T74 l (i:Int)).f0=(v:Int)
    ·rw[if_pos (by omega),if_pos h6,wrap_id (by omega) (by omega),h6]
     omega
    ·rw[if_neg (by omega),if_neg h6,wrap_id (by omega) (by omega),h5]
     omega
   ·rw[if_neg h5,if_neg h5]
    by_cases h6:(rd_T74 l (i:Int)).f0=(v:Int)
    ·rw[if_pos h6,if_pos h6,h6]
     omega
    ·rw[if_neg h6,if_neg h6]
     omega
theorem rd_zeros (m:Nat) (v:Int):rd (List.replicate m 0) v=0:=by
 unfold rd
 rw[List.getD_eq_getElem?_getD,List.getElem?_replicate]
 split<;>rfl
theorem balance_ev (n:Int) (b:Bool) (l:List S74) (f:List Int):Ev (fun k=>static_Balance.f k n b l f) (balRes n l f):=by
 unfold static_Balance.f balRes
 refine Ev.bind (asked_ev n b l f) ?_
 refine Ev.ite (fun h=> ?_) (fun h=> ?_)
 ·rw[if_pos h]
  obtain⟨hn,hf⟩:=askErr_ok h
  have:=hn.lo
  have:=hn.hi
  repeat(first|exact Ev.now _|with_reducible refine Ev.pos (by first|assumption|omega) ?_|with_reducible refine Ev.neg (by first|assumption|omega) ?_|with_reducible refine Ev.let_ ?_)
  obtain⟨r,hr,hrl,hrv⟩:=balance_l0 n l f hn hf l.length 0 (List.replicate n.toNat 0) (by omega) (by simp) (fun v hv=>by rw[rd_zeros];omega)
  refine Ev.eq hr ?_
  rw[List.length_replicate] at hrl hrv
  congr 1
  refine ext_rd (by rw[hrl,balOf_len]) fun v hv=> ?_
  rw[hrv v (by omega),rd_zeros,rd_balOf (by omega) (by omega),List.drop_zero,List.drop_zero]
  omega
 ·rw[if_neg h]
  exact Ev.now _
theorem check2_l0 (s t:Int) (b:List Int) (hb:b.length≤50) (hs:0≤s) (hsn:s<b.length) (d:Nat): ∀ i:Nat,i+d=b.length→
  Ev (fun k=>static_Check.l0 k s t b b (b.length:Int) (i:Int)) (if evenB s t (b.drop i) i=true then(rd b s,0) else(0,71)):=by
 induction d with
 |zero=>
  intro i hi
  refine Ev.succ ?_;simp only[static_Check.l0]
  repeat(first|exact Ev.now _|with_reducible refine Ev.pos (by first|assumption|omega) ?_|with_reducible refine Ev.neg (by first|assumption|omega) ?_|with_reducible refine Ev.let_ ?_)
  rw[List.drop_of_length_le (by omega)]
  exact Ev.now _
 |succ d ih=>
  intro i hi
  refine Ev.succ ?_;simp only[static_Check.l0]
  repeat(first|exact Ev.now _|with_reducible refine Ev.pos (by first|assumption|omega) ?_|with_reducible refine Ev.neg (by first|assumption|omega) ?_|with_reducible refine Ev.let_ ?_)
  rw[drop_getD b i 0 (by omega),rd_nat,wrap_succ (n:=b.length) (by omega) (by omega)]
  unfold evenB
  have:=ih (i+1) (by omega)
  rw[show ((i+1:Nat):Int)=(i:Int)+1 by omega] at this ⊢
  refine Ev.ite (fun g=> ?_) (fun g=> ?_)
  ·rw[if_pos g,ite_self,ite_self];exact this
  refine Ev.ite (fun g2=> ?_) (fun g2=> ?_)
  ·rw[if_pos g2];exact this
  rw[if_neg g2]
  refine Ev.ite (fun g3=> ?_) (fun g3=> ?_)
  ·rw[if_pos g3];exact this
  rw[if_neg g3,if_neg g]
  exact Ev.now _
theorem stat_value_ev (n:Int) (b:Bool) (l:List S74) (s t:Int) (f:List Int):Ev (fun k=>static_Check.f k n b l s t f) (valRes n l s t f):=by
 unfold static_Check.f valRes
 refine Ev.bind (ends_ev n b l s t) ?_
 refine Ev.ite (fun h=> ?_) (fun h=> ?_)
 ·rw[if_pos h]
  obtain⟨hn,he1,he2,he3,he4,he5⟩:=endsE_ok h
  have:=hn.lo;have:=hn.hi
  refine Ev.bind (balance_ev n b l f) ?_
  by_cases g:askErr n l f=0
  ·rw[if_pos g,balRes_ok g]
   refine Ev.pos rfl ?_
   refine Ev.eq (check2_l0 s t (balOf n l f) (by rw[balOf_len];omega) (by omega) (by rw[balOf_len];omega) _ 0 (Nat.zero_add _)) ?_
   rw[rd_balOf (by omega) (by omega),List.drop_zero]
   rfl
  ·rw[if_neg g,balRes_no g]
   exact Ev.neg g (Ev.now _)
 ·rw[if_neg h]
  exact Ev.now _
theorem pay_mul {x t:Int} (h0:0≤x) (h1:x≤1048576) (h2:0≤t) (h3:t≤1048576):0≤x * t∧x * t≤1099511627776:=by
 refine⟨Int.mul_nonneg h0 h2,?_⟩
 have:=Int.mul_le_mul h1 h3 h2 (show (0:Int)≤1048576 by decide)
 omega
theorem pay_bd {l:List S74} {F:List Int} {n:Nat} (hr:Right l F n) (d:Nat): ∀ (i:Nat),i+d=l.length→0≤payS (l.drop i) (F.drop i)∧payS (l.drop i) (F.drop i)≤1099511627776 * (d:Int):=by
 have hl:=hr.len
 induction d with
 |zero=>
  intro i hi
  rw[List.drop_of_length_le (show l.length≤i by omega),List.drop_of_length_le (show F.length≤i by omega)]
  simp[payS]
 |succ d ih=>
  intro i hi
  have hn:=hr.nums i (by omega)
  have hb:=pay_mul hn.2.2.1 (by omega) hn.1 hn.2.1
  have:=ih (i+1) (by omega)
  rw[drop_getD l i z74 (by omega),drop_getD F i 0 (by omega),H.payS_cons, ← rdArc_nat]
  omega
theorem pay_l0 {l:List S74} {F:List Int} {n:Nat} (hr:Right l F n) (d:Nat): ∀ (i:Nat) (k:Int),i+d=l.length→0≤k→k≤1099511627776 * (i:Int)→
  Ev (fun m=>span_paid.l0 m F k l (l.length:Int) (i:Int)) (k+payS (l.drop i) (F.drop i)):=by
 have hl:=hr.len
 have hl2:=hr.arcs
 induction d with
 |zero=>
  intro i k hi h0 h1
  refine Ev.succ ?_;simp only[span_paid.l0]
  refine Ev.neg (by omega) ?_
  rw[List.drop_of_length_le (show l.length≤i by omega),List.drop_of_length_le (show F.length≤i by omega)]
  exact Ev.done (by simp[payS])
 |succ d ih=>
  intro i k hi h0 h1
  have hn:=hr.nums i (by omega)
  have hb:=pay_mul hn.2.2.1 (by omega) hn.1 hn.2.1
  have e1:rd F (i:Int)=F.getD i 0:=rd_nat F i
  refine Ev.succ ?_;simp only[span_paid.l0]
  refine Ev.pos (by omega) ?_
  refine Ev.pos (by omega) ?_
  refine Ev.pos (by omega) ?_
  refine Ev.pos (by omega) ?_
  rw[e1,wrap_succ (n:=200) (by omega) (by omega),wrap_id (x:=F.getD i 0 * (rd_T74 l i).f3) (by omega) (by omega),wrap_id (x:=k+F.getD i 0 * (rd_T74 l i).f3) (by omega) (by omega)]
  refine Ev.eq (ih (i+1) _ (by omega) (by omega) (by omega)) ?_
  rw[drop_getD l i z74 (by omega),drop_getD F i 0 (by omega),H.payS_cons, ← rdArc_nat]
  omega
theorem pay_ev (n m:Int) (n0:Nat) (b:Bool) (l:List S74) (F:List Int) (hr:Right l F n0):Ev (fun m=>span_paid.f m n b l F) (payS l F):=by
 unfold span_paid.f
 have:=pay_l0 hr l.length 0 0 (by omega) (by omega) (by omega)
 exact Ev.eq this (by rw[List.drop_zero,List.drop_zero,Int.zero_add])
def horErr (h:Int):Int:=if h<0 then 1 else if h>1024 then 2 else 0
def spanErr (n:Int) (l:List S74) (s t h:Int):Int:=if endsErr n l s t=0 then horErr h else endsErr n l s t
theorem hor_ok {h:Int} (e:horErr h=0):0≤h∧h≤1024:=by
 unfold horErr at e
 split at e
 ·cases e
 ·split at e
  ·cases e
  ·omega
theorem spanErr_ok {n:Int} {l:List S74} {s t h:Int} (e:spanErr n l s t h=0):endsErr n l s t=0∧0≤h∧h≤1024:=by
 unfold spanErr at e
 by_cases g:endsErr n l s t=0
 ·rw[if_pos g] at e;exact⟨g,hor_ok e⟩
 ·rw[if_neg g] at e;exact absurd e g
theorem span_asked_ev (n:Int) (b:Bool) (l:List S74) (s t h:Int):Ev (fun k=>span_Asked.f k n b l s t h) (spanErr n l s t h):=by
 unfold span_Asked.f spanErr
 refine Ev.bind (ends_ev n b l s t) ?_
 refine Ev.ite (fun g=> ?_) (fun g=> ?_)
 ·rw[if_pos g]
  have e:span_Horizon.f h=some (horErr h):=by
   unfold span_Horizon.f horErr
   split
   ·rfl
   ·split<;>rfl
  rw[e]
  exact Ev.now _
 ·rw[if_neg g];exact Ev.now _
def worthR (n:Int) (l:List S74) (s t:Int) (F:List Int) (h:Int):Int × Int:=
 if spanErr n l s t h=0 then(if (valRes n l s t F).2=0 then(wrap64 (wrap64 (wrap64 (h+1) * (valRes n l s t F).1) - payS l F),0) else(0,(valRes n l s t F).2)) else(0,spanErr n l s t h)
theorem worth_ev (n:Int) (b:Bool) (l:List S74) (s t:Int) (F:List Int) (h:Int):Ev (fun k=>span_Worth.f k n b l s t F h) (worthR n l s t F h):=by
 unfold span_Worth.f worthR
 refine Ev.bind (span_asked_ev n b l s t h) ?_
 refine Ev.ite (fun g=> ?_) (fun g=> ?_)
 ·rw[if_pos g]
  refine Ev.bind (stat_value_ev n b l s t F) ?_
  refine Ev.ite (fun g2=> ?_) (fun g2=> ?_)
  ·rw[if_pos g2]
   obtain⟨h1,h2,_⟩:=flow_val g2
   obtain⟨n0,rfl,hr⟩:=right_of h2
   refine Ev.bind (pay_ev n0 n0 n0 b l F hr) ?_
   exact Ev.now _
  ·rw[if_neg g2];exact Ev.now _
 ·rw[if_neg g];exact Ev.now _
end Go.Proofs.Ytkcpanpdipmmmaa.Q
namespace Go.Proofs.Ytkcpanpdipmmmaa.Q
open Go.RowKit Go.Proofs.YtkcpanpdipmmmaaW.PrintWords Go.Proofs.YtkcpanpdipmmmaaW.PrintLast Go.Proofs.YtkcpanpdipmmmaaW.PrintMore Go.Proofs.Ytkcpanpdipmmmaa.P
open Go.Proofs.Ytkcpanpdipmmmaa.H (endsErr Right right_of IsFlow payS worthS SpanTop fillS fillRes fillS_top)
theorem span_top {l:List S74} {n s t:Nat} {h:Int} (hr:Right l (List.replicate l.length 0) n) (hs:s<n) (ht:t<n) (hst:s≠t) (hH:0≤h):SpanTop l (fillS l n s t h) n s t h:=(fillS_top hr hs ht hst hH).1
theorem bal_bd {l:List S74} {F:List Int} {n s t:Nat} (hf:IsFlow l F n s t) (hs:s<n) (ht:t<n) (hst:s≠t): -209715200≤bal l F s∧bal l F s≤209715200:=by
 have h1:=H.flow_top hf hs hst
 have h2:=H.flow_ends hf hs ht hst
 have h3:=H.flow_top (s:=t) (t:=s) ⟨hf.right,fun v a b c d=>hf.keeps v a b d c⟩ ht (fun e=>hst e.symm)
 omega
theorem times_bd {h v:Int} (h0:0≤h) (h1:h≤1026) (a: -209715200≤v) (b:v≤209715200): -216006656000≤(h+1) * v∧(h+1) * v≤216006656000:=by
 have e1:=Int.mul_le_mul_of_nonneg_left b (show 0≤h+1 by omega)
 have e2:=Int.mul_le_mul_of_nonneg_left a (show 0≤h+1 by omega)
 omega
theorem worth_wrap {l:List S74} {F:List Int} {n s t:Nat} {h:Int} (hf:IsFlow l F n s t) (hs:s<n) (ht:t<n) (hst:s≠t) (h0:0≤h) (h1:h≤1024):wrap64 (wrap64 (wrap64 (h+1) * bal l F s) - payS l F)=worthS l F s (h+1):=by
 obtain⟨b1,b2⟩:=bal_bd hf hs ht hst
 obtain⟨c1,c2⟩:=times_bd h0 (by omega) b1 b2
 have har:=hf.right.arcs
 obtain⟨p1,p2⟩:=pay_bd hf.right l.length 0 (by omega)
 rw[List.drop_zero,List.drop_zero] at p1 p2
 unfold worthS
 rw[wrap_id (x:=h+1) (by omega) (by omega),wrap_id (x:=(h+1) * bal l F s) (by omega) (by omega),wrap_id (by omega) (by omega)]
def sbestR (n:Int) (l:List S74) (s t h:Int):List Int × Int × Int:=
 if spanErr n l s t h=0 then(fillS l n.toNat s.toNat t.toNat h,worthS l (fillS l n.toNat s.toNat t.toNat h) s.toNat (h+1),0) else([],0,spanErr n l s t h)
def smostR (n:Int) (l:List S74) (s t h:Int):Int × Int:=
 if spanErr n l s t h=0 then(worthS l (fillS l n.toNat s.toNat t.toNat h) s.toNat (h+1),0) else(0,spanErr n l s t h)
theorem sbest_ev (n:Int) (b:Bool) (l:List S74) (s t h:Int):Ev (fun k=>span_Best.f k n b l s t h) (sbestR n l s t h):=by
 unfold span_Best.f sbestR
 refine Ev.bind (span_asked_ev n b l s t h) ?_
 by_cases g:spanErr n l s t h=0
 ·rw[if_pos g]
  refine Ev.pos g ?_
  obtain⟨g1,g2,g3⟩:=spanErr_ok g
  refine Ev.call (show span_Fill.f n b l s t h=some (fillRes l n.toNat s.toNat t.toNat h) by unfold span_Fill.f;rw[if_pos ⟨g1,g2⟩]) ?_
  obtain⟨n0,s0,t0,rfl,rfl,rfl,hs,ht,hst,hn,hr⟩:=ends_zero g1
  simp only[Int.toNat_natCast]
  have hf:=(span_top hr hs ht hst g2).ok.flow
  refine Ev.bind (value_ev n0 n0 b l _ hn (flowOk_of hf.right) s0) ?_
  refine Ev.bind (pay_ev n0 n0 n0 b l _ hf.right) ?_
  refine Ev.done ?_
  show (fillS l n0 s0 t0 h,wrap64 (wrap64 (wrap64 (h+1) * bal l (fillS l n0 s0 t0 h) s0) - payS l (fillS l n0 s0 t0 h)),(0:Int))=_
  rw[worth_wrap hf hs ht hst g2 g3]
 ·rw[if_neg g]
  refine Ev.neg g ?_
  exact Ev.now _
theorem smost_ev (n:Int) (b:Bool) (l:List S74) (s t h:Int):Ev (fun k=>span_Most.f k n b l s t h) (smostR n l s t h):=by
 unfold span_Most.f
 refine Ev.bind (sbest_ev n b l s t h) ?_
 refine Ev.done ?_
 unfold sbestR smostR
 split<;>rfl
theorem smostR_nat {l:List S74} {n s t:Nat} {h:Int} (g:spanErr (n:Int) l (s:Int) (t:Int) h=0):smostR n l s t h=(worthS l (fillS l n s t h) s (h+1),0):=by
 unfold smostR;rw[if_pos g];simp only[Int.toNat_natCast]
def line:List S74:=[(⟨0,1,2,1⟩:S74),(⟨1,2,2,1⟩:S74)]
theorem line_right:Right line (List.replicate line.length 0) 3:=by
 obtain⟨n0,h1,h2⟩:=right_of (n:=3) (l:=line) (F:=List.replicate line.length 0) (by decide +kernel)
 obtain rfl:n0=3:=by omega
 exact h2
theorem line_top (h:Int) (h0:0≤h):SpanTop line (fillS line 3 0 2 h) 3 0 2 h:=span_top line_right (by decide) (by decide) (by decide) h0
theorem line_flow:IsFlow line [2,2] 3 0 2:=by
 obtain⟨n0,h1,h2⟩:=right_of (n:=3) (l:=line) (F:=[2,2]) (by decide +kernel)
 obtain rfl:n0=3:=by omega
 refine⟨h2,fun v a b c d=> ?_⟩
 obtain rfl:v=1:=by omega
 decide +kernel
theorem line_worth {F:List Int} (hf:IsFlow line F 3 0 2) (c:Int): ∃ x:Int,0≤x∧x≤2∧worthS line F 0 c=c * x - 2 * x:=by
 have hl:F.length=2:=hf.right.len
 match F,hl with
 |[x,y],_=>
  have n0:=hf.right.nums 0 (by decide)
  have hk:=hf.keeps 1 (by decide) (by decide) (by decide) (by decide)
  have e1:bal line [x,y] 1=(0 - x)+((y - 0)+0):=rfl
  have e0:bal line [x,y] ((0:Nat):Int)=(x - 0)+((0 - 0)+0):=rfl
  have ep:payS line [x,y]=x * 1+(y * 1+0):=rfl
  have q:(0:Int)≤x∧x≤2:=by
   have e2:(rd_T74 line ((0:Nat):Int)).f2=2:=rfl
   have e3:[x,y].getD 0 0=x:=rfl
   rw[e2,e3] at n0
   omega
  refine⟨x,q.1,q.2,?_⟩
  unfold worthS
  rw[e0,ep]
  rw[e1] at hk
  have:x - 0+(0 - 0+0)=x:=by omega
  rw[this]
  omega
theorem awake12_ev:Ev (fun k=>ebbtidelaw12_awake.f k) true:=by
 have e1:spanErr 3 line 0 2 1=0:=by decide +kernel
 have e2:spanErr 3 line 0 2 5=0:=by decide +kernel
 have m1:smostR 3 line 0 2 1=(0,0):=by
  have h_:smostR 3 line 0 2 1=(worthS line (fillS line 3 0 2 1) 0 (1+1),0):=smostR_nat (n:=3) (l:=line) (s:=0) (t:=2) e1
  obtain⟨x,x0,x1,hx⟩:=line_worth (line_top 1 (by decide)).ok.flow (1+1)
  rw[h_,hx]
  have:(1+1) * x - 2 * x=0:=by omega
  rw[this]
 have m2:smostR 3 line 0 2 5=(8,0):=by
  have h_:smostR 3 line 0 2 5=(worthS line (fillS line 3 0 2 5) 0 (5+1),0):=smostR_nat (n:=3) (l:=line) (s:=0) (t:=2) e2
  obtain⟨x,x0,x1,hx⟩:=line_worth (line_top 5 (by decide)).ok.flow (5+1)
  have hle:=(line_top 5 (by decide)).le line_flow (by decide) (by decide) (by decide)
  have e8:worthS line [2,2] 0 (5+1)=8:=by decide +kernel
  rw[e8,hx] at hle
  rw[h_,hx]
  have:(5+1) * x - 2 * x=8:=by omega
  rw[this]
 have m3:worthR 3 line 0 2 [1,1] 2=(1,0):=by decide +kernel
 have m4:smostR 3 line 0 2 (-1)=(0,1):=by
  have e4:spanErr 3 line 0 2 (-1)=1:=by decide +kernel
  unfold smostR
  rw[e4]
  rfl
 unfold ebbtidelaw12_awake.f
 refine Ev.let_ ?_
 refine Ev.bind (smost_ev 3 false line 0 2 1) ?_
 refine Ev.bind (smost_ev 3 false line 0 2 5) ?_
 refine Ev.bind (worth_ev 3 false line 0 2 [1,1] 2) ?_
 refine Ev.bind (smost_ev 3 false line 0 2 (-1)) ?_
 rw[m1,m2,m3,m4]
 refine Ev.pos rfl ?_
 refine Ev.pos rfl ?_
 refine Ev.pos rfl ?_
 refine Ev.pos rfl ?_
 refine Ev.pos rfl ?_
 refine Ev.pos rfl ?_
 exact Ev.now _
end Go.Proofs.Ytkcpanpdipmmmaa.Q
namespace Go.Proofs.Ytkcpanpdipmmmaa.Q
open Go.RowKit Go.Proofs.YtkcpanpdipmmmaaW.PrintWords Go.Proofs.YtkcpanpdipmmmaaW.PrintLast Go.Proofs.YtkcpanpdipmmmaaW.PrintMore Go.Proofs.Ytkcpanpdipmmmaa.P
open Go.Proofs.Ytkcpanpdipmmmaa.H (endsErr Right right_of IsFlow payS worthS SpanTop SpanOk TightP fillS MaxF fillF sumR outR StepOf stRoom stTime toP frP)
theorem pay_zeros: ∀ l:List S74,payS l (List.replicate l.length 0)=0
 |[]=>rfl
 |a::l=>by
  show (0:Int) * a.f3+payS l (List.replicate l.length 0)=0
  rw[pay_zeros l,Int.zero_mul];rfl
theorem pay_nonneg {l:List S74} {F:List Int} {n:Nat} (hr:Right l F n):0≤payS l F∧payS l F≤219902325555200:=by
 have h:=pay_bd hr l.length 0 (by omega)
 have:=hr.arcs
 rw[List.drop_zero,List.drop_zero] at h
 omega
theorem span_nonneg {l:List S74} {F:List Int} {n s t:Nat} {h:Int} (hT:SpanTop l F n s t h) (hs:s<n) (ht:t<n) (hst:s≠t) (h0:0≤h):0≤worthS l F s (h+1)∧0≤bal l F s:=by
 obtain⟨z1,z2⟩:=H.zeros_of (s:=s) (t:=t) hT.ok.flow.right
 have hle:=hT.le z1 hs ht hst
 have e0:worthS l (List.replicate l.length 0) s (h+1)=0:=by unfold worthS;rw[z2,pay_zeros,Int.mul_zero];rfl
 rw[e0] at hle
 refine⟨hle,?_⟩
 unfold worthS at hle
 have hp:=pay_nonneg hT.ok.flow.right
 by_cases g:0≤bal l F s
 ·exact g
 ·have:=Int.mul_le_mul_of_nonneg_left (show bal l F s≤ -1 by omega) (show 0≤h+1 by omega)
  omega
theorem worth_more (l:List S74) (F:List Int) (s:Nat) (c:Int):worthS l F s (c+1)=worthS l F s c+bal l F s:=by
 unfold worthS
 rw[Int.add_mul,Int.one_mul]
 omega
theorem worth_bd {l:List S74} {F:List Int} {n s t:Nat} {h:Int} (hf:IsFlow l F n s t) (hs:s<n) (ht:t<n) (hst:s≠t) (h0:0≤h) (h1:h≤1026): -220118332211200≤worthS l F s (h+1)∧worthS l F s (h+1)≤216006656000:=by
 obtain⟨b1,b2⟩:=bal_bd hf hs ht hst
 obtain⟨c1,c2⟩:=times_bd h0 h1 b1 b2
 have hp:=pay_nonneg hf.right
 unfold worthS
 omega
theorem span_grows {l:List S74} {A B C M:List Int} {n s t:Nat} {h:Int} (hs:s<n) (ht:t<n) (hst:s≠t) (h0:0≤h) (hA:SpanTop l A n s t h) (hB:SpanTop l B n s t (h+1)) (hC:SpanTop l C n s t (h+1+1)) (hM:MaxF l M n s t):
  worthS l A s (h+1)≤worthS l B s (h+1+1)∧worthS l B s (h+1+1) - worthS l A s (h+1)≤worthS l C s (h+1+1+1) - worthS l B s (h+1+1)∧worthS l C s (h+1+1+1) - worthS l B s (h+1+1)≤bal l M s:=by
 have a0:=(span_nonneg hA hs ht hst h0).2
 have ab:=hB.le hA.ok.flow hs ht hst
 rw[worth_more] at ab
 have ba:=hA.le hB.ok.flow hs ht hst
 have eB:=worth_more l B s (h+1)
 have bc:=hC.le hB.ok.flow hs ht hst
 rw[worth_more] at bc
 have cb:=hB.le hC.ok.flow hs ht hst
 have eC:=worth_more l C s (h+1+1)
 have mc:=H.max_top hM hs hst hC.ok.flow
 omega
end Go.Proofs.Ytkcpanpdipmmmaa.Q
namespace Go.Proofs.Ytkcpanpdipmmmaa.Q
open Go.RowKit Go.Proofs.YtkcpanpdipmmmaaW.PrintWords Go.Proofs.YtkcpanpdipmmmaaW.PrintLast Go.Proofs.YtkcpanpdipmmmaaW.PrintMore Go.Proofs.Ytkcpanpdipmmmaa.P
structure EndsOk (n s t:Int):Prop where
 s0:0≤s
 t0:0≤t
 sn:s<n
 tn:t<n
 ne:s≠t
def U8 (x:Int):Prop:=(Lit.int .u8 x).wf=true
theorem u8_in {x:Int} (h:U8 x):0≤x∧x≤255:=by
 unfold U8 at h
 simp[Lit.wf,IntKind.min,IntKind.max,IntKind.signed,IntKind.bits] at h
 omega
def BitOk (b:S135):Prop:=U8 b.f0∧U8 b.f1∧U8 b.f2∧U8 b.f3
def SmallOk (x:Int × Bool × List S135 × Int × Int × Int):Prop:=
 U8 x.1∧True∧(x.2.2.1.length≤9223372036854775807∧ ∀ b∈x.2.2.1,BitOk b)∧U8 x.2.2.2.1∧U8 x.2.2.2.2.1∧U8 x.2.2.2.2.2
theorem tmod_in {x m:Int} (h0:0≤x) (hm:0<m):0≤Int.tmod x m∧Int.tmod x m<m:=⟨Int.tmod_nonneg _ h0,Int.tmod_lt_of_pos _ hm⟩
structure SmallNet (m:Int) (hold:Bool) (r:Int × Bool × List S74 × Int × Int × Int):Prop where
 lo:2≤r.1
 hi:r.1≤5
 hold:r.2.1=hold
 net:NetOk r.1 r.2.2.1
 ends:EndsOk r.1 r.2.2.2.1 r.2.2.2.2.1
 s0:0≤r.2.2.2.2.2
 s1:r.2.2.2.2.2≤7
 len:(r.2.2.1.length:Int)≤m
 arcs: ∀ a∈r.2.2.1,a.f2≤5∧a.f3≤3
theorem read_l0 (m:Int) (hm0:0≤m) (hm:m≤100) (a0:Int) (hold:Bool) (bits:List S135) (a3 a4 a5 N:Int) (hb: ∀ b∈bits,BitOk b) (h3:U8 a3) (h4:U8 a4) (h5:U8 a5) (hN0:2≤N) (hN1:N≤5) (d:Nat):
  ∀ (i:Nat) (arcs:List S74),(i:Int)+d=m→arcs.length=i→(∀ a∈arcs,ArcOk N a∧a.f2≤5∧a.f3≤3)→
   ∃ r,Ev (fun k=>ebbtidelaw12_Read.l0 k m (i:Int) a0 hold bits a3 a4 a5 N hold arcs) r∧SmallNet m hold r:=by
 have h3:=u8_in h3
 have h4:=u8_in h4
 have h5:=u8_in h5
 have w3:=tmod_in (x:=a3) (m:=N) h3.1 (by omega)
 have w4:=tmod_in (x:=a4) (m:=N - 1) h4.1 (by omega)
 have w5:=tmod_in (x:=a5) (m:=8) h5.1 (by omega)
 have wt:=tmod_in (x:=Int.tmod a3 N+1+Int.tmod a4 (N - 1)) (m:=N) (by omega) (by omega)
 have hne:Int.tmod a3 N≠Int.tmod (Int.tmod a3 N+1+Int.tmod a4 (N - 1)) N:=by
  intro e
  rw[Int.tmod_eq_emod_of_nonneg (a:=Int.tmod a3 N+1+Int.tmod a4 (N - 1)) (by omega)] at e
  generalize Int.tmod a3 N=s at *
  generalize Int.tmod a4 (N - 1)=t at *
  have h1:=Int.emod_add_mul_ediv (s+1+t) N
  rw[← e] at h1
  generalize (s+1+t) / N=q at h1
  have hcase:q≤0∨q=1∨2≤q:=by omega
  rcases hcase with hq|hq|hq
  ·have:N * q≤0:=Int.mul_nonpos_of_nonneg_of_nonpos (by omega) hq
   omega
  ·subst hq;omega
  ·have:N * 2≤N * q:=Int.mul_le_mul_of_nonneg_left hq (by omega)
   omega
 have fin: ∀ arcs:List S74,(arcs.length:Int)≤m→(∀ a∈arcs,ArcOk N a∧a.f2≤5∧a.f3≤3)→
   SmallNet m hold (N,hold,arcs,Int.tmod (wrap64 a3) N,Int.tmod (wrap64 (wrap64 (Int.tmod (wrap64 a3) N+1)+Int.tmod (wrap64 a4) (wrap64 (N - 1)))) N,Int.tmod (wrap64 a5) 8):=by
  intro arcs hl ha
  rw[wrap_id (x:=a3) (by omega) (by omega),wrap_id (x:=a4) (by omega) (by omega),wrap_id (x:=a5) (by omega) (by omega),wrap_id (x:=N - 1) (by omega) (by omega),wrap_id (x:=Int.tmod a3 N+1) (by omega) (by omega),wrap_id (by omega) (by omega)]
  exact⟨hN0,hN1,rfl,⟨by show 1≤N;omega,by show N≤50;omega,by show arcs.length≤200;omega,fun a h=>(ha a h).1⟩,⟨w3.1,wt.1,w3.2,wt.2,hne⟩,w5.1,by show Int.tmod a5 8≤7;omega,hl,fun a h=>(ha a h).2⟩
 have hw:wrap64 (N - 1)=N - 1:=wrap_id (by omega) (by omega)
 induction d with
 |zero=>
  intro i arcs hi hl ha
  refine⟨_,?_,fin arcs (by omega) ha⟩
  refine Ev.succ ?_;simp only[ebbtidelaw12_Read.l0]
  refine Ev.ite (fun g=> ?_) (fun g=> ?_)
  ·exact Ev.neg (by omega) (Ev.neg (by omega) (Ev.neg (by omega) (Ev.now _)))
  ·exact Ev.neg (by omega) (Ev.neg (by omega) (Ev.now _))
 |succ d ih=>
  intro i arcs hi hl ha
  by_cases g:(i:Int)<(bits.length:Int)
  ·have hbit:=hb (rd_T135 bits (i:Int)) (getD_mem (by omega))
   obtain⟨b0,b1,b2,b3⟩:=hbit
   have b0:=u8_in b0;have b1:=u8_in b1;have b2:=u8_in b2;have b3:=u8_in b3
   have v0:=tmod_in (m:=N) b0.1 (by omega)
   have v1:=tmod_in (m:=N) b1.1 (by omega)
   have v2:=tmod_in (m:=6) b2.1 (by omega)
   have v3:=tmod_in (m:=4) b3.1 (by omega)
   obtain⟨r,hr,hp⟩:=ih (i+1) (arcs ++ [(⟨Int.tmod (rd_T135 bits (i:Int)).f0 N,Int.tmod (rd_T135 bits (i:Int)).f1 N,Int.tmod (rd_T135 bits (i:Int)).f2 6,Int.tmod (rd_T135 bits (i:Int)).f3 4⟩:S74)]) (by omega) (by simp[hl]) (by
    intro a h
    rcases List.mem_append.1 h with h|h
    ·exact ha a h
    ·rw[List.mem_singleton.1 h]
     exact⟨⟨v0.1,v1.1,v2.1,v3.1,v0.2,v1.2,by show Int.tmod _ 6≤1048576;omega,by show Int.tmod _ 4≤1048576;omega⟩,by show Int.tmod _ 6≤5;omega,by show Int.tmod _ 4≤3;omega⟩)
   refine⟨r,?_,hp⟩
   refine Ev.succ ?_;simp only[ebbtidelaw12_Read.l0]
   refine Ev.pos g (Ev.pos (by omega) (Ev.pos (by omega) (Ev.neg (by omega) (Ev.pos (by omega) ?_))))
   rw[wrap_succ (n:=101) (by omega) (by omega),wrap_id (x:=(rd_T135 bits (i:Int)).f0) (by omega) (by omega),wrap_id (x:=(rd_T135 bits (i:Int)).f1) (by omega) (by omega),wrap_id (x:=(rd_T135 bits (i:Int)).f2) (by omega) (by omega),wrap_id (x:=(rd_T135 bits (i:Int)).f3) (by omega) (by omega)]
   exact hr
  ·refine⟨_,?_,fin arcs (by omega) ha⟩
   refine Ev.succ ?_;simp only[ebbtidelaw12_Read.l0]
   exact Ev.neg g (Ev.neg (by omega) (Ev.neg (by omega) (Ev.now _)))
theorem read_ev (m:Int) (hm0:0≤m) (hm:m≤100) (a0:Int) (hold:Bool) (bits:List S135) (a3 a4 a5:Int) (h:SmallOk (a0,hold,bits,a3,a4,a5)):
  ∃ r,Ev (fun k=>ebbtidelaw12_Read.f k a0 hold bits a3 a4 a5 m) r∧SmallNet m hold r:=by
 obtain⟨h0,_,⟨_,hb⟩,h3,h4,h5⟩:=h
 have h0':=u8_in h0
 simp only at h0'
 have w0:=tmod_in (x:=a0) (m:=4) h0'.1 (by omega)
 unfold ebbtidelaw12_Read.f
 rw[wrap_id (x:=a0) (by omega) (by omega),wrap_id (by omega) (by omega)]
 exact read_l0 m hm0 hm a0 hold bits a3 a4 a5 _ hb h3 h4 h5 (by omega) (by omega) m.toNat 0 [] (by omega) rfl (by simp)
end Go.Proofs.Ytkcpanpdipmmmaa.Q
namespace Go.Proofs.Ytkcpanpdipmmmaa.Q
open Go.RowKit Go.Proofs.YtkcpanpdipmmmaaW.PrintWords Go.Proofs.YtkcpanpdipmmmaaW.PrintLast Go.Proofs.YtkcpanpdipmmmaaW.PrintMore Go.Proofs.Ytkcpanpdipmmmaa.P
open Go.Proofs.Ytkcpanpdipmmmaa.H (endsErr Right right_of IsFlow payS worthS SpanTop fillS MaxF fillF)
theorem spanErr_of {n:Int} {l:List S74} {s t h:Int} (e:endsErr n l s t=0) (h0:0≤h) (h1:h≤1024):spanErr n l s t h=0:=by
 unfold spanErr horErr
 rw[if_pos e,if_neg (by omega),if_neg (by omega)]
theorem spanGrows_ev (a0:Int) (hold:Bool) (bits:List S135) (a3 a4 a5:Int) (hs:SmallOk (a0,hold,bits,a3,a4,a5)):Ev (fun k=>ebbtidelaw12_SpanGrows.f k a0 hold bits a3 a4 a5) true:=by
 unfold ebbtidelaw12_SpanGrows.f
 refine Ev.bind awake12_ev ?_
 refine Ev.pos rfl ?_
 obtain⟨⟨N,p,l,s,t,h⟩,hr,hn⟩:=read_ev 10 (by omega) (by omega) a0 hold bits a3 a4 a5 hs
 refine Ev.bind hr ?_
 have hnet:NetOk N l:=hn.net
 have hE:EndsOk N s t:=hn.ends
 have h0:0≤h:=hn.s0
 have h7:h≤7:=hn.s1
 have g:endsErr N l s t=0:=endsE_of hnet ⟨hE.s0,hE.sn,hE.t0,hE.tn,hE.ne⟩
 show Ev (fun k=>(span_Most.f k N p l s t h).bind _) true
 refine Ev.bind (smost_ev N p l s t h) ?_
 refine Ev.bind (smost_ev N p l s t _) ?_
 refine Ev.bind (smost_ev N p l s t _) ?_
 refine Ev.bind (most_ev N p l s t) ?_
 show Ev _ true
 simp only
 rw[wrap_id (x:=h+1) (by omega) (by omega),wrap_id (x:=h+2) (by omega) (by omega),show h+2=h+1+1 by omega]
 obtain⟨n0,s0,t0,rfl,rfl,rfl,hs,ht,hst,hn2,hr2⟩:=ends_zero g
 rw[smostR_nat (spanErr_of g h0 (by omega)),smostR_nat (spanErr_of g (show 0≤h+1 by omega) (by omega)),smostR_nat (spanErr_of g (show 0≤h+1+1 by omega) (by omega)),mostR_nat g]
 have hA:=span_top (h:=h) hr2 hs ht hst h0
 have hB:=span_top (h:=h+1) hr2 hs ht hst (by omega)
 have hC:=span_top (h:=h+1+1) hr2 hs ht hst (by omega)
 obtain⟨q1,q2,q3⟩:=span_grows hs ht hst h0 hA hB hC (max_fill hr2 hs ht hst)
 have b1:=worth_bd (h:=h) hA.ok.flow hs ht hst h0 (by omega)
 have b2:=worth_bd (h:=h+1) hB.ok.flow hs ht hst (by omega) (by omega)
 have b3:=worth_bd (h:=h+1+1) hC.ok.flow hs ht hst (by omega) (by omega)
 simp only
 rw[wrap_id (x:=worthS l (fillS l n0 s0 t0 (h+1)) s0 (h+1+1) - worthS l (fillS l n0 s0 t0 h) s0 (h+1)) (by omega) (by omega),wrap_id (x:=worthS l (fillS l n0 s0 t0 (h+1+1)) s0 (h+1+1+1) - worthS l (fillS l n0 s0 t0 (h+1)) s0 (h+1+1)) (by omega) (by omega)]
 refine Ev.pos (by first|trivial|rfl) ?_
 refine Ev.pos (by first|trivial|rfl) ?_
 refine Ev.pos (by first|trivial|rfl) ?_
 refine Ev.pos (by first|trivial|rfl) ?_
 refine Ev.pos q1 ?_
 refine Ev.pos q2 ?_
 exact Ev.done (by simp only[decide_eq_true_eq];first|exact q3|exact decide_eq_true q3)
end Go.Proofs.Ytkcpanpdipmmmaa.Q
