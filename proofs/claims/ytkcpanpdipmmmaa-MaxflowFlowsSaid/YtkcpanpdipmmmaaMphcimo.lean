/- What the law's row needs of these texts, taken out of them by wip/tool/mini.py: P126 QOpen QLevelLaw QCheckRef QMostLaw QAwake09 QLMaxflow. -/
import Derived.Test.YtkcpanpdipmmmaaMkkdfci
import Derived.Test.YtkcpanpdipmmmaaMdlghjd
import Derived.Test.YtkcpanpdipmmmaaMlmgnek
import Derived.Test.YtkcpanpdipmmmaaVjjipkf
import Derived.Deep.Slices
import Derived.Deep.Fields
import Derived.ChangeSame
import Derived.ChangeArms
import Derived.OpenShut
import Derived.Test.YtkcpanpdipmmmaaMepgmgf
set_option linter.unusedVariables false
set_option linter.unusedSimpArgs false
namespace Go.Proofs.Ytkcpanpdipmmmaa.P
open Go.RowKit Go.Proofs.YtkcpanpdipmmmaaW.PrintWords Go.Proofs.YtkcpanpdipmmmaaW.PrintLast Go.Proofs.YtkcpanpdipmmmaaW.PrintMore
attribute [local go_sem] max2_int min2_int max_two min_two max_three min_three max_four min_four
def ebbtidelaw09_MaxflowFlows.f (k:Nat) (a0_0:Int) (a0_1:Bool) (l0_2:List (S74)) (a1:Int) (a2:Int):Option (Bool):=(ebbtidelaw09_awake.f k).bind fun t967=>(if t967=true then((maxflow_Max.f k a0_0 a0_1 l0_2 a1 a2).bind fun bt968=>((maxflow_Most.f k a0_0 a0_1 l0_2 a1 a2).bind fun bt973=>(if bt968.2.2=0 then((ebbtideref07_Check.f k a0_0 a0_1 l0_2 a1 a2 bt968.1).bind fun bt975=>((ebbtideref08_Path.f k a0_0 a0_1 l0_2 bt968.1 a1 a2).bind fun bt977=>(if bt973.2=0 then(if bt975.2=0 then(if bt977.2.2=0 then(if bt975.1=bt968.2.1 then(if bt973.1=bt968.2.1 then(some (!bt977.2.1)) else(some false)) else(some false)) else(some false)) else(some false)) else(some false)))) else(if bt968.2.2=bt973.2 then((ebbtideref07_Ends.f k a0_0 a0_1 l0_2 a1 a2).bind fun t982=>(if bt968.2.2=t982 then(if (bt968.1.length:Int)=0 then(if bt968.2.1=0 then(some (bt973.1 == 0)) else(some false)) else(some false)) else(some false))) else(some false))))) else(some false))
set_option maxHeartbeats 8000000 in
set_option maxRecDepth 100000 in
theorem ebbtidelaw09_MaxflowFlows.calls (k:Nat) (a0_0:Int) (a0_1:Bool) (A0_2:Option Addr) (c0_2:Nat) (l0_2:List (S74)) (a1:Int) (a2:Int) (r:Bool) (w:World) (hr0_2:Kd.C k74 w A0_2 l0_2.length l0_2) (hc0_2:l0_2.length≤c0_2) (h:ebbtidelaw09_MaxflowFlows.f k a0_0 a0_1 l0_2 a1 a2=some r) (hrT_:r=true:=by first|rfl|exact Aside0.out (by assumption)):
  Calls Try.prog 20 #[.agg #[.int .i64 a0_0, .bool a0_1, .slice A0_2 l0_2.length c0_2], .int .i64 a1, .int .i64 a2] w fun e w'=>e= .returned (.bool r)∧Below w.heap.size w w':=by
 have HRT:=Aside0.mk hrT_
 clear hrT_
 have hu24:=Try.underlying24
 have HR0_2:=Aside0.mk hr0_2
 have HC0_2:=Aside0.mk hc0_2
 clear hr0_2 hc0_2
 have HB:=Aside0.mk (Below.refl w.heap.size w)
 have H:((ebbtidelaw09_awake.f k).bind fun t967=>(if t967=true then((maxflow_Max.f k a0_0 a0_1 l0_2 a1 a2).bind fun bt968=>((maxflow_Most.f k a0_0 a0_1 l0_2 a1 a2).bind fun bt973=>(if bt968.2.2=0 then((ebbtideref07_Check.f k a0_0 a0_1 l0_2 a1 a2 bt968.1).bind fun bt975=>((ebbtideref08_Path.f k a0_0 a0_1 l0_2 bt968.1 a1 a2).bind fun bt977=>(if bt973.2=0 then(if bt975.2=0 then(if bt977.2.2=0 then(if bt975.1=bt968.2.1 then(if bt973.1=bt968.2.1 then(some (!bt977.2.1)) else(some false)) else(some false)) else(some false)) else(some false)) else(some false)))) else(if bt968.2.2=bt973.2 then((ebbtideref07_Ends.f k a0_0 a0_1 l0_2 a1 a2).bind fun t982=>(if bt968.2.2=t982 then(if (bt968.1.length:Int)=0 then(if bt968.2.1=0 then(some (bt973.1 == 0)) else(some false)) else(some false)) else(some false))) else(some false))))) else(some false)))=some r:=h
 clear h
 replace H:=Option.bind_eq_some_iff.mp H
 obtain⟨t967,A40,H⟩:=H
 replace H:(if t967=true then((maxflow_Max.f k a0_0 a0_1 l0_2 a1 a2).bind fun bt968=>((maxflow_Most.f k a0_0 a0_1 l0_2 a1 a2).bind fun bt973=>(if bt968.2.2=0 then((ebbtideref07_Check.f k a0_0 a0_1 l0_2 a1 a2 bt968.1).bind fun bt975=>((ebbtideref08_Path.f k a0_0 a0_1 l0_2 bt968.1 a1 a2).bind fun bt977=>(if bt973.2=0 then(if bt975.2=0 then(if bt977.2.2=0 then(if bt975.1=bt968.2.1 then(if bt973.1=bt968.2.1 then(some (!bt977.2.1)) else(some false)) else(some false)) else(some false)) else(some false)) else(some false)))) else(if bt968.2.2=bt973.2 then((ebbtideref07_Ends.f k a0_0 a0_1 l0_2 a1 a2).bind fun t982=>(if bt968.2.2=t982 then(if (bt968.1.length:Int)=0 then(if bt968.2.1=0 then(some (bt973.1 == 0)) else(some false)) else(some false)) else(some false))) else(some false))))) else(some false))=some r:=H
 have A4:=Aside0.mk A40
 clear A40
 by_cases c5:t967=true
 rotate_left
 ·replace c5:=Bool.eq_false_iff.mpr c5
  subst c5
  have H1:(some false)=some r:=by rw[if_neg (show ¬ (false=true) by decide)] at H;exact H
  exact absurd (Option.some.inj H1) (by rw[HRT.out];decide)
 subst c5
 have H1:((maxflow_Max.f k a0_0 a0_1 l0_2 a1 a2).bind fun bt968=>((maxflow_Most.f k a0_0 a0_1 l0_2 a1 a2).bind fun bt973=>(if bt968.2.2=0 then((ebbtideref07_Check.f k a0_0 a0_1 l0_2 a1 a2 bt968.1).bind fun bt975=>((ebbtideref08_Path.f k a0_0 a0_1 l0_2 bt968.1 a1 a2).bind fun bt977=>(if bt973.2=0 then(if bt975.2=0 then(if bt977.2.2=0 then(if bt975.1=bt968.2.1 then(if bt973.1=bt968.2.1 then(some (!bt977.2.1)) else(some false)) else(some false)) else(some false)) else(some false)) else(some false)))) else(if bt968.2.2=bt973.2 then((ebbtideref07_Ends.f k a0_0 a0_1 l0_2 a1 a2).bind fun t982=>(if bt968.2.2=t982 then(if (bt968.1.length:Int)=0 then(if bt968.2.1=0 then(some (bt973.1 == 0)) else(some false)) else(some false)) else(some false))) else(some false)))))=some r:=by first|(rw[if_pos rfl] at H;exact H)|(rw[if_pos trivial] at H;exact H)
 clear H
 have H:=H1
 clear H1
 replace H:=Option.bind_eq_some_iff.mp H
 obtain⟨⟨t968,t971,t972⟩,A60,H⟩:=H
 replace H:((maxflow_Most.f k a0_0 a0_1 l0_2 a1 a2).bind fun bt973=>(if t972=0 then((ebbtideref07_Check.f k a0_0 a0_1 l0_2 a1 a2 t968).bind fun bt975=>((ebbtideref08_Path.f k a0_0 a0_1 l0_2 t968 a1 a2).bind fun bt977=>(if bt973.2=0 then(if bt975.2=0 then(if bt977.2.2=0 then(if bt975.1=t971 then(if bt973.1=t971 then(some (!bt977.2.1)) else(some false)) else(some false)) else(some false)) else(some false)) else(some false)))) else(if t972=bt973.2 then((ebbtideref07_Ends.f k a0_0 a0_1 l0_2 a1 a2).bind fun t982=>(if t972=t982 then(if (t968.length:Int)=0 then(if t971=0 then(some (bt973.1 == 0)) else(some false)) else(some false)) else(some false))) else(some false))))=some r:=H
 have A6:=Aside0.mk A60
 clear A60
 replace H:=Option.bind_eq_some_iff.mp H
 obtain⟨⟨t973,t974⟩,A70,H⟩:=H
 replace H:(if t972=0 then((ebbtideref07_Check.f k a0_0 a0_1 l0_2 a1 a2 t968).bind fun bt975=>((ebbtideref08_Path.f k a0_0 a0_1 l0_2 t968 a1 a2).bind fun bt977=>(if t974=0 then(if bt975.2=0 then(if bt977.2.2=0 then(if bt975.1=t971 then(if t973=t971 then(some (!bt977.2.1)) else(some false)) else(some false)) else(some false)) else(some false)) else(some false)))) else(if t972=t974 then((ebbtideref07_Ends.f k a0_0 a0_1 l0_2 a1 a2).bind fun t982=>(if t972=t982 then(if (t968.length:Int)=0 then(if t971=0 then(some (t973 == 0)) else(some false)) else(some false)) else(some false))) else(some false)))=some r:=H
 have A7:=Aside0.mk A70
 clear A70
 by_cases c8:t972=0
 rotate_left
 ·rw[if_neg c8] at H
  have c8b0:(t972 == 0)=false:=beq_eq_false_iff_ne.mpr c8
  have c8b1:(t972 != 0)=true:=bne_iff_ne.mpr c8
  by_cases c82:t972=t974
  rotate_left
  ·rw[if_neg c82] at H
   exact absurd (Option.some.inj H) (by rw[HRT.out];decide)
  rw[if_pos c82] at H
  have c82b0:(t972 == t974)=true:=beq_iff_eq.mpr c82
  have c82b1:(t972 != t974)=false:=bne_eq_false_iff_eq.mpr c82
  clear c82
  replace H:=Option.bind_eq_some_iff.mp H
  obtain⟨t982,A830,H⟩:=H
  replace H:(if t972=t982 then(if (t968.length:Int)=0 then(if t971=0 then(some (t973 == 0)) else(some false)) else(some false)) else(some false))=some r:=H
  have A83:=Aside0.mk A830
  clear A830
  by_cases c84:t972=t982
  rotate_left
  ·rw[if_neg c84] at H
   exact absurd (Option.some.inj H) (by rw[HRT.out];decide)
  rw[if_pos c84] at H
  have c84b0:(t972 == t982)=true:=beq_iff_eq.mpr c84
  have c84b1:(t972 != t982)=false:=bne_eq_false_iff_eq.mpr c84
  clear c84
  by_cases c85:(t968.length:Int)=0
  rotate_left
  ·rw[if_neg c85] at H
   exact absurd (Option.some.inj H) (by rw[HRT.out];decide)
  rw[if_pos c85] at H
  have c85b0:((t968.length:Int) == 0)=true:=beq_iff_eq.mpr c85
  have c85b1:((t968.length:Int) != 0)=false:=bne_eq_false_iff_eq.mpr c85
  clear c85
  by_cases c86:t971=0
  rotate_left
  ·rw[if_neg c86] at H
   exact absurd (Option.some.inj H) (by rw[HRT.out];decide)
  rw[if_pos c86] at H
  have c86b0:(t971 == 0)=true:=beq_iff_eq.mpr c86
  have c86b1:(t971 != 0)=false:=bne_eq_false_iff_eq.mpr c86
  clear c86
  obtain rfl:=Option.some.inj H
  go_enter Try.func20,Try.ntmps20
  go_wp2_with (first|((with_reducible refine gate_dst (N:=3) rfl ?_);(try (refine gate_guard (by rfl) ?_;dsimp only));refine box_event ?hg (N:=3) ?hd (cs:= #[.int .i64 a0_0, .bool a0_1, .slice A0_2 l0_2.length c0_2]) (t:=24) ?hr ?_;(case hd=>rfl);(case hg=>rfl);(case hr=>first|(go_simp;done)|(go_simp;rfl));intro gb966 hg w87 hbox hb;have n0_:=Aside0.mk (below_step HB.out hb);have n1_:=Aside0.mk (hbox);have n2_:=Aside0.mk ((by rw[hg];exact(below_size HB.out):w.heap.size≤gb966));have n3_:=Aside0.mk ((by rw[hg];exact(below_size HB.out):w.heap.size≤gb966));clear HB;have HB:=n0_;have BK966:=n1_;have GW966:=n2_;have GE966:=n3_;clear n0_ n1_ n2_ n3_;clear hb hbox hg)|((with_reducible refine gate_callee (f:=75) rfl ?_);refine goesL_ (some 18) rfl rfl Try.func75 (by kernel_rfl) rfl #[] rfl (by(try simp only[List.map_toArray,List.map_cons,List.map_nil]);first|done|rfl|(simp only[List.length_drop,List.length_take];rfl)) ?_;(with_reducible refine(ebbtidelaw09_awake.calls k  true _ A4.out).mono ?_);rintro e w88 ⟨rfl,hb⟩;refine⟨_,rfl,?_⟩;have n0_:=Aside0.mk (blk_below BK966.out hb);have n1_:=Aside0.mk (below_step HB.out hb);clear BK966;clear HB;have BK966:=n0_;have HB:=n1_;clear n0_ n1_;(try clear hb);(try clear hb2);(try clear hk);(try clear hi);have hcz89_0:w88.cell? ⟨gb966,0,none⟩=some (.int .i64 a0_0):=(blk_cell BK966.out 0).trans rfl;have hcz89_1:w88.cell? ⟨gb966,1,none⟩=some (.bool a0_1):=(blk_cell BK966.out 1).trans rfl;have hcz89_2:w88.cell? ⟨gb966,2,none⟩=some (.slice A0_2 l0_2.length c0_2):=(blk_cell BK966.out 2).trans rfl;have hfz89_0:=blk_frozen BK966.out 0;have hfz89_1:=blk_frozen BK966.out 1;have hfz89_2:=blk_frozen BK966.out 2)|((with_reducible refine gate_callee (f:=76) rfl ?_);refine goesL_ (some 25) rfl rfl Try.func76 (by kernel_rfl) rfl #[.agg #[.int .i64 a0_0, .bool a0_1, .slice A0_2 l0_2.length c0_2], .int .i64 a1, .int .i64 a2] rfl (by(try simp only[List.map_toArray,List.map_cons,List.map_nil]);first|done|rfl|(simp only[List.length_drop,List.length_take];rfl)) ?_;(with_reducible refine(maxflow_Max.calls k a0_0 a0_1 _ _ l0_2 a1 a2 t968 t971 t972 _ ?side1 ?side2 A6.out).mono ?_);(case side1=>repeat(first|exact(Kd.C_below HR0_2.out HB.out)|(with_reducible refine Kd.C_alloc ?_ _)|(with_reducible refine Kd.C_drewN ?_ _)|(with_reducible refine Kd.C_drew ?_)));(case side2=>exact HC0_2.out);rintro e w90 ⟨v969,rfl,ho0,hb⟩;refine⟨_,rfl,?_⟩;have n0_:=Aside0.mk (Kd.R_lower ho0 (below_size HB.out));have n1_:=Aside0.mk (blk_below BK966.out hb);have n2_:=Aside0.mk (below_step HB.out hb);clear BK966;clear HB;have HO970:=n0_;have BK966:=n1_;have HB:=n2_;clear n0_ n1_ n2_;(try clear hb);(try clear hb2);(try clear hk);(try clear hi);(try clear ho0);have hcz91_0:w90.cell? ⟨gb966,0,none⟩=some (.int .i64 a0_0):=(blk_cell BK966.out 0).trans rfl;have hcz91_1:w90.cell? ⟨gb966,1,none⟩=some (.bool a0_1):=(blk_cell BK966.out 1).trans rfl;have hcz91_2:w90.cell? ⟨gb966,2,none⟩=some (.slice A0_2 l0_2.length c0_2):=(blk_cell BK966.out 2).trans rfl;have hfz91_0:=blk_frozen BK966.out 0;have hfz91_1:=blk_frozen BK966.out 1;have hfz91_2:=blk_frozen BK966.out 2)|((with_reducible refine gate_callee (f:=73) rfl ?_);refine goesL_ (some 33) rfl rfl Try.func73 (by kernel_rfl) rfl #[.agg #[.int .i64 a0_0, .bool a0_1, .slice A0_2 l0_2.length c0_2], .int .i64 a1, .int .i64 a2] rfl (by(try simp only[List.map_toArray,List.map_cons,List.map_nil]);first|done|rfl|(simp only[List.length_drop,List.length_take];rfl)) ?_;(with_reducible refine(maxflow_Most.calls k a0_0 a0_1 _ _ l0_2 a1 a2 t973 t974 _ ?side1 ?side2 A7.out).mono ?_);(case side1=>repeat(first|exact(Kd.C_below HR0_2.out HB.out)|(with_reducible refine Kd.C_alloc ?_ _)|(with_reducible refine Kd.C_drewN ?_ _)|(with_reducible refine Kd.C_drew ?_)));(case side2=>exact HC0_2.out);rintro e w92 ⟨rfl,hb⟩;refine⟨_,rfl,?_⟩;have n0_:=Aside0.mk (Kd.R_below HO970.out hb);have n1_:=Aside0.mk (blk_below BK966.out hb);have n2_:=Aside0.mk (below_step HB.out hb);clear HO970;clear BK966;clear HB;have HO970:=n0_;have BK966:=n1_;have HB:=n2_;clear n0_ n1_ n2_;(try clear hb);(try clear hb2);(try clear hk);(try clear hi);have hcz93_0:w92.cell? ⟨gb966,0,none⟩=some (.int .i64 a0_0):=(blk_cell BK966.out 0).trans rfl;have hcz93_1:w92.cell? ⟨gb966,1,none⟩=some (.bool a0_1):=(blk_cell BK966.out 1).trans rfl;have hcz93_2:w92.cell? ⟨gb966,2,none⟩=some (.slice A0_2 l0_2.length c0_2):=(blk_cell BK966.out 2).trans rfl;have hfz93_0:=blk_frozen BK966.out 0;have hfz93_1:=blk_frozen BK966.out 1;have hfz93_2:=blk_frozen BK966.out 2)|(go_at_call 77;(with_reducible refine(ebbtideref07_Ends.calls k a0_0 a0_1 _ _ l0_2 a1 a2 t982 _ ?side1 ?side2 A83.out).mono ?_);(case side1=>repeat(first|exact(Kd.C_below HR0_2.out HB.out)|(with_reducible refine Kd.C_alloc ?_ _)|(with_reducible refine Kd.C_drewN ?_ _)|(with_reducible refine Kd.C_drew ?_)));(case side2=>exact HC0_2.out);rintro e w94 ⟨rfl,hb⟩;have n0_:=Aside0.mk (Kd.R_below HO970.out hb);have n1_:=Aside0.mk (blk_below BK966.out hb);have n2_:=Aside0.mk (below_step HB.out hb);clear HO970;clear BK966;clear HB;have HO970:=n0_;have BK966:=n1_;have HB:=n2_;clear n0_ n1_ n2_;(try clear hb);(try clear hb2);(try clear hk);(try clear hi);obtain⟨Ao95,co95,eo95⟩:=Kd.R_slice HO970.out;subst eo95))
  go_ret
  exact⟨by first|rfl|(simp[errW_none,errW_some]<;>rfl)|(simp[*,errW_none,errW_some]<;>rfl),HB.out⟩
 rw[if_pos c8] at H
 have c8b0:(t972 == 0)=true:=beq_iff_eq.mpr c8
 have c8b1:(t972 != 0)=false:=bne_eq_false_iff_eq.mpr c8
 clear c8
 replace H:=Option.bind_eq_some_iff.mp H
 obtain⟨⟨t975,t976⟩,A90,H⟩:=H
 replace H:((ebbtideref08_Path.f k a0_0 a0_1 l0_2 t968 a1 a2).bind fun bt977=>(if t974=0 then(if t976=0 then(if bt977.2.2=0 then(if t975=t971 then(if t973=t971 then(some (!bt977.2.1)) else(some false)) else(some false)) else(some false)) else(some false)) else(some false)))=some r:=H
 have A9:=Aside0.mk A90
 clear A90
 replace H:=Option.bind_eq_some_iff.mp H
 obtain⟨⟨t977,t980,t981⟩,A100,H⟩:=H
 replace H:(if t974=0 then(if t976=0 then(if t981=0 then(if t975=t971 then(if t973=t971 then(some (!t980)) else(some false)) else(some false)) else(some false)) else(some false)) else(some false))=some r:=H
 have A10:=Aside0.mk A100
 clear A100
 by_cases c11:t974=0
 rotate_left
 ·rw[if_neg c11] at H
  exact absurd (Option.some.inj H) (by rw[HRT.out];decide)
 rw[if_pos c11] at H
 have c11b0:(t974 == 0)=true:=beq_iff_eq.mpr c11
 have c11b1:(t974 != 0)=false:=bne_eq_false_iff_eq.mpr c11
 clear c11
 by_cases c12:t976=0
 rotate_left
 ·rw[if_neg c12] at H
  exact absurd (Option.some.inj H) (by rw[HRT.out];decide)
 rw[if_pos c12] at H
 have c12b0:(t976 == 0)=true:=beq_iff_eq.mpr c12
 have c12b1:(t976 != 0)=false:=bne_eq_false_iff_eq.mpr c12
 clear c12
 by_cases c13:t981=0
 rotate_left
 ·rw[if_neg c13] at H
  exact absurd (Option.some.inj H) (by rw[HRT.out];decide)
 rw[if_pos c13] at H
 have c13b0:(t981 == 0)=true:=beq_iff_eq.mpr c13
 have c13b1:(t981 != 0)=false:=bne_eq_false_iff_eq.mpr c13
 clear c13
 by_cases c14:t975=t971
 rotate_left
 ·rw[if_neg c14] at H
  exact absurd (Option.some.inj H) (by rw[HRT.out];decide)
 rw[if_pos c14] at H
 have c14b0:(t975 == t971)=true:=beq_iff_eq.mpr c14
 have c14b1:(t975 != t971)=false:=bne_eq_false_iff_eq.mpr c14
 clear c14
 by_cases c15:t973=t971
 rotate_left
 ·rw[if_neg c15] at H
  exact absurd (Option.some.inj H) (by rw[HRT.out];decide)
 rw[if_pos c15] at H
 have c15b0:(t973 == t971)=true:=beq_iff_eq.mpr c15
 have c15b1:(t973 != t971)=false:=bne_eq_false_iff_eq.mpr c15
 clear c15
 obtain rfl:=Option.some.inj H
 go_enter Try.func20,Try.ntmps20
 go_wp2_with (first|((with_reducible refine gate_dst (N:=3) rfl ?_);(try (refine gate_guard (by rfl) ?_;dsimp only));refine box_event ?hg (N:=3) ?hd (cs:= #[.int .i64 a0_0, .bool a0_1, .slice A0_2 l0_2.length c0_2]) (t:=24) ?hr ?_;(case hd=>rfl);(case hg=>rfl);(case hr=>first|(go_simp;done)|(go_simp;rfl));intro gb966 hg w16 hbox hb;have n0_:=Aside0.mk (below_step HB.out hb);have n1_:=Aside0.mk (hbox);have n2_:=Aside0.mk ((by rw[hg];exact(below_size HB.out):w.heap.size≤gb966));have n3_:=Aside0.mk ((by rw[hg];exact(below_size HB.out):w.heap.size≤gb966));clear HB;have HB:=n0_;have BK966:=n1_;have GW966:=n2_;have GE966:=n3_;clear n0_ n1_ n2_ n3_;clear hb hbox hg)|((with_reducible refine gate_callee (f:=75) rfl ?_);refine goesL_ (some 18) rfl rfl Try.func75 (by kernel_rfl) rfl #[] rfl (by(try simp only[List.map_toArray,List.map_cons,List.map_nil]);first|done|rfl|(simp only[List.length_drop,List.length_take];rfl)) ?_;(with_reducible refine(ebbtidelaw09_awake.calls k  true _ A4.out).mono ?_);rintro e w17 ⟨rfl,hb⟩;refine⟨_,rfl,?_⟩;have n0_:=Aside0.mk (blk_below BK966.out hb);have n1_:=Aside0.mk (below_step HB.out hb);clear BK966;clear HB;have BK966:=n0_;have HB:=n1_;clear n0_ n1_;(try clear hb);(try clear hb2);(try clear hk);(try clear hi);have hcz18_0:w17.cell? ⟨gb966,0,none⟩=some (.int .i64 a0_0):=(blk_cell BK966.out 0).trans rfl;have hcz18_1:w17.cell? ⟨gb966,1,none⟩=some (.bool a0_1):=(blk_cell BK966.out 1).trans rfl;have hcz18_2:w17.cell? ⟨gb966,2,none⟩=some (.slice A0_2 l0_2.length c0_2):=(blk_cell BK966.out 2).trans rfl;have hfz18_0:=blk_frozen BK966.out 0;have hfz18_1:=blk_frozen BK966.out 1;have hfz18_2:=blk_frozen BK966.out 2)|((with_reducible refine gate_callee (f:=76) rfl ?_);refine goesL_ (some 25) rfl rfl Try.func76 (by kernel_rfl) rfl #[.agg #[.int .i64 a0_0, .bool a0_1, .slice A0_2 l0_2.length c0_2], .int .i64 a1, .int .i64 a2] rfl (by(try simp only[List.map_toArray,List.map_cons,List.map_nil]);first|done|rfl|(simp only[List.length_drop,List.length_take];rfl)) ?_;(with_reducible refine(maxflow_Max.calls k a0_0 a0_1 _ _ l0_2 a1 a2 t968 t971 t972 _ ?side1 ?side2 A6.out).mono ?_);(case side1=>repeat(first|exact(Kd.C_below HR0_2.out HB.out)|(with_reducible refine Kd.C_alloc ?_ _)|(with_reducible refine Kd.C_drewN ?_ _)|(with_reducible refine Kd.C_drew ?_)));(case side2=>exact HC0_2.out);rintro e w19 ⟨v969,rfl,ho0,hb⟩;refine⟨_,rfl,?_⟩;have n0_:=Aside0.mk (Kd.R_lower ho0 (below_size HB.out));have n1_:=Aside0.mk (blk_below BK966.out hb);have n2_:=Aside0.mk (below_step HB.out hb);clear BK966;clear HB;have HO970:=n0_;have BK966:=n1_;have HB:=n2_;clear n0_ n1_ n2_;(try clear hb);(try clear hb2);(try clear hk);(try clear hi);(try clear ho0);have hcz20_0:w19.cell? ⟨gb966,0,none⟩=some (.int .i64 a0_0):=(blk_cell BK966.out 0).trans rfl;have hcz20_1:w19.cell? ⟨gb966,1,none⟩=some (.bool a0_1):=(blk_cell BK966.out 1).trans rfl;have hcz20_2:w19.cell? ⟨gb966,2,none⟩=some (.slice A0_2 l0_2.length c0_2):=(blk_cell BK966.out 2).trans rfl;have hfz20_0:=blk_frozen BK966.out 0;have hfz20_1:=blk_frozen BK966.out 1;have hfz20_2:=blk_frozen BK966.out 2)|((with_reducible refine gate_callee (f:=73) rfl ?_);refine goesL_ (some 33) rfl rfl Try.func73 (by kernel_rfl) rfl #[.agg #[.int .i64 a0_0, .bool a0_1, .slice A0_2 l0_2.length c0_2], .int .i64 a1, .int .i64 a2] rfl (by(try simp only[List.map_toArray,List.map_cons,List.map_nil]);first|done|rfl|(simp only[List.length_drop,List.length_take];rfl)) ?_;(with_reducible refine(maxflow_Most.calls k a0_0 a0_1 _ _ l0_2 a1 a2 t973 t974 _ ?side1 ?side2 A7.out).mono ?_);(case side1=>repeat(first|exact(Kd.C_below HR0_2.out HB.out)|(with_reducible refine Kd.C_alloc ?_ _)|(with_reducible refine Kd.C_drewN ?_ _)|(with_reducible refine Kd.C_drew ?_)));(case side2=>exact HC0_2.out);rintro e w21 ⟨rfl,hb⟩;refine⟨_,rfl,?_⟩;have n0_:=Aside0.mk (Kd.R_below HO970.out hb);have n1_:=Aside0.mk (blk_below BK966.out hb);have n2_:=Aside0.mk (below_step HB.out hb);clear HO970;clear BK966;clear HB;have HO970:=n0_;have BK966:=n1_;have HB:=n2_;clear n0_ n1_ n2_;(try clear hb);(try clear hb2);(try clear hk);(try clear hi);have hcz22_0:w21.cell? ⟨gb966,0,none⟩=some (.int .i64 a0_0):=(blk_cell BK966.out 0).trans rfl;have hcz22_1:w21.cell? ⟨gb966,1,none⟩=some (.bool a0_1):=(blk_cell BK966.out 1).trans rfl;have hcz22_2:w21.cell? ⟨gb966,2,none⟩=some (.slice A0_2 l0_2.length c0_2):=(blk_cell BK966.out 2).trans rfl;have hfz22_0:=blk_frozen BK966.out 0;have hfz22_1:=blk_frozen BK966.out 1;have hfz22_2:=blk_frozen BK966.out 2;obtain⟨Ao23,co23,eo23⟩:=Kd.R_slice HO970.out;subst eo23)|((with_reducible refine gate_callee (f:=60) rfl ?_);refine goesL_ (some 70) rfl rfl Try.func60 (by kernel_rfl) rfl #[.agg #[.int .i64 a0_0, .bool a0_1, .slice A0_2 l0_2.length c0_2], .int .i64 a1, .int .i64 a2, .slice Ao23 t968.length co23] rfl (by(try simp only[List.map_toArray,List.map_cons,List.map_nil]);first|done|rfl|(simp only[List.length_drop,List.length_take];rfl)) ?_;(with_reducible refine(ebbtideref07_Check.calls k a0_0 a0_1 _ _ l0_2 a1 a2 _ _ t968 t975 t976 _ ?side1 ?side2 ?side3 ?side4 A9.out).mono ?_);(case side1=>repeat(first|exact(Kd.C_below HR0_2.out HB.out)|(with_reducible refine Kd.C_alloc ?_ _)|(with_reducible refine Kd.C_drewN ?_ _)|(with_reducible refine Kd.C_drew ?_)));(case side2=>exact HC0_2.out);(case side3=>repeat(first|exact(Kd.R_reads' HO970.out).2.2|(with_reducible refine Kd.C_alloc ?_ _)|(with_reducible refine Kd.C_drewN ?_ _)|(with_reducible refine Kd.C_drew ?_)));(case side4=>exact(Kd.R_reads' HO970.out).2.1);rintro e w24 ⟨rfl,hb⟩;refine⟨_,rfl,?_⟩;have n0_:=Aside0.mk (Kd.R_below HO970.out hb);have n1_:=Aside0.mk (blk_below BK966.out hb);have n2_:=Aside0.mk (below_step HB.out hb);clear HO970;clear BK966;clear HB;have HO970:=n0_;have BK966:=n1_;have HB:=n2_;clear n0_ n1_ n2_;(try clear hb);(try clear hb2);(try clear hk);(try clear hi);have hcz25_0:w24.cell? ⟨gb966,0,none⟩=some (.int .i64 a0_0):=(blk_cell BK966.out 0).trans rfl;have hcz25_1:w24.cell? ⟨gb966,1,none⟩=some (.bool a0_1):=(blk_cell BK966.out 1).trans rfl;have hcz25_2:w24.cell? ⟨gb966,2,none⟩=some (.slice A0_2 l0_2.length c0_2):=(blk_cell BK966.out 2).trans rfl;have hfz25_0:=blk_frozen BK966.out 0;have hfz25_1:=blk_frozen BK966.out 1;have hfz25_2:=blk_frozen BK966.out 2)|((with_reducible refine gate_callee (f:=57) rfl ?_);refine goesL_ (some 78) rfl rfl Try.func57 (by kernel_rfl) rfl #[.agg #[.int .i64 a0_0, .bool a0_1, .slice A0_2 l0_2.length c0_2], .slice Ao23 t968.length co23, .int .i64 a1, .int .i64 a2] rfl (by(try simp only[List.map_toArray,List.map_cons,List.map_nil]);first|done|rfl|(simp only[List.length_drop,List.length_take];rfl)) ?_;(with_reducible refine(ebbtideref08_Path.calls k a0_0 a0_1 _ _ l0_2 _ _ t968 a1 a2 t977 t980 t981 _ ?side1 ?side2 ?side3 ?side4 A10.out).mono ?_);(case side1=>repeat(first|exact(Kd.C_below HR0_2.out HB.out)|(with_reducible refine Kd.C_alloc ?_ _)|(with_reducible refine Kd.C_drewN ?_ _)|(with_reducible refine Kd.C_drew ?_)));(case side2=>exact HC0_2.out);(case side3=>repeat(first|exact(Kd.R_reads' HO970.out).2.2|(with_reducible refine Kd.C_alloc ?_ _)|(with_reducible refine Kd.C_drewN ?_ _)|(with_reducible refine Kd.C_drew ?_)));(case side4=>exact(Kd.R_reads' HO970.out).2.1);rintro e w26 ⟨v978,rfl,ho0,hb⟩;refine⟨_,rfl,?_⟩;have n0_:=Aside0.mk (Kd.R_below HO970.out hb);have n1_:=Aside0.mk (Kd.R_lower ho0 (below_size HB.out));have n2_:=Aside0.mk (blk_below BK966.out hb);have n3_:=Aside0.mk (below_step HB.out hb);clear HO970;clear BK966;clear HB;have HO970:=n0_;have HO979:=n1_;have BK966:=n2_;have HB:=n3_;clear n0_ n1_ n2_ n3_;(try clear hb);(try clear hb2);(try clear hk);(try clear hi);(try clear ho0)))
 go_ret
 exact⟨by first|rfl|(simp[errW_none,errW_some]<;>rfl)|(simp[*,errW_none,errW_some]<;>rfl),HB.out⟩
end Go.Proofs.Ytkcpanpdipmmmaa.P
namespace Go.Proofs.Ytkcpanpdipmmmaa.Opn
open Go.RowKit Go.ChangeShapes Go.WideShapes Go.Deep Go.Proofs.YtkcpanpdipmmmaaW.PrintWords
def Opens (P:Program) (t:TypeId) {α:Type} (d:Kd α) (ok:α→Prop):Prop:=
 ∀ (H:Type) (enc:TypeId × Value→H) (w:World) (base:Nat) (spare:Nat→Bool) (held:Bool) (fuel:Nat) (cs:List Value) (x:DataW H × List MemPlace),
  DataW.trod enc P w base spare held fuel t cs=some x→ ∃ a:α,d.K w a cs∧ok a
theorem opens_int {P:Program} {t:TypeId} {k:IntKind} (ht:P.underlying t=some (.int k)):Opens P t (Kd.int k) (fun n=>(Lit.int k n).wf=true):=by
 intro H enc w base spare held fuel cs x h
 obtain⟨n,rfl,_,hw⟩:=DataW.trod_int ht h
 exact⟨n,rfl,hw⟩
theorem opens_bool {P:Program} {t:TypeId} (ht:P.underlying t=some .bool):Opens P t Kd.bool (fun _=>True):=by
 intro H enc w base spare held fuel cs x h
 obtain⟨b,rfl,_⟩:=DataW.trod_bool ht h
 exact⟨b,rfl,trivial⟩
theorem opens_slice {P:Program} {t e:TypeId} {α:Type} {d:Kd α} {ok:α→Prop} (ht:P.underlying t=some (.slice e)) (hc:P.cellsOf e=d.sz) (h:Opens P e d ok):
  Opens P t (Kd.slice e d) (fun l=>l.length≤9223372036854775807∧ ∀ x∈l,ok x):=by
 intro H enc w base spare held fuel cs x hx
 rcases open_slice ht hx with ⟨rfl,_⟩|⟨a,len,cap,m,n,D,Pl,rfl,hb,hl,hm,hmm,_,hi⟩
 ·exact⟨[],⟨none,0,rfl,Nat.le_refl _,rfl,by simp,fun h=>absurd h (by simp)⟩,by simp,by simp⟩
 ·have hlm:len≤m:=by rw[hmm];split<;>omega
  have hel: ∀ i:Nat,i<len→ ∃ a':α,ok a'∧ ∃ c,c.length=d.sz∧d.K w a' c∧ ∀ j u,c[j]? =some u→w.cell? (a.add (i * d.sz+j))=some u:=by
   intro i hil
   obtain⟨cs',hcs,htr⟩:=hi i (by omega)
   obtain⟨a',hK,hok⟩:=h H enc w base spare held n cs' _ htr
   rw[hc] at hcs
   obtain⟨_,hcl,hat⟩:=World.cells?_some hcs
   refine⟨a',hok,cs',hcl,hK,fun j u hu=> ?_⟩
   have hj:j<d.sz:=by have:=(List.getElem?_eq_some_iff.1 hu).1;omega
   have:=hat j hj
   rw[← Go.Deep.add_add,this,hu]
  have hrow: ∀ k:Nat,k≤len→ ∃ xs:List α,xs.length=k∧(∀ x∈xs,ok x)∧ ∀ j p,xs[j]? =some p→ ∃ c,c.length=d.sz∧d.K w p c∧ ∀ i u,c[i]? =some u→w.cell? (a.add (j * d.sz+i))=some u:=by
   intro k
   induction k with
   |zero=>exact fun _=>⟨[],rfl,by simp,by simp⟩
   |succ k ih=>
    intro hk
    obtain⟨xs,h1,h2,h3⟩:=ih (by omega)
    obtain⟨a',ho,c,hcl,hK,hcell⟩:=hel k (by omega)
    refine⟨xs ++ [a'],by simp[h1],fun x hx=> ?_,fun j p hj=> ?_⟩
    ·rcases List.mem_append.1 hx with h|h
     ·exact h2 x h
     ·rw[List.mem_singleton.1 h];exact ho
    ·by_cases hjk:j<xs.length
     ·rw[List.getElem?_append_left hjk] at hj
      exact h3 j p hj
     ·have hjl:=(List.getElem?_eq_some_iff.1 hj).1
      simp at hjl
      have hje:j=k:=by omega
      subst hje
      rw[← h1,List.getElem?_concat_length] at hj
      obtain rfl:=Option.some.inj hj
      exact⟨c,hcl,hK,hcell⟩
  obtain⟨xs,h1,h2,h3⟩:=hrow len (Nat.le_refl _)
  have hmx:len≤9223372036854775807:=by unfold maxLen at hm;omega
  subst h1
  exact⟨xs,⟨some a,cap,rfl,hl,rfl,hmx,fun _=>⟨a,rfl,h3⟩⟩,hmx,h2⟩
theorem opens_iso {P:Program} {t:TypeId} {α β:Type} {d:Kd α} {ok:α→Prop} (h:Opens P t d ok) (f:β→α) (g:α→β) (hfg: ∀ x,f (g x)=x):Opens P t (Kd.iso d f) (fun y=>ok (f y)):=by
 intro H enc w base spare held fuel cs x hx
 obtain⟨a,hK,hok⟩:=h H enc w base spare held fuel cs x hx
 exact⟨g a,by show d.K w (f (g a)) cs;rw[hfg];exact hK,by show ok (f (g a));rw[hfg];exact hok⟩
def OpensFs (P:Program) (fs:List Field) (off:Nat) {α:Type} (d:Kd α) (ok:α→Prop):Prop:=
 ∀ (H:Type) (enc:TypeId × Value→H) (w:World) (base:Nat) (spare:Nat→Bool) (held:Bool) (n:Nat) (cs:List Value),cs.length=off+d.sz→
  (∀ f∈fs, ∃ y,DataW.trod enc P w base spare held n f.type ((cs.drop f.offset).take (P.cellsOf f.type))=some y)→ ∃ a:α,d.K w a (cs.drop off)∧ok a
theorem fs_one {P:Program} {f:Field} {off:Nat} {α:Type} {d:Kd α} {ok:α→Prop} (ho:f.offset=off) (hc:P.cellsOf f.type=d.sz) (h:Opens P f.type d ok):OpensFs P [f] off d ok:=by
 intro H enc w base spare held n cs hl hf
 obtain⟨y,hy⟩:=hf f (by simp)
 rw[ho,hc,List.take_of_length_le (by simp;omega)] at hy
 exact h H enc w base spare held n _ y hy
theorem fs_cons {P:Program} {f:Field} {fs:List Field} {off:Nat} {α β:Type} {d:Kd α} {d':Kd β} {ok:α→Prop} {ok':β→Prop} (ho:f.offset=off) (hc:P.cellsOf f.type=d.sz) (h:Opens P f.type d ok)
  (hr:OpensFs P fs (off+d.sz) d' ok'):OpensFs P (f::fs) off (Kd.pair d d') (fun x=>ok x.1∧ok' x.2):=by
 intro H enc w base spare held n cs hl hf
 have hsz:(Kd.pair d d').sz=d.sz+d'.sz:=rfl
 rw[hsz] at hl
 obtain⟨y,hy⟩:=hf f (by simp)
 rw[ho,hc] at hy
 obtain⟨a,hK,hok⟩:=h H enc w base spare held n _ y hy
 obtain⟨b,hKb,hokb⟩:=hr H enc w base spare held n cs (by omega) (fun f' hf'=>hf f' (List.mem_cons_of_mem _ hf'))
 refine⟨(a,b),⟨_,_,?_,hK,hKb⟩,hok,hokb⟩
 rw[← List.drop_drop]
 exact(List.take_append_drop _ _).symm
theorem opens_struct {P:Program} {t:TypeId} {fs:Array Field} {α:Type} {d:Kd α} {ok:α→Prop} (hs:P.underlying t=some (.struct fs)) (hC:P.cellsOf t=d.sz) (h:OpensFs P fs.toList 0 d ok):Opens P t d ok:=by
 intro H enc w base spare held fuel cs x hx
 obtain⟨xs,n,_,_,hl,hlen,hf⟩:=DataW.trod_struct hs hx
 obtain⟨a,hK,hok⟩:=h H enc w base spare held n cs (by rw[hl,hC,Nat.zero_add]) (fun f hfm=>by
  obtain⟨j,hj⟩:=List.getElem?_of_mem hfm
  have hj':fs[j]? =some f:=by rw[← hj];simp
  have hjl:j<xs.length:=by rw[hlen];exact(Array.getElem?_eq_some_iff.1 hj').1
  have h1:=hf j f hj'
  rw[List.getElem?_eq_getElem hjl] at h1
  exact⟨_,h1⟩)
 exact⟨a,hK,hok⟩
theorem arg_struct {H:Type} {enc:TypeId × Value→H} {P:Program} {w:World} {base b0:Nat} {spare:Nat→Bool} {held:Bool} {r:Reach} {t:TypeId} {fs:Array Field} {v:Value} {dd:DataW H} {p:List MemPlace} {α:Type} {d:Kd α} {ok:α→Prop}
  (hs:P.underlying t=some (.struct fs)) (ho:Opens P t d ok) (hv:Value.okWide P w r b0 t v) (h:DataW.Trod enc P w base spare held t v dd p): ∃ a cs,v= .agg cs∧d.K w a cs.toList∧ok a:=by
 obtain⟨cs,rfl,hsz⟩:=okWide_struct hs hv
 obtain⟨fuel,hf⟩:=h
 obtain⟨a,hK,hok⟩:=ho H enc w base spare held fuel _ _ hf
 exact⟨a,cs,rfl,by simpa [Value.cells] using hK,hok⟩
end Go.Proofs.Ytkcpanpdipmmmaa.Opn
namespace Go.Proofs.Ytkcpanpdipmmmaa.Q
open Go.RowKit Go.Proofs.YtkcpanpdipmmmaaW.PrintWords Go.Proofs.YtkcpanpdipmmmaaW.PrintLast Go.Proofs.YtkcpanpdipmmmaaW.PrintMore Go.Proofs.Ytkcpanpdipmmmaa.P
open Go.Proofs.Ytkcpanpdipmmmaa.H (pathRes wayP endsErr wayRes wayF wayF_eq StepsOk Right right_of stepsR bfP bfL dOf nodes wayL frP toP esP way_nat bf_same Fd bfP_upto dOf_len dOf_get fnd fnd_some fnd_none fnd_of backL_spec lv_lt esP_fr esP_to steps_ev)
theorem stepsOk {l:List S74} {F:List Int} {n:Nat} (hr:Right l F n):StepsOk l n (stepsR l F F.length):=
 ⟨hr.ends,hr.arcs,fun s hs=>H.stepsR_of hr s hs,by have:=H.stepsR_len l F F.length;have:=hr.len;have:=hr.arcs;omega⟩
theorem way_same {l:List S74} {F:List Int} {n:Nat} (hr:Right l F n) (s v:Nat):wayRes l (stepsR l F F.length) n s (v:Int)=(wayP l F n s v,decide (v∈nodes (bfP l F n s))):=by
 rw[way_nat,bf_same hr]
 unfold wayP
 by_cases h:v∈nodes (bfP l F n s)
 ·rw[if_pos h,if_pos h,decide_eq_true h]
 ·rw[if_neg h,if_neg h,decide_eq_false h]
theorem way_ref_eq {l:List S74} {F:List Int} {n:Nat} (hr:Right l F n) {s:Nat} (hs:s<n) (b:Bool) (v:Nat):ebbtideref08_Way.f (n:Int) b l (s:Int) (v:Int) (stepsR l F F.length)=some (wayP l F n s v,decide (v∈nodes (bfP l F n s))):=by
 unfold ebbtideref08_Way.f
 rw[wayF_eq (stepsOk hr) hs hr.fifty,way_same hr]
theorem ref_path_ev (n:Int) (b:Bool) (l:List S74) (F:List Int) (s t:Int):Ev (fun k=>ebbtideref08_Path.f k n b l F s t) (pathRes n l F s t):=by
 unfold ebbtideref08_Path.f pathRes
 refine Ev.bind (ref_asked_ev n b l F) ?_
 by_cases h0:askErr n l F=0
 ·rw[if_pos h0]
  refine Ev.pos h0 ?_
  refine Ev.bind (ref_ends_ev n b l s t) ?_
  by_cases h1:endsErr n l s t=0
  ·rw[if_pos h1]
   refine Ev.pos h1 ?_
   obtain⟨n0,rfl,hr⟩:=right_of h0
   have he:0≤s∧s<(n0:Int)∧0≤t∧t<(n0:Int)∧s≠t:=by
    unfold endsErr at h1
    by_cases hn:netErr n0 l=0
    ·rw[if_pos hn] at h1
     split at h1
     ·assumption
     ·cases h1
    ·rw[if_neg hn] at h1;exact absurd h1 hn
   obtain⟨s0,rfl⟩: ∃ s0:Nat,s=s0:=⟨s.toNat,by omega⟩
   obtain⟨t0,rfl⟩: ∃ t0:Nat,t=t0:=⟨t.toNat,by omega⟩
   refine Ev.bind (steps_ev hr _ b) ?_
   refine Ev.call (way_ref_eq hr (by omega) b t0) ?_
   exact Ev.done (by simp only[Int.toNat_natCast])
  ·rw[if_neg h1]
   refine Ev.neg h1 ?_
   exact Ev.now _
 ·rw[if_neg h0]
  refine Ev.neg h0 ?_
  exact Ev.now _
end Go.Proofs.Ytkcpanpdipmmmaa.Q
namespace Go.Proofs.Ytkcpanpdipmmmaa.Q
open Go.RowKit Go.Proofs.YtkcpanpdipmmmaaW.PrintWords Go.Proofs.YtkcpanpdipmmmaaW.PrintLast Go.Proofs.YtkcpanpdipmmmaaW.PrintMore Go.Proofs.Ytkcpanpdipmmmaa.P
open Go.Proofs.Ytkcpanpdipmmmaa.H (endsErr Right right_of StepOf stRoom IsFlow leastR pushW stRoom_in)
theorem endsE_ok {n:Int} {l:List S74} {s t:Int} (h:endsErr n l s t=0):NetOk n l∧0≤s∧s<n∧0≤t∧t<n∧s≠t:=by
 unfold endsErr at h
 by_cases hn:netErr n l=0
 ·rw[if_pos hn] at h
  split at h
  ·rename_i he
   exact⟨netErr_ok hn,he⟩
  ·cases h
 ·rw[if_neg hn] at h;exact absurd h hn
theorem endsE_of {n:Int} {l:List S74} {s t:Int} (hn:NetOk n l) (h:0≤s∧s<n∧0≤t∧t<n∧s≠t):endsErr n l s t=0:=by
 unfold endsErr
 rw[if_pos (netOk_err hn),if_pos h]
def evenB (s t:Int):List Int→Int→Bool
 |[],_=>true
 |x::l,i=>if i=s then evenB s t l (i+1) else if i=t then evenB s t l (i+1) else if x=0 then evenB s t l (i+1) else false
def valRes (n:Int) (l:List S74) (s t:Int) (f:List Int):Int × Int:=
 if endsErr n l s t=0 then(if askErr n l f=0 then(if evenB s t (balOf n l f) 0=true then(bal l f s,0) else(0,71)) else(0,askErr n l f)) else(0,endsErr n l s t)
theorem evenB_iff (s t:Int) (X:List Int): ∀ i:Int,evenB s t X i=true↔ ∀ j:Nat,j<X.length→i+j≠s→i+j≠t→X.getD j 0=0:=by
 induction X with
 |nil=>intro i;simp[evenB]
 |cons x X ih=>
  intro i
  have key:evenB s t X (i+1)=true↔ ∀ j:Nat,j+1<(x::X).length→i+(j+1:Nat)≠s→i+(j+1:Nat)≠t→(x::X).getD (j+1) 0=0:=by
   rw[ih (i+1)]
   constructor
   ·intro h j h1 h2 h3
    rw[List.getD_cons_succ]
    exact h j (by simpa using h1) (by omega) (by omega)
   ·intro h j h1 h2 h3
    have:=h j (by simpa using h1) (by omega) (by omega)
    rwa [List.getD_cons_succ] at this
  have all:(i≠s→i≠t→x=0)→(evenB s t X (i+1)=true↔ ∀ j:Nat,j<(x::X).length→i+j≠s→i+j≠t→(x::X).getD j 0=0):=by
   intro hx
   rw[key]
   constructor
   ·intro h j h1 h2 h3
    cases j with
    |zero=>exact hx (by simpa using h2) (by simpa using h3)
    |succ j=>exact h j h1 h2 h3
   ·intro h j h1 h2 h3
    exact h (j+1) h1 h2 h3
  unfold evenB
  by_cases h1:i=s
  ·rw[if_pos h1];exact all (fun h=>absurd h1 h)
  rw[if_neg h1]
  by_cases h2:i=t
  ·rw[if_pos h2];exact all (fun _ h=>absurd h2 h)
  rw[if_neg h2]
  by_cases h3:x=0
  ·rw[if_pos h3];exact all (fun _ _=>h3)
  ·rw[if_neg h3]
   constructor
   ·intro h;cases h
   ·intro h
    exact absurd (h 0 (by simp) (by simpa using h1) (by simpa using h2)) h3
theorem ref_check2_l0 (n:Int) (p:Bool) (l:List S74) (s t:Int) (b:List Int) (hb:b.length≤50) (hbn:n=b.length) (hs:0≤s) (hsn:s<b.length) (d:Nat): ∀ i:Nat,i+d=b.length→
  Ev (fun k=>ebbtideref07_Check.l0 k s t b (i:Int) n p l) (if evenB s t (b.drop i) i=true then(rd b s,0) else(0,71)):=by
 induction d with
 |zero=>
  intro i hi
  refine Ev.succ ?_;simp only[ebbtideref07_Check.l0]
  refine Ev.neg (by omega) ?_
  refine Ev.pos (by omega) ?_
  refine Ev.pos (by omega) ?_
  rw[List.drop_of_length_le (by omega)]
  exact Ev.now _
 |succ d ih=>
  intro i hi
  refine Ev.succ ?_;simp only[ebbtideref07_Check.l0]
  refine Ev.pos (by omega) ?_
  rw[drop_getD b i 0 (by omega),rd_nat,wrap_succ (n:=b.length) (by omega) (by omega)]
  unfold evenB
  have:=ih (i+1) (by omega)
  rw[show ((i+1:Nat):Int)=(i:Int)+1 by omega] at this ⊢
  refine Ev.ite (fun g1=> ?_) (fun g1=> ?_)
  ·rw[if_pos g1];exact this
  rw[if_neg g1]
  refine Ev.ite (fun g2=> ?_) (fun g2=> ?_)
  ·rw[if_pos g2];exact this
  rw[if_neg g2]
  refine Ev.pos (by omega) ?_
  refine Ev.pos (by omega) ?_
  refine Ev.ite (fun g=> ?_) (fun g=> ?_)
  ·rw[if_pos g];exact this
  rw[if_neg g]
  exact Ev.now _
theorem ref_value_ev (n:Int) (b:Bool) (l:List S74) (s t:Int) (f:List Int):Ev (fun k=>ebbtideref07_Check.f k n b l s t f) (valRes n l s t f):=by
 unfold ebbtideref07_Check.f valRes
 refine Ev.bind (ref_ends_ev n b l s t) ?_
 refine Ev.ite (fun h=> ?_) (fun h=> ?_)
 ·rw[if_pos h]
  obtain⟨hn,he⟩:=endsE_ok h
  have:=hn.lo;have:=hn.hi
  refine Ev.bind (ref_balance_ev n b l f) ?_
  by_cases g:askErr n l f=0
  ·rw[if_pos g,balRes_ok g]
   refine Ev.pos rfl ?_
   refine Ev.eq (ref_check2_l0 n b l s t (balOf n l f) (by rw[balOf_len];omega) (by rw[balOf_len];omega) (by omega) (by rw[balOf_len];omega) _ 0 (Nat.zero_add _)) ?_
   rw[rd_balOf (by omega) (by omega),List.drop_zero]
   rfl
  ·rw[if_neg g,balRes_no g]
   exact Ev.neg g (Ev.now _)
 ·rw[if_neg h]
  exact Ev.now _
theorem flowOk_of {l:List S74} {F:List Int} {n:Nat} (hr:Right l F n):FlowOk l F:=by
 refine⟨hr.len,fun i hi=> ?_⟩
 have:=hr.nums i (by rw[← hr.len];exact hi)
 rw[rd_nat]
 exact⟨this.2.2.1,this.2.2.2.1⟩
theorem even_flow {n:Nat} {l:List S74} {F:List Int} {s t:Int} (hr:Right l F n):evenB s t (balOf n l F) 0=true↔IsFlow l F n s t:=by
 rw[evenB_iff]
 have hlen:=balOf_len (n:Int) l F
 rw[Int.toNat_natCast] at hlen
 have hg: ∀ v:Nat,v<n→(balOf n l F).getD v 0=bal l F v:=fun v hv=>by
  have h_:=rd_balOf (n:=(n:Int)) (l:=l) (f:=F) (v:=(v:Int)) (by omega) (by omega)
  rw[rd_nat] at h_
  exact h_
 constructor
 ·intro h
  refine⟨hr,fun v h0 h1 h2 h3=> ?_⟩
  obtain⟨v,rfl⟩: ∃ v':Nat,v=v':=⟨v.toNat,by omega⟩
  rw[← hg v (by omega)]
  exact h v (by omega) (by omega) (by omega)
 ·intro h v hv h2 h3
  rw[hg v (by omega)]
  exact h.keeps v (by omega) (by omega) (by omega) (by omega)
theorem val_flow {n:Nat} {l:List S74} {F:List Int} {s t:Int} (hn:NetOk n l) (he:0≤s∧s<n∧0≤t∧t<n∧s≠t) (hf:IsFlow l F n s t):valRes n l s t F=(bal l F s,0):=by
 unfold valRes
 rw[if_pos (endsE_of hn he),if_pos (ask_of hn (flowOk_of hf.right)),if_pos ((even_flow hf.right).2 hf)]
end Go.Proofs.Ytkcpanpdipmmmaa.Q
namespace Go.Proofs.Ytkcpanpdipmmmaa.Q
open Go.RowKit Go.Proofs.YtkcpanpdipmmmaaW.PrintWords Go.Proofs.YtkcpanpdipmmmaaW.PrintLast Go.Proofs.YtkcpanpdipmmmaaW.PrintMore Go.Proofs.Ytkcpanpdipmmmaa.P
open Go.Proofs.Ytkcpanpdipmmmaa.H (endsErr Right right_of StepOf stRoom IsFlow MaxF leastR pushW fillF bfP nodes wayP stepsR steps_ev netG dOf frP toP)
theorem max_fill {l:List S74} {n s t:Nat} (hr:Right l (List.replicate l.length 0) n) (hs:s<n) (ht:t<n) (hst:s≠t):MaxF l (fillF l n s t) n s t:=H.fill_max hr hs ht hst
theorem value_l0 (m:Int) (l:List S74) (f:List Int) (hn:NetOk m l) (hf:FlowOk l f) (v:Int) (d:Nat): ∀ (i:Nat) (acc:Int),i+d=l.length→ -(i * 2097152)≤acc→acc≤i * 2097152→
  Ev (fun k=>maxflow_Value.l0 k v f acc l (l.length:Int) (i:Int)) (acc+bal (l.drop i) (f.drop i) v):=by
 have hlen:=hf.len
 have hl:=hn.len
 induction d with
 |zero=>
  intro i acc hi h0 h1
  refine Ev.succ ?_;simp only[maxflow_Value.l0]
  repeat(first|exact Ev.now _|with_reducible refine Ev.pos (by first|assumption|omega) ?_|with_reducible refine Ev.neg (by first|assumption|omega) ?_|with_reducible refine Ev.let_ ?_)
  rw[List.drop_of_length_le (by omega)]
  exact Ev.done (by simp[bal])
 |succ d ih=>
  intro i acc hi h0 h1
  have hs:=hf.small hn (i:=(i:Int)) (by omega) (by omega)
  refine Ev.succ ?_;simp only[maxflow_Value.l0]
  repeat(first|exact Ev.now _|with_reducible refine Ev.pos (by first|assumption|omega) ?_|with_reducible refine Ev.neg (by first|assumption|omega) ?_|with_reducible refine Ev.let_ ?_)
  rw[wrap_succ (n:=l.length) (by omega) (by omega),drop_getD l i z74 (by omega),drop_getD f i 0 (by omega), ← rdArc_nat, ← rd_nat,bal_cons]
  refine Ev.ite (fun g=> ?_) (fun g=> ?_)
  ·rw[if_pos g]
   refine Ev.pos (by omega) ?_
   refine Ev.ite (fun g2=> ?_) (fun g2=> ?_)
   ·rw[if_pos g2,wrap_id (x:=acc+rd f (i:Int)) (by omega) (by omega),wrap_id (by omega) (by omega)]
    exact Ev.eq (ih (i+1) _ (by omega) (by omega) (by omega)) (by omega)
   ·rw[if_neg g2,wrap_id (x:=acc+rd f (i:Int)) (by omega) (by omega)]
    exact Ev.eq (ih (i+1) _ (by omega) (by omega) (by omega)) (by omega)
  ·rw[if_neg g]
   refine Ev.ite (fun g2=> ?_) (fun g2=> ?_)
   ·refine Ev.pos (by omega) ?_
    rw[if_pos g2,wrap_id (x:=acc - rd f (i:Int)) (by omega) (by omega)]
    exact Ev.eq (ih (i+1) _ (by omega) (by omega) (by omega)) (by omega)
   ·rw[if_neg g2]
    exact Ev.eq (ih (i+1) _ (by omega) (by omega) (by omega)) (by omega)
theorem value_ev (n m:Int) (b:Bool) (l:List S74) (f:List Int) (hn:NetOk m l) (hf:FlowOk l f) (v:Int):Ev (fun k=>maxflow_Value.f k n b l v f) (bal l f v):=by
 unfold maxflow_Value.f
 exact Ev.eq (value_l0 m l f hn hf v l.length 0 0 (by omega) (by omega) (by omega)) (by rw[List.drop_zero,List.drop_zero];omega)
def maxR (n:Int) (l:List S74) (s t:Int):List Int × Int × Int:=
 if endsErr n l s t=0 then(fillF l n.toNat s.toNat t.toNat,bal l (fillF l n.toNat s.toNat t.toNat) s,0) else([],0,endsErr n l s t)
def mostR (n:Int) (l:List S74) (s t:Int):Int × Int:=
 if endsErr n l s t=0 then(bal l (fillF l n.toNat s.toNat t.toNat) s,0) else(0,endsErr n l s t)
theorem fill_eq {n:Int} {l:List S74} {s t:Int} (b:Bool) (h:endsErr n l s t=0):maxflow_Fill.f n b l s t=some (fillF l n.toNat s.toNat t.toNat):=by unfold maxflow_Fill.f;rw[if_pos h]
theorem max_ev (n:Int) (b:Bool) (l:List S74) (s t:Int):Ev (fun k=>maxflow_Max.f k n b l s t) (maxR n l s t):=by
 unfold maxflow_Max.f maxR
 refine Ev.bind (ends_ev n b l s t) ?_
 by_cases h:endsErr n l s t=0
 ·rw[if_pos h]
  refine Ev.pos h ?_
  refine Ev.call (fill_eq b h) ?_
  obtain⟨n0,s0,t0,rfl,rfl,rfl,hs,ht,hst,hn,hr⟩:=ends_zero h
  simp only[Int.toNat_natCast]
  refine Ev.bind (value_ev n0 n0 b l _ hn (flowOk_of (max_fill hr hs ht hst).flow.right) s0) ?_
  exact Ev.now _
 ·rw[if_neg h]
  refine Ev.neg h ?_
  exact Ev.now _
theorem most_ev (n:Int) (b:Bool) (l:List S74) (s t:Int):Ev (fun k=>maxflow_Most.f k n b l s t) (mostR n l s t):=by
 unfold maxflow_Most.f
 refine Ev.bind (max_ev n b l s t) ?_
 refine Ev.done ?_
 unfold maxR mostR
 split<;>rfl
theorem mostR_nat {l:List S74} {n s t:Nat} (h:endsErr (n:Int) l (s:Int) (t:Int)=0):mostR n l s t=(bal l (fillF l n s t) s,0):=by
 unfold mostR;rw[if_pos h];simp only[Int.toNat_natCast]
theorem maxR_nat {l:List S74} {n s t:Nat} (h:endsErr (n:Int) l (s:Int) (t:Int)=0):maxR n l s t=(fillF l n s t,bal l (fillF l n s t) s,0):=by
 unfold maxR;rw[if_pos h];simp only[Int.toNat_natCast]
end Go.Proofs.Ytkcpanpdipmmmaa.Q
namespace Go.Proofs.Ytkcpanpdipmmmaa.Q
open Go.RowKit Go.Proofs.YtkcpanpdipmmmaaW.PrintWords Go.Proofs.YtkcpanpdipmmmaaW.PrintLast Go.Proofs.YtkcpanpdipmmmaaW.PrintMore Go.Proofs.Ytkcpanpdipmmmaa.P
open Go.Proofs.Ytkcpanpdipmmmaa.H (endsErr Right right_of IsFlow MaxF fillF capR)
def dia:List S74:=[(⟨0,1,3,0⟩:S74),(⟨0,2,2,0⟩:S74),(⟨1,3,2,0⟩:S74),(⟨2,3,3,0⟩:S74),(⟨1,2,5,0⟩:S74)]
theorem dia_right:Right dia (List.replicate dia.length 0) 4:=by
 obtain⟨n0,h1,h2⟩:=right_of (n:=4) (l:=dia) (F:=List.replicate dia.length 0) (by decide +kernel)
 obtain rfl:n0=4:=by omega
 exact h2
theorem dia_max:MaxF dia (fillF dia 4 0 3) 4 0 3:=max_fill dia_right (by decide) (by decide) (by decide)
theorem dia_back:MaxF dia (fillF dia 4 3 0) 4 3 0:=max_fill dia_right (by decide) (by decide) (by decide)
theorem dia_flow:IsFlow dia [3,2,2,3,1] 4 0 3:=by
 obtain⟨n0,h1,h2⟩:=right_of (n:=4) (l:=dia) (F:=[3,2,2,3,1]) (by decide +kernel)
 obtain rfl:n0=4:=by omega
 refine⟨h2,fun v a b c d=> ?_⟩
 rcases (show v=1∨v=2 by omega) with rfl|rfl<;>decide +kernel
theorem dia_val:bal dia (fillF dia 4 0 3) 0=5:=by
 have h1:=H.max_top (s:=0) (t:=3) dia_max (by decide) (by decide) dia_flow
 have h2:=H.value_le dia_max.flow (fun v=>decide (v=0)) (by decide) (by decide) (by decide) (by decide)
 have h3:bal dia [3,2,2,3,1] ((0:Nat):Int)=5:=by decide +kernel
 have h4:capR (fun v=>decide (v=0)) dia=5:=by decide +kernel
 rw[h3] at h1
 rw[h4] at h2
 exact Int.le_antisymm h2 h1
theorem dia_none:bal dia (fillF dia 4 3 0) 3=0:=by
 have h1:=H.max_nonneg (s:=3) (t:=0) dia_back (by decide) (by decide)
 have h2:=H.value_le dia_back.flow (fun v=>decide (v=3)) (by decide) (by decide) (by decide) (by decide)
 have h4:capR (fun v=>decide (v=3)) dia=0:=by decide +kernel
 rw[h4] at h2
 exact Int.le_antisymm h2 h1
theorem awake09_ev:Ev (fun k=>ebbtidelaw09_awake.f k) true:=by
 have e1:endsErr 4 dia 0 3=0:=by decide +kernel
 have e2:endsErr 4 dia 3 0=0:=by decide +kernel
 have e3:endsErr 4 dia 1 1=70:=by decide +kernel
 have m1:maxR 4 dia 0 3=(fillF dia 4 0 3,5,0):=by
  have h_:=maxR_nat (n:=4) (l:=dia) (s:=0) (t:=3) e1
  have h_2:maxR 4 dia 0 3=(fillF dia 4 0 3,bal dia (fillF dia 4 0 3) 0,0):=h_
  rw[h_2,dia_val]
 have m2:mostR 4 dia 3 0=(0,0):=by
  have h_:=mostR_nat (n:=4) (l:=dia) (s:=3) (t:=0) e2
  have h_2:mostR 4 dia 3 0=(bal dia (fillF dia 4 3 0) 3,0):=h_
  rw[h_2,dia_none]
 have m3:maxR 4 dia 1 1=([],0,70):=by unfold maxR;rw[e3];rfl
 have hlen:(fillF dia 4 0 3).length=5:=dia_max.flow.right.len
 unfold ebbtidelaw09_awake.f
 refine Ev.let_ ?_
 refine Ev.bind (max_ev 4 false dia 0 3) ?_
 refine Ev.bind (most_ev 4 false dia 3 0) ?_
 refine Ev.bind (max_ev 4 false dia 1 1) ?_
 rw[m1,m2,m3]
 refine Ev.pos rfl ?_
 refine Ev.pos rfl ?_
 refine Ev.pos (by show ((fillF dia 4 0 3).length:Int)=5;rw[hlen];rfl) ?_
 refine Ev.pos rfl ?_
 refine Ev.pos rfl ?_
 exact Ev.now _
end Go.Proofs.Ytkcpanpdipmmmaa.Q
namespace Go.Proofs.Ytkcpanpdipmmmaa.Q
open Go.RowKit Go.Proofs.YtkcpanpdipmmmaaW.PrintWords Go.Proofs.YtkcpanpdipmmmaaW.PrintLast Go.Proofs.YtkcpanpdipmmmaaW.PrintMore Go.Proofs.Ytkcpanpdipmmmaa.P
open Go.Proofs.Ytkcpanpdipmmmaa.H (endsErr Right right_of IsFlow MaxF fillF wayP pathRes bfP nodes)
theorem maxflowFlows_ev (n:Int) (b:Bool) (l:List S74) (s t:Int):Ev (fun k=>ebbtidelaw09_MaxflowFlows.f k n b l s t) true:=by
 unfold ebbtidelaw09_MaxflowFlows.f
 refine Ev.bind awake09_ev ?_
 refine Ev.pos rfl ?_
 refine Ev.bind (max_ev n b l s t) ?_
 refine Ev.bind (most_ev n b l s t) ?_
 by_cases h:endsErr n l s t=0
 ·obtain⟨n0,s0,t0,rfl,rfl,rfl,hs,ht,hst,hn,hr⟩:=ends_zero h
  have hM:=max_fill hr hs ht hst
  have ha:=ask_of hn (flowOk_of hM.flow.right)
  rw[maxR_nat h,mostR_nat h]
  refine Ev.pos rfl ?_
  refine Ev.bind (ref_value_ev n0 b l s0 t0 _) ?_
  rw[val_flow hn (by omega) hM.flow]
  refine Ev.bind (ref_path_ev n0 b l _ s0 t0) ?_
  have hp:pathRes n0 l (fillF l n0 s0 t0) s0 t0=(wayP l (fillF l n0 s0 t0) n0 s0 t0,false,0):=by
   unfold pathRes
   rw[if_pos ha,if_pos h]
   simp only[Int.toNat_natCast]
   rw[decide_eq_false hM.cut]
  show Ev (fun k=>if (0:Int)=0 then(if (0:Int)=0 then(if (pathRes n0 l (fillF l n0 s0 t0) s0 t0).2.2=0 then _ else _) else _) else _) true
  rw[hp]
  refine Ev.pos rfl ?_
  refine Ev.pos rfl ?_
  refine Ev.pos rfl ?_
  refine Ev.pos rfl ?_
  refine Ev.pos rfl ?_
  exact Ev.now _
 ·have e1:maxR n l s t=([],0,endsErr n l s t):=by unfold maxR;rw[if_neg h]
  have e2:mostR n l s t=(0,endsErr n l s t):=by unfold mostR;rw[if_neg h]
  rw[e1,e2]
  refine Ev.neg h ?_
  refine Ev.pos rfl ?_
  refine Ev.bind (ref_ends_ev n b l s t) ?_
  refine Ev.pos rfl ?_
  refine Ev.pos rfl ?_
  refine Ev.pos rfl ?_
  exact Ev.now _
end Go.Proofs.Ytkcpanpdipmmmaa.Q
