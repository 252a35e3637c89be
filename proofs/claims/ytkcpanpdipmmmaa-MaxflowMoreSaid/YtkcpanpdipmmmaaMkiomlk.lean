/- What the law's row needs of these texts, taken out of them by wip/tool/mini.py: P128 QOpen QCheckRef QMostLaw QAwake09 QLMaxflow QSized. -/
import Derived.Test.YtkcpanpdipmmmaaMdllfmo
import Derived.Test.YtkcpanpdipmmmaaMafnnea
import Derived.Test.YtkcpanpdipmmmaaVbklikc
import Derived.Deep.Slices
import Derived.Deep.Fields
import Derived.ChangeSame
import Derived.ChangeArms
import Derived.OpenShut
import Derived.Test.YtkcpanpdipmmmaaMeenfib
import Derived.Deep.RegionHeld3
import Derived.Deep.DeepCutAuto
import Derived.SizedLaws
set_option linter.unusedVariables false
set_option linter.unusedSimpArgs false
namespace Go.Proofs.Ytkcpanpdipmmmaa.P
open Go.RowKit Go.Proofs.YtkcpanpdipmmmaaW.PrintWords Go.Proofs.YtkcpanpdipmmmaaW.PrintLast Go.Proofs.YtkcpanpdipmmmaaW.PrintMore
attribute [local go_sem] max2_int min2_int max_two min_two max_three min_three max_four min_four
def ebbtidelaw09_MaxflowMore.f (k:Nat) (a0_0:Int) (a0_1:Bool) (l0_2:List (S74)) (a1_0:Int) (a1_1:Int) (a1_2:Int) (a1_3:Int) (a2:Int) (a3:Int):Option (Bool):=(ebbtidelaw09_awake.f k).bind fun t991=>(if t991=true then((maxflow_Most.f k a0_0 a0_1 l0_2 a2 a3).bind fun bt992=>(if ([]:List (S74)).length+l0_2.length<4398046511104 then((some (([]:List (S74)) ++ l0_2:List (S74))).bind fun y994=>(if y994.length<4398046511104 then((maxflow_Most.f k a0_0 a0_1 (y994 ++ [(⟨a1_0,a1_1,a1_2,a1_3⟩:S74)]) a2 a3).bind fun bt1000=>(if bt992.2=0 then(if bt1000.2=0 then(if bt1000.1≥bt992.1 then(some (decide (bt1000.1≤(wrap64 (bt992.1+a1_2))))) else(some false)) else(some true)) else(some true))) else(none))) else(none))) else(some false))
set_option maxHeartbeats 8000000 in
set_option maxRecDepth 100000 in
theorem ebbtidelaw09_MaxflowMore.calls (k:Nat) (a0_0:Int) (a0_1:Bool) (A0_2:Option Addr) (c0_2:Nat) (l0_2:List (S74)) (a1_0:Int) (a1_1:Int) (a1_2:Int) (a1_3:Int) (a2:Int) (a3:Int) (r:Bool) (w:World) (hr0_2:Kd.C k74 w A0_2 l0_2.length l0_2) (hc0_2:l0_2.length≤c0_2) (h:ebbtidelaw09_MaxflowMore.f k a0_0 a0_1 l0_2 a1_0 a1_1 a1_2 a1_3 a2 a3=some r) (hrT_:r=true:=by first|rfl|exact Aside0.out (by assumption)):
  Calls Try.prog 22 #[.agg #[.int .i64 a0_0, .bool a0_1, .slice A0_2 l0_2.length c0_2], .agg #[.int .i64 a1_0, .int .i64 a1_1, .int .i64 a1_2, .int .i64 a1_3], .int .i64 a2, .int .i64 a3] w fun e w'=>e= .returned (.bool r)∧Below w.heap.size w w':=by
 have HRT:=Aside0.mk hrT_
 clear hrT_
 have hu24:=Try.underlying24
 have hu74:=Try.underlying74
 have HR0_2:=Aside0.mk hr0_2
 have HC0_2:=Aside0.mk hc0_2
 clear hr0_2 hc0_2
 have HB:=Aside0.mk (Below.refl w.heap.size w)
 have H:((ebbtidelaw09_awake.f k).bind fun t991=>(if t991=true then((maxflow_Most.f k a0_0 a0_1 l0_2 a2 a3).bind fun bt992=>(if ([]:List (S74)).length+l0_2.length<4398046511104 then((some (([]:List (S74)) ++ l0_2:List (S74))).bind fun y994=>(if y994.length<4398046511104 then((maxflow_Most.f k a0_0 a0_1 (y994 ++ [(⟨a1_0,a1_1,a1_2,a1_3⟩:S74)]) a2 a3).bind fun bt1000=>(if bt992.2=0 then(if bt1000.2=0 then(if bt1000.1≥bt992.1 then(some (decide (bt1000.1≤(wrap64 (bt992.1+a1_2))))) else(some false)) else(some true)) else(some true))) else(none))) else(none))) else(some false)))=some r:=h
 clear h
 replace H:=Option.bind_eq_some_iff.mp H
 obtain⟨t991,A50,H⟩:=H
 replace H:(if t991=true then((maxflow_Most.f k a0_0 a0_1 l0_2 a2 a3).bind fun bt992=>(if ([]:List (S74)).length+l0_2.length<4398046511104 then((some (([]:List (S74)) ++ l0_2:List (S74))).bind fun y994=>(if y994.length<4398046511104 then((maxflow_Most.f k a0_0 a0_1 (y994 ++ [(⟨a1_0,a1_1,a1_2,a1_3⟩:S74)]) a2 a3).bind fun bt1000=>(if bt992.2=0 then(if bt1000.2=0 then(if bt1000.1≥bt992.1 then(some (decide (bt1000.1≤(wrap64 (bt992.1+a1_2))))) else(some false)) else(some true)) else(some true))) else(none))) else(none))) else(some false))=some r:=H
 have A5:=Aside0.mk A50
 clear A50
 by_cases c6:t991=true
 rotate_left
 ·replace c6:=Bool.eq_false_iff.mpr c6
  subst c6
  have H1:(some false)=some r:=by rw[if_neg (show ¬ (false=true) by decide)] at H;exact H
  exact absurd (Option.some.inj H1) (by rw[HRT.out];decide)
 subst c6
 have H1:((maxflow_Most.f k a0_0 a0_1 l0_2 a2 a3).bind fun bt992=>(if ([]:List (S74)).length+l0_2.length<4398046511104 then((some (([]:List (S74)) ++ l0_2:List (S74))).bind fun y994=>(if y994.length<4398046511104 then((maxflow_Most.f k a0_0 a0_1 (y994 ++ [(⟨a1_0,a1_1,a1_2,a1_3⟩:S74)]) a2 a3).bind fun bt1000=>(if bt992.2=0 then(if bt1000.2=0 then(if bt1000.1≥bt992.1 then(some (decide (bt1000.1≤(wrap64 (bt992.1+a1_2))))) else(some false)) else(some true)) else(some true))) else(none))) else(none)))=some r:=by first|(rw[if_pos rfl] at H;exact H)|(rw[if_pos trivial] at H;exact H)
 clear H
 have H:=H1
 clear H1
 replace H:=Option.bind_eq_some_iff.mp H
 obtain⟨⟨t992,t993⟩,A70,H⟩:=H
 replace H:(if ([]:List (S74)).length+l0_2.length<4398046511104 then((some (([]:List (S74)) ++ l0_2:List (S74))).bind fun y994=>(if y994.length<4398046511104 then((maxflow_Most.f k a0_0 a0_1 (y994 ++ [(⟨a1_0,a1_1,a1_2,a1_3⟩:S74)]) a2 a3).bind fun bt1000=>(if t993=0 then(if bt1000.2=0 then(if bt1000.1≥t992 then(some (decide (bt1000.1≤(wrap64 (t992+a1_2))))) else(some false)) else(some true)) else(some true))) else(none))) else(none))=some r:=H
 have A7:=Aside0.mk A70
 clear A70
 by_cases c8:([]:List (S74)).length+l0_2.length<4398046511104
 rotate_left
 ·rw[if_neg c8] at H
  exact absurd H (by simp)
 rw[if_pos c8] at H
 have LMc8:=Aside0.mk c8
 clear c8
 obtain⟨y994,hy994⟩: ∃ y_:List (S74),y_=(([]:List (S74)) ++ l0_2):=⟨_,rfl⟩
 replace H:(if y994.length<4398046511104 then((maxflow_Most.f k a0_0 a0_1 (y994 ++ [(⟨a1_0,a1_1,a1_2,a1_3⟩:S74)]) a2 a3).bind fun bt1000=>(if t993=0 then(if bt1000.2=0 then(if bt1000.1≥t992 then(some (decide (bt1000.1≤(wrap64 (t992+a1_2))))) else(some false)) else(some true)) else(some true))) else(none))=some r:=by first|(rw[hy994];with_reducible exact H)|(have H2_:=(Option.bind_some _ _).symm.trans H;rw[hy994];with_reducible exact H2_)|(have H2_:=(Option.bind_some _ _).symm.trans H;with_reducible exact H2_)|with_reducible exact H|(rw[hy994];exact H)|exact H
 have Ny994:=Aside0.mk hy994
 clear hy994
 by_cases c9:y994.length<4398046511104
 rotate_left
 ·rw[if_neg c9] at H
  exact absurd H (by simp)
 rw[if_pos c9] at H
 have LMc9:=Aside0.mk c9
 clear c9
 obtain⟨y997,hy997⟩: ∃ y_:List (S74),y_=(y994 ++ [(⟨a1_0,a1_1,a1_2,a1_3⟩:S74)]):=⟨_,rfl⟩
 replace H:((maxflow_Most.f k a0_0 a0_1 y997 a2 a3).bind fun bt1000=>(if t993=0 then(if bt1000.2=0 then(if bt1000.1≥t992 then(some (decide (bt1000.1≤(wrap64 (t992+a1_2))))) else(some false)) else(some true)) else(some true)))=some r:=by first|(rw[hy997];with_reducible exact H)|(have H2_:=(Option.bind_some _ _).symm.trans H;rw[hy997];with_reducible exact H2_)|(have H2_:=(Option.bind_some _ _).symm.trans H;with_reducible exact H2_)|with_reducible exact H|(rw[hy997];exact H)|exact H
 have Ny997:=Aside0.mk hy997
 clear hy997
 replace H:=Option.bind_eq_some_iff.mp H
 obtain⟨⟨t1000,t1001⟩,A100,H⟩:=H
 replace H:(if t993=0 then(if t1001=0 then(if t1000≥t992 then(some (decide (t1000≤(wrap64 (t992+a1_2))))) else(some false)) else(some true)) else(some true))=some r:=H
 have A10:=Aside0.mk A100
 clear A100
 by_cases c11:t993=0
 rotate_left
 ·rw[if_neg c11] at H
  have c11b0:(t993 == 0)=false:=beq_eq_false_iff_ne.mpr c11
  have c11b1:(t993 != 0)=true:=bne_iff_ne.mpr c11
  obtain rfl:=Option.some.inj H
  go_enter Try.func22,Try.ntmps22
  go_wp2_with (first|((with_reducible refine gate_dst (N:=4) rfl ?_);refine box_event ?hg (N:=4) ?hd (cs:= #[.int .i64 a0_0, .bool a0_1, .slice A0_2 l0_2.length c0_2]) (t:=24) ?hr ?_;(case hd=>rfl);(case hg=>rfl);(case hr=>first|(go_simp;done)|(go_simp;rfl));intro gb989 hg w54 hbox hb;have n0_:=Aside0.mk (below_step (by repeat(first|(with_reducible first|exact HB.out|apply below_alloc|apply pw_below_drewN|apply below_drew1)|exact HB.out)) hb);have n1_:=Aside0.mk (hbox);have n2_:=Aside0.mk ((by rw[hg];exact(below_size (by repeat(first|(with_reducible first|exact HB.out|apply below_alloc|apply pw_below_drewN|apply below_drew1)|exact HB.out))):w.heap.size≤gb989));have n3_:=Aside0.mk ((by rw[hg];exact(below_size (by repeat(first|(with_reducible first|exact HB.out|apply below_alloc|apply pw_below_drewN|apply below_drew1)|exact HB.out))):w.heap.size≤gb989));clear HB;have HB:=n0_;have BK989:=n1_;have GW989:=n2_;have GE989:=n3_;clear n0_ n1_ n2_ n3_;clear hb hbox hg)|((with_reducible refine gate_dst (N:=5) rfl ?_);refine box_event ?hg (N:=5) ?hd (cs:= #[.int .i64 a1_0, .int .i64 a1_1, .int .i64 a1_2, .int .i64 a1_3]) (t:=74) ?hr ?_;(case hd=>rfl);(case hg=>rfl);(case hr=>first|(go_simp;done)|(go_simp;rfl));intro gb990 hg w55 hbox hb;have n0_:=Aside0.mk (blk_below (g:=gb989) (o:= .cells #[.int .i64 a0_0, .bool a0_1, .slice A0_2 l0_2.length c0_2] 24 (0,0)) (by(with_reducible repeat(first|refine blk_drewN ?_ _|refine blk_drew ?_|refine blk_alloc ?_ _));exact BK989.out) hb);have n1_:=Aside0.mk (below_step (by repeat(first|(with_reducible first|exact HB.out|apply below_alloc|apply pw_below_drewN|apply below_drew1|refine below_set ?_ GE989.out)|exact HB.out)) hb);have n2_:=Aside0.mk (hbox);have n3_:=Aside0.mk ((by rw[hg];exact(below_size (by repeat(first|(with_reducible first|exact HB.out|apply below_alloc|apply pw_below_drewN|apply below_drew1|refine below_set ?_ GE989.out)|exact HB.out))):w.heap.size≤gb990));have n4_:=Aside0.mk ((by rw[hg];exact(below_size (by repeat(first|(with_reducible first|exact HB.out|apply below_alloc|apply pw_below_drewN|apply below_drew1|refine below_set ?_ GE989.out)|exact HB.out))):w.heap.size≤gb990));have n5_:=Aside0.mk ((by rw[hg];exact Nat.ne_of_lt (blk_lt (g:=gb989) (o:= .cells #[.int .i64 a0_0, .bool a0_1, .slice A0_2 l0_2.length c0_2] 24 (0,0)) (by(with_reducible repeat(first|refine blk_drewN ?_ _|refine blk_drew ?_|refine blk_alloc ?_ _));exact BK989.out)):gb989≠gb990));have n6_:=Aside0.mk ((by rw[hg];exact Nat.ne_of_gt (blk_lt (g:=gb989) (o:= .cells #[.int .i64 a0_0, .bool a0_1, .slice A0_2 l0_2.length c0_2] 24 (0,0)) (by(with_reducible repeat(first|refine blk_drewN ?_ _|refine blk_drew ?_|refine blk_alloc ?_ _));exact BK989.out)):gb990≠gb989));clear BK989;clear HB;have BK989:=n0_;have HB:=n1_;have BK990:=n2_;have GW990:=n3_;have GE990:=n4_;have NB989_990:=n5_;have NB990_989:=n6_;clear n0_ n1_ n2_ n3_ n4_ n5_ n6_;clear hb hbox hg)|((with_reducible refine gate_callee (f:=75) rfl ?_);refine goesL_ (some 15) rfl rfl Try.func75 (by kernel_rfl) rfl #[] rfl (by(try simp only[List.map_toArray,List.map_cons,List.map_nil]);first|done|rfl|(simp only[List.length_drop,List.length_take];rfl)) ?_;(with_reducible refine(ebbtidelaw09_awake.calls k  true _ A5.out).mono ?_);rintro e w56 ⟨rfl,hb⟩;refine⟨_,rfl,?_⟩;have n0_:=Aside0.mk (blk_below (g:=gb989) (o:= .cells #[.int .i64 a0_0, .bool a0_1, .slice A0_2 l0_2.length c0_2] 24 (0,0)) (by(with_reducible repeat(first|refine blk_drewN ?_ _|refine blk_drew ?_|refine blk_alloc ?_ _));exact BK989.out) hb);have n1_:=Aside0.mk (blk_below (g:=gb990) (o:= .cells #[.int .i64 a1_0, .int .i64 a1_1, .int .i64 a1_2, .int .i64 a1_3] 74 (0,0)) (by(with_reducible repeat(first|refine blk_drewN ?_ _|refine blk_drew ?_|refine blk_alloc ?_ _));exact BK990.out) hb);have n2_:=Aside0.mk (below_step (by repeat(first|(with_reducible first|exact HB.out|apply below_alloc|apply pw_below_drewN|apply below_drew1|refine below_set ?_ GE989.out|refine below_set ?_ GE990.out)|exact HB.out)) hb);clear BK989;clear BK990;clear HB;have BK989:=n0_;have BK990:=n1_;have HB:=n2_;clear n0_ n1_ n2_;(try clear hb);(try clear hb2);(try clear hk);(try clear hi);have hnb57:=NB989_990.out;have hnc57:=NB990_989.out;have hcz58_0:w56.cell? ⟨gb989,0,none⟩=some (.int .i64 a0_0):=(blk_cell BK989.out 0).trans rfl;have hcz58_1:w56.cell? ⟨gb989,1,none⟩=some (.bool a0_1):=(blk_cell BK989.out 1).trans rfl;have hcz58_2:w56.cell? ⟨gb989,2,none⟩=some (.slice A0_2 l0_2.length c0_2):=(blk_cell BK989.out 2).trans rfl;have hfz58_0:=blk_frozen BK989.out 0;have hfz58_1:=blk_frozen BK989.out 1;have hfz58_2:=blk_frozen BK989.out 2)|((with_reducible refine gate_callee (f:=73) rfl ?_);refine goesL_ (some 22) rfl rfl Try.func73 (by kernel_rfl) rfl #[.agg #[.int .i64 a0_0, .bool a0_1, .slice A0_2 l0_2.length c0_2], .int .i64 a2, .int .i64 a3] rfl (by(try simp only[List.map_toArray,List.map_cons,List.map_nil]);first|done|rfl|(simp only[List.length_drop,List.length_take];rfl)) ?_;(with_reducible refine(maxflow_Most.calls k a0_0 a0_1 _ _ l0_2 a2 a3 t992 t993 _ ?side1 ?side2 A7.out).mono ?_);(case side1=>repeat(first|exact(Kd.C_below HR0_2.out HB.out)|(with_reducible refine Kd.C_alloc ?_ _)|(with_reducible refine Kd.C_drewN ?_ _)|(with_reducible refine Kd.C_drew ?_)));(case side2=>exact HC0_2.out);rintro e w59 ⟨rfl,hb⟩;refine⟨_,rfl,?_⟩;have n0_:=Aside0.mk (blk_below (g:=gb989) (o:= .cells #[.int .i64 a0_0, .bool a0_1, .slice A0_2 l0_2.length c0_2] 24 (0,0)) (by(with_reducible repeat(first|refine blk_drewN ?_ _|refine blk_drew ?_|refine blk_alloc ?_ _));exact BK989.out) hb);have n1_:=Aside0.mk (blk_below (g:=gb990) (o:= .cells #[.int .i64 a1_0, .int .i64 a1_1, .int .i64 a1_2, .int .i64 a1_3] 74 (0,0)) (by(with_reducible repeat(first|refine blk_drewN ?_ _|refine blk_drew ?_|refine blk_alloc ?_ _));exact BK990.out) hb);have n2_:=Aside0.mk (below_step (by repeat(first|(with_reducible first|exact HB.out|apply below_alloc|apply pw_below_drewN|apply below_drew1|refine below_set ?_ GE989.out|refine below_set ?_ GE990.out)|exact HB.out)) hb);clear BK989;clear BK990;clear HB;have BK989:=n0_;have BK990:=n1_;have HB:=n2_;clear n0_ n1_ n2_;(try clear hb);(try clear hb2);(try clear hk);(try clear hi);have hcz60_0:w59.cell? ⟨gb989,0,none⟩=some (.int .i64 a0_0):=(blk_cell BK989.out 0).trans rfl;have hcz60_1:w59.cell? ⟨gb989,1,none⟩=some (.bool a0_1):=(blk_cell BK989.out 1).trans rfl;have hcz60_2:w59.cell? ⟨gb989,2,none⟩=some (.slice A0_2 l0_2.length c0_2):=(blk_cell BK989.out 2).trans rfl;have hfz60_0:=blk_frozen BK989.out 0;have hfz60_1:=blk_frozen BK989.out 1;have hfz60_2:=blk_frozen BK989.out 2)|((with_reducible refine gate_builtin (b:= .append) (xs:= #[.tmp 25, .tmp 27]) rfl ?_);at_builtin;refine Kd.R_append_rows k74 (w0:=w) w.heap.size rfl (.tmp 25) (.tmp 27) 22 74 (.agg #[(.int .i64 0),(.int .i64 0),(.int .i64 0),(.int .i64 0)]) 32 rfl Try.underlying22 info74 rfl (by decide) (by omega) (.slice none 0 0) ([]:List (S74)) l0_2 _ _ _ (fun k_=>k_≠gb990) (fun _=>False) rfl rfl ?aO ?aR (fun _ _ h=>h) (fun _ h=>h.elim) ?aF ?aB ?aS ?aL ?_;(case aR=>repeat(first|exact(Kd.C_below HR0_2.out HB.out)|(with_reducible refine Kd.C_alloc ?_ _)|(with_reducible refine Kd.C_drewN ?_ _)|(with_reducible refine Kd.C_drew ?_)));(case aB=>exact(by repeat(first|(with_reducible first|exact HB.out|apply below_alloc|apply pw_below_drewN|apply below_drew1|refine below_set ?_ GE989.out|refine below_set ?_ GE990.out)|exact HB.out)));(case aF=>exact(fun k_ hk=>Kd.freshB (g:=gb990) (o:= .cells #[.int .i64 a1_0, .int .i64 a1_1, .int .i64 a1_2, .int .i64 a1_3] 74 (0,0)) (by(with_reducible repeat(first|refine blk_drewN ?_ _|refine blk_drew ?_|refine blk_alloc ?_ _));exact BK990.out) k_ hk));(case aO=>exact((Kd.R_nil _ _ _ _ (fun k_=>k_≠gb990))));(case aS=>exact(below_size (by repeat(first|(with_reducible first|exact HB.out|apply below_alloc|apply pw_below_drewN|apply below_drew1|refine below_set ?_ GE989.out|refine below_set ?_ GE990.out)|exact HB.out))));(case aL=>have:=LMc8.out;omega);intro v995 w61 ho hb hg hat;rw[← Ny994.out] at ho;have n0_:=Aside0.mk (blk_grown (g:=gb989) (o:= .cells #[.int .i64 a0_0, .bool a0_1, .slice A0_2 l0_2.length c0_2] 24 (0,0)) (by(with_reducible repeat(first|refine blk_drewN ?_ _|refine blk_drew ?_|refine blk_alloc ?_ _));exact BK989.out) hg (by simp[Value.ownBlock]));have n1_:=Aside0.mk (blk_grown (g:=gb990) (o:= .cells #[.int .i64 a1_0, .int .i64 a1_1, .int .i64 a1_2, .int .i64 a1_3] 74 (0,0)) (by(with_reducible repeat(first|refine blk_drewN ?_ _|refine blk_drew ?_|refine blk_alloc ?_ _));exact BK990.out) hg (by simp[Value.ownBlock]));have n2_:=Aside0.mk (hb);have n3_:=Aside0.mk (ho);clear BK989;clear BK990;clear HB;have BK989:=n0_;have BK990:=n1_;have HB:=n2_;have HO996:=n3_;clear n0_ n1_ n2_ n3_;clear ho hb hg hat;have hcz62_0:w61.cell? ⟨gb990,0,none⟩=some (.int .i64 a1_0):=(blk_cell BK990.out 0).trans rfl;have hcz62_1:w61.cell? ⟨gb990,1,none⟩=some (.int .i64 a1_1):=(blk_cell BK990.out 1).trans rfl;have hcz62_2:w61.cell? ⟨gb990,2,none⟩=some (.int .i64 a1_2):=(blk_cell BK990.out 2).trans rfl;have hcz62_3:w61.cell? ⟨gb990,3,none⟩=some (.int .i64 a1_3):=(blk_cell BK990.out 3).trans rfl;have hfz62_0:=blk_frozen BK990.out 0;have hfz62_1:=blk_frozen BK990.out 1;have hfz62_2:=blk_frozen BK990.out 2;have hfz62_3:=blk_frozen BK990.out 3)|((with_reducible refine gate_builtin (b:= .append) (xs:= #[.tmp 29, .tmp 31]) rfl ?_);at_builtin;refine Kd.R_append k74 (w0:=w) w.heap.size rfl (.tmp 29) (.tmp 31) 22 74 (.agg #[(.int .i64 0),(.int .i64 0),(.int .i64 0),(.int .i64 0)]) 32 rfl Try.underlying22 info74 rfl (by decide) (by omega) v995 y994 (⟨a1_0,a1_1,a1_2,a1_3⟩:S74) [.int .i64 a1_0, .int .i64 a1_1, .int .i64 a1_2, .int .i64 a1_3] (fun k_=>k_≠gb990) (fun _=>False) rfl rfl ?aP (fun _ hk=>hk.elim) ?aF ?aO ?aB ?aS ?aL ?_;(case aP=>exact k74_mkM _ _ _ (⟨a1_0,a1_1,a1_2,a1_3⟩:S74));(case aB=>exact(by repeat(first|(with_reducible first|exact HB.out|apply below_alloc|apply pw_below_drewN|apply below_drew1|refine below_set ?_ GE989.out|refine below_set ?_ GE990.out)|exact HB.out)));(case aF=>exact(fun k_ hk=>Kd.freshB (g:=gb990) (o:= .cells #[.int .i64 a1_0, .int .i64 a1_1, .int .i64 a1_2, .int .i64 a1_3] 74 (0,0)) (by(with_reducible repeat(first|refine blk_drewN ?_ _|refine blk_drew ?_|refine blk_alloc ?_ _));exact BK990.out) k_ hk));(case aO=>exact(by(with_reducible repeat(first|apply Kd.R_alloc|apply Kd.R_drewN|apply Kd.R_drew));exact HO996.out));(case aS=>exact(below_size (by repeat(first|(with_reducible first|exact HB.out|apply below_alloc|apply pw_below_drewN|apply below_drew1|refine below_set ?_ GE989.out|refine below_set ?_ GE990.out)|exact HB.out))));(case aL=>have:=LMc9.out;omega);intro v998 w63 ho hb hg hat;rw[← Ny997.out] at ho;have n0_:=Aside0.mk (blk_grown (g:=gb989) (o:= .cells #[.int .i64 a0_0, .bool a0_1, .slice A0_2 l0_2.length c0_2] 24 (0,0)) (by(with_reducible repeat(first|refine blk_drewN ?_ _|refine blk_drew ?_|refine blk_alloc ?_ _));exact BK989.out) hg (Kd.R_ne HO996.out BK989.out (by decide)));have n1_:=Aside0.mk (blk_grown (g:=gb990) (o:= .cells #[.int .i64 a1_0, .int .i64 a1_1, .int .i64 a1_2, .int .i64 a1_3] 74 (0,0)) (by(with_reducible repeat(first|refine blk_drewN ?_ _|refine blk_drew ?_|refine blk_alloc ?_ _));exact BK990.out) hg (Kd.R_away HO996.out (fun _ hk=>hk)));have n2_:=Aside0.mk (hb);have n3_:=Aside0.mk (ho);clear BK989;clear BK990;clear HB;clear HO996;have BK989:=n0_;have BK990:=n1_;have HB:=n2_;have HO999:=n3_;clear n0_ n1_ n2_ n3_;clear ho hb hg hat;obtain⟨Ao64,co64,eo64⟩:=Kd.R_slice HO999.out;subst eo64;have hcz65_0:w63.cell? ⟨gb989,0,none⟩=some (.int .i64 a0_0):=(blk_cell BK989.out 0).trans rfl;have hcz65_1:w63.cell? ⟨gb989,1,none⟩=some (.bool a0_1):=(blk_cell BK989.out 1).trans rfl;have hcz65_2:w63.cell? ⟨gb989,2,none⟩=some (.slice A0_2 l0_2.length c0_2):=(blk_cell BK989.out 2).trans rfl;have hfz65_0:=blk_frozen BK989.out 0;have hfz65_1:=blk_frozen BK989.out 1;have hfz65_2:=blk_frozen BK989.out 2)|((with_reducible refine gate_callee (f:=73) rfl ?_);refine goesL_ (some 39) rfl rfl Try.func73 (by kernel_rfl) rfl #[.agg #[.int .i64 a0_0, .bool a0_1, .slice Ao64 y997.length co64], .int .i64 a2, .int .i64 a3] rfl (by(try simp only[List.map_toArray,List.map_cons,List.map_nil]);first|done|rfl|(simp only[List.length_drop,List.length_take];rfl)) ?_;(with_reducible refine(maxflow_Most.calls k a0_0 a0_1 _ _ y997 a2 a3 t1000 t1001 _ ?side1 ?side2 A10.out).mono ?_);(case side1=>refine(Kd.R_reads' (e:=74) (base:=w.heap.size) (ok:=fun k_=>k_≠gb990) (n:=y997.length) (c:=co64) ?_).2.2;exact(by(with_reducible repeat(first|apply Kd.R_alloc|apply Kd.R_drewN|apply Kd.R_drew));exact(Kd.R_mono (Kd.R_far (p:=⟨gb989,2,none⟩) (Kd.R_types HO999.out BK989.out (by decide)) (fun _ hk=>hk.2) (.slice Ao64 y997.length co64)) (fun _ h_=>h_.1))));(case side2=>exact(Kd.R_reads' HO999.out).2.1);rintro e w66 ⟨rfl,hb⟩;refine⟨_,rfl,?_⟩;have n0_:=Aside0.mk (Kd.R_below (by(with_reducible repeat(first|apply Kd.R_alloc|apply Kd.R_drewN|apply Kd.R_drew));exact(Kd.R_mono (Kd.R_far (p:=⟨gb989,2,none⟩) (Kd.R_types HO999.out BK989.out (by decide)) (fun _ hk=>hk.2) (.slice Ao64 y997.length co64)) (fun _ h_=>h_.1))) hb);have n1_:=Aside0.mk (blk_below (g:=gb989) (o:= .cells #[.int .i64 a0_0, .bool a0_1, .slice Ao64 y997.length co64] 24 (0,0)) (by(with_reducible repeat(first|refine blk_drewN ?_ _|refine blk_drew ?_|refine blk_alloc ?_ _));refine blk_put (cs:= #[.int .i64 a0_0, .bool a0_1, .slice A0_2 l0_2.length c0_2]) ?_ 2 _ rfl;(with_reducible repeat(first|refine blk_drewN ?_ _|refine blk_drew ?_|refine blk_alloc ?_ _));exact BK989.out) hb);have n2_:=Aside0.mk (blk_below (g:=gb990) (o:= .cells #[.int .i64 a1_0, .int .i64 a1_1, .int .i64 a1_2, .int .i64 a1_3] 74 (0,0)) (by(with_reducible repeat(first|refine blk_drewN ?_ _|refine blk_drew ?_|refine blk_alloc ?_ _));refine blk_far ?_ NB990_989.out _;(with_reducible repeat(first|refine blk_drewN ?_ _|refine blk_drew ?_|refine blk_alloc ?_ _));exact BK990.out) hb);have n3_:=Aside0.mk (below_step (by repeat(first|(with_reducible first|exact HB.out|apply below_alloc|apply pw_below_drewN|apply below_drew1|refine below_set ?_ GE989.out|refine below_set ?_ GE990.out)|exact HB.out)) hb);clear HO999;clear BK989;clear BK990;clear HB;have HO999:=n0_;have BK989:=n1_;have BK990:=n2_;have HB:=n3_;clear n0_ n1_ n2_ n3_;(try clear hb);(try clear hb2);(try clear hk);(try clear hi)))
  go_ret
  exact⟨by first|rfl|(simp[errW_none,errW_some]<;>rfl)|(simp[*,errW_none,errW_some]<;>rfl),by repeat(first|(with_reducible first|exact HB.out|apply below_alloc|apply pw_below_drewN|apply below_drew1|refine below_set ?_ GE989.out|refine below_set ?_ GE990.out)|exact HB.out)⟩
 rw[if_pos c11] at H
 have c11b0:(t993 == 0)=true:=beq_iff_eq.mpr c11
 have c11b1:(t993 != 0)=false:=bne_eq_false_iff_eq.mpr c11
 clear c11
 by_cases c12:t1001=0
 rotate_left
 ·rw[if_neg c12] at H
  have c12b0:(t1001 == 0)=false:=beq_eq_false_iff_ne.mpr c12
  have c12b1:(t1001 != 0)=true:=bne_iff_ne.mpr c12
  obtain rfl:=Option.some.inj H
  go_enter Try.func22,Try.ntmps22
  go_wp2_with (first|((with_reducible refine gate_dst (N:=4) rfl ?_);refine box_event ?hg (N:=4) ?hd (cs:= #[.int .i64 a0_0, .bool a0_1, .slice A0_2 l0_2.length c0_2]) (t:=24) ?hr ?_;(case hd=>rfl);(case hg=>rfl);(case hr=>first|(go_simp;done)|(go_simp;rfl));intro gb989 hg w41 hbox hb;have n0_:=Aside0.mk (below_step (by repeat(first|(with_reducible first|exact HB.out|apply below_alloc|apply pw_below_drewN|apply below_drew1)|exact HB.out)) hb);have n1_:=Aside0.mk (hbox);have n2_:=Aside0.mk ((by rw[hg];exact(below_size (by repeat(first|(with_reducible first|exact HB.out|apply below_alloc|apply pw_below_drewN|apply below_drew1)|exact HB.out))):w.heap.size≤gb989));have n3_:=Aside0.mk ((by rw[hg];exact(below_size (by repeat(first|(with_reducible first|exact HB.out|apply below_alloc|apply pw_below_drewN|apply below_drew1)|exact HB.out))):w.heap.size≤gb989));clear HB;have HB:=n0_;have BK989:=n1_;have GW989:=n2_;have GE989:=n3_;clear n0_ n1_ n2_ n3_;clear hb hbox hg)|((with_reducible refine gate_dst (N:=5) rfl ?_);refine box_event ?hg (N:=5) ?hd (cs:= #[.int .i64 a1_0, .int .i64 a1_1, .int .i64 a1_2, .int .i64 a1_3]) (t:=74) ?hr ?_;(case hd=>rfl);(case hg=>rfl);(case hr=>first|(go_simp;done)|(go_simp;rfl));intro gb990 hg w42 hbox hb;have n0_:=Aside0.mk (blk_below (g:=gb989) (o:= .cells #[.int .i64 a0_0, .bool a0_1, .slice A0_2 l0_2.length c0_2] 24 (0,0)) (by(with_reducible repeat(first|refine blk_drewN ?_ _|refine blk_drew ?_|refine blk_alloc ?_ _));exact BK989.out) hb);have n1_:=Aside0.mk (below_step (by repeat(first|(with_reducible first|exact HB.out|apply below_alloc|apply pw_below_drewN|apply below_drew1|refine below_set ?_ GE989.out)|exact HB.out)) hb);have n2_:=Aside0.mk (hbox);have n3_:=Aside0.mk ((by rw[hg];exact(below_size (by repeat(first|(with_reducible first|exact HB.out|apply below_alloc|apply pw_below_drewN|apply below_drew1|refine below_set ?_ GE989.out)|exact HB.out))):w.heap.size≤gb990));have n4_:=Aside0.mk ((by rw[hg];exact(below_size (by repeat(first|(with_reducible first|exact HB.out|apply below_alloc|apply pw_below_drewN|apply below_drew1|refine below_set ?_ GE989.out)|exact HB.out))):w.heap.size≤gb990));have n5_:=Aside0.mk ((by rw[hg];exact Nat.ne_of_lt (blk_lt (g:=gb989) (o:= .cells #[.int .i64 a0_0, .bool a0_1, .slice A0_2 l0_2.length c0_2] 24 (0,0)) (by(with_reducible repeat(first|refine blk_drewN ?_ _|refine blk_drew ?_|refine blk_alloc ?_ _));exact BK989.out)):gb989≠gb990));have n6_:=Aside0.mk ((by rw[hg];exact Nat.ne_of_gt (blk_lt (g:=gb989) (o:= .cells #[.int .i64 a0_0, .bool a0_1, .slice A0_2 l0_2.length c0_2] 24 (0,0)) (by(with_reducible repeat(first|refine blk_drewN ?_ _|refine blk_drew ?_|refine blk_alloc ?_ _));exact BK989.out)):gb990≠gb989));clear BK989;clear HB;have BK989:=n0_;have HB:=n1_;have BK990:=n2_;have GW990:=n3_;have GE990:=n4_;have NB989_990:=n5_;have NB990_989:=n6_;clear n0_ n1_ n2_ n3_ n4_ n5_ n6_;clear hb hbox hg)|((with_reducible refine gate_callee (f:=75) rfl ?_);refine goesL_ (some 15) rfl rfl Try.func75 (by kernel_rfl) rfl #[] rfl (by(try simp only[List.map_toArray,List.map_cons,List.map_nil]);first|done|rfl|(simp only[List.length_drop,List.length_take];rfl)) ?_;(with_reducible refine(ebbtidelaw09_awake.calls k  true _ A5.out).mono ?_);rintro e w43 ⟨rfl,hb⟩;refine⟨_,rfl,?_⟩;have n0_:=Aside0.mk (blk_below (g:=gb989) (o:= .cells #[.int .i64 a0_0, .bool a0_1, .slice A0_2 l0_2.length c0_2] 24 (0,0)) (by(with_reducible repeat(first|refine blk_drewN ?_ _|refine blk_drew ?_|refine blk_alloc ?_ _));exact BK989.out) hb);have n1_:=Aside0.mk (blk_below (g:=gb990) (o:= .cells #[.int .i64 a1_0, .int .i64 a1_1, .int .i64 a1_2, .int .i64 a1_3] 74 (0,0)) (by(with_reducible repeat(first|refine blk_drewN ?_ _|refine blk_drew ?_|refine blk_alloc ?_ _));exact BK990.out) hb);have n2_:=Aside0.mk (below_step (by repeat(first|(with_reducible first|exact HB.out|apply below_alloc|apply pw_below_drewN|apply below_drew1|refine below_set ?_ GE989.out|refine below_set ?_ GE990.out)|exact HB.out)) hb);clear BK989;clear BK990;clear HB;have BK989:=n0_;have BK990:=n1_;have HB:=n2_;clear n0_ n1_ n2_;(try clear hb);(try clear hb2);(try clear hk);(try clear hi);have hnb44:=NB989_990.out;have hnc44:=NB990_989.out;have hcz45_0:w43.cell? ⟨gb989,0,none⟩=some (.int .i64 a0_0):=(blk_cell BK989.out 0).trans rfl;have hcz45_1:w43.cell? ⟨gb989,1,none⟩=some (.bool a0_1):=(blk_cell BK989.out 1).trans rfl;have hcz45_2:w43.cell? ⟨gb989,2,none⟩=some (.slice A0_2 l0_2.length c0_2):=(blk_cell BK989.out 2).trans rfl;have hfz45_0:=blk_frozen BK989.out 0;have hfz45_1:=blk_frozen BK989.out 1;have hfz45_2:=blk_frozen BK989.out 2)|((with_reducible refine gate_callee (f:=73) rfl ?_);refine goesL_ (some 22) rfl rfl Try.func73 (by kernel_rfl) rfl #[.agg #[.int .i64 a0_0, .bool a0_1, .slice A0_2 l0_2.length c0_2], .int .i64 a2, .int .i64 a3] rfl (by(try simp only[List.map_toArray,List.map_cons,List.map_nil]);first|done|rfl|(simp only[List.length_drop,List.length_take];rfl)) ?_;(with_reducible refine(maxflow_Most.calls k a0_0 a0_1 _ _ l0_2 a2 a3 t992 t993 _ ?side1 ?side2 A7.out).mono ?_);(case side1=>repeat(first|exact(Kd.C_below HR0_2.out HB.out)|(with_reducible refine Kd.C_alloc ?_ _)|(with_reducible refine Kd.C_drewN ?_ _)|(with_reducible refine Kd.C_drew ?_)));(case side2=>exact HC0_2.out);rintro e w46 ⟨rfl,hb⟩;refine⟨_,rfl,?_⟩;have n0_:=Aside0.mk (blk_below (g:=gb989) (o:= .cells #[.int .i64 a0_0, .bool a0_1, .slice A0_2 l0_2.length c0_2] 24 (0,0)) (by(with_reducible repeat(first|refine blk_drewN ?_ _|refine blk_drew ?_|refine blk_alloc ?_ _));exact BK989.out) hb);have n1_:=Aside0.mk (blk_below (g:=gb990) (o:= .cells #[.int .i64 a1_0, .int .i64 a1_1, .int .i64 a1_2, .int .i64 a1_3] 74 (0,0)) (by(with_reducible repeat(first|refine blk_drewN ?_ _|refine blk_drew ?_|refine blk_alloc ?_ _));exact BK990.out) hb);have n2_:=Aside0.mk (below_step (by repeat(first|(with_reducible first|exact HB.out|apply below_alloc|apply pw_below_drewN|apply below_drew1|refine below_set ?_ GE989.out|refine below_set ?_ GE990.out)|exact HB.out)) hb);clear BK989;clear BK990;clear HB;have BK989:=n0_;have BK990:=n1_;have HB:=n2_;clear n0_ n1_ n2_;(try clear hb);(try clear hb2);(try clear hk);(try clear hi);have hcz47_0:w46.cell? ⟨gb989,0,none⟩=some (.int .i64 a0_0):=(blk_cell BK989.out 0).trans rfl;have hcz47_1:w46.cell? ⟨gb989,1,none⟩=some (.bool a0_1):=(blk_cell BK989.out 1).trans rfl;have hcz47_2:w46.cell? ⟨gb989,2,none⟩=some (.slice A0_2 l0_2.length c0_2):=(blk_cell BK989.out 2).trans rfl;have hfz47_0:=blk_frozen BK989.out 0;have hfz47_1:=blk_frozen BK989.out 1;have hfz47_2:=blk_frozen BK989.out 2)|((with_reducible refine gate_builtin (b:= .append) (xs:= #[.tmp 25, .tmp 27]) rfl ?_);at_builtin;refine Kd.R_append_rows k74 (w0:=w) w.heap.size rfl (.tmp 25) (.tmp 27) 22 74 (.agg #[(.int .i64 0),(.int .i64 0),(.int .i64 0),(.int .i64 0)]) 32 rfl Try.underlying22 info74 rfl (by decide) (by omega) (.slice none 0 0) ([]:List (S74)) l0_2 _ _ _ (fun k_=>k_≠gb990) (fun _=>False) rfl rfl ?aO ?aR (fun _ _ h=>h) (fun _ h=>h.elim) ?aF ?aB ?aS ?aL ?_;(case aR=>repeat(first|exact(Kd.C_below HR0_2.out HB.out)|(with_reducible refine Kd.C_alloc ?_ _)|(with_reducible refine Kd.C_drewN ?_ _)|(with_reducible refine Kd.C_drew ?_)));(case aB=>exact(by repeat(first|(with_reducible first|exact HB.out|apply below_alloc|apply pw_below_drewN|apply below_drew1|refine below_set ?_ GE989.out|refine below_set ?_ GE990.out)|exact HB.out)));(case aF=>exact(fun k_ hk=>Kd.freshB (g:=gb990) (o:= .cells #[.int .i64 a1_0, .int .i64 a1_1, .int .i64 a1_2, .int .i64 a1_3] 74 (0,0)) (by(with_reducible repeat(first|refine blk_drewN ?_ _|refine blk_drew ?_|refine blk_alloc ?_ _));exact BK990.out) k_ hk));(case aO=>exact((Kd.R_nil _ _ _ _ (fun k_=>k_≠gb990))));(case aS=>exact(below_size (by repeat(first|(with_reducible first|exact HB.out|apply below_alloc|apply pw_below_drewN|apply below_drew1|refine below_set ?_ GE989.out|refine below_set ?_ GE990.out)|exact HB.out))));(case aL=>have:=LMc8.out;omega);intro v995 w48 ho hb hg hat;rw[← Ny994.out] at ho;have n0_:=Aside0.mk (blk_grown (g:=gb989) (o:= .cells #[.int .i64 a0_0, .bool a0_1, .slice A0_2 l0_2.length c0_2] 24 (0,0)) (by(with_reducible repeat(first|refine blk_drewN ?_ _|refine blk_drew ?_|refine blk_alloc ?_ _));exact BK989.out) hg (by simp[Value.ownBlock]));have n1_:=Aside0.mk (blk_grown (g:=gb990) (o:= .cells #[.int .i64 a1_0, .int .i64 a1_1, .int .i64 a1_2, .int .i64 a1_3] 74 (0,0)) (by(with_reducible repeat(first|refine blk_drewN ?_ _|refine blk_drew ?_|refine blk_alloc ?_ _));exact BK990.out) hg (by simp[Value.ownBlock]));have n2_:=Aside0.mk (hb);have n3_:=Aside0.mk (ho);clear BK989;clear BK990;clear HB;have BK989:=n0_;have BK990:=n1_;have HB:=n2_;have HO996:=n3_;clear n0_ n1_ n2_ n3_;clear ho hb hg hat;have hcz49_0:w48.cell? ⟨gb990,0,none⟩=some (.int .i64 a1_0):=(blk_cell BK990.out 0).trans rfl;have hcz49_1:w48.cell? ⟨gb990,1,none⟩=some (.int .i64 a1_1):=(blk_cell BK990.out 1).trans rfl;have hcz49_2:w48.cell? ⟨gb990,2,none⟩=some (.int .i64 a1_2):=(blk_cell BK990.out 2).trans rfl;have hcz49_3:w48.cell? ⟨gb990,3,none⟩=some (.int .i64 a1_3):=(blk_cell BK990.out 3).trans rfl;have hfz49_0:=blk_frozen BK990.out 0;have hfz49_1:=blk_frozen BK990.out 1;have hfz49_2:=blk_frozen BK990.out 2;have hfz49_3:=blk_frozen BK990.out 3)|((with_reducible refine gate_builtin (b:= .append) (xs:= #[.tmp 29, .tmp 31]) rfl ?_);at_builtin;refine Kd.R_append k74 (w0:=w) w.heap.size rfl (.tmp 29) (.tmp 31) 22 74 (.agg #[(.int .i64 0),(.int .i64 0),(.int .i64 0),(.int .i64 0)]) 32 rfl Try.underlying22 info74 rfl (by decide) (by omega) v995 y994 (⟨a1_0,a1_1,a1_2,a1_3⟩:S74) [.int .i64 a1_0, .int .i64 a1_1, .int .i64 a1_2, .int .i64 a1_3] (fun k_=>k_≠gb990) (fun _=>False) rfl rfl ?aP (fun _ hk=>hk.elim) ?aF ?aO ?aB ?aS ?aL ?_;(case aP=>exact k74_mkM _ _ _ (⟨a1_0,a1_1,a1_2,a1_3⟩:S74));(case aB=>exact(by repeat(first|(with_reducible first|exact HB.out|apply below_alloc|apply pw_below_drewN|apply below_drew1|refine below_set ?_ GE989.out|refine below_set ?_ GE990.out)|exact HB.out)));(case aF=>exact(fun k_ hk=>Kd.freshB (g:=gb990) (o:= .cells #[.int .i64 a1_0, .int .i64 a1_1, .int .i64 a1_2, .int .i64 a1_3] 74 (0,0)) (by(with_reducible repeat(first|refine blk_drewN ?_ _|refine blk_drew ?_|refine blk_alloc ?_ _));exact BK990.out) k_ hk));(case aO=>exact(by(with_reducible repeat(first|apply Kd.R_alloc|apply Kd.R_drewN|apply Kd.R_drew));exact HO996.out));(case aS=>exact(below_size (by repeat(first|(with_reducible first|exact HB.out|apply below_alloc|apply pw_below_drewN|apply below_drew1|refine below_set ?_ GE989.out|refine below_set ?_ GE990.out)|exact HB.out))));(case aL=>have:=LMc9.out;omega);intro v998 w50 ho hb hg hat;rw[← Ny997.out] at ho;have n0_:=Aside0.mk (blk_grown (g:=gb989) (o:= .cells #[.int .i64 a0_0, .bool a0_1, .slice A0_2 l0_2.length c0_2] 24 (0,0)) (by(with_reducible repeat(first|refine blk_drewN ?_ _|refine blk_drew ?_|refine blk_alloc ?_ _));exact BK989.out) hg (Kd.R_ne HO996.out BK989.out (by decide)));have n1_:=Aside0.mk (blk_grown (g:=gb990) (o:= .cells #[.int .i64 a1_0, .int .i64 a1_1, .int .i64 a1_2, .int .i64 a1_3] 74 (0,0)) (by(with_reducible repeat(first|refine blk_drewN ?_ _|refine blk_drew ?_|refine blk_alloc ?_ _));exact BK990.out) hg (Kd.R_away HO996.out (fun _ hk=>hk)));have n2_:=Aside0.mk (hb);have n3_:=Aside0.mk (ho);clear BK989;clear BK990;clear HB;clear HO996;have BK989:=n0_;have BK990:=n1_;have HB:=n2_;have HO999:=n3_;clear n0_ n1_ n2_ n3_;clear ho hb hg hat;obtain⟨Ao51,co51,eo51⟩:=Kd.R_slice HO999.out;subst eo51;have hcz52_0:w50.cell? ⟨gb989,0,none⟩=some (.int .i64 a0_0):=(blk_cell BK989.out 0).trans rfl;have hcz52_1:w50.cell? ⟨gb989,1,none⟩=some (.bool a0_1):=(blk_cell BK989.out 1).trans rfl;have hcz52_2:w50.cell? ⟨gb989,2,none⟩=some (.slice A0_2 l0_2.length c0_2):=(blk_cell BK989.out 2).trans rfl;have hfz52_0:=blk_frozen BK989.out 0;have hfz52_1:=blk_frozen BK989.out 1;have hfz52_2:=blk_frozen BK989.out 2)|((with_reducible refine gate_callee (f:=73) rfl ?_);refine goesL_ (some 39) rfl rfl Try.func73 (by kernel_rfl) rfl #[.agg #[.int .i64 a0_0, .bool a0_1, .slice Ao51 y997.length co51], .int .i64 a2, .int .i64 a3] rfl (by(try simp only[List.map_toArray,List.map_cons,List.map_nil]);first|done|rfl|(simp only[List.length_drop,List.length_take];rfl)) ?_;(with_reducible refine(maxflow_Most.calls k a0_0 a0_1 _ _ y997 a2 a3 t1000 t1001 _ ?side1 ?side2 A10.out).mono ?_);(case side1=>refine(Kd.R_reads' (e:=74) (base:=w.heap.size) (ok:=fun k_=>k_≠gb990) (n:=y997.length) (c:=co51) ?_).2.2;exact(by(with_reducible repeat(first|apply Kd.R_alloc|apply Kd.R_drewN|apply Kd.R_drew));exact(Kd.R_mono (Kd.R_far (p:=⟨gb989,2,none⟩) (Kd.R_types HO999.out BK989.out (by decide)) (fun _ hk=>hk.2) (.slice Ao51 y997.length co51)) (fun _ h_=>h_.1))));(case side2=>exact(Kd.R_reads' HO999.out).2.1);rintro e w53 ⟨rfl,hb⟩;refine⟨_,rfl,?_⟩;have n0_:=Aside0.mk (Kd.R_below (by(with_reducible repeat(first|apply Kd.R_alloc|apply Kd.R_drewN|apply Kd.R_drew));exact(Kd.R_mono (Kd.R_far (p:=⟨gb989,2,none⟩) (Kd.R_types HO999.out BK989.out (by decide)) (fun _ hk=>hk.2) (.slice Ao51 y997.length co51)) (fun _ h_=>h_.1))) hb);have n1_:=Aside0.mk (blk_below (g:=gb989) (o:= .cells #[.int .i64 a0_0, .bool a0_1, .slice Ao51 y997.length co51] 24 (0,0)) (by(with_reducible repeat(first|refine blk_drewN ?_ _|refine blk_drew ?_|refine blk_alloc ?_ _));refine blk_put (cs:= #[.int .i64 a0_0, .bool a0_1, .slice A0_2 l0_2.length c0_2]) ?_ 2 _ rfl;(with_reducible repeat(first|refine blk_drewN ?_ _|refine blk_drew ?_|refine blk_alloc ?_ _));exact BK989.out) hb);have n2_:=Aside0.mk (blk_below (g:=gb990) (o:= .cells #[.int .i64 a1_0, .int .i64 a1_1, .int .i64 a1_2, .int .i64 a1_3] 74 (0,0)) (by(with_reducible repeat(first|refine blk_drewN ?_ _|refine blk_drew ?_|refine blk_alloc ?_ _));refine blk_far ?_ NB990_989.out _;(with_reducible repeat(first|refine blk_drewN ?_ _|refine blk_drew ?_|refine blk_alloc ?_ _));exact BK990.out) hb);have n3_:=Aside0.mk (below_step (by repeat(first|(with_reducible first|exact HB.out|apply below_alloc|apply pw_below_drewN|apply below_drew1|refine below_set ?_ GE989.out|refine below_set ?_ GE990.out)|exact HB.out)) hb);clear HO999;clear BK989;clear BK990;clear HB;have HO999:=n0_;have BK989:=n1_;have BK990:=n2_;have HB:=n3_;clear n0_ n1_ n2_ n3_;(try clear hb);(try clear hb2);(try clear hk);(try clear hi)))
  go_ret
  exact⟨by first|rfl|(simp[errW_none,errW_some]<;>rfl)|(simp[*,errW_none,errW_some]<;>rfl),by repeat(first|(with_reducible first|exact HB.out|apply below_alloc|apply pw_below_drewN|apply below_drew1|refine below_set ?_ GE989.out|refine below_set ?_ GE990.out)|exact HB.out)⟩
 rw[if_pos c12] at H
 have c12b0:(t1001 == 0)=true:=beq_iff_eq.mpr c12
 have c12b1:(t1001 != 0)=false:=bne_eq_false_iff_eq.mpr c12
 clear c12
 by_cases c13:t1000≥t992
 rotate_left
 ·rw[if_neg c13] at H
  exact absurd (Option.some.inj H) (by rw[HRT.out];decide)
 rw[if_pos c13] at H
 have c13b0:decide (t992≤t1000)=true:=decide_eq_true c13
 clear c13
 obtain rfl:=Option.some.inj H
 go_enter Try.func22,Try.ntmps22
 go_wp2_with (first|((with_reducible refine gate_dst (N:=4) rfl ?_);refine box_event ?hg (N:=4) ?hd (cs:= #[.int .i64 a0_0, .bool a0_1, .slice A0_2 l0_2.length c0_2]) (t:=24) ?hr ?_;(case hd=>rfl);(case hg=>rfl);(case hr=>first|(go_simp;done)|(go_simp;rfl));intro gb989 hg w14 hbox hb;have n0_:=Aside0.mk (below_step (by repeat(first|(with_reducible first|exact HB.out|apply below_alloc|apply pw_below_drewN|apply below_drew1)|exact HB.out)) hb);have n1_:=Aside0.mk (hbox);have n2_:=Aside0.mk ((by rw[hg];exact(below_size (by repeat(first|(with_reducible first|exact HB.out|apply below_alloc|apply pw_below_drewN|apply below_drew1)|exact HB.out))):w.heap.size≤gb989));have n3_:=Aside0.mk ((by rw[hg];exact(below_size (by repeat(first|(with_reducible first|exact HB.out|apply below_alloc|apply pw_below_drewN|apply below_drew1)|exact HB.out))):w.heap.size≤gb989));clear HB;have HB:=n0_;have BK989:=n1_;have GW989:=n2_;have GE989:=n3_;clear n0_ n1_ n2_ n3_;clear hb hbox hg)|((with_reducible refine gate_dst (N:=5) rfl ?_);refine box_event ?hg (N:=5) ?hd (cs:= #[.int .i64 a1_0, .int .i64 a1_1, .int .i64 a1_2, .int .i64 a1_3]) (t:=74) ?hr ?_;(case hd=>rfl);(case hg=>rfl);(case hr=>first|(go_simp;done)|(go_simp;rfl));intro gb990 hg w15 hbox hb;have n0_:=Aside0.mk (blk_below (g:=gb989) (o:= .cells #[.int .i64 a0_0, .bool a0_1, .slice A0_2 l0_2.length c0_2] 24 (0,0)) (by(with_reducible repeat(first|refine blk_drewN ?_ _|refine blk_drew ?_|refine blk_alloc ?_ _));exact BK989.out) hb);have n1_:=Aside0.mk (below_step (by repeat(first|(with_reducible first|exact HB.out|apply below_alloc|apply pw_below_drewN|apply below_drew1|refine below_set ?_ GE989.out)|exact HB.out)) hb);have n2_:=Aside0.mk (hbox);have n3_:=Aside0.mk ((by rw[hg];exact(below_size (by repeat(first|(with_reducible first|exact HB.out|apply below_alloc|apply pw_below_drewN|apply below_drew1|refine below_set ?_ GE989.out)|exact HB.out))):w.heap.size≤gb990));have n4_:=Aside0.mk ((by rw[hg];exact(below_size (by repeat(first|(with_reducible first|exact HB.out|apply below_alloc|apply pw_below_drewN|apply below_drew1|refine below_set ?_ GE989.out)|exact HB.out))):w.heap.size≤gb990));have n5_:=Aside0.mk ((by rw[hg];exact Nat.ne_of_lt (blk_lt (g:=gb989) (o:= .cells #[.int .i64 a0_0, .bool a0_1, .slice A0_2 l0_2.length c0_2] 24 (0,0)) (by(with_reducible repeat(first|refine blk_drewN ?_ _|refine blk_drew ?_|refine blk_alloc ?_ _));exact BK989.out)):gb989≠gb990));have n6_:=Aside0.mk ((by rw[hg];exact Nat.ne_of_gt (blk_lt (g:=gb989) (o:= .cells #[.int .i64 a0_0, .bool a0_1, .slice A0_2 l0_2.length c0_2] 24 (0,0)) (by(with_reducible repeat(first|refine blk_drewN ?_ _|refine blk_drew ?_|refine blk_alloc ?_ _));exact BK989.out)):gb990≠gb989));clear BK989;clear HB;have BK989:=n0_;have HB:=n1_;have BK990:=n2_;have GW990:=n3_;have GE990:=n4_;have NB989_990:=n5_;have NB990_989:=n6_;clear n0_ n1_ n2_ n3_ n4_ n5_ n6_;clear hb hbox hg)|((with_reducible refine gate_callee (f:=75) rfl ?_);refine goesL_ (some 15) rfl rfl Try.func75 (by kernel_rfl) rfl #[] rfl (by(try simp only[List.map_toArray,List.map_cons,List.map_nil]);first|done|rfl|(simp only[List.length_drop,List.length_take];rfl)) ?_;(with_reducible refine(ebbtidelaw09_awake.calls k  true _ A5.out).mono ?_);rintro e w16 ⟨rfl,hb⟩;refine⟨_,rfl,?_⟩;have n0_:=Aside0.mk (blk_below (g:=gb989) (o:= .cells #[.int .i64 a0_0, .bool a0_1, .slice A0_2 l0_2.length c0_2] 24 (0,0)) (by(with_reducible repeat(first|refine blk_drewN ?_ _|refine blk_drew ?_|refine blk_alloc ?_ _));exact BK989.out) hb);have n1_:=Aside0.mk (blk_below (g:=gb990) (o:= .cells #[.int .i64 a1_0, .int .i64 a1_1, .int .i64 a1_2, .int .i64 a1_3] 74 (0,0)) (by(with_reducible repeat(first|refine blk_drewN ?_ _|refine blk_drew ?_|refine blk_alloc ?_ _));exact BK990.out) hb);have n2_:=Aside0.mk (below_step (by repeat(first|(with_reducible first|exact HB.out|apply below_alloc|apply pw_below_drewN|apply below_drew1|refine below_set ?_ GE989.out|refine below_set ?_ GE990.out)|exact HB.out)) hb);clear BK989;clear BK990;clear HB;have BK989:=n0_;have BK990:=n1_;have HB:=n2_;clear n0_ n1_ n2_;(try clear hb);(try clear hb2);(try clear hk);(try clear hi);have hnb17:=NB989_990.out;have hnc17:=NB990_989.out;have hcz18_0:w16.cell? ⟨gb989,0,none⟩=some (.int .i64 a0_0):=(blk_cell BK989.out 0).trans rfl;have hcz18_1:w16.cell? ⟨gb989,1,none⟩=some (.bool a0_1):=(blk_cell BK989.out 1).trans rfl;have hcz18_2:w16.cell? ⟨gb989,2,none⟩=some (.slice A0_2 l0_2.length c0_2):=(blk_cell BK989.out 2).trans rfl;have hfz18_0:=blk_frozen BK989.out 0;have hfz18_1:=blk_frozen BK989.out 1;have hfz18_2:=blk_frozen BK989.out 2)|((with_reducible refine gate_callee (f:=73) rfl ?_);refine goesL_ (some 22) rfl rfl Try.func73 (by kernel_rfl) rfl #[.agg #[.int .i64 a0_0, .bool a0_1, .slice A0_2 l0_2.length c0_2], .int .i64 a2, .int .i64 a3] rfl (by(try simp only[List.map_toArray,List.map_cons,List.map_nil]);first|done|rfl|(simp only[List.length_drop,List.length_take];rfl)) ?_;(with_reducible refine(maxflow_Most.calls k a0_0 a0_1 _ _ l0_2 a2 a3 t992 t993 _ ?side1 ?side2 A7.out).mono ?_);(case side1=>repeat(first|exact(Kd.C_below HR0_2.out HB.out)|(with_reducible refine Kd.C_alloc ?_ _)|(with_reducible refine Kd.C_drewN ?_ _)|(with_reducible refine Kd.C_drew ?_)));(case side2=>exact HC0_2.out);rintro e w19 ⟨rfl,hb⟩;refine⟨_,rfl,?_⟩;have n0_:=Aside0.mk (blk_below (g:=gb989) (o:= .cells #[.int .i64 a0_0, .bool a0_1, .slice A0_2 l0_2.length c0_2] 24 (0,0)) (by(with_reducible repeat(first|refine blk_drewN ?_ _|refine blk_drew ?_|refine blk_alloc ?_ _));exact BK989.out) hb);have n1_:=Aside0.mk (blk_below (g:=gb990) (o:= .cells #[.int .i64 a1_0, .int .i64 a1_1, .int .i64 a1_2, .int .i64 a1_3] 74 (0,0)) (by(with_reducible repeat(first|refine blk_drewN ?_ _|refine blk_drew ?_|refine blk_alloc ?_ _));exact BK990.out) hb);have n2_:=Aside0.mk (below_step (by repeat(first|(with_reducible first|exact HB.out|apply below_alloc|apply pw_below_drewN|apply below_drew1|refine below_set ?_ GE989.out|refine below_set ?_ GE990.out)|exact HB.out)) hb);clear BK989;clear BK990;clear HB;have BK989:=n0_;have BK990:=n1_;have HB:=n2_;clear n0_ n1_ n2_;(try clear hb);(try clear hb2);(try clear hk);(try clear hi);have hcz20_0:w19.cell? ⟨gb989,0,none⟩=some (.int .i64 a0_0):=(blk_cell BK989.out 0).trans rfl;have hcz20_1:w19.cell? ⟨gb989,1,none⟩=some (.bool a0_1):=(blk_cell BK989.out 1).trans rfl;have hcz20_2:w19.cell? ⟨gb989,2,none⟩=some (.slice A0_2 l0_2.length c0_2):=(blk_cell BK989.out 2).trans rfl;have hfz20_0:=blk_frozen BK989.out 0;have hfz20_1:=blk_frozen BK989.out 1;have hfz20_2:=blk_frozen BK989.out 2)|((with_reducible refine gate_builtin (b:= .append) (xs:= #[.tmp 25, .tmp 27]) rfl ?_);at_builtin;refine Kd.R_append_rows k74 (w0:=w) w.heap.size rfl (.tmp 25) (.tmp 27) 22 74 (.agg #[(.int .i64 0),(.int .i64 0),(.int .i64 0),(.int .i64 0)]) 32 rfl Try.underlying22 info74 rfl (by decide) (by omega) (.slice none 0 0) ([]:List (S74)) l0_2 _ _ _ (fun k_=>k_≠gb990) (fun _=>False) rfl rfl ?aO ?aR (fun _ _ h=>h) (fun _ h=>h.elim) ?aF ?aB ?aS ?aL ?_;(case aR=>repeat(first|exact(Kd.C_below HR0_2.out HB.out)|(with_reducible refine Kd.C_alloc ?_ _)|(with_reducible refine Kd.C_drewN ?_ _)|(with_reducible refine Kd.C_drew ?_)));(case aB=>exact(by repeat(first|(with_reducible first|exact HB.out|apply below_alloc|apply pw_below_drewN|apply below_drew1|refine below_set ?_ GE989.out|refine below_set ?_ GE990.out)|exact HB.out)));(case aF=>exact(fun k_ hk=>Kd.freshB (g:=gb990) (o:= .cells #[.int .i64 a1_0, .int .i64 a1_1, .int .i64 a1_2, .int .i64 a1_3] 74 (0,0)) (by(with_reducible repeat(first|refine blk_drewN ?_ _|refine blk_drew ?_|refine blk_alloc ?_ _));exact BK990.out) k_ hk));(case aO=>exact((Kd.R_nil _ _ _ _ (fun k_=>k_≠gb990))));(case aS=>exact(below_size (by repeat(first|(with_reducible first|exact HB.out|apply below_alloc|apply pw_below_drewN|apply below_drew1|refine below_set ?_ GE989.out|refine below_set ?_ GE990.out)|exact HB.out))));(case aL=>have:=LMc8.out;omega);intro v995 w21 ho hb hg hat;rw[← Ny994.out] at ho;have n0_:=Aside0.mk (blk_grown (g:=gb989) (o:= .cells #[.int .i64 a0_0, .bool a0_1, .slice A0_2 l0_2.length c0_2] 24 (0,0)) (by(with_reducible repeat(first|refine blk_drewN ?_ _|refine blk_drew ?_|refine blk_alloc ?_ _));exact BK989.out) hg (by simp[Value.ownBlock]));have n1_:=Aside0.mk (blk_grown (g:=gb990) (o:= .cells #[.int .i64 a1_0, .int .i64 a1_1, .int .i64 a1_2, .int .i64 a1_3] 74 (0,0)) (by(with_reducible repeat(first|refine blk_drewN ?_ _|refine blk_drew ?_|refine blk_alloc ?_ _));exact BK990.out) hg (by simp[Value.ownBlock]));have n2_:=Aside0.mk (hb);have n3_:=Aside0.mk (ho);clear BK989;clear BK990;clear HB;have BK989:=n0_;have BK990:=n1_;have HB:=n2_;have HO996:=n3_;clear n0_ n1_ n2_ n3_;clear ho hb hg hat;have hcz22_0:w21.cell? ⟨gb990,0,none⟩=some (.int .i64 a1_0):=(blk_cell BK990.out 0).trans rfl;have hcz22_1:w21.cell? ⟨gb990,1,none⟩=some (.int .i64 a1_1):=(blk_cell BK990.out 1).trans rfl;have hcz22_2:w21.cell? ⟨gb990,2,none⟩=some (.int .i64 a1_2):=(blk_cell BK990.out 2).trans rfl;have hcz22_3:w21.cell? ⟨gb990,3,none⟩=some (.int .i64 a1_3):=(blk_cell BK990.out 3).trans rfl;have hfz22_0:=blk_frozen BK990.out 0;have hfz22_1:=blk_frozen BK990.out 1;have hfz22_2:=blk_frozen BK990.out 2;have hfz22_3:=blk_frozen BK990.out 3)|((with_reducible refine gate_builtin (b:= .append) (xs:= #[.tmp 29, .tmp 31]) rfl ?_);at_builtin;refine Kd.R_append k74 (w0:=w) w.heap.size rfl (.tmp 29) (.tmp 31) 22 74 (.agg #[(.int .i64 0),(.int .i64 0),(.int .i64 0),(.int .i64 0)]) 32 rfl Try.underlying22 info74 rfl (by decide) (by omega) v995 y994 (⟨a1_0,a1_1,a1_2,a1_3⟩:S74) [.int .i64 a1_0, .int .i64 a1_1, .int .i64 a1_2, .int .i64 a1_3] (fun k_=>k_≠gb990) (fun _=>False) rfl rfl ?aP (fun _ hk=>hk.elim) ?aF ?aO ?aB ?aS ?aL ?_;(case aP=>exact k74_mkM _ _ _ (⟨a1_0,a1_1,a1_2,a1_3⟩:S74));(case aB=>exact(by repeat(first|(with_reducible first|exact HB.out|apply below_alloc|apply pw_below_drewN|apply below_drew1|refine below_set ?_ GE989.out|refine below_set ?_ GE990.out)|exact HB.out)));(case aF=>exact(fun k_ hk=>Kd.freshB (g:=gb990) (o:= .cells #[.int .i64 a1_0, .int .i64 a1_1, .int .i64 a1_2, .int .i64 a1_3] 74 (0,0)) (by(with_reducible repeat(first|refine blk_drewN ?_ _|refine blk_drew ?_|refine blk_alloc ?_ _));exact BK990.out) k_ hk));(case aO=>exact(by(with_reducible repeat(first|apply Kd.R_alloc|apply Kd.R_drewN|apply Kd.R_drew));exact HO996.out));(case aS=>exact(below_size (by repeat(first|(with_reducible first|exact HB.out|apply below_alloc|apply pw_below_drewN|apply below_drew1|refine below_set ?_ GE989.out|refine below_set ?_ GE990.out)|exact HB.out))));(case aL=>have:=LMc9.out;omega);intro v998 w23 ho hb hg hat;rw[← Ny997.out] at ho;have n0_:=Aside0.mk (blk_grown (g:=gb989) (o:= .cells #[.int .i64 a0_0, .bool a0_1, .slice A0_2 l0_2.length c0_2] 24 (0,0)) (by(with_reducible repeat(first|refine blk_drewN ?_ _|refine blk_drew ?_|refine blk_alloc ?_ _));exact BK989.out) hg (Kd.R_ne HO996.out BK989.out (by decide)));have n1_:=Aside0.mk (blk_grown (g:=gb990) (o:= .cells #[.int .i64 a1_0, .int .i64 a1_1, .int .i64 a1_2, .int .i64 a1_3] 74 (0,0)) (by(with_reducible repeat(first|refine blk_drewN ?_ _|refine blk_drew ?_|refine blk_alloc ?_ _));exact BK990.out) hg (Kd.R_away HO996.out (fun _ hk=>hk)));have n2_:=Aside0.mk (hb);have n3_:=Aside0.mk (ho);clear BK989;clear BK990;clear HB;clear HO996;have BK989:=n0_;have BK990:=n1_;have HB:=n2_;have HO999:=n3_;clear n0_ n1_ n2_ n3_;clear ho hb hg hat;obtain⟨Ao24,co24,eo24⟩:=Kd.R_slice HO999.out;subst eo24;have hcz25_0:w23.cell? ⟨gb989,0,none⟩=some (.int .i64 a0_0):=(blk_cell BK989.out 0).trans rfl;have hcz25_1:w23.cell? ⟨gb989,1,none⟩=some (.bool a0_1):=(blk_cell BK989.out 1).trans rfl;have hcz25_2:w23.cell? ⟨gb989,2,none⟩=some (.slice A0_2 l0_2.length c0_2):=(blk_cell BK989.out 2).trans rfl;have hfz25_0:=blk_frozen BK989.out 0;have hfz25_1:=blk_frozen BK989.out 1;have hfz25_2:=blk_frozen BK989.out 2)|((with_reducible refine gate_callee (f:=73) rfl ?_);refine goesL_ (some 39) rfl rfl Try.func73 (by kernel_rfl) rfl #[.agg #[.int .i64 a0_0, .bool a0_1, .slice Ao24 y997.length co24], .int .i64 a2, .int .i64 a3] rfl (by(try simp only[List.map_toArray,List.map_cons,List.map_nil]);first|done|rfl|(simp only[List.length_drop,List.length_take];rfl)) ?_;(with_reducible refine(maxflow_Most.calls k a0_0 a0_1 _ _ y997 a2 a3 t1000 t1001 _ ?side1 ?side2 A10.out).mono ?_);(case side1=>refine(Kd.R_reads' (e:=74) (base:=w.heap.size) (ok:=fun k_=>k_≠gb990) (n:=y997.length) (c:=co24) ?_).2.2;exact(by(with_reducible repeat(first|apply Kd.R_alloc|apply Kd.R_drewN|apply Kd.R_drew));exact(Kd.R_mono (Kd.R_far (p:=⟨gb989,2,none⟩) (Kd.R_types HO999.out BK989.out (by decide)) (fun _ hk=>hk.2) (.slice Ao24 y997.length co24)) (fun _ h_=>h_.1))));(case side2=>exact(Kd.R_reads' HO999.out).2.1);rintro e w26 ⟨rfl,hb⟩;refine⟨_,rfl,?_⟩;have n0_:=Aside0.mk (Kd.R_below (by(with_reducible repeat(first|apply Kd.R_alloc|apply Kd.R_drewN|apply Kd.R_drew));exact(Kd.R_mono (Kd.R_far (p:=⟨gb989,2,none⟩) (Kd.R_types HO999.out BK989.out (by decide)) (fun _ hk=>hk.2) (.slice Ao24 y997.length co24)) (fun _ h_=>h_.1))) hb);have n1_:=Aside0.mk (blk_below (g:=gb989) (o:= .cells #[.int .i64 a0_0, .bool a0_1, .slice Ao24 y997.length co24] 24 (0,0)) (by(with_reducible repeat(first|refine blk_drewN ?_ _|refine blk_drew ?_|refine blk_alloc ?_ _));refine blk_put (cs:= #[.int .i64 a0_0, .bool a0_1, .slice A0_2 l0_2.length c0_2]) ?_ 2 _ rfl;(with_reducible repeat(first|refine blk_drewN ?_ _|refine blk_drew ?_|refine blk_alloc ?_ _));exact BK989.out) hb);have n2_:=Aside0.mk (blk_below (g:=gb990) (o:= .cells #[.int .i64 a1_0, .int .i64 a1_1, .int .i64 a1_2, .int .i64 a1_3] 74 (0,0)) (by(with_reducible repeat(first|refine blk_drewN ?_ _|refine blk_drew ?_|refine blk_alloc ?_ _));refine blk_far ?_ NB990_989.out _;(with_reducible repeat(first|refine blk_drewN ?_ _|refine blk_drew ?_|refine blk_alloc ?_ _));exact BK990.out) hb);have n3_:=Aside0.mk (below_step (by repeat(first|(with_reducible first|exact HB.out|apply below_alloc|apply pw_below_drewN|apply below_drew1|refine below_set ?_ GE989.out|refine below_set ?_ GE990.out)|exact HB.out)) hb);clear HO999;clear BK989;clear BK990;clear HB;have HO999:=n0_;have BK989:=n1_;have BK990:=n2_;have HB:=n3_;clear n0_ n1_ n2_ n3_;(try clear hb);(try clear hb2);(try clear hk);(try clear hi);have hcz27_0:w26.cell? ⟨gb990,0,none⟩=some (.int .i64 a1_0):=(blk_cell BK990.out 0).trans rfl;have hcz27_1:w26.cell? ⟨gb990,1,none⟩=some (.int .i64 a1_1):=(blk_cell BK990.out 1).trans rfl;have hcz27_2:w26.cell? ⟨gb990,2,none⟩=some (.int .i64 a1_2):=(blk_cell BK990.out 2).trans rfl;have hcz27_3:w26.cell? ⟨gb990,3,none⟩=some (.int .i64 a1_3):=(blk_cell BK990.out 3).trans rfl;have hfz27_0:=blk_frozen BK990.out 0;have hfz27_1:=blk_frozen BK990.out 1;have hfz27_2:=blk_frozen BK990.out 2;have hfz27_3:=blk_frozen BK990.out 3))
 go_ret
 exact⟨by first|rfl|(simp[errW_none,errW_some]<;>rfl)|(simp[*,errW_none,errW_some]<;>rfl),by repeat(first|(with_reducible first|exact HB.out|apply below_alloc|apply pw_below_drewN|apply below_drew1|refine below_set ?_ GE989.out|refine below_set ?_ GE990.out)|exact HB.out)⟩
end Go.Proofs.Ytkcpanpdipmmmaa.P
namespace Go.Proofs.Ytkcpanpdipmmmaa.Opn
open Go.RowKit Go.ChangeShapes Go.WideShapes Go.Deep Go.Proofs.YtkcpanpdipmmmaaW.PrintWords
def Opens (P:Program) (t:TypeId) {α:Type} (d:Kd α) (ok:α→Prop):Prop:=
 ∀ (H:Type) (enc:TypeId × Value→H) (w:World) (base:Nat) (spare:Nat→Bool) (held:Bool) (fuel:Nat) (cs:List Value) (x:DataW H × List MemPlace),
  DataW.trod enc P w base spare held fuel t cs=some x→ ∃ a:α,d.K w a cs∧ok a
theorem opens_int {P:Program} {t:TypeId} {k:IntKind} (ht:P.underlying t=some (.int k)):Opens P t (Kd.int k) (fun n=>(Lit.int k n).wf=true):=by
 intro H enc w base spare held fuel cs x h
 obtain⟨n,rfl,_,hw⟩:=DataW.trod_int ht h
 exact⟨n,rfl,hw⟩
theorem opens_bool {P:Program} {t:TypeId} (ht:P.underlying t=some .bool):Opens P t Kd.bool (fun _=>True):=by
 intro H enc w base spare held fuel cs x h
 obtain⟨b,rfl,_⟩:=DataW.trod_bool ht h
 exact⟨b,rfl,trivial⟩
theorem opens_slice {P:Program} {t e:TypeId} {α:Type} {d:Kd α} {ok:α→Prop} (ht:P.underlying t=some (.slice e)) (hc:P.cellsOf e=d.sz) (h:Opens P e d ok):
  Opens P t (Kd.slice e d) (fun l=>l.length≤9223372036854775807∧ ∀ x∈l,ok x):=by
 intro H enc w base spare held fuel cs x hx
 rcases open_slice ht hx with ⟨rfl,_⟩|⟨a,len,cap,m,n,D,Pl,rfl,hb,hl,hm,hmm,_,hi⟩
 ·exact⟨[],⟨none,0,rfl,Nat.le_refl _,rfl,by simp,fun h=>absurd h (by simp)⟩,by simp,by simp⟩
 ·have hlm:len≤m:=by rw[hmm];split<;>omega
  have hel: ∀ i:Nat,i<len→ ∃ a':α,ok a'∧ ∃ c,c.length=d.sz∧d.K w a' c∧ ∀ j u,c[j]? =some u→w.cell? (a.add (i * d.sz+j))=some u:=by
   intro i hil
   obtain⟨cs',hcs,htr⟩:=hi i (by omega)
   obtain⟨a',hK,hok⟩:=h H enc w base spare held n cs' _ htr
   rw[hc] at hcs
   obtain⟨_,hcl,hat⟩:=World.cells?_some hcs
   refine⟨a',hok,cs',hcl,hK,fun j u hu=> ?_⟩
   have hj:j<d.sz:=by have:=(List.getElem?_eq_some_iff.1 hu).1;omega
   have:=hat j hj
   rw[← Go.Deep.add_add,this,hu]
  have hrow: ∀ k:Nat,k≤len→ ∃ xs:List α,xs.length=k∧(∀ x∈xs,ok x)∧ ∀ j p,xs[j]? =some p→ ∃ c,c.length=d.sz∧d.K w p c∧ ∀ i u,c[i]? =some u→w.cell? (a.add (j * d.sz+i))=some u:=by
   intro k
   induction k with
   |zero=>exact fun _=>⟨[],rfl,by simp,by simp⟩
   |succ k ih=>
    intro hk
    obtain⟨xs,h1,h2,h3⟩:=ih (by omega)
    obtain⟨a',ho,c,hcl,hK,hcell⟩:=hel k (by omega)
    refine⟨xs ++ [a'],by simp[h1],fun x hx=> ?_,fun j p hj=> ?_⟩
    ·rcases List.mem_append.1 hx with h|h
     ·exact h2 x h
     ·rw[List.mem_singleton.1 h];exact ho
    ·by_cases hjk:j<xs.length
     ·rw[List.getElem?_append_left hjk] at hj
      exact h3 j p hj
     ·have hjl:=(List.getElem?_eq_some_iff.1 hj).1
      simp at hjl
      have hje:j=k:=by omega
      subst hje
      rw[← h1,List.getElem?_concat_length] at hj
      obtain rfl:=Option.some.inj hj
      exact⟨c,hcl,hK,hcell⟩
  obtain⟨xs,h1,h2,h3⟩:=hrow len (Nat.le_refl _)
  have hmx:len≤9223372036854775807:=by unfold maxLen at hm;omega
  subst h1
  exact⟨xs,⟨some a,cap,rfl,hl,rfl,hmx,fun _=>⟨a,rfl,h3⟩⟩,hmx,h2⟩
theorem opens_iso {P:Program} {t:TypeId} {α β:Type} {d:Kd α} {ok:α→Prop} (h:Opens P t d ok) (f:β→α) (g:α→β) (hfg: ∀ x,f (g x)=x):Opens P t (Kd.iso d f) (fun y=>ok (f y)):=by
 intro H enc w base spare held fuel cs x hx
 obtain⟨a,hK,hok⟩:=h H enc w base spare held fuel cs x hx
 exact⟨g a,by show d.K w (f (g a)) cs;rw[hfg];exact hK,by show ok (f (g a));rw[hfg];exact hok⟩
def OpensFs (P:Program) (fs:List Field) (off:Nat) {α:Type} (d:Kd α) (ok:α→Prop):Prop:=
 ∀ (H:Type) (enc:TypeId × Value→H) (w:World) (base:Nat) (spare:Nat→Bool) (held:Bool) (n:Nat) (cs:List Value),cs.length=off+d.sz→
  (∀ f∈fs, ∃ y,DataW.trod enc P w base spare held n f.type ((cs.drop f.offset).take (P.cellsOf f.type))=some y)→ ∃ a:α,d.K w a (cs.drop off)∧ok a
theorem fs_one {P:Program} {f:Field} {off:Nat} {α:Type} {d:Kd α} {ok:α→Prop} (ho:f.offset=off) (hc:P.cellsOf f.type=d.sz) (h:Opens P f.type d ok):OpensFs P [f] off d ok:=by
 intro H enc w base spare held n cs hl hf
 obtain⟨y,hy⟩:=hf f (by simp)
 rw[ho,hc,List.take_of_length_le (by simp;omega)] at hy
 exact h H enc w base spare held n _ y hy
theorem fs_cons {P:Program} {f:Field} {fs:List Field} {off:Nat} {α β:Type} {d:Kd α} {d':Kd β} {ok:α→Prop} {ok':β→Prop} (ho:f.offset=off) (hc:P.cellsOf f.type=d.sz) (h:Opens P f.type d ok)
  (hr:OpensFs P fs (off+d.sz) d' ok'):OpensFs P (f::fs) off (Kd.pair d d') (fun x=>ok x.1∧ok' x.2):=by
 intro H enc w base spare held n cs hl hf
 have hsz:(Kd.pair d d').sz=d.sz+d'.sz:=rfl
 rw[hsz] at hl
 obtain⟨y,hy⟩:=hf f (by simp)
 rw[ho,hc] at hy
 obtain⟨a,hK,hok⟩:=h H enc w base spare held n _ y hy
 obtain⟨b,hKb,hokb⟩:=hr H enc w base spare held n cs (by omega) (fun f' hf'=>hf f' (List.mem_cons_of_mem _ hf'))
 refine⟨(a,b),⟨_,_,?_,hK,hKb⟩,hok,hokb⟩
 rw[← List.drop_drop]
 exact(List.take_append_drop _ _).symm
theorem opens_struct {P:Program} {t:TypeId} {fs:Array Field} {α:Type} {d:Kd α} {ok:α→Prop} (hs:P.underlying t=some (.struct fs)) (hC:P.cellsOf t=d.sz) (h:OpensFs P fs.toList 0 d ok):Opens P t d ok:=by
 intro H enc w base spare held fuel cs x hx
 obtain⟨xs,n,_,_,hl,hlen,hf⟩:=DataW.trod_struct hs hx
 obtain⟨a,hK,hok⟩:=h H enc w base spare held n cs (by rw[hl,hC,Nat.zero_add]) (fun f hfm=>by
  obtain⟨j,hj⟩:=List.getElem?_of_mem hfm
  have hj':fs[j]? =some f:=by rw[← hj];simp
  have hjl:j<xs.length:=by rw[hlen];exact(Array.getElem?_eq_some_iff.1 hj').1
  have h1:=hf j f hj'
  rw[List.getElem?_eq_getElem hjl] at h1
  exact⟨_,h1⟩)
 exact⟨a,hK,hok⟩
theorem arg_struct {H:Type} {enc:TypeId × Value→H} {P:Program} {w:World} {base b0:Nat} {spare:Nat→Bool} {held:Bool} {r:Reach} {t:TypeId} {fs:Array Field} {v:Value} {dd:DataW H} {p:List MemPlace} {α:Type} {d:Kd α} {ok:α→Prop}
  (hs:P.underlying t=some (.struct fs)) (ho:Opens P t d ok) (hv:Value.okWide P w r b0 t v) (h:DataW.Trod enc P w base spare held t v dd p): ∃ a cs,v= .agg cs∧d.K w a cs.toList∧ok a:=by
 obtain⟨cs,rfl,hsz⟩:=okWide_struct hs hv
 obtain⟨fuel,hf⟩:=h
 obtain⟨a,hK,hok⟩:=ho H enc w base spare held fuel _ _ hf
 exact⟨a,cs,rfl,by simpa [Value.cells] using hK,hok⟩
end Go.Proofs.Ytkcpanpdipmmmaa.Opn
namespace Go.Proofs.Ytkcpanpdipmmmaa.Q
open Go.RowKit Go.Proofs.YtkcpanpdipmmmaaW.PrintWords Go.Proofs.YtkcpanpdipmmmaaW.PrintLast Go.Proofs.YtkcpanpdipmmmaaW.PrintMore Go.Proofs.Ytkcpanpdipmmmaa.P
open Go.Proofs.Ytkcpanpdipmmmaa.H (endsErr Right right_of StepOf stRoom IsFlow leastR pushW stRoom_in)
theorem flowOk_of {l:List S74} {F:List Int} {n:Nat} (hr:Right l F n):FlowOk l F:=by
 refine⟨hr.len,fun i hi=> ?_⟩
 have:=hr.nums i (by rw[← hr.len];exact hi)
 rw[rd_nat]
 exact⟨this.2.2.1,this.2.2.2.1⟩
end Go.Proofs.Ytkcpanpdipmmmaa.Q
namespace Go.Proofs.Ytkcpanpdipmmmaa.Q
open Go.RowKit Go.Proofs.YtkcpanpdipmmmaaW.PrintWords Go.Proofs.YtkcpanpdipmmmaaW.PrintLast Go.Proofs.YtkcpanpdipmmmaaW.PrintMore Go.Proofs.Ytkcpanpdipmmmaa.P
open Go.Proofs.Ytkcpanpdipmmmaa.H (endsErr Right right_of StepOf stRoom IsFlow MaxF leastR pushW fillF bfP nodes netG dOf frP toP)
theorem max_fill {l:List S74} {n s t:Nat} (hr:Right l (List.replicate l.length 0) n) (hs:s<n) (ht:t<n) (hst:s≠t):MaxF l (fillF l n s t) n s t:=H.fill_max hr hs ht hst
theorem value_l0 (m:Int) (l:List S74) (f:List Int) (hn:NetOk m l) (hf:FlowOk l f) (v:Int) (d:Nat): ∀ (i:Nat) (acc:Int),i+d=l.length→ -(i * 2097152)≤acc→acc≤i * 2097152→
  Ev (fun k=>maxflow_Value.l0 k v f acc l (l.length:Int) (i:Int)) (acc+bal (l.drop i) (f.drop i) v):=by
 have hlen:=hf.len
 have hl:=hn.len
 induction d with
 |zero=>
  intro i acc hi h0 h1
  refine Ev.succ ?_;simp only[maxflow_Value.l0]
  repeat(first|exact Ev.now _|with_reducible refine Ev.pos (by first|assumption|omega) ?_|with_reducible refine Ev.neg (by first|assumption|omega) ?_|with_reducible refine Ev.let_ ?_)
  rw[List.drop_of_length_le (by omega)]
  exact Ev.done (by simp[bal])
 |succ d ih=>
  intro i acc hi h0 h1
  have hs:=hf.small hn (i:=(i:Int)) (by omega) (by omega)
  refine Ev.succ ?_;simp only[maxflow_Value.l0]
  repeat(first|exact Ev.now _|with_reducible refine Ev.pos (by first|assumption|omega) ?_|with_reducible refine Ev.neg (by first|assumption|omega) ?_|with_reducible refine Ev.let_ ?_)
  rw[wrap_succ (n:=l.length) (by omega) (by omega),drop_getD l i z74 (by omega),drop_getD f i 0 (by omega), ← rdArc_nat, ← rd_nat,bal_cons]
  refine Ev.ite (fun g=> ?_) (fun g=> ?_)
  ·rw[if_pos g]
   refine Ev.pos (by omega) ?_
   refine Ev.ite (fun g2=> ?_) (fun g2=> ?_)
   ·rw[if_pos g2,wrap_id (x:=acc+rd f (i:Int)) (by omega) (by omega),wrap_id (by omega) (by omega)]
    exact Ev.eq (ih (i+1) _ (by omega) (by omega) (by omega)) (by omega)
   ·rw[if_neg g2,wrap_id (x:=acc+rd f (i:Int)) (by omega) (by omega)]
    exact Ev.eq (ih (i+1) _ (by omega) (by omega) (by omega)) (by omega)
  ·rw[if_neg g]
   refine Ev.ite (fun g2=> ?_) (fun g2=> ?_)
   ·refine Ev.pos (by omega) ?_
    rw[if_pos g2,wrap_id (x:=acc - rd f (i:Int)) (by omega) (by omega)]
    exact Ev.eq (ih (i+1) _ (by omega) (by omega) (by omega)) (by omega)
   ·rw[if_neg g2]
    exact Ev.eq (ih (i+1) _ (by omega) (by omega) (by omega)) (by omega)
theorem value_ev (n m:Int) (b:Bool) (l:List S74) (f:List Int) (hn:NetOk m l) (hf:FlowOk l f) (v:Int):Ev (fun k=>maxflow_Value.f k n b l v f) (bal l f v):=by
 unfold maxflow_Value.f
 exact Ev.eq (value_l0 m l f hn hf v l.length 0 0 (by omega) (by omega) (by omega)) (by rw[List.drop_zero,List.drop_zero];omega)
def maxR (n:Int) (l:List S74) (s t:Int):List Int × Int × Int:=
 if endsErr n l s t=0 then(fillF l n.toNat s.toNat t.toNat,bal l (fillF l n.toNat s.toNat t.toNat) s,0) else([],0,endsErr n l s t)
def mostR (n:Int) (l:List S74) (s t:Int):Int × Int:=
 if endsErr n l s t=0 then(bal l (fillF l n.toNat s.toNat t.toNat) s,0) else(0,endsErr n l s t)
theorem fill_eq {n:Int} {l:List S74} {s t:Int} (b:Bool) (h:endsErr n l s t=0):maxflow_Fill.f n b l s t=some (fillF l n.toNat s.toNat t.toNat):=by unfold maxflow_Fill.f;rw[if_pos h]
theorem max_ev (n:Int) (b:Bool) (l:List S74) (s t:Int):Ev (fun k=>maxflow_Max.f k n b l s t) (maxR n l s t):=by
 unfold maxflow_Max.f maxR
 refine Ev.bind (ends_ev n b l s t) ?_
 by_cases h:endsErr n l s t=0
 ·rw[if_pos h]
  refine Ev.pos h ?_
  refine Ev.call (fill_eq b h) ?_
  obtain⟨n0,s0,t0,rfl,rfl,rfl,hs,ht,hst,hn,hr⟩:=ends_zero h
  simp only[Int.toNat_natCast]
  refine Ev.bind (value_ev n0 n0 b l _ hn (flowOk_of (max_fill hr hs ht hst).flow.right) s0) ?_
  exact Ev.now _
 ·rw[if_neg h]
  refine Ev.neg h ?_
  exact Ev.now _
theorem most_ev (n:Int) (b:Bool) (l:List S74) (s t:Int):Ev (fun k=>maxflow_Most.f k n b l s t) (mostR n l s t):=by
 unfold maxflow_Most.f
 refine Ev.bind (max_ev n b l s t) ?_
 refine Ev.done ?_
 unfold maxR mostR
 split<;>rfl
theorem mostR_nat {l:List S74} {n s t:Nat} (h:endsErr (n:Int) l (s:Int) (t:Int)=0):mostR n l s t=(bal l (fillF l n s t) s,0):=by
 unfold mostR;rw[if_pos h];simp only[Int.toNat_natCast]
theorem maxR_nat {l:List S74} {n s t:Nat} (h:endsErr (n:Int) l (s:Int) (t:Int)=0):maxR n l s t=(fillF l n s t,bal l (fillF l n s t) s,0):=by
 unfold maxR;rw[if_pos h];simp only[Int.toNat_natCast]
end Go.Proofs.Ytkcpanpdipmmmaa.Q
namespace Go.Proofs.Ytkcpanpdipmmmaa.Q
open Go.RowKit Go.Proofs.YtkcpanpdipmmmaaW.PrintWords Go.Proofs.YtkcpanpdipmmmaaW.PrintLast Go.Proofs.YtkcpanpdipmmmaaW.PrintMore Go.Proofs.Ytkcpanpdipmmmaa.P
open Go.Proofs.Ytkcpanpdipmmmaa.H (endsErr Right right_of IsFlow MaxF fillF capR)
def dia:List S74:=[(⟨0,1,3,0⟩:S74),(⟨0,2,2,0⟩:S74),(⟨1,3,2,0⟩:S74),(⟨2,3,3,0⟩:S74),(⟨1,2,5,0⟩:S74)]
theorem dia_right:Right dia (List.replicate dia.length 0) 4:=by
 obtain⟨n0,h1,h2⟩:=right_of (n:=4) (l:=dia) (F:=List.replicate dia.length 0) (by decide +kernel)
 obtain rfl:n0=4:=by omega
 exact h2
theorem dia_max:MaxF dia (fillF dia 4 0 3) 4 0 3:=max_fill dia_right (by decide) (by decide) (by decide)
theorem dia_back:MaxF dia (fillF dia 4 3 0) 4 3 0:=max_fill dia_right (by decide) (by decide) (by decide)
theorem dia_flow:IsFlow dia [3,2,2,3,1] 4 0 3:=by
 obtain⟨n0,h1,h2⟩:=right_of (n:=4) (l:=dia) (F:=[3,2,2,3,1]) (by decide +kernel)
 obtain rfl:n0=4:=by omega
 refine⟨h2,fun v a b c d=> ?_⟩
 rcases (show v=1∨v=2 by omega) with rfl|rfl<;>decide +kernel
theorem dia_val:bal dia (fillF dia 4 0 3) 0=5:=by
 have h1:=H.max_top (s:=0) (t:=3) dia_max (by decide) (by decide) dia_flow
 have h2:=H.value_le dia_max.flow (fun v=>decide (v=0)) (by decide) (by decide) (by decide) (by decide)
 have h3:bal dia [3,2,2,3,1] ((0:Nat):Int)=5:=by decide +kernel
 have h4:capR (fun v=>decide (v=0)) dia=5:=by decide +kernel
 rw[h3] at h1
 rw[h4] at h2
 exact Int.le_antisymm h2 h1
theorem dia_none:bal dia (fillF dia 4 3 0) 3=0:=by
 have h1:=H.max_nonneg (s:=3) (t:=0) dia_back (by decide) (by decide)
 have h2:=H.value_le dia_back.flow (fun v=>decide (v=3)) (by decide) (by decide) (by decide) (by decide)
 have h4:capR (fun v=>decide (v=3)) dia=0:=by decide +kernel
 rw[h4] at h2
 exact Int.le_antisymm h2 h1
theorem awake09_ev:Ev (fun k=>ebbtidelaw09_awake.f k) true:=by
 have e1:endsErr 4 dia 0 3=0:=by decide +kernel
 have e2:endsErr 4 dia 3 0=0:=by decide +kernel
 have e3:endsErr 4 dia 1 1=70:=by decide +kernel
 have m1:maxR 4 dia 0 3=(fillF dia 4 0 3,5,0):=by
  have h_:=maxR_nat (n:=4) (l:=dia) (s:=0) (t:=3) e1
  have h_2:maxR 4 dia 0 3=(fillF dia 4 0 3,bal dia (fillF dia 4 0 3) 0,0):=h_
  rw[h_2,dia_val]
 have m2:mostR 4 dia 3 0=(0,0):=by
  have h_:=mostR_nat (n:=4) (l:=dia) (s:=3) (t:=0) e2
  have h_2:mostR 4 dia 3 0=(bal dia (fillF dia 4 3 0) 3,0):=h_
  rw[h_2,dia_none]
 have m3:maxR 4 dia 1 1=([],0,70):=by unfold maxR;rw[e3];rfl
 have hlen:(fillF dia 4 0 3).length=5:=dia_max.flow.right.len
 unfold ebbtidelaw09_awake.f
 refine Ev.let_ ?_
 refine Ev.bind (max_ev 4 false dia 0 3) ?_
 refine Ev.bind (most_ev 4 false dia 3 0) ?_
 refine Ev.bind (max_ev 4 false dia 1 1) ?_
 rw[m1,m2,m3]
 refine Ev.pos rfl ?_
 refine Ev.pos rfl ?_
 refine Ev.pos (by show ((fillF dia 4 0 3).length:Int)=5;rw[hlen];rfl) ?_
 refine Ev.pos rfl ?_
 refine Ev.pos rfl ?_
 exact Ev.now _
theorem mostR_ok {n:Int} {l:List S74} {s t:Int} (h:(mostR n l s t).2=0):endsErr n l s t=0:=by
 unfold mostR at h
 by_cases g:endsErr n l s t=0
 ·exact g
 ·rw[if_neg g] at h;exact h
end Go.Proofs.Ytkcpanpdipmmmaa.Q
namespace Go.Proofs.Ytkcpanpdipmmmaa.Q
open Go.RowKit Go.Proofs.YtkcpanpdipmmmaaW.PrintWords Go.Proofs.YtkcpanpdipmmmaaW.PrintLast Go.Proofs.YtkcpanpdipmmmaaW.PrintMore Go.Proofs.Ytkcpanpdipmmmaa.P
open Go.Proofs.Ytkcpanpdipmmmaa.H (endsErr Right right_of IsFlow MaxF fillF bfP nodes)
theorem maxflowMore_ev (n:Int) (b:Bool) (l:List S74) (x0 x1 x2 x3 s t:Int) (hl:l.length<4398046511104):Ev (fun k=>ebbtidelaw09_MaxflowMore.f k n b l x0 x1 x2 x3 s t) true:=by
 unfold ebbtidelaw09_MaxflowMore.f
 refine Ev.bind awake09_ev ?_
 refine Ev.pos rfl ?_
 refine Ev.bind (most_ev n b l s t) ?_
 refine Ev.pos (by simpa using hl) ?_
 refine Ev.let_ ?_
 rw[List.nil_append]
 refine Ev.pos hl ?_
 refine Ev.bind (most_ev n b _ s t) ?_
 refine Ev.ite (fun h1=> ?_) (fun _=>Ev.now _)
 refine Ev.ite (fun h2=> ?_) (fun _=>Ev.now _)
 have g1:=mostR_ok h1
 have g2:=mostR_ok h2
 obtain⟨n0,s0,t0,rfl,rfl,rfl,hs,ht,hst,hn,hr⟩:=ends_zero g1
 obtain⟨n1,s1,t1,e1,e2,e3,_,_,_,hn1,hr1⟩:=ends_zero g2
 obtain rfl:n0=n1:=by omega
 have hM:=max_fill hr hs ht hst
 have hG:=max_fill hr1 hs ht hst
 obtain⟨m1,m2⟩:=H.max_more hM hG hs hst
 have hk:=H.max_nonneg hM hs hst
 have hk2:=H.flow_top hM.flow hs hst
 have ha:=hn1.arcs (⟨x0,x1,x2,x3⟩:S74) (by simp)
 have ha1:0≤x2:=ha.f2
 have ha2:x2≤1048576:=ha.h2
 rw[mostR_nat g1,mostR_nat g2]
 refine Ev.pos m1 ?_
 refine Ev.done (decide_eq_true ?_)
 rw[wrap_id (by show _≤bal l (fillF l n0 s0 t0) s0+x2;omega) (by show bal l (fillF l n0 s0 t0) s0+x2≤_;omega)]
 exact m2
end Go.Proofs.Ytkcpanpdipmmmaa.Q
namespace Go.Proofs.Ytkcpanpdipmmmaa.Opn
open Go.RowKit Go.ChangeShapes Go.WideShapes Go.Deep Go.Proofs.YtkcpanpdipmmmaaW.PrintWords
theorem sized_field {H:Type} {enc:TypeId × Value→H} {P:Program} {w:World} {base:Nat} {spare:Nat→Bool} {held:Bool} {t e:TypeId} {fs:Array Field} {v:Value} {d:DataW H} {p:List MemPlace} {A:Option Addr} {len cap j:Nat} {f:Field}
  (hs:P.underlying t=some (.struct fs)) (h:DataW.Trod enc P w base spare held t v d p) (hz:(DataW.weightsEach P [t] [d]).all (· ≤reachBytes)=true) (hj:fs[j]? =some f) (hu:P.underlying f.type=some (.slice e))
  (hc:(v.cells.toList.drop f.offset).take (P.cellsOf f.type)=[.slice A len cap]):len * P.bytesOf e≤reachBytes:=by
 obtain⟨fuel,hf⟩:=h
 obtain⟨xs,n,_,hx,_,hlen,hfd⟩:=DataW.trod_struct hs hf
 have h1:=hfd j f hj
 have hjl:j<xs.length:=by rw[hlen];exact(Array.getElem?_eq_some_iff.1 hj).1
 rw[hc,List.getElem?_eq_getElem hjl] at h1
 rcases open_slice hu h1 with ⟨hc0,_⟩|⟨a,len',cap',m,n',D,Pl,hc1,_,_,_,_,hD,_⟩
 ·injection hc0 with hc0 _
  injection hc0 with _ hc0 _
  rw[hc0,Nat.zero_mul]
  exact Nat.zero_le _
 ·injection hc1 with hc1 _
  injection hc1 with _ hc1 _
  subst hc1
  injection hx with hx _
  subst hx
  have hm:=DataW.weights_mem_each (P:=P) (ts:=fs.toList.map (·.type)) (ds:=xs.map (·.1)) (j:=j) (t:=f.type) (d:=(xs[j]).1) (by simp[hj]) (by simp[List.getElem?_eq_getElem hjl]) ((len+(m - len)) * P.bytesOf e) (by rw[hD];simp[DataW.weights,hu])
  have hm2:=DataW.weights_mem_each (P:=P) (ts:=[t]) (ds:=[.agg (xs.map (·.1))]) (j:=0) (t:=t) (d:= .agg (xs.map (·.1))) rfl rfl _ (by simp only[DataW.weights,hs];exact hm)
  have:=List.all_eq_true.1 hz _ hm2
  have h3:(len+(m - len)) * P.bytesOf e≤reachBytes:=by simpa using this
  exact Nat.le_trans (Nat.mul_le_mul_right _ (Nat.le_add_right _ _)) h3
end Go.Proofs.Ytkcpanpdipmmmaa.Opn
