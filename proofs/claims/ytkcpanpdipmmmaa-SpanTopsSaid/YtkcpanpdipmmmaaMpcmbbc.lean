/- What the law's row needs of these texts, taken out of them by wip/tool/mini.py: P180 QFewWalk QCheckRef QMostLaw QWorthLaw QSpanMostLaw QGrowLaw QSpanFew P917 QOpen QLSpanTops. -/
import Derived.Test.YtkcpanpdipmmmaaMdfflgh
import Derived.Test.YtkcpanpdipmmmaaMalbngi
import Derived.Test.YtkcpanpdipmmmaaMfhpoga
import Derived.Deep.DeepCutAuto
import Derived.Test.YtkcpanpdipmmmaaMffdkfh
import Derived.Test.YtkcpanpdipmmmaaMcddhhl
import Derived.Deep.RegionHeld3
import Derived.Test.YtkcpanpdipmmmaaVbdhegm
import Derived.Deep.Slices
import Derived.Deep.Fields
import Derived.ChangeSame
import Derived.ChangeArms
import Derived.OpenShut
set_option linter.unusedVariables false
set_option linter.unusedSimpArgs false
namespace Go.Proofs.Ytkcpanpdipmmmaa.P
open Go.RowKit Go.Proofs.YtkcpanpdipmmmaaW.PrintWords Go.Proofs.YtkcpanpdipmmmaaW.PrintLast Go.Proofs.YtkcpanpdipmmmaaW.PrintMore
attribute [local go_sem] max2_int min2_int max_two min_two max_three min_three max_four min_four
def ebbtidelaw12_awake.f (k:Nat)  :Option (Bool):=(some (([(⟨0,1,2,1⟩:S74),(⟨1,2,2,1⟩:S74)]:List (S74)):List (S74))).bind fun y786=>((span_Most.f k 3 false y786 0 2 1).bind fun bt790=>((span_Most.f k 3 false y786 0 2 5).bind fun bt792=>((span_Worth.f k 3 false y786 0 2 (([1,1]:List Int)) 2).bind fun bt797=>((span_Most.f k 3 false y786 0 2 (-1)).bind fun bt799=>(if bt790.2=0 then(if bt790.1=0 then(if bt792.2=0 then(if bt792.1=8 then(if bt797.2=0 then(if bt797.1=1 then(some (bt799.2 == 1)) else(some false)) else(some false)) else(some false)) else(some false)) else(some false)) else(some false))))))
set_option maxHeartbeats 8000000 in
set_option maxRecDepth 100000 in
theorem ebbtidelaw12_awake.calls (k:Nat)  (r:Bool) (w:World) (h:ebbtidelaw12_awake.f k  =some r) (hrT_:r=true:=by first|rfl|exact Aside0.out (by assumption)):
  Calls Try.prog 65 #[] w fun e w'=>e= .returned (.bool r)∧Below w.heap.size w w':=by
 have HRT:=Aside0.mk hrT_
 clear hrT_
 have hu74:=Try.underlying74
 have hu24:=Try.underlying24
 have HB:=Aside0.mk (Below.refl w.heap.size w)
 have H:((some (([(⟨0,1,2,1⟩:S74),(⟨1,2,2,1⟩:S74)]:List (S74)):List (S74))).bind fun y786=>((span_Most.f k 3 false y786 0 2 1).bind fun bt790=>((span_Most.f k 3 false y786 0 2 5).bind fun bt792=>((span_Worth.f k 3 false y786 0 2 (([1,1]:List Int)) 2).bind fun bt797=>((span_Most.f k 3 false y786 0 2 (-1)).bind fun bt799=>(if bt790.2=0 then(if bt790.1=0 then(if bt792.2=0 then(if bt792.1=8 then(if bt797.2=0 then(if bt797.1=1 then(some (bt799.2 == 1)) else(some false)) else(some false)) else(some false)) else(some false)) else(some false)) else(some false)))))))=some r:=h
 clear h
 obtain⟨y786,hy786⟩: ∃ y_:List (S74),y_=(([(⟨0,1,2,1⟩:S74),(⟨1,2,2,1⟩:S74)]:List (S74))):=⟨_,rfl⟩
 replace H:((span_Most.f k 3 false y786 0 2 1).bind fun bt790=>((span_Most.f k 3 false y786 0 2 5).bind fun bt792=>((span_Worth.f k 3 false y786 0 2 (([1,1]:List Int)) 2).bind fun bt797=>((span_Most.f k 3 false y786 0 2 (-1)).bind fun bt799=>(if bt790.2=0 then(if bt790.1=0 then(if bt792.2=0 then(if bt792.1=8 then(if bt797.2=0 then(if bt797.1=1 then(some (bt799.2 == 1)) else(some false)) else(some false)) else(some false)) else(some false)) else(some false)) else(some false))))))=some r:=by first|(rw[hy786];with_reducible exact H)|(have H2_:=(Option.bind_some _ _).symm.trans H;rw[hy786];with_reducible exact H2_)|(have H2_:=(Option.bind_some _ _).symm.trans H;with_reducible exact H2_)|with_reducible exact H|(rw[hy786];exact H)|exact H
 have Ny786:=Aside0.mk hy786
 clear hy786
 replace H:=Option.bind_eq_some_iff.mp H
 obtain⟨⟨t790,t791⟩,A10,H⟩:=H
 replace H:((span_Most.f k 3 false y786 0 2 5).bind fun bt792=>((span_Worth.f k 3 false y786 0 2 (([1,1]:List Int)) 2).bind fun bt797=>((span_Most.f k 3 false y786 0 2 (-1)).bind fun bt799=>(if t791=0 then(if t790=0 then(if bt792.2=0 then(if bt792.1=8 then(if bt797.2=0 then(if bt797.1=1 then(some (bt799.2 == 1)) else(some false)) else(some false)) else(some false)) else(some false)) else(some false)) else(some false)))))=some r:=H
 have A1:=Aside0.mk A10
 clear A10
 replace H:=Option.bind_eq_some_iff.mp H
 obtain⟨⟨t792,t793⟩,A20,H⟩:=H
 replace H:((span_Worth.f k 3 false y786 0 2 (([1,1]:List Int)) 2).bind fun bt797=>((span_Most.f k 3 false y786 0 2 (-1)).bind fun bt799=>(if t791=0 then(if t790=0 then(if t793=0 then(if t792=8 then(if bt797.2=0 then(if bt797.1=1 then(some (bt799.2 == 1)) else(some false)) else(some false)) else(some false)) else(some false)) else(some false)) else(some false))))=some r:=H
 have A2:=Aside0.mk A20
 clear A20
 obtain⟨y794,hy794⟩: ∃ y_:List Int,y_=(([1,1]:List Int)):=⟨_,rfl⟩
 replace H:((span_Worth.f k 3 false y786 0 2 y794 2).bind fun bt797=>((span_Most.f k 3 false y786 0 2 (-1)).bind fun bt799=>(if t791=0 then(if t790=0 then(if t793=0 then(if t792=8 then(if bt797.2=0 then(if bt797.1=1 then(some (bt799.2 == 1)) else(some false)) else(some false)) else(some false)) else(some false)) else(some false)) else(some false))))=some r:=by first|(rw[hy794];with_reducible exact H)|(have H2_:=(Option.bind_some _ _).symm.trans H;rw[hy794];with_reducible exact H2_)|(have H2_:=(Option.bind_some _ _).symm.trans H;with_reducible exact H2_)|with_reducible exact H|(rw[hy794];exact H)|exact H
 have Ny794:=Aside0.mk hy794
 clear hy794
 replace H:=Option.bind_eq_some_iff.mp H
 obtain⟨⟨t797,t798⟩,A30,H⟩:=H
 replace H:((span_Most.f k 3 false y786 0 2 (-1)).bind fun bt799=>(if t791=0 then(if t790=0 then(if t793=0 then(if t792=8 then(if t798=0 then(if t797=1 then(some (bt799.2 == 1)) else(some false)) else(some false)) else(some false)) else(some false)) else(some false)) else(some false)))=some r:=H
 have A3:=Aside0.mk A30
 clear A30
 replace H:=Option.bind_eq_some_iff.mp H
 obtain⟨⟨t799,t800⟩,A40,H⟩:=H
 replace H:(if t791=0 then(if t790=0 then(if t793=0 then(if t792=8 then(if t798=0 then(if t797=1 then(some (t800 == 1)) else(some false)) else(some false)) else(some false)) else(some false)) else(some false)) else(some false))=some r:=H
 have A4:=Aside0.mk A40
 clear A40
 by_cases c5:t791=0
 rotate_left
 ·rw[if_neg c5] at H
  exact absurd (Option.some.inj H) (by rw[HRT.out];decide)
 rw[if_pos c5] at H
 have c5b0:(t791 == 0)=true:=beq_iff_eq.mpr c5
 have c5b1:(t791 != 0)=false:=bne_eq_false_iff_eq.mpr c5
 clear c5
 by_cases c6:t790=0
 rotate_left
 ·rw[if_neg c6] at H
  exact absurd (Option.some.inj H) (by rw[HRT.out];decide)
 rw[if_pos c6] at H
 have c6b0:(t790 == 0)=true:=beq_iff_eq.mpr c6
 have c6b1:(t790 != 0)=false:=bne_eq_false_iff_eq.mpr c6
 clear c6
 by_cases c7:t793=0
 rotate_left
 ·rw[if_neg c7] at H
  exact absurd (Option.some.inj H) (by rw[HRT.out];decide)
 rw[if_pos c7] at H
 have c7b0:(t793 == 0)=true:=beq_iff_eq.mpr c7
 have c7b1:(t793 != 0)=false:=bne_eq_false_iff_eq.mpr c7
 clear c7
 by_cases c8:t792=8
 rotate_left
 ·rw[if_neg c8] at H
  exact absurd (Option.some.inj H) (by rw[HRT.out];decide)
 rw[if_pos c8] at H
 have c8b0:(t792 == 8)=true:=beq_iff_eq.mpr c8
 have c8b1:(t792 != 8)=false:=bne_eq_false_iff_eq.mpr c8
 clear c8
 by_cases c9:t798=0
 rotate_left
 ·rw[if_neg c9] at H
  exact absurd (Option.some.inj H) (by rw[HRT.out];decide)
 rw[if_pos c9] at H
 have c9b0:(t798 == 0)=true:=beq_iff_eq.mpr c9
 have c9b1:(t798 != 0)=false:=bne_eq_false_iff_eq.mpr c9
 clear c9
 by_cases c10:t797=1
 rotate_left
 ·rw[if_neg c10] at H
  exact absurd (Option.some.inj H) (by rw[HRT.out];decide)
 rw[if_pos c10] at H
 have c10b0:(t797 == 1)=true:=beq_iff_eq.mpr c10
 have c10b1:(t797 != 1)=false:=bne_eq_false_iff_eq.mpr c10
 clear c10
 obtain rfl:=Option.some.inj H
 go_enter Try.func65,Try.ntmps65
 go_wp2_with (first|((with_reducible refine gate_dst (N:=12) rfl ?_);refine Kd.R_lit k74 _ 74 ?hg (N:=12) ?hd (xs:=([(⟨0,1,2,1⟩:S74),(⟨1,2,2,1⟩:S74)]:List (S74))) (inner:=[.int .i64 0, .int .i64 1, .int .i64 2, .int .i64 1, .int .i64 1, .int .i64 2, .int .i64 2, .int .i64 1]) (ok:=fun _=>True) (okp:=fun _=>True) ?hr ?hp (fun _ hk=>hk) trivial (Below.refl _ _) (Nat.le_refl _) (by simp) ?_;(case hd=>rfl);(case hg=>rfl);(case hr=>first|(go_simp;done)|(go_simp;rfl));(case hp=>exact(Reps.c4 (show Kd.M k74 _ _ _ (⟨0,1,2,1⟩:S74) [.int .i64 0, .int .i64 1, .int .i64 2, .int .i64 1] from(k74_mkM _ _ _ (⟨0,1,2,1⟩:S74) )) (Reps.c4 (show Kd.M k74 _ _ _ (⟨1,2,2,1⟩:S74) [.int .i64 1, .int .i64 2, .int .i64 2, .int .i64 1] from(k74_mkM _ _ _ (⟨1,2,2,1⟩:S74) )) (Reps.none _ _))));intro v787 w11 ho12 hb hg_ hnew_;clear hg_ hnew_;(first|rw[← Ny786.out] at ho12|(simp only[Int.reduceToNat] at ho12;rw[← Ny786.out] at ho12));have n0_:=Aside0.mk (Kd.R_lower ho12 (below_size (by repeat(first|(with_reducible first|exact HB.out|apply below_alloc|apply pw_below_drewN|apply below_drew1)|exact HB.out))));have n1_:=Aside0.mk (below_step (by repeat(first|(with_reducible first|exact HB.out|apply below_alloc|apply pw_below_drewN|apply below_drew1)|exact HB.out)) hb);clear HB;have HO788:=n0_;have HB:=n1_;clear n0_ n1_;clear hb ho12;obtain⟨Ao13,co13,eo13⟩:=Kd.R_slice HO788.out;subst eo13)|((with_reducible refine gate_dst (N:=1) rfl ?_);refine box_event ?hg (N:=1) ?hd (cs:= #[.int .i64 0, .bool false, .slice none 0 0]) (t:=24) ?hr ?_;(case hd=>rfl);(case hg=>rfl);(case hr=>first|(go_simp;done)|(go_simp;rfl));intro gb789 hg w14 hbox hb;have n0_:=Aside0.mk (Kd.R_below (by(with_reducible repeat(first|apply Kd.R_alloc|apply Kd.R_drewN|apply Kd.R_drew));exact HO788.out) hb);have n1_:=Aside0.mk (below_step (by repeat(first|(with_reducible first|exact HB.out|apply below_alloc|apply pw_below_drewN|apply below_drew1)|exact HB.out)) hb);have n2_:=Aside0.mk (hbox);have n3_:=Aside0.mk ((by rw[hg];exact(below_size (by repeat(first|(with_reducible first|exact HB.out|apply below_alloc|apply pw_below_drewN|apply below_drew1)|exact HB.out))):w.heap.size≤gb789));have n4_:=Aside0.mk ((by rw[hg];exact(below_size (by repeat(first|(with_reducible first|exact HB.out|apply below_alloc|apply pw_below_drewN|apply below_drew1)|exact HB.out))):w.heap.size≤gb789));clear HO788;clear HB;have HO788:=n0_;have HB:=n1_;have BK789:=n2_;have GW789:=n3_;have GE789:=n4_;clear n0_ n1_ n2_ n3_ n4_;clear hb hbox hg;have hcz15_0:w14.cell? ⟨gb789,0,none⟩=some (.int .i64 0):=(blk_cell BK789.out 0).trans rfl;have hcz15_1:w14.cell? ⟨gb789,1,none⟩=some (.bool false):=(blk_cell BK789.out 1).trans rfl;have hcz15_2:w14.cell? ⟨gb789,2,none⟩=some (.slice none 0 0):=(blk_cell BK789.out 2).trans rfl;have hfz15_0:=blk_frozen BK789.out 0;have hfz15_1:=blk_frozen BK789.out 1;have hfz15_2:=blk_frozen BK789.out 2)|((with_reducible refine gate_callee (f:=67) rfl ?_);refine goesL_ (some 16) rfl rfl Try.func67 (by kernel_rfl) rfl #[.agg #[.int .i64 3, .bool false, .slice Ao13 y786.length co13], .int .i64 0, .int .i64 2, .int .i64 1] rfl (by(try simp only[List.map_toArray,List.map_cons,List.map_nil]);first|done|rfl|(simp only[List.length_drop,List.length_take];rfl)) ?_;(with_reducible refine(span_Most.calls k 3 false _ _ y786 0 2 1 t790 t791 _ ?side1 ?side2 A1.out).mono ?_);(case side1=>refine(Kd.R_reads' (e:=74) (base:=w.heap.size) (ok:=fun k_=>True) (n:=y786.length) (c:=co13) ?_).2.2;exact(by(with_reducible repeat(first|apply Kd.R_alloc|apply Kd.R_drewN|apply Kd.R_drew));exact(Kd.R_mono (Kd.R_far (p:=⟨gb789,2,none⟩) (Kd.R_far (p:=⟨gb789,1,none⟩) (Kd.R_far (p:=⟨gb789,0,none⟩) (Kd.R_types HO788.out BK789.out (by decide)) (fun _ hk=>hk.2) (.int .i64 3)) (fun _ hk=>hk.2) (.bool false)) (fun _ hk=>hk.2) (.slice Ao13 y786.length co13)) (fun _ h_=>h_.1))));(case side2=>exact(Kd.R_reads' HO788.out).2.1);rintro e w16 ⟨rfl,hb⟩;refine⟨_,rfl,?_⟩;have n0_:=Aside0.mk (Kd.R_below (by(with_reducible repeat(first|apply Kd.R_alloc|apply Kd.R_drewN|apply Kd.R_drew));exact(Kd.R_mono (Kd.R_far (p:=⟨gb789,2,none⟩) (Kd.R_far (p:=⟨gb789,1,none⟩) (Kd.R_far (p:=⟨gb789,0,none⟩) (Kd.R_types HO788.out BK789.out (by decide)) (fun _ hk=>hk.2) (.int .i64 3)) (fun _ hk=>hk.2) (.bool false)) (fun _ hk=>hk.2) (.slice Ao13 y786.length co13)) (fun _ h_=>h_.1))) hb);have n1_:=Aside0.mk (blk_below (g:=gb789) (o:= .cells #[.int .i64 3, .bool false, .slice Ao13 y786.length co13] 24 (0,0)) (by(with_reducible repeat(first|refine blk_drewN ?_ _|refine blk_drew ?_|refine blk_alloc ?_ _));refine blk_put (cs:= #[.int .i64 3, .bool false, .slice none 0 0]) ?_ 2 _ rfl;(with_reducible repeat(first|refine blk_drewN ?_ _|refine blk_drew ?_|refine blk_alloc ?_ _));refine blk_put (cs:= #[.int .i64 3, .bool false, .slice none 0 0]) ?_ 1 _ rfl;(with_reducible repeat(first|refine blk_drewN ?_ _|refine blk_drew ?_|refine blk_alloc ?_ _));refine blk_put (cs:= #[.int .i64 0, .bool false, .slice none 0 0]) ?_ 0 _ rfl;(with_reducible repeat(first|refine blk_drewN ?_ _|refine blk_drew ?_|refine blk_alloc ?_ _));exact BK789.out) hb);have n2_:=Aside0.mk (below_step (by repeat(first|(with_reducible first|exact HB.out|apply below_alloc|apply pw_below_drewN|apply below_drew1|refine below_set ?_ GE789.out)|exact HB.out)) hb);clear HO788;clear BK789;clear HB;have HO788:=n0_;have BK789:=n1_;have HB:=n2_;clear n0_ n1_ n2_;(try clear hb);(try clear hb2);(try clear hk);(try clear hi);have hcz17_0:w16.cell? ⟨gb789,0,none⟩=some (.int .i64 3):=(blk_cell BK789.out 0).trans rfl;have hcz17_1:w16.cell? ⟨gb789,1,none⟩=some (.bool false):=(blk_cell BK789.out 1).trans rfl;have hcz17_2:w16.cell? ⟨gb789,2,none⟩=some (.slice Ao13 y786.length co13):=(blk_cell BK789.out 2).trans rfl;have hfz17_0:=blk_frozen BK789.out 0;have hfz17_1:=blk_frozen BK789.out 1;have hfz17_2:=blk_frozen BK789.out 2)|((with_reducible refine gate_callee (f:=67) rfl ?_);refine goesL_ (some 21) rfl rfl Try.func67 (by kernel_rfl) rfl #[.agg #[.int .i64 3, .bool false, .slice Ao13 y786.length co13], .int .i64 0, .int .i64 2, .int .i64 5] rfl (by(try simp only[List.map_toArray,List.map_cons,List.map_nil]);first|done|rfl|(simp only[List.length_drop,List.length_take];rfl)) ?_;(with_reducible refine(span_Most.calls k 3 false _ _ y786 0 2 5 t792 t793 _ ?side1 ?side2 A2.out).mono ?_);(case side1=>repeat(first|exact(Kd.R_reads' HO788.out).2.2|(with_reducible refine Kd.C_alloc ?_ _)|(with_reducible refine Kd.C_drewN ?_ _)|(with_reducible refine Kd.C_drew ?_)));(case side2=>exact(Kd.R_reads' HO788.out).2.1);rintro e w18 ⟨rfl,hb⟩;refine⟨_,rfl,?_⟩;have n0_:=Aside0.mk (Kd.R_below (by(with_reducible repeat(first|apply Kd.R_alloc|apply Kd.R_drewN|apply Kd.R_drew));exact HO788.out) hb);have n1_:=Aside0.mk (blk_below (g:=gb789) (o:= .cells #[.int .i64 3, .bool false, .slice Ao13 y786.length co13] 24 (0,0)) (by(with_reducible repeat(first|refine blk_drewN ?_ _|refine blk_drew ?_|refine blk_alloc ?_ _));exact BK789.out) hb);have n2_:=Aside0.mk (below_step (by repeat(first|(with_reducible first|exact HB.out|apply below_alloc|apply pw_below_drewN|apply below_drew1|refine below_set ?_ GE789.out)|exact HB.out)) hb);clear HO788;clear BK789;clear HB;have HO788:=n0_;have BK789:=n1_;have HB:=n2_;clear n0_ n1_ n2_;(try clear hb);(try clear hb2);(try clear hk);(try clear hi);have hcz19_0:w18.cell? ⟨gb789,0,none⟩=some (.int .i64 3):=(blk_cell BK789.out 0).trans rfl;have hcz19_1:w18.cell? ⟨gb789,1,none⟩=some (.bool false):=(blk_cell BK789.out 1).trans rfl;have hcz19_2:w18.cell? ⟨gb789,2,none⟩=some (.slice Ao13 y786.length co13):=(blk_cell BK789.out 2).trans rfl;have hfz19_0:=blk_frozen BK789.out 0;have hfz19_1:=blk_frozen BK789.out 1;have hfz19_2:=blk_frozen BK789.out 2)|((with_reducible refine gate_dst (N:=26) rfl ?_);refine Kd.R_lit (Kd.int .i64) _ 3 ?hg (N:=26) ?hd (xs:=([1,1]:List Int)) (inner:=[.int .i64 1, .int .i64 1]) (ok:=fun _=>True) (okp:=fun _=>True) ?hr ?hp (fun _ hk=>hk) trivial (Below.refl _ _) (Nat.le_refl _) (by simp) ?_;(case hd=>rfl);(case hg=>rfl);(case hr=>first|(go_simp;done)|(go_simp;rfl));(case hp=>exact(Reps.one (show Kd.M (Kd.int .i64) _ _ _ 1 [.int .i64 1] from rfl) (Reps.one (show Kd.M (Kd.int .i64) _ _ _ 1 [.int .i64 1] from rfl) (Reps.none _ _))));intro v795 w20 ho21 hb hg_ hnew_;clear hg_ hnew_;(first|rw[← Ny794.out] at ho21|(simp only[Int.reduceToNat] at ho21;rw[← Ny794.out] at ho21));have n0_:=Aside0.mk (Kd.R_below (by(with_reducible repeat(first|apply Kd.R_alloc|apply Kd.R_drewN|apply Kd.R_drew));exact HO788.out) hb);have n1_:=Aside0.mk (Kd.R_lower ho21 (below_size (by repeat(first|(with_reducible first|exact HB.out|apply below_alloc|apply pw_below_drewN|apply below_drew1|refine below_set ?_ GE789.out)|exact HB.out))));have n2_:=Aside0.mk (blk_below (g:=gb789) (o:= .cells #[.int .i64 3, .bool false, .slice Ao13 y786.length co13] 24 (0,0)) (by(with_reducible repeat(first|refine blk_drewN ?_ _|refine blk_drew ?_|refine blk_alloc ?_ _));exact BK789.out) hb);have n3_:=Aside0.mk (below_step (by repeat(first|(with_reducible first|exact HB.out|apply below_alloc|apply pw_below_drewN|apply below_drew1|refine below_set ?_ GE789.out)|exact HB.out)) hb);clear HO788;clear BK789;clear HB;have HO788:=n0_;have HO796:=n1_;have BK789:=n2_;have HB:=n3_;clear n0_ n1_ n2_ n3_;clear hb ho21;obtain⟨Ao22,co22,eo22⟩:=Kd.R_slice HO796.out;subst eo22)|((with_reducible refine gate_callee (f:=63) rfl ?_);refine goesL_ (some 27) rfl rfl Try.func63 (by kernel_rfl) rfl #[.agg #[.int .i64 3, .bool false, .slice Ao13 y786.length co13], .int .i64 0, .int .i64 2, .slice Ao22 y794.length co22, .int .i64 2] rfl (by(try simp only[List.map_toArray,List.map_cons,List.map_nil]);first|done|rfl|(simp only[List.length_drop,List.length_take];rfl)) ?_;(with_reducible refine(span_Worth.calls k 3 false _ _ y786 0 2 _ _ y794 2 t797 t798 _ ?side1 ?side2 ?side3 ?side4 A3.out).mono ?_);(case side1=>repeat(first|exact(Kd.R_reads' HO788.out).2.2|(with_reducible refine Kd.C_alloc ?_ _)|(with_reducible refine Kd.C_drewN ?_ _)|(with_reducible refine Kd.C_drew ?_)));(case side2=>exact(Kd.R_reads' HO788.out).2.1);(case side3=>repeat(first|exact(Kd.R_reads' HO796.out).2.2|(with_reducible refine Kd.C_alloc ?_ _)|(with_reducible refine Kd.C_drewN ?_ _)|(with_reducible refine Kd.C_drew ?_)));(case side4=>exact(Kd.R_reads' HO796.out).2.1);rintro e w23 ⟨rfl,hb⟩;refine⟨_,rfl,?_⟩;have n0_:=Aside0.mk (Kd.R_below (by(with_reducible repeat(first|apply Kd.R_alloc|apply Kd.R_drewN|apply Kd.R_drew));exact HO788.out) hb);have n1_:=Aside0.mk (Kd.R_below (by(with_reducible repeat(first|apply Kd.R_alloc|apply Kd.R_drewN|apply Kd.R_drew));exact HO796.out) hb);have n2_:=Aside0.mk (blk_below (g:=gb789) (o:= .cells #[.int .i64 3, .bool false, .slice Ao13 y786.length co13] 24 (0,0)) (by(with_reducible repeat(first|refine blk_drewN ?_ _|refine blk_drew ?_|refine blk_alloc ?_ _));exact BK789.out) hb);have n3_:=Aside0.mk (below_step (by repeat(first|(with_reducible first|exact HB.out|apply below_alloc|apply pw_below_drewN|apply below_drew1|refine below_set ?_ GE789.out)|exact HB.out)) hb);clear HO788;clear HO796;clear BK789;clear HB;have HO788:=n0_;have HO796:=n1_;have BK789:=n2_;have HB:=n3_;clear n0_ n1_ n2_ n3_;(try clear hb);(try clear hb2);(try clear hk);(try clear hi);have hcz24_0:w23.cell? ⟨gb789,0,none⟩=some (.int .i64 3):=(blk_cell BK789.out 0).trans rfl;have hcz24_1:w23.cell? ⟨gb789,1,none⟩=some (.bool false):=(blk_cell BK789.out 1).trans rfl;have hcz24_2:w23.cell? ⟨gb789,2,none⟩=some (.slice Ao13 y786.length co13):=(blk_cell BK789.out 2).trans rfl;have hfz24_0:=blk_frozen BK789.out 0;have hfz24_1:=blk_frozen BK789.out 1;have hfz24_2:=blk_frozen BK789.out 2)|((with_reducible refine gate_callee (f:=67) rfl ?_);refine goesL_ (some 32) rfl rfl Try.func67 (by kernel_rfl) rfl #[.agg #[.int .i64 3, .bool false, .slice Ao13 y786.length co13], .int .i64 0, .int .i64 2, .int .i64 (-1)] rfl (by(try simp only[List.map_toArray,List.map_cons,List.map_nil]);first|done|rfl|(simp only[List.length_drop,List.length_take];rfl)) ?_;(with_reducible refine(span_Most.calls k 3 false _ _ y786 0 2 (-1) t799 t800 _ ?side1 ?side2 A4.out).mono ?_);(case side1=>repeat(first|exact(Kd.R_reads' HO788.out).2.2|(with_reducible refine Kd.C_alloc ?_ _)|(with_reducible refine Kd.C_drewN ?_ _)|(with_reducible refine Kd.C_drew ?_)));(case side2=>exact(Kd.R_reads' HO788.out).2.1);rintro e w25 ⟨rfl,hb⟩;refine⟨_,rfl,?_⟩;have n0_:=Aside0.mk (Kd.R_below (by(with_reducible repeat(first|apply Kd.R_alloc|apply Kd.R_drewN|apply Kd.R_drew));exact HO788.out) hb);have n1_:=Aside0.mk (Kd.R_below (by(with_reducible repeat(first|apply Kd.R_alloc|apply Kd.R_drewN|apply Kd.R_drew));exact HO796.out) hb);have n2_:=Aside0.mk (blk_below (g:=gb789) (o:= .cells #[.int .i64 3, .bool false, .slice Ao13 y786.length co13] 24 (0,0)) (by(with_reducible repeat(first|refine blk_drewN ?_ _|refine blk_drew ?_|refine blk_alloc ?_ _));exact BK789.out) hb);have n3_:=Aside0.mk (below_step (by repeat(first|(with_reducible first|exact HB.out|apply below_alloc|apply pw_below_drewN|apply below_drew1|refine below_set ?_ GE789.out)|exact HB.out)) hb);clear HO788;clear HO796;clear BK789;clear HB;have HO788:=n0_;have HO796:=n1_;have BK789:=n2_;have HB:=n3_;clear n0_ n1_ n2_ n3_;(try clear hb);(try clear hb2);(try clear hk);(try clear hi)))
 go_ret
 exact⟨by first|rfl|(simp[errW_none,errW_some]<;>rfl)|(simp[*,errW_none,errW_some]<;>rfl),by repeat(first|(with_reducible first|exact HB.out|apply below_alloc|apply pw_below_drewN|apply below_drew1|refine below_set ?_ GE789.out)|exact HB.out)⟩
end Go.Proofs.Ytkcpanpdipmmmaa.P
namespace Go.Proofs.Ytkcpanpdipmmmaa.H
open Go.RowKit Go.Proofs.YtkcpanpdipmmmaaW.PrintWords Go.Proofs.YtkcpanpdipmmmaaW.PrintLast Go.Proofs.YtkcpanpdipmmmaaW.PrintMore Go.Proofs.Ytkcpanpdipmmmaa.P
def fewN (n nd:Int):Int:=if nd<n∧n≤50 then nd else n
def fewL (l:List S74) (ar:Nat):List S74:=if ar<l.length∧l.length≤200 then l.take ar else l
theorem fewL_C {w:World} {A:Option Addr} {l:List S74} (h:Kd.C k74 w A l.length l) (ar:Nat):Kd.C k74 w A (fewL l ar).length (fewL l ar):=by
 unfold fewL
 split
 ·exact Kd.C_take h (by omega)
 ·exact h
theorem fewL_le (l:List S74) (ar:Nat):(fewL l ar).length≤l.length:=by
 unfold fewL
 split
 ·rw[List.length_take];omega
 ·exact Nat.le_refl _
set_option maxHeartbeats 4000000 in
set_option maxRecDepth 100000 in
theorem few_calls (n:Int) (b:Bool) (A:Option Addr) (c:Nat) (l:List S74) (nd:Int) (ar:Nat) (w:World) (har:ar≤200) (hc:l.length≤c) (hC:Kd.C k74 w A l.length l):
  Calls Try.prog 66 #[.agg #[.int .i64 n, .bool b, .slice A l.length c], .int .i64 nd, .int .i64 (ar:Int)] w fun e w'=>e= .returned (.agg #[.int .i64 (fewN n nd), .bool b, .slice A (fewL l ar).length c])∧Below w.heap.size w w':=by
 have hu24:=Try.underlying24
 have hu22:=Try.underlying22
 have hA:0<l.length→ ∃ ad,A=some ad:=fun h=>by obtain⟨ad,e,_⟩:=hC.2.2 h;exact⟨ad,e⟩
 have HAD:=Aside0.mk hA
 clear hA hC
 go_enter Try.func66,Try.ntmps66
 go_upto_region 1 with (first|((with_reducible refine gate_dst (N:=3) rfl ?_);refine box_event ?hg (N:=3) ?hd (cs:= #[.int .i64 n, .bool b, .slice A l.length c]) (t:=24) ?hr ?_;(case hd=>rfl);(case hg=>rfl);(case hr=>first|(go_simp;done)|(go_simp;rfl));intro g3 hg3 w5 hbox hb;have B3:=Aside0.mk hbox;have HB:=Aside0.mk hb;have HG3:=Aside0.mk hg3;clear hg3 hbox hb)|fail)
 have B6:Aside0 ((w5.alloc (.cells #[.int .i64 0, .bool false, .slice none 0 0] 24)).heap[w5.heap.size]? =some (.cells #[.int .i64 0, .bool false, .slice none 0 0] 24 (0,0))):=⟨heap_alloc_new w5 _⟩
 have m0_:=Aside0.mk (blk_below B3.out (below_alloc (Below.refl _ _) (.cells #[.int .i64 0, .bool false, .slice none 0 0] 24)))
 have m1_:=Aside0.mk (below_alloc HB.out (.cells #[.int .i64 0, .bool false, .slice none 0 0] 24))
 have hg36:g3<w5.heap.size:=blk_lt B3.out
 have hgw:w.heap.size≤g3:=by have:=HG3.out;omega
 clear B3 HB HG3
 have B3:=m0_
 have HB:=m1_
 clear m0_ m1_
 generalize w5.alloc (.cells #[.int .i64 0, .bool false, .slice none 0 0] 24)=w6 at *
 generalize w5.heap.size=g6 at *
 have h0:w6.cell? ⟨g3,0,none⟩=some (.int .i64 n):=(blk_cell B3.out 0).trans rfl
 have h1:w6.cell? ⟨g3,1,none⟩=some (.bool b):=(blk_cell B3.out 1).trans rfl
 have h2:w6.cell? ⟨g3,2,none⟩=some (.slice A l.length c):=(blk_cell B3.out 2).trans rfl
 have f0:=blk_frozen B3.out 0
 have hg63:g6≠g3:=by omega
 have hgw6:w.heap.size≤g6:=by omega
 by_cases hn:nd<n
 ·have e1:decide (nd<n)=true:=decide_eq_true hn
  by_cases h50:n≤50
  ·have e2:decide (n≤50)=true:=decide_eq_true h50
   have e3:fewN n nd=nd:=by unfold fewN;rw[if_pos ⟨hn,h50⟩]
   have E3:=Aside0.mk e3
   clear e3
   go_upto_region 3 with fail
   have C3:Aside0 ((w6.setCell ⟨g3,0,none⟩ (.int .i64 nd)).heap[g3]? =some (.cells #[.int .i64 nd, .bool b, .slice A l.length c] 24 (0,0))):=⟨(blk_set B3.out 0 (.int .i64 nd)).trans rfl⟩
   have C6:Aside0 ((w6.setCell ⟨g3,0,none⟩ (.int .i64 nd)).heap[g6]? =some (.cells #[.int .i64 0, .bool false, .slice none 0 0] 24 (0,0))):=⟨blk_far B6.out (p:=⟨g3,0,none⟩) hg63 _⟩
   have HC:Aside0 (Below w.heap.size w (w6.setCell ⟨g3,0,none⟩ (.int .i64 nd))):=⟨below_set HB.out hgw⟩
   clear B3 B6 HB h0 h1 h2 f0
   generalize w6.setCell ⟨g3,0,none⟩ (.int .i64 nd)=w7 at *
   have f2:=blk_frozen C3.out 2
   have x2:w7.cell? ⟨g3,2,none⟩=some (.slice A l.length c):=(blk_cell C3.out 2).trans rfl
   by_cases hl:ar<l.length
   ·have d1:decide ((ar:Int)<(l.length:Int))=true:=decide_eq_true (by omega)
    by_cases hl2:l.length≤200
    ·have d2:decide ((l.length:Int)≤200)=true:=decide_eq_true (by omega)
     obtain⟨ad,rfl⟩:=HAD.out (by omega)
     have r1:(0:Int)≤(ar:Int):=by omega
     have r2:(ar:Int)≤(c:Int):=by omega
     have e4:(fewL l ar).length=ar:=by unfold fewL;rw[if_pos ⟨hl,hl2⟩,List.length_take];omega
     have E4:=Aside0.mk e4
     clear e4
     go_upto_region 5 with fail
     have D3:Aside0 ((w7.setCell ⟨g3,2,none⟩ (.slice (some ad) ar c)).heap[g3]? =some (.cells #[.int .i64 nd, .bool b, .slice (some ad) ar c] 24 (0,0))):=⟨(blk_set C3.out 2 _).trans rfl⟩
     have D6:Aside0 ((w7.setCell ⟨g3,2,none⟩ (.slice (some ad) ar c)).heap[g6]? =some (.cells #[.int .i64 0, .bool false, .slice none 0 0] 24 (0,0))):=⟨blk_far C6.out (p:=⟨g3,2,none⟩) hg63 _⟩
     have HD:Aside0 (Below w.heap.size w (w7.setCell ⟨g3,2,none⟩ (.slice (some ad) ar c))):=⟨below_set HC.out hgw⟩
     clear C3 C6 HC f2 x2
     generalize w7.setCell ⟨g3,2,none⟩ (.slice (some ad) ar c)=w8 at *
     have C3:=D3
     have C6:=D6
     have HC:=HD
     clear D3 D6 HD
     have k0:w8.cell? ⟨g3,0,none⟩=some (.int .i64 nd):=(blk_cell C3.out 0).trans rfl;have k1:w8.cell? ⟨g3,1,none⟩=some (.bool b):=(blk_cell C3.out 1).trans rfl;have k2:w8.cell? ⟨g3,2,none⟩=some (.slice (some ad) ar c):=(blk_cell C3.out 2).trans rfl;have j0:w8.cell? ⟨g6,0,none⟩=some (.int .i64 0):=(blk_cell C6.out 0).trans rfl;have j1:w8.cell? ⟨g6,1,none⟩=some (.bool false):=(blk_cell C6.out 1).trans rfl;have j2:w8.cell? ⟨g6,2,none⟩=some (.slice none 0 0):=(blk_cell C6.out 2).trans rfl;have q0:=blk_frozen C6.out 0;have q1:=blk_frozen C6.out 1;have q2:=blk_frozen C6.out 2;go_wp2_with fail;refine bodyPost_ret (results_cell_row rfl _ _ g6 24 #[.int .i64 nd, .bool b, .slice (some ad) ar c] (0,0) _ rfl (blk_put (cs:= #[.int .i64 nd, .bool b, .slice none 0 0]) (blk_put (cs:= #[.int .i64 nd, .bool false, .slice none 0 0]) (blk_put (cs:= #[.int .i64 0, .bool false, .slice none 0 0]) C6.out 0 _ rfl) 1 _ rfl) 2 _ rfl) Try.underlying24 rfl (by kernel_rfl)) rfl ?_;exact⟨by rw[E3.out,E4.out],below_set (below_set (below_set HC.out hgw6) hgw6) hgw6⟩
    ·have d2:decide ((l.length:Int)≤200)=false:=decide_eq_false (by omega)
     have e4:fewL l ar=l:=by unfold fewL;rw[if_neg (fun h=>by omega)]
     have E4:=Aside0.mk e4
     clear e4
     go_upto_region 5 with fail
     clear f2 x2
     have k0:w7.cell? ⟨g3,0,none⟩=some (.int .i64 nd):=(blk_cell C3.out 0).trans rfl;have k1:w7.cell? ⟨g3,1,none⟩=some (.bool b):=(blk_cell C3.out 1).trans rfl;have k2:w7.cell? ⟨g3,2,none⟩=some (.slice A l.length c):=(blk_cell C3.out 2).trans rfl;have j0:w7.cell? ⟨g6,0,none⟩=some (.int .i64 0):=(blk_cell C6.out 0).trans rfl;have j1:w7.cell? ⟨g6,1,none⟩=some (.bool false):=(blk_cell C6.out 1).trans rfl;have j2:w7.cell? ⟨g6,2,none⟩=some (.slice none 0 0):=(blk_cell C6.out 2).trans rfl;have q0:=blk_frozen C6.out 0;have q1:=blk_frozen C6.out 1;have q2:=blk_frozen C6.out 2;go_wp2_with fail;refine bodyPost_ret (results_cell_row rfl _ _ g6 24 #[.int .i64 nd, .bool b, .slice A l.length c] (0,0) _ rfl (blk_put (cs:= #[.int .i64 nd, .bool b, .slice none 0 0]) (blk_put (cs:= #[.int .i64 nd, .bool false, .slice none 0 0]) (blk_put (cs:= #[.int .i64 0, .bool false, .slice none 0 0]) C6.out 0 _ rfl) 1 _ rfl) 2 _ rfl) Try.underlying24 rfl (by kernel_rfl)) rfl ?_;exact⟨by rw[E3.out,E4.out],below_set (below_set (below_set HC.out hgw6) hgw6) hgw6⟩
   ·have d1:decide ((ar:Int)<(l.length:Int))=false:=decide_eq_false (by omega)
    have e4:fewL l ar=l:=by unfold fewL;rw[if_neg (fun h=>by omega)]
    have E4:=Aside0.mk e4
    clear e4
    go_upto_region 5 with fail
    clear f2 x2
    have k0:w7.cell? ⟨g3,0,none⟩=some (.int .i64 nd):=(blk_cell C3.out 0).trans rfl;have k1:w7.cell? ⟨g3,1,none⟩=some (.bool b):=(blk_cell C3.out 1).trans rfl;have k2:w7.cell? ⟨g3,2,none⟩=some (.slice A l.length c):=(blk_cell C3.out 2).trans rfl;have j0:w7.cell? ⟨g6,0,none⟩=some (.int .i64 0):=(blk_cell C6.out 0).trans rfl;have j1:w7.cell? ⟨g6,1,none⟩=some (.bool false):=(blk_cell C6.out 1).trans rfl;have j2:w7.cell? ⟨g6,2,none⟩=some (.slice none 0 0):=(blk_cell C6.out 2).trans rfl;have q0:=blk_frozen C6.out 0;have q1:=blk_frozen C6.out 1;have q2:=blk_frozen C6.out 2;go_wp2_with fail;refine bodyPost_ret (results_cell_row rfl _ _ g6 24 #[.int .i64 nd, .bool b, .slice A l.length c] (0,0) _ rfl (blk_put (cs:= #[.int .i64 nd, .bool b, .slice none 0 0]) (blk_put (cs:= #[.int .i64 nd, .bool false, .slice none 0 0]) (blk_put (cs:= #[.int .i64 0, .bool false, .slice none 0 0]) C6.out 0 _ rfl) 1 _ rfl) 2 _ rfl) Try.underlying24 rfl (by kernel_rfl)) rfl ?_;exact⟨by rw[E3.out,E4.out],below_set (below_set (below_set HC.out hgw6) hgw6) hgw6⟩
  ·have e2:decide (n≤50)=false:=decide_eq_false h50
   have e3:fewN n nd=n:=by unfold fewN;rw[if_neg (fun h=>by omega)]
   have E3:=Aside0.mk e3
   clear e3 h0 h1 h2 f0
   have C3:=B3
   have C6:=B6
   have HC:=HB
   clear B3 B6 HB
   have h0:w6.cell? ⟨g3,0,none⟩=some (.int .i64 n):=(blk_cell C3.out 0).trans rfl
   go_upto_region 3 with fail
   clear h0
   have f2:=blk_frozen C3.out 2
   have x2:w6.cell? ⟨g3,2,none⟩=some (.slice A l.length c):=(blk_cell C3.out 2).trans rfl
   by_cases hl:ar<l.length
   ·have d1:decide ((ar:Int)<(l.length:Int))=true:=decide_eq_true (by omega)
    by_cases hl2:l.length≤200
    ·have d2:decide ((l.length:Int)≤200)=true:=decide_eq_true (by omega)
     obtain⟨ad,rfl⟩:=HAD.out (by omega)
     have r1:(0:Int)≤(ar:Int):=by omega
     have r2:(ar:Int)≤(c:Int):=by omega
     have e4:(fewL l ar).length=ar:=by unfold fewL;rw[if_pos ⟨hl,hl2⟩,List.length_take];omega
     have E4:=Aside0.mk e4
     clear e4
     go_upto_region 5 with fail
     have D3:Aside0 ((w6.setCell ⟨g3,2,none⟩ (.slice (some ad) ar c)).heap[g3]? =some (.cells #[.int .i64 n, .bool b, .slice (some ad) ar c] 24 (0,0))):=⟨(blk_set C3.out 2 _).trans rfl⟩
     have D6:Aside0 ((w6.setCell ⟨g3,2,none⟩ (.slice (some ad) ar c)).heap[g6]? =some (.cells #[.int .i64 0, .bool false, .slice none 0 0] 24 (0,0))):=⟨blk_far C6.out (p:=⟨g3,2,none⟩) hg63 _⟩
     have HD:Aside0 (Below w.heap.size w (w6.setCell ⟨g3,2,none⟩ (.slice (some ad) ar c))):=⟨below_set HC.out hgw⟩
     clear C3 C6 HC f2 x2
     generalize w6.setCell ⟨g3,2,none⟩ (.slice (some ad) ar c)=w8 at *
     have C3:=D3
     have C6:=D6
     have HC:=HD
     clear D3 D6 HD
     have k0:w8.cell? ⟨g3,0,none⟩=some (.int .i64 n):=(blk_cell C3.out 0).trans rfl;have k1:w8.cell? ⟨g3,1,none⟩=some (.bool b):=(blk_cell C3.out 1).trans rfl;have k2:w8.cell? ⟨g3,2,none⟩=some (.slice (some ad) ar c):=(blk_cell C3.out 2).trans rfl;have j0:w8.cell? ⟨g6,0,none⟩=some (.int .i64 0):=(blk_cell C6.out 0).trans rfl;have j1:w8.cell? ⟨g6,1,none⟩=some (.bool false):=(blk_cell C6.out 1).trans rfl;have j2:w8.cell? ⟨g6,2,none⟩=some (.slice none 0 0):=(blk_cell C6.out 2).trans rfl;have q0:=blk_frozen C6.out 0;have q1:=blk_frozen C6.out 1;have q2:=blk_frozen C6.out 2;go_wp2_with fail;refine bodyPost_ret (results_cell_row rfl _ _ g6 24 #[.int .i64 n, .bool b, .slice (some ad) ar c] (0,0) _ rfl (blk_put (cs:= #[.int .i64 n, .bool b, .slice none 0 0]) (blk_put (cs:= #[.int .i64 n, .bool false, .slice none 0 0]) (blk_put (cs:= #[.int .i64 0, .bool false, .slice none 0 0]) C6.out 0 _ rfl) 1 _ rfl) 2 _ rfl) Try.underlying24 rfl (by kernel_rfl)) rfl ?_;exact⟨by rw[E3.out,E4.out],below_set (below_set (below_set HC.out hgw6) hgw6) hgw6⟩
    ·have d2:decide ((l.length:Int)≤200)=false:=decide_eq_false (by omega)
     have e4:fewL l ar=l:=by unfold fewL;rw[if_neg (fun h=>by omega)]
     have E4:=Aside0.mk e4
     clear e4
     go_upto_region 5 with fail
     clear f2 x2
     have k0:w6.cell? ⟨g3,0,none⟩=some (.int .i64 n):=(blk_cell C3.out 0).trans rfl;have k1:w6.cell? ⟨g3,1,none⟩=some (.bool b):=(blk_cell C3.out 1).trans rfl;have k2:w6.cell? ⟨g3,2,none⟩=some (.slice A l.length c):=(blk_cell C3.out 2).trans rfl;have j0:w6.cell? ⟨g6,0,none⟩=some (.int .i64 0):=(blk_cell C6.out 0).trans rfl;have j1:w6.cell? ⟨g6,1,none⟩=some (.bool false):=(blk_cell C6.out 1).trans rfl;have j2:w6.cell? ⟨g6,2,none⟩=some (.slice none 0 0):=(blk_cell C6.out 2).trans rfl;have q0:=blk_frozen C6.out 0;have q1:=blk_frozen C6.out 1;have q2:=blk_frozen C6.out 2;go_wp2_with fail;refine bodyPost_ret (results_cell_row rfl _ _ g6 24 #[.int .i64 n, .bool b, .slice A l.length c] (0,0) _ rfl (blk_put (cs:= #[.int .i64 n, .bool b, .slice none 0 0]) (blk_put (cs:= #[.int .i64 n, .bool false, .slice none 0 0]) (blk_put (cs:= #[.int .i64 0, .bool false, .slice none 0 0]) C6.out 0 _ rfl) 1 _ rfl) 2 _ rfl) Try.underlying24 rfl (by kernel_rfl)) rfl ?_;exact⟨by rw[E3.out,E4.out],below_set (below_set (below_set HC.out hgw6) hgw6) hgw6⟩
   ·have d1:decide ((ar:Int)<(l.length:Int))=false:=decide_eq_false (by omega)
    have e4:fewL l ar=l:=by unfold fewL;rw[if_neg (fun h=>by omega)]
    have E4:=Aside0.mk e4
    clear e4
    go_upto_region 5 with fail
    clear f2 x2
    have k0:w6.cell? ⟨g3,0,none⟩=some (.int .i64 n):=(blk_cell C3.out 0).trans rfl;have k1:w6.cell? ⟨g3,1,none⟩=some (.bool b):=(blk_cell C3.out 1).trans rfl;have k2:w6.cell? ⟨g3,2,none⟩=some (.slice A l.length c):=(blk_cell C3.out 2).trans rfl;have j0:w6.cell? ⟨g6,0,none⟩=some (.int .i64 0):=(blk_cell C6.out 0).trans rfl;have j1:w6.cell? ⟨g6,1,none⟩=some (.bool false):=(blk_cell C6.out 1).trans rfl;have j2:w6.cell? ⟨g6,2,none⟩=some (.slice none 0 0):=(blk_cell C6.out 2).trans rfl;have q0:=blk_frozen C6.out 0;have q1:=blk_frozen C6.out 1;have q2:=blk_frozen C6.out 2;go_wp2_with fail;refine bodyPost_ret (results_cell_row rfl _ _ g6 24 #[.int .i64 n, .bool b, .slice A l.length c] (0,0) _ rfl (blk_put (cs:= #[.int .i64 n, .bool b, .slice none 0 0]) (blk_put (cs:= #[.int .i64 n, .bool false, .slice none 0 0]) (blk_put (cs:= #[.int .i64 0, .bool false, .slice none 0 0]) C6.out 0 _ rfl) 1 _ rfl) 2 _ rfl) Try.underlying24 rfl (by kernel_rfl)) rfl ?_;exact⟨by rw[E3.out,E4.out],below_set (below_set (below_set HC.out hgw6) hgw6) hgw6⟩
 ·have e1:decide (nd<n)=false:=decide_eq_false hn
  have e3:fewN n nd=n:=by unfold fewN;rw[if_neg (fun h=>by omega)]
  have E3:=Aside0.mk e3
  clear e3 h0 h1 h2 f0
  have C3:=B3
  have C6:=B6
  have HC:=HB
  clear B3 B6 HB
  have h0:w6.cell? ⟨g3,0,none⟩=some (.int .i64 n):=(blk_cell C3.out 0).trans rfl
  go_upto_region 3 with fail
  clear h0
  have f2:=blk_frozen C3.out 2
  have x2:w6.cell? ⟨g3,2,none⟩=some (.slice A l.length c):=(blk_cell C3.out 2).trans rfl
  by_cases hl:ar<l.length
  ·have d1:decide ((ar:Int)<(l.length:Int))=true:=decide_eq_true (by omega)
   by_cases hl2:l.length≤200
   ·have d2:decide ((l.length:Int)≤200)=true:=decide_eq_true (by omega)
    obtain⟨ad,rfl⟩:=HAD.out (by omega)
    have r1:(0:Int)≤(ar:Int):=by omega
    have r2:(ar:Int)≤(c:Int):=by omega
    have e4:(fewL l ar).length=ar:=by unfold fewL;rw[if_pos ⟨hl,hl2⟩,List.length_take];omega
    have E4:=Aside0.mk e4
    clear e4
    go_upto_region 5 with fail
    have D3:Aside0 ((w6.setCell ⟨g3,2,none⟩ (.slice (some ad) ar c)).heap[g3]? =some (.cells #[.int .i64 n, .bool b, .slice (some ad) ar c] 24 (0,0))):=⟨(blk_set C3.out 2 _).trans rfl⟩
    have D6:Aside0 ((w6.setCell ⟨g3,2,none⟩ (.slice (some ad) ar c)).heap[g6]? =some (.cells #[.int .i64 0, .bool false, .slice none 0 0] 24 (0,0))):=⟨blk_far C6.out (p:=⟨g3,2,none⟩) hg63 _⟩
    have HD:Aside0 (Below w.heap.size w (w6.setCell ⟨g3,2,none⟩ (.slice (some ad) ar c))):=⟨below_set HC.out hgw⟩
    clear C3 C6 HC f2 x2
    generalize w6.setCell ⟨g3,2,none⟩ (.slice (some ad) ar c)=w8 at *
    have C3:=D3
    have C6:=D6
    have HC:=HD
    clear D3 D6 HD
    have k0:w8.cell? ⟨g3,0,none⟩=some (.int .i64 n):=(blk_cell C3.out 0).trans rfl;have k1:w8.cell? ⟨g3,1,none⟩=some (.bool b):=(blk_cell C3.out 1).trans rfl;have k2:w8.cell? ⟨g3,2,none⟩=some (.slice (some ad) ar c):=(blk_cell C3.out 2).trans rfl;have j0:w8.cell? ⟨g6,0,none⟩=some (.int .i64 0):=(blk_cell C6.out 0).trans rfl;have j1:w8.cell? ⟨g6,1,none⟩=some (.bool false):=(blk_cell C6.out 1).trans rfl;have j2:w8.cell? ⟨g6,2,none⟩=some (.slice none 0 0):=(blk_cell C6.out 2).trans rfl;have q0:=blk_frozen C6.out 0;have q1:=blk_frozen C6.out 1;have q2:=blk_frozen C6.out 2;go_wp2_with fail;refine bodyPost_ret (results_cell_row rfl _ _ g6 24 #[.int .i64 n, .bool b, .slice (some ad) ar c] (0,0) _ rfl (blk_put (cs:= #[.int .i64 n, .bool b, .slice none 0 0]) (blk_put (cs:= #[.int .i64 n, .bool false, .slice none 0 0]) (blk_put (cs:= #[.int .i64 0, .bool false, .slice none 0 0]) C6.out 0 _ rfl) 1 _ rfl) 2 _ rfl) Try.underlying24 rfl (by kernel_rfl)) rfl ?_;exact⟨by rw[E3.out,E4.out],below_set (below_set (below_set HC.out hgw6) hgw6) hgw6⟩
   ·have d2:decide ((l.length:Int)≤200)=false:=decide_eq_false (by omega)
    have e4:fewL l ar=l:=by unfold fewL;rw[if_neg (fun h=>by omega)]
    have E4:=Aside0.mk e4
    clear e4
    go_upto_region 5 with fail
    clear f2 x2
    have k0:w6.cell? ⟨g3,0,none⟩=some (.int .i64 n):=(blk_cell C3.out 0).trans rfl;have k1:w6.cell? ⟨g3,1,none⟩=some (.bool b):=(blk_cell C3.out 1).trans rfl;have k2:w6.cell? ⟨g3,2,none⟩=some (.slice A l.length c):=(blk_cell C3.out 2).trans rfl;have j0:w6.cell? ⟨g6,0,none⟩=some (.int .i64 0):=(blk_cell C6.out 0).trans rfl;have j1:w6.cell? ⟨g6,1,none⟩=some (.bool false):=(blk_cell C6.out 1).trans rfl;have j2:w6.cell? ⟨g6,2,none⟩=some (.slice none 0 0):=(blk_cell C6.out 2).trans rfl;have q0:=blk_frozen C6.out 0;have q1:=blk_frozen C6.out 1;have q2:=blk_frozen C6.out 2;go_wp2_with fail;refine bodyPost_ret (results_cell_row rfl _ _ g6 24 #[.int .i64 n, .bool b, .slice A l.length c] (0,0) _ rfl (blk_put (cs:= #[.int .i64 n, .bool b, .slice none 0 0]) (blk_put (cs:= #[.int .i64 n, .bool false, .slice none 0 0]) (blk_put (cs:= #[.int .i64 0, .bool false, .slice none 0 0]) C6.out 0 _ rfl) 1 _ rfl) 2 _ rfl) Try.underlying24 rfl (by kernel_rfl)) rfl ?_;exact⟨by rw[E3.out,E4.out],below_set (below_set (below_set HC.out hgw6) hgw6) hgw6⟩
  ·have d1:decide ((ar:Int)<(l.length:Int))=false:=decide_eq_false (by omega)
   have e4:fewL l ar=l:=by unfold fewL;rw[if_neg (fun h=>by omega)]
   have E4:=Aside0.mk e4
   clear e4
   go_upto_region 5 with fail
   clear f2 x2
   have k0:w6.cell? ⟨g3,0,none⟩=some (.int .i64 n):=(blk_cell C3.out 0).trans rfl;have k1:w6.cell? ⟨g3,1,none⟩=some (.bool b):=(blk_cell C3.out 1).trans rfl;have k2:w6.cell? ⟨g3,2,none⟩=some (.slice A l.length c):=(blk_cell C3.out 2).trans rfl;have j0:w6.cell? ⟨g6,0,none⟩=some (.int .i64 0):=(blk_cell C6.out 0).trans rfl;have j1:w6.cell? ⟨g6,1,none⟩=some (.bool false):=(blk_cell C6.out 1).trans rfl;have j2:w6.cell? ⟨g6,2,none⟩=some (.slice none 0 0):=(blk_cell C6.out 2).trans rfl;have q0:=blk_frozen C6.out 0;have q1:=blk_frozen C6.out 1;have q2:=blk_frozen C6.out 2;go_wp2_with fail;refine bodyPost_ret (results_cell_row rfl _ _ g6 24 #[.int .i64 n, .bool b, .slice A l.length c] (0,0) _ rfl (blk_put (cs:= #[.int .i64 n, .bool b, .slice none 0 0]) (blk_put (cs:= #[.int .i64 n, .bool false, .slice none 0 0]) (blk_put (cs:= #[.int .i64 0, .bool false, .slice none 0 0]) C6.out 0 _ rfl) 1 _ rfl) 2 _ rfl) Try.underlying24 rfl (by kernel_rfl)) rfl ?_;exact⟨by rw[E3.out,E4.out],below_set (below_set (below_set HC.out hgw6) hgw6) hgw6⟩
end Go.Proofs.Ytkcpanpdipmmmaa.H
namespace Go.Proofs.Ytkcpanpdipmmmaa.Q
open Go.RowKit Go.Proofs.YtkcpanpdipmmmaaW.PrintWords Go.Proofs.YtkcpanpdipmmmaaW.PrintLast Go.Proofs.YtkcpanpdipmmmaaW.PrintMore Go.Proofs.Ytkcpanpdipmmmaa.P
open Go.Proofs.Ytkcpanpdipmmmaa.H (endsErr Right right_of StepOf stRoom IsFlow leastR pushW stRoom_in)
theorem endsE_ok {n:Int} {l:List S74} {s t:Int} (h:endsErr n l s t=0):NetOk n l∧0≤s∧s<n∧0≤t∧t<n∧s≠t:=by
 unfold endsErr at h
 by_cases hn:netErr n l=0
 ·rw[if_pos hn] at h
  split at h
  ·rename_i he
   exact⟨netErr_ok hn,he⟩
  ·cases h
 ·rw[if_neg hn] at h;exact absurd h hn
def evenB (s t:Int):List Int→Int→Bool
 |[],_=>true
 |x::l,i=>if i=s then evenB s t l (i+1) else if i=t then evenB s t l (i+1) else if x=0 then evenB s t l (i+1) else false
def valRes (n:Int) (l:List S74) (s t:Int) (f:List Int):Int × Int:=
 if endsErr n l s t=0 then(if askErr n l f=0 then(if evenB s t (balOf n l f) 0=true then(bal l f s,0) else(0,71)) else(0,askErr n l f)) else(0,endsErr n l s t)
theorem evenB_iff (s t:Int) (X:List Int): ∀ i:Int,evenB s t X i=true↔ ∀ j:Nat,j<X.length→i+j≠s→i+j≠t→X.getD j 0=0:=by
 induction X with
 |nil=>intro i;simp[evenB]
 |cons x X ih=>
  intro i
  have key:evenB s t X (i+1)=true↔ ∀ j:Nat,j+1<(x::X).length→i+(j+1:Nat)≠s→i+(j+1:Nat)≠t→(x::X).getD (j+1) 0=0:=by
   rw[ih (i+1)]
   constructor
   ·intro h j h1 h2 h3
    rw[List.getD_cons_succ]
    exact h j (by simpa using h1) (by omega) (by omega)
   ·intro h j h1 h2 h3
    have:=h j (by simpa using h1) (by omega) (by omega)
    rwa [List.getD_cons_succ] at this
  have all:(i≠s→i≠t→x=0)→(evenB s t X (i+1)=true↔ ∀ j:Nat,j<(x::X).length→i+j≠s→i+j≠t→(x::X).getD j 0=0):=by
   intro hx
   rw[key]
   constructor
   ·intro h j h1 h2 h3
    cases j with
    |zero=>exact hx (by simpa using h2) (by simpa using h3)
    |succ j=>exact h j h1 h2 h3
   ·intro h j h1 h2 h3
    exact h (j+1) h1 h2 h3
  unfold evenB
  by_cases h1:i=s
  ·rw[if_pos h1];exact all (fun h=>absurd h1 h)
  rw[if_neg h1]
  by_cases h2:i=t
  ·rw[if_pos h2];exact all (fun _ h=>absurd h2 h)
  rw[if_neg h2]
  by_cases h3:x=0
  ·rw[if_pos h3];exact all (fun _ _=>h3)
  ·rw[if_neg h3]
   constructor
   ·intro h;cases h
   ·intro h
    exact absurd (h 0 (by simp) (by simpa using h1) (by simpa using h2)) h3
theorem ref_check2_l0 (n:Int) (p:Bool) (l:List S74) (s t:Int) (b:List Int) (hb:b.length≤50) (hbn:n=b.length) (hs:0≤s) (hsn:s<b.length) (d:Nat): ∀ i:Nat,i+d=b.length→
  Ev (fun k=>ebbtideref07_Check.l0 k s t b (i:Int) n p l) (if evenB s t (b.drop i) i=true then(rd b s,0) else(0,71)):=by
 induction d with
 |zero=>
  intro i hi
  refine Ev.succ ?_;simp only[ebbtideref07_Check.l0]
  refine Ev.neg (by omega) ?_
  refine Ev.pos (by omega) ?_
  refine Ev.pos (by omega) ?_
  rw[List.drop_of_length_le (by omega)]
  exact Ev.now _
 |succ d ih=>
  intro i hi
  refine Ev.succ ?_;simp only[ebbtideref07_Check.l0]
  refine Ev.pos (by omega) ?_
  rw[drop_getD b i 0 (by omega),rd_nat,wrap_succ (n:=b.length) (by omega) (by omega)]
  unfold evenB
  have:=ih (i+1) (by omega)
  rw[show ((i+1:Nat):Int)=(i:Int)+1 by omega] at this ⊢
  refine Ev.ite (fun g1=> ?_) (fun g1=> ?_)
  ·rw[if_pos g1];exact this
  rw[if_neg g1]
  refine Ev.ite (fun g2=> ?_) (fun g2=> ?_)
  ·rw[if_pos g2];exact this
  rw[if_neg g2]
  refine Ev.pos (by omega) ?_
  refine Ev.pos (by omega) ?_
  refine Ev.ite (fun g=> ?_) (fun g=> ?_)
  ·rw[if_pos g];exact this
  rw[if_neg g]
  exact Ev.now _
theorem ref_value_ev (n:Int) (b:Bool) (l:List S74) (s t:Int) (f:List Int):Ev (fun k=>ebbtideref07_Check.f k n b l s t f) (valRes n l s t f):=by
 unfold ebbtideref07_Check.f valRes
 refine Ev.bind (ref_ends_ev n b l s t) ?_
 refine Ev.ite (fun h=> ?_) (fun h=> ?_)
 ·rw[if_pos h]
  obtain⟨hn,he⟩:=endsE_ok h
  have:=hn.lo;have:=hn.hi
  refine Ev.bind (ref_balance_ev n b l f) ?_
  by_cases g:askErr n l f=0
  ·rw[if_pos g,balRes_ok g]
   refine Ev.pos rfl ?_
   refine Ev.eq (ref_check2_l0 n b l s t (balOf n l f) (by rw[balOf_len];omega) (by rw[balOf_len];omega) (by omega) (by rw[balOf_len];omega) _ 0 (Nat.zero_add _)) ?_
   rw[rd_balOf (by omega) (by omega),List.drop_zero]
   rfl
  ·rw[if_neg g,balRes_no g]
   exact Ev.neg g (Ev.now _)
 ·rw[if_neg h]
  exact Ev.now _
theorem flowOk_of {l:List S74} {F:List Int} {n:Nat} (hr:Right l F n):FlowOk l F:=by
 refine⟨hr.len,fun i hi=> ?_⟩
 have:=hr.nums i (by rw[← hr.len];exact hi)
 rw[rd_nat]
 exact⟨this.2.2.1,this.2.2.2.1⟩
theorem even_flow {n:Nat} {l:List S74} {F:List Int} {s t:Int} (hr:Right l F n):evenB s t (balOf n l F) 0=true↔IsFlow l F n s t:=by
 rw[evenB_iff]
 have hlen:=balOf_len (n:Int) l F
 rw[Int.toNat_natCast] at hlen
 have hg: ∀ v:Nat,v<n→(balOf n l F).getD v 0=bal l F v:=fun v hv=>by
  have h_:=rd_balOf (n:=(n:Int)) (l:=l) (f:=F) (v:=(v:Int)) (by omega) (by omega)
  rw[rd_nat] at h_
  exact h_
 constructor
 ·intro h
  refine⟨hr,fun v h0 h1 h2 h3=> ?_⟩
  obtain⟨v,rfl⟩: ∃ v':Nat,v=v':=⟨v.toNat,by omega⟩
  rw[← hg v (by omega)]
  exact h v (by omega) (by omega) (by omega)
 ·intro h v hv h2 h3
  rw[hg v (by omega)]
  exact h.keeps v (by omega) (by omega) (by omega) (by omega)
theorem flow_val {n:Int} {l:List S74} {F:List Int} {s t:Int} (h:(valRes n l s t F).2=0):endsErr n l s t=0∧askErr n l F=0∧ ∃ n0:Nat,n=n0∧IsFlow l F n0 s t∧valRes n l s t F=(bal l F s,0):=by
 unfold valRes at h ⊢
 by_cases h1:endsErr n l s t=0
 ·rw[if_pos h1] at h ⊢
  by_cases h2:askErr n l F=0
  ·rw[if_pos h2] at h ⊢
   obtain⟨n0,rfl,hr⟩:=right_of h2
   by_cases h3:evenB s t (balOf n0 l F) 0=true
   ·rw[if_pos h3]
    exact⟨h1,h2,n0,rfl,(even_flow hr).1 h3,rfl⟩
   ·rw[if_neg h3] at h;cases h
  ·rw[if_neg h2] at h;exact absurd h h2
 ·rw[if_neg h1] at h;exact absurd h h1
end Go.Proofs.Ytkcpanpdipmmmaa.Q
namespace Go.Proofs.Ytkcpanpdipmmmaa.Q
open Go.RowKit Go.Proofs.YtkcpanpdipmmmaaW.PrintWords Go.Proofs.YtkcpanpdipmmmaaW.PrintLast Go.Proofs.YtkcpanpdipmmmaaW.PrintMore Go.Proofs.Ytkcpanpdipmmmaa.P
open Go.Proofs.Ytkcpanpdipmmmaa.H (endsErr Right right_of StepOf stRoom IsFlow leastR pushW nodes stepsR frP toP)
theorem value_l0 (m:Int) (l:List S74) (f:List Int) (hn:NetOk m l) (hf:FlowOk l f) (v:Int) (d:Nat): ∀ (i:Nat) (acc:Int),i+d=l.length→ -(i * 2097152)≤acc→acc≤i * 2097152→
  Ev (fun k=>maxflow_Value.l0 k v f acc l (l.length:Int) (i:Int)) (acc+bal (l.drop i) (f.drop i) v):=by
 have hlen:=hf.len
 have hl:=hn.len
 induction d with
 |zero=>
  intro i acc hi h0 h1
  refine Ev.succ ?_;simp only[maxflow_Value.l0]
  repeat(first|exact Ev.now _|with_reducible refine Ev.pos (by first|assumption|omega) ?_|with_reducible refine Ev.neg (by first|assumption|omega) ?_|with_reducible refine Ev.let_ ?_)
  rw[List.drop_of_length_le (by omega)]
  exact Ev.done (by simp[bal])
 |succ d ih=>
  intro i acc hi h0 h1
  have hs:=hf.small hn (i:=(i:Int)) (by omega) (by omega)
  refine Ev.succ ?_;simp only[maxflow_Value.l0]
  repeat(first|exact Ev.now _|with_reducible refine Ev.pos (by first|assumption|omega) ?_|with_reducible refine Ev.neg (by first|assumption|omega) ?_|with_reducible refine Ev.let_ ?_)
  rw[wrap_succ (n:=l.length) (by omega) (by omega),drop_getD l i z74 (by omega),drop_getD f i 0 (by omega), ← rdArc_nat, ← rd_nat,bal_cons]
  refine Ev.ite (fun g=> ?_) (fun g=> ?_)
  ·rw[if_pos g]
   refine Ev.pos (by omega) ?_
   refine Ev.ite (fun g2=> ?_) (fun g2=> ?_)
   ·rw[if_pos g2,wrap_id (x:=acc+rd f (i:Int)) (by omega) (by omega),wrap_id (by omega) (by omega)]
    exact Ev.eq (ih (i+1) _ (by omega) (by omega) (by omega)) (by omega)
   ·rw[if_neg g2,wrap_id (x:=acc+rd f (i:Int)) (by omega) (by omega)]
    exact Ev.eq (ih (i+1) _ (by omega) (by omega) (by omega)) (by omega)
  ·rw[if_neg g]
   refine Ev.ite (fun g2=> ?_) (fun g2=> ?_)
   ·refine Ev.pos (by omega) ?_
    rw[if_pos g2,wrap_id (x:=acc - rd f (i:Int)) (by omega) (by omega)]
    exact Ev.eq (ih (i+1) _ (by omega) (by omega) (by omega)) (by omega)
   ·rw[if_neg g2]
    exact Ev.eq (ih (i+1) _ (by omega) (by omega) (by omega)) (by omega)
theorem value_ev (n m:Int) (b:Bool) (l:List S74) (f:List Int) (hn:NetOk m l) (hf:FlowOk l f) (v:Int):Ev (fun k=>maxflow_Value.f k n b l v f) (bal l f v):=by
 unfold maxflow_Value.f
 exact Ev.eq (value_l0 m l f hn hf v l.length 0 0 (by omega) (by omega) (by omega)) (by rw[List.drop_zero,List.drop_zero];omega)
end Go.Proofs.Ytkcpanpdipmmmaa.Q
namespace Go.Proofs.Ytkcpanpdipmmmaa.Q
open Go.RowKit Go.Proofs.YtkcpanpdipmmmaaW.PrintWords Go.Proofs.YtkcpanpdipmmmaaW.PrintLast Go.Proofs.YtkcpanpdipmmmaaW.PrintMore Go.Proofs.Ytkcpanpdipmmmaa.P
open Go.Proofs.Ytkcpanpdipmmmaa.H (endsErr Right right_of IsFlow payS worthS)
theorem balance_l0 (n:Int) (l:List S74) (f:List Int) (hn:NetOk n l) (hf:FlowOk l f) (d:Nat): ∀ (i:Nat) (x:List Int),i+d=l.length→x.length=n.toNat→(∀ v:Nat,v<x.length→ -(i * 2097152)≤rd x v∧rd x v≤i * 2097152)→
  ∃ r,Ev (fun k=>static_Balance.l0 k f x l (l.length:Int) (i:Int)) (r,0)∧r.length=x.length∧ ∀ v:Nat,v<x.length→rd r v=rd x v+bal (l.drop i) (f.drop i) v:=by
 have hlen:=hf.len
 have hl:=hn.len
 induction d with
 |zero=>
  intro i x hi hx hb
  refine⟨x,?_,rfl,fun v hv=> ?_⟩
  ·refine Ev.succ ?_;simp only[static_Balance.l0]
   repeat(first|exact Ev.now _|with_reducible refine Ev.pos (by first|assumption|omega) ?_|with_reducible refine Ev.neg (by first|assumption|omega) ?_|with_reducible refine Ev.let_ ?_)
  ·rw[List.drop_of_length_le (by omega)]
   simp[bal]
 |succ d ih=>
  intro i x hi hx hb
  have ha:=hn.at_ (i:=(i:Int)) (by omega) (by omega)
  have hs:=hf.small hn (i:=(i:Int)) (by omega) (by omega)
  have h1:=ha.f0
  have h2:=ha.f1
  have h3:=ha.h0
  have h4:=ha.h1
  have hb1:=hb (rd_T74 l (i:Int)).f0.toNat (by omega)
  have e1:(((rd_T74 l (i:Int)).f0.toNat:Nat):Int)=(rd_T74 l (i:Int)).f0:=by omega
  have e2:(((rd_T74 l (i:Int)).f1.toNat:Nat):Int)=(rd_T74 l (i:Int)).f1:=by omega
  rw[e1] at hb1
  have hb2:=hb (rd_T74 l (i:Int)).f1.toNat (by omega)
  rw[e2] at hb2
  obtain⟨r,hr,hrl,hrv⟩:=ih (i+1) ((x.set (rd_T74 l (i:Int)).f0.toNat (wrap64 (rd x (rd_T74 l (i:Int)).f0+rd f (i:Int)))).set (rd_T74 l (i:Int)).f1.toNat
    (wrap64 (rd (x.set (rd_T74 l (i:Int)).f0.toNat (wrap64 (rd x (rd_T74 l (i:Int)).f0+rd f (i:Int)))) (rd_T74 l (i:Int)).f1 - rd f (i:Int)))) (by omega) (by simpa using hx) (by
   intro v hv
   have hv':v<x.length:=by simpa using hv
   have hbv:=hb v hv'
   rw[rd_set _ _ _ _ h2 (by simp;omega) (by omega),rd_set _ _ _ _ h1 (by omega) h2,rd_set _ _ _ _ h1 (by omega) (by omega)]
   have w1:wrap64 (rd x (rd_T74 l (i:Int)).f0+rd f (i:Int))=rd x (rd_T74 l (i:Int)).f0+rd f (i:Int):=wrap_id (by omega) (by omega)
   rw[w1]
   split
   ·split
    ·rename_i h5 h6
     rw[wrap_id (by omega) (by omega)]
     omega
    ·rename_i h5 h6
     rw[wrap_id (by omega) (by omega)]
     omega
   ·split
    ·omega
    ·omega)
  refine⟨r,?_,by simpa using hrl,fun v hv=> ?_⟩
  ·refine Ev.succ ?_;simp only[static_Balance.l0]
   repeat(first|exact Ev.now _|with_reducible refine Ev.pos (by first|assumption|omega) ?_|with_reducible refine Ev.neg (by first|assumption|omega) ?_|with_reducible refine Ev.let_ ?_)
   rw[wrap_succ (n:=l.length) (by omega) (by omega)]
   exact hr
  ·rw[hrv v (by simpa using hv),rd_set _ _ _ _ h2 (by simp;omega) (by omega),rd_set _ _ _ _ h1 (by omega) h2,rd_set _ _ _ _ h1 (by omega) (by omega)]
   have w1:wrap64 (rd x (rd_T74 l (i:Int)).f0+rd f (i:Int))=rd x (rd_T74 l (i:Int)).f0+rd f (i:Int):=wrap_id (by omega) (by omega)
   rw[w1,drop_getD l i z74 (by omega),drop_getD f i 0 (by omega), ← rdArc_nat, ← rd_nat,bal_cons]
   by_cases h5:(rd_T74 l (i:Int)).f1=(v:Int)
   ·rw[if_pos h5,if_pos h5]
    by_cases h6:(rd_T74 l (i:Int)).f0=(v:Int)
    ·rw[if_pos (by omega),if_pos h6,wrap_id (by omega) (by omega),h6]
     omega
    ·rw[if_neg (by omega),if_neg h6,wrap_id (by omega) (by omega),h5]
     omega
   ·rw[if_neg h5,if_neg h5]
    by_cases h6:(rd_T74 l (i:Int)).f0=(v:Int)
    ·rw[if_pos h6,if_pos h6,h6]
     omega
    ·rw[if_neg h6,if_neg h6]
     omega
theorem rd_zeros (m:Nat) (v:Int):rd (List.replicate m 0) v=0:=by
 unfold rd
 rw[List.getD_eq_getElem?_getD,List.getElem?_replicate]
 split<;>rfl
theorem balance_ev (n:Int) (b:Bool) (l:List S74) (f:List Int):Ev (fun k=>static_Balance.f k n b l f) (balRes n l f):=by
 unfold static_Balance.f balRes
 refine Ev.bind (asked_ev n b l f) ?_
 refine Ev.ite (fun h=> ?_) (fun h=> ?_)
 ·rw[if_pos h]
  obtain⟨hn,hf⟩:=askErr_ok h
  have:=hn.lo
  have:=hn.hi
  repeat(first|exact Ev.now _|with_reducible refine Ev.pos (by first|assumption|omega) ?_|with_reducible refine Ev.neg (by first|assumption|omega) ?_|with_reducible refine Ev.let_ ?_)
  obtain⟨r,hr,hrl,hrv⟩:=balance_l0 n l f hn hf l.length 0 (List.replicate n.toNat 0) (by omega) (by simp) (fun v hv=>by rw[rd_zeros];omega)
  refine Ev.eq hr ?_
  rw[List.length_replicate] at hrl hrv
  congr 1
  refine ext_rd (by rw[hrl,balOf_len]) fun v hv=> ?_
  rw[hrv v (by omega),rd_zeros,rd_balOf (by omega) (by omega),List.drop_zero,List.drop_zero]
  omega
 ·rw[if_neg h]
  exact Ev.now _
theorem check2_l0 (s t:Int) (b:List Int) (hb:b.length≤50) (hs:0≤s) (hsn:s<b.length) (d:Nat): ∀ i:Nat,i+d=b.length→
  Ev (fun k=>static_Check.l0 k s t b b (b.length:Int) (i:Int)) (if evenB s t (b.drop i) i=true then(rd b s,0) else(0,71)):=by
 induction d with
 |zero=>
  intro i hi
  refine Ev.succ ?_;simp only[static_Check.l0]
  repeat(first|exact Ev.now _|with_reducible refine Ev.pos (by first|assumption|omega) ?_|with_reducible refine Ev.neg (by first|assumption|omega) ?_|with_reducible refine Ev.let_ ?_)
  rw[List.drop_of_length_le (by omega)]
  exact Ev.now _
 |succ d ih=>
  intro i hi
  refine Ev.succ ?_;simp only[static_Check.l0]
  repeat(first|exact Ev.now _|with_reducible refine Ev.pos (by first|assumption|omega) ?_|with_reducible refine Ev.neg (by first|assumption|omega) ?_|with_reducible refine Ev.let_ ?_)
  rw[drop_getD b i 0 (by omega),rd_nat,wrap_succ (n:=b.length) (by omega) (by omega)]
  unfold evenB
  have:=ih (i+1) (by omega)
  rw[show ((i+1:Nat):Int)=(i:Int)+1 by omega] at this ⊢
  refine Ev.ite (fun g=> ?_) (fun g=> ?_)
  ·rw[if_pos g,ite_self,ite_self];exact this
  refine Ev.ite (fun g2=> ?_) (fun g2=> ?_)
  ·rw[if_pos g2];exact this
  rw[if_neg g2]
  refine Ev.ite (fun g3=> ?_) (fun g3=> ?_)
  ·rw[if_pos g3];exact this
  rw[if_neg g3,if_neg g]
  exact Ev.now _
theorem stat_value_ev (n:Int) (b:Bool) (l:List S74) (s t:Int) (f:List Int):Ev (fun k=>static_Check.f k n b l s t f) (valRes n l s t f):=by
 unfold static_Check.f valRes
 refine Ev.bind (ends_ev n b l s t) ?_
 refine Ev.ite (fun h=> ?_) (fun h=> ?_)
 ·rw[if_pos h]
  obtain⟨hn,he1,he2,he3,he4,he5⟩:=endsE_ok h
  have:=hn.lo;have:=hn.hi
  refine Ev.bind (balance_ev n b l f) ?_
  by_cases g:askErr n l f=0
  ·rw[if_pos g,balRes_ok g]
   refine Ev.pos rfl ?_
   refine Ev.eq (check2_l0 s t (balOf n l f) (by rw[balOf_len];omega) (by omega) (by rw[balOf_len];omega) _ 0 (Nat.zero_add _)) ?_
   rw[rd_balOf (by omega) (by omega),List.drop_zero]
   rfl
  ·rw[if_neg g,balRes_no g]
   exact Ev.neg g (Ev.now _)
 ·rw[if_neg h]
  exact Ev.now _
theorem pay_mul {x t:Int} (h0:0≤x) (h1:x≤1048576) (h2:0≤t) (h3:t≤1048576):0≤x * t∧x * t≤1099511627776:=by
 refine⟨Int.mul_nonneg h0 h2,?_⟩
 have:=Int.mul_le_mul h1 h3 h2 (show (0:Int)≤1048576 by decide)
 omega
theorem pay_bd {l:List S74} {F:List Int} {n:Nat} (hr:Right l F n) (d:Nat): ∀ (i:Nat),i+d=l.length→0≤payS (l.drop i) (F.drop i)∧payS (l.drop i) (F.drop i)≤1099511627776 * (d:Int):=by
 have hl:=hr.len
 induction d with
 |zero=>
  intro i hi
  rw[List.drop_of_length_le (show l.length≤i by omega),List.drop_of_length_le (show F.length≤i by omega)]
  simp[payS]
 |succ d ih=>
  intro i hi
  have hn:=hr.nums i (by omega)
  have hb:=pay_mul hn.2.2.1 (by omega) hn.1 hn.2.1
  have:=ih (i+1) (by omega)
  rw[drop_getD l i z74 (by omega),drop_getD F i 0 (by omega),H.payS_cons, ← rdArc_nat]
  omega
theorem ref_pay_l0 {l:List S74} {F:List Int} {n:Nat} (hr:Right l F n) (b:Bool) (d:Nat): ∀ (i:Nat) (k:Int),i+d=l.length→0≤k→k≤1099511627776 * (i:Int)→
  Ev (fun m=>ebbtideref07_Cost.l0 m F k (i:Int) n b l) (k+payS (l.drop i) (F.drop i),0):=by
 have hl:=hr.len
 have hl2:=hr.arcs
 induction d with
 |zero=>
  intro i k hi h0 h1
  refine Ev.succ ?_;simp only[ebbtideref07_Cost.l0]
  refine Ev.neg (by omega) ?_
  rw[List.drop_of_length_le (show l.length≤i by omega),List.drop_of_length_le (show F.length≤i by omega)]
  exact Ev.done (by simp[payS])
 |succ d ih=>
  intro i k hi h0 h1
  have hn:=hr.nums i (by omega)
  have hb:=pay_mul hn.2.2.1 (by omega) hn.1 hn.2.1
  have e1:rd F (i:Int)=F.getD i 0:=rd_nat F i
  refine Ev.succ ?_;simp only[ebbtideref07_Cost.l0]
  refine Ev.pos (by omega) ?_
  refine Ev.pos (by omega) ?_
  refine Ev.pos (by omega) ?_
  rw[e1,wrap_succ (n:=200) (by omega) (by omega),wrap_id (x:=F.getD i 0 * (rd_T74 l i).f3) (by omega) (by omega),wrap_id (x:=k+F.getD i 0 * (rd_T74 l i).f3) (by omega) (by omega)]
  refine Ev.eq (ih (i+1) _ (by omega) (by omega) (by omega)) ?_
  rw[drop_getD l i z74 (by omega),drop_getD F i 0 (by omega),H.payS_cons, ← rdArc_nat]
  congr 1
  omega
theorem ref_pay_ev (n:Int) (b:Bool) (l:List S74) (F:List Int) (h:askErr n l F=0):Ev (fun m=>ebbtideref07_Cost.f m n b l F) (payS l F,0):=by
 unfold ebbtideref07_Cost.f
 refine Ev.bind (ref_asked_ev n b l F) ?_
 refine Ev.pos h ?_
 obtain⟨n0,rfl,hr⟩:=right_of h
 have:=ref_pay_l0 hr b l.length 0 0 (by omega) (by omega) (by omega)
 exact Ev.eq this (by rw[List.drop_zero,List.drop_zero,Int.zero_add])
theorem pay_l0 {l:List S74} {F:List Int} {n:Nat} (hr:Right l F n) (d:Nat): ∀ (i:Nat) (k:Int),i+d=l.length→0≤k→k≤1099511627776 * (i:Int)→
  Ev (fun m=>span_paid.l0 m F k l (l.length:Int) (i:Int)) (k+payS (l.drop i) (F.drop i)):=by
 have hl:=hr.len
 have hl2:=hr.arcs
 induction d with
 |zero=>
  intro i k hi h0 h1
  refine Ev.succ ?_;simp only[span_paid.l0]
  refine Ev.neg (by omega) ?_
  rw[List.drop_of_length_le (show l.length≤i by omega),List.drop_of_length_le (show F.length≤i by omega)]
  exact Ev.done (by simp[payS])
 |succ d ih=>
  intro i k hi h0 h1
  have hn:=hr.nums i (by omega)
  have hb:=pay_mul hn.2.2.1 (by omega) hn.1 hn.2.1
  have e1:rd F (i:Int)=F.getD i 0:=rd_nat F i
  refine Ev.succ ?_;simp only[span_paid.l0]
  refine Ev.pos (by omega) ?_
  refine Ev.pos (by omega) ?_
  refine Ev.pos (by omega) ?_
  refine Ev.pos (by omega) ?_
  rw[e1,wrap_succ (n:=200) (by omega) (by omega),wrap_id (x:=F.getD i 0 * (rd_T74 l i).f3) (by omega) (by omega),wrap_id (x:=k+F.getD i 0 * (rd_T74 l i).f3) (by omega) (by omega)]
  refine Ev.eq (ih (i+1) _ (by omega) (by omega) (by omega)) ?_
  rw[drop_getD l i z74 (by omega),drop_getD F i 0 (by omega),H.payS_cons, ← rdArc_nat]
  omega
theorem pay_ev (n m:Int) (n0:Nat) (b:Bool) (l:List S74) (F:List Int) (hr:Right l F n0):Ev (fun m=>span_paid.f m n b l F) (payS l F):=by
 unfold span_paid.f
 have:=pay_l0 hr l.length 0 0 (by omega) (by omega) (by omega)
 exact Ev.eq this (by rw[List.drop_zero,List.drop_zero,Int.zero_add])
def horErr (h:Int):Int:=if h<0 then 1 else if h>1024 then 2 else 0
def spanErr (n:Int) (l:List S74) (s t h:Int):Int:=if endsErr n l s t=0 then horErr h else endsErr n l s t
theorem hor_ok {h:Int} (e:horErr h=0):0≤h∧h≤1024:=by
 unfold horErr at e
 split at e
 ·cases e
 ·split at e
  ·cases e
  ·omega
theorem spanErr_ok {n:Int} {l:List S74} {s t h:Int} (e:spanErr n l s t h=0):endsErr n l s t=0∧0≤h∧h≤1024:=by
 unfold spanErr at e
 by_cases g:endsErr n l s t=0
 ·rw[if_pos g] at e;exact⟨g,hor_ok e⟩
 ·rw[if_neg g] at e;exact absurd e g
theorem span_asked_ev (n:Int) (b:Bool) (l:List S74) (s t h:Int):Ev (fun k=>span_Asked.f k n b l s t h) (spanErr n l s t h):=by
 unfold span_Asked.f spanErr
 refine Ev.bind (ends_ev n b l s t) ?_
 refine Ev.ite (fun g=> ?_) (fun g=> ?_)
 ·rw[if_pos g]
  have e:span_Horizon.f h=some (horErr h):=by
   unfold span_Horizon.f horErr
   split
   ·rfl
   ·split<;>rfl
  rw[e]
  exact Ev.now _
 ·rw[if_neg g];exact Ev.now _
theorem ref_span_asked_ev (n:Int) (b:Bool) (l:List S74) (s t h:Int):Ev (fun k=>ebbtideref12_Asked.f k n b l s t h) (spanErr n l s t h):=by
 unfold ebbtideref12_Asked.f spanErr
 refine Ev.bind (ref_ends_ev n b l s t) ?_
 refine Ev.ite (fun g=> ?_) (fun g=> ?_)
 ·rw[if_pos g]
  have e:ebbtideref12_Span.f h=some (horErr h):=by
   unfold ebbtideref12_Span.f horErr
   repeat' (first|rfl|split)
   all_goals (first|rfl|omega)
  rw[e]
  exact Ev.now _
 ·rw[if_neg g];exact Ev.now _
def worthR (n:Int) (l:List S74) (s t:Int) (F:List Int) (h:Int):Int × Int:=
 if spanErr n l s t h=0 then(if (valRes n l s t F).2=0 then(wrap64 (wrap64 (wrap64 (h+1) * (valRes n l s t F).1) - payS l F),0) else(0,(valRes n l s t F).2)) else(0,spanErr n l s t h)
theorem worth_ev (n:Int) (b:Bool) (l:List S74) (s t:Int) (F:List Int) (h:Int):Ev (fun k=>span_Worth.f k n b l s t F h) (worthR n l s t F h):=by
 unfold span_Worth.f worthR
 refine Ev.bind (span_asked_ev n b l s t h) ?_
 refine Ev.ite (fun g=> ?_) (fun g=> ?_)
 ·rw[if_pos g]
  refine Ev.bind (stat_value_ev n b l s t F) ?_
  refine Ev.ite (fun g2=> ?_) (fun g2=> ?_)
  ·rw[if_pos g2]
   obtain⟨h1,h2,_⟩:=flow_val g2
   obtain⟨n0,rfl,hr⟩:=right_of h2
   refine Ev.bind (pay_ev n0 n0 n0 b l F hr) ?_
   exact Ev.now _
  ·rw[if_neg g2];exact Ev.now _
 ·rw[if_neg g];exact Ev.now _
theorem ref_worth_ev (n:Int) (b:Bool) (l:List S74) (s t:Int) (F:List Int) (h:Int):Ev (fun k=>ebbtideref12_Worth.f k n b l s t F h) (worthR n l s t F h):=by
 unfold ebbtideref12_Worth.f worthR
 refine Ev.bind (ref_span_asked_ev n b l s t h) ?_
 refine Ev.ite (fun g=> ?_) (fun g=> ?_)
 ·rw[if_pos g]
  refine Ev.bind (ref_value_ev n b l s t F) ?_
  refine Ev.ite (fun g2=> ?_) (fun g2=> ?_)
  ·rw[if_pos g2]
   obtain⟨h1,h2,_⟩:=flow_val g2
   refine Ev.bind (ref_pay_ev n b l F h2) ?_
   exact Ev.now _
  ·rw[if_neg g2];exact Ev.now _
 ·rw[if_neg g];exact Ev.now _
end Go.Proofs.Ytkcpanpdipmmmaa.Q
namespace Go.Proofs.Ytkcpanpdipmmmaa.Q
open Go.RowKit Go.Proofs.YtkcpanpdipmmmaaW.PrintWords Go.Proofs.YtkcpanpdipmmmaaW.PrintLast Go.Proofs.YtkcpanpdipmmmaaW.PrintMore Go.Proofs.Ytkcpanpdipmmmaa.P
open Go.Proofs.Ytkcpanpdipmmmaa.H (endsErr Right right_of IsFlow payS worthS SpanTop fillS fillRes fillS_top)
theorem span_top {l:List S74} {n s t:Nat} {h:Int} (hr:Right l (List.replicate l.length 0) n) (hs:s<n) (ht:t<n) (hst:s≠t) (hH:0≤h):SpanTop l (fillS l n s t h) n s t h:=(fillS_top hr hs ht hst hH).1
theorem bal_bd {l:List S74} {F:List Int} {n s t:Nat} (hf:IsFlow l F n s t) (hs:s<n) (ht:t<n) (hst:s≠t): -209715200≤bal l F s∧bal l F s≤209715200:=by
 have h1:=H.flow_top hf hs hst
 have h2:=H.flow_ends hf hs ht hst
 have h3:=H.flow_top (s:=t) (t:=s) ⟨hf.right,fun v a b c d=>hf.keeps v a b d c⟩ ht (fun e=>hst e.symm)
 omega
theorem times_bd {h v:Int} (h0:0≤h) (h1:h≤1026) (a: -209715200≤v) (b:v≤209715200): -216006656000≤(h+1) * v∧(h+1) * v≤216006656000:=by
 have e1:=Int.mul_le_mul_of_nonneg_left b (show 0≤h+1 by omega)
 have e2:=Int.mul_le_mul_of_nonneg_left a (show 0≤h+1 by omega)
 omega
theorem worth_wrap {l:List S74} {F:List Int} {n s t:Nat} {h:Int} (hf:IsFlow l F n s t) (hs:s<n) (ht:t<n) (hst:s≠t) (h0:0≤h) (h1:h≤1024):wrap64 (wrap64 (wrap64 (h+1) * bal l F s) - payS l F)=worthS l F s (h+1):=by
 obtain⟨b1,b2⟩:=bal_bd hf hs ht hst
 obtain⟨c1,c2⟩:=times_bd h0 (by omega) b1 b2
 have har:=hf.right.arcs
 obtain⟨p1,p2⟩:=pay_bd hf.right l.length 0 (by omega)
 rw[List.drop_zero,List.drop_zero] at p1 p2
 unfold worthS
 rw[wrap_id (x:=h+1) (by omega) (by omega),wrap_id (x:=(h+1) * bal l F s) (by omega) (by omega),wrap_id (by omega) (by omega)]
def sbestR (n:Int) (l:List S74) (s t h:Int):List Int × Int × Int:=
 if spanErr n l s t h=0 then(fillS l n.toNat s.toNat t.toNat h,worthS l (fillS l n.toNat s.toNat t.toNat h) s.toNat (h+1),0) else([],0,spanErr n l s t h)
def smostR (n:Int) (l:List S74) (s t h:Int):Int × Int:=
 if spanErr n l s t h=0 then(worthS l (fillS l n.toNat s.toNat t.toNat h) s.toNat (h+1),0) else(0,spanErr n l s t h)
theorem sbest_ev (n:Int) (b:Bool) (l:List S74) (s t h:Int):Ev (fun k=>span_Best.f k n b l s t h) (sbestR n l s t h):=by
 unfold span_Best.f sbestR
 refine Ev.bind (span_asked_ev n b l s t h) ?_
 by_cases g:spanErr n l s t h=0
 ·rw[if_pos g]
  refine Ev.pos g ?_
  obtain⟨g1,g2,g3⟩:=spanErr_ok g
  refine Ev.call (show span_Fill.f n b l s t h=some (fillRes l n.toNat s.toNat t.toNat h) by unfold span_Fill.f;rw[if_pos ⟨g1,g2⟩]) ?_
  obtain⟨n0,s0,t0,rfl,rfl,rfl,hs,ht,hst,hn,hr⟩:=ends_zero g1
  simp only[Int.toNat_natCast]
  have hf:=(span_top hr hs ht hst g2).ok.flow
  refine Ev.bind (value_ev n0 n0 b l _ hn (flowOk_of hf.right) s0) ?_
  refine Ev.bind (pay_ev n0 n0 n0 b l _ hf.right) ?_
  refine Ev.done ?_
  show (fillS l n0 s0 t0 h,wrap64 (wrap64 (wrap64 (h+1) * bal l (fillS l n0 s0 t0 h) s0) - payS l (fillS l n0 s0 t0 h)),(0:Int))=_
  rw[worth_wrap hf hs ht hst g2 g3]
 ·rw[if_neg g]
  refine Ev.neg g ?_
  exact Ev.now _
theorem smost_ev (n:Int) (b:Bool) (l:List S74) (s t h:Int):Ev (fun k=>span_Most.f k n b l s t h) (smostR n l s t h):=by
 unfold span_Most.f
 refine Ev.bind (sbest_ev n b l s t h) ?_
 refine Ev.done ?_
 unfold sbestR smostR
 split<;>rfl
theorem smostR_nat {l:List S74} {n s t:Nat} {h:Int} (g:spanErr (n:Int) l (s:Int) (t:Int) h=0):smostR n l s t h=(worthS l (fillS l n s t h) s (h+1),0):=by
 unfold smostR;rw[if_pos g];simp only[Int.toNat_natCast]
def line:List S74:=[(⟨0,1,2,1⟩:S74),(⟨1,2,2,1⟩:S74)]
theorem line_right:Right line (List.replicate line.length 0) 3:=by
 obtain⟨n0,h1,h2⟩:=right_of (n:=3) (l:=line) (F:=List.replicate line.length 0) (by decide +kernel)
 obtain rfl:n0=3:=by omega
 exact h2
theorem line_top (h:Int) (h0:0≤h):SpanTop line (fillS line 3 0 2 h) 3 0 2 h:=span_top line_right (by decide) (by decide) (by decide) h0
theorem line_flow:IsFlow line [2,2] 3 0 2:=by
 obtain⟨n0,h1,h2⟩:=right_of (n:=3) (l:=line) (F:=[2,2]) (by decide +kernel)
 obtain rfl:n0=3:=by omega
 refine⟨h2,fun v a b c d=> ?_⟩
 obtain rfl:v=1:=by omega
 decide +kernel
theorem line_worth {F:List Int} (hf:IsFlow line F 3 0 2) (c:Int): ∃ x:Int,0≤x∧x≤2∧worthS line F 0 c=c * x - 2 * x:=by
 have hl:F.length=2:=hf.right.len
 match F,hl with
 |[x,y],_=>
  have n0:=hf.right.nums 0 (by decide)
  have hk:=hf.keeps 1 (by decide) (by decide) (by decide) (by decide)
  have e1:bal line [x,y] 1=(0 - x)+((y - 0)+0):=rfl
  have e0:bal line [x,y] ((0:Nat):Int)=(x - 0)+((0 - 0)+0):=rfl
  have ep:payS line [x,y]=x * 1+(y * 1+0):=rfl
  have q:(0:Int)≤x∧x≤2:=by
   have e2:(rd_T74 line ((0:Nat):Int)).f2=2:=rfl
   have e3:[x,y].getD 0 0=x:=rfl
   rw[e2,e3] at n0
   omega
  refine⟨x,q.1,q.2,?_⟩
  unfold worthS
  rw[e0,ep]
  rw[e1] at hk
  have:x - 0+(0 - 0+0)=x:=by omega
  rw[this]
  omega
theorem awake12_ev:Ev (fun k=>ebbtidelaw12_awake.f k) true:=by
 have e1:spanErr 3 line 0 2 1=0:=by decide +kernel
 have e2:spanErr 3 line 0 2 5=0:=by decide +kernel
 have m1:smostR 3 line 0 2 1=(0,0):=by
  have h_:smostR 3 line 0 2 1=(worthS line (fillS line 3 0 2 1) 0 (1+1),0):=smostR_nat (n:=3) (l:=line) (s:=0) (t:=2) e1
  obtain⟨x,x0,x1,hx⟩:=line_worth (line_top 1 (by decide)).ok.flow (1+1)
  rw[h_,hx]
  have:(1+1) * x - 2 * x=0:=by omega
  rw[this]
 have m2:smostR 3 line 0 2 5=(8,0):=by
  have h_:smostR 3 line 0 2 5=(worthS line (fillS line 3 0 2 5) 0 (5+1),0):=smostR_nat (n:=3) (l:=line) (s:=0) (t:=2) e2
  obtain⟨x,x0,x1,hx⟩:=line_worth (line_top 5 (by decide)).ok.flow (5+1)
  have hle:=(line_top 5 (by decide)).le line_flow (by decide) (by decide) (by decide)
  have e8:worthS line [2,2] 0 (5+1)=8:=by decide +kernel
  rw[e8,hx] at hle
  rw[h_,hx]
  have:(5+1) * x - 2 * x=8:=by omega
  rw[this]
 have m3:worthR 3 line 0 2 [1,1] 2=(1,0):=by decide +kernel
 have m4:smostR 3 line 0 2 (-1)=(0,1):=by
  have e4:spanErr 3 line 0 2 (-1)=1:=by decide +kernel
  unfold smostR
  rw[e4]
  rfl
 unfold ebbtidelaw12_awake.f
 refine Ev.let_ ?_
 refine Ev.bind (smost_ev 3 false line 0 2 1) ?_
 refine Ev.bind (smost_ev 3 false line 0 2 5) ?_
 refine Ev.bind (worth_ev 3 false line 0 2 [1,1] 2) ?_
 refine Ev.bind (smost_ev 3 false line 0 2 (-1)) ?_
 rw[m1,m2,m3,m4]
 refine Ev.pos rfl ?_
 refine Ev.pos rfl ?_
 refine Ev.pos rfl ?_
 refine Ev.pos rfl ?_
 refine Ev.pos rfl ?_
 refine Ev.pos rfl ?_
 exact Ev.now _
end Go.Proofs.Ytkcpanpdipmmmaa.Q
namespace Go.Proofs.Ytkcpanpdipmmmaa.Q
open Go.RowKit Go.Proofs.YtkcpanpdipmmmaaW.PrintWords Go.Proofs.YtkcpanpdipmmmaaW.PrintLast Go.Proofs.YtkcpanpdipmmmaaW.PrintMore Go.Proofs.Ytkcpanpdipmmmaa.P
open Go.Proofs.Ytkcpanpdipmmmaa.H (endsErr Right right_of IsFlow payS worthS SpanTop SpanOk TightP fillS sumR outR StepOf stRoom stTime toP frP)
theorem pay_zeros: ∀ l:List S74,payS l (List.replicate l.length 0)=0
 |[]=>rfl
 |a::l=>by
  show (0:Int) * a.f3+payS l (List.replicate l.length 0)=0
  rw[pay_zeros l,Int.zero_mul];rfl
theorem pay_nonneg {l:List S74} {F:List Int} {n:Nat} (hr:Right l F n):0≤payS l F∧payS l F≤219902325555200:=by
 have h:=pay_bd hr l.length 0 (by omega)
 have:=hr.arcs
 rw[List.drop_zero,List.drop_zero] at h
 omega
theorem span_nonneg {l:List S74} {F:List Int} {n s t:Nat} {h:Int} (hT:SpanTop l F n s t h) (hs:s<n) (ht:t<n) (hst:s≠t) (h0:0≤h):0≤worthS l F s (h+1)∧0≤bal l F s:=by
 obtain⟨z1,z2⟩:=H.zeros_of (s:=s) (t:=t) hT.ok.flow.right
 have hle:=hT.le z1 hs ht hst
 have e0:worthS l (List.replicate l.length 0) s (h+1)=0:=by unfold worthS;rw[z2,pay_zeros,Int.mul_zero];rfl
 rw[e0] at hle
 refine⟨hle,?_⟩
 unfold worthS at hle
 have hp:=pay_nonneg hT.ok.flow.right
 by_cases g:0≤bal l F s
 ·exact g
 ·have:=Int.mul_le_mul_of_nonneg_left (show bal l F s≤ -1 by omega) (show 0≤h+1 by omega)
  omega
end Go.Proofs.Ytkcpanpdipmmmaa.Q
namespace Go.Proofs.Ytkcpanpdipmmmaa.Q
open Go.RowKit Go.Proofs.YtkcpanpdipmmmaaW.PrintWords Go.Proofs.YtkcpanpdipmmmaaW.PrintLast Go.Proofs.YtkcpanpdipmmmaaW.PrintMore Go.Proofs.Ytkcpanpdipmmmaa.P
open Go.Proofs.Ytkcpanpdipmmmaa.H (endsErr Right right_of IsFlow payS worthS SpanTop fillS)
theorem worthR_ok {n:Int} {l:List S74} {s t:Int} {F:List Int} {h:Int} (e:(worthR n l s t F h).2=0):spanErr n l s t h=0∧ ∃ n0 s0 t0:Nat,n=n0∧s=s0∧t=t0∧s0<n0∧t0<n0∧s0≠t0∧IsFlow l F n0 s0 t0∧(worthR n l s t F h).1=worthS l F s0 (h+1):=by
 unfold worthR at e ⊢
 by_cases g:spanErr n l s t h=0
 ·rw[if_pos g] at e ⊢
  by_cases g2:(valRes n l s t F).2=0
  ·rw[if_pos g2] at e ⊢
   refine⟨g,?_⟩
   obtain⟨g1,h0,h1⟩:=spanErr_ok g
   obtain⟨n0,s0,t0,rfl,rfl,rfl,hs,ht,hst,hn,hr⟩:=ends_zero g1
   obtain⟨_,_,n1,e1,hf,hv⟩:=flow_val g2
   obtain rfl:n0=n1:=by omega
   refine⟨n0,s0,t0,rfl,rfl,rfl,hs,ht,hst,hf,?_⟩
   rw[hv]
   exact worth_wrap hf hs ht hst h0 h1
  ·rw[if_neg g2] at e;exact absurd e g2
 ·rw[if_neg g] at e;exact absurd e g
theorem tops_fact (n:Int) (l:List S74) (s t:Int) (F:List Int) (h:Int):((smostR n l s t h).2=0→0≤(smostR n l s t h).1)∧((worthR n l s t F h).2=0→(smostR n l s t h).2=0∧(worthR n l s t F h).1≤(smostR n l s t h).1):=by
 constructor
 ·intro e
  by_cases g:spanErr n l s t h=0
  ·obtain⟨g1,h0,h1⟩:=spanErr_ok g
   obtain⟨n0,s0,t0,rfl,rfl,rfl,hs,ht,hst,hn,hr⟩:=ends_zero g1
   rw[smostR_nat g]
   exact(span_nonneg (span_top hr hs ht hst h0) hs ht hst h0).1
  ·unfold smostR at e
   rw[if_neg g] at e
   exact absurd e g
 ·intro e
  obtain⟨g,n0,s0,t0,rfl,rfl,rfl,hs,ht,hst,hf,hw⟩:=worthR_ok e
  obtain⟨g1,h0,h1⟩:=spanErr_ok g
  obtain⟨n1,s1,t1,e0,e1,e2,_,_,_,hn,hr⟩:=ends_zero g1
  obtain rfl:n0=n1:=by omega
  rw[hw,smostR_nat g]
  exact⟨rfl,(span_top hr hs ht hst h0).le hf hs ht hst⟩
end Go.Proofs.Ytkcpanpdipmmmaa.Q
namespace Go.Proofs.Ytkcpanpdipmmmaa.H
open Go.RowKit Go.Proofs.YtkcpanpdipmmmaaW.PrintWords Go.Proofs.YtkcpanpdipmmmaaW.PrintLast Go.Proofs.YtkcpanpdipmmmaaW.PrintMore Go.Proofs.Ytkcpanpdipmmmaa.P
open Go.Proofs.Ytkcpanpdipmmmaa.Q (worthR smostR ref_worth_ev smost_ev awake12_ev tops_fact)
set_option maxHeartbeats 4000000 in
set_option maxRecDepth 100000 in
theorem ebbtidelaw12_SpanTops_calls (a0_0:Int) (a0_1:Bool) (A0_2:Option Addr) (c0_2:Nat) (l0_2:List S74) (a1:Int) (a2:Int) (A3:Option Addr) (c3:Nat) (l3:List Int) (a4:Int) (r:Bool) (w:World) (hr0_2:Kd.C k74 w A0_2 l0_2.length l0_2) (hc0_2:l0_2.length≤c0_2) (hr3:Kd.C (Kd.int .i64) w A3 l3.length l3) (hc3:l3.length≤c3) (h:some true=some r):
  Calls Try.prog 17 #[.agg #[.int .i64 a0_0, .bool a0_1, .slice A0_2 l0_2.length c0_2], .int .i64 a1, .int .i64 a2, .slice A3 l3.length c3, .int .i64 a4] w fun e w'=>e= .returned (.bool r)∧Below w.heap.size w w':=by
 have hu24:=Try.underlying24
 injection h with h
 subst h
 obtain⟨n1,hn1⟩: ∃ n_,n_=fewN a0_0 8:=⟨_,rfl⟩;obtain⟨l1,hl1⟩: ∃ l_,l_=fewL l0_2 20:=⟨_,rfl⟩
 have hfact:=tops_fact n1 l1 a1 a2 l3 a4
 obtain⟨⟨m,g⟩,hmg⟩: ∃ p,p=smostR n1 l1 a1 a2 a4:=⟨_,rfl⟩
 obtain⟨⟨v,e⟩,hve⟩: ∃ p,p=worthR n1 l1 a1 a2 l3 a4:=⟨_,rfl⟩
 obtain⟨K1,hK1⟩:=smost_ev n1 a0_1 l1 a1 a2 a4
 have hm1:=hK1 K1 (Nat.le_refl _)
 obtain⟨K2,hK2⟩:=ref_worth_ev n1 a0_1 l1 a1 a2 l3 a4
 have hm2:=hK2 K2 (Nat.le_refl _)
 obtain⟨K3,hK3⟩:=awake12_ev
 have hm3:=hK3 K3 (Nat.le_refl _)
 rw[← hmg] at hm1 hfact
 rw[← hve] at hm2 hfact
 have HM1:=Aside0.mk hm1
 have HM2:=Aside0.mk hm2
 have HM3:=Aside0.mk hm3
 have HFF:=Aside0.mk hfact
 have HN1:=Aside0.mk hn1
 have HL1:=Aside0.mk hl1
 have H2:=Aside0.mk hr0_2
 have HC2:=Aside0.mk hc0_2
 have H3:=Aside0.mk hr3
 have HC3:=Aside0.mk hc3
 have HLC:Aside0 (Kd.C k74 w A0_2 l1.length l1):=⟨by rw[hl1];exact fewL_C hr0_2 20⟩
 have HLE:Aside0 (l1.length≤c0_2):=⟨by rw[hl1];exact Nat.le_trans (fewL_le l0_2 20) hc0_2⟩
 clear hve hmg hK1 hK2 hK3 hm1 hm2 hm3 hn1 hl1 hr0_2 hc0_2 hr3 hc3 hfact
 go_enter Try.func17,Try.ntmps17
 go_upto_region 5 with (first|((with_reducible refine gate_dst (N:=5) rfl ?_);refine box_event ?hg (N:=5) ?hd (cs:= #[.int .i64 a0_0, .bool a0_1, .slice A0_2 l0_2.length c0_2]) (t:=24) ?hr ?_;(case hd=>rfl);(case hg=>rfl);(case hr=>first|(go_simp;done)|(go_simp;rfl));intro g3 hg3 w5 hbox hb;have B3:=Aside0.mk hbox;have HB:=Aside0.mk hb;have HG3:Aside0 (w.heap.size≤g3):=⟨Nat.le_of_eq hg3.symm⟩;clear hg3 hbox hb;have x0:w5.cell? ⟨g3,0,none⟩=some (.int .i64 a0_0):=(blk_cell B3.out 0).trans rfl;have x1:w5.cell? ⟨g3,1,none⟩=some (.bool a0_1):=(blk_cell B3.out 1).trans rfl;have x2:w5.cell? ⟨g3,2,none⟩=some (.slice A0_2 l0_2.length c0_2):=(blk_cell B3.out 2).trans rfl)|(go_at_call 65;refine(ebbtidelaw12_awake.calls K3 true _ HM3.out).mono ?_;rintro e_ w10 ⟨rfl,hb⟩;have m0_:=Aside0.mk (below_step HB.out hb);have m1_:=Aside0.mk (blk_below B3.out hb);clear HB B3 hb x0 x1 x2;have HB:=m0_;have B3:=m1_;clear m0_ m1_;have x0:w10.cell? ⟨g3,0,none⟩=some (.int .i64 a0_0):=(blk_cell B3.out 0).trans rfl;have x1:w10.cell? ⟨g3,1,none⟩=some (.bool a0_1):=(blk_cell B3.out 1).trans rfl;have x2:w10.cell? ⟨g3,2,none⟩=some (.slice A0_2 l0_2.length c0_2):=(blk_cell B3.out 2).trans rfl)|(go_at_call 66;refine(few_calls a0_0 a0_1 A0_2 c0_2 l0_2 8 20 _ (by decide) HC2.out (Kd.C_below H2.out HB.out)).mono ?_;rintro e_ w6 ⟨rfl,hb⟩;have m0_:=Aside0.mk (below_step HB.out hb);have m1_:=Aside0.mk (blk_below B3.out hb);clear HB B3 hb x0 x1 x2;have HB:=m0_;have B3:=m1_;clear m0_ m1_;have x0:w6.cell? ⟨g3,0,none⟩=some (.int .i64 a0_0):=(blk_cell B3.out 0).trans rfl;have x1:w6.cell? ⟨g3,1,none⟩=some (.bool a0_1):=(blk_cell B3.out 1).trans rfl;have x2:w6.cell? ⟨g3,2,none⟩=some (.slice A0_2 l0_2.length c0_2):=(blk_cell B3.out 2).trans rfl;have f0:=blk_frozen B3.out 0;have f1:=blk_frozen B3.out 1;have f2:=blk_frozen B3.out 2)|fail)
 have B3':Aside0 ((((w6.setCell ⟨g3,0,none⟩ (.int .i64 (fewN a0_0 8))).setCell ⟨g3,1,none⟩ (.bool a0_1)).setCell ⟨g3,2,none⟩ (.slice A0_2 (fewL l0_2 20).length c0_2)).heap[g3]? =some (.cells #[.int .i64 n1, .bool a0_1, .slice A0_2 l1.length c0_2] 24 (0,0))):=⟨by rw[HN1.out,HL1.out];exact blk_put (blk_put (blk_put B3.out 0 _ rfl) 1 _ rfl) 2 _ rfl⟩
 have HB':Aside0 (Below w.heap.size w (((w6.setCell ⟨g3,0,none⟩ (.int .i64 (fewN a0_0 8))).setCell ⟨g3,1,none⟩ (.bool a0_1)).setCell ⟨g3,2,none⟩ (.slice A0_2 (fewL l0_2 20).length c0_2))):=⟨below_set (below_set (below_set HB.out HG3.out) HG3.out) HG3.out⟩
 clear B3 HB x0 x1 x2 f0 f1 f2
 generalize ((w6.setCell ⟨g3,0,none⟩ (.int .i64 (fewN a0_0 8))).setCell ⟨g3,1,none⟩ (.bool a0_1)).setCell ⟨g3,2,none⟩ (.slice A0_2 (fewL l0_2 20).length c0_2)=w7 at *
 have B3:=B3'
 have HB:=HB'
 clear B3' HB'
 have x0:w7.cell? ⟨g3,0,none⟩=some (.int .i64 n1):=(blk_cell B3.out 0).trans rfl;have x1:w7.cell? ⟨g3,1,none⟩=some (.bool a0_1):=(blk_cell B3.out 1).trans rfl;have x2:w7.cell? ⟨g3,2,none⟩=some (.slice A0_2 l1.length c0_2):=(blk_cell B3.out 2).trans rfl
 go_upto_region 7 with (first|(go_at_call 67;refine(span_Most.calls K1 n1 a0_1 A0_2 c0_2 l1 a1 a2 a4 m g _ (Kd.C_below HLC.out HB.out) HLE.out HM1.out).mono ?_;rintro e_ w8 ⟨rfl,hb⟩;have m0_:=Aside0.mk (below_step HB.out hb);have m1_:=Aside0.mk (blk_below B3.out hb);clear HB B3 hb x0 x1 x2;have HB:=m0_;have B3:=m1_;clear m0_ m1_;have x0:w8.cell? ⟨g3,0,none⟩=some (.int .i64 n1):=(blk_cell B3.out 0).trans rfl;have x1:w8.cell? ⟨g3,1,none⟩=some (.bool a0_1):=(blk_cell B3.out 1).trans rfl;have x2:w8.cell? ⟨g3,2,none⟩=some (.slice A0_2 l1.length c0_2):=(blk_cell B3.out 2).trans rfl)|(go_at_call 64;refine(ebbtideref12_Worth.calls K2 n1 a0_1 A0_2 c0_2 l1 a1 a2 A3 c3 l3 a4 v e _ (Kd.C_below HLC.out HB.out) HLE.out (Kd.C_below H3.out HB.out) HC3.out HM2.out).mono ?_;rintro e_ w9 ⟨rfl,hb⟩;have m0_:=Aside0.mk (below_step HB.out hb);have m1_:=Aside0.mk (blk_below B3.out hb);clear HB B3 hb x0 x1 x2;have HB:=m0_;have B3:=m1_;clear m0_ m1_;have x0:w9.cell? ⟨g3,0,none⟩=some (.int .i64 n1):=(blk_cell B3.out 0).trans rfl;have x1:w9.cell? ⟨g3,1,none⟩=some (.bool a0_1):=(blk_cell B3.out 1).trans rfl;have x2:w9.cell? ⟨g3,2,none⟩=some (.slice A0_2 l1.length c0_2):=(blk_cell B3.out 2).trans rfl)|fail)
 obtain⟨hf1,hf2⟩:=HFF.out
 by_cases hg:g=0
 ·have hm:=hf1 hg
  have hg0:g=0:=hg
  clear hf1
  subst hg
  have d1:decide (m≥0)=true:=decide_eq_true hm
  by_cases he:e=0
  ·obtain⟨_,hle⟩:=hf2 he
   subst he
   have d2:decide (v≤m)=true:=decide_eq_true hle
   clear hf2 hle hm
   go_wp2_with fail
   go_ret
   exact⟨rfl,HB.out⟩
  ·have d2:decide (e=0)=false:=decide_eq_false he
   clear hf2 hm
   go_wp2_with fail
   go_ret
   exact⟨rfl,HB.out⟩
 ·have he: ¬ e=0:=fun he=>hg (hf2 he).1
  have d1:decide (g=0)=false:=decide_eq_false hg
  have d2:decide (e=0)=false:=decide_eq_false he
  clear hf1 hf2
  go_wp2_with fail
  go_ret
  exact⟨rfl,HB.out⟩
end Go.Proofs.Ytkcpanpdipmmmaa.H
namespace Go.Proofs.Ytkcpanpdipmmmaa.P
open Go.RowKit Go.Proofs.YtkcpanpdipmmmaaW.PrintWords Go.Proofs.YtkcpanpdipmmmaaW.PrintLast Go.Proofs.YtkcpanpdipmmmaaW.PrintMore
def ebbtidelaw12_SpanTops.f (a0_0:Int) (a0_1:Bool) (l0_2:List S74) (a1:Int) (a2:Int) (l3:List Int) (a4:Int):Option (Bool):=some true
theorem ebbtidelaw12_SpanTops.calls (a0_0:Int) (a0_1:Bool) (A0_2:Option Addr) (c0_2:Nat) (l0_2:List S74) (a1:Int) (a2:Int) (A3:Option Addr) (c3:Nat) (l3:List Int) (a4:Int) (r:Bool) (w:World) (hr0_2:Kd.C k74 w A0_2 l0_2.length l0_2) (hc0_2:l0_2.length≤c0_2) (hr3:Kd.C (Kd.int .i64) w A3 l3.length l3) (hc3:l3.length≤c3) (h:ebbtidelaw12_SpanTops.f a0_0 a0_1 l0_2 a1 a2 l3 a4=some r):
  Calls Try.prog 17 #[.agg #[.int .i64 a0_0, .bool a0_1, .slice A0_2 l0_2.length c0_2], .int .i64 a1, .int .i64 a2, .slice A3 l3.length c3, .int .i64 a4] w fun e w'=>e= .returned (.bool r)∧Below w.heap.size w w':=H.ebbtidelaw12_SpanTops_calls a0_0 a0_1 A0_2 c0_2 l0_2 a1 a2 A3 c3 l3 a4 r w hr0_2 hc0_2 hr3 hc3 h
end Go.Proofs.Ytkcpanpdipmmmaa.P
namespace Go.Proofs.Ytkcpanpdipmmmaa.Opn
open Go.RowKit Go.ChangeShapes Go.WideShapes Go.Deep Go.Proofs.YtkcpanpdipmmmaaW.PrintWords
def Opens (P:Program) (t:TypeId) {α:Type} (d:Kd α) (ok:α→Prop):Prop:=
 ∀ (H:Type) (enc:TypeId × Value→H) (w:World) (base:Nat) (spare:Nat→Bool) (held:Bool) (fuel:Nat) (cs:List Value) (x:DataW H × List MemPlace),
  DataW.trod enc P w base spare held fuel t cs=some x→ ∃ a:α,d.K w a cs∧ok a
theorem opens_int {P:Program} {t:TypeId} {k:IntKind} (ht:P.underlying t=some (.int k)):Opens P t (Kd.int k) (fun n=>(Lit.int k n).wf=true):=by
 intro H enc w base spare held fuel cs x h
 obtain⟨n,rfl,_,hw⟩:=DataW.trod_int ht h
 exact⟨n,rfl,hw⟩
theorem opens_bool {P:Program} {t:TypeId} (ht:P.underlying t=some .bool):Opens P t Kd.bool (fun _=>True):=by
 intro H enc w base spare held fuel cs x h
 obtain⟨b,rfl,_⟩:=DataW.trod_bool ht h
 exact⟨b,rfl,trivial⟩
theorem opens_slice {P:Program} {t e:TypeId} {α:Type} {d:Kd α} {ok:α→Prop} (ht:P.underlying t=some (.slice e)) (hc:P.cellsOf e=d.sz) (h:Opens P e d ok):
  Opens P t (Kd.slice e d) (fun l=>l.length≤9223372036854775807∧ ∀ x∈l,ok x):=by
 intro H enc w base spare held fuel cs x hx
 rcases open_slice ht hx with ⟨rfl,_⟩|⟨a,len,cap,m,n,D,Pl,rfl,hb,hl,hm,hmm,_,hi⟩
 ·exact⟨[],⟨none,0,rfl,Nat.le_refl _,rfl,by simp,fun h=>absurd h (by simp)⟩,by simp,by simp⟩
 ·have hlm:len≤m:=by rw[hmm];split<;>omega
  have hel: ∀ i:Nat,i<len→ ∃ a':α,ok a'∧ ∃ c,c.length=d.sz∧d.K w a' c∧ ∀ j u,c[j]? =some u→w.cell? (a.add (i * d.sz+j))=some u:=by
   intro i hil
   obtain⟨cs',hcs,htr⟩:=hi i (by omega)
   obtain⟨a',hK,hok⟩:=h H enc w base spare held n cs' _ htr
   rw[hc] at hcs
   obtain⟨_,hcl,hat⟩:=World.cells?_some hcs
   refine⟨a',hok,cs',hcl,hK,fun j u hu=> ?_⟩
   have hj:j<d.sz:=by have:=(List.getElem?_eq_some_iff.1 hu).1;omega
   have:=hat j hj
   rw[← Go.Deep.add_add,this,hu]
  have hrow: ∀ k:Nat,k≤len→ ∃ xs:List α,xs.length=k∧(∀ x∈xs,ok x)∧ ∀ j p,xs[j]? =some p→ ∃ c,c.length=d.sz∧d.K w p c∧ ∀ i u,c[i]? =some u→w.cell? (a.add (j * d.sz+i))=some u:=by
   intro k
   induction k with
   |zero=>exact fun _=>⟨[],rfl,by simp,by simp⟩
   |succ k ih=>
    intro hk
    obtain⟨xs,h1,h2,h3⟩:=ih (by omega)
    obtain⟨a',ho,c,hcl,hK,hcell⟩:=hel k (by omega)
    refine⟨xs ++ [a'],by simp[h1],fun x hx=> ?_,fun j p hj=> ?_⟩
    ·rcases List.mem_append.1 hx with h|h
     ·exact h2 x h
     ·rw[List.mem_singleton.1 h];exact ho
    ·by_cases hjk:j<xs.length
     ·rw[List.getElem?_append_left hjk] at hj
      exact h3 j p hj
     ·have hjl:=(List.getElem?_eq_some_iff.1 hj).1
      simp at hjl
      have hje:j=k:=by omega
      subst hje
      rw[← h1,List.getElem?_concat_length] at hj
      obtain rfl:=Option.some.inj hj
      exact⟨c,hcl,hK,hcell⟩
  obtain⟨xs,h1,h2,h3⟩:=hrow len (Nat.le_refl _)
  have hmx:len≤9223372036854775807:=by unfold maxLen at hm;omega
  subst h1
  exact⟨xs,⟨some a,cap,rfl,hl,rfl,hmx,fun _=>⟨a,rfl,h3⟩⟩,hmx,h2⟩
theorem opens_iso {P:Program} {t:TypeId} {α β:Type} {d:Kd α} {ok:α→Prop} (h:Opens P t d ok) (f:β→α) (g:α→β) (hfg: ∀ x,f (g x)=x):Opens P t (Kd.iso d f) (fun y=>ok (f y)):=by
 intro H enc w base spare held fuel cs x hx
 obtain⟨a,hK,hok⟩:=h H enc w base spare held fuel cs x hx
 exact⟨g a,by show d.K w (f (g a)) cs;rw[hfg];exact hK,by show ok (f (g a));rw[hfg];exact hok⟩
def OpensFs (P:Program) (fs:List Field) (off:Nat) {α:Type} (d:Kd α) (ok:α→Prop):Prop:=
 ∀ (H:Type) (enc:TypeId × Value→H) (w:World) (base:Nat) (spare:Nat→Bool) (held:Bool) (n:Nat) (cs:List Value),cs.length=off+d.sz→
  (∀ f∈fs, ∃ y,DataW.trod enc P w base spare held n f.type ((cs.drop f.offset).take (P.cellsOf f.type))=some y)→ ∃ a:α,d.K w a (cs.drop off)∧ok a
theorem fs_one {P:Program} {f:Field} {off:Nat} {α:Type} {d:Kd α} {ok:α→Prop} (ho:f.offset=off) (hc:P.cellsOf f.type=d.sz) (h:Opens P f.type d ok):OpensFs P [f] off d ok:=by
 intro H enc w base spare held n cs hl hf
 obtain⟨y,hy⟩:=hf f (by simp)
 rw[ho,hc,List.take_of_length_le (by simp;omega)] at hy
 exact h H enc w base spare held n _ y hy
theorem fs_cons {P:Program} {f:Field} {fs:List Field} {off:Nat} {α β:Type} {d:Kd α} {d':Kd β} {ok:α→Prop} {ok':β→Prop} (ho:f.offset=off) (hc:P.cellsOf f.type=d.sz) (h:Opens P f.type d ok)
  (hr:OpensFs P fs (off+d.sz) d' ok'):OpensFs P (f::fs) off (Kd.pair d d') (fun x=>ok x.1∧ok' x.2):=by
 intro H enc w base spare held n cs hl hf
 have hsz:(Kd.pair d d').sz=d.sz+d'.sz:=rfl
 rw[hsz] at hl
 obtain⟨y,hy⟩:=hf f (by simp)
 rw[ho,hc] at hy
 obtain⟨a,hK,hok⟩:=h H enc w base spare held n _ y hy
 obtain⟨b,hKb,hokb⟩:=hr H enc w base spare held n cs (by omega) (fun f' hf'=>hf f' (List.mem_cons_of_mem _ hf'))
 refine⟨(a,b),⟨_,_,?_,hK,hKb⟩,hok,hokb⟩
 rw[← List.drop_drop]
 exact(List.take_append_drop _ _).symm
theorem opens_struct {P:Program} {t:TypeId} {fs:Array Field} {α:Type} {d:Kd α} {ok:α→Prop} (hs:P.underlying t=some (.struct fs)) (hC:P.cellsOf t=d.sz) (h:OpensFs P fs.toList 0 d ok):Opens P t d ok:=by
 intro H enc w base spare held fuel cs x hx
 obtain⟨xs,n,_,_,hl,hlen,hf⟩:=DataW.trod_struct hs hx
 obtain⟨a,hK,hok⟩:=h H enc w base spare held n cs (by rw[hl,hC,Nat.zero_add]) (fun f hfm=>by
  obtain⟨j,hj⟩:=List.getElem?_of_mem hfm
  have hj':fs[j]? =some f:=by rw[← hj];simp
  have hjl:j<xs.length:=by rw[hlen];exact(Array.getElem?_eq_some_iff.1 hj').1
  have h1:=hf j f hj'
  rw[List.getElem?_eq_getElem hjl] at h1
  exact⟨_,h1⟩)
 exact⟨a,hK,hok⟩
theorem arg_struct {H:Type} {enc:TypeId × Value→H} {P:Program} {w:World} {base b0:Nat} {spare:Nat→Bool} {held:Bool} {r:Reach} {t:TypeId} {fs:Array Field} {v:Value} {dd:DataW H} {p:List MemPlace} {α:Type} {d:Kd α} {ok:α→Prop}
  (hs:P.underlying t=some (.struct fs)) (ho:Opens P t d ok) (hv:Value.okWide P w r b0 t v) (h:DataW.Trod enc P w base spare held t v dd p): ∃ a cs,v= .agg cs∧d.K w a cs.toList∧ok a:=by
 obtain⟨cs,rfl,hsz⟩:=okWide_struct hs hv
 obtain⟨fuel,hf⟩:=h
 obtain⟨a,hK,hok⟩:=ho H enc w base spare held fuel _ _ hf
 exact⟨a,cs,rfl,by simpa [Value.cells] using hK,hok⟩
theorem arg_slice {H:Type} {enc:TypeId × Value→H} {P:Program} {w:World} {base b0:Nat} {spare:Nat→Bool} {held:Bool} {r:Reach} {t e:TypeId} {v:Value} {dd:DataW H} {p:List MemPlace} {α:Type} {d:Kd α} {ok:List α→Prop}
  (hs:P.underlying t=some (.slice e)) (ho:Opens P t (Kd.slice e d) ok) (hv:Value.okWide P w r b0 t v) (h:DataW.Trod enc P w base spare held t v dd p): ∃ A c l,v= .slice A l.length c∧l.length≤c∧d.C w A l.length l∧ok l:=by
 obtain⟨A,len,cap,rfl⟩:=okWide_slice hs hv
 obtain⟨fuel,hf⟩:=h
 obtain⟨l,⟨A',c,he,hlc,hC⟩,hok⟩:=ho H enc w base spare held fuel _ _ hf
 simp[Value.cells] at he
 obtain⟨rfl,rfl,rfl⟩:=he
 exact⟨A,cap,l,rfl,hlc,hC,hok⟩
end Go.Proofs.Ytkcpanpdipmmmaa.Opn
namespace Go.Proofs.Ytkcpanpdipmmmaa.Q
open Go.RowKit Go.Proofs.YtkcpanpdipmmmaaW.PrintWords Go.Proofs.YtkcpanpdipmmmaaW.PrintLast Go.Proofs.YtkcpanpdipmmmaaW.PrintMore Go.Proofs.Ytkcpanpdipmmmaa.P
theorem spanTops_ev (n:Int) (b:Bool) (l:List S74) (s t:Int) (F:List Int) (h:Int):Ev (fun _=>ebbtidelaw12_SpanTops.f n b l s t F h) true:=Ev.now _
end Go.Proofs.Ytkcpanpdipmmmaa.Q
