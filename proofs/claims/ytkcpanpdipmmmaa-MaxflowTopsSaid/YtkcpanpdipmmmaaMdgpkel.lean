/- What the law's row needs of these texts, taken out of them by wip/tool/mini.py: P121 P124 P127 QOpen QCheckRef QMostLaw QAwake09 QLMaxflow. -/
import Derived.Test.YtkcpanpdipmmmaaMifecen
import Derived.Test.YtkcpanpdipmmmaaMinnehd
import Derived.Test.YtkcpanpdipmmmaaVjdfaep
import Derived.Deep.Slices
import Derived.Deep.Fields
import Derived.ChangeSame
import Derived.ChangeArms
import Derived.OpenShut
import Derived.Test.YtkcpanpdipmmmaaMhlkncn
import Derived.Test.YtkcpanpdipmmmaaMfhdkao
import Derived.Deep.RegionHeld3
import Derived.Deep.DeepCutAuto
set_option linter.unusedVariables false
set_option linter.unusedSimpArgs false
namespace Go.Proofs.Ytkcpanpdipmmmaa.P
open Go.RowKit Go.Proofs.YtkcpanpdipmmmaaW.PrintWords Go.Proofs.YtkcpanpdipmmmaaW.PrintLast Go.Proofs.YtkcpanpdipmmmaaW.PrintMore
attribute [local go_sem] max2_int min2_int max_two min_two max_three min_three max_four min_four
def maxflow_Most.f (k : Nat) (a0_0 : Int) (a0_1 : Bool) (l0_2 : List (S74)) (a1 : Int) (a2 : Int) : Option (Int × Int) := (maxflow_Max.f k a0_0 a0_1 l0_2 a1 a2).bind fun bt874 => (some (bt874.2.1, bt874.2.2))
set_option maxHeartbeats 8000000 in
set_option maxRecDepth 100000 in
theorem maxflow_Most.calls (k : Nat) (a0_0 : Int) (a0_1 : Bool) (A0_2 : Option Addr) (c0_2 : Nat) (l0_2 : List (S74)) (a1 : Int) (a2 : Int) (r1 : Int) (r2 : Int) (w : World) (hr0_2 : Kd.C k74 w A0_2 l0_2.length l0_2) (hc0_2 : l0_2.length ≤ c0_2) (h : maxflow_Most.f k a0_0 a0_1 l0_2 a1 a2 = some (r1, r2)) :
  Calls Try.prog 73 #[.agg #[.int .i64 a0_0, .bool a0_1, .slice A0_2 l0_2.length c0_2], .int .i64 a1, .int .i64 a2] w fun e w' => e = .returned (.tuple #[.int .i64 r1, .int .i64 r2]) ∧ Below w.heap.size w w' := by
 have hu24 := Try.underlying24
 have HR0_2 := Aside0.mk hr0_2
 have HC0_2 := Aside0.mk hc0_2
 clear hr0_2 hc0_2
 have HB := Aside0.mk (Below.refl w.heap.size w)
 have H : ((maxflow_Max.f k a0_0 a0_1 l0_2 a1 a2).bind fun bt874 => (some (bt874.2.1, bt874.2.2))) = some (r1, r2) := h
 clear h
 replace H := Option.bind_eq_some_iff.mp H
 obtain ⟨⟨t874, t877, t878⟩, A40, H⟩ := H
 replace H : (some (t877, t878)) = some (r1, r2) := H
 have A4 := Aside0.mk A40
 clear A40
 simp only [Option.some.injEq, Prod.mk.injEq] at H
 obtain ⟨rfl, rfl⟩ := H
 go_enter Try.func73, Try.ntmps73
 go_wp2_with (first | ((with_reducible refine gate_dst (N := 3) rfl ?_); refine box_event ?hg (N := 3) ?hd (cs := #[.int .i64 a0_0, .bool a0_1, .slice A0_2 l0_2.length c0_2]) (t := 24) ?hr ?_; (case hd => rfl); (case hg => rfl); (case hr => first | (go_simp; done) | (go_simp; rfl)); intro gb873 hg w5 hbox hb; have n0_ := Aside0.mk (below_step (by repeat (first | (with_reducible first | exact HB.out | apply below_alloc | apply pw_below_drewN | apply below_drew1) | exact HB.out)) hb); have n1_ := Aside0.mk (hbox); have n2_ := Aside0.mk ((by rw [hg]; exact (below_size (by repeat (first | (with_reducible first | exact HB.out | apply below_alloc | apply pw_below_drewN | apply below_drew1) | exact HB.out))) : w.heap.size ≤ gb873)); have n3_ := Aside0.mk ((by rw [hg]; exact (below_size (by repeat (first | (with_reducible first | exact HB.out | apply below_alloc | apply pw_below_drewN | apply below_drew1) | exact HB.out))) : w.heap.size ≤ gb873)); clear HB; have HB := n0_; have BK873 := n1_; have GW873 := n2_; have GE873 := n3_; clear n0_ n1_ n2_ n3_; clear hb hbox hg; have hcz6_0 : w5.cell? ⟨gb873, 0, none⟩ = some (.int .i64 a0_0) := (blk_cell BK873.out 0).trans rfl; have hcz6_1 : w5.cell? ⟨gb873, 1, none⟩ = some (.bool a0_1) := (blk_cell BK873.out 1).trans rfl; have hcz6_2 : w5.cell? ⟨gb873, 2, none⟩ = some (.slice A0_2 l0_2.length c0_2) := (blk_cell BK873.out 2).trans rfl; have hfz6_0 := blk_frozen BK873.out 0; have hfz6_1 := blk_frozen BK873.out 1; have hfz6_2 := blk_frozen BK873.out 2) | ((with_reducible refine gate_callee (f := 76) rfl ?_); refine goesL_ (some 12) rfl rfl Try.func76 (by kernel_rfl) rfl #[.agg #[.int .i64 a0_0, .bool a0_1, .slice A0_2 l0_2.length c0_2], .int .i64 a1, .int .i64 a2] rfl (by (try simp only [List.map_toArray, List.map_cons, List.map_nil]); first | done | rfl | (simp only [List.length_drop, List.length_take]; rfl)) ?_; (with_reducible refine (maxflow_Max.calls k a0_0 a0_1 _ _ l0_2 a1 a2 t874 t877 t878 _ ?side1 ?side2 A4.out).mono ?_); (case side1 => repeat (first | exact (Kd.C_below HR0_2.out HB.out) | (with_reducible refine Kd.C_alloc ?_ _) | (with_reducible refine Kd.C_drewN ?_ _) | (with_reducible refine Kd.C_drew ?_))); (case side2 => exact HC0_2.out); rintro e w7 ⟨v875, rfl, ho0, hb⟩; refine ⟨_, rfl, ?_⟩; have n0_ := Aside0.mk (Kd.R_lower ho0 (below_size (by repeat (first | (with_reducible first | exact HB.out | apply below_alloc | apply pw_below_drewN | apply below_drew1 | refine below_set ?_ GE873.out) | exact HB.out)))); have n1_ := Aside0.mk (blk_below (g := gb873) (o := .cells #[.int .i64 a0_0, .bool a0_1, .slice A0_2 l0_2.length c0_2] 24 (0, 0)) (by (with_reducible repeat (first | refine blk_drewN ?_ _ | refine blk_drew ?_ | refine blk_alloc ?_ _)); exact BK873.out) hb); have n2_ := Aside0.mk (below_step (by repeat (first | (with_reducible first | exact HB.out | apply below_alloc | apply pw_below_drewN | apply below_drew1 | refine below_set ?_ GE873.out) | exact HB.out)) hb); clear BK873; clear HB; have HO876 := n0_; have BK873 := n1_; have HB := n2_; clear n0_ n1_ n2_; (try clear hb); (try clear hb2); (try clear hk); (try clear hi); (try clear ho0)))
 go_ret2
 exact ⟨by first | rfl | (simp [errW_none, errW_some] <;> rfl) | (simp [*, errW_none, errW_some] <;> rfl), by repeat (first | (with_reducible first | exact HB.out | apply below_alloc | apply pw_below_drewN | apply below_drew1 | refine below_set ?_ GE873.out) | exact HB.out)⟩
end Go.Proofs.Ytkcpanpdipmmmaa.P
namespace Go.Proofs.Ytkcpanpdipmmmaa.P
open Go.RowKit Go.Proofs.YtkcpanpdipmmmaaW.PrintWords Go.Proofs.YtkcpanpdipmmmaaW.PrintLast Go.Proofs.YtkcpanpdipmmmaaW.PrintMore
attribute [local go_sem] max2_int min2_int max_two min_two max_three min_three max_four min_four
def ebbtidelaw09_awake.f (k : Nat)  : Option (Bool) := (some (([(⟨0, 1, 3, 0⟩ : S74), (⟨0, 2, 2, 0⟩ : S74), (⟨1, 3, 2, 0⟩ : S74), (⟨2, 3, 3, 0⟩ : S74), (⟨1, 2, 5, 0⟩ : S74)] : List (S74)) : List (S74))).bind fun y900 => ((maxflow_Max.f k 4 false y900 0 3).bind fun bt904 => ((maxflow_Most.f k 4 false y900 3 0).bind fun bt909 => ((maxflow_Max.f k 4 false y900 1 1).bind fun bt911 => (if bt904.2.2 = 0 then (if bt904.2.1 = 5 then (if (bt904.1.length : Int) = 5 then (if bt909.2 = 0 then (if bt909.1 = 0 then (some (bt911.2.2 == 70)) else (some false)) else (some false)) else (some false)) else (some false)) else (some false)))))
set_option maxHeartbeats 8000000 in
set_option maxRecDepth 100000 in
theorem ebbtidelaw09_awake.calls (k : Nat)  (r : Bool) (w : World) (h : ebbtidelaw09_awake.f k  = some r) (hrT_ : r = true := by first | rfl | exact Aside0.out (by assumption)) :
  Calls Try.prog 75 #[] w fun e w' => e = .returned (.bool r) ∧ Below w.heap.size w w' := by
 have HRT := Aside0.mk hrT_
 clear hrT_
 have hu74 := Try.underlying74
 have hu24 := Try.underlying24
 have HB := Aside0.mk (Below.refl w.heap.size w)
 have H : ((some (([(⟨0, 1, 3, 0⟩ : S74), (⟨0, 2, 2, 0⟩ : S74), (⟨1, 3, 2, 0⟩ : S74), (⟨2, 3, 3, 0⟩ : S74), (⟨1, 2, 5, 0⟩ : S74)] : List (S74)) : List (S74))).bind fun y900 => ((maxflow_Max.f k 4 false y900 0 3).bind fun bt904 => ((maxflow_Most.f k 4 false y900 3 0).bind fun bt909 => ((maxflow_Max.f k 4 false y900 1 1).bind fun bt911 => (if bt904.2.2 = 0 then (if bt904.2.1 = 5 then (if (bt904.1.length : Int) = 5 then (if bt909.2 = 0 then (if bt909.1 = 0 then (some (bt911.2.2 == 70)) else (some false)) else (some false)) else (some false)) else (some false)) else (some false)))))) = some r := h
 clear h
 obtain ⟨y900, hy900⟩ : ∃ y_ : List (S74), y_ = (([(⟨0, 1, 3, 0⟩ : S74), (⟨0, 2, 2, 0⟩ : S74), (⟨1, 3, 2, 0⟩ : S74), (⟨2, 3, 3, 0⟩ : S74), (⟨1, 2, 5, 0⟩ : S74)] : List (S74))) := ⟨_, rfl⟩
 replace H : ((maxflow_Max.f k 4 false y900 0 3).bind fun bt904 => ((maxflow_Most.f k 4 false y900 3 0).bind fun bt909 => ((maxflow_Max.f k 4 false y900 1 1).bind fun bt911 => (if bt904.2.2 = 0 then (if bt904.2.1 = 5 then (if (bt904.1.length : Int) = 5 then (if bt909.2 = 0 then (if bt909.1 = 0 then (some (bt911.2.2 == 70)) else (some false)) else (some false)) else (some false)) else (some false)) else (some false))))) = some r := by first | (rw [hy900]; with_reducible exact H) | (have H2_ := (Option.bind_some _ _).symm.trans H; rw [hy900]; with_reducible exact H2_) | (have H2_ := (Option.bind_some _ _).symm.trans H; with_reducible exact H2_) | with_reducible exact H | (rw [hy900]; exact H) | exact H
 have Ny900 := Aside0.mk hy900
 clear hy900
 replace H := Option.bind_eq_some_iff.mp H
 obtain ⟨⟨t904, t907, t908⟩, A10, H⟩ := H
 replace H : ((maxflow_Most.f k 4 false y900 3 0).bind fun bt909 => ((maxflow_Max.f k 4 false y900 1 1).bind fun bt911 => (if t908 = 0 then (if t907 = 5 then (if (t904.length : Int) = 5 then (if bt909.2 = 0 then (if bt909.1 = 0 then (some (bt911.2.2 == 70)) else (some false)) else (some false)) else (some false)) else (some false)) else (some false)))) = some r := H
 have A1 := Aside0.mk A10
 clear A10
 replace H := Option.bind_eq_some_iff.mp H
 obtain ⟨⟨t909, t910⟩, A20, H⟩ := H
 replace H : ((maxflow_Max.f k 4 false y900 1 1).bind fun bt911 => (if t908 = 0 then (if t907 = 5 then (if (t904.length : Int) = 5 then (if t910 = 0 then (if t909 = 0 then (some (bt911.2.2 == 70)) else (some false)) else (some false)) else (some false)) else (some false)) else (some false))) = some r := H
 have A2 := Aside0.mk A20
 clear A20
 replace H := Option.bind_eq_some_iff.mp H
 obtain ⟨⟨t911, t914, t915⟩, A30, H⟩ := H
 replace H : (if t908 = 0 then (if t907 = 5 then (if (t904.length : Int) = 5 then (if t910 = 0 then (if t909 = 0 then (some (t915 == 70)) else (some false)) else (some false)) else (some false)) else (some false)) else (some false)) = some r := H
 have A3 := Aside0.mk A30
 clear A30
 by_cases c4 : t908 = 0
 rotate_left
 ·rw [if_neg c4] at H
  exact absurd (Option.some.inj H) (by rw [HRT.out]; decide)
 rw [if_pos c4] at H
 have c4b0 : (t908 == 0) = true := beq_iff_eq.mpr c4
 have c4b1 : (t908 != 0) = false := bne_eq_false_iff_eq.mpr c4
 clear c4
 by_cases c5 : t907 = 5
 rotate_left
 ·rw [if_neg c5] at H
  exact absurd (Option.some.inj H) (by rw [HRT.out]; decide)
 rw [if_pos c5] at H
 have c5b0 : (t907 == 5) = true := beq_iff_eq.mpr c5
 have c5b1 : (t907 != 5) = false := bne_eq_false_iff_eq.mpr c5
 clear c5
 by_cases c6 : (t904.length : Int) = 5
 rotate_left
 ·rw [if_neg c6] at H
  exact absurd (Option.some.inj H) (by rw [HRT.out]; decide)
 rw [if_pos c6] at H
 have c6b0 : ((t904.length : Int) == 5) = true := beq_iff_eq.mpr c6
 have c6b1 : ((t904.length : Int) != 5) = false := bne_eq_false_iff_eq.mpr c6
 clear c6
 by_cases c7 : t910 = 0
 rotate_left
 ·rw [if_neg c7] at H
  exact absurd (Option.some.inj H) (by rw [HRT.out]; decide)
 rw [if_pos c7] at H
 have c7b0 : (t910 == 0) = true := beq_iff_eq.mpr c7
 have c7b1 : (t910 != 0) = false := bne_eq_false_iff_eq.mpr c7
 clear c7
 by_cases c8 : t909 = 0
 rotate_left
 ·rw [if_neg c8] at H
  exact absurd (Option.some.inj H) (by rw [HRT.out]; decide)
 rw [if_pos c8] at H
 have c8b0 : (t909 == 0) = true := beq_iff_eq.mpr c8
 have c8b1 : (t909 != 0) = false := bne_eq_false_iff_eq.mpr c8
 clear c8
 obtain rfl := Option.some.inj H
 go_enter Try.func75, Try.ntmps75
 go_wp2_with (first | ((with_reducible refine gate_dst (N := 15) rfl ?_); (try (refine gate_guard (by rfl) ?_; dsimp only)); refine Kd.R_lit k74 _ 74 ?hg (N := 15) ?hd (xs := ([(⟨0, 1, 3, 0⟩ : S74), (⟨0, 2, 2, 0⟩ : S74), (⟨1, 3, 2, 0⟩ : S74), (⟨2, 3, 3, 0⟩ : S74), (⟨1, 2, 5, 0⟩ : S74)] : List (S74))) (inner := [.int .i64 0, .int .i64 1, .int .i64 3, .int .i64 0, .int .i64 0, .int .i64 2, .int .i64 2, .int .i64 0, .int .i64 1, .int .i64 3, .int .i64 2, .int .i64 0, .int .i64 2, .int .i64 3, .int .i64 3, .int .i64 0, .int .i64 1, .int .i64 2, .int .i64 5, .int .i64 0]) (ok := fun _ => True) (okp := fun _ => True) ?hr ?hp (fun _ hk => hk) trivial (Below.refl _ _) (Nat.le_refl _) (by simp) ?_; (case hd => rfl); (case hg => rfl); (case hr => first | (go_simp; done) | (go_simp; rfl)); (case hp => exact (Reps.c4 (show Kd.M k74 _ _ _ (⟨0, 1, 3, 0⟩ : S74) [.int .i64 0, .int .i64 1, .int .i64 3, .int .i64 0] from (k74_mkM _ _ _ (⟨0, 1, 3, 0⟩ : S74) )) (Reps.c4 (show Kd.M k74 _ _ _ (⟨0, 2, 2, 0⟩ : S74) [.int .i64 0, .int .i64 2, .int .i64 2, .int .i64 0] from (k74_mkM _ _ _ (⟨0, 2, 2, 0⟩ : S74) )) (Reps.c4 (show Kd.M k74 _ _ _ (⟨1, 3, 2, 0⟩ : S74) [.int .i64 1, .int .i64 3, .int .i64 2, .int .i64 0] from (k74_mkM _ _ _ (⟨1, 3, 2, 0⟩ : S74) )) (Reps.c4 (show Kd.M k74 _ _ _ (⟨2, 3, 3, 0⟩ : S74) [.int .i64 2, .int .i64 3, .int .i64 3, .int .i64 0] from (k74_mkM _ _ _ (⟨2, 3, 3, 0⟩ : S74) )) (Reps.c4 (show Kd.M k74 _ _ _ (⟨1, 2, 5, 0⟩ : S74) [.int .i64 1, .int .i64 2, .int .i64 5, .int .i64 0] from (k74_mkM _ _ _ (⟨1, 2, 5, 0⟩ : S74) )) (Reps.none _ _))))))); intro v901 w9 ho10 hb hg_ hnew_; clear hg_ hnew_; (first | rw [← Ny900.out] at ho10 | (simp only [Int.reduceToNat] at ho10; rw [← Ny900.out] at ho10)); have n0_ := Aside0.mk (Kd.R_lower ho10 (below_size (by repeat (first | (with_reducible first | exact HB.out | apply below_alloc | apply pw_below_drewN | apply below_drew1) | exact HB.out)))); have n1_ := Aside0.mk (below_step (by repeat (first | (with_reducible first | exact HB.out | apply below_alloc | apply pw_below_drewN | apply below_drew1) | exact HB.out)) hb); clear HB; have HO902 := n0_; have HB := n1_; clear n0_ n1_; clear hb ho10; obtain ⟨Ao11, co11, eo11⟩ := Kd.R_slice HO902.out; subst eo11) | ((with_reducible refine gate_dst (N := 1) rfl ?_); (try (refine gate_guard (by rfl) ?_; dsimp only)); refine box_event ?hg (N := 1) ?hd (cs := #[.int .i64 0, .bool false, .slice none 0 0]) (t := 24) ?hr ?_; (case hd => rfl); (case hg => rfl); (case hr => first | (go_simp; done) | (go_simp; rfl)); intro gb903 hg w12 hbox hb; have n0_ := Aside0.mk (Kd.R_below (by (with_reducible repeat (first | apply Kd.R_alloc | apply Kd.R_drewN | apply Kd.R_drew)); exact HO902.out) hb); have n1_ := Aside0.mk (below_step (by repeat (first | (with_reducible first | exact HB.out | apply below_alloc | apply pw_below_drewN | apply below_drew1) | exact HB.out)) hb); have n2_ := Aside0.mk (hbox); have n3_ := Aside0.mk ((by rw [hg]; exact (below_size (by repeat (first | (with_reducible first | exact HB.out | apply below_alloc | apply pw_below_drewN | apply below_drew1) | exact HB.out))) : w.heap.size ≤ gb903)); have n4_ := Aside0.mk ((by rw [hg]; exact (below_size (by repeat (first | (with_reducible first | exact HB.out | apply below_alloc | apply pw_below_drewN | apply below_drew1) | exact HB.out))) : w.heap.size ≤ gb903)); clear HO902; clear HB; have HO902 := n0_; have HB := n1_; have BK903 := n2_; have GW903 := n3_; have GE903 := n4_; clear n0_ n1_ n2_ n3_ n4_; clear hb hbox hg; have hcz13_0 : w12.cell? ⟨gb903, 0, none⟩ = some (.int .i64 0) := (blk_cell BK903.out 0).trans rfl; have hcz13_1 : w12.cell? ⟨gb903, 1, none⟩ = some (.bool false) := (blk_cell BK903.out 1).trans rfl; have hcz13_2 : w12.cell? ⟨gb903, 2, none⟩ = some (.slice none 0 0) := (blk_cell BK903.out 2).trans rfl; have hfz13_0 := blk_frozen BK903.out 0; have hfz13_1 := blk_frozen BK903.out 1; have hfz13_2 := blk_frozen BK903.out 2) | ((with_reducible refine gate_callee (f := 76) rfl ?_); refine goesL_ (some 19) rfl rfl Try.func76 (by kernel_rfl) rfl #[.agg #[.int .i64 4, .bool false, .slice Ao11 y900.length co11], .int .i64 0, .int .i64 3] rfl (by (try simp only [List.map_toArray, List.map_cons, List.map_nil]); first | done | rfl | (simp only [List.length_drop, List.length_take]; rfl)) ?_; (with_reducible refine (maxflow_Max.calls k 4 false _ _ y900 0 3 t904 t907 t908 _ ?side1 ?side2 A1.out).mono ?_); (case side1 => refine (Kd.R_reads' (e := 74) (base := w.heap.size) (ok := fun k_ => True) (n := y900.length) (c := co11) ?_).2.2; exact (by (with_reducible repeat (first | apply Kd.R_alloc | apply Kd.R_drewN | apply Kd.R_drew)); exact (Kd.R_mono (Kd.R_far (p := ⟨gb903, 2, none⟩) (Kd.R_far (p := ⟨gb903, 1, none⟩) (Kd.R_far (p := ⟨gb903, 0, none⟩) (Kd.R_types HO902.out BK903.out (by decide)) (fun _ hk => hk.2) (.int .i64 4)) (fun _ hk => hk.2) (.bool false)) (fun _ hk => hk.2) (.slice Ao11 y900.length co11)) (fun _ h_ => h_.1)))); (case side2 => exact (Kd.R_reads' HO902.out).2.1); rintro e w14 ⟨v905, rfl, ho0, hb⟩; refine ⟨_, rfl, ?_⟩; have n0_ := Aside0.mk (Kd.R_below (by (with_reducible repeat (first | apply Kd.R_alloc | apply Kd.R_drewN | apply Kd.R_drew)); exact (Kd.R_mono (Kd.R_far (p := ⟨gb903, 2, none⟩) (Kd.R_far (p := ⟨gb903, 1, none⟩) (Kd.R_far (p := ⟨gb903, 0, none⟩) (Kd.R_types HO902.out BK903.out (by decide)) (fun _ hk => hk.2) (.int .i64 4)) (fun _ hk => hk.2) (.bool false)) (fun _ hk => hk.2) (.slice Ao11 y900.length co11)) (fun _ h_ => h_.1))) hb); have n1_ := Aside0.mk (Kd.R_lower ho0 (below_size (by repeat (first | (with_reducible first | exact HB.out | apply below_alloc | apply pw_below_drewN | apply below_drew1 | refine below_set ?_ GE903.out) | exact HB.out)))); have n2_ := Aside0.mk (blk_below (g := gb903) (o := .cells #[.int .i64 4, .bool false, .slice Ao11 y900.length co11] 24 (0, 0)) (by (with_reducible repeat (first | refine blk_drewN ?_ _ | refine blk_drew ?_ | refine blk_alloc ?_ _)); refine blk_put (cs := #[.int .i64 4, .bool false, .slice none 0 0]) ?_ 2 _ rfl; (with_reducible repeat (first | refine blk_drewN ?_ _ | refine blk_drew ?_ | refine blk_alloc ?_ _)); refine blk_put (cs := #[.int .i64 4, .bool false, .slice none 0 0]) ?_ 1 _ rfl; (with_reducible repeat (first | refine blk_drewN ?_ _ | refine blk_drew ?_ | refine blk_alloc ?_ _)); refine blk_put (cs := #[.int .i64 0, .bool false, .slice none 0 0]) ?_ 0 _ rfl; (with_reducible repeat (first | refine blk_drewN ?_ _ | refine blk_drew ?_ | refine blk_alloc ?_ _)); exact BK903.out) hb); have n3_ := Aside0.mk (below_step (by repeat (first | (with_reducible first | exact HB.out | apply below_alloc | apply pw_below_drewN | apply below_drew1 | refine below_set ?_ GE903.out) | exact HB.out)) hb); clear HO902; clear BK903; clear HB; have HO902 := n0_; have HO906 := n1_; have BK903 := n2_; have HB := n3_; clear n0_ n1_ n2_ n3_; (try clear hb); (try clear hb2); (try clear hk); (try clear hi); (try clear ho0); have hcz15_0 : w14.cell? ⟨gb903, 0, none⟩ = some (.int .i64 4) := (blk_cell BK903.out 0).trans rfl; have hcz15_1 : w14.cell? ⟨gb903, 1, none⟩ = some (.bool false) := (blk_cell BK903.out 1).trans rfl; have hcz15_2 : w14.cell? ⟨gb903, 2, none⟩ = some (.slice Ao11 y900.length co11) := (blk_cell BK903.out 2).trans rfl; have hfz15_0 := blk_frozen BK903.out 0; have hfz15_1 := blk_frozen BK903.out 1; have hfz15_2 := blk_frozen BK903.out 2) | ((with_reducible refine gate_callee (f := 73) rfl ?_); refine goesL_ (some 25) rfl rfl Try.func73 (by kernel_rfl) rfl #[.agg #[.int .i64 4, .bool false, .slice Ao11 y900.length co11], .int .i64 3, .int .i64 0] rfl (by (try simp only [List.map_toArray, List.map_cons, List.map_nil]); first | done | rfl | (simp only [List.length_drop, List.length_take]; rfl)) ?_; (with_reducible refine (maxflow_Most.calls k 4 false _ _ y900 3 0 t909 t910 _ ?side1 ?side2 A2.out).mono ?_); (case side1 => repeat (first | exact (Kd.R_reads' HO902.out).2.2 | (with_reducible refine Kd.C_alloc ?_ _) | (with_reducible refine Kd.C_drewN ?_ _) | (with_reducible refine Kd.C_drew ?_))); (case side2 => exact (Kd.R_reads' HO902.out).2.1); rintro e w16 ⟨rfl, hb⟩; refine ⟨_, rfl, ?_⟩; have n0_ := Aside0.mk (Kd.R_below (by (with_reducible repeat (first | apply Kd.R_alloc | apply Kd.R_drewN | apply Kd.R_drew)); exact HO902.out) hb); have n1_ := Aside0.mk (Kd.R_below (by (with_reducible repeat (first | apply Kd.R_alloc | apply Kd.R_drewN | apply Kd.R_drew)); exact HO906.out) hb); have n2_ := Aside0.mk (blk_below (g := gb903) (o := .cells #[.int .i64 4, .bool false, .slice Ao11 y900.length co11] 24 (0, 0)) (by (with_reducible repeat (first | refine blk_drewN ?_ _ | refine blk_drew ?_ | refine blk_alloc ?_ _)); exact BK903.out) hb); have n3_ := Aside0.mk (below_step (by repeat (first | (with_reducible first | exact HB.out | apply below_alloc | apply pw_below_drewN | apply below_drew1 | refine below_set ?_ GE903.out) | exact HB.out)) hb); clear HO902; clear HO906; clear BK903; clear HB; have HO902 := n0_; have HO906 := n1_; have BK903 := n2_; have HB := n3_; clear n0_ n1_ n2_ n3_; (try clear hb); (try clear hb2); (try clear hk); (try clear hi); have hcz17_0 : w16.cell? ⟨gb903, 0, none⟩ = some (.int .i64 4) := (blk_cell BK903.out 0).trans rfl; have hcz17_1 : w16.cell? ⟨gb903, 1, none⟩ = some (.bool false) := (blk_cell BK903.out 1).trans rfl; have hcz17_2 : w16.cell? ⟨gb903, 2, none⟩ = some (.slice Ao11 y900.length co11) := (blk_cell BK903.out 2).trans rfl; have hfz17_0 := blk_frozen BK903.out 0; have hfz17_1 := blk_frozen BK903.out 1; have hfz17_2 := blk_frozen BK903.out 2) | ((with_reducible refine gate_callee (f := 76) rfl ?_); refine goesL_ (some 30) rfl rfl Try.func76 (by kernel_rfl) rfl #[.agg #[.int .i64 4, .bool false, .slice Ao11 y900.length co11], .int .i64 1, .int .i64 1] rfl (by (try simp only [List.map_toArray, List.map_cons, List.map_nil]); first | done | rfl | (simp only [List.length_drop, List.length_take]; rfl)) ?_; (with_reducible refine (maxflow_Max.calls k 4 false _ _ y900 1 1 t911 t914 t915 _ ?side1 ?side2 A3.out).mono ?_); (case side1 => repeat (first | exact (Kd.R_reads' HO902.out).2.2 | (with_reducible refine Kd.C_alloc ?_ _) | (with_reducible refine Kd.C_drewN ?_ _) | (with_reducible refine Kd.C_drew ?_))); (case side2 => exact (Kd.R_reads' HO902.out).2.1); rintro e w18 ⟨v912, rfl, ho0, hb⟩; refine ⟨_, rfl, ?_⟩; have n0_ := Aside0.mk (Kd.R_below (by (with_reducible repeat (first | apply Kd.R_alloc | apply Kd.R_drewN | apply Kd.R_drew)); exact HO902.out) hb); have n1_ := Aside0.mk (Kd.R_elder' (by (with_reducible repeat (first | apply Kd.R_alloc | apply Kd.R_drewN | apply Kd.R_drew)); exact HO906.out) (Kd.R_base ho0) hb); have n2_ := Aside0.mk (Kd.R_lower (Kd.R_new' ho0 (Kd.R_lt (by (with_reducible repeat (first | apply Kd.R_alloc | apply Kd.R_drewN | apply Kd.R_drew)); exact HO906.out))) (below_size (by repeat (first | (with_reducible first | exact HB.out | apply below_alloc | apply pw_below_drewN | apply below_drew1 | refine below_set ?_ GE903.out) | exact HB.out)))); have n3_ := Aside0.mk (blk_below (g := gb903) (o := .cells #[.int .i64 4, .bool false, .slice Ao11 y900.length co11] 24 (0, 0)) (by (with_reducible repeat (first | refine blk_drewN ?_ _ | refine blk_drew ?_ | refine blk_alloc ?_ _)); exact BK903.out) hb); have n4_ := Aside0.mk (below_step (by repeat (first | (with_reducible first | exact HB.out | apply below_alloc | apply pw_below_drewN | apply below_drew1 | refine below_set ?_ GE903.out) | exact HB.out)) hb); clear HO902; clear HO906; clear BK903; clear HB; have HO902 := n0_; have HO906 := n1_; have HO913 := n2_; have BK903 := n3_; have HB := n4_; clear n0_ n1_ n2_ n3_ n4_; (try clear hb); (try clear hb2); (try clear hk); (try clear hi); (try clear ho0); obtain ⟨Ao19, co19, eo19⟩ := Kd.R_slice HO906.out; subst eo19))
 go_ret
 exact ⟨by first | rfl | (simp [errW_none, errW_some] <;> rfl) | (simp [*, errW_none, errW_some] <;> rfl), by repeat (first | (with_reducible first | exact HB.out | apply below_alloc | apply pw_below_drewN | apply below_drew1 | refine below_set ?_ GE903.out) | exact HB.out)⟩
end Go.Proofs.Ytkcpanpdipmmmaa.P
namespace Go.Proofs.Ytkcpanpdipmmmaa.P
open Go.RowKit Go.Proofs.YtkcpanpdipmmmaaW.PrintWords Go.Proofs.YtkcpanpdipmmmaaW.PrintLast Go.Proofs.YtkcpanpdipmmmaaW.PrintMore
attribute [local go_sem] max2_int min2_int max_two min_two max_three min_three max_four min_four
def ebbtidelaw09_MaxflowTops.f (k : Nat) (a0_0 : Int) (a0_1 : Bool) (l0_2 : List (S74)) (a1 : Int) (a2 : Int) (l3 : List Int) : Option (Bool) := (ebbtidelaw09_awake.f k).bind fun t935 => (if t935 = true then ((ebbtideref07_Check.f k a0_0 a0_1 l0_2 a1 a2 l3).bind fun bt936 => ((maxflow_Most.f k a0_0 a0_1 l0_2 a1 a2).bind fun bt938 => (if bt936.2 = 0 then (if bt938.2 = 0 then (if bt936.1 ≤ bt938.1 then (some (decide (bt938.1 ≥ 0))) else (some false)) else (some false)) else (some true)))) else (some false))
set_option maxHeartbeats 8000000 in
set_option maxRecDepth 100000 in
theorem ebbtidelaw09_MaxflowTops.calls (k : Nat) (a0_0 : Int) (a0_1 : Bool) (A0_2 : Option Addr) (c0_2 : Nat) (l0_2 : List (S74)) (a1 : Int) (a2 : Int) (A3 : Option Addr) (c3 : Nat) (l3 : List Int) (r : Bool) (w : World) (hr0_2 : Kd.C k74 w A0_2 l0_2.length l0_2) (hc0_2 : l0_2.length ≤ c0_2) (hr3 : Kd.C (Kd.int .i64) w A3 l3.length l3) (hc3 : l3.length ≤ c3) (h : ebbtidelaw09_MaxflowTops.f k a0_0 a0_1 l0_2 a1 a2 l3 = some r) (hrT_ : r = true := by first | rfl | exact Aside0.out (by assumption)) :
  Calls Try.prog 21 #[.agg #[.int .i64 a0_0, .bool a0_1, .slice A0_2 l0_2.length c0_2], .int .i64 a1, .int .i64 a2, .slice A3 l3.length c3] w fun e w' => e = .returned (.bool r) ∧ Below w.heap.size w w' := by
 have HRT := Aside0.mk hrT_
 clear hrT_
 have hu24 := Try.underlying24
 have HR0_2 := Aside0.mk hr0_2
 have HC0_2 := Aside0.mk hc0_2
 clear hr0_2 hc0_2
 have HR3 := Aside0.mk hr3
 have HC3 := Aside0.mk hc3
 clear hr3 hc3
 have HB := Aside0.mk (Below.refl w.heap.size w)
 have H : ((ebbtidelaw09_awake.f k).bind fun t935 => (if t935 = true then ((ebbtideref07_Check.f k a0_0 a0_1 l0_2 a1 a2 l3).bind fun bt936 => ((maxflow_Most.f k a0_0 a0_1 l0_2 a1 a2).bind fun bt938 => (if bt936.2 = 0 then (if bt938.2 = 0 then (if bt936.1 ≤ bt938.1 then (some (decide (bt938.1 ≥ 0))) else (some false)) else (some false)) else (some true)))) else (some false))) = some r := h
 clear h
 replace H := Option.bind_eq_some_iff.mp H
 obtain ⟨t935, A50, H⟩ := H
 replace H : (if t935 = true then ((ebbtideref07_Check.f k a0_0 a0_1 l0_2 a1 a2 l3).bind fun bt936 => ((maxflow_Most.f k a0_0 a0_1 l0_2 a1 a2).bind fun bt938 => (if bt936.2 = 0 then (if bt938.2 = 0 then (if bt936.1 ≤ bt938.1 then (some (decide (bt938.1 ≥ 0))) else (some false)) else (some false)) else (some true)))) else (some false)) = some r := H
 have A5 := Aside0.mk A50
 clear A50
 by_cases c6 : t935 = true
 rotate_left
 ·replace c6 := Bool.eq_false_iff.mpr c6
  subst c6
  have H1 : (some false) = some r := by rw [if_neg (show ¬ (false = true) by decide)] at H; exact H
  exact absurd (Option.some.inj H1) (by rw [HRT.out]; decide)
 subst c6
 have H1 : ((ebbtideref07_Check.f k a0_0 a0_1 l0_2 a1 a2 l3).bind fun bt936 => ((maxflow_Most.f k a0_0 a0_1 l0_2 a1 a2).bind fun bt938 => (if bt936.2 = 0 then (if bt938.2 = 0 then (if bt936.1 ≤ bt938.1 then (some (decide (bt938.1 ≥ 0))) else (some false)) else (some false)) else (some true)))) = some r := by first | (rw [if_pos rfl] at H; exact H) | (rw [if_pos trivial] at H; exact H)
 clear H
 have H := H1
 clear H1
 replace H := Option.bind_eq_some_iff.mp H
 obtain ⟨⟨t936, t937⟩, A70, H⟩ := H
 replace H : ((maxflow_Most.f k a0_0 a0_1 l0_2 a1 a2).bind fun bt938 => (if t937 = 0 then (if bt938.2 = 0 then (if t936 ≤ bt938.1 then (some (decide (bt938.1 ≥ 0))) else (some false)) else (some false)) else (some true))) = some r := H
 have A7 := Aside0.mk A70
 clear A70
 replace H := Option.bind_eq_some_iff.mp H
 obtain ⟨⟨t938, t939⟩, A80, H⟩ := H
 replace H : (if t937 = 0 then (if t939 = 0 then (if t936 ≤ t938 then (some (decide (t938 ≥ 0))) else (some false)) else (some false)) else (some true)) = some r := H
 have A8 := Aside0.mk A80
 clear A80
 by_cases c9 : t937 = 0
 rotate_left
 ·rw [if_neg c9] at H
  have c9b0 : (t937 == 0) = false := beq_eq_false_iff_ne.mpr c9
  have c9b1 : (t937 != 0) = true := bne_iff_ne.mpr c9
  obtain rfl := Option.some.inj H
  go_enter Try.func21, Try.ntmps21
  go_wp2_with (first | ((with_reducible refine gate_dst (N := 4) rfl ?_); refine box_event ?hg (N := 4) ?hd (cs := #[.int .i64 a0_0, .bool a0_1, .slice A0_2 l0_2.length c0_2]) (t := 24) ?hr ?_; (case hd => rfl); (case hg => rfl); (case hr => first | (go_simp; done) | (go_simp; rfl)); intro gb934 hg w30 hbox hb; have n0_ := Aside0.mk (below_step (by repeat (first | (with_reducible first | exact HB.out | apply below_alloc | apply pw_below_drewN | apply below_drew1) | exact HB.out)) hb); have n1_ := Aside0.mk (hbox); have n2_ := Aside0.mk ((by rw [hg]; exact (below_size (by repeat (first | (with_reducible first | exact HB.out | apply below_alloc | apply pw_below_drewN | apply below_drew1) | exact HB.out))) : w.heap.size ≤ gb934)); have n3_ := Aside0.mk ((by rw [hg]; exact (below_size (by repeat (first | (with_reducible first | exact HB.out | apply below_alloc | apply pw_below_drewN | apply below_drew1) | exact HB.out))) : w.heap.size ≤ gb934)); clear HB; have HB := n0_; have BK934 := n1_; have GW934 := n2_; have GE934 := n3_; clear n0_ n1_ n2_ n3_; clear hb hbox hg) | ((with_reducible refine gate_callee (f := 75) rfl ?_); refine goesL_ (some 14) rfl rfl Try.func75 (by kernel_rfl) rfl #[] rfl (by (try simp only [List.map_toArray, List.map_cons, List.map_nil]); first | done | rfl | (simp only [List.length_drop, List.length_take]; rfl)) ?_; (with_reducible refine (ebbtidelaw09_awake.calls k  true _ A5.out).mono ?_); rintro e w31 ⟨rfl, hb⟩; refine ⟨_, rfl, ?_⟩; have n0_ := Aside0.mk (blk_below (g := gb934) (o := .cells #[.int .i64 a0_0, .bool a0_1, .slice A0_2 l0_2.length c0_2] 24 (0, 0)) (by (with_reducible repeat (first | refine blk_drewN ?_ _ | refine blk_drew ?_ | refine blk_alloc ?_ _)); exact BK934.out) hb); have n1_ := Aside0.mk (below_step (by repeat (first | (with_reducible first | exact HB.out | apply below_alloc | apply pw_below_drewN | apply below_drew1 | refine below_set ?_ GE934.out) | exact HB.out)) hb); clear BK934; clear HB; have BK934 := n0_; have HB := n1_; clear n0_ n1_; (try clear hb); (try clear hb2); (try clear hk); (try clear hi); have hcz32_0 : w31.cell? ⟨gb934, 0, none⟩ = some (.int .i64 a0_0) := (blk_cell BK934.out 0).trans rfl; have hcz32_1 : w31.cell? ⟨gb934, 1, none⟩ = some (.bool a0_1) := (blk_cell BK934.out 1).trans rfl; have hcz32_2 : w31.cell? ⟨gb934, 2, none⟩ = some (.slice A0_2 l0_2.length c0_2) := (blk_cell BK934.out 2).trans rfl; have hfz32_0 := blk_frozen BK934.out 0; have hfz32_1 := blk_frozen BK934.out 1; have hfz32_2 := blk_frozen BK934.out 2) | ((with_reducible refine gate_callee (f := 60) rfl ?_); refine goesL_ (some 22) rfl rfl Try.func60 (by kernel_rfl) rfl #[.agg #[.int .i64 a0_0, .bool a0_1, .slice A0_2 l0_2.length c0_2], .int .i64 a1, .int .i64 a2, .slice A3 l3.length c3] rfl (by (try simp only [List.map_toArray, List.map_cons, List.map_nil]); first | done | rfl | (simp only [List.length_drop, List.length_take]; rfl)) ?_; (with_reducible refine (ebbtideref07_Check.calls k a0_0 a0_1 _ _ l0_2 a1 a2 _ _ l3 t936 t937 _ ?side1 ?side2 ?side3 ?side4 A7.out).mono ?_); (case side1 => repeat (first | exact (Kd.C_below HR0_2.out HB.out) | (with_reducible refine Kd.C_alloc ?_ _) | (with_reducible refine Kd.C_drewN ?_ _) | (with_reducible refine Kd.C_drew ?_))); (case side2 => exact HC0_2.out); (case side3 => repeat (first | exact (Kd.C_below HR3.out HB.out) | (with_reducible refine Kd.C_alloc ?_ _) | (with_reducible refine Kd.C_drewN ?_ _) | (with_reducible refine Kd.C_drew ?_))); (case side4 => exact HC3.out); rintro e w33 ⟨rfl, hb⟩; refine ⟨_, rfl, ?_⟩; have n0_ := Aside0.mk (blk_below (g := gb934) (o := .cells #[.int .i64 a0_0, .bool a0_1, .slice A0_2 l0_2.length c0_2] 24 (0, 0)) (by (with_reducible repeat (first | refine blk_drewN ?_ _ | refine blk_drew ?_ | refine blk_alloc ?_ _)); exact BK934.out) hb); have n1_ := Aside0.mk (below_step (by repeat (first | (with_reducible first | exact HB.out | apply below_alloc | apply pw_below_drewN | apply below_drew1 | refine below_set ?_ GE934.out) | exact HB.out)) hb); clear BK934; clear HB; have BK934 := n0_; have HB := n1_; clear n0_ n1_; (try clear hb); (try clear hb2); (try clear hk); (try clear hi); have hcz34_0 : w33.cell? ⟨gb934, 0, none⟩ = some (.int .i64 a0_0) := (blk_cell BK934.out 0).trans rfl; have hcz34_1 : w33.cell? ⟨gb934, 1, none⟩ = some (.bool a0_1) := (blk_cell BK934.out 1).trans rfl; have hcz34_2 : w33.cell? ⟨gb934, 2, none⟩ = some (.slice A0_2 l0_2.length c0_2) := (blk_cell BK934.out 2).trans rfl; have hfz34_0 := blk_frozen BK934.out 0; have hfz34_1 := blk_frozen BK934.out 1; have hfz34_2 := blk_frozen BK934.out 2) | ((with_reducible refine gate_callee (f := 73) rfl ?_); refine goesL_ (some 29) rfl rfl Try.func73 (by kernel_rfl) rfl #[.agg #[.int .i64 a0_0, .bool a0_1, .slice A0_2 l0_2.length c0_2], .int .i64 a1, .int .i64 a2] rfl (by (try simp only [List.map_toArray, List.map_cons, List.map_nil]); first | done | rfl | (simp only [List.length_drop, List.length_take]; rfl)) ?_; (with_reducible refine (maxflow_Most.calls k a0_0 a0_1 _ _ l0_2 a1 a2 t938 t939 _ ?side1 ?side2 A8.out).mono ?_); (case side1 => repeat (first | exact (Kd.C_below HR0_2.out HB.out) | (with_reducible refine Kd.C_alloc ?_ _) | (with_reducible refine Kd.C_drewN ?_ _) | (with_reducible refine Kd.C_drew ?_))); (case side2 => exact HC0_2.out); rintro e w35 ⟨rfl, hb⟩; refine ⟨_, rfl, ?_⟩; have n0_ := Aside0.mk (blk_below (g := gb934) (o := .cells #[.int .i64 a0_0, .bool a0_1, .slice A0_2 l0_2.length c0_2] 24 (0, 0)) (by (with_reducible repeat (first | refine blk_drewN ?_ _ | refine blk_drew ?_ | refine blk_alloc ?_ _)); exact BK934.out) hb); have n1_ := Aside0.mk (below_step (by repeat (first | (with_reducible first | exact HB.out | apply below_alloc | apply pw_below_drewN | apply below_drew1 | refine below_set ?_ GE934.out) | exact HB.out)) hb); clear BK934; clear HB; have BK934 := n0_; have HB := n1_; clear n0_ n1_; (try clear hb); (try clear hb2); (try clear hk); (try clear hi)))
  go_ret
  exact ⟨by first | rfl | (simp [errW_none, errW_some] <;> rfl) | (simp [*, errW_none, errW_some] <;> rfl), by repeat (first | (with_reducible first | exact HB.out | apply below_alloc | apply pw_below_drewN | apply below_drew1 | refine below_set ?_ GE934.out) | exact HB.out)⟩
 rw [if_pos c9] at H
 have c9b0 : (t937 == 0) = true := beq_iff_eq.mpr c9
 have c9b1 : (t937 != 0) = false := bne_eq_false_iff_eq.mpr c9
 clear c9
 by_cases c10 : t939 = 0
 rotate_left
 ·rw [if_neg c10] at H
  exact absurd (Option.some.inj H) (by rw [HRT.out]; decide)
 rw [if_pos c10] at H
 have c10b0 : (t939 == 0) = true := beq_iff_eq.mpr c10
 have c10b1 : (t939 != 0) = false := bne_eq_false_iff_eq.mpr c10
 clear c10
 by_cases c11 : t936 ≤ t938
 rotate_left
 ·rw [if_neg c11] at H
  exact absurd (Option.some.inj H) (by rw [HRT.out]; decide)
 rw [if_pos c11] at H
 have c11b0 : decide (t936 ≤ t938) = true := decide_eq_true c11
 clear c11
 obtain rfl := Option.some.inj H
 go_enter Try.func21, Try.ntmps21
 go_wp2_with (first | ((with_reducible refine gate_dst (N := 4) rfl ?_); refine box_event ?hg (N := 4) ?hd (cs := #[.int .i64 a0_0, .bool a0_1, .slice A0_2 l0_2.length c0_2]) (t := 24) ?hr ?_; (case hd => rfl); (case hg => rfl); (case hr => first | (go_simp; done) | (go_simp; rfl)); intro gb934 hg w12 hbox hb; have n0_ := Aside0.mk (below_step (by repeat (first | (with_reducible first | exact HB.out | apply below_alloc | apply pw_below_drewN | apply below_drew1) | exact HB.out)) hb); have n1_ := Aside0.mk (hbox); have n2_ := Aside0.mk ((by rw [hg]; exact (below_size (by repeat (first | (with_reducible first | exact HB.out | apply below_alloc | apply pw_below_drewN | apply below_drew1) | exact HB.out))) : w.heap.size ≤ gb934)); have n3_ := Aside0.mk ((by rw [hg]; exact (below_size (by repeat (first | (with_reducible first | exact HB.out | apply below_alloc | apply pw_below_drewN | apply below_drew1) | exact HB.out))) : w.heap.size ≤ gb934)); clear HB; have HB := n0_; have BK934 := n1_; have GW934 := n2_; have GE934 := n3_; clear n0_ n1_ n2_ n3_; clear hb hbox hg) | ((with_reducible refine gate_callee (f := 75) rfl ?_); refine goesL_ (some 14) rfl rfl Try.func75 (by kernel_rfl) rfl #[] rfl (by (try simp only [List.map_toArray, List.map_cons, List.map_nil]); first | done | rfl | (simp only [List.length_drop, List.length_take]; rfl)) ?_; (with_reducible refine (ebbtidelaw09_awake.calls k  true _ A5.out).mono ?_); rintro e w13 ⟨rfl, hb⟩; refine ⟨_, rfl, ?_⟩; have n0_ := Aside0.mk (blk_below (g := gb934) (o := .cells #[.int .i64 a0_0, .bool a0_1, .slice A0_2 l0_2.length c0_2] 24 (0, 0)) (by (with_reducible repeat (first | refine blk_drewN ?_ _ | refine blk_drew ?_ | refine blk_alloc ?_ _)); exact BK934.out) hb); have n1_ := Aside0.mk (below_step (by repeat (first | (with_reducible first | exact HB.out | apply below_alloc | apply pw_below_drewN | apply below_drew1 | refine below_set ?_ GE934.out) | exact HB.out)) hb); clear BK934; clear HB; have BK934 := n0_; have HB := n1_; clear n0_ n1_; (try clear hb); (try clear hb2); (try clear hk); (try clear hi); have hcz14_0 : w13.cell? ⟨gb934, 0, none⟩ = some (.int .i64 a0_0) := (blk_cell BK934.out 0).trans rfl; have hcz14_1 : w13.cell? ⟨gb934, 1, none⟩ = some (.bool a0_1) := (blk_cell BK934.out 1).trans rfl; have hcz14_2 : w13.cell? ⟨gb934, 2, none⟩ = some (.slice A0_2 l0_2.length c0_2) := (blk_cell BK934.out 2).trans rfl; have hfz14_0 := blk_frozen BK934.out 0; have hfz14_1 := blk_frozen BK934.out 1; have hfz14_2 := blk_frozen BK934.out 2) | ((with_reducible refine gate_callee (f := 60) rfl ?_); refine goesL_ (some 22) rfl rfl Try.func60 (by kernel_rfl) rfl #[.agg #[.int .i64 a0_0, .bool a0_1, .slice A0_2 l0_2.length c0_2], .int .i64 a1, .int .i64 a2, .slice A3 l3.length c3] rfl (by (try simp only [List.map_toArray, List.map_cons, List.map_nil]); first | done | rfl | (simp only [List.length_drop, List.length_take]; rfl)) ?_; (with_reducible refine (ebbtideref07_Check.calls k a0_0 a0_1 _ _ l0_2 a1 a2 _ _ l3 t936 t937 _ ?side1 ?side2 ?side3 ?side4 A7.out).mono ?_); (case side1 => repeat (first | exact (Kd.C_below HR0_2.out HB.out) | (with_reducible refine Kd.C_alloc ?_ _) | (with_reducible refine Kd.C_drewN ?_ _) | (with_reducible refine Kd.C_drew ?_))); (case side2 => exact HC0_2.out); (case side3 => repeat (first | exact (Kd.C_below HR3.out HB.out) | (with_reducible refine Kd.C_alloc ?_ _) | (with_reducible refine Kd.C_drewN ?_ _) | (with_reducible refine Kd.C_drew ?_))); (case side4 => exact HC3.out); rintro e w15 ⟨rfl, hb⟩; refine ⟨_, rfl, ?_⟩; have n0_ := Aside0.mk (blk_below (g := gb934) (o := .cells #[.int .i64 a0_0, .bool a0_1, .slice A0_2 l0_2.length c0_2] 24 (0, 0)) (by (with_reducible repeat (first | refine blk_drewN ?_ _ | refine blk_drew ?_ | refine blk_alloc ?_ _)); exact BK934.out) hb); have n1_ := Aside0.mk (below_step (by repeat (first | (with_reducible first | exact HB.out | apply below_alloc | apply pw_below_drewN | apply below_drew1 | refine below_set ?_ GE934.out) | exact HB.out)) hb); clear BK934; clear HB; have BK934 := n0_; have HB := n1_; clear n0_ n1_; (try clear hb); (try clear hb2); (try clear hk); (try clear hi); have hcz16_0 : w15.cell? ⟨gb934, 0, none⟩ = some (.int .i64 a0_0) := (blk_cell BK934.out 0).trans rfl; have hcz16_1 : w15.cell? ⟨gb934, 1, none⟩ = some (.bool a0_1) := (blk_cell BK934.out 1).trans rfl; have hcz16_2 : w15.cell? ⟨gb934, 2, none⟩ = some (.slice A0_2 l0_2.length c0_2) := (blk_cell BK934.out 2).trans rfl; have hfz16_0 := blk_frozen BK934.out 0; have hfz16_1 := blk_frozen BK934.out 1; have hfz16_2 := blk_frozen BK934.out 2) | ((with_reducible refine gate_callee (f := 73) rfl ?_); refine goesL_ (some 29) rfl rfl Try.func73 (by kernel_rfl) rfl #[.agg #[.int .i64 a0_0, .bool a0_1, .slice A0_2 l0_2.length c0_2], .int .i64 a1, .int .i64 a2] rfl (by (try simp only [List.map_toArray, List.map_cons, List.map_nil]); first | done | rfl | (simp only [List.length_drop, List.length_take]; rfl)) ?_; (with_reducible refine (maxflow_Most.calls k a0_0 a0_1 _ _ l0_2 a1 a2 t938 t939 _ ?side1 ?side2 A8.out).mono ?_); (case side1 => repeat (first | exact (Kd.C_below HR0_2.out HB.out) | (with_reducible refine Kd.C_alloc ?_ _) | (with_reducible refine Kd.C_drewN ?_ _) | (with_reducible refine Kd.C_drew ?_))); (case side2 => exact HC0_2.out); rintro e w17 ⟨rfl, hb⟩; refine ⟨_, rfl, ?_⟩; have n0_ := Aside0.mk (blk_below (g := gb934) (o := .cells #[.int .i64 a0_0, .bool a0_1, .slice A0_2 l0_2.length c0_2] 24 (0, 0)) (by (with_reducible repeat (first | refine blk_drewN ?_ _ | refine blk_drew ?_ | refine blk_alloc ?_ _)); exact BK934.out) hb); have n1_ := Aside0.mk (below_step (by repeat (first | (with_reducible first | exact HB.out | apply below_alloc | apply pw_below_drewN | apply below_drew1 | refine below_set ?_ GE934.out) | exact HB.out)) hb); clear BK934; clear HB; have BK934 := n0_; have HB := n1_; clear n0_ n1_; (try clear hb); (try clear hb2); (try clear hk); (try clear hi)))
 go_ret
 exact ⟨by first | rfl | (simp [errW_none, errW_some] <;> rfl) | (simp [*, errW_none, errW_some] <;> rfl), by repeat (first | (with_reducible first | exact HB.out | apply below_alloc | apply pw_below_drewN | apply below_drew1 | refine below_set ?_ GE934.out) | exact HB.out)⟩
end Go.Proofs.Ytkcpanpdipmmmaa.P
namespace Go.Proofs.Ytkcpanpdipmmmaa.Opn
open Go.RowKit Go.ChangeShapes Go.WideShapes Go.Deep Go.Proofs.YtkcpanpdipmmmaaW.PrintWords
def Opens (P : Program) (t : TypeId) {α : Type} (d : Kd α) (ok : α → Prop) : Prop :=
 ∀ (H : Type) (enc : TypeId × Value → H) (w : World) (base : Nat) (spare : Nat → Bool) (held : Bool) (fuel : Nat) (cs : List Value) (x : DataW H × List MemPlace),
  DataW.trod enc P w base spare held fuel t cs = some x → ∃ a : α, d.K w a cs ∧ ok a
theorem opens_int {P : Program} {t : TypeId} {k : IntKind} (ht : P.underlying t = some (.int k)) : Opens P t (Kd.int k) (fun n => (Lit.int k n).wf = true) := by
 intro H enc w base spare held fuel cs x h
 obtain ⟨n, rfl, _, hw⟩ := DataW.trod_int ht h
 exact ⟨n, rfl, hw⟩
theorem opens_bool {P : Program} {t : TypeId} (ht : P.underlying t = some .bool) : Opens P t Kd.bool (fun _ => True) := by
 intro H enc w base spare held fuel cs x h
 obtain ⟨b, rfl, _⟩ := DataW.trod_bool ht h
 exact ⟨b, rfl, trivial⟩
theorem opens_slice {P : Program} {t e : TypeId} {α : Type} {d : Kd α} {ok : α → Prop} (ht : P.underlying t = some (.slice e)) (hc : P.cellsOf e = d.sz) (h : Opens P e d ok) :
  Opens P t (Kd.slice e d) (fun l => l.length ≤ 9223372036854775807 ∧ ∀ x ∈ l, ok x) := by
 intro H enc w base spare held fuel cs x hx
 rcases open_slice ht hx with ⟨rfl, _⟩ | ⟨a, len, cap, m, n, D, Pl, rfl, hb, hl, hm, hmm, _, hi⟩
 ·exact ⟨[], ⟨none, 0, rfl, Nat.le_refl _, rfl, by simp, fun h => absurd h (by simp)⟩, by simp, by simp⟩
 ·have hlm : len ≤ m := by rw [hmm]; split <;> omega
  have hel : ∀ i : Nat, i < len → ∃ a' : α, ok a' ∧ ∃ c, c.length = d.sz ∧ d.K w a' c ∧ ∀ j u, c[j]? = some u → w.cell? (a.add (i * d.sz + j)) = some u := by
   intro i hil
   obtain ⟨cs', hcs, htr⟩ := hi i (by omega)
   obtain ⟨a', hK, hok⟩ := h H enc w base spare held n cs' _ htr
   rw [hc] at hcs
   obtain ⟨_, hcl, hat⟩ := World.cells?_some hcs
   refine ⟨a', hok, cs', hcl, hK, fun j u hu => ?_⟩
   have hj : j < d.sz := by have := (List.getElem?_eq_some_iff.1 hu).1; omega
   have := hat j hj
   rw [← Go.Deep.add_add, this, hu]
  have hrow : ∀ k : Nat, k ≤ len → ∃ xs : List α, xs.length = k ∧ (∀ x ∈ xs, ok x) ∧ ∀ j p, xs[j]? = some p → ∃ c, c.length = d.sz ∧ d.K w p c ∧ ∀ i u, c[i]? = some u → w.cell? (a.add (j * d.sz + i)) = some u := by
   intro k
   induction k with
   | zero => exact fun _ => ⟨[], rfl, by simp, by simp⟩
   | succ k ih =>
    intro hk
    obtain ⟨xs, h1, h2, h3⟩ := ih (by omega)
    obtain ⟨a', ho, c, hcl, hK, hcell⟩ := hel k (by omega)
    refine ⟨xs ++ [a'], by simp [h1], fun x hx => ?_, fun j p hj => ?_⟩
    ·rcases List.mem_append.1 hx with h | h
     ·exact h2 x h
     ·rw [List.mem_singleton.1 h]; exact ho
    ·by_cases hjk : j < xs.length
     ·rw [List.getElem?_append_left hjk] at hj
      exact h3 j p hj
     ·have hjl := (List.getElem?_eq_some_iff.1 hj).1
      simp at hjl
      have hje : j = k := by omega
      subst hje
      rw [← h1, List.getElem?_concat_length] at hj
      obtain rfl := Option.some.inj hj
      exact ⟨c, hcl, hK, hcell⟩
  obtain ⟨xs, h1, h2, h3⟩ := hrow len (Nat.le_refl _)
  have hmx : len ≤ 9223372036854775807 := by unfold maxLen at hm; omega
  subst h1
  exact ⟨xs, ⟨some a, cap, rfl, hl, rfl, hmx, fun _ => ⟨a, rfl, h3⟩⟩, hmx, h2⟩
theorem opens_iso {P : Program} {t : TypeId} {α β : Type} {d : Kd α} {ok : α → Prop} (h : Opens P t d ok) (f : β → α) (g : α → β) (hfg : ∀ x, f (g x) = x) : Opens P t (Kd.iso d f) (fun y => ok (f y)) := by
 intro H enc w base spare held fuel cs x hx
 obtain ⟨a, hK, hok⟩ := h H enc w base spare held fuel cs x hx
 exact ⟨g a, by show d.K w (f (g a)) cs; rw [hfg]; exact hK, by show ok (f (g a)); rw [hfg]; exact hok⟩
def OpensFs (P : Program) (fs : List Field) (off : Nat) {α : Type} (d : Kd α) (ok : α → Prop) : Prop :=
 ∀ (H : Type) (enc : TypeId × Value → H) (w : World) (base : Nat) (spare : Nat → Bool) (held : Bool) (n : Nat) (cs : List Value), cs.length = off + d.sz →
  (∀ f ∈ fs, ∃ y, DataW.trod enc P w base spare held n f.type ((cs.drop f.offset).take (P.cellsOf f.type)) = some y) → ∃ a : α, d.K w a (cs.drop off) ∧ ok a
theorem fs_one {P : Program} {f : Field} {off : Nat} {α : Type} {d : Kd α} {ok : α → Prop} (ho : f.offset = off) (hc : P.cellsOf f.type = d.sz) (h : Opens P f.type d ok) : OpensFs P [f] off d ok := by
 intro H enc w base spare held n cs hl hf
 obtain ⟨y, hy⟩ := hf f (by simp)
 rw [ho, hc, List.take_of_length_le (by simp; omega)] at hy
 exact h H enc w base spare held n _ y hy
theorem fs_cons {P : Program} {f : Field} {fs : List Field} {off : Nat} {α β : Type} {d : Kd α} {d' : Kd β} {ok : α → Prop} {ok' : β → Prop} (ho : f.offset = off) (hc : P.cellsOf f.type = d.sz) (h : Opens P f.type d ok)
  (hr : OpensFs P fs (off + d.sz) d' ok') : OpensFs P (f :: fs) off (Kd.pair d d') (fun x => ok x.1 ∧ ok' x.2) := by
 intro H enc w base spare held n cs hl hf
 have hsz : (Kd.pair d d').sz = d.sz + d'.sz := rfl
 rw [hsz] at hl
 obtain ⟨y, hy⟩ := hf f (by simp)
 rw [ho, hc] at hy
 obtain ⟨a, hK, hok⟩ := h H enc w base spare held n _ y hy
 obtain ⟨b, hKb, hokb⟩ := hr H enc w base spare held n cs (by omega) (fun f' hf' => hf f' (List.mem_cons_of_mem _ hf'))
 refine ⟨(a, b), ⟨_, _, ?_, hK, hKb⟩, hok, hokb⟩
 rw [← List.drop_drop]
 exact (List.take_append_drop _ _).symm
theorem opens_struct {P : Program} {t : TypeId} {fs : Array Field} {α : Type} {d : Kd α} {ok : α → Prop} (hs : P.underlying t = some (.struct fs)) (hC : P.cellsOf t = d.sz) (h : OpensFs P fs.toList 0 d ok) : Opens P t d ok := by
 intro H enc w base spare held fuel cs x hx
 obtain ⟨xs, n, _, _, hl, hlen, hf⟩ := DataW.trod_struct hs hx
 obtain ⟨a, hK, hok⟩ := h H enc w base spare held n cs (by rw [hl, hC, Nat.zero_add]) (fun f hfm => by
  obtain ⟨j, hj⟩ := List.getElem?_of_mem hfm
  have hj' : fs[j]? = some f := by rw [← hj]; simp
  have hjl : j < xs.length := by rw [hlen]; exact (Array.getElem?_eq_some_iff.1 hj').1
  have h1 := hf j f hj'
  rw [List.getElem?_eq_getElem hjl] at h1
  exact ⟨_, h1⟩)
 exact ⟨a, hK, hok⟩
theorem arg_struct {H : Type} {enc : TypeId × Value → H} {P : Program} {w : World} {base b0 : Nat} {spare : Nat → Bool} {held : Bool} {r : Reach} {t : TypeId} {fs : Array Field} {v : Value} {dd : DataW H} {p : List MemPlace} {α : Type} {d : Kd α} {ok : α → Prop}
  (hs : P.underlying t = some (.struct fs)) (ho : Opens P t d ok) (hv : Value.okWide P w r b0 t v) (h : DataW.Trod enc P w base spare held t v dd p) : ∃ a cs, v = .agg cs ∧ d.K w a cs.toList ∧ ok a := by
 obtain ⟨cs, rfl, hsz⟩ := okWide_struct hs hv
 obtain ⟨fuel, hf⟩ := h
 obtain ⟨a, hK, hok⟩ := ho H enc w base spare held fuel _ _ hf
 exact ⟨a, cs, rfl, by simpa [Value.cells] using hK, hok⟩
theorem arg_slice {H : Type} {enc : TypeId × Value → H} {P : Program} {w : World} {base b0 : Nat} {spare : Nat → Bool} {held : Bool} {r : Reach} {t e : TypeId} {v : Value} {dd : DataW H} {p : List MemPlace} {α : Type} {d : Kd α} {ok : List α → Prop}
  (hs : P.underlying t = some (.slice e)) (ho : Opens P t (Kd.slice e d) ok) (hv : Value.okWide P w r b0 t v) (h : DataW.Trod enc P w base spare held t v dd p) : ∃ A c l, v = .slice A l.length c ∧ l.length ≤ c ∧ d.C w A l.length l ∧ ok l := by
 obtain ⟨A, len, cap, rfl⟩ := okWide_slice hs hv
 obtain ⟨fuel, hf⟩ := h
 obtain ⟨l, ⟨A', c, he, hlc, hC⟩, hok⟩ := ho H enc w base spare held fuel _ _ hf
 simp [Value.cells] at he
 obtain ⟨rfl, rfl, rfl⟩ := he
 exact ⟨A, cap, l, rfl, hlc, hC, hok⟩
end Go.Proofs.Ytkcpanpdipmmmaa.Opn
namespace Go.Proofs.Ytkcpanpdipmmmaa.Q
open Go.RowKit Go.Proofs.YtkcpanpdipmmmaaW.PrintWords Go.Proofs.YtkcpanpdipmmmaaW.PrintLast Go.Proofs.YtkcpanpdipmmmaaW.PrintMore Go.Proofs.Ytkcpanpdipmmmaa.P
open Go.Proofs.Ytkcpanpdipmmmaa.H (endsErr Right right_of StepOf stRoom IsFlow leastR pushW stRoom_in)
theorem endsE_ok {n : Int} {l : List S74} {s t : Int} (h : endsErr n l s t = 0) : NetOk n l ∧ 0 ≤ s ∧ s < n ∧ 0 ≤ t ∧ t < n ∧ s ≠ t := by
 unfold endsErr at h
 by_cases hn : netErr n l = 0
 ·rw [if_pos hn] at h
  split at h
  ·rename_i he
   exact ⟨netErr_ok hn, he⟩
  ·cases h
 ·rw [if_neg hn] at h; exact absurd h hn
def evenB (s t : Int) : List Int → Int → Bool
 | [], _ => true
 | x :: l, i => if i = s then evenB s t l (i + 1) else if i = t then evenB s t l (i + 1) else if x = 0 then evenB s t l (i + 1) else false
def valRes (n : Int) (l : List S74) (s t : Int) (f : List Int) : Int × Int :=
 if endsErr n l s t = 0 then (if askErr n l f = 0 then (if evenB s t (balOf n l f) 0 = true then (bal l f s, 0) else (0, 71)) else (0, askErr n l f)) else (0, endsErr n l s t)
theorem evenB_iff (s t : Int) (X : List Int) : ∀ i : Int, evenB s t X i = true ↔ ∀ j : Nat, j < X.length → i + j ≠ s → i + j ≠ t → X.getD j 0 = 0 := by
 induction X with
 | nil => intro i; simp [evenB]
 | cons x X ih =>
  intro i
  have key : evenB s t X (i + 1) = true ↔ ∀ j : Nat, j + 1 < (x :: X).length → i + (j + 1 : Nat) ≠ s → i + (j + 1 : Nat) ≠ t → (x :: X).getD (j + 1) 0 = 0 := by
   rw [ih (i + 1)]
   constructor
   ·intro h j h1 h2 h3
    rw [List.getD_cons_succ]
    exact h j (by simpa using h1) (by omega) (by omega)
   ·intro h j h1 h2 h3
    have := h j (by simpa using h1) (by omega) (by omega)
    rwa [List.getD_cons_succ] at this
  have all : (i ≠ s → i ≠ t → x = 0) → (evenB s t X (i + 1) = true ↔ ∀ j : Nat, j < (x :: X).length → i + j ≠ s → i + j ≠ t → (x :: X).getD j 0 = 0) := by
   intro hx
   rw [key]
   constructor
   ·intro h j h1 h2 h3
    cases j with
    | zero => exact hx (by simpa using h2) (by simpa using h3)
    | succ j => exact h j h1 h2 h3
   ·intro h j h1 h2 h3
    exact h (j + 1) h1 h2 h3
  unfold evenB
  by_cases h1 : i = s
  ·rw [if_pos h1]; exact all (fun h => absurd h1 h)
  rw [if_neg h1]
  by_cases h2 : i = t
  ·rw [if_pos h2]; exact all (fun _ h => absurd h2 h)
  rw [if_neg h2]
  by_cases h3 : x = 0
  ·rw [if_pos h3]; exact all (fun _ _ => h3)
  ·rw [if_neg h3]
   constructor
   ·intro h; cases h
   ·intro h
    exact absurd (h 0 (by simp) (by simpa using h1) (by simpa using h2)) h3
theorem ref_check2_l0 (n : Int) (p : Bool) (l : List S74) (s t : Int) (b : List Int) (hb : b.length ≤ 50) (hbn : n = b.length) (hs : 0 ≤ s) (hsn : s < b.length) (d : Nat) : ∀ i : Nat, i + d = b.length →
  Ev (fun k => ebbtideref07_Check.l0 k s t b (i : Int) n p l) (if evenB s t (b.drop i) i = true then (rd b s, 0) else (0, 71)) := by
 induction d with
 | zero =>
  intro i hi
  refine Ev.succ ?_; simp only [ebbtideref07_Check.l0]
  refine Ev.neg (by omega) ?_
  refine Ev.pos (by omega) ?_
  refine Ev.pos (by omega) ?_
  rw [List.drop_of_length_le (by omega)]
  exact Ev.now _
 | succ d ih =>
  intro i hi
  refine Ev.succ ?_; simp only [ebbtideref07_Check.l0]
  refine Ev.pos (by omega) ?_
  rw [drop_getD b i 0 (by omega), rd_nat, wrap_succ (n := b.length) (by omega) (by omega)]
  unfold evenB
  have := ih (i + 1) (by omega)
  rw [show ((i + 1 : Nat) : Int) = (i : Int) + 1 by omega] at this ⊢
  refine Ev.ite (fun g1 => ?_) (fun g1 => ?_)
  ·rw [if_pos g1]; exact this
  rw [if_neg g1]
  refine Ev.ite (fun g2 => ?_) (fun g2 => ?_)
  ·rw [if_pos g2]; exact this
  rw [if_neg g2]
  refine Ev.pos (by omega) ?_
  refine Ev.pos (by omega) ?_
  refine Ev.ite (fun g => ?_) (fun g => ?_)
  ·rw [if_pos g]; exact this
  rw [if_neg g]
  exact Ev.now _
theorem ref_value_ev (n : Int) (b : Bool) (l : List S74) (s t : Int) (f : List Int) : Ev (fun k => ebbtideref07_Check.f k n b l s t f) (valRes n l s t f) := by
 unfold ebbtideref07_Check.f valRes
 refine Ev.bind (ref_ends_ev n b l s t) ?_
 refine Ev.ite (fun h => ?_) (fun h => ?_)
 ·rw [if_pos h]
  obtain ⟨hn, he⟩ := endsE_ok h
  have := hn.lo; have := hn.hi
  refine Ev.bind (ref_balance_ev n b l f) ?_
  by_cases g : askErr n l f = 0
  ·rw [if_pos g, balRes_ok g]
   refine Ev.pos rfl ?_
   refine Ev.eq (ref_check2_l0 n b l s t (balOf n l f) (by rw [balOf_len]; omega) (by rw [balOf_len]; omega) (by omega) (by rw [balOf_len]; omega) _ 0 (Nat.zero_add _)) ?_
   rw [rd_balOf (by omega) (by omega), List.drop_zero]
   rfl
  ·rw [if_neg g, balRes_no g]
   exact Ev.neg g (Ev.now _)
 ·rw [if_neg h]
  exact Ev.now _
theorem flowOk_of {l : List S74} {F : List Int} {n : Nat} (hr : Right l F n) : FlowOk l F := by
 refine ⟨hr.len, fun i hi => ?_⟩
 have := hr.nums i (by rw [← hr.len]; exact hi)
 rw [rd_nat]
 exact ⟨this.2.2.1, this.2.2.2.1⟩
theorem even_flow {n : Nat} {l : List S74} {F : List Int} {s t : Int} (hr : Right l F n) : evenB s t (balOf n l F) 0 = true ↔ IsFlow l F n s t := by
 rw [evenB_iff]
 have hlen := balOf_len (n : Int) l F
 rw [Int.toNat_natCast] at hlen
 have hg : ∀ v : Nat, v < n → (balOf n l F).getD v 0 = bal l F v := fun v hv => by
  have h_ := rd_balOf (n := (n : Int)) (l := l) (f := F) (v := (v : Int)) (by omega) (by omega)
  rw [rd_nat] at h_
  exact h_
 constructor
 ·intro h
  refine ⟨hr, fun v h0 h1 h2 h3 => ?_⟩
  obtain ⟨v, rfl⟩ : ∃ v' : Nat, v = v' := ⟨v.toNat, by omega⟩
  rw [← hg v (by omega)]
  exact h v (by omega) (by omega) (by omega)
 ·intro h v hv h2 h3
  rw [hg v (by omega)]
  exact h.keeps v (by omega) (by omega) (by omega) (by omega)
theorem flow_val {n : Int} {l : List S74} {F : List Int} {s t : Int} (h : (valRes n l s t F).2 = 0) : endsErr n l s t = 0 ∧ askErr n l F = 0 ∧ ∃ n0 : Nat, n = n0 ∧ IsFlow l F n0 s t ∧ valRes n l s t F = (bal l F s, 0) := by
 unfold valRes at h ⊢
 by_cases h1 : endsErr n l s t = 0
 ·rw [if_pos h1] at h ⊢
  by_cases h2 : askErr n l F = 0
  ·rw [if_pos h2] at h ⊢
   obtain ⟨n0, rfl, hr⟩ := right_of h2
   by_cases h3 : evenB s t (balOf n0 l F) 0 = true
   ·rw [if_pos h3]
    exact ⟨h1, h2, n0, rfl, (even_flow hr).1 h3, rfl⟩
   ·rw [if_neg h3] at h; cases h
  ·rw [if_neg h2] at h; exact absurd h h2
 ·rw [if_neg h1] at h; exact absurd h h1
end Go.Proofs.Ytkcpanpdipmmmaa.Q
namespace Go.Proofs.Ytkcpanpdipmmmaa.Q
open Go.RowKit Go.Proofs.YtkcpanpdipmmmaaW.PrintWords Go.Proofs.YtkcpanpdipmmmaaW.PrintLast Go.Proofs.YtkcpanpdipmmmaaW.PrintMore Go.Proofs.Ytkcpanpdipmmmaa.P
open Go.Proofs.Ytkcpanpdipmmmaa.H (endsErr Right right_of StepOf stRoom IsFlow MaxF leastR pushW fillF bfP nodes netG dOf frP toP)
theorem max_fill {l : List S74} {n s t : Nat} (hr : Right l (List.replicate l.length 0) n) (hs : s < n) (ht : t < n) (hst : s ≠ t) : MaxF l (fillF l n s t) n s t := H.fill_max hr hs ht hst
theorem value_l0 (m : Int) (l : List S74) (f : List Int) (hn : NetOk m l) (hf : FlowOk l f) (v : Int) (d : Nat) : ∀ (i : Nat) (acc : Int), i + d = l.length → -(i * 2097152) ≤ acc → acc ≤ i * 2097152 →
  Ev (fun k => maxflow_Value.l0 k v f acc l (l.length : Int) (i : Int)) (acc + bal (l.drop i) (f.drop i) v) := by
 have hlen := hf.len
 have hl := hn.len
 induction d with
 | zero =>
  intro i acc hi h0 h1
  refine Ev.succ ?_; simp only [maxflow_Value.l0]
  repeat (first | exact Ev.now _ | with_reducible refine Ev.pos (by first | assumption | omega) ?_ | with_reducible refine Ev.neg (by first | assumption | omega) ?_ | with_reducible refine Ev.let_ ?_)
  rw [List.drop_of_length_le (by omega)]
  exact Ev.done (by simp [bal])
 | succ d ih =>
  intro i acc hi h0 h1
  have hs := hf.small hn (i := (i : Int)) (by omega) (by omega)
  refine Ev.succ ?_; simp only [maxflow_Value.l0]
  repeat (first | exact Ev.now _ | with_reducible refine Ev.pos (by first | assumption | omega) ?_ | with_reducible refine Ev.neg (by first | assumption | omega) ?_ | with_reducible refine Ev.let_ ?_)
  rw [wrap_succ (n := l.length) (by omega) (by omega), drop_getD l i z74 (by omega), drop_getD f i 0 (by omega), ← rdArc_nat, ← rd_nat, bal_cons]
  refine Ev.ite (fun g => ?_) (fun g => ?_)
  ·rw [if_pos g]
   refine Ev.pos (by omega) ?_
   refine Ev.ite (fun g2 => ?_) (fun g2 => ?_)
   ·rw [if_pos g2, wrap_id (x := acc + rd f (i : Int)) (by omega) (by omega), wrap_id (by omega) (by omega)]
    exact Ev.eq (ih (i + 1) _ (by omega) (by omega) (by omega)) (by omega)
   ·rw [if_neg g2, wrap_id (x := acc + rd f (i : Int)) (by omega) (by omega)]
    exact Ev.eq (ih (i + 1) _ (by omega) (by omega) (by omega)) (by omega)
  ·rw [if_neg g]
   refine Ev.ite (fun g2 => ?_) (fun g2 => ?_)
   ·refine Ev.pos (by omega) ?_
    rw [if_pos g2, wrap_id (x := acc - rd f (i : Int)) (by omega) (by omega)]
    exact Ev.eq (ih (i + 1) _ (by omega) (by omega) (by omega)) (by omega)
   ·rw [if_neg g2]
    exact Ev.eq (ih (i + 1) _ (by omega) (by omega) (by omega)) (by omega)
theorem value_ev (n m : Int) (b : Bool) (l : List S74) (f : List Int) (hn : NetOk m l) (hf : FlowOk l f) (v : Int) : Ev (fun k => maxflow_Value.f k n b l v f) (bal l f v) := by
 unfold maxflow_Value.f
 exact Ev.eq (value_l0 m l f hn hf v l.length 0 0 (by omega) (by omega) (by omega)) (by rw [List.drop_zero, List.drop_zero]; omega)
def maxR (n : Int) (l : List S74) (s t : Int) : List Int × Int × Int :=
 if endsErr n l s t = 0 then (fillF l n.toNat s.toNat t.toNat, bal l (fillF l n.toNat s.toNat t.toNat) s, 0) else ([], 0, endsErr n l s t)
def mostR (n : Int) (l : List S74) (s t : Int) : Int × Int :=
 if endsErr n l s t = 0 then (bal l (fillF l n.toNat s.toNat t.toNat) s, 0) else (0, endsErr n l s t)
theorem fill_eq {n : Int} {l : List S74} {s t : Int} (b : Bool) (h : endsErr n l s t = 0) : maxflow_Fill.f n b l s t = some (fillF l n.toNat s.toNat t.toNat) := by unfold maxflow_Fill.f; rw [if_pos h]
theorem max_ev (n : Int) (b : Bool) (l : List S74) (s t : Int) : Ev (fun k => maxflow_Max.f k n b l s t) (maxR n l s t) := by
 unfold maxflow_Max.f maxR
 refine Ev.bind (ends_ev n b l s t) ?_
 by_cases h : endsErr n l s t = 0
 ·rw [if_pos h]
  refine Ev.pos h ?_
  refine Ev.call (fill_eq b h) ?_
  obtain ⟨n0, s0, t0, rfl, rfl, rfl, hs, ht, hst, hn, hr⟩ := ends_zero h
  simp only [Int.toNat_natCast]
  refine Ev.bind (value_ev n0 n0 b l _ hn (flowOk_of (max_fill hr hs ht hst).flow.right) s0) ?_
  exact Ev.now _
 ·rw [if_neg h]
  refine Ev.neg h ?_
  exact Ev.now _
theorem most_ev (n : Int) (b : Bool) (l : List S74) (s t : Int) : Ev (fun k => maxflow_Most.f k n b l s t) (mostR n l s t) := by
 unfold maxflow_Most.f
 refine Ev.bind (max_ev n b l s t) ?_
 refine Ev.done ?_
 unfold maxR mostR
 split <;> rfl
theorem mostR_nat {l : List S74} {n s t : Nat} (h : endsErr (n : Int) l (s : Int) (t : Int) = 0) : mostR n l s t = (bal l (fillF l n s t) s, 0) := by
 unfold mostR; rw [if_pos h]; simp only [Int.toNat_natCast]
theorem maxR_nat {l : List S74} {n s t : Nat} (h : endsErr (n : Int) l (s : Int) (t : Int) = 0) : maxR n l s t = (fillF l n s t, bal l (fillF l n s t) s, 0) := by
 unfold maxR; rw [if_pos h]; simp only [Int.toNat_natCast]
end Go.Proofs.Ytkcpanpdipmmmaa.Q
namespace Go.Proofs.Ytkcpanpdipmmmaa.Q
open Go.RowKit Go.Proofs.YtkcpanpdipmmmaaW.PrintWords Go.Proofs.YtkcpanpdipmmmaaW.PrintLast Go.Proofs.YtkcpanpdipmmmaaW.PrintMore Go.Proofs.Ytkcpanpdipmmmaa.P
open Go.Proofs.Ytkcpanpdipmmmaa.H (endsErr Right right_of IsFlow MaxF fillF capR)
def dia : List S74 := [(⟨0, 1, 3, 0⟩ : S74), (⟨0, 2, 2, 0⟩ : S74), (⟨1, 3, 2, 0⟩ : S74), (⟨2, 3, 3, 0⟩ : S74), (⟨1, 2, 5, 0⟩ : S74)]
theorem dia_right : Right dia (List.replicate dia.length 0) 4 := by
 obtain ⟨n0, h1, h2⟩ := right_of (n := 4) (l := dia) (F := List.replicate dia.length 0) (by decide +kernel)
 obtain rfl : n0 = 4 := by omega
 exact h2
theorem dia_max : MaxF dia (fillF dia 4 0 3) 4 0 3 := max_fill dia_right (by decide) (by decide) (by decide)
theorem dia_back : MaxF dia (fillF dia 4 3 0) 4 3 0 := max_fill dia_right (by decide) (by decide) (by decide)
theorem dia_flow : IsFlow dia [3, 2, 2, 3, 1] 4 0 3 := by
 obtain ⟨n0, h1, h2⟩ := right_of (n := 4) (l := dia) (F := [3, 2, 2, 3, 1]) (by decide +kernel)
 obtain rfl : n0 = 4 := by omega
 refine ⟨h2, fun v a b c d => ?_⟩
 rcases (show v = 1 ∨ v = 2 by omega) with rfl | rfl <;> decide +kernel
theorem dia_val : bal dia (fillF dia 4 0 3) 0 = 5 := by
 have h1 := H.max_top (s := 0) (t := 3) dia_max (by decide) (by decide) dia_flow
 have h2 := H.value_le dia_max.flow (fun v => decide (v = 0)) (by decide) (by decide) (by decide) (by decide)
 have h3 : bal dia [3, 2, 2, 3, 1] ((0 : Nat) : Int) = 5 := by decide +kernel
 have h4 : capR (fun v => decide (v = 0)) dia = 5 := by decide +kernel
 rw [h3] at h1
 rw [h4] at h2
 exact Int.le_antisymm h2 h1
theorem dia_none : bal dia (fillF dia 4 3 0) 3 = 0 := by
 have h1 := H.max_nonneg (s := 3) (t := 0) dia_back (by decide) (by decide)
 have h2 := H.value_le dia_back.flow (fun v => decide (v = 3)) (by decide) (by decide) (by decide) (by decide)
 have h4 : capR (fun v => decide (v = 3)) dia = 0 := by decide +kernel
 rw [h4] at h2
 exact Int.le_antisymm h2 h1
theorem awake09_ev : Ev (fun k => ebbtidelaw09_awake.f k) true := by
 have e1 : endsErr 4 dia 0 3 = 0 := by decide +kernel
 have e2 : endsErr 4 dia 3 0 = 0 := by decide +kernel
 have e3 : endsErr 4 dia 1 1 = 70 := by decide +kernel
 have m1 : maxR 4 dia 0 3 = (fillF dia 4 0 3, 5, 0) := by
  have h_ := maxR_nat (n := 4) (l := dia) (s := 0) (t := 3) e1
  have h_2 : maxR 4 dia 0 3 = (fillF dia 4 0 3, bal dia (fillF dia 4 0 3) 0, 0) := h_
  rw [h_2, dia_val]
 have m2 : mostR 4 dia 3 0 = (0, 0) := by
  have h_ := mostR_nat (n := 4) (l := dia) (s := 3) (t := 0) e2
  have h_2 : mostR 4 dia 3 0 = (bal dia (fillF dia 4 3 0) 3, 0) := h_
  rw [h_2, dia_none]
 have m3 : maxR 4 dia 1 1 = ([], 0, 70) := by unfold maxR; rw [e3]; rfl
 have hlen : (fillF dia 4 0 3).length = 5 := dia_max.flow.right.len
 unfold ebbtidelaw09_awake.f
 refine Ev.let_ ?_
 refine Ev.bind (max_ev 4 false dia 0 3) ?_
 refine Ev.bind (most_ev 4 false dia 3 0) ?_
 refine Ev.bind (max_ev 4 false dia 1 1) ?_
 rw [m1, m2, m3]
 refine Ev.pos rfl ?_
 refine Ev.pos rfl ?_
 refine Ev.pos (by show ((fillF dia 4 0 3).length : Int) = 5; rw [hlen]; rfl) ?_
 refine Ev.pos rfl ?_
 refine Ev.pos rfl ?_
 exact Ev.now _
end Go.Proofs.Ytkcpanpdipmmmaa.Q
namespace Go.Proofs.Ytkcpanpdipmmmaa.Q
open Go.RowKit Go.Proofs.YtkcpanpdipmmmaaW.PrintWords Go.Proofs.YtkcpanpdipmmmaaW.PrintLast Go.Proofs.YtkcpanpdipmmmaaW.PrintMore Go.Proofs.Ytkcpanpdipmmmaa.P
open Go.Proofs.Ytkcpanpdipmmmaa.H (endsErr Right right_of IsFlow MaxF fillF bfP nodes)
theorem maxflowTops_ev (n : Int) (b : Bool) (l : List S74) (s t : Int) (f : List Int) : Ev (fun k => ebbtidelaw09_MaxflowTops.f k n b l s t f) true := by
 unfold ebbtidelaw09_MaxflowTops.f
 refine Ev.bind awake09_ev ?_
 refine Ev.pos rfl ?_
 refine Ev.bind (ref_value_ev n b l s t f) ?_
 refine Ev.bind (most_ev n b l s t) ?_
 refine Ev.ite (fun h2 => ?_) (fun _ => Ev.now _)
 obtain ⟨he, h0, n0, rfl, hf, hv⟩ := flow_val h2
 obtain ⟨n1, s0, t0, e1, rfl, rfl, hs, ht, hst, hn, hr⟩ := ends_zero he
 obtain rfl : n0 = n1 := by omega
 have hM := max_fill hr hs ht hst
 rw [hv, mostR_nat he]
 refine Ev.pos rfl ?_
 refine Ev.pos (H.max_top hM hs hst hf) ?_
 exact Ev.done (decide_eq_true (H.max_nonneg hM hs hst))
end Go.Proofs.Ytkcpanpdipmmmaa.Q
