/- What the law's row needs of these texts, taken out of them by wip/tool/mini.py: P143 QOpen QCheckRef QMostLaw QMinLaw QLMincut. -/
import Derived.Test.YtkcpanpdipmmmaaMdcigkl
import Derived.Test.YtkcpanpdipmmmaaMahbcid
import Derived.Test.YtkcpanpdipmmmaaVmpckal
import Derived.Deep.Slices
import Derived.Deep.Fields
import Derived.ChangeSame
import Derived.ChangeArms
import Derived.OpenShut
import Derived.Test.YtkcpanpdipmmmaaMdkhkfo
import Derived.Test.YtkcpanpdipmmmaaMmdfjek
import Derived.Deep.RegionHeld3
import Derived.Deep.DeepCutAuto
set_option linter.unusedVariables false
set_option linter.unusedSimpArgs false
namespace Go.Proofs.Ytkcpanpdipmmmaa.P
open Go.RowKit Go.Proofs.YtkcpanpdipmmmaaW.PrintWords Go.Proofs.YtkcpanpdipmmmaaW.PrintLast Go.Proofs.YtkcpanpdipmmmaaW.PrintMore
attribute [local go_sem] max2_int min2_int max_two min_two max_three min_three max_four min_four
def ebbtidelaw10_MincutMeets.f (k : Nat) (a0_0 : Int) (a0_1 : Bool) (l0_2 : List (S74)) (a1 : Int) (a2 : Int) : Option (Bool) := (ebbtidelaw10_awake.f k).bind fun t1080 => (if t1080 = true then ((mincut_Least.f k a0_0 a0_1 l0_2 a1 a2).bind fun bt1081 => ((maxflow_Most.f k a0_0 a0_1 l0_2 a1 a2).bind fun bt1086 => (if bt1081.2.2 = 0 then ((mincut_Capacity.f k a0_0 a0_1 l0_2 bt1081.1).bind fun bt1088 => (if bt1086.2 = 0 then (if bt1088.2 = 0 then (if (bt1081.1.length : Int) = a0_0 then (if 0 ≤ a1 then (if a1 < (bt1081.1.length : Int) then (if rdOf false bt1081.1 a1 = true then (if 0 ≤ a2 then (if a2 < (bt1081.1.length : Int) then (if rdOf false bt1081.1 a2 = true then (some false) else (if bt1081.2.1 = bt1086.1 then (some (bt1088.1 == bt1081.2.1)) else (some false))) else (none)) else (none)) else (some false)) else (none)) else (none)) else (some false)) else (some false)) else (some false))) else (if bt1081.2.2 = bt1086.2 then (if (bt1081.1.length : Int) = 0 then (some (bt1081.2.1 == 0)) else (some false)) else (some false))))) else (some false))
set_option maxHeartbeats 8000000 in
set_option maxRecDepth 100000 in
theorem ebbtidelaw10_MincutMeets.calls (k : Nat) (a0_0 : Int) (a0_1 : Bool) (A0_2 : Option Addr) (c0_2 : Nat) (l0_2 : List (S74)) (a1 : Int) (a2 : Int) (r : Bool) (w : World) (hr0_2 : Kd.C k74 w A0_2 l0_2.length l0_2) (hc0_2 : l0_2.length ≤ c0_2) (h : ebbtidelaw10_MincutMeets.f k a0_0 a0_1 l0_2 a1 a2 = some r) (hrT_ : r = true := by first | rfl | exact Aside0.out (by assumption)) :
  Calls Try.prog 28 #[.agg #[.int .i64 a0_0, .bool a0_1, .slice A0_2 l0_2.length c0_2], .int .i64 a1, .int .i64 a2] w fun e w' => e = .returned (.bool r) ∧ Below w.heap.size w w' := by
 have HRT := Aside0.mk hrT_
 clear hrT_
 have hu24 := Try.underlying24
 have HR0_2 := Aside0.mk hr0_2
 have HC0_2 := Aside0.mk hc0_2
 clear hr0_2 hc0_2
 have HB := Aside0.mk (Below.refl w.heap.size w)
 have H : ((ebbtidelaw10_awake.f k).bind fun t1080 => (if t1080 = true then ((mincut_Least.f k a0_0 a0_1 l0_2 a1 a2).bind fun bt1081 => ((maxflow_Most.f k a0_0 a0_1 l0_2 a1 a2).bind fun bt1086 => (if bt1081.2.2 = 0 then ((mincut_Capacity.f k a0_0 a0_1 l0_2 bt1081.1).bind fun bt1088 => (if bt1086.2 = 0 then (if bt1088.2 = 0 then (if (bt1081.1.length : Int) = a0_0 then (if 0 ≤ a1 then (if a1 < (bt1081.1.length : Int) then (if rdOf false bt1081.1 a1 = true then (if 0 ≤ a2 then (if a2 < (bt1081.1.length : Int) then (if rdOf false bt1081.1 a2 = true then (some false) else (if bt1081.2.1 = bt1086.1 then (some (bt1088.1 == bt1081.2.1)) else (some false))) else (none)) else (none)) else (some false)) else (none)) else (none)) else (some false)) else (some false)) else (some false))) else (if bt1081.2.2 = bt1086.2 then (if (bt1081.1.length : Int) = 0 then (some (bt1081.2.1 == 0)) else (some false)) else (some false))))) else (some false))) = some r := h
 clear h
 replace H := Option.bind_eq_some_iff.mp H
 obtain ⟨t1080, A40, H⟩ := H
 replace H : (if t1080 = true then ((mincut_Least.f k a0_0 a0_1 l0_2 a1 a2).bind fun bt1081 => ((maxflow_Most.f k a0_0 a0_1 l0_2 a1 a2).bind fun bt1086 => (if bt1081.2.2 = 0 then ((mincut_Capacity.f k a0_0 a0_1 l0_2 bt1081.1).bind fun bt1088 => (if bt1086.2 = 0 then (if bt1088.2 = 0 then (if (bt1081.1.length : Int) = a0_0 then (if 0 ≤ a1 then (if a1 < (bt1081.1.length : Int) then (if rdOf false bt1081.1 a1 = true then (if 0 ≤ a2 then (if a2 < (bt1081.1.length : Int) then (if rdOf false bt1081.1 a2 = true then (some false) else (if bt1081.2.1 = bt1086.1 then (some (bt1088.1 == bt1081.2.1)) else (some false))) else (none)) else (none)) else (some false)) else (none)) else (none)) else (some false)) else (some false)) else (some false))) else (if bt1081.2.2 = bt1086.2 then (if (bt1081.1.length : Int) = 0 then (some (bt1081.2.1 == 0)) else (some false)) else (some false))))) else (some false)) = some r := H
 have A4 := Aside0.mk A40
 clear A40
 by_cases c5 : t1080 = true
 rotate_left
 ·replace c5 := Bool.eq_false_iff.mpr c5
  subst c5
  have H1 : (some false) = some r := by rw [if_neg (show ¬ (false = true) by decide)] at H; exact H
  exact absurd (Option.some.inj H1) (by rw [HRT.out]; decide)
 subst c5
 have H1 : ((mincut_Least.f k a0_0 a0_1 l0_2 a1 a2).bind fun bt1081 => ((maxflow_Most.f k a0_0 a0_1 l0_2 a1 a2).bind fun bt1086 => (if bt1081.2.2 = 0 then ((mincut_Capacity.f k a0_0 a0_1 l0_2 bt1081.1).bind fun bt1088 => (if bt1086.2 = 0 then (if bt1088.2 = 0 then (if (bt1081.1.length : Int) = a0_0 then (if 0 ≤ a1 then (if a1 < (bt1081.1.length : Int) then (if rdOf false bt1081.1 a1 = true then (if 0 ≤ a2 then (if a2 < (bt1081.1.length : Int) then (if rdOf false bt1081.1 a2 = true then (some false) else (if bt1081.2.1 = bt1086.1 then (some (bt1088.1 == bt1081.2.1)) else (some false))) else (none)) else (none)) else (some false)) else (none)) else (none)) else (some false)) else (some false)) else (some false))) else (if bt1081.2.2 = bt1086.2 then (if (bt1081.1.length : Int) = 0 then (some (bt1081.2.1 == 0)) else (some false)) else (some false))))) = some r := by first | (rw [if_pos rfl] at H; exact H) | (rw [if_pos trivial] at H; exact H)
 clear H
 have H := H1
 clear H1
 replace H := Option.bind_eq_some_iff.mp H
 obtain ⟨⟨t1081, t1084, t1085⟩, A60, H⟩ := H
 replace H : ((maxflow_Most.f k a0_0 a0_1 l0_2 a1 a2).bind fun bt1086 => (if t1085 = 0 then ((mincut_Capacity.f k a0_0 a0_1 l0_2 t1081).bind fun bt1088 => (if bt1086.2 = 0 then (if bt1088.2 = 0 then (if (t1081.length : Int) = a0_0 then (if 0 ≤ a1 then (if a1 < (t1081.length : Int) then (if rdOf false t1081 a1 = true then (if 0 ≤ a2 then (if a2 < (t1081.length : Int) then (if rdOf false t1081 a2 = true then (some false) else (if t1084 = bt1086.1 then (some (bt1088.1 == t1084)) else (some false))) else (none)) else (none)) else (some false)) else (none)) else (none)) else (some false)) else (some false)) else (some false))) else (if t1085 = bt1086.2 then (if (t1081.length : Int) = 0 then (some (t1084 == 0)) else (some false)) else (some false)))) = some r := H
 have A6 := Aside0.mk A60
 clear A60
 replace H := Option.bind_eq_some_iff.mp H
 obtain ⟨⟨t1086, t1087⟩, A70, H⟩ := H
 replace H : (if t1085 = 0 then ((mincut_Capacity.f k a0_0 a0_1 l0_2 t1081).bind fun bt1088 => (if t1087 = 0 then (if bt1088.2 = 0 then (if (t1081.length : Int) = a0_0 then (if 0 ≤ a1 then (if a1 < (t1081.length : Int) then (if rdOf false t1081 a1 = true then (if 0 ≤ a2 then (if a2 < (t1081.length : Int) then (if rdOf false t1081 a2 = true then (some false) else (if t1084 = t1086 then (some (bt1088.1 == t1084)) else (some false))) else (none)) else (none)) else (some false)) else (none)) else (none)) else (some false)) else (some false)) else (some false))) else (if t1085 = t1087 then (if (t1081.length : Int) = 0 then (some (t1084 == 0)) else (some false)) else (some false))) = some r := H
 have A7 := Aside0.mk A70
 clear A70
 by_cases c8 : t1085 = 0
 rotate_left
 ·rw [if_neg c8] at H
  have c8b0 : (t1085 == 0) = false := beq_eq_false_iff_ne.mpr c8
  have c8b1 : (t1085 != 0) = true := bne_iff_ne.mpr c8
  by_cases c90 : t1085 = t1087
  rotate_left
  ·rw [if_neg c90] at H
   exact absurd (Option.some.inj H) (by rw [HRT.out]; decide)
  rw [if_pos c90] at H
  have c90b0 : (t1085 == t1087) = true := beq_iff_eq.mpr c90
  have c90b1 : (t1085 != t1087) = false := bne_eq_false_iff_eq.mpr c90
  clear c90
  by_cases c91 : (t1081.length : Int) = 0
  rotate_left
  ·rw [if_neg c91] at H
   exact absurd (Option.some.inj H) (by rw [HRT.out]; decide)
  rw [if_pos c91] at H
  have c91b0 : ((t1081.length : Int) == 0) = true := beq_iff_eq.mpr c91
  have c91b1 : ((t1081.length : Int) != 0) = false := bne_eq_false_iff_eq.mpr c91
  clear c91
  obtain rfl := Option.some.inj H
  go_enter Try.func28, Try.ntmps28
  go_wp2_with (first | ((with_reducible refine gate_dst (N := 3) rfl ?_); (try (refine gate_guard (by rfl) ?_; dsimp only)); refine box_event ?hg (N := 3) ?hd (cs := #[.int .i64 a0_0, .bool a0_1, .slice A0_2 l0_2.length c0_2]) (t := 24) ?hr ?_; (case hd => rfl); (case hg => rfl); (case hr => first | (go_simp; done) | (go_simp; rfl)); intro gb1079 hg w92 hbox hb; have n0_ := Aside0.mk (below_step (by repeat (first | (with_reducible first | exact HB.out | apply below_alloc | apply pw_below_drewN | apply below_drew1) | exact HB.out)) hb); have n1_ := Aside0.mk (hbox); have n2_ := Aside0.mk ((by rw [hg]; exact (below_size (by repeat (first | (with_reducible first | exact HB.out | apply below_alloc | apply pw_below_drewN | apply below_drew1) | exact HB.out))) : w.heap.size ≤ gb1079)); have n3_ := Aside0.mk ((by rw [hg]; exact (below_size (by repeat (first | (with_reducible first | exact HB.out | apply below_alloc | apply pw_below_drewN | apply below_drew1) | exact HB.out))) : w.heap.size ≤ gb1079)); clear HB; have HB := n0_; have BK1079 := n1_; have GW1079 := n2_; have GE1079 := n3_; clear n0_ n1_ n2_ n3_; clear hb hbox hg) | ((with_reducible refine gate_callee (f := 81) rfl ?_); refine goesL_ (some 15) rfl rfl Try.func81 (by kernel_rfl) rfl #[] rfl (by (try simp only [List.map_toArray, List.map_cons, List.map_nil]); first | done | rfl | (simp only [List.length_drop, List.length_take]; rfl)) ?_; (with_reducible refine (ebbtidelaw10_awake.calls k  true _ (by first | exact A4.out | (have h_ := A4.out; rw [← Nbq19.out] at h_; exact h_) | (have h_ := A4.out; rw [← Nbq15.out] at h_; exact h_))).mono ?_); rintro e w93 ⟨rfl, hb⟩; refine ⟨_, rfl, ?_⟩; have n0_ := Aside0.mk (blk_below (g := gb1079) (o := .cells #[.int .i64 a0_0, .bool a0_1, .slice A0_2 l0_2.length c0_2] 24 (0, 0)) (by (with_reducible repeat (first | refine blk_drewN ?_ _ | refine blk_drew ?_ | refine blk_alloc ?_ _)); exact BK1079.out) hb); have n1_ := Aside0.mk (below_step (by repeat (first | (with_reducible first | exact HB.out | apply below_alloc | apply pw_below_drewN | apply below_drew1 | refine below_set ?_ GE1079.out) | exact HB.out)) hb); clear BK1079; clear HB; have BK1079 := n0_; have HB := n1_; clear n0_ n1_; (try clear hb); (try clear hb2); (try clear hk); (try clear hi); have hcz94_0 : w93.cell? ⟨gb1079, 0, none⟩ = some (.int .i64 a0_0) := (blk_cell BK1079.out 0).trans rfl; have hcz94_1 : w93.cell? ⟨gb1079, 1, none⟩ = some (.bool a0_1) := (blk_cell BK1079.out 1).trans rfl; have hcz94_2 : w93.cell? ⟨gb1079, 2, none⟩ = some (.slice A0_2 l0_2.length c0_2) := (blk_cell BK1079.out 2).trans rfl; have hfz94_0 := blk_frozen BK1079.out 0; have hfz94_1 := blk_frozen BK1079.out 1; have hfz94_2 := blk_frozen BK1079.out 2) | ((with_reducible refine gate_callee (f := 79) rfl ?_); refine goesL_ (some 22) rfl rfl Try.func79 (by kernel_rfl) rfl #[.agg #[.int .i64 a0_0, .bool a0_1, .slice A0_2 l0_2.length c0_2], .int .i64 a1, .int .i64 a2] rfl (by (try simp only [List.map_toArray, List.map_cons, List.map_nil]); first | done | rfl | (simp only [List.length_drop, List.length_take]; rfl)) ?_; (with_reducible refine (mincut_Least.calls k a0_0 a0_1 _ _ l0_2 a1 a2 t1081 t1084 t1085 _ ?side1 ?side2 A6.out).mono ?_); (case side1 => repeat (first | exact (Kd.C_below HR0_2.out HB.out) | (with_reducible refine Kd.C_alloc ?_ _) | (with_reducible refine Kd.C_drewN ?_ _) | (with_reducible refine Kd.C_drew ?_))); (case side2 => exact HC0_2.out); rintro e w95 ⟨v1082, rfl, ho0, hb⟩; refine ⟨_, rfl, ?_⟩; have n0_ := Aside0.mk (Kd.R_lower ho0 (below_size (by repeat (first | (with_reducible first | exact HB.out | apply below_alloc | apply pw_below_drewN | apply below_drew1 | refine below_set ?_ GE1079.out) | exact HB.out)))); have n1_ := Aside0.mk (blk_below (g := gb1079) (o := .cells #[.int .i64 a0_0, .bool a0_1, .slice A0_2 l0_2.length c0_2] 24 (0, 0)) (by (with_reducible repeat (first | refine blk_drewN ?_ _ | refine blk_drew ?_ | refine blk_alloc ?_ _)); exact BK1079.out) hb); have n2_ := Aside0.mk (below_step (by repeat (first | (with_reducible first | exact HB.out | apply below_alloc | apply pw_below_drewN | apply below_drew1 | refine below_set ?_ GE1079.out) | exact HB.out)) hb); clear BK1079; clear HB; have HO1083 := n0_; have BK1079 := n1_; have HB := n2_; clear n0_ n1_ n2_; (try clear hb); (try clear hb2); (try clear hk); (try clear hi); (try clear ho0); have hcz96_0 : w95.cell? ⟨gb1079, 0, none⟩ = some (.int .i64 a0_0) := (blk_cell BK1079.out 0).trans rfl; have hcz96_1 : w95.cell? ⟨gb1079, 1, none⟩ = some (.bool a0_1) := (blk_cell BK1079.out 1).trans rfl; have hcz96_2 : w95.cell? ⟨gb1079, 2, none⟩ = some (.slice A0_2 l0_2.length c0_2) := (blk_cell BK1079.out 2).trans rfl; have hfz96_0 := blk_frozen BK1079.out 0; have hfz96_1 := blk_frozen BK1079.out 1; have hfz96_2 := blk_frozen BK1079.out 2) | ((with_reducible refine gate_callee (f := 73) rfl ?_); refine goesL_ (some 30) rfl rfl Try.func73 (by kernel_rfl) rfl #[.agg #[.int .i64 a0_0, .bool a0_1, .slice A0_2 l0_2.length c0_2], .int .i64 a1, .int .i64 a2] rfl (by (try simp only [List.map_toArray, List.map_cons, List.map_nil]); first | done | rfl | (simp only [List.length_drop, List.length_take]; rfl)) ?_; (with_reducible refine (maxflow_Most.calls k a0_0 a0_1 _ _ l0_2 a1 a2 t1086 t1087 _ ?side1 ?side2 A7.out).mono ?_); (case side1 => repeat (first | exact (Kd.C_below HR0_2.out HB.out) | (with_reducible refine Kd.C_alloc ?_ _) | (with_reducible refine Kd.C_drewN ?_ _) | (with_reducible refine Kd.C_drew ?_))); (case side2 => exact HC0_2.out); rintro e w97 ⟨rfl, hb⟩; refine ⟨_, rfl, ?_⟩; have n0_ := Aside0.mk (Kd.R_below (by (with_reducible repeat (first | apply Kd.R_alloc | apply Kd.R_drewN | apply Kd.R_drew)); exact HO1083.out) hb); have n1_ := Aside0.mk (blk_below (g := gb1079) (o := .cells #[.int .i64 a0_0, .bool a0_1, .slice A0_2 l0_2.length c0_2] 24 (0, 0)) (by (with_reducible repeat (first | refine blk_drewN ?_ _ | refine blk_drew ?_ | refine blk_alloc ?_ _)); exact BK1079.out) hb); have n2_ := Aside0.mk (below_step (by repeat (first | (with_reducible first | exact HB.out | apply below_alloc | apply pw_below_drewN | apply below_drew1 | refine below_set ?_ GE1079.out) | exact HB.out)) hb); clear HO1083; clear BK1079; clear HB; have HO1083 := n0_; have BK1079 := n1_; have HB := n2_; clear n0_ n1_ n2_; (try clear hb); (try clear hb2); (try clear hk); (try clear hi); obtain ⟨Ao98, co98, eo98⟩ := Kd.R_slice HO1083.out; subst eo98))
  go_ret
  exact ⟨by first | rfl | (simp [errW_none, errW_some] <;> rfl) | (simp [*, errW_none, errW_some] <;> rfl), by repeat (first | (with_reducible first | exact HB.out | apply below_alloc | apply pw_below_drewN | apply below_drew1 | refine below_set ?_ GE1079.out) | exact HB.out)⟩
 rw [if_pos c8] at H
 have c8b0 : (t1085 == 0) = true := beq_iff_eq.mpr c8
 have c8b1 : (t1085 != 0) = false := bne_eq_false_iff_eq.mpr c8
 clear c8
 replace H := Option.bind_eq_some_iff.mp H
 obtain ⟨⟨t1088, t1089⟩, A90, H⟩ := H
 replace H : (if t1087 = 0 then (if t1089 = 0 then (if (t1081.length : Int) = a0_0 then (if 0 ≤ a1 then (if a1 < (t1081.length : Int) then (if rdOf false t1081 a1 = true then (if 0 ≤ a2 then (if a2 < (t1081.length : Int) then (if rdOf false t1081 a2 = true then (some false) else (if t1084 = t1086 then (some (t1088 == t1084)) else (some false))) else (none)) else (none)) else (some false)) else (none)) else (none)) else (some false)) else (some false)) else (some false)) = some r := H
 have A9 := Aside0.mk A90
 clear A90
 by_cases c10 : t1087 = 0
 rotate_left
 ·rw [if_neg c10] at H
  exact absurd (Option.some.inj H) (by rw [HRT.out]; decide)
 rw [if_pos c10] at H
 have c10b0 : (t1087 == 0) = true := beq_iff_eq.mpr c10
 have c10b1 : (t1087 != 0) = false := bne_eq_false_iff_eq.mpr c10
 clear c10
 by_cases c11 : t1089 = 0
 rotate_left
 ·rw [if_neg c11] at H
  exact absurd (Option.some.inj H) (by rw [HRT.out]; decide)
 rw [if_pos c11] at H
 have c11b0 : (t1089 == 0) = true := beq_iff_eq.mpr c11
 have c11b1 : (t1089 != 0) = false := bne_eq_false_iff_eq.mpr c11
 clear c11
 by_cases c12 : (t1081.length : Int) = a0_0
 rotate_left
 ·rw [if_neg c12] at H
  exact absurd (Option.some.inj H) (by rw [HRT.out]; decide)
 rw [if_pos c12] at H
 have c12b0 : ((t1081.length : Int) == a0_0) = true := beq_iff_eq.mpr c12
 have c12b1 : ((t1081.length : Int) != a0_0) = false := bne_eq_false_iff_eq.mpr c12
 clear c12
 by_cases c13 : 0 ≤ a1
 rotate_left
 ·rw [if_neg c13] at H
  exact absurd H (by simp)
 rw [if_pos c13] at H
 have c13b0 : decide (0 ≤ a1) = true := decide_eq_true c13
 clear c13
 by_cases c14 : a1 < (t1081.length : Int)
 rotate_left
 ·rw [if_neg c14] at H
  exact absurd H (by simp)
 rw [if_pos c14] at H
 have c14b0 : decide (a1 < (t1081.length : Int)) = true := decide_eq_true c14
 clear c14
 obtain ⟨bq15, hbq15⟩ : ∃ b_ : Bool, b_ = (rdOf false t1081 a1) := ⟨_, rfl⟩
 replace H : (if bq15 = true then (if 0 ≤ a2 then (if a2 < (t1081.length : Int) then (if rdOf false t1081 a2 = true then (some false) else (if t1084 = t1086 then (some (t1088 == t1084)) else (some false))) else (none)) else (none)) else (some false)) = some r := by rw [← hbq15] at H; exact H
 have Nbq15 := Aside0.mk hbq15
 clear hbq15
 by_cases c16 : bq15 = true
 rotate_left
 ·replace c16 := Bool.eq_false_iff.mpr c16
  subst c16
  have H1 : (some false) = some r := by rw [if_neg (show ¬ (false = true) by decide)] at H; exact H
  exact absurd (Option.some.inj H1) (by rw [HRT.out]; decide)
 subst c16
 have H1 : (if 0 ≤ a2 then (if a2 < (t1081.length : Int) then (if rdOf false t1081 a2 = true then (some false) else (if t1084 = t1086 then (some (t1088 == t1084)) else (some false))) else (none)) else (none)) = some r := by first | (rw [if_pos rfl] at H; exact H) | (rw [if_pos trivial] at H; exact H)
 clear H
 have H := H1
 clear H1
 by_cases c17 : 0 ≤ a2
 rotate_left
 ·rw [if_neg c17] at H
  exact absurd H (by simp)
 rw [if_pos c17] at H
 have c17b0 : decide (0 ≤ a2) = true := decide_eq_true c17
 clear c17
 by_cases c18 : a2 < (t1081.length : Int)
 rotate_left
 ·rw [if_neg c18] at H
  exact absurd H (by simp)
 rw [if_pos c18] at H
 have c18b0 : decide (a2 < (t1081.length : Int)) = true := decide_eq_true c18
 clear c18
 obtain ⟨bq19, hbq19⟩ : ∃ b_ : Bool, b_ = (rdOf false t1081 a2) := ⟨_, rfl⟩
 replace H : (if bq19 = true then (some false) else (if t1084 = t1086 then (some (t1088 == t1084)) else (some false))) = some r := by rw [← hbq19] at H; exact H
 have Nbq19 := Aside0.mk hbq19
 clear hbq19
 by_cases c20 : bq19 = true
 ·subst c20
  have H1 : (some false) = some r := by first | (rw [if_pos rfl] at H; exact H) | (rw [if_pos trivial] at H; exact H)
  exact absurd (Option.some.inj H1) (by rw [HRT.out]; decide)
 replace c20 := Bool.eq_false_iff.mpr c20
 subst c20
 have H1 : (if t1084 = t1086 then (some (t1088 == t1084)) else (some false)) = some r := by rw [if_neg (show ¬ (false = true) by decide)] at H; exact H
 clear H
 have H := H1
 clear H1
 by_cases c31 : t1084 = t1086
 rotate_left
 ·rw [if_neg c31] at H
  exact absurd (Option.some.inj H) (by rw [HRT.out]; decide)
 rw [if_pos c31] at H
 have c31b0 : (t1084 == t1086) = true := beq_iff_eq.mpr c31
 have c31b1 : (t1084 != t1086) = false := bne_eq_false_iff_eq.mpr c31
 clear c31
 obtain rfl := Option.some.inj H
 go_enter Try.func28, Try.ntmps28
 go_wp2_with (first | ((with_reducible refine gate_dst (N := 3) rfl ?_); (try (refine gate_guard (by rfl) ?_; dsimp only)); refine box_event ?hg (N := 3) ?hd (cs := #[.int .i64 a0_0, .bool a0_1, .slice A0_2 l0_2.length c0_2]) (t := 24) ?hr ?_; (case hd => rfl); (case hg => rfl); (case hr => first | (go_simp; done) | (go_simp; rfl)); intro gb1079 hg w32 hbox hb; have n0_ := Aside0.mk (below_step (by repeat (first | (with_reducible first | exact HB.out | apply below_alloc | apply pw_below_drewN | apply below_drew1) | exact HB.out)) hb); have n1_ := Aside0.mk (hbox); have n2_ := Aside0.mk ((by rw [hg]; exact (below_size (by repeat (first | (with_reducible first | exact HB.out | apply below_alloc | apply pw_below_drewN | apply below_drew1) | exact HB.out))) : w.heap.size ≤ gb1079)); have n3_ := Aside0.mk ((by rw [hg]; exact (below_size (by repeat (first | (with_reducible first | exact HB.out | apply below_alloc | apply pw_below_drewN | apply below_drew1) | exact HB.out))) : w.heap.size ≤ gb1079)); clear HB; have HB := n0_; have BK1079 := n1_; have GW1079 := n2_; have GE1079 := n3_; clear n0_ n1_ n2_ n3_; clear hb hbox hg) | ((with_reducible refine gate_callee (f := 81) rfl ?_); refine goesL_ (some 15) rfl rfl Try.func81 (by kernel_rfl) rfl #[] rfl (by (try simp only [List.map_toArray, List.map_cons, List.map_nil]); first | done | rfl | (simp only [List.length_drop, List.length_take]; rfl)) ?_; (with_reducible refine (ebbtidelaw10_awake.calls k  true _ (by first | exact A4.out | (have h_ := A4.out; rw [← Nbq19.out] at h_; exact h_) | (have h_ := A4.out; rw [← Nbq15.out] at h_; exact h_))).mono ?_); rintro e w33 ⟨rfl, hb⟩; refine ⟨_, rfl, ?_⟩; have n0_ := Aside0.mk (blk_below (g := gb1079) (o := .cells #[.int .i64 a0_0, .bool a0_1, .slice A0_2 l0_2.length c0_2] 24 (0, 0)) (by (with_reducible repeat (first | refine blk_drewN ?_ _ | refine blk_drew ?_ | refine blk_alloc ?_ _)); exact BK1079.out) hb); have n1_ := Aside0.mk (below_step (by repeat (first | (with_reducible first | exact HB.out | apply below_alloc | apply pw_below_drewN | apply below_drew1 | refine below_set ?_ GE1079.out) | exact HB.out)) hb); clear BK1079; clear HB; have BK1079 := n0_; have HB := n1_; clear n0_ n1_; (try clear hb); (try clear hb2); (try clear hk); (try clear hi); have hcz34_0 : w33.cell? ⟨gb1079, 0, none⟩ = some (.int .i64 a0_0) := (blk_cell BK1079.out 0).trans rfl; have hcz34_1 : w33.cell? ⟨gb1079, 1, none⟩ = some (.bool a0_1) := (blk_cell BK1079.out 1).trans rfl; have hcz34_2 : w33.cell? ⟨gb1079, 2, none⟩ = some (.slice A0_2 l0_2.length c0_2) := (blk_cell BK1079.out 2).trans rfl; have hfz34_0 := blk_frozen BK1079.out 0; have hfz34_1 := blk_frozen BK1079.out 1; have hfz34_2 := blk_frozen BK1079.out 2) | ((with_reducible refine gate_callee (f := 79) rfl ?_); refine goesL_ (some 22) rfl rfl Try.func79 (by kernel_rfl) rfl #[.agg #[.int .i64 a0_0, .bool a0_1, .slice A0_2 l0_2.length c0_2], .int .i64 a1, .int .i64 a2] rfl (by (try simp only [List.map_toArray, List.map_cons, List.map_nil]); first | done | rfl | (simp only [List.length_drop, List.length_take]; rfl)) ?_; (with_reducible refine (mincut_Least.calls k a0_0 a0_1 _ _ l0_2 a1 a2 t1081 t1084 t1085 _ ?side1 ?side2 A6.out).mono ?_); (case side1 => repeat (first | exact (Kd.C_below HR0_2.out HB.out) | (with_reducible refine Kd.C_alloc ?_ _) | (with_reducible refine Kd.C_drewN ?_ _) | (with_reducible refine Kd.C_drew ?_))); (case side2 => exact HC0_2.out); rintro e w35 ⟨v1082, rfl, ho0, hb⟩; refine ⟨_, rfl, ?_⟩; have n0_ := Aside0.mk (Kd.R_lower ho0 (below_size (by repeat (first | (with_reducible first | exact HB.out | apply below_alloc | apply pw_below_drewN | apply below_drew1 | refine below_set ?_ GE1079.out) | exact HB.out)))); have n1_ := Aside0.mk (blk_below (g := gb1079) (o := .cells #[.int .i64 a0_0, .bool a0_1, .slice A0_2 l0_2.length c0_2] 24 (0, 0)) (by (with_reducible repeat (first | refine blk_drewN ?_ _ | refine blk_drew ?_ | refine blk_alloc ?_ _)); exact BK1079.out) hb); have n2_ := Aside0.mk (below_step (by repeat (first | (with_reducible first | exact HB.out | apply below_alloc | apply pw_below_drewN | apply below_drew1 | refine below_set ?_ GE1079.out) | exact HB.out)) hb); clear BK1079; clear HB; have HO1083 := n0_; have BK1079 := n1_; have HB := n2_; clear n0_ n1_ n2_; (try clear hb); (try clear hb2); (try clear hk); (try clear hi); (try clear ho0); have hcz36_0 : w35.cell? ⟨gb1079, 0, none⟩ = some (.int .i64 a0_0) := (blk_cell BK1079.out 0).trans rfl; have hcz36_1 : w35.cell? ⟨gb1079, 1, none⟩ = some (.bool a0_1) := (blk_cell BK1079.out 1).trans rfl; have hcz36_2 : w35.cell? ⟨gb1079, 2, none⟩ = some (.slice A0_2 l0_2.length c0_2) := (blk_cell BK1079.out 2).trans rfl; have hfz36_0 := blk_frozen BK1079.out 0; have hfz36_1 := blk_frozen BK1079.out 1; have hfz36_2 := blk_frozen BK1079.out 2) | ((with_reducible refine gate_callee (f := 73) rfl ?_); refine goesL_ (some 30) rfl rfl Try.func73 (by kernel_rfl) rfl #[.agg #[.int .i64 a0_0, .bool a0_1, .slice A0_2 l0_2.length c0_2], .int .i64 a1, .int .i64 a2] rfl (by (try simp only [List.map_toArray, List.map_cons, List.map_nil]); first | done | rfl | (simp only [List.length_drop, List.length_take]; rfl)) ?_; (with_reducible refine (maxflow_Most.calls k a0_0 a0_1 _ _ l0_2 a1 a2 t1086 t1087 _ ?side1 ?side2 A7.out).mono ?_); (case side1 => repeat (first | exact (Kd.C_below HR0_2.out HB.out) | (with_reducible refine Kd.C_alloc ?_ _) | (with_reducible refine Kd.C_drewN ?_ _) | (with_reducible refine Kd.C_drew ?_))); (case side2 => exact HC0_2.out); rintro e w37 ⟨rfl, hb⟩; refine ⟨_, rfl, ?_⟩; have n0_ := Aside0.mk (Kd.R_below (by (with_reducible repeat (first | apply Kd.R_alloc | apply Kd.R_drewN | apply Kd.R_drew)); exact HO1083.out) hb); have n1_ := Aside0.mk (blk_below (g := gb1079) (o := .cells #[.int .i64 a0_0, .bool a0_1, .slice A0_2 l0_2.length c0_2] 24 (0, 0)) (by (with_reducible repeat (first | refine blk_drewN ?_ _ | refine blk_drew ?_ | refine blk_alloc ?_ _)); exact BK1079.out) hb); have n2_ := Aside0.mk (below_step (by repeat (first | (with_reducible first | exact HB.out | apply below_alloc | apply pw_below_drewN | apply below_drew1 | refine below_set ?_ GE1079.out) | exact HB.out)) hb); clear HO1083; clear BK1079; clear HB; have HO1083 := n0_; have BK1079 := n1_; have HB := n2_; clear n0_ n1_ n2_; (try clear hb); (try clear hb2); (try clear hk); (try clear hi); have hcz38_0 : w37.cell? ⟨gb1079, 0, none⟩ = some (.int .i64 a0_0) := (blk_cell BK1079.out 0).trans rfl; have hcz38_1 : w37.cell? ⟨gb1079, 1, none⟩ = some (.bool a0_1) := (blk_cell BK1079.out 1).trans rfl; have hcz38_2 : w37.cell? ⟨gb1079, 2, none⟩ = some (.slice A0_2 l0_2.length c0_2) := (blk_cell BK1079.out 2).trans rfl; have hfz38_0 := blk_frozen BK1079.out 0; have hfz38_1 := blk_frozen BK1079.out 1; have hfz38_2 := blk_frozen BK1079.out 2; obtain ⟨Ao39, co39, eo39⟩ := Kd.R_slice HO1083.out; subst eo39) | ((with_reducible refine gate_callee (f := 82) rfl ?_); refine goesL_ (some 53) rfl rfl Try.func82 (by kernel_rfl) rfl #[.agg #[.int .i64 a0_0, .bool a0_1, .slice A0_2 l0_2.length c0_2], .slice Ao39 t1081.length co39] rfl (by (try simp only [List.map_toArray, List.map_cons, List.map_nil]); first | done | rfl | (simp only [List.length_drop, List.length_take]; rfl)) ?_; (with_reducible refine (mincut_Capacity.calls k a0_0 a0_1 _ _ l0_2 _ _ t1081 t1088 t1089 _ ?side1 ?side2 ?side3 ?side4 A9.out).mono ?_); (case side1 => repeat (first | exact (Kd.C_below HR0_2.out HB.out) | (with_reducible refine Kd.C_alloc ?_ _) | (with_reducible refine Kd.C_drewN ?_ _) | (with_reducible refine Kd.C_drew ?_))); (case side2 => exact HC0_2.out); (case side3 => repeat (first | exact (Kd.R_reads' HO1083.out).2.2 | (with_reducible refine Kd.C_alloc ?_ _) | (with_reducible refine Kd.C_drewN ?_ _) | (with_reducible refine Kd.C_drew ?_))); (case side4 => exact (Kd.R_reads' HO1083.out).2.1); rintro e w40 ⟨rfl, hb⟩; refine ⟨_, rfl, ?_⟩; have n0_ := Aside0.mk (Kd.R_below (by (with_reducible repeat (first | apply Kd.R_alloc | apply Kd.R_drewN | apply Kd.R_drew)); exact HO1083.out) hb); have n1_ := Aside0.mk (blk_below (g := gb1079) (o := .cells #[.int .i64 a0_0, .bool a0_1, .slice A0_2 l0_2.length c0_2] 24 (0, 0)) (by (with_reducible repeat (first | refine blk_drewN ?_ _ | refine blk_drew ?_ | refine blk_alloc ?_ _)); exact BK1079.out) hb); have n2_ := Aside0.mk (below_step (by repeat (first | (with_reducible first | exact HB.out | apply below_alloc | apply pw_below_drewN | apply below_drew1 | refine below_set ?_ GE1079.out) | exact HB.out)) hb); clear HO1083; clear BK1079; clear HB; have HO1083 := n0_; have BK1079 := n1_; have HB := n2_; clear n0_ n1_ n2_; (try clear hb); (try clear hb2); (try clear hk); (try clear hi); have hcz41_0 : w40.cell? ⟨gb1079, 0, none⟩ = some (.int .i64 a0_0) := (blk_cell BK1079.out 0).trans rfl; have hcz41_1 : w40.cell? ⟨gb1079, 1, none⟩ = some (.bool a0_1) := (blk_cell BK1079.out 1).trans rfl; have hcz41_2 : w40.cell? ⟨gb1079, 2, none⟩ = some (.slice A0_2 l0_2.length c0_2) := (blk_cell BK1079.out 2).trans rfl; have hfz41_0 := blk_frozen BK1079.out 0; have hfz41_1 := blk_frozen BK1079.out 1; have hfz41_2 := blk_frozen BK1079.out 2; have p1090 : 0 ≤ (a1 : Int) := of_decide_eq_true (by first | (with_reducible assumption) | assumption); have q1090 : a1 < (t1081.length : Int) := of_decide_eq_true (by first | (with_reducible assumption) | assumption); obtain ⟨ad1090, e1090, hx1090_0⟩ := Kd.at_bool (Kd.R_reads' HO1083.out).2.2 a1 p1090 q1090; (try rw [← Nbq15.out] at hx1090_0); (try rw [← Nbq19.out] at hx1090_0); cases e1090; replace p1090 := eq_true p1090; replace q1090 := eq_true q1090; have p1091 : 0 ≤ (a2 : Int) := of_decide_eq_true (by first | (with_reducible assumption) | assumption); have q1091 : a2 < (t1081.length : Int) := of_decide_eq_true (by first | (with_reducible assumption) | assumption); obtain ⟨ad1091, e1091, hx1091_0⟩ := Kd.at_bool (Kd.R_reads' HO1083.out).2.2 a2 p1091 q1091; (try rw [← Nbq15.out] at hx1091_0); (try rw [← Nbq19.out] at hx1091_0); obtain rfl : ad1090 = ad1091 := (by injection e1091); replace p1091 := eq_true p1091; replace q1091 := eq_true q1091))
 go_ret
 exact ⟨by first | rfl | (simp [errW_none, errW_some] <;> rfl) | (simp [*, errW_none, errW_some] <;> rfl), by repeat (first | (with_reducible first | exact HB.out | apply below_alloc | apply pw_below_drewN | apply below_drew1 | refine below_set ?_ GE1079.out) | exact HB.out)⟩
end Go.Proofs.Ytkcpanpdipmmmaa.P
namespace Go.Proofs.Ytkcpanpdipmmmaa.Opn
open Go.RowKit Go.ChangeShapes Go.WideShapes Go.Deep Go.Proofs.YtkcpanpdipmmmaaW.PrintWords
def Opens (P : Program) (t : TypeId) {α : Type} (d : Kd α) (ok : α → Prop) : Prop :=
 ∀ (H : Type) (enc : TypeId × Value → H) (w : World) (base : Nat) (spare : Nat → Bool) (held : Bool) (fuel : Nat) (cs : List Value) (x : DataW H × List MemPlace),
  DataW.trod enc P w base spare held fuel t cs = some x → ∃ a : α, d.K w a cs ∧ ok a
theorem opens_int {P : Program} {t : TypeId} {k : IntKind} (ht : P.underlying t = some (.int k)) : Opens P t (Kd.int k) (fun n => (Lit.int k n).wf = true) := by
 intro H enc w base spare held fuel cs x h
 obtain ⟨n, rfl, _, hw⟩ := DataW.trod_int ht h
 exact ⟨n, rfl, hw⟩
theorem opens_bool {P : Program} {t : TypeId} (ht : P.underlying t = some .bool) : Opens P t Kd.bool (fun _ => True) := by
 intro H enc w base spare held fuel cs x h
 obtain ⟨b, rfl, _⟩ := DataW.trod_bool ht h
 exact ⟨b, rfl, trivial⟩
theorem opens_slice {P : Program} {t e : TypeId} {α : Type} {d : Kd α} {ok : α → Prop} (ht : P.underlying t = some (.slice e)) (hc : P.cellsOf e = d.sz) (h : Opens P e d ok) :
  Opens P t (Kd.slice e d) (fun l => l.length ≤ 9223372036854775807 ∧ ∀ x ∈ l, ok x) := by
 intro H enc w base spare held fuel cs x hx
 rcases open_slice ht hx with ⟨rfl, _⟩ | ⟨a, len, cap, m, n, D, Pl, rfl, hb, hl, hm, hmm, _, hi⟩
 ·exact ⟨[], ⟨none, 0, rfl, Nat.le_refl _, rfl, by simp, fun h => absurd h (by simp)⟩, by simp, by simp⟩
 ·have hlm : len ≤ m := by rw [hmm]; split <;> omega
  have hel : ∀ i : Nat, i < len → ∃ a' : α, ok a' ∧ ∃ c, c.length = d.sz ∧ d.K w a' c ∧ ∀ j u, c[j]? = some u → w.cell? (a.add (i * d.sz + j)) = some u := by
   intro i hil
   obtain ⟨cs', hcs, htr⟩ := hi i (by omega)
   obtain ⟨a', hK, hok⟩ := h H enc w base spare held n cs' _ htr
   rw [hc] at hcs
   obtain ⟨_, hcl, hat⟩ := World.cells?_some hcs
   refine ⟨a', hok, cs', hcl, hK, fun j u hu => ?_⟩
   have hj : j < d.sz := by have := (List.getElem?_eq_some_iff.1 hu).1; omega
   have := hat j hj
   rw [← Go.Deep.add_add, this, hu]
  have hrow : ∀ k : Nat, k ≤ len → ∃ xs : List α, xs.length = k ∧ (∀ x ∈ xs, ok x) ∧ ∀ j p, xs[j]? = some p → ∃ c, c.length = d.sz ∧ d.K w p c ∧ ∀ i u, c[i]? = some u → w.cell? (a.add (j * d.sz + i)) = some u := by
   intro k
   induction k with
   | zero => exact fun _ => ⟨[], rfl, by simp, by simp⟩
   | succ k ih =>
    intro hk
    obtain ⟨xs, h1, h2, h3⟩ := ih (by omega)
    obtain ⟨a', ho, c, hcl, hK, hcell⟩ := hel k (by omega)
    refine ⟨xs ++ [a'], by simp [h1], fun x hx => ?_, fun j p hj => ?_⟩
    ·rcases List.mem_append.1 hx with h | h
     ·exact h2 x h
     ·rw [List.mem_singleton.1 h]; exact ho
    ·by_cases hjk : j < xs.length
     ·rw [List.getElem?_append_left hjk] at hj
      exact h3 j p hj
     ·have hjl := (List.getElem?_eq_some_iff.1 hj).1
      simp at hjl
      have hje : j = k := by omega
      subst hje
      rw [← h1, List.getElem?_concat_length] at hj
      obtain rfl := Option.some.inj hj
      exact ⟨c, hcl, hK, hcell⟩
  obtain ⟨xs, h1, h2, h3⟩ := hrow len (Nat.le_refl _)
  have hmx : len ≤ 9223372036854775807 := by unfold maxLen at hm; omega
  subst h1
  exact ⟨xs, ⟨some a, cap, rfl, hl, rfl, hmx, fun _ => ⟨a, rfl, h3⟩⟩, hmx, h2⟩
theorem opens_iso {P : Program} {t : TypeId} {α β : Type} {d : Kd α} {ok : α → Prop} (h : Opens P t d ok) (f : β → α) (g : α → β) (hfg : ∀ x, f (g x) = x) : Opens P t (Kd.iso d f) (fun y => ok (f y)) := by
 intro H enc w base spare held fuel cs x hx
 obtain ⟨a, hK, hok⟩ := h H enc w base spare held fuel cs x hx
 exact ⟨g a, by show d.K w (f (g a)) cs; rw [hfg]; exact hK, by show ok (f (g a)); rw [hfg]; exact hok⟩
def OpensFs (P : Program) (fs : List Field) (off : Nat) {α : Type} (d : Kd α) (ok : α → Prop) : Prop :=
 ∀ (H : Type) (enc : TypeId × Value → H) (w : World) (base : Nat) (spare : Nat → Bool) (held : Bool) (n : Nat) (cs : List Value), cs.length = off + d.sz →
  (∀ f ∈ fs, ∃ y, DataW.trod enc P w base spare held n f.type ((cs.drop f.offset).take (P.cellsOf f.type)) = some y) → ∃ a : α, d.K w a (cs.drop off) ∧ ok a
theorem fs_one {P : Program} {f : Field} {off : Nat} {α : Type} {d : Kd α} {ok : α → Prop} (ho : f.offset = off) (hc : P.cellsOf f.type = d.sz) (h : Opens P f.type d ok) : OpensFs P [f] off d ok := by
 intro H enc w base spare held n cs hl hf
 obtain ⟨y, hy⟩ := hf f (by simp)
 rw [ho, hc, List.take_of_length_le (by simp; omega)] at hy
 exact h H enc w base spare held n _ y hy
theorem fs_cons {P : Program} {f : Field} {fs : List Field} {off : Nat} {α β : Type} {d : Kd α} {d' : Kd β} {ok : α → Prop} {ok' : β → Prop} (ho : f.offset = off) (hc : P.cellsOf f.type = d.sz) (h : Opens P f.type d ok)
  (hr : OpensFs P fs (off + d.sz) d' ok') : OpensFs P (f :: fs) off (Kd.pair d d') (fun x => ok x.1 ∧ ok' x.2) := by
 intro H enc w base spare held n cs hl hf
 have hsz : (Kd.pair d d').sz = d.sz + d'.sz := rfl
 rw [hsz] at hl
 obtain ⟨y, hy⟩ := hf f (by simp)
 rw [ho, hc] at hy
 obtain ⟨a, hK, hok⟩ := h H enc w base spare held n _ y hy
 obtain ⟨b, hKb, hokb⟩ := hr H enc w base spare held n cs (by omega) (fun f' hf' => hf f' (List.mem_cons_of_mem _ hf'))
 refine ⟨(a, b), ⟨_, _, ?_, hK, hKb⟩, hok, hokb⟩
 rw [← List.drop_drop]
 exact (List.take_append_drop _ _).symm
theorem opens_struct {P : Program} {t : TypeId} {fs : Array Field} {α : Type} {d : Kd α} {ok : α → Prop} (hs : P.underlying t = some (.struct fs)) (hC : P.cellsOf t = d.sz) (h : OpensFs P fs.toList 0 d ok) : Opens P t d ok := by
 intro H enc w base spare held fuel cs x hx
 obtain ⟨xs, n, _, _, hl, hlen, hf⟩ := DataW.trod_struct hs hx
 obtain ⟨a, hK, hok⟩ := h H enc w base spare held n cs (by rw [hl, hC, Nat.zero_add]) (fun f hfm => by
  obtain ⟨j, hj⟩ := List.getElem?_of_mem hfm
  have hj' : fs[j]? = some f := by rw [← hj]; simp
  have hjl : j < xs.length := by rw [hlen]; exact (Array.getElem?_eq_some_iff.1 hj').1
  have h1 := hf j f hj'
  rw [List.getElem?_eq_getElem hjl] at h1
  exact ⟨_, h1⟩)
 exact ⟨a, hK, hok⟩
theorem arg_struct {H : Type} {enc : TypeId × Value → H} {P : Program} {w : World} {base b0 : Nat} {spare : Nat → Bool} {held : Bool} {r : Reach} {t : TypeId} {fs : Array Field} {v : Value} {dd : DataW H} {p : List MemPlace} {α : Type} {d : Kd α} {ok : α → Prop}
  (hs : P.underlying t = some (.struct fs)) (ho : Opens P t d ok) (hv : Value.okWide P w r b0 t v) (h : DataW.Trod enc P w base spare held t v dd p) : ∃ a cs, v = .agg cs ∧ d.K w a cs.toList ∧ ok a := by
 obtain ⟨cs, rfl, hsz⟩ := okWide_struct hs hv
 obtain ⟨fuel, hf⟩ := h
 obtain ⟨a, hK, hok⟩ := ho H enc w base spare held fuel _ _ hf
 exact ⟨a, cs, rfl, by simpa [Value.cells] using hK, hok⟩
end Go.Proofs.Ytkcpanpdipmmmaa.Opn
namespace Go.Proofs.Ytkcpanpdipmmmaa.Q
open Go.RowKit Go.Proofs.YtkcpanpdipmmmaaW.PrintWords Go.Proofs.YtkcpanpdipmmmaaW.PrintLast Go.Proofs.YtkcpanpdipmmmaaW.PrintMore Go.Proofs.Ytkcpanpdipmmmaa.P
open Go.Proofs.Ytkcpanpdipmmmaa.H (endsErr Right right_of StepOf stRoom IsFlow leastR pushW stRoom_in)
theorem flowOk_of {l : List S74} {F : List Int} {n : Nat} (hr : Right l F n) : FlowOk l F := by
 refine ⟨hr.len, fun i hi => ?_⟩
 have := hr.nums i (by rw [← hr.len]; exact hi)
 rw [rd_nat]
 exact ⟨this.2.2.1, this.2.2.2.1⟩
end Go.Proofs.Ytkcpanpdipmmmaa.Q
namespace Go.Proofs.Ytkcpanpdipmmmaa.Q
open Go.RowKit Go.Proofs.YtkcpanpdipmmmaaW.PrintWords Go.Proofs.YtkcpanpdipmmmaaW.PrintLast Go.Proofs.YtkcpanpdipmmmaaW.PrintMore Go.Proofs.Ytkcpanpdipmmmaa.P
open Go.Proofs.Ytkcpanpdipmmmaa.H (endsErr Right right_of StepOf stRoom IsFlow MaxF leastR pushW fillF bfP nodes netG dOf frP toP)
theorem max_fill {l : List S74} {n s t : Nat} (hr : Right l (List.replicate l.length 0) n) (hs : s < n) (ht : t < n) (hst : s ≠ t) : MaxF l (fillF l n s t) n s t := H.fill_max hr hs ht hst
theorem value_l0 (m : Int) (l : List S74) (f : List Int) (hn : NetOk m l) (hf : FlowOk l f) (v : Int) (d : Nat) : ∀ (i : Nat) (acc : Int), i + d = l.length → -(i * 2097152) ≤ acc → acc ≤ i * 2097152 →
  Ev (fun k => maxflow_Value.l0 k v f acc l (l.length : Int) (i : Int)) (acc + bal (l.drop i) (f.drop i) v) := by
 have hlen := hf.len
 have hl := hn.len
 induction d with
 | zero =>
  intro i acc hi h0 h1
  refine Ev.succ ?_; simp only [maxflow_Value.l0]
  repeat (first | exact Ev.now _ | with_reducible refine Ev.pos (by first | assumption | omega) ?_ | with_reducible refine Ev.neg (by first | assumption | omega) ?_ | with_reducible refine Ev.let_ ?_)
  rw [List.drop_of_length_le (by omega)]
  exact Ev.done (by simp [bal])
 | succ d ih =>
  intro i acc hi h0 h1
  have hs := hf.small hn (i := (i : Int)) (by omega) (by omega)
  refine Ev.succ ?_; simp only [maxflow_Value.l0]
  repeat (first | exact Ev.now _ | with_reducible refine Ev.pos (by first | assumption | omega) ?_ | with_reducible refine Ev.neg (by first | assumption | omega) ?_ | with_reducible refine Ev.let_ ?_)
  rw [wrap_succ (n := l.length) (by omega) (by omega), drop_getD l i z74 (by omega), drop_getD f i 0 (by omega), ← rdArc_nat, ← rd_nat, bal_cons]
  refine Ev.ite (fun g => ?_) (fun g => ?_)
  ·rw [if_pos g]
   refine Ev.pos (by omega) ?_
   refine Ev.ite (fun g2 => ?_) (fun g2 => ?_)
   ·rw [if_pos g2, wrap_id (x := acc + rd f (i : Int)) (by omega) (by omega), wrap_id (by omega) (by omega)]
    exact Ev.eq (ih (i + 1) _ (by omega) (by omega) (by omega)) (by omega)
   ·rw [if_neg g2, wrap_id (x := acc + rd f (i : Int)) (by omega) (by omega)]
    exact Ev.eq (ih (i + 1) _ (by omega) (by omega) (by omega)) (by omega)
  ·rw [if_neg g]
   refine Ev.ite (fun g2 => ?_) (fun g2 => ?_)
   ·refine Ev.pos (by omega) ?_
    rw [if_pos g2, wrap_id (x := acc - rd f (i : Int)) (by omega) (by omega)]
    exact Ev.eq (ih (i + 1) _ (by omega) (by omega) (by omega)) (by omega)
   ·rw [if_neg g2]
    exact Ev.eq (ih (i + 1) _ (by omega) (by omega) (by omega)) (by omega)
theorem value_ev (n m : Int) (b : Bool) (l : List S74) (f : List Int) (hn : NetOk m l) (hf : FlowOk l f) (v : Int) : Ev (fun k => maxflow_Value.f k n b l v f) (bal l f v) := by
 unfold maxflow_Value.f
 exact Ev.eq (value_l0 m l f hn hf v l.length 0 0 (by omega) (by omega) (by omega)) (by rw [List.drop_zero, List.drop_zero]; omega)
def maxR (n : Int) (l : List S74) (s t : Int) : List Int × Int × Int :=
 if endsErr n l s t = 0 then (fillF l n.toNat s.toNat t.toNat, bal l (fillF l n.toNat s.toNat t.toNat) s, 0) else ([], 0, endsErr n l s t)
def mostR (n : Int) (l : List S74) (s t : Int) : Int × Int :=
 if endsErr n l s t = 0 then (bal l (fillF l n.toNat s.toNat t.toNat) s, 0) else (0, endsErr n l s t)
theorem fill_eq {n : Int} {l : List S74} {s t : Int} (b : Bool) (h : endsErr n l s t = 0) : maxflow_Fill.f n b l s t = some (fillF l n.toNat s.toNat t.toNat) := by unfold maxflow_Fill.f; rw [if_pos h]
theorem max_ev (n : Int) (b : Bool) (l : List S74) (s t : Int) : Ev (fun k => maxflow_Max.f k n b l s t) (maxR n l s t) := by
 unfold maxflow_Max.f maxR
 refine Ev.bind (ends_ev n b l s t) ?_
 by_cases h : endsErr n l s t = 0
 ·rw [if_pos h]
  refine Ev.pos h ?_
  refine Ev.call (fill_eq b h) ?_
  obtain ⟨n0, s0, t0, rfl, rfl, rfl, hs, ht, hst, hn, hr⟩ := ends_zero h
  simp only [Int.toNat_natCast]
  refine Ev.bind (value_ev n0 n0 b l _ hn (flowOk_of (max_fill hr hs ht hst).flow.right) s0) ?_
  exact Ev.now _
 ·rw [if_neg h]
  refine Ev.neg h ?_
  exact Ev.now _
theorem most_ev (n : Int) (b : Bool) (l : List S74) (s t : Int) : Ev (fun k => maxflow_Most.f k n b l s t) (mostR n l s t) := by
 unfold maxflow_Most.f
 refine Ev.bind (max_ev n b l s t) ?_
 refine Ev.done ?_
 unfold maxR mostR
 split <;> rfl
theorem mostR_nat {l : List S74} {n s t : Nat} (h : endsErr (n : Int) l (s : Int) (t : Int) = 0) : mostR n l s t = (bal l (fillF l n s t) s, 0) := by
 unfold mostR; rw [if_pos h]; simp only [Int.toNat_natCast]
end Go.Proofs.Ytkcpanpdipmmmaa.Q
namespace Go.Proofs.Ytkcpanpdipmmmaa.Q
open Go.RowKit Go.Proofs.YtkcpanpdipmmmaaW.PrintWords Go.Proofs.YtkcpanpdipmmmaaW.PrintLast Go.Proofs.YtkcpanpdipmmmaaW.PrintMore Go.Proofs.Ytkcpanpdipmmmaa.P
open Go.Proofs.Ytkcpanpdipmmmaa.H (endsErr Right right_of IsFlow MaxF fillF bfP nodes dOf dOf_len dOf_get fnd fnd_none capR capR_cons sideP sideP_iff behindF)
def sd (S : List Bool) (v : Int) : Bool := rdOf false S v
theorem takes_l0 (m : Int) (l : List S74) (S : List Bool) (hn : NetOk m l) (hS : (S.length : Int) = m) (d : Nat) : ∀ (i : Nat) (acc : Int), i + d = l.length → 0 ≤ acc → acc ≤ 1048576 * i →
  Ev (fun k => mincut_takes.l0 k S acc l (l.length : Int) (i : Int)) (acc + capR (sd S) (l.drop i)) := by
 have hl := hn.len
 induction d with
 | zero =>
  intro i acc hi h0 h1
  refine Ev.succ ?_; simp only [mincut_takes.l0]
  refine Ev.neg (by omega) ?_
  rw [List.drop_of_length_le (by omega)]
  exact Ev.done (by simp [capR])
 | succ d ih =>
  intro i acc hi h0 h1
  have ha := hn.at_ (i := (i : Int)) (by omega) (by omega)
  have a0 := ha.f0
  have a1 := ha.f1
  have a2 := ha.f2
  have a3 := ha.h0
  have a4 := ha.h1
  have a5 := ha.h2
  rw [drop_getD l i z74 (by omega), ← rdArc_nat, capR_cons]
  refine Ev.succ ?_; simp only [mincut_takes.l0]
  refine Ev.pos (by omega) ?_
  refine Ev.pos (by omega) ?_
  refine Ev.pos (by omega) ?_
  refine Ev.pos (by omega) ?_
  refine Ev.pos (by omega) ?_
  rw [wrap_succ (n := l.length) (by omega) (by omega)]
  refine Ev.ite (fun g => ?_) (fun g => ?_)
  ·have g1 : sd S (rd_T74 l (i : Int)).f0 = true := g
   refine Ev.pos (by omega) ?_
   refine Ev.pos (by omega) ?_
   refine Ev.ite (fun g2 => ?_) (fun g2 => ?_)
   ·have g3 : sd S (rd_T74 l (i : Int)).f1 = true := g2
    rw [g1, g3, if_neg (by decide)]
    exact Ev.eq (ih (i + 1) _ (by omega) (by omega) (by omega)) (by omega)
   ·have g3 : sd S (rd_T74 l (i : Int)).f1 = false := Bool.eq_false_iff.2 g2
    rw [g1, g3, if_pos (by decide), wrap_id (by omega) (by omega)]
    exact Ev.eq (ih (i + 1) _ (by omega) (by omega) (by omega)) (by omega)
  ·have g1 : sd S (rd_T74 l (i : Int)).f0 = false := Bool.eq_false_iff.2 g
   rw [g1, if_neg (by simp)]
   exact Ev.eq (ih (i + 1) _ (by omega) (by omega) (by omega)) (by omega)
theorem takes_ev (n m : Int) (b : Bool) (l : List S74) (S : List Bool) (hn : NetOk m l) (hS : (S.length : Int) = m) : Ev (fun k => mincut_takes.f k n b l S) (capR (sd S) l) := by
 unfold mincut_takes.f
 exact Ev.eq (takes_l0 m l S hn hS l.length 0 0 (by omega) (by omega) (by omega)) (by rw [List.drop_zero]; omega)
def capaR (n : Int) (l : List S74) (S : List Bool) : Int × Int := if netErr n l = 0 then (if (S.length : Int) = n then (capR (sd S) l, 0) else (0, 1)) else (0, netErr n l)
theorem capacity_ev (n : Int) (b : Bool) (l : List S74) (S : List Bool) : Ev (fun k => mincut_Capacity.f k n b l S) (capaR n l S) := by
 unfold mincut_Capacity.f capaR
 refine Ev.bind (check_ev n b l) ?_
 refine Ev.ite (fun h => ?_) (fun h => ?_)
 ·rw [if_pos h]
  refine Ev.ite (fun g => ?_) (fun g => ?_)
  ·rw [if_pos g]
   exact Ev.bind (takes_ev n n b l S (netErr_ok h) g) (Ev.now _)
  ·rw [if_neg g]; exact Ev.now _
 ·rw [if_neg h]; exact Ev.now _
theorem capa_is {n : Int} {l : List S74} {S : List Bool} (h1 : netErr n l = 0) (h2 : (S.length : Int) = n) : capaR n l S = (capR (sd S) l, 0) := by unfold capaR; rw [if_pos h1, if_pos h2]
theorem same10_l0 (a : List Bool) (hl : a.length ≤ 1000000) (d : Nat) : ∀ i : Nat, i + d = a.length → Ev (fun k => ebbtideref10_Same.l0 k a a (i : Int)) true := by
 induction d with
 | zero =>
  intro i hi
  refine Ev.succ ?_; simp only [ebbtideref10_Same.l0]
  refine Ev.neg (by omega) ?_
  exact Ev.now _
 | succ d ih =>
  intro i hi
  refine Ev.succ ?_; simp only [ebbtideref10_Same.l0]
  refine Ev.pos (by omega) ?_
  refine Ev.pos (by omega) ?_
  refine Ev.pos (by omega) ?_
  refine Ev.neg (by simp) ?_
  rw [wrap_succ (n := a.length) (by omega) (by omega)]
  exact ih (i + 1) (by omega)
theorem same10_ev (a : List Bool) (hl : a.length ≤ 1000000) : Ev (fun k => ebbtideref10_Same.f k a a) true := by
 unfold ebbtideref10_Same.f
 refine Ev.pos rfl ?_
 exact same10_l0 a hl a.length 0 (by omega)
theorem behind_len (l : List S74) (F : List Int) (n s : Nat) : (behindF l F n s).length = n := by unfold behindF; rw [List.length_map, dOf_len]
theorem behind_get {l : List S74} {F : List Int} {n s v : Nat} (hv : v < n) : sd (behindF l F n s) (v : Int) = decide (v ∈ nodes (bfP l F n s)) := by
 unfold sd rdOf behindF
 rw [Int.toNat_natCast, List.getD_eq_getElem?_getD, List.getElem?_map]
 have hlt : v < (dOf n (bfP l F n s)).length := by rw [dOf_len]; exact hv
 have h := H.dOf_neg (bfP l F n s) 0 hv
 rw [List.getD_eq_getElem?_getD, List.getElem?_eq_getElem hlt] at h
 rw [List.getElem?_eq_getElem hlt]
 simp only [Option.getD_some] at h
 show decide ((dOf n (bfP l F n s))[v] ≥ 0) = _
 by_cases hm : v ∈ nodes (bfP l F n s)
 ·rw [decide_eq_true hm, decide_eq_true]
  have : ¬ (dOf n (bfP l F n s))[v] < 0 := fun g => h.1 g hm
  omega
 ·rw [decide_eq_false hm, decide_eq_false]
  have := h.2 hm
  omega
theorem behind_ext {S T : List Bool} {n : Nat} (h1 : S.length = n) (h2 : T.length = n) (h : ∀ v : Nat, v < n → sd S v = sd T v) : S = T := by
 apply List.ext_getElem (by omega)
 intro i g1 g2
 have := h i (by omega)
 unfold sd rdOf at this
 rw [Int.toNat_natCast, List.getD_eq_getElem?_getD, List.getD_eq_getElem?_getD, List.getElem?_eq_getElem g1, List.getElem?_eq_getElem g2] at this
 simpa using this
theorem behind_same {l : List S74} {F G : List Int} {n s t : Nat} (h : MaxF l F n s t) (g : MaxF l G n s t) (hs : s < n) (hst : s ≠ t) : behindF l F n s = behindF l G n s := by
 refine behind_ext (behind_len _ _ _ _) (behind_len _ _ _ _) fun v hv => ?_
 rw [behind_get hv, behind_get hv]
 exact decide_eq_decide.2 (H.side_same h g hs hst v)
theorem capR_congr {R Q : Int → Bool} {n : Int} : ∀ {l : List S74}, (∀ a ∈ l, ArcOk n a) → (∀ v : Int, 0 ≤ v → v < n → R v = Q v) → capR R l = capR Q l
 | [], _, _ => rfl
 | a :: l, ha, h => by
  have h1 := ha a List.mem_cons_self
  rw [capR_cons, capR_cons, h _ h1.f0 h1.h0, h _ h1.f1 h1.h1, capR_congr (fun b hb => ha b (List.mem_cons_of_mem _ hb)) h]
theorem behind_cap {l : List S74} {F : List Int} {n s t : Nat} (hn : NetOk n l) (h : MaxF l F n s t) (hs : s < n) (hst : s ≠ t) : capR (sd (behindF l F n s)) l = bal l F s := by
 rw [(H.max_value h hs hst).1]
 refine capR_congr hn.arcs fun v h0 h1 => ?_
 obtain ⟨v, rfl⟩ : ∃ v' : Nat, v = v' := ⟨v.toNat, by omega⟩
 rw [behind_get (by omega)]
 unfold sideP
 rw [Int.toNat_natCast]
 exact decide_eq_decide.2 ⟨fun g => ⟨by omega, g⟩, fun g => g.2⟩
def leastS (n : Int) (l : List S74) (s t : Int) : List Bool × Int × Int :=
 if endsErr n l s t = 0 then (behindF l (fillF l n.toNat s.toNat t.toNat) n.toNat s.toNat, bal l (fillF l n.toNat s.toNat t.toNat) s, 0) else ([], 0, endsErr n l s t)
theorem leastS_nat {l : List S74} {n s t : Nat} (h : endsErr (n : Int) l (s : Int) (t : Int) = 0) : leastS n l s t = (behindF l (fillF l n s t) n s, bal l (fillF l n s t) s, 0) := by
 unfold leastS; rw [if_pos h]; simp only [Int.toNat_natCast]
theorem leastS_no {l : List S74} {n s t : Int} (h : ¬ endsErr n l s t = 0) : leastS n l s t = ([], 0, endsErr n l s t) := by unfold leastS; rw [if_neg h]
theorem least_ev (n : Int) (b : Bool) (l : List S74) (s t : Int) : Ev (fun k => mincut_Least.f k n b l s t) (leastS n l s t) := by
 unfold mincut_Least.f
 refine Ev.bind (ends_ev n b l s t) ?_
 by_cases h : endsErr n l s t = 0
 ·refine Ev.pos h ?_
  refine Ev.call (fill_eq b h) ?_
  obtain ⟨n0, s0, t0, rfl, rfl, rfl, hs, ht, hst, hn, hr⟩ := ends_zero h
  rw [leastS_nat h]
  simp only [Int.toNat_natCast]
  have hM := max_fill hr hs ht hst
  have ha := ask_of hn (flowOk_of hM.flow.right)
  have hB : mincut_Behind.f (n0 : Int) b l (fillF l n0 s0 t0) (s0 : Int) = some (behindF l (fillF l n0 s0 t0) n0 s0) := by
   unfold mincut_Behind.f
   rw [if_pos ⟨ha, by omega, by omega⟩, Int.toNat_natCast, Int.toNat_natCast]
  refine Ev.call hB ?_
  refine Ev.bind (takes_ev n0 n0 b l _ hn (by rw [behind_len])) ?_
  exact Ev.done (by rw [behind_cap hn hM hs hst])
 ·rw [leastS_no h]
  refine Ev.neg h ?_
  exact Ev.now _
end Go.Proofs.Ytkcpanpdipmmmaa.Q
namespace Go.Proofs.Ytkcpanpdipmmmaa.Q
open Go.RowKit Go.Proofs.YtkcpanpdipmmmaaW.PrintWords Go.Proofs.YtkcpanpdipmmmaaW.PrintLast Go.Proofs.YtkcpanpdipmmmaaW.PrintMore Go.Proofs.Ytkcpanpdipmmmaa.P
open Go.Proofs.Ytkcpanpdipmmmaa.H (endsErr Right right_of IsFlow MaxF fillF bfP nodes dOf dOf_len capR capR_cons sideP sideP_iff behindF)
def two10 : List S74 := [(⟨0, 1, 3, 0⟩ : S74), (⟨1, 2, 1, 0⟩ : S74)]
theorem two10_right : Right two10 (List.replicate two10.length 0) 3 := by
 obtain ⟨n0, h1, h2⟩ := right_of (n := 3) (l := two10) (F := List.replicate two10.length 0) (by decide +kernel)
 obtain rfl : n0 = 3 := by omega
 exact h2
theorem two10_max : MaxF two10 (fillF two10 3 0 2) 3 0 2 := max_fill two10_right (by decide) (by decide) (by decide)
theorem two10_top : MaxF two10 [1, 1] 3 0 2 := by
 obtain ⟨n0, h1, h2⟩ := right_of (n := 3) (l := two10) (F := [1, 1]) (by decide +kernel)
 obtain rfl : n0 = 3 := by omega
 refine ⟨⟨h2, fun v a b c d => ?_⟩, by decide +kernel⟩
 obtain rfl : v = 1 := by omega
 decide +kernel
theorem awake10_ev : Ev (fun k => ebbtidelaw10_awake.f k) true := by
 have e1 : endsErr 3 two10 0 2 = 0 := by decide +kernel
 have v1 : bal two10 (fillF two10 3 0 2) 0 = 1 := by
  have h_ := H.max_same (s := 0) (t := 2) two10_max two10_top (by decide) (by decide)
  have h_2 : bal two10 [1, 1] ((0 : Nat) : Int) = 1 := by decide +kernel
  rw [h_2] at h_
  exact h_
 have v2 : behindF two10 (fillF two10 3 0 2) 3 0 = [true, true, false] := by
  rw [behind_same (s := 0) (t := 2) two10_max two10_top (by decide) (by decide)]
  decide +kernel
 have m1 : leastS 3 two10 0 2 = ([true, true, false], 1, 0) := by
  have h_ := leastS_nat (n := 3) (l := two10) (s := 0) (t := 2) e1
  have h_2 : leastS 3 two10 0 2 = (behindF two10 (fillF two10 3 0 2) 3 0, bal two10 (fillF two10 3 0 2) 0, 0) := h_
  rw [h_2, v1, v2]
 have m2 : capaR 3 two10 [true, false, false] = (3, 0) := by decide +kernel
 unfold ebbtidelaw10_awake.f
 refine Ev.let_ ?_
 refine Ev.bind (least_ev 3 false two10 0 2) ?_
 refine Ev.bind (capacity_ev 3 false two10 _) ?_
 rw [m1, m2]
 refine Ev.pos rfl ?_
 refine Ev.pos rfl ?_
 refine Ev.bind (same10_ev [true, true, false] (by decide)) ?_
 refine Ev.pos rfl ?_
 refine Ev.pos rfl ?_
 exact Ev.now _
theorem mincutMeets_ev (n : Int) (b : Bool) (l : List S74) (s t : Int) : Ev (fun k => ebbtidelaw10_MincutMeets.f k n b l s t) true := by
 unfold ebbtidelaw10_MincutMeets.f
 refine Ev.bind awake10_ev ?_
 refine Ev.pos rfl ?_
 refine Ev.bind (least_ev n b l s t) ?_
 refine Ev.bind (most_ev n b l s t) ?_
 by_cases h : endsErr n l s t = 0
 ·obtain ⟨n0, s0, t0, rfl, rfl, rfl, hs, ht, hst, hn, hr⟩ := ends_zero h
  have hM := max_fill hr hs ht hst
  have hc := behind_cap hn hM hs hst
  have hl := behind_len l (fillF l n0 s0 t0) n0 s0
  have hs1 : s0 ∈ nodes (bfP l (fillF l n0 s0 t0) n0 s0) := sideP_iff.1 (H.max_value hM hs hst).2.1
  have g1 : sd (behindF l (fillF l n0 s0 t0) n0 s0) (s0 : Int) = true := by rw [behind_get hs]; exact decide_eq_true hs1
  have g2 : sd (behindF l (fillF l n0 s0 t0) n0 s0) (t0 : Int) = false := by rw [behind_get ht]; exact decide_eq_false hM.cut
  have hcap := capa_is (S := behindF l (fillF l n0 s0 t0) n0 s0) (netOk_err hn) (by rw [hl])
  rw [hc] at hcap
  rw [leastS_nat h, mostR_nat h]
  refine Ev.pos rfl ?_
  refine Ev.bind (capacity_ev n0 b l _) ?_
  rw [hcap]
  refine Ev.pos rfl ?_
  refine Ev.pos rfl ?_
  refine Ev.pos (by rw [hl]) ?_
  refine Ev.pos (by omega) ?_
  refine Ev.pos (by rw [hl]; omega) ?_
  refine Ev.pos g1 ?_
  refine Ev.pos (by omega) ?_
  refine Ev.pos (by rw [hl]; omega) ?_
  refine Ev.neg (by rw [show rdOf false (behindF l (fillF l n0 s0 t0) n0 s0) (t0 : Int) = false from g2]; decide) ?_
  refine Ev.pos rfl ?_
  exact Ev.done (beq_self_eq_true _)
 ·have e2 : mostR n l s t = (0, endsErr n l s t) := by unfold mostR; rw [if_neg h]
  rw [leastS_no h, e2]
  refine Ev.neg h ?_
  refine Ev.pos rfl ?_
  refine Ev.pos rfl ?_
  exact Ev.done rfl
end Go.Proofs.Ytkcpanpdipmmmaa.Q
