/- Joined by wip/tool/bundle.py out of: P40 QLCostSteps. -/
import Derived.Test.YtkcpanpdipmmmaaGapahkj
import Derived.Test.YtkcpanpdipmmmaaGdjoggl
import Derived.Test.YtkcpanpdipmmmaaGampnig
set_option linter.unusedVariables false
set_option linter.unusedSimpArgs false
namespace Go.Proofs.Ytkcpanpdipmmmaa.P
open Go.RowKit Go.Proofs.YtkcpanpdipmmmaaW.PrintWords Go.Proofs.YtkcpanpdipmmmaaW.PrintLast Go.Proofs.YtkcpanpdipmmmaaW.PrintMore
attribute [local go_sem] max2_int min2_int max_two min_two max_three min_three max_four min_four

/-! ### ebbtidelaw11_CostSteps: function 4 -/
mutual
def ebbtidelaw11_CostSteps.j0 : Nat → List Int → Int → Bool → List Int → List Bool → Bool → Int → Bool → List (S74) → Option (Bool)
 | 0, _, _, _, _, _, _, _, _, _ => none
 | k + 1, x1, x2, x7, x8, x9, x65, x298000, x298001, x298002 => if x65 = true then (some false) else ((ebbtideref07_Steps.f k x298000 x298001 x298002 x1).bind fun t308 => (if 0 ≤ x298000 then (if (x298000 : Int).toNat ≤ 35184372088832 then (ebbtidelaw11_CostSteps.l0 k x2 x7 x8 x9 t308 (List.replicate (x298000 : Int).toNat 0) 0 x298000 x298001 x298002) else (none)) else (none)))
def ebbtidelaw11_CostSteps.l0 : Nat → Int → Bool → List Int → List Bool → List (S38) → List Int → Int → Int → Bool → List (S74) → Option (Bool)
 | 0, _, _, _, _, _, _, _, _, _, _ => none
 | k + 1, x2, x7, x8, x9, x11, x12, x13, x298000, x298001, x298002 => if x13 < (x11.length : Int) then (if 0 ≤ x13 then ((ebbtideref07_From.f x298000 x298001 x298002 ((rd_T38 x11 x13).f0) ((rd_T38 x11 x13).f1)).bind fun t315 => ((ebbtideref07_To.f x298000 x298001 x298002 ((rd_T38 x11 x13).f0) ((rd_T38 x11 x13).f1)).bind fun t317 => (if 0 ≤ t315 then (if t315 < (x9.length : Int) then (if rdOf false x9 t315 = true then (if t315 < (x8.length : Int) then ((ebbtideref11_Time.f x298000 x298001 x298002 ((rd_T38 x11 x13).f0) ((rd_T38 x11 x13).f1)).bind fun t321 => (if 0 ≤ t317 then (if t317 < (x9.length : Int) then (if rdOf false x9 t317 = true then (if t317 < (x8.length : Int) then (ebbtidelaw11_CostSteps.j2 k x2 x7 x8 x9 x11 x12 x13 t317 (wrap64 ((rd x8 t315) + t321)) (decide ((rd x8 t317) > (wrap64 ((rd x8 t315) + t321)))) x298000 x298001 x298002) else (none)) else (ebbtidelaw11_CostSteps.j2 k x2 x7 x8 x9 x11 x12 x13 t317 (wrap64 ((rd x8 t315) + t321)) true x298000 x298001 x298002)) else (none)) else (none))) else (none)) else (ebbtidelaw11_CostSteps.l0 k x2 x7 x8 x9 x11 x12 (wrap64 (x13 + 1)) x298000 x298001 x298002)) else (none)) else (none)))) else (none)) else (ebbtidelaw11_CostSteps.l1 k x2 x7 x8 x9 x12 0 x298000 x298001 x298002)
def ebbtidelaw11_CostSteps.j2 : Nat → Int → Bool → List Int → List Bool → List (S38) → List Int → Int → Int → Int → Bool → Int → Bool → List (S74) → Option (Bool)
 | 0, _, _, _, _, _, _, _, _, _, _, _, _, _ => none
 | k + 1, x2, x7, x8, x9, x11, x12, x13, x15, x16, x118, x298000, x298001, x298002 => if x118 = true then (some false) else (if 0 ≤ x15 then (if x15 < (x8.length : Int) then (if (rd x8 x15) = x16 then (if x15 < (x12.length : Int) then (ebbtidelaw11_CostSteps.l0 k x2 x7 x8 x9 x11 (x12.set (x15 : Int).toNat (wrap64 ((rd x12 x15) + 1))) (wrap64 (x13 + 1)) x298000 x298001 x298002) else (none)) else (ebbtidelaw11_CostSteps.l0 k x2 x7 x8 x9 x11 x12 (wrap64 (x13 + 1)) x298000 x298001 x298002)) else (none)) else (none))
def ebbtidelaw11_CostSteps.l1 : Nat → Int → Bool → List Int → List Bool → List Int → Int → Int → Bool → List (S74) → Option (Bool)
 | 0, _, _, _, _, _, _, _, _, _ => none
 | k + 1, x2, x7, x8, x9, x12, x17, x298000, x298001, x298002 => if x17 < x298000 then (if 0 ≤ x17 then (if x17 < (x9.length : Int) then (if rdOf false x9 x17 = true then (if x17 = x2 then (ebbtidelaw11_CostSteps.l1 k x2 x7 x8 x9 x12 (wrap64 (x17 + 1)) x298000 x298001 x298002) else (if x17 < (x12.length : Int) then (if (rd x12 x17) = 0 then (some false) else (ebbtidelaw11_CostSteps.l1 k x2 x7 x8 x9 x12 (wrap64 (x17 + 1)) x298000 x298001 x298002)) else (none))) else (if x17 < (x8.length : Int) then (if (rd x8 x17) = 0 then (ebbtidelaw11_CostSteps.l1 k x2 x7 x8 x9 x12 (wrap64 (x17 + 1)) x298000 x298001 x298002) else (some false)) else (none))) else (none)) else (none)) else (some x7)
end
def ebbtidelaw11_CostSteps.f (k : Nat) (a0_0 : Int) (a0_1 : Bool) (l0_2 : List (S74)) (l1 : List Int) (a2 : Int) : Option (Bool) := (ebbtidelaw11_awake.f k).bind fun t298 => (if t298 = true then ((cost_Far.f k a0_0 a0_1 l0_2 l1 a2).bind fun bt299 => (if bt299.2.2 = 0 then (if (bt299.1.length : Int) = a0_0 then (if (bt299.2.1.length : Int) = a0_0 then (if 0 ≤ a2 then (if a2 < (bt299.2.1.length : Int) then (if rdOf false bt299.2.1 a2 = true then (if a2 < (bt299.1.length : Int) then (ebbtidelaw11_CostSteps.j0 k l1 a2 t298 bt299.1 bt299.2.1 ((rd bt299.1 a2) != 0) a0_0 a0_1 l0_2) else (none)) else (ebbtidelaw11_CostSteps.j0 k l1 a2 t298 bt299.1 bt299.2.1 true a0_0 a0_1 l0_2)) else (none)) else (none)) else (ebbtidelaw11_CostSteps.j0 k l1 a2 t298 bt299.1 bt299.2.1 true a0_0 a0_1 l0_2)) else (ebbtidelaw11_CostSteps.j0 k l1 a2 t298 bt299.1 bt299.2.1 true a0_0 a0_1 l0_2)) else (some ((wrap64 ((bt299.1.length : Int) + (bt299.2.1.length : Int))) == 0)))) else (some false))
theorem ebbtidelaw11_CostSteps.mono_l : ∀ k, (∀ y0 y1 y2 y3 y4 y5 y6 y7 y8, LeO (ebbtidelaw11_CostSteps.j0 k y0 y1 y2 y3 y4 y5 y6 y7 y8) (ebbtidelaw11_CostSteps.j0 (k + 1) y0 y1 y2 y3 y4 y5 y6 y7 y8)) ∧ (∀ y0 y1 y2 y3 y4 y5 y6 y7 y8 y9, LeO (ebbtidelaw11_CostSteps.l0 k y0 y1 y2 y3 y4 y5 y6 y7 y8 y9) (ebbtidelaw11_CostSteps.l0 (k + 1) y0 y1 y2 y3 y4 y5 y6 y7 y8 y9)) ∧ (∀ y0 y1 y2 y3 y4 y5 y6 y7 y8 y9 y10 y11 y12, LeO (ebbtidelaw11_CostSteps.j2 k y0 y1 y2 y3 y4 y5 y6 y7 y8 y9 y10 y11 y12) (ebbtidelaw11_CostSteps.j2 (k + 1) y0 y1 y2 y3 y4 y5 y6 y7 y8 y9 y10 y11 y12)) ∧ (∀ y0 y1 y2 y3 y4 y5 y6 y7 y8, LeO (ebbtidelaw11_CostSteps.l1 k y0 y1 y2 y3 y4 y5 y6 y7 y8) (ebbtidelaw11_CostSteps.l1 (k + 1) y0 y1 y2 y3 y4 y5 y6 y7 y8))
 | 0 => ⟨fun _ _ _ _ _ _ _ _ _ r h => by simp [ebbtidelaw11_CostSteps.j0] at h, fun _ _ _ _ _ _ _ _ _ _ r h => by simp [ebbtidelaw11_CostSteps.l0] at h, fun _ _ _ _ _ _ _ _ _ _ _ _ _ r h => by simp [ebbtidelaw11_CostSteps.j2] at h, fun _ _ _ _ _ _ _ _ _ r h => by simp [ebbtidelaw11_CostSteps.l1] at h⟩
 | k + 1 => by
  obtain ⟨ih0, ih1, ih2, ih3⟩ := ebbtidelaw11_CostSteps.mono_l k
  refine ⟨?_, ?_, ?_, ?_⟩
  ·intro y0 y1 y2 y3 y4 y5 y6 y7 y8
   unfold ebbtidelaw11_CostSteps.j0
   repeat' first
   | (with_reducible exact ih0 _ _ _ _ _ _ _ _ _)
   | (with_reducible exact ih1 _ _ _ _ _ _ _ _ _ _)
   | (with_reducible exact ih2 _ _ _ _ _ _ _ _ _ _ _ _ _)
   | (with_reducible exact ih3 _ _ _ _ _ _ _ _ _)
   | (with_reducible exact cost_Far.mono _ _ _ _ _ _)
   | (with_reducible exact ebbtidelaw11_awake.mono _)
   | (with_reducible exact ebbtideref07_Steps.mono _ _ _ _ _)
   | (with_reducible exact LeO.refl _)
   | (with_reducible exact LeO.none _)
   | (with_reducible refine LeO.ite ?_ ?_)
   | (with_reducible refine LeO.bind ?_ (fun _ => ?_))
   | exact ih0 _ _ _ _ _ _ _ _ _
   | exact ih1 _ _ _ _ _ _ _ _ _ _
   | exact ih2 _ _ _ _ _ _ _ _ _ _ _ _ _
   | exact ih3 _ _ _ _ _ _ _ _ _
   | exact cost_Far.mono _ _ _ _ _ _
   | exact ebbtidelaw11_awake.mono _
   | exact ebbtideref07_Steps.mono _ _ _ _ _
   | exact LeO.none _
   | refine LeO.ite ?_ ?_
   | refine LeO.bind ?_ (fun _ => ?_)
  ·intro y0 y1 y2 y3 y4 y5 y6 y7 y8 y9
   unfold ebbtidelaw11_CostSteps.l0
   repeat' first
   | (with_reducible exact ih0 _ _ _ _ _ _ _ _ _)
   | (with_reducible exact ih1 _ _ _ _ _ _ _ _ _ _)
   | (with_reducible exact ih2 _ _ _ _ _ _ _ _ _ _ _ _ _)
   | (with_reducible exact ih3 _ _ _ _ _ _ _ _ _)
   | (with_reducible exact cost_Far.mono _ _ _ _ _ _)
   | (with_reducible exact ebbtidelaw11_awake.mono _)
   | (with_reducible exact ebbtideref07_Steps.mono _ _ _ _ _)
   | (with_reducible exact LeO.refl _)
   | (with_reducible exact LeO.none _)
   | (with_reducible refine LeO.ite ?_ ?_)
   | (with_reducible refine LeO.bind ?_ (fun _ => ?_))
   | exact ih0 _ _ _ _ _ _ _ _ _
   | exact ih1 _ _ _ _ _ _ _ _ _ _
   | exact ih2 _ _ _ _ _ _ _ _ _ _ _ _ _
   | exact ih3 _ _ _ _ _ _ _ _ _
   | exact cost_Far.mono _ _ _ _ _ _
   | exact ebbtidelaw11_awake.mono _
   | exact ebbtideref07_Steps.mono _ _ _ _ _
   | exact LeO.none _
   | refine LeO.ite ?_ ?_
   | refine LeO.bind ?_ (fun _ => ?_)
  ·intro y0 y1 y2 y3 y4 y5 y6 y7 y8 y9 y10 y11 y12
   unfold ebbtidelaw11_CostSteps.j2
   repeat' first
   | (with_reducible exact ih0 _ _ _ _ _ _ _ _ _)
   | (with_reducible exact ih1 _ _ _ _ _ _ _ _ _ _)
   | (with_reducible exact ih2 _ _ _ _ _ _ _ _ _ _ _ _ _)
   | (with_reducible exact ih3 _ _ _ _ _ _ _ _ _)
   | (with_reducible exact cost_Far.mono _ _ _ _ _ _)
   | (with_reducible exact ebbtidelaw11_awake.mono _)
   | (with_reducible exact ebbtideref07_Steps.mono _ _ _ _ _)
   | (with_reducible exact LeO.refl _)
   | (with_reducible exact LeO.none _)
   | (with_reducible refine LeO.ite ?_ ?_)
   | (with_reducible refine LeO.bind ?_ (fun _ => ?_))
   | exact ih0 _ _ _ _ _ _ _ _ _
   | exact ih1 _ _ _ _ _ _ _ _ _ _
   | exact ih2 _ _ _ _ _ _ _ _ _ _ _ _ _
   | exact ih3 _ _ _ _ _ _ _ _ _
   | exact cost_Far.mono _ _ _ _ _ _
   | exact ebbtidelaw11_awake.mono _
   | exact ebbtideref07_Steps.mono _ _ _ _ _
   | exact LeO.none _
   | refine LeO.ite ?_ ?_
   | refine LeO.bind ?_ (fun _ => ?_)
  ·intro y0 y1 y2 y3 y4 y5 y6 y7 y8
   unfold ebbtidelaw11_CostSteps.l1
   repeat' first
   | (with_reducible exact ih0 _ _ _ _ _ _ _ _ _)
   | (with_reducible exact ih1 _ _ _ _ _ _ _ _ _ _)
   | (with_reducible exact ih2 _ _ _ _ _ _ _ _ _ _ _ _ _)
   | (with_reducible exact ih3 _ _ _ _ _ _ _ _ _)
   | (with_reducible exact cost_Far.mono _ _ _ _ _ _)
   | (with_reducible exact ebbtidelaw11_awake.mono _)
   | (with_reducible exact ebbtideref07_Steps.mono _ _ _ _ _)
   | (with_reducible exact LeO.refl _)
   | (with_reducible exact LeO.none _)
   | (with_reducible refine LeO.ite ?_ ?_)
   | (with_reducible refine LeO.bind ?_ (fun _ => ?_))
   | exact ih0 _ _ _ _ _ _ _ _ _
   | exact ih1 _ _ _ _ _ _ _ _ _ _
   | exact ih2 _ _ _ _ _ _ _ _ _ _ _ _ _
   | exact ih3 _ _ _ _ _ _ _ _ _
   | exact cost_Far.mono _ _ _ _ _ _
   | exact ebbtidelaw11_awake.mono _
   | exact ebbtideref07_Steps.mono _ _ _ _ _
   | exact LeO.none _
   | refine LeO.ite ?_ ?_
   | refine LeO.bind ?_ (fun _ => ?_)
theorem ebbtidelaw11_CostSteps.mono : ∀ a0 a1 a2 a3 a4 k, LeO (ebbtidelaw11_CostSteps.f k a0 a1 a2 a3 a4) (ebbtidelaw11_CostSteps.f (k + 1) a0 a1 a2 a3 a4) := by
 intro a0 a1 a2 a3 a4 k
 obtain ⟨ih0, ih1, ih2, ih3⟩ := ebbtidelaw11_CostSteps.mono_l k
 unfold ebbtidelaw11_CostSteps.f
 repeat' first
   | (with_reducible exact ih0 _ _ _ _ _ _ _ _ _)
   | (with_reducible exact ih1 _ _ _ _ _ _ _ _ _ _)
   | (with_reducible exact ih2 _ _ _ _ _ _ _ _ _ _ _ _ _)
   | (with_reducible exact ih3 _ _ _ _ _ _ _ _ _)
   | (with_reducible exact cost_Far.mono _ _ _ _ _ _)
   | (with_reducible exact ebbtidelaw11_awake.mono _)
   | (with_reducible exact ebbtideref07_Steps.mono _ _ _ _ _)
   | (with_reducible exact LeO.refl _)
   | (with_reducible exact LeO.none _)
   | (with_reducible refine LeO.ite ?_ ?_)
   | (with_reducible refine LeO.bind ?_ (fun _ => ?_))
   | exact ih0 _ _ _ _ _ _ _ _ _
   | exact ih1 _ _ _ _ _ _ _ _ _ _
   | exact ih2 _ _ _ _ _ _ _ _ _ _ _ _ _
   | exact ih3 _ _ _ _ _ _ _ _ _
   | exact cost_Far.mono _ _ _ _ _ _
   | exact ebbtidelaw11_awake.mono _
   | exact ebbtideref07_Steps.mono _ _ _ _ _
   | exact LeO.none _
   | refine LeO.ite ?_ ?_
   | refine LeO.bind ?_ (fun _ => ?_)
def ebbtidelaw11_CostSteps.T14 : Bool × List (List Nat × List Nat) := (true, [([], []), ([], []), ([], []), ([1, 2], [1, 2]), ([3], [3]), ([0, 4], [0, 4]), ([], []), ([], []), ([], []), ([7, 8], [7, 8]), ([9], [9]), ([6, 10, 5], [6, 10]), ([5, 11, 0, 1, 2, 3, 4, 5], [5]), ([11, 12, 0, 1, 2, 3, 4, 5, 6, 7, 8, 9, 10, 11, 12], [11])])
def ebbtidelaw11_CostSteps.B14 : List Nat := [0, 0, 0, 6, 14, 31, 0, 0, 0, 384, 896, 2047, 4095, 8191]
theorem ebbtidelaw11_CostSteps.tab14 : rtab .any (opsOf Try.f4 14) = ebbtidelaw11_CostSteps.T14 := by kernel_rfl
theorem ebbtidelaw11_CostSteps.bits14 : waitsOk ebbtidelaw11_CostSteps.T14.2 ebbtidelaw11_CostSteps.B14 = true := by kernel_rfl
def ebbtidelaw11_CostSteps.T16 : Bool × List (List Nat × List Nat) := (true, [([], []), ([], []), ([0, 1], [0, 1]), ([2], [2]), ([], []), ([], []), ([], []), ([5, 6], [5, 6]), ([7], [7]), ([4, 8], [4, 8]), ([3, 9], [3, 9]), ([10, 9, 0, 1, 2, 3, 4, 5, 6, 7, 8, 9, 10], [10])])
def ebbtidelaw11_CostSteps.B16 : List Nat := [0, 0, 3, 7, 0, 0, 0, 96, 224, 496, 1023, 2047]
theorem ebbtidelaw11_CostSteps.tab16 : rtab .any (opsOf Try.f4 16) = ebbtidelaw11_CostSteps.T16 := by kernel_rfl
theorem ebbtidelaw11_CostSteps.bits16 : waitsOk ebbtidelaw11_CostSteps.T16.2 ebbtidelaw11_CostSteps.B16 = true := by kernel_rfl
set_option maxHeartbeats 8000000 in
set_option maxRecDepth 100000 in
theorem ebbtidelaw11_CostSteps.calls (k : Nat) (a0_0 : Int) (a0_1 : Bool) (A0_2 : Option Addr) (c0_2 : Nat) (l0_2 : List (S74)) (A1 : Option Addr) (c1 : Nat) (l1 : List Int) (a2 : Int) (r : Bool) (w : World) (hr0_2 : Kd.C k74 w A0_2 l0_2.length l0_2) (hc0_2 : l0_2.length ≤ c0_2) (hr1 : Kd.C (Kd.int .i64) w A1 l1.length l1) (hc1 : l1.length ≤ c1) (h : ebbtidelaw11_CostSteps.f k a0_0 a0_1 l0_2 l1 a2 = some r) (hrT_ : r = true := by first | rfl | exact Aside0.out (by assumption)) :
  Calls Try.prog 4 #[.agg #[.int .i64 a0_0, .bool a0_1, .slice A0_2 l0_2.length c0_2], .slice A1 l1.length c1, .int .i64 a2] w fun e w' => e = .returned (.bool r) ∧ Below w.heap.size w w' := by
 have HRT := Aside0.mk hrT_
 clear hrT_
 have hu24 := Try.underlying24
 have hu38 := Try.underlying38
 have HR0_2 := Aside0.mk hr0_2
 have HC0_2 := Aside0.mk hc0_2
 clear hr0_2 hc0_2
 have HR1 := Aside0.mk hr1
 have HC1 := Aside0.mk hc1
 clear hr1 hc1
 have HB := Aside0.mk (Below.refl w.heap.size w)
 have H : ((ebbtidelaw11_awake.f k).bind fun t298 => (if t298 = true then ((cost_Far.f k a0_0 a0_1 l0_2 l1 a2).bind fun bt299 => (if bt299.2.2 = 0 then (if (bt299.1.length : Int) = a0_0 then (if (bt299.2.1.length : Int) = a0_0 then (if 0 ≤ a2 then (if a2 < (bt299.2.1.length : Int) then (if rdOf false bt299.2.1 a2 = true then (if a2 < (bt299.1.length : Int) then (ebbtidelaw11_CostSteps.j0 k l1 a2 t298 bt299.1 bt299.2.1 ((rd bt299.1 a2) != 0) a0_0 a0_1 l0_2) else (none)) else (ebbtidelaw11_CostSteps.j0 k l1 a2 t298 bt299.1 bt299.2.1 true a0_0 a0_1 l0_2)) else (none)) else (none)) else (ebbtidelaw11_CostSteps.j0 k l1 a2 t298 bt299.1 bt299.2.1 true a0_0 a0_1 l0_2)) else (ebbtidelaw11_CostSteps.j0 k l1 a2 t298 bt299.1 bt299.2.1 true a0_0 a0_1 l0_2)) else (some ((wrap64 ((bt299.1.length : Int) + (bt299.2.1.length : Int))) == 0)))) else (some false))) = some r := h
 clear h
 replace H := Option.bind_eq_some_iff.mp H
 obtain ⟨t298, A40, H⟩ := H
 replace H : (if t298 = true then ((cost_Far.f k a0_0 a0_1 l0_2 l1 a2).bind fun bt299 => (if bt299.2.2 = 0 then (if (bt299.1.length : Int) = a0_0 then (if (bt299.2.1.length : Int) = a0_0 then (if 0 ≤ a2 then (if a2 < (bt299.2.1.length : Int) then (if rdOf false bt299.2.1 a2 = true then (if a2 < (bt299.1.length : Int) then (ebbtidelaw11_CostSteps.j0 k l1 a2 t298 bt299.1 bt299.2.1 ((rd bt299.1 a2) != 0) a0_0 a0_1 l0_2) else (none)) else (ebbtidelaw11_CostSteps.j0 k l1 a2 t298 bt299.1 bt299.2.1 true a0_0 a0_1 l0_2)) else (none)) else (none)) else (ebbtidelaw11_CostSteps.j0 k l1 a2 t298 bt299.1 bt299.2.1 true a0_0 a0_1 l0_2)) else (ebbtidelaw11_CostSteps.j0 k l1 a2 t298 bt299.1 bt299.2.1 true a0_0 a0_1 l0_2)) else (some ((wrap64 ((bt299.1.length : Int) + (bt299.2.1.length : Int))) == 0)))) else (some false)) = some r := H
 have A4 := Aside0.mk A40
 clear A40
 by_cases c5 : t298 = true
 rotate_left
 ·replace c5 := Bool.eq_false_iff.mpr c5
  subst c5
  have H1 : (some false) = some r := by rw [if_neg (show ¬ (false = true) by decide)] at H; exact H
  exact absurd (Option.some.inj H1) (by rw [HRT.out]; decide)
 subst c5
 have H1 : ((cost_Far.f k a0_0 a0_1 l0_2 l1 a2).bind fun bt299 => (if bt299.2.2 = 0 then (if (bt299.1.length : Int) = a0_0 then (if (bt299.2.1.length : Int) = a0_0 then (if 0 ≤ a2 then (if a2 < (bt299.2.1.length : Int) then (if rdOf false bt299.2.1 a2 = true then (if a2 < (bt299.1.length : Int) then (ebbtidelaw11_CostSteps.j0 k l1 a2 true bt299.1 bt299.2.1 ((rd bt299.1 a2) != 0) a0_0 a0_1 l0_2) else (none)) else (ebbtidelaw11_CostSteps.j0 k l1 a2 true bt299.1 bt299.2.1 true a0_0 a0_1 l0_2)) else (none)) else (none)) else (ebbtidelaw11_CostSteps.j0 k l1 a2 true bt299.1 bt299.2.1 true a0_0 a0_1 l0_2)) else (ebbtidelaw11_CostSteps.j0 k l1 a2 true bt299.1 bt299.2.1 true a0_0 a0_1 l0_2)) else (some ((wrap64 ((bt299.1.length : Int) + (bt299.2.1.length : Int))) == 0)))) = some r := by rw [if_pos rfl] at H; exact H
 clear H
 have H := H1
 clear H1
 replace H := Option.bind_eq_some_iff.mp H
 obtain ⟨⟨t299, t302, t305⟩, A60, H⟩ := H
 replace H : (if t305 = 0 then (if (t299.length : Int) = a0_0 then (if (t302.length : Int) = a0_0 then (if 0 ≤ a2 then (if a2 < (t302.length : Int) then (if rdOf false t302 a2 = true then (if a2 < (t299.length : Int) then (ebbtidelaw11_CostSteps.j0 k l1 a2 true t299 t302 ((rd t299 a2) != 0) a0_0 a0_1 l0_2) else (none)) else (ebbtidelaw11_CostSteps.j0 k l1 a2 true t299 t302 true a0_0 a0_1 l0_2)) else (none)) else (none)) else (ebbtidelaw11_CostSteps.j0 k l1 a2 true t299 t302 true a0_0 a0_1 l0_2)) else (ebbtidelaw11_CostSteps.j0 k l1 a2 true t299 t302 true a0_0 a0_1 l0_2)) else (some ((wrap64 ((t299.length : Int) + (t302.length : Int))) == 0))) = some r := H
 have A6 := Aside0.mk A60
 clear A60
 by_cases c7 : t305 = 0
 rotate_left
 ·rw [if_neg c7] at H
  have c7b0 : (t305 == 0) = false := beq_eq_false_iff_ne.mpr c7
  have c7b1 : (t305 != 0) = true := bne_iff_ne.mpr c7
  obtain rfl := Option.some.inj H
  go_enter Try.func4, Try.ntmps4
  go_wp2_with (first | ((with_reducible refine gate_dst (N := 3) rfl ?_); (try (refine gate_guard (by rfl) ?_; dsimp only)); refine box_event ?hg (N := 3) ?hd (cs := #[.int .i64 a0_0, .bool a0_1, .slice A0_2 l0_2.length c0_2]) (t := 24) ?hr ?_; (case hd => rfl); (case hg => rfl); (case hr => first | (go_simp; done) | (go_simp; rfl)); intro gb297 hg w104 hbox hb; have n0_ := Aside0.mk (below_step HB.out hb); have n1_ := Aside0.mk (hbox); have n2_ := Aside0.mk ((by rw [hg]; exact (below_size HB.out) : w.heap.size ≤ gb297)); have n3_ := Aside0.mk ((by rw [hg]; exact (below_size HB.out) : w.heap.size ≤ gb297)); clear HB; have HB := n0_; have BK297 := n1_; have GW297 := n2_; have GE297 := n3_; clear n0_ n1_ n2_ n3_; clear hb hbox hg) | ((with_reducible refine gate_callee (f := 40) rfl ?_); refine goesL_ (some 18) rfl rfl Try.func40 (by kernel_rfl) rfl #[] rfl (by (try simp only [List.map_toArray, List.map_cons, List.map_nil]); first | done | rfl | (simp only [List.length_drop, List.length_take]; rfl)) ?_; (with_reducible refine (ebbtidelaw11_awake.calls k  true _ (by first | exact A4.out | (have h_ := A4.out; rw [← Nbq82.out] at h_; exact h_) | (have h_ := A4.out; rw [← Nbq61.out] at h_; exact h_) | (have h_ := A4.out; rw [← Nbq46.out] at h_; exact h_) | (have h_ := A4.out; rw [← Nbq17.out] at h_; exact h_))).mono ?_); rintro e w105 ⟨rfl, hb⟩; refine ⟨_, rfl, ?_⟩; have n0_ := Aside0.mk (blk_below BK297.out hb); have n1_ := Aside0.mk (below_step HB.out hb); clear BK297; clear HB; have BK297 := n0_; have HB := n1_; clear n0_ n1_; (try clear hb); (try clear hb2); (try clear hk); (try clear hi); have hcz106_0 : w105.cell? ⟨gb297, 0, none⟩ = some (.int .i64 a0_0) := (blk_cell BK297.out 0).trans rfl; have hcz106_1 : w105.cell? ⟨gb297, 1, none⟩ = some (.bool a0_1) := (blk_cell BK297.out 1).trans rfl; have hcz106_2 : w105.cell? ⟨gb297, 2, none⟩ = some (.slice A0_2 l0_2.length c0_2) := (blk_cell BK297.out 2).trans rfl; have hfz106_0 := blk_frozen BK297.out 0; have hfz106_1 := blk_frozen BK297.out 1; have hfz106_2 := blk_frozen BK297.out 2) | ((with_reducible refine gate_callee (f := 38) rfl ?_); refine goesL_ (some 25) rfl rfl Try.func38 (by kernel_rfl) rfl #[.agg #[.int .i64 a0_0, .bool a0_1, .slice A0_2 l0_2.length c0_2], .slice A1 l1.length c1, .int .i64 a2] rfl (by (try simp only [List.map_toArray, List.map_cons, List.map_nil]); first | done | rfl | (simp only [List.length_drop, List.length_take]; rfl)) ?_; (with_reducible refine (cost_Far.calls k a0_0 a0_1 _ _ l0_2 _ _ l1 a2 t299 t302 t305 _ ?side1 ?side2 ?side3 ?side4 A6.out).mono ?_); (case side1 => repeat (first | exact (Kd.C_below HR0_2.out HB.out) | (with_reducible refine Kd.C_alloc ?_ _) | (with_reducible refine Kd.C_drewN ?_ _) | (with_reducible refine Kd.C_drew ?_))); (case side2 => exact HC0_2.out); (case side3 => repeat (first | exact (Kd.C_below HR1.out HB.out) | (with_reducible refine Kd.C_alloc ?_ _) | (with_reducible refine Kd.C_drewN ?_ _) | (with_reducible refine Kd.C_drew ?_))); (case side4 => exact HC1.out); rintro e w107 ⟨v300, v303, rfl, ho0, ho1, hb⟩; refine ⟨_, rfl, ?_⟩; have n0_ := Aside0.mk (Kd.R_lower ho0 (below_size HB.out)); have n1_ := Aside0.mk (Kd.R_lower ho1 (below_size HB.out)); have n2_ := Aside0.mk (blk_below BK297.out hb); have n3_ := Aside0.mk (below_step HB.out hb); clear BK297; clear HB; have HO301 := n0_; have HO304 := n1_; have BK297 := n2_; have HB := n3_; clear n0_ n1_ n2_ n3_; (try clear hb); (try clear hb2); (try clear hk); (try clear hi); (try clear ho0); (try clear ho1); obtain ⟨Ao108, co108, eo108⟩ := Kd.R_slice HO301.out; subst eo108; obtain ⟨Ao109, co109, eo109⟩ := Kd.R_slice HO304.out; subst eo109))
  go_ret
  exact ⟨by first | rfl | (simp [errW_none, errW_some] <;> rfl) | (simp [*, errW_none, errW_some] <;> rfl), HB.out⟩
 rw [if_pos c7] at H
 have c7b0 : (t305 == 0) = true := beq_iff_eq.mpr c7
 have c7b1 : (t305 != 0) = false := bne_eq_false_iff_eq.mpr c7
 clear c7
 have HC8 := Aside0.mk H
 clear H
 go_enter Try.func4, Try.ntmps4
 go_upto_region 7 with (first | ((with_reducible refine gate_dst (N := 3) rfl ?_); (try (refine gate_guard (by rfl) ?_; dsimp only)); refine box_event ?hg (N := 3) ?hd (cs := #[.int .i64 a0_0, .bool a0_1, .slice A0_2 l0_2.length c0_2]) (t := 24) ?hr ?_; (case hd => rfl); (case hg => rfl); (case hr => first | (go_simp; done) | (go_simp; rfl)); intro gb297 hg w9 hbox hb; have n0_ := Aside0.mk (below_step HB.out hb); have n1_ := Aside0.mk (hbox); have n2_ := Aside0.mk ((by rw [hg]; exact (below_size HB.out) : w.heap.size ≤ gb297)); have n3_ := Aside0.mk ((by rw [hg]; exact (below_size HB.out) : w.heap.size ≤ gb297)); clear HB; have HB := n0_; have BK297 := n1_; have GW297 := n2_; have GE297 := n3_; clear n0_ n1_ n2_ n3_; clear hb hbox hg) | ((with_reducible refine gate_callee (f := 40) rfl ?_); refine goesL_ (some 18) rfl rfl Try.func40 (by kernel_rfl) rfl #[] rfl (by (try simp only [List.map_toArray, List.map_cons, List.map_nil]); first | done | rfl | (simp only [List.length_drop, List.length_take]; rfl)) ?_; (with_reducible refine (ebbtidelaw11_awake.calls k  true _ A4.out).mono ?_); rintro e w10 ⟨rfl, hb⟩; refine ⟨_, rfl, ?_⟩; have n0_ := Aside0.mk (blk_below BK297.out hb); have n1_ := Aside0.mk (below_step HB.out hb); clear BK297; clear HB; have BK297 := n0_; have HB := n1_; clear n0_ n1_; (try clear hb); (try clear hb2); (try clear hk); (try clear hi); have hcz11_0 : w10.cell? ⟨gb297, 0, none⟩ = some (.int .i64 a0_0) := (blk_cell BK297.out 0).trans rfl; have hcz11_1 : w10.cell? ⟨gb297, 1, none⟩ = some (.bool a0_1) := (blk_cell BK297.out 1).trans rfl; have hcz11_2 : w10.cell? ⟨gb297, 2, none⟩ = some (.slice A0_2 l0_2.length c0_2) := (blk_cell BK297.out 2).trans rfl; have hfz11_0 := blk_frozen BK297.out 0; have hfz11_1 := blk_frozen BK297.out 1; have hfz11_2 := blk_frozen BK297.out 2) | ((with_reducible refine gate_callee (f := 38) rfl ?_); refine goesL_ (some 25) rfl rfl Try.func38 (by kernel_rfl) rfl #[.agg #[.int .i64 a0_0, .bool a0_1, .slice A0_2 l0_2.length c0_2], .slice A1 l1.length c1, .int .i64 a2] rfl (by (try simp only [List.map_toArray, List.map_cons, List.map_nil]); first | done | rfl | (simp only [List.length_drop, List.length_take]; rfl)) ?_; (with_reducible refine (cost_Far.calls k a0_0 a0_1 _ _ l0_2 _ _ l1 a2 t299 t302 t305 _ ?side1 ?side2 ?side3 ?side4 A6.out).mono ?_); (case side1 => repeat (first | exact (Kd.C_below HR0_2.out HB.out) | (with_reducible refine Kd.C_alloc ?_ _) | (with_reducible refine Kd.C_drewN ?_ _) | (with_reducible refine Kd.C_drew ?_))); (case side2 => exact HC0_2.out); (case side3 => repeat (first | exact (Kd.C_below HR1.out HB.out) | (with_reducible refine Kd.C_alloc ?_ _) | (with_reducible refine Kd.C_drewN ?_ _) | (with_reducible refine Kd.C_drew ?_))); (case side4 => exact HC1.out); rintro e w12 ⟨v300, v303, rfl, ho0, ho1, hb⟩; refine ⟨_, rfl, ?_⟩; have n0_ := Aside0.mk (Kd.R_lower ho0 (below_size HB.out)); have n1_ := Aside0.mk (Kd.R_lower ho1 (below_size HB.out)); have n2_ := Aside0.mk (blk_below BK297.out hb); have n3_ := Aside0.mk (below_step HB.out hb); clear BK297; clear HB; have HO301 := n0_; have HO304 := n1_; have BK297 := n2_; have HB := n3_; clear n0_ n1_ n2_ n3_; (try clear hb); (try clear hb2); (try clear hk); (try clear hi); (try clear ho0); (try clear ho1)))
 (try simp only [Act.put, List.setIfInBounds_toArray, List.set_cons_zero, List.set_cons_succ])
 go_cut [65] (fun v65 wc => ∃ (kq : Nat) (x65_7 : Bool), v65 = .bool x65_7 ∧ Aside0 (ebbtidelaw11_CostSteps.j0 kq l1 a2 true t299 t302 x65_7 a0_0 a0_1 l0_2 = some r) ∧ Aside0 (kq ≤ k) ∧ Aside0 (Kd.R (Kd.int .i64) 3 wc w.heap.size (fun _ => True) v300 t299) ∧ Aside0 (Kd.R Kd.bool 4 wc w.heap.size (fun _ => True) v303 t302) ∧ Aside0 (wc.heap[gb297]? = some (.cells #[.int .i64 a0_0, .bool a0_1, (.slice A0_2 l0_2.length c0_2)] 24 (0, 0))) ∧ Aside0 (Below w.heap.size w wc))
 case first =>
  have H := HC8.out
  clear HC8
  by_cases c13 : (t299.length : Int) = a0_0
  rotate_left
  ·rw [if_neg c13] at H
   have c13b0 : ((t299.length : Int) == a0_0) = false := beq_eq_false_iff_ne.mpr c13
   have c13b1 : ((t299.length : Int) != a0_0) = true := bne_iff_ne.mpr c13
   (first | rw [c13b0] | (simp only [i64_w, i32_w]; rw [c13b0]) | skip)
   have H' := Aside0.mk H
   clear H
   obtain ⟨Ao29, co29, eo29⟩ := Kd.R_slice HO301.out
   subst eo29
   have hcz30_0 : w12.cell? ⟨gb297, 0, none⟩ = some (.int .i64 a0_0) := (blk_cell BK297.out 0).trans rfl
   have hcz30_1 : w12.cell? ⟨gb297, 1, none⟩ = some (.bool a0_1) := (blk_cell BK297.out 1).trans rfl
   have hcz30_2 : w12.cell? ⟨gb297, 2, none⟩ = some (.slice A0_2 l0_2.length c0_2) := (blk_cell BK297.out 2).trans rfl
   have hfz30_0 := blk_frozen BK297.out 0
   have hfz30_1 := blk_frozen BK297.out 1
   have hfz30_2 := blk_frozen BK297.out 2
   go_wp2
   go_meet
   case rel => exact ⟨_, (true), (by first | rfl | (simp; done) | (simp [*]; done)), H', ⟨by first | omega | exact Nat.le_refl _⟩, ⟨HO301.out⟩, ⟨HO304.out⟩, ⟨BK297.out⟩, ⟨HB.out⟩⟩
  rw [if_pos c13] at H
  have c13b0 : ((t299.length : Int) == a0_0) = true := beq_iff_eq.mpr c13
  have c13b1 : ((t299.length : Int) != a0_0) = false := bne_eq_false_iff_eq.mpr c13
  clear c13
  (first | rw [c13b0] | (simp only [i64_w, i32_w]; rw [c13b0]) | skip)
  by_cases c14 : (t302.length : Int) = a0_0
  rotate_left
  ·rw [if_neg c14] at H
   have c14b0 : ((t302.length : Int) == a0_0) = false := beq_eq_false_iff_ne.mpr c14
   have c14b1 : ((t302.length : Int) != a0_0) = true := bne_iff_ne.mpr c14
   have H' := Aside0.mk H
   clear H
   obtain ⟨Ao26, co26, eo26⟩ := Kd.R_slice HO301.out
   subst eo26
   have hcz27_0 : w12.cell? ⟨gb297, 0, none⟩ = some (.int .i64 a0_0) := (blk_cell BK297.out 0).trans rfl
   have hcz27_1 : w12.cell? ⟨gb297, 1, none⟩ = some (.bool a0_1) := (blk_cell BK297.out 1).trans rfl
   have hcz27_2 : w12.cell? ⟨gb297, 2, none⟩ = some (.slice A0_2 l0_2.length c0_2) := (blk_cell BK297.out 2).trans rfl
   have hfz27_0 := blk_frozen BK297.out 0
   have hfz27_1 := blk_frozen BK297.out 1
   have hfz27_2 := blk_frozen BK297.out 2
   obtain ⟨Ao28, co28, eo28⟩ := Kd.R_slice HO304.out
   subst eo28
   go_wp2
   go_meet
   case rel => exact ⟨_, (true), (by first | rfl | (simp; done) | (simp [*]; done)), H', ⟨by first | omega | exact Nat.le_refl _⟩, ⟨HO301.out⟩, ⟨HO304.out⟩, ⟨BK297.out⟩, ⟨HB.out⟩⟩
  rw [if_pos c14] at H
  have c14b0 : ((t302.length : Int) == a0_0) = true := beq_iff_eq.mpr c14
  have c14b1 : ((t302.length : Int) != a0_0) = false := bne_eq_false_iff_eq.mpr c14
  clear c14
  by_cases c15 : 0 ≤ a2
  rotate_left
  ·rw [if_neg c15] at H
   exact absurd H (by simp)
  rw [if_pos c15] at H
  have c15b0 : decide (0 ≤ a2) = true := decide_eq_true c15
  clear c15
  by_cases c16 : a2 < (t302.length : Int)
  rotate_left
  ·rw [if_neg c16] at H
   exact absurd H (by simp)
  rw [if_pos c16] at H
  have c16b0 : decide (a2 < (t302.length : Int)) = true := decide_eq_true c16
  clear c16
  obtain ⟨bq17, hbq17⟩ : ∃ b_ : Bool, b_ = (rdOf false t302 a2) := ⟨_, rfl⟩
  replace H : (if bq17 = true then (if a2 < (t299.length : Int) then (ebbtidelaw11_CostSteps.j0 k l1 a2 true t299 t302 ((rd t299 a2) != 0) a0_0 a0_1 l0_2) else (none)) else (ebbtidelaw11_CostSteps.j0 k l1 a2 true t299 t302 true a0_0 a0_1 l0_2)) = some r := by rw [← hbq17] at H; exact H
  have Nbq17 := Aside0.mk hbq17
  clear hbq17
  by_cases c18 : bq17 = true
  rotate_left
  ·replace c18 := Bool.eq_false_iff.mpr c18
   subst c18
   have H1 : (ebbtidelaw11_CostSteps.j0 k l1 a2 true t299 t302 true a0_0 a0_1 l0_2) = some r := by rw [if_neg (show ¬ (false = true) by decide)] at H; exact H
   clear H
   have H := H1
   clear H1
   have H' := Aside0.mk H
   clear H
   obtain ⟨Ao23, co23, eo23⟩ := Kd.R_slice HO301.out
   subst eo23
   have hcz24_0 : w12.cell? ⟨gb297, 0, none⟩ = some (.int .i64 a0_0) := (blk_cell BK297.out 0).trans rfl
   have hcz24_1 : w12.cell? ⟨gb297, 1, none⟩ = some (.bool a0_1) := (blk_cell BK297.out 1).trans rfl
   have hcz24_2 : w12.cell? ⟨gb297, 2, none⟩ = some (.slice A0_2 l0_2.length c0_2) := (blk_cell BK297.out 2).trans rfl
   have hfz24_0 := blk_frozen BK297.out 0
   have hfz24_1 := blk_frozen BK297.out 1
   have hfz24_2 := blk_frozen BK297.out 2
   obtain ⟨Ao25, co25, eo25⟩ := Kd.R_slice HO304.out
   subst eo25
   have p306 : 0 ≤ (a2 : Int) := of_decide_eq_true (by first | (with_reducible assumption) | assumption)
   have q306 : a2 < (t302.length : Int) := of_decide_eq_true (by first | (with_reducible assumption) | assumption)
   obtain ⟨ad306, e306, hx306_0⟩ := Kd.at_bool (Kd.R_reads' HO304.out).2.2 a2 p306 q306
   (try rw [← Nbq17.out] at hx306_0)
   cases e306
   replace p306 := eq_true p306
   replace q306 := eq_true q306
   go_wp2
   go_meet
   case rel => exact ⟨_, (true), (by first | rfl | (simp; done) | (simp [*]; done)), H', ⟨by first | omega | exact Nat.le_refl _⟩, ⟨HO301.out⟩, ⟨HO304.out⟩, ⟨BK297.out⟩, ⟨HB.out⟩⟩
  subst c18
  have H1 : (if a2 < (t299.length : Int) then (ebbtidelaw11_CostSteps.j0 k l1 a2 true t299 t302 ((rd t299 a2) != 0) a0_0 a0_1 l0_2) else (none)) = some r := by rw [if_pos rfl] at H; exact H
  clear H
  have H := H1
  clear H1
  by_cases c19 : a2 < (t299.length : Int)
  rotate_left
  ·rw [if_neg c19] at H
   exact absurd H (by simp)
  rw [if_pos c19] at H
  have c19b0 : decide (a2 < (t299.length : Int)) = true := decide_eq_true c19
  clear c19
  have H' := Aside0.mk H
  clear H
  obtain ⟨Ao20, co20, eo20⟩ := Kd.R_slice HO301.out
  subst eo20
  have hcz21_0 : w12.cell? ⟨gb297, 0, none⟩ = some (.int .i64 a0_0) := (blk_cell BK297.out 0).trans rfl
  have hcz21_1 : w12.cell? ⟨gb297, 1, none⟩ = some (.bool a0_1) := (blk_cell BK297.out 1).trans rfl
  have hcz21_2 : w12.cell? ⟨gb297, 2, none⟩ = some (.slice A0_2 l0_2.length c0_2) := (blk_cell BK297.out 2).trans rfl
  have hfz21_0 := blk_frozen BK297.out 0
  have hfz21_1 := blk_frozen BK297.out 1
  have hfz21_2 := blk_frozen BK297.out 2
  obtain ⟨Ao22, co22, eo22⟩ := Kd.R_slice HO304.out
  subst eo22
  have p306 : 0 ≤ (a2 : Int) := of_decide_eq_true (by first | (with_reducible assumption) | assumption)
  have q306 : a2 < (t302.length : Int) := of_decide_eq_true (by first | (with_reducible assumption) | assumption)
  obtain ⟨ad306, e306, hx306_0⟩ := Kd.at_bool (Kd.R_reads' HO304.out).2.2 a2 p306 q306
  (try rw [← Nbq17.out] at hx306_0)
  cases e306
  replace p306 := eq_true p306
  replace q306 := eq_true q306
  have p307 : 0 ≤ (a2 : Int) := of_decide_eq_true (by first | (with_reducible assumption) | assumption)
  have q307 : a2 < (t299.length : Int) := of_decide_eq_true (by first | (with_reducible assumption) | assumption)
  obtain ⟨ad307, e307, hx307_0⟩ := Kd.at_int (Kd.R_reads' HO301.out).2.2 a2 p307 q307
  cases e307
  replace p307 := eq_true p307
  replace q307 := eq_true q307
  go_wp2
  go_meet
  case rel => exact ⟨_, (((rd t299 a2) != 0)), (by first | rfl | (simp; done) | (simp [*]; done)), H', ⟨by first | omega | exact Nat.le_refl _⟩, ⟨HO301.out⟩, ⟨HO304.out⟩, ⟨BK297.out⟩, ⟨HB.out⟩⟩
 case rest =>
  clear HC8
  try clear c1
  try clear q1
  try clear p2
  try clear c3
  try clear p3
  try clear q3
  try clear hx3
  try clear c4
  try clear c5
  try clear p6
  try clear c7
  try clear c7b0
  try clear c7b1
  try clear c13
  try clear c13b0
  try clear c13b1
  try clear c14
  try clear c14b0
  try clear c14b1
  try clear c15
  try clear c15b0
  try clear c16
  try clear c16b0
  try clear q17
  try clear c18
  try clear c19
  try clear c19b0
  try clear p30
  try clear q30
  try clear hx30
  try clear hcz11_0
  try clear hcz11_1
  try clear hcz11_2
  try clear hcz21_0
  try clear hcz21_1
  try clear hcz21_2
  try clear hcz24_0
  try clear hcz24_1
  try clear hcz24_2
  try clear hcz27_0
  try clear hcz27_1
  try clear hcz27_2
  try clear hcz30_0
  try clear hcz30_1
  try clear hcz30_2
  try clear hfz11_0
  try clear hfz11_1
  try clear hfz11_2
  try clear hfz21_0
  try clear hfz21_1
  try clear hfz21_2
  try clear hfz24_0
  try clear hfz24_1
  try clear hfz24_2
  try clear hfz27_0
  try clear hfz27_1
  try clear hfz27_2
  try clear hfz30_0
  try clear hfz30_1
  try clear hfz30_2
  try clear hx306_0
  try clear hx307_0
  try clear p306
  try clear p307
  try clear q306
  try clear q307
  obtain ⟨kq, x65_7, rfl, HA, HJ7, HO_8, HO_9, BK297, HB⟩ := hcut
  cases kq with
  | zero => exact absurd HA.out (by simp [ebbtidelaw11_CostSteps.j0])
  | succ kj7 =>
   have H := HA.out
   clear HA
   simp only [ebbtidelaw11_CostSteps.j0] at H
   by_cases c31 : x65_7 = true
   ·subst c31
    have H1 : (some false) = some r := by rw [if_pos rfl] at H; exact H
    exact absurd (Option.some.inj H1) (by rw [HRT.out]; decide)
   replace c31 := Bool.eq_false_iff.mpr c31
   subst c31
   have H1 : ((ebbtideref07_Steps.f kj7 a0_0 a0_1 l0_2 l1).bind fun t308 => (if 0 ≤ a0_0 then (if (a0_0 : Int).toNat ≤ 35184372088832 then (ebbtidelaw11_CostSteps.l0 kj7 a2 true t299 t302 t308 (List.replicate (a0_0 : Int).toNat 0) 0 a0_0 a0_1 l0_2) else (none)) else (none))) = some r := by rw [if_neg (show ¬ (false = true) by decide)] at H; exact H
   clear H
   have H := H1
   clear H1
   replace H := Option.bind_eq_some_iff.mp H
   obtain ⟨t308, A320, H⟩ := H
   replace H : (if 0 ≤ a0_0 then (if (a0_0 : Int).toNat ≤ 35184372088832 then (ebbtidelaw11_CostSteps.l0 kj7 a2 true t299 t302 t308 (List.replicate (a0_0 : Int).toNat 0) 0 a0_0 a0_1 l0_2) else (none)) else (none)) = some r := H
   have A32 := Aside0.mk A320
   clear A320
   by_cases c33 : 0 ≤ a0_0
   rotate_left
   ·rw [if_neg c33] at H
    exact absurd H (by simp)
   rw [if_pos c33] at H
   have c33b0 := eq_true c33
   have c33b1 : decide (0 ≤ a0_0) = true := decide_eq_true c33
   clear c33
   by_cases c34 : (a0_0 : Int).toNat ≤ 35184372088832
   rotate_left
   ·rw [if_neg c34] at H
    exact absurd H (by simp)
   rw [if_pos c34] at H
   have c34b0 := eq_true c34
   have c34b1 : decide ((a0_0 : Int).toNat ≤ 35184372088832) = true := decide_eq_true c34
   clear c34
   obtain ⟨y311, hy311⟩ : ∃ y_ : List Int, y_ = (List.replicate (a0_0 : Int).toNat 0) := ⟨_, rfl⟩
   replace H : (ebbtidelaw11_CostSteps.l0 kj7 a2 true t299 t302 t308 y311 0 a0_0 a0_1 l0_2) = some r := by first | (rw [hy311]; with_reducible exact H) | (have H2_ := (Option.bind_some _ _).symm.trans H; rw [hy311]; with_reducible exact H2_) | (have H2_ := (Option.bind_some _ _).symm.trans H; with_reducible exact H2_) | with_reducible exact H | (rw [hy311]; exact H) | exact H
   have Ny311 := Aside0.mk hy311
   clear hy311
   have H' := Aside0.mk H
   clear H
   have hcz35_0 : wc.cell? ⟨gb297, 0, none⟩ = some (.int .i64 a0_0) := (blk_cell BK297.out 0).trans rfl
   have hcz35_1 : wc.cell? ⟨gb297, 1, none⟩ = some (.bool a0_1) := (blk_cell BK297.out 1).trans rfl
   have hcz35_2 : wc.cell? ⟨gb297, 2, none⟩ = some (.slice A0_2 l0_2.length c0_2) := (blk_cell BK297.out 2).trans rfl
   have hfz35_0 := blk_frozen BK297.out 0
   have hfz35_1 := blk_frozen BK297.out 1
   have hfz35_2 := blk_frozen BK297.out 2
   go_wp2_with (first | ((with_reducible refine gate_callee (f := 43) rfl ?_); refine goesL_ (some 68) rfl rfl Try.func43 (by kernel_rfl) rfl #[.agg #[.int .i64 a0_0, .bool a0_1, .slice A0_2 l0_2.length c0_2], .slice A1 l1.length c1] rfl (by (try simp only [List.map_toArray, List.map_cons, List.map_nil]); first | done | rfl | (simp only [List.length_drop, List.length_take]; rfl)) ?_; (with_reducible refine (ebbtideref07_Steps.calls kj7 a0_0 a0_1 _ _ l0_2 _ _ l1 t308 _ ?side1 ?side2 ?side3 ?side4 (by first | exact A32.out | (have h_ := A32.out; rw [← Nbq17.out] at h_; exact h_))).mono ?_); (case side1 => repeat (first | exact (Kd.C_below HR0_2.out HB.out) | (with_reducible refine Kd.C_alloc ?_ _) | (with_reducible refine Kd.C_drewN ?_ _) | (with_reducible refine Kd.C_drew ?_))); (case side2 => exact HC0_2.out); (case side3 => repeat (first | exact (Kd.C_below HR1.out HB.out) | (with_reducible refine Kd.C_alloc ?_ _) | (with_reducible refine Kd.C_drewN ?_ _) | (with_reducible refine Kd.C_drew ?_))); (case side4 => exact HC1.out); rintro e w36 ⟨v309, rfl, ho0, hb⟩; refine ⟨_, rfl, ?_⟩; have n0_ := Aside0.mk (Kd.R_below HO_8.out hb); have n1_ := Aside0.mk (Kd.R_below HO_9.out hb); have n2_ := Aside0.mk (Kd.R_lower ho0 (below_size HB.out)); have n3_ := Aside0.mk (blk_below BK297.out hb); have n4_ := Aside0.mk (below_step HB.out hb); clear HO_8; clear HO_9; clear BK297; clear HB; have HO_8 := n0_; have HO_9 := n1_; have HO310 := n2_; have BK297 := n3_; have HB := n4_; clear n0_ n1_ n2_ n3_ n4_; (try clear hb); (try clear hb2); (try clear hk); (try clear hi); (try clear ho0); have hcz37_0 : w36.cell? ⟨gb297, 0, none⟩ = some (.int .i64 a0_0) := (blk_cell BK297.out 0).trans rfl; have hcz37_1 : w36.cell? ⟨gb297, 1, none⟩ = some (.bool a0_1) := (blk_cell BK297.out 1).trans rfl; have hcz37_2 : w36.cell? ⟨gb297, 2, none⟩ = some (.slice A0_2 l0_2.length c0_2) := (blk_cell BK297.out 2).trans rfl; have hfz37_0 := blk_frozen BK297.out 0; have hfz37_1 := blk_frozen BK297.out 1; have hfz37_2 := blk_frozen BK297.out 2) | ((with_reducible refine gate_dst (N := 71) rfl ?_); (try (refine gate_guard (by rfl) ?_; dsimp only)); refine Kd.R_make (Kd.int .i64) _ 3 rfl (N := 71) rfl 25 _ _ rfl a0_0 rfl rfl Try.underlying25 (.int .i64 0) 8 info3 rfl (by decide) (by omega) 0 (ok := fun _ => True) (okp := fun _ => True) rfl (fun _ hk => hk) trivial (of_decide_eq_true (by first | (with_reducible assumption) | assumption)) (Nat.le_trans (Nat.mul_le_mul_right _ (of_decide_eq_true (by first | (with_reducible assumption) | assumption) : a0_0.toNat ≤ 35184372088832)) (by omega)) (Below.refl _ _) (Nat.le_refl _) ?_; intro v312 w38 ho39 hb hg_ hnew_; clear hg_ hnew_; (first | rw [← Ny311.out] at ho39 | (simp only [Int.reduceToNat] at ho39; rw [← Ny311.out] at ho39)); have n0_ := Aside0.mk (Kd.R_elder' HO_8.out (Kd.R_base ho39) hb); have n1_ := Aside0.mk (Kd.R_below HO_9.out hb); have n2_ := Aside0.mk (Kd.R_below HO310.out hb); have n3_ := Aside0.mk (Kd.R_lower (Kd.R_new' ho39 (Kd.R_lt HO_8.out)) (below_size HB.out)); have n4_ := Aside0.mk (blk_below BK297.out hb); have n5_ := Aside0.mk (below_step HB.out hb); clear HO_8; clear HO_9; clear HO310; clear BK297; clear HB; have HO_8 := n0_; have HO_9 := n1_; have HO310 := n2_; have HO313 := n3_; have BK297 := n4_; have HB := n5_; clear n0_ n1_ n2_ n3_ n4_ n5_; clear hb ho39))
   go_loopg [13] kj7 (fun kq v13 w' => ∃ (x12_2 : List Int) (x13_2 : Int), v13 = .int .i64 x13_2 ∧ Aside0 (ebbtidelaw11_CostSteps.l0 kq a2 true t299 t302 t308 x12_2 x13_2 a0_0 a0_1 l0_2 = some r) ∧ Aside0 (kq ≤ kj7) ∧ Aside0 (Kd.R (Kd.int .i64) 3 w' w.heap.size (fun k_ => some k_ ≠ (v312 : Value).ownBlock) v300 t299) ∧ Aside0 (Kd.R Kd.bool 4 w' w.heap.size (fun _ => True) v303 t302) ∧ Aside0 (Kd.R k38 38 w' w.heap.size (fun _ => True) v309 t308) ∧ Aside0 (Kd.R (Kd.int .i64) 3 w' w.heap.size (fun k_ => some k_ ≠ (v300 : Value).ownBlock) v312 x12_2) ∧ Aside0 (w'.heap[gb297]? = some (.cells #[.int .i64 a0_0, .bool a0_1, (.slice A0_2 l0_2.length c0_2)] 24 (0, 0))) ∧ Aside0 (Below w.heap.size w w'))
   case atStart => exact ⟨(y311), (0), (by first | rfl | (simp; done) | (simp [*]; done)), H', ⟨Nat.le_refl _⟩, ⟨by (with_reducible repeat (first | apply Kd.R_alloc | apply Kd.R_drewN | apply Kd.R_drew)); exact Kd.R_mono HO_8.out (fun _ hk => hk.2)⟩, ⟨HO_9.out⟩, ⟨HO310.out⟩, ⟨by (with_reducible repeat (first | apply Kd.R_alloc | apply Kd.R_drewN | apply Kd.R_drew)); exact Kd.R_mono HO313.out (fun _ hk => hk.2)⟩, ⟨BK297.out⟩, ⟨HB.out⟩⟩
   case round =>
    clear H'
    try clear c1
    try clear q1
    try clear p2
    try clear c3
    try clear p3
    try clear q3
    try clear hx3
    try clear c4
    try clear c5
    try clear p6
    try clear c7
    try clear c7b0
    try clear c7b1
    try clear c13
    try clear c13b0
    try clear c13b1
    try clear c14
    try clear c14b0
    try clear c14b1
    try clear c15
    try clear c15b0
    try clear c16
    try clear c16b0
    try clear q17
    try clear c18
    try clear c19
    try clear c19b0
    try clear p30
    try clear q30
    try clear hx30
    try clear c31
    try clear c33
    try clear c33b0
    try clear c33b1
    try clear c34
    try clear c34b0
    try clear c34b1
    try clear c38
    try clear hcz11_0
    try clear hcz11_1
    try clear hcz11_2
    try clear hcz21_0
    try clear hcz21_1
    try clear hcz21_2
    try clear hcz24_0
    try clear hcz24_1
    try clear hcz24_2
    try clear hcz27_0
    try clear hcz27_1
    try clear hcz27_2
    try clear hcz30_0
    try clear hcz30_1
    try clear hcz30_2
    try clear hcz35_0
    try clear hcz35_1
    try clear hcz35_2
    try clear hcz37_0
    try clear hcz37_1
    try clear hcz37_2
    try clear hfz11_0
    try clear hfz11_1
    try clear hfz11_2
    try clear hfz21_0
    try clear hfz21_1
    try clear hfz21_2
    try clear hfz24_0
    try clear hfz24_1
    try clear hfz24_2
    try clear hfz27_0
    try clear hfz27_1
    try clear hfz27_2
    try clear hfz30_0
    try clear hfz30_1
    try clear hfz30_2
    try clear hfz35_0
    try clear hfz35_1
    try clear hfz35_2
    try clear hfz37_0
    try clear hfz37_1
    try clear hfz37_2
    try clear hx306_0
    try clear hx307_0
    try clear p2
    try clear p3
    try clear p30
    try clear p306
    try clear p307
    try clear p6
    try clear q1
    try clear q17
    try clear q3
    try clear q30
    try clear q306
    try clear q307
    obtain ⟨x12_2, x13_2, rfl, HA, HK2, HO_8, HO_9, HO_11, HO_12, BK297, HB⟩ := hrel
    cases gk with
    | zero => exact absurd HA.out (by simp [ebbtidelaw11_CostSteps.l0])
    | succ k2 =>
     have H := HA.out
     clear HA
     simp only [ebbtidelaw11_CostSteps.l0] at H
     by_cases c40 : x13_2 < (t308.length : Int)
     rotate_left
     ·rw [if_neg c40] at H
      have c40b0 : decide (x13_2 < (t308.length : Int)) = false := decide_eq_false c40
      clear c40
      have H' := Aside0.mk H
      clear H
      obtain ⟨Ao78, co78, eo78⟩ := Kd.R_slice HO_11.out
      subst eo78
      go_wp2
      go_loopg [17] k2 (fun kq v17 w' => ∃ (x17_3 : Int), v17 = .int .i64 x17_3 ∧ Aside0 (ebbtidelaw11_CostSteps.l1 kq a2 true t299 t302 x12_2 x17_3 a0_0 a0_1 l0_2 = some r) ∧ Aside0 (kq ≤ k2) ∧ Aside0 (Kd.R (Kd.int .i64) 3 w' w.heap.size (fun k_ => some k_ ≠ (v312 : Value).ownBlock) v300 t299) ∧ Aside0 (Kd.R Kd.bool 4 w' w.heap.size (fun _ => True) v303 t302) ∧ Aside0 (Kd.R (Kd.int .i64) 3 w' w.heap.size (fun k_ => some k_ ≠ (v300 : Value).ownBlock) v312 x12_2) ∧ Aside0 (w'.heap[gb297]? = some (.cells #[.int .i64 a0_0, .bool a0_1, (.slice A0_2 l0_2.length c0_2)] 24 (0, 0))) ∧ Aside0 (Below w.heap.size w w'))
      case atStart => exact ⟨(0), (by first | rfl | (simp; done) | (simp [*]; done)), H', ⟨Nat.le_refl _⟩, ⟨HO_8.out⟩, ⟨HO_9.out⟩, ⟨HO_12.out⟩, ⟨BK297.out⟩, ⟨HB.out⟩⟩
      case round =>
       clear H'
       try clear c1
       try clear q1
       try clear p2
       try clear c3
       try clear p3
       try clear q3
       try clear hx3
       try clear c4
       try clear q4
       try clear c5
       try clear c6
       try clear p6
       try clear q6
       try clear hx6
       try clear hf6
       try clear c13
       try clear c13b0
       try clear c13b1
       try clear c14
       try clear c14b0
       try clear c14b1
       try clear c15
       try clear c15b0
       try clear c16
       try clear c16b0
       try clear q17
       try clear c18
       try clear c19
       try clear c19b0
       try clear p30
       try clear q30
       try clear hx30
       try clear c31
       try clear p31
       try clear q31
       try clear hx31
       try clear p32
       try clear q32
       try clear hx32
       try clear c33
       try clear c33b0
       try clear c33b1
       try clear c34
       try clear c34b0
       try clear c34b1
       try clear c38
       try clear c40
       try clear c40b0
       try clear c41
       try clear c41b0
       try clear c44
       try clear c44b0
       try clear c45
       try clear c45b0
       try clear c46
       try clear q46
       try clear c47
       try clear c48
       try clear c48b0
       try clear c59
       try clear c59b0
       try clear c60
       try clear c60b0
       try clear q61
       try clear c62
       try clear c63
       try clear c63b0
       try clear c64
       try clear p64
       try clear c65
       try clear c65b0
       try clear c66
       try clear c66b0
       try clear c67
       try clear c67b0
       try clear c67b1
       try clear c68
       try clear c68b0
       try clear p69
       try clear q69
       try clear hx69
       try clear hf69
       try clear hcz11_0
       try clear hcz11_1
       try clear hcz11_2
       try clear hcz21_0
       try clear hcz21_1
       try clear hcz21_2
       try clear hcz24_0
       try clear hcz24_1
       try clear hcz24_2
       try clear hcz27_0
       try clear hcz27_1
       try clear hcz27_2
       try clear hcz30_0
       try clear hcz30_1
       try clear hcz30_2
       try clear hcz35_0
       try clear hcz35_1
       try clear hcz35_2
       try clear hcz37_0
       try clear hcz37_1
       try clear hcz37_2
       try clear hfz11_0
       try clear hfz11_1
       try clear hfz11_2
       try clear hfz21_0
       try clear hfz21_1
       try clear hfz21_2
       try clear hfz24_0
       try clear hfz24_1
       try clear hfz24_2
       try clear hfz27_0
       try clear hfz27_1
       try clear hfz27_2
       try clear hfz30_0
       try clear hfz30_1
       try clear hfz30_2
       try clear hfz35_0
       try clear hfz35_1
       try clear hfz35_2
       try clear hfz37_0
       try clear hfz37_1
       try clear hfz37_2
       try clear hx306_0
       try clear hx307_0
       try clear hx314_0
       try clear hx314_1
       try clear hx316_0
       try clear hx316_1
       try clear hx318_0
       try clear hx319_0
       try clear hx320_0
       try clear hx320_1
       try clear hx322_0
       try clear hx323_0
       try clear hx324_0
       try clear hx325_0
       try clear hx69_0
       try clear p2
       try clear p3
       try clear p30
       try clear p306
       try clear p307
       try clear p31
       try clear p314
       try clear p316
       try clear p318
       try clear p319
       try clear p32
       try clear p320
       try clear p322
       try clear p323
       try clear p324
       try clear p325
       try clear p6
       try clear p69
       try clear q1
       try clear q17
       try clear q3
       try clear q30
       try clear q306
       try clear q307
       try clear q31
       try clear q314
       try clear q316
       try clear q318
       try clear q319
       try clear q32
       try clear q320
       try clear q322
       try clear q323
       try clear q324
       try clear q325
       try clear q4
       try clear q46
       try clear q6
       try clear q61
       try clear q69
       obtain ⟨x17_3, rfl, HA, HK3, HO_8, HO_9, HO_12, BK297, HB⟩ := hrel
       cases gk with
       | zero => exact absurd HA.out (by simp [ebbtidelaw11_CostSteps.l1])
       | succ k3 =>
        have H := HA.out
        clear HA
        simp only [ebbtidelaw11_CostSteps.l1] at H
        by_cases c79 : x17_3 < a0_0
        rotate_left
        ·rw [if_neg c79] at H
         have c79b0 : decide (x17_3 < a0_0) = false := decide_eq_false c79
         clear c79
         obtain rfl := Option.some.inj H
         have hcz103_0 : wr.cell? ⟨gb297, 0, none⟩ = some (.int .i64 a0_0) := (blk_cell BK297.out 0).trans rfl
         have hcz103_1 : wr.cell? ⟨gb297, 1, none⟩ = some (.bool a0_1) := (blk_cell BK297.out 1).trans rfl
         have hcz103_2 : wr.cell? ⟨gb297, 2, none⟩ = some (.slice A0_2 l0_2.length c0_2) := (blk_cell BK297.out 2).trans rfl
         have hfz103_0 := blk_frozen BK297.out 0
         have hfz103_1 := blk_frozen BK297.out 1
         have hfz103_2 := blk_frozen BK297.out 2
         go_wp2
         go_ret
         exact ⟨by first | rfl | (simp [errW_none, errW_some] <;> rfl) | (simp [*, errW_none, errW_some] <;> rfl), HB.out⟩
        rw [if_pos c79] at H
        have c79b0 : decide (x17_3 < a0_0) = true := decide_eq_true c79
        clear c79
        by_cases c80 : 0 ≤ x17_3
        rotate_left
        ·rw [if_neg c80] at H
         exact absurd H (by simp)
        rw [if_pos c80] at H
        have c80b0 : decide (0 ≤ x17_3) = true := decide_eq_true c80
        clear c80
        by_cases c81 : x17_3 < (t302.length : Int)
        rotate_left
        ·rw [if_neg c81] at H
         exact absurd H (by simp)
        rw [if_pos c81] at H
        have c81b0 : decide (x17_3 < (t302.length : Int)) = true := decide_eq_true c81
        clear c81
        obtain ⟨bq82, hbq82⟩ : ∃ b_ : Bool, b_ = (rdOf false t302 x17_3) := ⟨_, rfl⟩
        replace H : (if bq82 = true then (if x17_3 = a2 then (ebbtidelaw11_CostSteps.l1 k3 a2 true t299 t302 x12_2 (wrap64 (x17_3 + 1)) a0_0 a0_1 l0_2) else (if x17_3 < (x12_2.length : Int) then (if (rd x12_2 x17_3) = 0 then (some false) else (ebbtidelaw11_CostSteps.l1 k3 a2 true t299 t302 x12_2 (wrap64 (x17_3 + 1)) a0_0 a0_1 l0_2)) else (none))) else (if x17_3 < (t299.length : Int) then (if (rd t299 x17_3) = 0 then (ebbtidelaw11_CostSteps.l1 k3 a2 true t299 t302 x12_2 (wrap64 (x17_3 + 1)) a0_0 a0_1 l0_2) else (some false)) else (none))) = some r := by rw [← hbq82] at H; exact H
        have Nbq82 := Aside0.mk hbq82
        clear hbq82
        by_cases c83 : bq82 = true
        rotate_left
        ·replace c83 := Bool.eq_false_iff.mpr c83
         subst c83
         have H1 : (if x17_3 < (t299.length : Int) then (if (rd t299 x17_3) = 0 then (ebbtidelaw11_CostSteps.l1 k3 a2 true t299 t302 x12_2 (wrap64 (x17_3 + 1)) a0_0 a0_1 l0_2) else (some false)) else (none)) = some r := by rw [if_neg (show ¬ (false = true) by decide)] at H; exact H
         clear H
         have H := H1
         clear H1
         by_cases c95 : x17_3 < (t299.length : Int)
         rotate_left
         ·rw [if_neg c95] at H
          exact absurd H (by simp)
         rw [if_pos c95] at H
         have c95b0 : decide (x17_3 < (t299.length : Int)) = true := decide_eq_true c95
         clear c95
         by_cases c96 : (rd t299 x17_3) = 0
         rotate_left
         ·rw [if_neg c96] at H
          exact absurd (Option.some.inj H) (by rw [HRT.out]; decide)
         rw [if_pos c96] at H
         have c96b0 : ((rd t299 x17_3) == 0) = true := beq_iff_eq.mpr c96
         have c96b1 : ((rd t299 x17_3) != 0) = false := bne_eq_false_iff_eq.mpr c96
         clear c96
         have H' := Aside0.mk H
         clear H
         have hcz97_0 : wr.cell? ⟨gb297, 0, none⟩ = some (.int .i64 a0_0) := (blk_cell BK297.out 0).trans rfl
         have hcz97_1 : wr.cell? ⟨gb297, 1, none⟩ = some (.bool a0_1) := (blk_cell BK297.out 1).trans rfl
         have hcz97_2 : wr.cell? ⟨gb297, 2, none⟩ = some (.slice A0_2 l0_2.length c0_2) := (blk_cell BK297.out 2).trans rfl
         have hfz97_0 := blk_frozen BK297.out 0
         have hfz97_1 := blk_frozen BK297.out 1
         have hfz97_2 := blk_frozen BK297.out 2
         obtain ⟨Ao98, co98, eo98⟩ := Kd.R_slice HO_9.out
         subst eo98
         have p327 : 0 ≤ (x17_3 : Int) := of_decide_eq_true (by first | (with_reducible assumption) | assumption)
         have q327 : x17_3 < (t302.length : Int) := of_decide_eq_true (by first | (with_reducible assumption) | assumption)
         obtain ⟨ad327, e327, hx327_0⟩ := Kd.at_bool (Kd.R_reads' HO_9.out).2.2 x17_3 p327 q327
         (try rw [← Nbq82.out] at hx327_0)
         cases e327
         replace p327 := eq_true p327
         replace q327 := eq_true q327
         have p331 : 0 ≤ (x17_3 : Int) := of_decide_eq_true (by first | (with_reducible assumption) | assumption)
         have q331 : x17_3 < (t302.length : Int) := of_decide_eq_true (by first | (with_reducible assumption) | assumption)
         obtain ⟨ad331, e331, hx331_0⟩ := Kd.at_bool (Kd.R_reads' HO_9.out).2.2 x17_3 p331 q331
         (try rw [← Nbq82.out] at hx331_0)
         obtain rfl : ad327 = ad331 := (by injection e331)
         replace p331 := eq_true p331
         replace q331 := eq_true q331
         obtain ⟨Ao99, co99, eo99⟩ := Kd.R_slice HO_8.out
         subst eo99
         have p332 : 0 ≤ (x17_3 : Int) := of_decide_eq_true (by first | (with_reducible assumption) | assumption)
         have q332 : x17_3 < (t299.length : Int) := of_decide_eq_true (by first | (with_reducible assumption) | assumption)
         obtain ⟨ad332, e332, hx332_0⟩ := Kd.at_int (Kd.R_reads' HO_8.out).2.2 x17_3 p332 q332
         cases e332
         replace p332 := eq_true p332
         replace q332 := eq_true q332
         go_wp2
         go_roundg k3
         case measure => have := HJ7.out; have := HK2.out; have := HK3.out; omega
         case rel => exact ⟨(wrap64 (x17_3 + 1)), (by first | rfl | (simp; done) | (simp [*]; done)), H', ⟨by have := HJ7.out; have := HK2.out; have := HK3.out; omega⟩, ⟨HO_8.out⟩, ⟨HO_9.out⟩, ⟨HO_12.out⟩, ⟨BK297.out⟩, ⟨HB.out⟩⟩
        subst c83
        have H1 : (if x17_3 = a2 then (ebbtidelaw11_CostSteps.l1 k3 a2 true t299 t302 x12_2 (wrap64 (x17_3 + 1)) a0_0 a0_1 l0_2) else (if x17_3 < (x12_2.length : Int) then (if (rd x12_2 x17_3) = 0 then (some false) else (ebbtidelaw11_CostSteps.l1 k3 a2 true t299 t302 x12_2 (wrap64 (x17_3 + 1)) a0_0 a0_1 l0_2)) else (none))) = some r := by rw [if_pos rfl] at H; exact H
        clear H
        have H := H1
        clear H1
        by_cases c84 : x17_3 = a2
        ·rw [if_pos c84] at H
         have c84b0 : (x17_3 == a2) = true := beq_iff_eq.mpr c84
         have c84b1 : (x17_3 != a2) = false := bne_eq_false_iff_eq.mpr c84
         clear c84
         have H' := Aside0.mk H
         clear H
         have hcz85_0 : wr.cell? ⟨gb297, 0, none⟩ = some (.int .i64 a0_0) := (blk_cell BK297.out 0).trans rfl
         have hcz85_1 : wr.cell? ⟨gb297, 1, none⟩ = some (.bool a0_1) := (blk_cell BK297.out 1).trans rfl
         have hcz85_2 : wr.cell? ⟨gb297, 2, none⟩ = some (.slice A0_2 l0_2.length c0_2) := (blk_cell BK297.out 2).trans rfl
         have hfz85_0 := blk_frozen BK297.out 0
         have hfz85_1 := blk_frozen BK297.out 1
         have hfz85_2 := blk_frozen BK297.out 2
         obtain ⟨Ao86, co86, eo86⟩ := Kd.R_slice HO_9.out
         subst eo86
         have p327 : 0 ≤ (x17_3 : Int) := of_decide_eq_true (by first | (with_reducible assumption) | assumption)
         have q327 : x17_3 < (t302.length : Int) := of_decide_eq_true (by first | (with_reducible assumption) | assumption)
         obtain ⟨ad327, e327, hx327_0⟩ := Kd.at_bool (Kd.R_reads' HO_9.out).2.2 x17_3 p327 q327
         (try rw [← Nbq82.out] at hx327_0)
         cases e327
         replace p327 := eq_true p327
         replace q327 := eq_true q327
         have p328 : 0 ≤ (x17_3 : Int) := of_decide_eq_true (by first | (with_reducible assumption) | assumption)
         have q328 : x17_3 < (t302.length : Int) := of_decide_eq_true (by first | (with_reducible assumption) | assumption)
         obtain ⟨ad328, e328, hx328_0⟩ := Kd.at_bool (Kd.R_reads' HO_9.out).2.2 x17_3 p328 q328
         (try rw [← Nbq82.out] at hx328_0)
         obtain rfl : ad327 = ad328 := (by injection e328)
         replace p328 := eq_true p328
         replace q328 := eq_true q328
         go_wp2
         go_roundg k3
         case measure => have := HJ7.out; have := HK2.out; have := HK3.out; omega
         case rel => exact ⟨(wrap64 (x17_3 + 1)), (by first | rfl | (simp; done) | (simp [*]; done)), H', ⟨by have := HJ7.out; have := HK2.out; have := HK3.out; omega⟩, ⟨HO_8.out⟩, ⟨HO_9.out⟩, ⟨HO_12.out⟩, ⟨BK297.out⟩, ⟨HB.out⟩⟩
        rw [if_neg c84] at H
        have c84b0 : (x17_3 == a2) = false := beq_eq_false_iff_ne.mpr c84
        have c84b1 : (x17_3 != a2) = true := bne_iff_ne.mpr c84
        by_cases c87 : x17_3 < (x12_2.length : Int)
        rotate_left
        ·rw [if_neg c87] at H
         exact absurd H (by simp)
        rw [if_pos c87] at H
        have c87b0 : decide (x17_3 < (x12_2.length : Int)) = true := decide_eq_true c87
        clear c87
        by_cases c88 : (rd x12_2 x17_3) = 0
        ·rw [if_pos c88] at H
         exact absurd (Option.some.inj H) (by rw [HRT.out]; decide)
        rw [if_neg c88] at H
        have c88b0 : ((rd x12_2 x17_3) == 0) = false := beq_eq_false_iff_ne.mpr c88
        have c88b1 : ((rd x12_2 x17_3) != 0) = true := bne_iff_ne.mpr c88
        have H' := Aside0.mk H
        clear H
        have hcz92_0 : wr.cell? ⟨gb297, 0, none⟩ = some (.int .i64 a0_0) := (blk_cell BK297.out 0).trans rfl
        have hcz92_1 : wr.cell? ⟨gb297, 1, none⟩ = some (.bool a0_1) := (blk_cell BK297.out 1).trans rfl
        have hcz92_2 : wr.cell? ⟨gb297, 2, none⟩ = some (.slice A0_2 l0_2.length c0_2) := (blk_cell BK297.out 2).trans rfl
        have hfz92_0 := blk_frozen BK297.out 0
        have hfz92_1 := blk_frozen BK297.out 1
        have hfz92_2 := blk_frozen BK297.out 2
        obtain ⟨Ao93, co93, eo93⟩ := Kd.R_slice HO_9.out
        subst eo93
        have p327 : 0 ≤ (x17_3 : Int) := of_decide_eq_true (by first | (with_reducible assumption) | assumption)
        have q327 : x17_3 < (t302.length : Int) := of_decide_eq_true (by first | (with_reducible assumption) | assumption)
        obtain ⟨ad327, e327, hx327_0⟩ := Kd.at_bool (Kd.R_reads' HO_9.out).2.2 x17_3 p327 q327
        (try rw [← Nbq82.out] at hx327_0)
        cases e327
        replace p327 := eq_true p327
        replace q327 := eq_true q327
        obtain ⟨Ao94, co94, eo94⟩ := Kd.R_slice HO_12.out
        subst eo94
        have p329 : 0 ≤ (x17_3 : Int) := of_decide_eq_true (by first | (with_reducible assumption) | assumption)
        have q329 : x17_3 < (x12_2.length : Int) := of_decide_eq_true (by first | (with_reducible assumption) | assumption)
        obtain ⟨ad329, e329, hx329_0⟩ := Kd.at_int (Kd.R_reads' HO_12.out).2.2 x17_3 p329 q329
        cases e329
        replace p329 := eq_true p329
        replace q329 := eq_true q329
        have p330 : 0 ≤ (x17_3 : Int) := of_decide_eq_true (by first | (with_reducible assumption) | assumption)
        have q330 : x17_3 < (t302.length : Int) := of_decide_eq_true (by first | (with_reducible assumption) | assumption)
        obtain ⟨ad330, e330, hx330_0⟩ := Kd.at_bool (Kd.R_reads' HO_9.out).2.2 x17_3 p330 q330
        (try rw [← Nbq82.out] at hx330_0)
        obtain rfl : ad327 = ad330 := (by injection e330)
        replace p330 := eq_true p330
        replace q330 := eq_true q330
        go_wp2
        go_roundg k3
        case measure => have := HJ7.out; have := HK2.out; have := HK3.out; omega
        case rel => exact ⟨(wrap64 (x17_3 + 1)), (by first | rfl | (simp; done) | (simp [*]; done)), H', ⟨by have := HJ7.out; have := HK2.out; have := HK3.out; omega⟩, ⟨HO_8.out⟩, ⟨HO_9.out⟩, ⟨HO_12.out⟩, ⟨BK297.out⟩, ⟨HB.out⟩⟩
     rw [if_pos c40] at H
     have c40b0 : decide (x13_2 < (t308.length : Int)) = true := decide_eq_true c40
     clear c40
     by_cases c41 : 0 ≤ x13_2
     rotate_left
     ·rw [if_neg c41] at H
      exact absurd H (by simp)
     rw [if_pos c41] at H
     have c41b0 : decide (0 ≤ x13_2) = true := decide_eq_true c41
     clear c41
     replace H := Option.bind_eq_some_iff.mp H
     obtain ⟨t315, A420, H⟩ := H
     replace H : ((ebbtideref07_To.f a0_0 a0_1 l0_2 ((rd_T38 t308 x13_2).f0) ((rd_T38 t308 x13_2).f1)).bind fun t317 => (if 0 ≤ t315 then (if t315 < (t302.length : Int) then (if rdOf false t302 t315 = true then (if t315 < (t299.length : Int) then ((ebbtideref11_Time.f a0_0 a0_1 l0_2 ((rd_T38 t308 x13_2).f0) ((rd_T38 t308 x13_2).f1)).bind fun t321 => (if 0 ≤ t317 then (if t317 < (t302.length : Int) then (if rdOf false t302 t317 = true then (if t317 < (t299.length : Int) then (ebbtidelaw11_CostSteps.j2 k2 a2 true t299 t302 t308 x12_2 x13_2 t317 (wrap64 ((rd t299 t315) + t321)) (decide ((rd t299 t317) > (wrap64 ((rd t299 t315) + t321)))) a0_0 a0_1 l0_2) else (none)) else (ebbtidelaw11_CostSteps.j2 k2 a2 true t299 t302 t308 x12_2 x13_2 t317 (wrap64 ((rd t299 t315) + t321)) true a0_0 a0_1 l0_2)) else (none)) else (none))) else (none)) else (ebbtidelaw11_CostSteps.l0 k2 a2 true t299 t302 t308 x12_2 (wrap64 (x13_2 + 1)) a0_0 a0_1 l0_2)) else (none)) else (none))) = some r := H
     have A42 := Aside0.mk A420
     clear A420
     replace H := Option.bind_eq_some_iff.mp H
     obtain ⟨t317, A430, H⟩ := H
     replace H : (if 0 ≤ t315 then (if t315 < (t302.length : Int) then (if rdOf false t302 t315 = true then (if t315 < (t299.length : Int) then ((ebbtideref11_Time.f a0_0 a0_1 l0_2 ((rd_T38 t308 x13_2).f0) ((rd_T38 t308 x13_2).f1)).bind fun t321 => (if 0 ≤ t317 then (if t317 < (t302.length : Int) then (if rdOf false t302 t317 = true then (if t317 < (t299.length : Int) then (ebbtidelaw11_CostSteps.j2 k2 a2 true t299 t302 t308 x12_2 x13_2 t317 (wrap64 ((rd t299 t315) + t321)) (decide ((rd t299 t317) > (wrap64 ((rd t299 t315) + t321)))) a0_0 a0_1 l0_2) else (none)) else (ebbtidelaw11_CostSteps.j2 k2 a2 true t299 t302 t308 x12_2 x13_2 t317 (wrap64 ((rd t299 t315) + t321)) true a0_0 a0_1 l0_2)) else (none)) else (none))) else (none)) else (ebbtidelaw11_CostSteps.l0 k2 a2 true t299 t302 t308 x12_2 (wrap64 (x13_2 + 1)) a0_0 a0_1 l0_2)) else (none)) else (none)) = some r := H
     have A43 := Aside0.mk A430
     clear A430
     by_cases c44 : 0 ≤ t315
     rotate_left
     ·rw [if_neg c44] at H
      exact absurd H (by simp)
     rw [if_pos c44] at H
     have c44b0 : decide (0 ≤ t315) = true := decide_eq_true c44
     clear c44
     by_cases c45 : t315 < (t302.length : Int)
     rotate_left
     ·rw [if_neg c45] at H
      exact absurd H (by simp)
     rw [if_pos c45] at H
     have c45b0 : decide (t315 < (t302.length : Int)) = true := decide_eq_true c45
     clear c45
     obtain ⟨bq46, hbq46⟩ : ∃ b_ : Bool, b_ = (rdOf false t302 t315) := ⟨_, rfl⟩
     replace H : (if bq46 = true then (if t315 < (t299.length : Int) then ((ebbtideref11_Time.f a0_0 a0_1 l0_2 ((rd_T38 t308 x13_2).f0) ((rd_T38 t308 x13_2).f1)).bind fun t321 => (if 0 ≤ t317 then (if t317 < (t302.length : Int) then (if rdOf false t302 t317 = true then (if t317 < (t299.length : Int) then (ebbtidelaw11_CostSteps.j2 k2 a2 true t299 t302 t308 x12_2 x13_2 t317 (wrap64 ((rd t299 t315) + t321)) (decide ((rd t299 t317) > (wrap64 ((rd t299 t315) + t321)))) a0_0 a0_1 l0_2) else (none)) else (ebbtidelaw11_CostSteps.j2 k2 a2 true t299 t302 t308 x12_2 x13_2 t317 (wrap64 ((rd t299 t315) + t321)) true a0_0 a0_1 l0_2)) else (none)) else (none))) else (none)) else (ebbtidelaw11_CostSteps.l0 k2 a2 true t299 t302 t308 x12_2 (wrap64 (x13_2 + 1)) a0_0 a0_1 l0_2)) = some r := by rw [← hbq46] at H; exact H
     have Nbq46 := Aside0.mk hbq46
     clear hbq46
     by_cases c47 : bq46 = true
     rotate_left
     ·replace c47 := Bool.eq_false_iff.mpr c47
      subst c47
      have H1 : (ebbtidelaw11_CostSteps.l0 k2 a2 true t299 t302 t308 x12_2 (wrap64 (x13_2 + 1)) a0_0 a0_1 l0_2) = some r := by rw [if_neg (show ¬ (false = true) by decide)] at H; exact H
      clear H
      have H := H1
      clear H1
      have H' := Aside0.mk H
      clear H
      obtain ⟨Ao73, co73, eo73⟩ := Kd.R_slice HO_11.out
      subst eo73
      try go_wp2
      have n0_ := Aside0.mk (Kd.R_drew HO_8.out)
      have n1_ := Aside0.mk (Kd.R_drew HO_9.out)
      have n2_ := Aside0.mk (Kd.R_drew HO_11.out)
      have n3_ := Aside0.mk (Kd.R_drew HO_12.out)
      have n4_ := Aside0.mk (blk_drew BK297.out)
      have n5_ := Aside0.mk (below_drew1 HB.out)
      clear HO_8
      clear HO_9
      clear HO_11
      clear HO_12
      clear BK297
      clear HB
      have HO_8 := n0_
      have HO_9 := n1_
      have HO_11 := n2_
      have HO_12 := n3_
      have BK297 := n4_
      have HB := n5_
      clear n0_ n1_ n2_ n3_ n4_ n5_
      have p314 : 0 ≤ (x13_2 : Int) := of_decide_eq_true (by first | (with_reducible assumption) | assumption)
      have q314 : x13_2 < (t308.length : Int) := of_decide_eq_true (by first | (with_reducible assumption) | assumption)
      obtain ⟨ad314, e314, hx314_0, hx314_1⟩ := at_T38 (Kd.R_reads' HO_11.out).2.2 x13_2 p314 q314
      (try rw [← Nbq46.out] at hx314_1)
      cases e314
      replace p314 := eq_true p314
      replace q314 := eq_true q314
      have p316 : 0 ≤ (x13_2 : Int) := of_decide_eq_true (by first | (with_reducible assumption) | assumption)
      have q316 : x13_2 < (t308.length : Int) := of_decide_eq_true (by first | (with_reducible assumption) | assumption)
      obtain ⟨ad316, e316, hx316_0, hx316_1⟩ := at_T38 (Kd.R_reads' HO_11.out).2.2 x13_2 p316 q316
      (try rw [← Nbq46.out] at hx316_1)
      obtain rfl : ad314 = ad316 := (by injection e316)
      replace p316 := eq_true p316
      replace q316 := eq_true q316
      refine start_ (n := 14) (S := fun w' => w'.cell? ⟨gb297, 0, none⟩ = some (.int .i64 a0_0) ∧ w'.cell? ⟨gb297, 1, none⟩ = some (.bool a0_1) ∧ w'.cell? ⟨gb297, 2, none⟩ = some (.slice A0_2 l0_2.length c0_2) ∧ w'.cell? (ad314.add ((x13_2).toNat * 2)) = some (.int .i64 ((rd_T38 t308 x13_2).f0)) ∧ w'.cell? ⟨(ad314.add ((x13_2).toNat * 2)).block, (ad314.add ((x13_2).toNat * 2)).off + 1, none⟩ = some (.bool ((rd_T38 t308 x13_2).f1)) ∧ w'.cell? (ad314.add ((x13_2).toNat * 2)) = some (.int .i64 ((rd_T38 t308 x13_2).f0)) ∧ w'.cell? ⟨(ad314.add ((x13_2).toNat * 2)).block, (ad314.add ((x13_2).toNat * 2)).off + 1, none⟩ = some (.bool ((rd_T38 t308 x13_2).f1))) (ds := []) #[false, false, false, false, false, false, false, false, false, false, false, false, false, false] (by kernel_rfl) rfl rfl ⟨(blk_cell BK297.out 0).trans rfl, (blk_cell BK297.out 1).trans rfl, (blk_cell BK297.out 2).trans rfl, hx314_0, hx314_1, hx316_0, hx316_1⟩ (fun hHeld => ?_); refine with_tabW ebbtidelaw11_CostSteps.tab14 ebbtidelaw11_CostSteps.bits14 (fun HT_ HW_ => ?_)
      generalize wr.drew = w74 at HO_8 HO_9 HO_11 HO_12 BK297 HB hx314_0 hx314_1 hx316_0 hx316_1 hHeld ⊢
      refine pure_ (i := 1) (N := some 79) (v := ?_) (a' := ?_) #[false, true, false, false, false, false, false, false, false, false, false, false, false, false] rfl rfl (any_of HT_.out (by kernel_rfl)) (fun _ _ _ h => h) (Or.inl ⟨by rfl, ?_⟩) ?_ ?_
      rotate_left
      ·intro w'
       go_simp
       with_reducible rfl
      rotate_left
      ·simp only [Act.put, List.setIfInBounds_toArray, List.set_cons_zero, List.set_cons_succ, i64_w, i32_w]
       rfl
      refine pure_ (i := 2) (N := some 80) (v := ?_) (a' := ?_) #[false, true, true, false, false, false, false, false, false, false, false, false, false, false] rfl rfl (any_of HT_.out (by kernel_rfl)) (fun _ _ _ h => h) (Or.inl ⟨by rfl, ?_⟩) ?_ ?_
      rotate_left
      ·intro w'
       go_simp
       with_reducible rfl
      rotate_left
      ·simp only [Act.put, List.setIfInBounds_toArray, List.set_cons_zero, List.set_cons_succ, i64_w, i32_w]
       rfl
      refine pure_ (i := 3) (N := some 81) (v := ?_) (a' := ?_) #[false, true, true, true, false, false, false, false, false, false, false, false, false, false] rfl rfl (any_of HT_.out (by kernel_rfl)) (fun _ _ _ h => h) (Or.inl ⟨by rfl, ?_⟩) ?_ ?_
      rotate_left
      ·intro w'
       go_simp
       with_reducible rfl
      rotate_left
      ·simp only [Act.put, List.setIfInBounds_toArray, List.set_cons_zero, List.set_cons_succ, i64_w, i32_w]
       rfl
      refine pure_ (i := 7) (N := some 85) (v := ?_) (a' := ?_) #[false, true, true, true, false, false, false, true, false, false, false, false, false, false] rfl rfl (any_of HT_.out (by kernel_rfl)) (fun _ _ _ h => h) (Or.inl ⟨by rfl, ?_⟩) ?_ ?_
      rotate_left
      ·intro w'
       go_simp
       with_reducible rfl
      rotate_left
      ·simp only [Act.put, List.setIfInBounds_toArray, List.set_cons_zero, List.set_cons_succ, i64_w, i32_w]
       rfl
      refine pure_ (i := 8) (N := some 86) (v := ?_) (a' := ?_) #[false, true, true, true, false, false, false, true, true, false, false, false, false, false] rfl rfl (any_of HT_.out (by kernel_rfl)) (fun _ _ _ h => h) (Or.inl ⟨by rfl, ?_⟩) ?_ ?_
      rotate_left
      ·intro w'
       go_simp
       with_reducible rfl
      rotate_left
      ·simp only [Act.put, List.setIfInBounds_toArray, List.set_cons_zero, List.set_cons_succ, i64_w, i32_w]
       rfl
      refine pure_ (i := 9) (N := some 87) (v := ?_) (a' := ?_) #[false, true, true, true, false, false, false, true, true, true, false, false, false, false] rfl rfl (any_of HT_.out (by kernel_rfl)) (fun _ _ _ h => h) (Or.inl ⟨by rfl, ?_⟩) ?_ ?_
      rotate_left
      ·intro w'
       go_simp
       with_reducible rfl
      rotate_left
      ·simp only [Act.put, List.setIfInBounds_toArray, List.set_cons_zero, List.set_cons_succ, i64_w, i32_w]
       rfl
      refine take_ (i := 0) (N := some 78) (v := ?_) (a' := ?_) #[true, true, true, true, false, false, false, true, true, true, false, false, false, false] rfl rfl (take_ofW HT_.out HW_.out (by kernel_rfl)) (fun _ _ _ h => h) (Or.inl ⟨by rfl, ?_⟩) hHeld ?_ ?_
      rotate_left
      ·rintro w' ⟨s0, s1, s2, s3, s4, s5, s6⟩
       go_simp
       with_reducible rfl
      rotate_left
      ·simp only [Act.put, List.setIfInBounds_toArray, List.set_cons_zero, List.set_cons_succ, i64_w, i32_w]
       rfl
      refine take_ (i := 4) (N := some 82) (v := ?_) (a' := ?_) #[true, true, true, true, true, false, false, true, true, true, false, false, false, false] rfl rfl (take_ofW HT_.out HW_.out (by kernel_rfl)) (fun _ _ _ h => h) (Or.inl ⟨by rfl, ?_⟩) hHeld ?_ ?_
      rotate_left
      ·rintro w' ⟨s0, s1, s2, s3, s4, s5, s6⟩
       go_simp
       with_reducible rfl
      rotate_left
      ·simp only [Act.put, List.setIfInBounds_toArray, List.set_cons_zero, List.set_cons_succ, i64_w, i32_w]
       rfl
      refine take_ (i := 6) (N := some 84) (v := ?_) (a' := ?_) #[true, true, true, true, true, false, true, true, true, true, false, false, false, false] rfl rfl (take_ofW HT_.out HW_.out (by kernel_rfl)) (fun _ _ _ h => h) (Or.inl ⟨by rfl, ?_⟩) hHeld ?_ ?_
      rotate_left
      ·rintro w' ⟨s0, s1, s2, s3, s4, s5, s6⟩
       go_simp
       with_reducible rfl
      rotate_left
      ·simp only [Act.put, List.setIfInBounds_toArray, List.set_cons_zero, List.set_cons_succ, i64_w, i32_w]
       rfl
      refine take_ (i := 10) (N := some 88) (v := ?_) (a' := ?_) #[true, true, true, true, true, false, true, true, true, true, true, false, false, false] rfl rfl (take_ofW HT_.out HW_.out (by kernel_rfl)) (fun _ _ _ h => h) (Or.inl ⟨by rfl, ?_⟩) hHeld ?_ ?_
      rotate_left
      ·rintro w' ⟨s0, s1, s2, s3, s4, s5, s6⟩
       go_simp
       with_reducible rfl
      rotate_left
      ·simp only [Act.put, List.setIfInBounds_toArray, List.set_cons_zero, List.set_cons_succ, i64_w, i32_w]
       rfl
      refine one_ (i := 5) (N := some 83) #[true, true, true, true, true, true, true, true, true, true, true, false, false, false] rfl rfl (one_of HT_.out (by kernel_rfl)) (by decide) (fun K hK => ?_)
      refine goes_ Try.func44 (by kernel_rfl) rfl #[.agg #[.int .i64 a0_0, .bool a0_1, .slice A0_2 l0_2.length c0_2], .agg #[.int .i64 ((rd_T38 t308 x13_2).f0), .bool ((rd_T38 t308 x13_2).f1)]] (by rfl) rfl rfl (by (try simp only [List.map_toArray, List.map_cons, List.map_nil]); first | done | rfl | (simp only [List.length_drop, List.length_take]; rfl)) ?_
      with_reducible refine (ebbtideref07_From.calls a0_0 a0_1 _ _ l0_2 ((rd_T38 t308 x13_2).f0) ((rd_T38 t308 x13_2).f1) t315 _ ?side1 ?side2 (by first | exact A42.out | (have h_ := A42.out; rw [← Nbq61.out] at h_; exact h_) | (have h_ := A42.out; rw [← Nbq46.out] at h_; exact h_) | (have h_ := A42.out; rw [← Nbq17.out] at h_; exact h_))).mono ?_
      (case side1 => repeat (first | exact (Kd.C_below HR0_2.out HB.out) | (with_reducible refine Kd.C_alloc ?_ _) | (with_reducible refine Kd.C_drewN ?_ _) | (with_reducible refine Kd.C_drew ?_)))
      (case side2 => exact HC0_2.out)
      rintro e w75 ⟨rfl, hb⟩
      have HS3_ := (hb.cell (World.block_lt_of_cell? _ _ (hHeld.2.2.2.1))).trans (hHeld.2.2.2.1)
      have HS4_ := (hb.cell (World.block_lt_of_cell? _ _ (hHeld.2.2.2.2.1))).trans (hHeld.2.2.2.2.1)
      have HS5_ := (hb.cell (World.block_lt_of_cell? _ _ (hHeld.2.2.2.2.2.1))).trans (hHeld.2.2.2.2.2.1)
      have HS6_ := (hb.cell (World.block_lt_of_cell? _ _ (hHeld.2.2.2.2.2.2))).trans (hHeld.2.2.2.2.2.2)
      refine ⟨_, rfl, ?_⟩
      have n0_ := Aside0.mk (Kd.R_below HO_8.out hb)
      have n1_ := Aside0.mk (Kd.R_below HO_9.out hb)
      have n2_ := Aside0.mk (Kd.R_below HO_11.out hb)
      have n3_ := Aside0.mk (Kd.R_below HO_12.out hb)
      have n4_ := Aside0.mk (blk_below BK297.out hb)
      have n5_ := Aside0.mk (below_step HB.out hb)
      clear HO_8
      clear HO_9
      clear HO_11
      clear HO_12
      clear BK297
      clear HB
      have HO_8 := n0_
      have HO_9 := n1_
      have HO_11 := n2_
      have HO_12 := n3_
      have BK297 := n4_
      have HB := n5_
      clear n0_ n1_ n2_ n3_ n4_ n5_
      (try clear hb)
      (try clear hb2)
      (try clear hk)
      (try clear hi)
      refine hK.out _ _ ⟨(blk_cell BK297.out 0).trans rfl, (blk_cell BK297.out 1).trans rfl, (blk_cell BK297.out 2).trans rfl, HS3_, HS4_, HS5_, HS6_⟩ (fun hHeld => ?_)
      clear hK K
      refine norm_ (a' := ?_) ?_ ?_
      rotate_left
      ·show Act.put _ (some 83) _ = _
       simp only [Act.put, List.setIfInBounds_toArray, List.set_cons_zero, List.set_cons_succ, i64_w, i32_w]
       rfl
      refine one_ (i := 11) (N := some 89) #[true, true, true, true, true, true, true, true, true, true, true, true, false, false] rfl rfl (one_of HT_.out (by kernel_rfl)) (by decide) (fun K hK => ?_)
      refine goes_ Try.func45 (by kernel_rfl) rfl #[.agg #[.int .i64 a0_0, .bool a0_1, .slice A0_2 l0_2.length c0_2], .agg #[.int .i64 ((rd_T38 t308 x13_2).f0), .bool ((rd_T38 t308 x13_2).f1)]] (by rfl) rfl rfl (by (try simp only [List.map_toArray, List.map_cons, List.map_nil]); first | done | rfl | (simp only [List.length_drop, List.length_take]; rfl)) ?_
      with_reducible refine (ebbtideref07_To.calls a0_0 a0_1 _ _ l0_2 ((rd_T38 t308 x13_2).f0) ((rd_T38 t308 x13_2).f1) t317 _ ?side1 ?side2 (by first | exact A43.out | (have h_ := A43.out; rw [← Nbq61.out] at h_; exact h_) | (have h_ := A43.out; rw [← Nbq46.out] at h_; exact h_) | (have h_ := A43.out; rw [← Nbq17.out] at h_; exact h_))).mono ?_
      (case side1 => repeat (first | exact (Kd.C_below HR0_2.out HB.out) | (with_reducible refine Kd.C_alloc ?_ _) | (with_reducible refine Kd.C_drewN ?_ _) | (with_reducible refine Kd.C_drew ?_)))
      (case side2 => exact HC0_2.out)
      rintro e w76 ⟨rfl, hb⟩
      have HS3_ := (hb.cell (World.block_lt_of_cell? _ _ (hHeld.2.2.2.1))).trans (hHeld.2.2.2.1)
      have HS4_ := (hb.cell (World.block_lt_of_cell? _ _ (hHeld.2.2.2.2.1))).trans (hHeld.2.2.2.2.1)
      have HS5_ := (hb.cell (World.block_lt_of_cell? _ _ (hHeld.2.2.2.2.2.1))).trans (hHeld.2.2.2.2.2.1)
      have HS6_ := (hb.cell (World.block_lt_of_cell? _ _ (hHeld.2.2.2.2.2.2))).trans (hHeld.2.2.2.2.2.2)
      refine ⟨_, rfl, ?_⟩
      have n0_ := Aside0.mk (Kd.R_below HO_8.out hb)
      have n1_ := Aside0.mk (Kd.R_below HO_9.out hb)
      have n2_ := Aside0.mk (Kd.R_below HO_11.out hb)
      have n3_ := Aside0.mk (Kd.R_below HO_12.out hb)
      have n4_ := Aside0.mk (blk_below BK297.out hb)
      have n5_ := Aside0.mk (below_step HB.out hb)
      clear HO_8
      clear HO_9
      clear HO_11
      clear HO_12
      clear BK297
      clear HB
      have HO_8 := n0_
      have HO_9 := n1_
      have HO_11 := n2_
      have HO_12 := n3_
      have BK297 := n4_
      have HB := n5_
      clear n0_ n1_ n2_ n3_ n4_ n5_
      (try clear hb)
      (try clear hb2)
      (try clear hk)
      (try clear hi)
      refine hK.out _ _ ⟨(blk_cell BK297.out 0).trans rfl, (blk_cell BK297.out 1).trans rfl, (blk_cell BK297.out 2).trans rfl, HS3_, HS4_, HS5_, HS6_⟩ (fun hHeld => ?_)
      clear hK K
      refine norm_ (a' := ?_) ?_ ?_
      rotate_left
      ·show Act.put _ (some 89) _ = _
       simp only [Act.put, List.setIfInBounds_toArray, List.set_cons_zero, List.set_cons_succ, i64_w, i32_w]
       rfl
      refine pure_ (i := 12) (N := some 14) (v := ?_) (a' := ?_) #[true, true, true, true, true, true, true, true, true, true, true, true, true, false] rfl rfl (any_of HT_.out (by kernel_rfl)) (fun _ _ _ h => h) (Or.inl ⟨by rfl, ?_⟩) ?_ ?_
      rotate_left
      ·intro w'
       go_simp
       with_reducible rfl
      rotate_left
      ·simp only [Act.put, List.setIfInBounds_toArray, List.set_cons_zero, List.set_cons_succ, i64_w, i32_w]
       rfl
      refine pure_ (i := 13) (N := some 15) (v := ?_) (a' := ?_) #[true, true, true, true, true, true, true, true, true, true, true, true, true, true] rfl rfl (any_of HT_.out (by kernel_rfl)) (fun _ _ _ h => h) (Or.inl ⟨by rfl, ?_⟩) ?_ ?_
      rotate_left
      ·intro w'
       go_simp
       with_reducible rfl
      rotate_left
      ·simp only [Act.put, List.setIfInBounds_toArray, List.set_cons_zero, List.set_cons_succ, i64_w, i32_w]
       rfl
      refine done_ (done_of HT_.out (by kernel_rfl)) ?_
      obtain ⟨Ao77, co77, eo77⟩ := Kd.R_slice HO_9.out
      subst eo77
      have p318 : 0 ≤ (t315 : Int) := of_decide_eq_true (by first | (with_reducible assumption) | assumption)
      have q318 : t315 < (t302.length : Int) := of_decide_eq_true (by first | (with_reducible assumption) | assumption)
      obtain ⟨ad318, e318, hx318_0⟩ := Kd.at_bool (Kd.R_reads' HO_9.out).2.2 t315 p318 q318
      (try rw [← Nbq46.out] at hx318_0)
      cases e318
      replace p318 := eq_true p318
      replace q318 := eq_true q318
      try go_wp2
      go_roundg k2
      case measure => have := HJ7.out; have := HK2.out; omega
      case rel => exact ⟨(x12_2), (wrap64 (x13_2 + 1)), (by first | rfl | (simp; done) | (simp [*]; done)), H', ⟨by have := HJ7.out; have := HK2.out; omega⟩, ⟨HO_8.out⟩, ⟨HO_9.out⟩, ⟨HO_11.out⟩, ⟨HO_12.out⟩, ⟨BK297.out⟩, ⟨HB.out⟩⟩
     subst c47
     have H1 : (if t315 < (t299.length : Int) then ((ebbtideref11_Time.f a0_0 a0_1 l0_2 ((rd_T38 t308 x13_2).f0) ((rd_T38 t308 x13_2).f1)).bind fun t321 => (if 0 ≤ t317 then (if t317 < (t302.length : Int) then (if rdOf false t302 t317 = true then (if t317 < (t299.length : Int) then (ebbtidelaw11_CostSteps.j2 k2 a2 true t299 t302 t308 x12_2 x13_2 t317 (wrap64 ((rd t299 t315) + t321)) (decide ((rd t299 t317) > (wrap64 ((rd t299 t315) + t321)))) a0_0 a0_1 l0_2) else (none)) else (ebbtidelaw11_CostSteps.j2 k2 a2 true t299 t302 t308 x12_2 x13_2 t317 (wrap64 ((rd t299 t315) + t321)) true a0_0 a0_1 l0_2)) else (none)) else (none))) else (none)) = some r := by rw [if_pos rfl] at H; exact H
     clear H
     have H := H1
     clear H1
     by_cases c48 : t315 < (t299.length : Int)
     rotate_left
     ·rw [if_neg c48] at H
      exact absurd H (by simp)
     rw [if_pos c48] at H
     have c48b0 : decide (t315 < (t299.length : Int)) = true := decide_eq_true c48
     clear c48
     replace H := Option.bind_eq_some_iff.mp H
     obtain ⟨t321, A490, H⟩ := H
     replace H : (if 0 ≤ t317 then (if t317 < (t302.length : Int) then (if rdOf false t302 t317 = true then (if t317 < (t299.length : Int) then (ebbtidelaw11_CostSteps.j2 k2 a2 true t299 t302 t308 x12_2 x13_2 t317 (wrap64 ((rd t299 t315) + t321)) (decide ((rd t299 t317) > (wrap64 ((rd t299 t315) + t321)))) a0_0 a0_1 l0_2) else (none)) else (ebbtidelaw11_CostSteps.j2 k2 a2 true t299 t302 t308 x12_2 x13_2 t317 (wrap64 ((rd t299 t315) + t321)) true a0_0 a0_1 l0_2)) else (none)) else (none)) = some r := H
     have A49 := Aside0.mk A490
     clear A490
     have HC50 := Aside0.mk H
     clear H
     obtain ⟨Ao51, co51, eo51⟩ := Kd.R_slice HO_11.out
     subst eo51
     try go_wp2
     have n0_ := Aside0.mk (Kd.R_drew HO_8.out)
     have n1_ := Aside0.mk (Kd.R_drew HO_9.out)
     have n2_ := Aside0.mk (Kd.R_drew HO_11.out)
     have n3_ := Aside0.mk (Kd.R_drew HO_12.out)
     have n4_ := Aside0.mk (blk_drew BK297.out)
     have n5_ := Aside0.mk (below_drew1 HB.out)
     clear HO_8
     clear HO_9
     clear HO_11
     clear HO_12
     clear BK297
     clear HB
     have HO_8 := n0_
     have HO_9 := n1_
     have HO_11 := n2_
     have HO_12 := n3_
     have BK297 := n4_
     have HB := n5_
     clear n0_ n1_ n2_ n3_ n4_ n5_
     have p314 : 0 ≤ (x13_2 : Int) := of_decide_eq_true (by first | (with_reducible assumption) | assumption)
     have q314 : x13_2 < (t308.length : Int) := of_decide_eq_true (by first | (with_reducible assumption) | assumption)
     obtain ⟨ad314, e314, hx314_0, hx314_1⟩ := at_T38 (Kd.R_reads' HO_11.out).2.2 x13_2 p314 q314
     (try rw [← Nbq46.out] at hx314_1)
     cases e314
     replace p314 := eq_true p314
     replace q314 := eq_true q314
     have p316 : 0 ≤ (x13_2 : Int) := of_decide_eq_true (by first | (with_reducible assumption) | assumption)
     have q316 : x13_2 < (t308.length : Int) := of_decide_eq_true (by first | (with_reducible assumption) | assumption)
     obtain ⟨ad316, e316, hx316_0, hx316_1⟩ := at_T38 (Kd.R_reads' HO_11.out).2.2 x13_2 p316 q316
     (try rw [← Nbq46.out] at hx316_1)
     obtain rfl : ad314 = ad316 := (by injection e316)
     replace p316 := eq_true p316
     replace q316 := eq_true q316
     refine start_ (n := 14) (S := fun w' => w'.cell? ⟨gb297, 0, none⟩ = some (.int .i64 a0_0) ∧ w'.cell? ⟨gb297, 1, none⟩ = some (.bool a0_1) ∧ w'.cell? ⟨gb297, 2, none⟩ = some (.slice A0_2 l0_2.length c0_2) ∧ w'.cell? (ad314.add ((x13_2).toNat * 2)) = some (.int .i64 ((rd_T38 t308 x13_2).f0)) ∧ w'.cell? ⟨(ad314.add ((x13_2).toNat * 2)).block, (ad314.add ((x13_2).toNat * 2)).off + 1, none⟩ = some (.bool ((rd_T38 t308 x13_2).f1)) ∧ w'.cell? (ad314.add ((x13_2).toNat * 2)) = some (.int .i64 ((rd_T38 t308 x13_2).f0)) ∧ w'.cell? ⟨(ad314.add ((x13_2).toNat * 2)).block, (ad314.add ((x13_2).toNat * 2)).off + 1, none⟩ = some (.bool ((rd_T38 t308 x13_2).f1))) (ds := []) #[false, false, false, false, false, false, false, false, false, false, false, false, false, false] (by kernel_rfl) rfl rfl ⟨(blk_cell BK297.out 0).trans rfl, (blk_cell BK297.out 1).trans rfl, (blk_cell BK297.out 2).trans rfl, hx314_0, hx314_1, hx316_0, hx316_1⟩ (fun hHeld => ?_); refine with_tabW ebbtidelaw11_CostSteps.tab14 ebbtidelaw11_CostSteps.bits14 (fun HT_ HW_ => ?_)
     generalize wr.drew = w52 at HO_8 HO_9 HO_11 HO_12 BK297 HB hx314_0 hx314_1 hx316_0 hx316_1 hHeld ⊢
     refine pure_ (i := 1) (N := some 79) (v := ?_) (a' := ?_) #[false, true, false, false, false, false, false, false, false, false, false, false, false, false] rfl rfl (any_of HT_.out (by kernel_rfl)) (fun _ _ _ h => h) (Or.inl ⟨by rfl, ?_⟩) ?_ ?_
     rotate_left
     ·intro w'
      go_simp
      with_reducible rfl
     rotate_left
     ·simp only [Act.put, List.setIfInBounds_toArray, List.set_cons_zero, List.set_cons_succ, i64_w, i32_w]
      rfl
     refine pure_ (i := 2) (N := some 80) (v := ?_) (a' := ?_) #[false, true, true, false, false, false, false, false, false, false, false, false, false, false] rfl rfl (any_of HT_.out (by kernel_rfl)) (fun _ _ _ h => h) (Or.inl ⟨by rfl, ?_⟩) ?_ ?_
     rotate_left
     ·intro w'
      go_simp
      with_reducible rfl
     rotate_left
     ·simp only [Act.put, List.setIfInBounds_toArray, List.set_cons_zero, List.set_cons_succ, i64_w, i32_w]
      rfl
     refine pure_ (i := 3) (N := some 81) (v := ?_) (a' := ?_) #[false, true, true, true, false, false, false, false, false, false, false, false, false, false] rfl rfl (any_of HT_.out (by kernel_rfl)) (fun _ _ _ h => h) (Or.inl ⟨by rfl, ?_⟩) ?_ ?_
     rotate_left
     ·intro w'
      go_simp
      with_reducible rfl
     rotate_left
     ·simp only [Act.put, List.setIfInBounds_toArray, List.set_cons_zero, List.set_cons_succ, i64_w, i32_w]
      rfl
     refine pure_ (i := 7) (N := some 85) (v := ?_) (a' := ?_) #[false, true, true, true, false, false, false, true, false, false, false, false, false, false] rfl rfl (any_of HT_.out (by kernel_rfl)) (fun _ _ _ h => h) (Or.inl ⟨by rfl, ?_⟩) ?_ ?_
     rotate_left
     ·intro w'
      go_simp
      with_reducible rfl
     rotate_left
     ·simp only [Act.put, List.setIfInBounds_toArray, List.set_cons_zero, List.set_cons_succ, i64_w, i32_w]
      rfl
     refine pure_ (i := 8) (N := some 86) (v := ?_) (a' := ?_) #[false, true, true, true, false, false, false, true, true, false, false, false, false, false] rfl rfl (any_of HT_.out (by kernel_rfl)) (fun _ _ _ h => h) (Or.inl ⟨by rfl, ?_⟩) ?_ ?_
     rotate_left
     ·intro w'
      go_simp
      with_reducible rfl
     rotate_left
     ·simp only [Act.put, List.setIfInBounds_toArray, List.set_cons_zero, List.set_cons_succ, i64_w, i32_w]
      rfl
     refine pure_ (i := 9) (N := some 87) (v := ?_) (a' := ?_) #[false, true, true, true, false, false, false, true, true, true, false, false, false, false] rfl rfl (any_of HT_.out (by kernel_rfl)) (fun _ _ _ h => h) (Or.inl ⟨by rfl, ?_⟩) ?_ ?_
     rotate_left
     ·intro w'
      go_simp
      with_reducible rfl
     rotate_left
     ·simp only [Act.put, List.setIfInBounds_toArray, List.set_cons_zero, List.set_cons_succ, i64_w, i32_w]
      rfl
     refine take_ (i := 0) (N := some 78) (v := ?_) (a' := ?_) #[true, true, true, true, false, false, false, true, true, true, false, false, false, false] rfl rfl (take_ofW HT_.out HW_.out (by kernel_rfl)) (fun _ _ _ h => h) (Or.inl ⟨by rfl, ?_⟩) hHeld ?_ ?_
     rotate_left
     ·rintro w' ⟨s0, s1, s2, s3, s4, s5, s6⟩
      go_simp
      with_reducible rfl
     rotate_left
     ·simp only [Act.put, List.setIfInBounds_toArray, List.set_cons_zero, List.set_cons_succ, i64_w, i32_w]
      rfl
     refine take_ (i := 4) (N := some 82) (v := ?_) (a' := ?_) #[true, true, true, true, true, false, false, true, true, true, false, false, false, false] rfl rfl (take_ofW HT_.out HW_.out (by kernel_rfl)) (fun _ _ _ h => h) (Or.inl ⟨by rfl, ?_⟩) hHeld ?_ ?_
     rotate_left
     ·rintro w' ⟨s0, s1, s2, s3, s4, s5, s6⟩
      go_simp
      with_reducible rfl
     rotate_left
     ·simp only [Act.put, List.setIfInBounds_toArray, List.set_cons_zero, List.set_cons_succ, i64_w, i32_w]
      rfl
     refine take_ (i := 6) (N := some 84) (v := ?_) (a' := ?_) #[true, true, true, true, true, false, true, true, true, true, false, false, false, false] rfl rfl (take_ofW HT_.out HW_.out (by kernel_rfl)) (fun _ _ _ h => h) (Or.inl ⟨by rfl, ?_⟩) hHeld ?_ ?_
     rotate_left
     ·rintro w' ⟨s0, s1, s2, s3, s4, s5, s6⟩
      go_simp
      with_reducible rfl
     rotate_left
     ·simp only [Act.put, List.setIfInBounds_toArray, List.set_cons_zero, List.set_cons_succ, i64_w, i32_w]
      rfl
     refine take_ (i := 10) (N := some 88) (v := ?_) (a' := ?_) #[true, true, true, true, true, false, true, true, true, true, true, false, false, false] rfl rfl (take_ofW HT_.out HW_.out (by kernel_rfl)) (fun _ _ _ h => h) (Or.inl ⟨by rfl, ?_⟩) hHeld ?_ ?_
     rotate_left
     ·rintro w' ⟨s0, s1, s2, s3, s4, s5, s6⟩
      go_simp
      with_reducible rfl
     rotate_left
     ·simp only [Act.put, List.setIfInBounds_toArray, List.set_cons_zero, List.set_cons_succ, i64_w, i32_w]
      rfl
     refine one_ (i := 5) (N := some 83) #[true, true, true, true, true, true, true, true, true, true, true, false, false, false] rfl rfl (one_of HT_.out (by kernel_rfl)) (by decide) (fun K hK => ?_)
     refine goes_ Try.func44 (by kernel_rfl) rfl #[.agg #[.int .i64 a0_0, .bool a0_1, .slice A0_2 l0_2.length c0_2], .agg #[.int .i64 ((rd_T38 t308 x13_2).f0), .bool ((rd_T38 t308 x13_2).f1)]] (by rfl) rfl rfl (by (try simp only [List.map_toArray, List.map_cons, List.map_nil]); first | done | rfl | (simp only [List.length_drop, List.length_take]; rfl)) ?_
     with_reducible refine (ebbtideref07_From.calls a0_0 a0_1 _ _ l0_2 ((rd_T38 t308 x13_2).f0) ((rd_T38 t308 x13_2).f1) t315 _ ?side1 ?side2 (by first | exact A42.out | (have h_ := A42.out; rw [← Nbq46.out] at h_; exact h_) | (have h_ := A42.out; rw [← Nbq17.out] at h_; exact h_))).mono ?_
     (case side1 => repeat (first | exact (Kd.C_below HR0_2.out HB.out) | (with_reducible refine Kd.C_alloc ?_ _) | (with_reducible refine Kd.C_drewN ?_ _) | (with_reducible refine Kd.C_drew ?_)))
     (case side2 => exact HC0_2.out)
     rintro e w53 ⟨rfl, hb⟩
     have HS3_ := (hb.cell (World.block_lt_of_cell? _ _ (hHeld.2.2.2.1))).trans (hHeld.2.2.2.1)
     have HS4_ := (hb.cell (World.block_lt_of_cell? _ _ (hHeld.2.2.2.2.1))).trans (hHeld.2.2.2.2.1)
     have HS5_ := (hb.cell (World.block_lt_of_cell? _ _ (hHeld.2.2.2.2.2.1))).trans (hHeld.2.2.2.2.2.1)
     have HS6_ := (hb.cell (World.block_lt_of_cell? _ _ (hHeld.2.2.2.2.2.2))).trans (hHeld.2.2.2.2.2.2)
     refine ⟨_, rfl, ?_⟩
     have n0_ := Aside0.mk (Kd.R_below HO_8.out hb)
     have n1_ := Aside0.mk (Kd.R_below HO_9.out hb)
     have n2_ := Aside0.mk (Kd.R_below HO_11.out hb)
     have n3_ := Aside0.mk (Kd.R_below HO_12.out hb)
     have n4_ := Aside0.mk (blk_below BK297.out hb)
     have n5_ := Aside0.mk (below_step HB.out hb)
     clear HO_8
     clear HO_9
     clear HO_11
     clear HO_12
     clear BK297
     clear HB
     have HO_8 := n0_
     have HO_9 := n1_
     have HO_11 := n2_
     have HO_12 := n3_
     have BK297 := n4_
     have HB := n5_
     clear n0_ n1_ n2_ n3_ n4_ n5_
     (try clear hb)
     (try clear hb2)
     (try clear hk)
     (try clear hi)
     refine hK.out _ _ ⟨(blk_cell BK297.out 0).trans rfl, (blk_cell BK297.out 1).trans rfl, (blk_cell BK297.out 2).trans rfl, HS3_, HS4_, HS5_, HS6_⟩ (fun hHeld => ?_)
     clear hK K
     refine norm_ (a' := ?_) ?_ ?_
     rotate_left
     ·show Act.put _ (some 83) _ = _
      simp only [Act.put, List.setIfInBounds_toArray, List.set_cons_zero, List.set_cons_succ, i64_w, i32_w]
      rfl
     refine one_ (i := 11) (N := some 89) #[true, true, true, true, true, true, true, true, true, true, true, true, false, false] rfl rfl (one_of HT_.out (by kernel_rfl)) (by decide) (fun K hK => ?_)
     refine goes_ Try.func45 (by kernel_rfl) rfl #[.agg #[.int .i64 a0_0, .bool a0_1, .slice A0_2 l0_2.length c0_2], .agg #[.int .i64 ((rd_T38 t308 x13_2).f0), .bool ((rd_T38 t308 x13_2).f1)]] (by rfl) rfl rfl (by (try simp only [List.map_toArray, List.map_cons, List.map_nil]); first | done | rfl | (simp only [List.length_drop, List.length_take]; rfl)) ?_
     with_reducible refine (ebbtideref07_To.calls a0_0 a0_1 _ _ l0_2 ((rd_T38 t308 x13_2).f0) ((rd_T38 t308 x13_2).f1) t317 _ ?side1 ?side2 (by first | exact A43.out | (have h_ := A43.out; rw [← Nbq46.out] at h_; exact h_) | (have h_ := A43.out; rw [← Nbq17.out] at h_; exact h_))).mono ?_
     (case side1 => repeat (first | exact (Kd.C_below HR0_2.out HB.out) | (with_reducible refine Kd.C_alloc ?_ _) | (with_reducible refine Kd.C_drewN ?_ _) | (with_reducible refine Kd.C_drew ?_)))
     (case side2 => exact HC0_2.out)
     rintro e w54 ⟨rfl, hb⟩
     have HS3_ := (hb.cell (World.block_lt_of_cell? _ _ (hHeld.2.2.2.1))).trans (hHeld.2.2.2.1)
     have HS4_ := (hb.cell (World.block_lt_of_cell? _ _ (hHeld.2.2.2.2.1))).trans (hHeld.2.2.2.2.1)
     have HS5_ := (hb.cell (World.block_lt_of_cell? _ _ (hHeld.2.2.2.2.2.1))).trans (hHeld.2.2.2.2.2.1)
     have HS6_ := (hb.cell (World.block_lt_of_cell? _ _ (hHeld.2.2.2.2.2.2))).trans (hHeld.2.2.2.2.2.2)
     refine ⟨_, rfl, ?_⟩
     have n0_ := Aside0.mk (Kd.R_below HO_8.out hb)
     have n1_ := Aside0.mk (Kd.R_below HO_9.out hb)
     have n2_ := Aside0.mk (Kd.R_below HO_11.out hb)
     have n3_ := Aside0.mk (Kd.R_below HO_12.out hb)
     have n4_ := Aside0.mk (blk_below BK297.out hb)
     have n5_ := Aside0.mk (below_step HB.out hb)
     clear HO_8
     clear HO_9
     clear HO_11
     clear HO_12
     clear BK297
     clear HB
     have HO_8 := n0_
     have HO_9 := n1_
     have HO_11 := n2_
     have HO_12 := n3_
     have BK297 := n4_
     have HB := n5_
     clear n0_ n1_ n2_ n3_ n4_ n5_
     (try clear hb)
     (try clear hb2)
     (try clear hk)
     (try clear hi)
     refine hK.out _ _ ⟨(blk_cell BK297.out 0).trans rfl, (blk_cell BK297.out 1).trans rfl, (blk_cell BK297.out 2).trans rfl, HS3_, HS4_, HS5_, HS6_⟩ (fun hHeld => ?_)
     clear hK K
     refine norm_ (a' := ?_) ?_ ?_
     rotate_left
     ·show Act.put _ (some 89) _ = _
      simp only [Act.put, List.setIfInBounds_toArray, List.set_cons_zero, List.set_cons_succ, i64_w, i32_w]
      rfl
     refine pure_ (i := 12) (N := some 14) (v := ?_) (a' := ?_) #[true, true, true, true, true, true, true, true, true, true, true, true, true, false] rfl rfl (any_of HT_.out (by kernel_rfl)) (fun _ _ _ h => h) (Or.inl ⟨by rfl, ?_⟩) ?_ ?_
     rotate_left
     ·intro w'
      go_simp
      with_reducible rfl
     rotate_left
     ·simp only [Act.put, List.setIfInBounds_toArray, List.set_cons_zero, List.set_cons_succ, i64_w, i32_w]
      rfl
     refine pure_ (i := 13) (N := some 15) (v := ?_) (a' := ?_) #[true, true, true, true, true, true, true, true, true, true, true, true, true, true] rfl rfl (any_of HT_.out (by kernel_rfl)) (fun _ _ _ h => h) (Or.inl ⟨by rfl, ?_⟩) ?_ ?_
     rotate_left
     ·intro w'
      go_simp
      with_reducible rfl
     rotate_left
     ·simp only [Act.put, List.setIfInBounds_toArray, List.set_cons_zero, List.set_cons_succ, i64_w, i32_w]
      rfl
     refine done_ (done_of HT_.out (by kernel_rfl)) ?_
     obtain ⟨Ao55, co55, eo55⟩ := Kd.R_slice HO_9.out
     subst eo55
     have p318 : 0 ≤ (t315 : Int) := of_decide_eq_true (by first | (with_reducible assumption) | assumption)
     have q318 : t315 < (t302.length : Int) := of_decide_eq_true (by first | (with_reducible assumption) | assumption)
     obtain ⟨ad318, e318, hx318_0⟩ := Kd.at_bool (Kd.R_reads' HO_9.out).2.2 t315 p318 q318
     (try rw [← Nbq46.out] at hx318_0)
     cases e318
     replace p318 := eq_true p318
     replace q318 := eq_true q318
     try go_wp2
     have n0_ := Aside0.mk (Kd.R_drew HO_8.out)
     have n1_ := Aside0.mk (Kd.R_drew HO_9.out)
     have n2_ := Aside0.mk (Kd.R_drew HO_11.out)
     have n3_ := Aside0.mk (Kd.R_drew HO_12.out)
     have n4_ := Aside0.mk (blk_drew BK297.out)
     have n5_ := Aside0.mk (below_drew1 HB.out)
     clear HO_8
     clear HO_9
     clear HO_11
     clear HO_12
     clear BK297
     clear HB
     have HO_8 := n0_
     have HO_9 := n1_
     have HO_11 := n2_
     have HO_12 := n3_
     have BK297 := n4_
     have HB := n5_
     clear n0_ n1_ n2_ n3_ n4_ n5_
     obtain ⟨Ao57, co57, eo57⟩ := Kd.R_slice HO_8.out
     (first | subst eo57 | (injection eo57 with f1_ f2_ f3_; have f4_ := f1_.symm; have f5_ := f3_.symm; clear f1_ f2_ f3_; subst f4_; subst f5_))
     have p319 : 0 ≤ (t315 : Int) := of_decide_eq_true (by first | (with_reducible assumption) | assumption)
     have q319 : t315 < (t299.length : Int) := of_decide_eq_true (by first | (with_reducible assumption) | assumption)
     obtain ⟨ad319, e319, hx319_0⟩ := Kd.at_int (Kd.R_reads' HO_8.out).2.2 t315 p319 q319
     cases e319
     replace p319 := eq_true p319
     replace q319 := eq_true q319
     have p320 : 0 ≤ (x13_2 : Int) := of_decide_eq_true (by first | (with_reducible assumption) | assumption)
     have q320 : x13_2 < (t308.length : Int) := of_decide_eq_true (by first | (with_reducible assumption) | assumption)
     obtain ⟨ad320, e320, hx320_0, hx320_1⟩ := at_T38 (Kd.R_reads' HO_11.out).2.2 x13_2 p320 q320
     (try rw [← Nbq46.out] at hx320_1)
     obtain rfl : ad314 = ad320 := (by injection e320)
     replace p320 := eq_true p320
     replace q320 := eq_true q320
     refine start_ (n := 12) (S := fun w' => w'.cell? ⟨gb297, 0, none⟩ = some (.int .i64 a0_0) ∧ w'.cell? ⟨gb297, 1, none⟩ = some (.bool a0_1) ∧ w'.cell? ⟨gb297, 2, none⟩ = some (.slice A0_2 l0_2.length c0_2) ∧ w'.cell? (ad319.add (t315).toNat) = some (.int .i64 (rd t299 t315)) ∧ w'.cell? (ad314.add ((x13_2).toNat * 2)) = some (.int .i64 ((rd_T38 t308 x13_2).f0)) ∧ w'.cell? ⟨(ad314.add ((x13_2).toNat * 2)).block, (ad314.add ((x13_2).toNat * 2)).off + 1, none⟩ = some (.bool ((rd_T38 t308 x13_2).f1))) (ds := []) #[false, false, false, false, false, false, false, false, false, false, false, false] (by kernel_rfl) rfl rfl ⟨(blk_cell BK297.out 0).trans rfl, (blk_cell BK297.out 1).trans rfl, (blk_cell BK297.out 2).trans rfl, hx319_0, hx320_0, hx320_1⟩ (fun hHeld => ?_); refine with_tabW ebbtidelaw11_CostSteps.tab16 ebbtidelaw11_CostSteps.bits16 (fun HT_ HW_ => ?_)
     generalize w54.drew = w56 at HO_8 HO_9 HO_11 HO_12 BK297 HB hx319_0 hx320_0 hx320_1 hHeld ⊢
     refine pure_ (i := 0) (N := some 95) (v := ?_) (a' := ?_) #[true, false, false, false, false, false, false, false, false, false, false, false] rfl rfl (any_of HT_.out (by kernel_rfl)) (fun _ _ _ h => h) (Or.inl ⟨by rfl, ?_⟩) ?_ ?_
     rotate_left
     ·intro w'
      go_simp
      with_reducible rfl
     rotate_left
     ·simp only [Act.put, List.setIfInBounds_toArray, List.set_cons_zero, List.set_cons_succ, i64_w, i32_w]
      rfl
     refine pure_ (i := 1) (N := some 96) (v := ?_) (a' := ?_) #[true, true, false, false, false, false, false, false, false, false, false, false] rfl rfl (any_of HT_.out (by kernel_rfl)) (fun _ _ _ h => h) (Or.inl ⟨by rfl, ?_⟩) ?_ ?_
     rotate_left
     ·intro w'
      go_simp
      with_reducible rfl
     rotate_left
     ·simp only [Act.put, List.setIfInBounds_toArray, List.set_cons_zero, List.set_cons_succ, i64_w, i32_w]
      rfl
     refine pure_ (i := 2) (N := some 97) (v := ?_) (a' := ?_) #[true, true, true, false, false, false, false, false, false, false, false, false] rfl rfl (any_of HT_.out (by kernel_rfl)) (fun _ _ _ h => h) (Or.inl ⟨by rfl, ?_⟩) ?_ ?_
     rotate_left
     ·intro w'
      go_simp
      with_reducible rfl
     rotate_left
     ·simp only [Act.put, List.setIfInBounds_toArray, List.set_cons_zero, List.set_cons_succ, i64_w, i32_w]
      rfl
     refine pure_ (i := 5) (N := some 100) (v := ?_) (a' := ?_) #[true, true, true, false, false, true, false, false, false, false, false, false] rfl rfl (any_of HT_.out (by kernel_rfl)) (fun _ _ _ h => h) (Or.inl ⟨by rfl, ?_⟩) ?_ ?_
     rotate_left
     ·intro w'
      go_simp
      with_reducible rfl
     rotate_left
     ·simp only [Act.put, List.setIfInBounds_toArray, List.set_cons_zero, List.set_cons_succ, i64_w, i32_w]
      rfl
     refine pure_ (i := 6) (N := some 101) (v := ?_) (a' := ?_) #[true, true, true, false, false, true, true, false, false, false, false, false] rfl rfl (any_of HT_.out (by kernel_rfl)) (fun _ _ _ h => h) (Or.inl ⟨by rfl, ?_⟩) ?_ ?_
     rotate_left
     ·intro w'
      go_simp
      with_reducible rfl
     rotate_left
     ·simp only [Act.put, List.setIfInBounds_toArray, List.set_cons_zero, List.set_cons_succ, i64_w, i32_w]
      rfl
     refine pure_ (i := 7) (N := some 102) (v := ?_) (a' := ?_) #[true, true, true, false, false, true, true, true, false, false, false, false] rfl rfl (any_of HT_.out (by kernel_rfl)) (fun _ _ _ h => h) (Or.inl ⟨by rfl, ?_⟩) ?_ ?_
     rotate_left
     ·intro w'
      go_simp
      with_reducible rfl
     rotate_left
     ·simp only [Act.put, List.setIfInBounds_toArray, List.set_cons_zero, List.set_cons_succ, i64_w, i32_w]
      rfl
     refine take_ (i := 3) (N := some 98) (v := ?_) (a' := ?_) #[true, true, true, true, false, true, true, true, false, false, false, false] rfl rfl (take_ofW HT_.out HW_.out (by kernel_rfl)) (fun _ _ _ h => h) (Or.inl ⟨by rfl, ?_⟩) hHeld ?_ ?_
     rotate_left
     ·rintro w' ⟨s0, s1, s2, s3, s4, s5⟩
      go_simp
      with_reducible rfl
     rotate_left
     ·simp only [Act.put, List.setIfInBounds_toArray, List.set_cons_zero, List.set_cons_succ, i64_w, i32_w]
      rfl
     refine take_ (i := 4) (N := some 99) (v := ?_) (a' := ?_) #[true, true, true, true, true, true, true, true, false, false, false, false] rfl rfl (take_ofW HT_.out HW_.out (by kernel_rfl)) (fun _ _ _ h => h) (Or.inl ⟨by rfl, ?_⟩) hHeld ?_ ?_
     rotate_left
     ·rintro w' ⟨s0, s1, s2, s3, s4, s5⟩
      go_simp
      with_reducible rfl
     rotate_left
     ·simp only [Act.put, List.setIfInBounds_toArray, List.set_cons_zero, List.set_cons_succ, i64_w, i32_w]
      rfl
     refine take_ (i := 8) (N := some 103) (v := ?_) (a' := ?_) #[true, true, true, true, true, true, true, true, true, false, false, false] rfl rfl (take_ofW HT_.out HW_.out (by kernel_rfl)) (fun _ _ _ h => h) (Or.inl ⟨by rfl, ?_⟩) hHeld ?_ ?_
     rotate_left
     ·rintro w' ⟨s0, s1, s2, s3, s4, s5⟩
      go_simp
      with_reducible rfl
     rotate_left
     ·simp only [Act.put, List.setIfInBounds_toArray, List.set_cons_zero, List.set_cons_succ, i64_w, i32_w]
      rfl
     refine one_ (i := 9) (N := some 104) #[true, true, true, true, true, true, true, true, true, true, false, false] rfl rfl (one_of HT_.out (by kernel_rfl)) (by decide) (fun K hK => ?_)
     refine goes_ Try.func46 (by kernel_rfl) rfl #[.agg #[.int .i64 a0_0, .bool a0_1, .slice A0_2 l0_2.length c0_2], .agg #[.int .i64 ((rd_T38 t308 x13_2).f0), .bool ((rd_T38 t308 x13_2).f1)]] (by rfl) rfl rfl (by (try simp only [List.map_toArray, List.map_cons, List.map_nil]); first | done | rfl | (simp only [List.length_drop, List.length_take]; rfl)) ?_
     with_reducible refine (ebbtideref11_Time.calls a0_0 a0_1 _ _ l0_2 ((rd_T38 t308 x13_2).f0) ((rd_T38 t308 x13_2).f1) t321 _ ?side1 ?side2 (by first | exact A49.out | (have h_ := A49.out; rw [← Nbq46.out] at h_; exact h_) | (have h_ := A49.out; rw [← Nbq17.out] at h_; exact h_))).mono ?_
     (case side1 => repeat (first | exact (Kd.C_below HR0_2.out HB.out) | (with_reducible refine Kd.C_alloc ?_ _) | (with_reducible refine Kd.C_drewN ?_ _) | (with_reducible refine Kd.C_drew ?_)))
     (case side2 => exact HC0_2.out)
     rintro e w58 ⟨rfl, hb⟩
     have HS3_ := (hb.cell (World.block_lt_of_cell? _ _ (hHeld.2.2.2.1))).trans (hHeld.2.2.2.1)
     have HS4_ := (hb.cell (World.block_lt_of_cell? _ _ (hHeld.2.2.2.2.1))).trans (hHeld.2.2.2.2.1)
     have HS5_ := (hb.cell (World.block_lt_of_cell? _ _ (hHeld.2.2.2.2.2))).trans (hHeld.2.2.2.2.2)
     refine ⟨_, rfl, ?_⟩
     have n0_ := Aside0.mk (Kd.R_below HO_8.out hb)
     have n1_ := Aside0.mk (Kd.R_below HO_9.out hb)
     have n2_ := Aside0.mk (Kd.R_below HO_11.out hb)
     have n3_ := Aside0.mk (Kd.R_below HO_12.out hb)
     have n4_ := Aside0.mk (blk_below BK297.out hb)
     have n5_ := Aside0.mk (below_step HB.out hb)
     clear HO_8
     clear HO_9
     clear HO_11
     clear HO_12
     clear BK297
     clear HB
     have HO_8 := n0_
     have HO_9 := n1_
     have HO_11 := n2_
     have HO_12 := n3_
     have BK297 := n4_
     have HB := n5_
     clear n0_ n1_ n2_ n3_ n4_ n5_
     (try clear hb)
     (try clear hb2)
     (try clear hk)
     (try clear hi)
     refine hK.out _ _ ⟨(blk_cell BK297.out 0).trans rfl, (blk_cell BK297.out 1).trans rfl, (blk_cell BK297.out 2).trans rfl, HS3_, HS4_, HS5_⟩ (fun hHeld => ?_)
     clear hK K
     refine norm_ (a' := ?_) ?_ ?_
     rotate_left
     ·show Act.put _ (some 104) _ = _
      simp only [Act.put, List.setIfInBounds_toArray, List.set_cons_zero, List.set_cons_succ, i64_w, i32_w]
      rfl
     refine pure_ (i := 10) (N := some 105) (v := ?_) (a' := ?_) #[true, true, true, true, true, true, true, true, true, true, true, false] rfl rfl (any_of HT_.out (by kernel_rfl)) (fun _ _ _ h => h) (Or.inl ⟨by rfl, ?_⟩) ?_ ?_
     rotate_left
     ·intro w'
      go_simp
      with_reducible rfl
     rotate_left
     ·simp only [Act.put, List.setIfInBounds_toArray, List.set_cons_zero, List.set_cons_succ, i64_w, i32_w]
      rfl
     refine pure_ (i := 11) (N := some 16) (v := ?_) (a' := ?_) #[true, true, true, true, true, true, true, true, true, true, true, true] rfl rfl (any_of HT_.out (by kernel_rfl)) (fun _ _ _ h => h) (Or.inl ⟨by rfl, ?_⟩) ?_ ?_
     rotate_left
     ·intro w'
      go_simp
      with_reducible rfl
     rotate_left
     ·simp only [Act.put, List.setIfInBounds_toArray, List.set_cons_zero, List.set_cons_succ, i64_w, i32_w]
      rfl
     refine done_ (done_of HT_.out (by kernel_rfl)) ?_
     go_upto_region 17 with (fail)
     go_cut [118] (fun v118 wc => ∃ (kq : Nat) (x118_49 : Bool), v118 = .bool x118_49 ∧ Aside0 (ebbtidelaw11_CostSteps.j2 kq a2 true t299 t302 t308 x12_2 x13_2 t317 (wrap64 ((rd t299 t315) + t321)) x118_49 a0_0 a0_1 l0_2 = some r) ∧ Aside0 (kq ≤ k2) ∧ Aside0 (Kd.R (Kd.int .i64) 3 wc w.heap.size (fun k_ => some k_ ≠ (v312 : Value).ownBlock) (.slice (some ad319) t299.length co57) t299) ∧ Aside0 (Kd.R Kd.bool 4 wc w.heap.size (fun _ => True) (.slice (some ad318) t302.length co55) t302) ∧ Aside0 (Kd.R k38 38 wc w.heap.size (fun _ => True) (.slice (some ad314) t308.length co51) t308) ∧ Aside0 (Kd.R (Kd.int .i64) 3 wc w.heap.size (fun k_ => some k_ ≠ ((.slice (some ad319) t299.length co57) : Value).ownBlock) v312 x12_2) ∧ Aside0 (wc.heap[gb297]? = some (.cells #[.int .i64 a0_0, .bool a0_1, (.slice A0_2 l0_2.length c0_2)] 24 (0, 0))) ∧ Aside0 (Below w.heap.size w wc))
     case first =>
      have H := HC50.out
      clear HC50
      by_cases c59 : 0 ≤ t317
      rotate_left
      ·rw [if_neg c59] at H
       exact absurd H (by simp)
      rw [if_pos c59] at H
      have c59b0 : decide (0 ≤ t317) = true := decide_eq_true c59
      clear c59
      (first | rw [c59b0] | (simp only [i64_w, i32_w]; rw [c59b0]) | skip)
      by_cases c60 : t317 < (t302.length : Int)
      rotate_left
      ·rw [if_neg c60] at H
       exact absurd H (by simp)
      rw [if_pos c60] at H
      have c60b0 : decide (t317 < (t302.length : Int)) = true := decide_eq_true c60
      clear c60
      obtain ⟨bq61, hbq61⟩ : ∃ b_ : Bool, b_ = (rdOf false t302 t317) := ⟨_, rfl⟩
      replace H : (if bq61 = true then (if t317 < (t299.length : Int) then (ebbtidelaw11_CostSteps.j2 k2 a2 true t299 t302 t308 x12_2 x13_2 t317 (wrap64 ((rd t299 t315) + t321)) (decide ((rd t299 t317) > (wrap64 ((rd t299 t315) + t321)))) a0_0 a0_1 l0_2) else (none)) else (ebbtidelaw11_CostSteps.j2 k2 a2 true t299 t302 t308 x12_2 x13_2 t317 (wrap64 ((rd t299 t315) + t321)) true a0_0 a0_1 l0_2)) = some r := by rw [← hbq61] at H; exact H
      have Nbq61 := Aside0.mk hbq61
      clear hbq61
      by_cases c62 : bq61 = true
      rotate_left
      ·replace c62 := Bool.eq_false_iff.mpr c62
       subst c62
       have H1 : (ebbtidelaw11_CostSteps.j2 k2 a2 true t299 t302 t308 x12_2 x13_2 t317 (wrap64 ((rd t299 t315) + t321)) true a0_0 a0_1 l0_2) = some r := by rw [if_neg (show ¬ (false = true) by decide)] at H; exact H
       clear H
       have H := H1
       clear H1
       have H' := Aside0.mk H
       clear H
       have p322 : 0 ≤ (t317 : Int) := of_decide_eq_true (by first | (with_reducible assumption) | assumption)
       have q322 : t317 < (t302.length : Int) := of_decide_eq_true (by first | (with_reducible assumption) | assumption)
       obtain ⟨ad322, e322, hx322_0⟩ := Kd.at_bool (Kd.R_reads' HO_9.out).2.2 t317 p322 q322
       (try rw [← Nbq46.out] at hx322_0)
       (try rw [← Nbq61.out] at hx322_0)
       obtain rfl : ad318 = ad322 := (by injection e322)
       replace p322 := eq_true p322
       replace q322 := eq_true q322
       go_wp2
       go_meet
       case rel => exact ⟨_, (true), (by first | rfl | (simp; done) | (simp [*]; done)), H', ⟨by have := HJ7.out; have := HK2.out; first | omega | exact Nat.le_refl _⟩, ⟨HO_8.out⟩, ⟨HO_9.out⟩, ⟨HO_11.out⟩, ⟨HO_12.out⟩, ⟨BK297.out⟩, ⟨HB.out⟩⟩
      subst c62
      have H1 : (if t317 < (t299.length : Int) then (ebbtidelaw11_CostSteps.j2 k2 a2 true t299 t302 t308 x12_2 x13_2 t317 (wrap64 ((rd t299 t315) + t321)) (decide ((rd t299 t317) > (wrap64 ((rd t299 t315) + t321)))) a0_0 a0_1 l0_2) else (none)) = some r := by rw [if_pos rfl] at H; exact H
      clear H
      have H := H1
      clear H1
      by_cases c63 : t317 < (t299.length : Int)
      rotate_left
      ·rw [if_neg c63] at H
       exact absurd H (by simp)
      rw [if_pos c63] at H
      have c63b0 : decide (t317 < (t299.length : Int)) = true := decide_eq_true c63
      clear c63
      have H' := Aside0.mk H
      clear H
      have p322 : 0 ≤ (t317 : Int) := of_decide_eq_true (by first | (with_reducible assumption) | assumption)
      have q322 : t317 < (t302.length : Int) := of_decide_eq_true (by first | (with_reducible assumption) | assumption)
      obtain ⟨ad322, e322, hx322_0⟩ := Kd.at_bool (Kd.R_reads' HO_9.out).2.2 t317 p322 q322
      (try rw [← Nbq46.out] at hx322_0)
      (try rw [← Nbq61.out] at hx322_0)
      obtain rfl : ad318 = ad322 := (by injection e322)
      replace p322 := eq_true p322
      replace q322 := eq_true q322
      have p323 : 0 ≤ (t317 : Int) := of_decide_eq_true (by first | (with_reducible assumption) | assumption)
      have q323 : t317 < (t299.length : Int) := of_decide_eq_true (by first | (with_reducible assumption) | assumption)
      obtain ⟨ad323, e323, hx323_0⟩ := Kd.at_int (Kd.R_reads' HO_8.out).2.2 t317 p323 q323
      obtain rfl : ad319 = ad323 := (by injection e323)
      replace p323 := eq_true p323
      replace q323 := eq_true q323
      go_wp2
      go_meet
      case rel => exact ⟨_, (decide ((rd t299 t317) > (wrap64 ((rd t299 t315) + t321)))), (by first | rfl | (simp; done) | (simp [*]; done)), H', ⟨by have := HJ7.out; have := HK2.out; first | omega | exact Nat.le_refl _⟩, ⟨HO_8.out⟩, ⟨HO_9.out⟩, ⟨HO_11.out⟩, ⟨HO_12.out⟩, ⟨BK297.out⟩, ⟨HB.out⟩⟩
     case rest =>
      clear HC50
      try clear c1
      try clear q1
      try clear p2
      try clear c3
      try clear p3
      try clear q3
      try clear hx3
      try clear c4
      try clear q4
      try clear c5
      try clear c6
      try clear p6
      try clear q6
      try clear c13
      try clear c13b0
      try clear c13b1
      try clear c14
      try clear c14b0
      try clear c14b1
      try clear c15
      try clear c15b0
      try clear c16
      try clear c16b0
      try clear q17
      try clear c18
      try clear c19
      try clear c19b0
      try clear p30
      try clear q30
      try clear hx30
      try clear c31
      try clear p31
      try clear q31
      try clear hx31
      try clear p32
      try clear q32
      try clear hx32
      try clear c33
      try clear c33b0
      try clear c33b1
      try clear c34
      try clear c34b0
      try clear c34b1
      try clear c38
      try clear c40
      try clear c40b0
      try clear c41
      try clear c41b0
      try clear c44
      try clear c44b0
      try clear c45
      try clear c45b0
      try clear c46
      try clear q46
      try clear c47
      try clear c48
      try clear c48b0
      try clear c59
      try clear c59b0
      try clear c60
      try clear c60b0
      try clear q61
      try clear c62
      try clear c63
      try clear c63b0
      try clear hcz11_0
      try clear hcz11_1
      try clear hcz11_2
      try clear hcz21_0
      try clear hcz21_1
      try clear hcz21_2
      try clear hcz24_0
      try clear hcz24_1
      try clear hcz24_2
      try clear hcz27_0
      try clear hcz27_1
      try clear hcz27_2
      try clear hcz30_0
      try clear hcz30_1
      try clear hcz30_2
      try clear hcz35_0
      try clear hcz35_1
      try clear hcz35_2
      try clear hcz37_0
      try clear hcz37_1
      try clear hcz37_2
      try clear hfz11_0
      try clear hfz11_1
      try clear hfz11_2
      try clear hfz21_0
      try clear hfz21_1
      try clear hfz21_2
      try clear hfz24_0
      try clear hfz24_1
      try clear hfz24_2
      try clear hfz27_0
      try clear hfz27_1
      try clear hfz27_2
      try clear hfz30_0
      try clear hfz30_1
      try clear hfz30_2
      try clear hfz35_0
      try clear hfz35_1
      try clear hfz35_2
      try clear hfz37_0
      try clear hfz37_1
      try clear hfz37_2
      try clear hx306_0
      try clear hx307_0
      try clear hx314_0
      try clear hx314_1
      try clear hx316_0
      try clear hx316_1
      try clear hx318_0
      try clear hx319_0
      try clear hx320_0
      try clear hx320_1
      try clear hx322_0
      try clear hx323_0
      try clear p2
      try clear p3
      try clear p30
      try clear p306
      try clear p307
      try clear p314
      try clear p316
      try clear p318
      try clear p319
      try clear p320
      try clear p322
      try clear p323
      try clear p6
      try clear q1
      try clear q17
      try clear q3
      try clear q30
      try clear q306
      try clear q307
      try clear q314
      try clear q316
      try clear q318
      try clear q319
      try clear q320
      try clear q322
      try clear q323
      obtain ⟨kq, x118_49, rfl, HA, HJ49, HO_8, HO_9, HO_11, HO_12, BK297, HB⟩ := hcut
      cases kq with
      | zero => exact absurd HA.out (by simp [ebbtidelaw11_CostSteps.j2])
      | succ kj49 =>
       have H := HA.out
       clear HA
       simp only [ebbtidelaw11_CostSteps.j2] at H
       by_cases c64 : x118_49 = true
       ·subst c64
        have H1 : (some false) = some r := by rw [if_pos rfl] at H; exact H
        exact absurd (Option.some.inj H1) (by rw [HRT.out]; decide)
       replace c64 := Bool.eq_false_iff.mpr c64
       subst c64
       have H1 : (if 0 ≤ t317 then (if t317 < (t299.length : Int) then (if (rd t299 t317) = (wrap64 ((rd t299 t315) + t321)) then (if t317 < (x12_2.length : Int) then (ebbtidelaw11_CostSteps.l0 kj49 a2 true t299 t302 t308 (x12_2.set (t317 : Int).toNat (wrap64 ((rd x12_2 t317) + 1))) (wrap64 (x13_2 + 1)) a0_0 a0_1 l0_2) else (none)) else (ebbtidelaw11_CostSteps.l0 kj49 a2 true t299 t302 t308 x12_2 (wrap64 (x13_2 + 1)) a0_0 a0_1 l0_2)) else (none)) else (none)) = some r := by rw [if_neg (show ¬ (false = true) by decide)] at H; exact H
       clear H
       have H := H1
       clear H1
       by_cases c65 : 0 ≤ t317
       rotate_left
       ·rw [if_neg c65] at H
        exact absurd H (by simp)
       rw [if_pos c65] at H
       have c65b0 : decide (0 ≤ t317) = true := decide_eq_true c65
       clear c65
       by_cases c66 : t317 < (t299.length : Int)
       rotate_left
       ·rw [if_neg c66] at H
        exact absurd H (by simp)
       rw [if_pos c66] at H
       have c66b0 : decide (t317 < (t299.length : Int)) = true := decide_eq_true c66
       clear c66
       by_cases c67 : (rd t299 t317) = (wrap64 ((rd t299 t315) + t321))
       rotate_left
       ·rw [if_neg c67] at H
        have c67b0 : ((rd t299 t317) == (wrap64 ((rd t299 t315) + t321))) = false := beq_eq_false_iff_ne.mpr c67
        have c67b1 : ((rd t299 t317) != (wrap64 ((rd t299 t315) + t321))) = true := bne_iff_ne.mpr c67
        have H' := Aside0.mk H
        clear H
        have p324 : 0 ≤ (t317 : Int) := of_decide_eq_true (by first | (with_reducible assumption) | assumption)
        have q324 : t317 < (t299.length : Int) := of_decide_eq_true (by first | (with_reducible assumption) | assumption)
        obtain ⟨ad324, e324, hx324_0⟩ := Kd.at_int (Kd.R_reads' HO_8.out).2.2 t317 p324 q324
        obtain rfl : ad319 = ad324 := (by injection e324)
        replace p324 := eq_true p324
        replace q324 := eq_true q324
        go_wp2
        go_roundg kj49
        case measure => have := HJ7.out; have := HK2.out; have := HJ49.out; omega
        case rel => exact ⟨(x12_2), (wrap64 (x13_2 + 1)), (by first | rfl | (simp; done) | (simp [*]; done)), H', ⟨by have := HJ7.out; have := HK2.out; have := HJ49.out; omega⟩, ⟨HO_8.out⟩, ⟨HO_9.out⟩, ⟨HO_11.out⟩, ⟨HO_12.out⟩, ⟨BK297.out⟩, ⟨HB.out⟩⟩
       rw [if_pos c67] at H
       have c67b0 : ((rd t299 t317) == (wrap64 ((rd t299 t315) + t321))) = true := beq_iff_eq.mpr c67
       have c67b1 : ((rd t299 t317) != (wrap64 ((rd t299 t315) + t321))) = false := bne_eq_false_iff_eq.mpr c67
       clear c67
       by_cases c68 : t317 < (x12_2.length : Int)
       rotate_left
       ·rw [if_neg c68] at H
        exact absurd H (by simp)
       rw [if_pos c68] at H
       have c68b0 : decide (t317 < (x12_2.length : Int)) = true := decide_eq_true c68
       clear c68
       obtain ⟨y326, hy326⟩ : ∃ y_ : List Int, y_ = (x12_2.set (t317 : Int).toNat (wrap64 ((rd x12_2 t317) + 1))) := ⟨_, rfl⟩
       replace H : (ebbtidelaw11_CostSteps.l0 kj49 a2 true t299 t302 t308 y326 (wrap64 (x13_2 + 1)) a0_0 a0_1 l0_2) = some r := by first | (rw [hy326]; with_reducible exact H) | (have H2_ := (Option.bind_some _ _).symm.trans H; rw [hy326]; with_reducible exact H2_) | (have H2_ := (Option.bind_some _ _).symm.trans H; with_reducible exact H2_) | with_reducible exact H | (rw [hy326]; exact H) | exact H
       have Ny326 := Aside0.mk hy326
       clear hy326
       have H' := Aside0.mk H
       clear H
       have p324 : 0 ≤ (t317 : Int) := of_decide_eq_true (by first | (with_reducible assumption) | assumption)
       have q324 : t317 < (t299.length : Int) := of_decide_eq_true (by first | (with_reducible assumption) | assumption)
       obtain ⟨ad324, e324, hx324_0⟩ := Kd.at_int (Kd.R_reads' HO_8.out).2.2 t317 p324 q324
       obtain rfl : ad319 = ad324 := (by injection e324)
       replace p324 := eq_true p324
       replace q324 := eq_true q324
       obtain ⟨Ao70, co70, eo70⟩ := Kd.R_slice HO_12.out
       subst eo70
       have p325 : 0 ≤ (t317 : Int) := of_decide_eq_true (by first | (with_reducible assumption) | assumption)
       have q325 : t317 < (x12_2.length : Int) := of_decide_eq_true (by first | (with_reducible assumption) | assumption)
       obtain ⟨ad325, e325, hx325_0⟩ := Kd.at_int (Kd.R_reads' HO_12.out).2.2 t317 p325 q325
       cases e325
       replace p325 := eq_true p325
       replace q325 := eq_true q325
       have p69 : 0 ≤ (t317 : Int) := of_decide_eq_true (by first | (with_reducible assumption) | assumption)
       have q69 : (t317 : Int) < ((x12_2.length : Int) : Int) := of_decide_eq_true (by first | (with_reducible assumption) | assumption)
       obtain ⟨go69, co69, eo69, gb69, gl69, cl69, HG69⟩ := Kd.R_form HO_12.out (by omega)
       (first | cases eo69 | (injection eo69 with ea_ en_ ec_; (first | subst ea_ | (injection ea_ with ea_; subst ea_)); subst ec_; clear en_))
       have GB69 := Aside0.mk gb69
       have GG69 := Aside0.mk HG69
       clear gb69 gl69 HG69
       (first | simp only [add_plain] at hx325_0 | skip)
       obtain ⟨hx69_0, hf69_0⟩ := Kd.R_celln 0 HO_12.out (t317 : Int) p69 q69
       replace p69 := eq_true p69
       replace q69 := eq_true q69
       have HP71 := Kd.R_putg HO_12.out (t317 : Int) (wrap64 ((rd x12_2 t317) + 1))
       go_wp2_with (first | ((with_reducible refine gate_store (t := 3) (p := 130) rfl ?_); refine store_event (t := 3) (p := 130) (v := ?vo_w72) (w1 := (wc.setCell ⟨go69, (t317 : Int).toNat, none⟩ (.int .i64 (wrap64 ((rd x12_2 t317) + 1))))) ?hg ?ho ?hn ?hr ?_; (case ho => rfl); (case hg => rfl); (case hn => rfl); (case hr => first | (go_simp; done) | (go_simp; rfl)); intro w72 hw; have hg : wc.grownBy w72 (some go69) := (by rw [hw]; exact HP71.2); have hp_ : Kd.R (Kd.int .i64) 3 w72 w.heap.size (fun k_ => some k_ ≠ (.slice (some ad319) t299.length co57 : Value).ownBlock) (.slice (some ⟨go69, 0, none⟩) x12_2.length co70) y326 := (by rw [hw, Ny326.out]; exact HP71.1); clear HP71; have n0_ := Aside0.mk (Kd.R_after (v := (.slice (some ⟨go69, 0, none⟩) x12_2.length co70)) (v1 := (.slice (some ⟨go69, 0, none⟩) x12_2.length co70)) (ok := (fun _ => True)) (by (with_reducible repeat (first | apply Kd.R_alloc | apply Kd.R_drewN | apply Kd.R_drew)); exact Kd.R_mono HO_8.out (fun _ hk => ⟨trivial, hk⟩)) hg (.inl rfl)); have n1_ := Aside0.mk (Kd.R_over' (v := (.slice (some ⟨go69, 0, none⟩) x12_2.length co70)) HO_9.out (Kd.R_typed HO_12.out) (by decide) hg); have n2_ := Aside0.mk (Kd.R_over' (v := (.slice (some ⟨go69, 0, none⟩) x12_2.length co70)) HO_11.out (Kd.R_typed HO_12.out) (by decide) hg); have n3_ := Aside0.mk (hp_); have n4_ := Aside0.mk (blk_grown BK297.out hg (Kd.R_ne HO_12.out BK297.out (by decide))); have n5_ := Aside0.mk ((by rw [hw]; exact below_set (HB.out) GB69.out : Below w.heap.size w w72)); clear HO_8; clear HO_9; clear HO_11; clear HO_12; clear BK297; clear HB; have HO_8 := n0_; have HO_9 := n1_; have HO_11 := n2_; have HO_12 := n3_; have BK297 := n4_; have HB := n5_; clear n0_ n1_ n2_ n3_ n4_ n5_; clear hg hw hp_))
       go_roundg kj49
       case measure => have := HJ7.out; have := HK2.out; have := HJ49.out; omega
       case rel => exact ⟨(y326), (wrap64 (x13_2 + 1)), (by first | rfl | (simp; done) | (simp [*]; done)), H', ⟨by have := HJ7.out; have := HK2.out; have := HJ49.out; omega⟩, ⟨by (with_reducible repeat (first | apply Kd.R_alloc | apply Kd.R_drewN | apply Kd.R_drew)); exact Kd.R_mono HO_8.out (fun _ hk => hk.2)⟩, ⟨HO_9.out⟩, ⟨HO_11.out⟩, ⟨HO_12.out⟩, ⟨BK297.out⟩, ⟨HB.out⟩⟩
end Go.Proofs.Ytkcpanpdipmmmaa.P
/- CostSteps: times that are told are tight, and each node is come to by a step that takes just so long. -/
namespace Go.Proofs.Ytkcpanpdipmmmaa.Q
open Go.RowKit Go.Proofs.YtkcpanpdipmmmaaW.PrintWords Go.Proofs.YtkcpanpdipmmmaaW.PrintLast Go.Proofs.YtkcpanpdipmmmaaW.PrintMore Go.Proofs.Ytkcpanpdipmmmaa.P
open Go.Proofs.Ytkcpanpdipmmmaa.H (farRes refF Right right_of StepOf stFrom stTo stTime stepsR stepsR_of refE Rf Bd itF visF roundF startF)
theorem itF_bd {l : List S74} {F : List Int} {n : Nat} (hr : Right l F n) (S : List S38) (hS : ∀ s, s ∈ S → StepOf l s) (hSl : S.length ≤ 400) (k : Nat) : ∀ (x : Rf) (c : Int), x.Ok n → 0 ≤ c → Bd x.D c → Bd (itF l S k x).D (c + 400 * (k : Int)) := by
 induction k with
 | zero => intro x c _ _ hb; exact hb.mono (by omega)
 | succ k ih =>
  intro x c hx hc hb
  obtain ⟨h1, h2⟩ := H.foldF_bd hr S hS { x with OK := true } c ⟨hx.hD, hx.hI⟩ hc hb
  exact (ih (roundF l S x) (c + S.length) h1 (by omega) h2).mono (by omega)
structure Tol (l : List S74) (S : List S38) (n s : Nat) (D : List Int) (I : List Bool) : Prop where
 hD : D.length = n
 hI : I.length = n
 st : I.getD s false = true
 st0 : D.getD s 0 = 0
 tight : ∀ t, t ∈ S → I.getD (stFrom l t).toNat false = true → I.getD (stTo l t).toNat false = true ∧ D.getD (stTo l t).toNat 0 ≤ D.getD (stFrom l t).toNat 0 + stTime l t
 last : ∀ v, v < n → v ≠ s → I.getD v false = true → ∃ t, t ∈ S ∧ (stTo l t).toNat = v ∧ I.getD (stFrom l t).toNat false = true ∧ D.getD v 0 = D.getD (stFrom l t).toNat 0 + stTime l t
 zero : ∀ v, I.getD v false = false → D.getD v 0 = 0
 bd : Bd D 30000
theorem tol_of {l : List S74} {F : List Int} {n s : Nat} (hr : Right l F n) (hs : s < n) (h : (refF l F n s).OK = true) : Tol l (stepsR l F F.length) n s (refF l F n s).D (refF l F n s).I := by
 have ht := H.ref_told hr (H.startF_ok n s) n h
 have hl := refF_len hr (s := s)
 have hn := hr.fifty
 have hs0 : H.absF (startF n s) s = some 0 := by rw [H.startF_abs, H.start_abs n s hs, if_pos rfl]
 have ho : ∀ u x, H.absF (startF n s) u = some x → u = s := by
  intro u x hx
  rw [H.startF_abs, H.start_abs n s hs] at hx
  split at hx
  ·assumption
  ·cases hx
 have hst := H.still_start ht.still ht.real ht.bet hs0 ho
 have hab : ∀ v y, H.absF (itF l (stepsR l F F.length) (n + 1) (startF n s)) v = some y → (refF l F n s).I.getD v false = true ∧ (refF l F n s).D.getD v 0 = y := by
  intro v y hy
  unfold H.absF at hy
  split at hy
  ·rename_i hi
   injection hy with hy
   exact ⟨hi, hy⟩
  ·cases hy
 have hba : ∀ v, (refF l F n s).I.getD v false = true → H.absF (itF l (stepsR l F F.length) (n + 1) (startF n s)) v = some ((refF l F n s).D.getD v 0) := by
  intro v hv
  unfold H.absF
  exact if_pos hv
 have hsl := H.stepsR_len l F F.length
 have hl2 := hr.len
 have hl3 := hr.arcs
 refine ⟨hl.1, hl.2, (hab s 0 hst).1, (hab s 0 hst).2, ?_, ?_, ?_, ?_⟩
 ·intro t hm hi
  obtain ⟨y, hy, hle⟩ := H.trig_off (ht.still (H.edgeF l t) (List.mem_map_of_mem hm)) (hba _ hi)
  obtain ⟨h1, h2⟩ := hab _ y hy
  exact ⟨h1, Int.le_trans (Int.le_of_eq h2) hle⟩
 ·intro v hv hvs hi
  rcases H.still_last ht.still ht.real ht.bet (hba v hi) with ⟨c, hc, _⟩ | ⟨e, he, hev, y, hy, hxy⟩
  ·exact absurd (ho v c hc) hvs
  ·obtain ⟨t, hm, rfl⟩ := List.mem_map.1 he
   obtain ⟨h1, h2⟩ := hab _ y hy
   exact ⟨t, hm, hev, h1, by rw [hxy, ← h2]; rfl⟩
 ·exact H.zr_itF _ (n + 1) (H.startF_ok n s) (H.zr_start n s)
 ·refine (itF_bd hr _ (stepsR_of hr) (by omega) (n + 1) (startF n s) 0 (H.startF_ok n s) (by omega) ?_).mono (by omega)
  exact H.bd_zero n
theorem rdOf_get (I : List Bool) (v : Int) : rdOf false I v = I.getD v.toNat false := rfl
theorem rd_get (D : List Int) (v : Int) : rd D v = D.getD v.toNat 0 := rfl
theorem steps_l1 {l : List S74} {S : List S38} {n s : Nat} {D : List Int} {I : List Bool} (hn : n ≤ 50) (b : Bool) (h : Tol l S n s D I) (by_ : List Int) (hby : by_.length = n) (hcov : ∀ v, v < n → v ≠ s → I.getD v false = true → 1 ≤ by_.getD v 0) (d : Nat) : ∀ v : Nat, v + d = n →
  Ev (fun k => ebbtidelaw11_CostSteps.l1 k (s : Int) true D I by_ (v : Int) n b l) true := by
 have hD := h.hD
 have hI := h.hI
 induction d with
 | zero =>
  intro v hv
  refine Ev.succ ?_; simp only [ebbtidelaw11_CostSteps.l1]
  refine Ev.neg (by omega) ?_
  exact Ev.now _
 | succ d ih =>
  intro v hv
  have hn1 := ih (v + 1) (by omega)
  refine Ev.succ ?_; simp only [ebbtidelaw11_CostSteps.l1]
  refine Ev.pos (by omega) ?_
  refine Ev.pos (by omega) ?_
  refine Ev.pos (by omega) ?_
  rw [wrap_succ (n := 51) (by omega) (by omega), rdOf_get, rd_get, rd_get, Int.toNat_natCast]
  refine Ev.ite (fun g => ?_) (fun g => ?_)
  ·refine Ev.ite (fun _ => hn1) (fun g2 => ?_)
   refine Ev.pos (by omega) ?_
   have := hcov v (by omega) (by omega) g
   refine Ev.neg (by omega) ?_
   exact hn1
  ·refine Ev.pos (by omega) ?_
   refine Ev.pos (h.zero v (by simpa using g)) ?_
   exact hn1
theorem steps_l0' {l : List S74} {F : List Int} {n s : Nat} (hr : Right l F n) (b : Bool) {D : List Int} {I : List Bool} (S : List S38) (hS : ∀ t, t ∈ S → StepOf l t) (hSl : S.length ≤ 400) (h : Tol l S n s D I) (d : Nat) : ∀ (j : Nat) (by_ : List Int), j + d = S.length → by_.length = n →
  (∀ v, 0 ≤ by_.getD v 0 ∧ by_.getD v 0 ≤ (j : Int)) → (∀ t, t ∈ S.take j → I.getD (stFrom l t).toNat false = true → D.getD (stTo l t).toNat 0 = D.getD (stFrom l t).toNat 0 + stTime l t → 1 ≤ by_.getD (stTo l t).toNat 0) →
  Ev (fun k => ebbtidelaw11_CostSteps.l0 k (s : Int) true D I S by_ (j : Int) n b l) true := by
 have hn := hr.fifty
 have hD := h.hD
 have hI := h.hI
 induction d with
 | zero =>
  intro j by_ hj hby hbd hcov
  refine Ev.succ ?_; simp only [ebbtidelaw11_CostSteps.l0]
  refine Ev.neg (by omega) ?_
  refine steps_l1 hn b h by_ hby ?_ n 0 (by omega)
  intro v hv hvs hi
  obtain ⟨t, hm, hto, hf, he⟩ := h.last v hv hvs hi
  rw [← hto]
  refine hcov t ?_ hf (by rw [hto]; exact he)
  rw [List.take_of_length_le (by omega)]
  exact hm
 | succ d ih =>
  intro j by_ hj hby hbd hcov
  have hjl : j < S.length := by omega
  have hm : rd_T38 S (j : Int) ∈ S := by
   unfold rd_T38
   rw [Int.toNat_natCast]
   exact getD_mem hjl
  have htk : S.take (j + 1) = S.take j ++ [rd_T38 S (j : Int)] := by
   rw [List.take_add_one, List.getElem?_eq_getElem hjl]
   show _ ++ [_] = _ ++ [S.getD (j : Int).toNat z38]
   rw [Int.toNat_natCast, List.getD_eq_getElem?_getD, List.getElem?_eq_getElem hjl]
   rfl
  obtain ⟨t, et⟩ : ∃ t_, t_ = rd_T38 S (j : Int) := ⟨_, rfl⟩
  rw [← et] at hm htk
  have hst := hS t hm
  have hf := H.stFrom_in hr hst
  have ht := H.stTo_in hr hst
  have htm := H.stTime_in hr hst
  have hbf := h.bd (stFrom l t).toNat
  have hti := h.tight t hm
  refine Ev.succ ?_; simp only [ebbtidelaw11_CostSteps.l0]
  rw [← et]
  refine Ev.pos (by omega) ?_
  refine Ev.pos (by omega) ?_
  refine Ev.call (H.rfrom_f hr hst _ _) ?_
  refine Ev.call (H.rto_f hr hst _ _) ?_
  refine Ev.pos (by omega) ?_
  refine Ev.pos (by omega) ?_
  rw [wrap_succ (n := 400) (by omega) (by omega), rdOf_get, rdOf_get]
  refine Ev.ite (fun g => ?_) (fun g => ?_)
  ·obtain ⟨hib, hle⟩ := hti g
   refine Ev.pos (by omega) ?_
   refine Ev.call (H.rtime_f hr hst _ _) ?_
   refine Ev.pos (by omega) ?_
   refine Ev.pos (by omega) ?_
   refine Ev.pos hib ?_
   refine Ev.pos (by omega) ?_
   rw [rd_get, rd_get, wrap_id (x := D.getD (stFrom l t).toNat 0 + stTime l t) (by omega) (by omega), decide_eq_false (show ¬ D.getD (stTo l t).toNat 0 > D.getD (stFrom l t).toNat 0 + stTime l t by omega)]
   refine Ev.succ ?_; simp only [ebbtidelaw11_CostSteps.j2]
   refine Ev.neg (by simp) ?_
   refine Ev.pos (by omega) ?_
   refine Ev.pos (by omega) ?_
   rw [rd_get, rd_get, wrap_succ (n := 400) (by omega) (by omega)]
   refine Ev.ite (fun g2 => ?_) (fun g2 => ?_)
   ·refine Ev.pos (by omega) ?_
    have hbv := hbd (stTo l t).toNat
    rw [wrap_id (x := by_.getD (stTo l t).toNat 0 + 1) (by omega) (by omega)]
    refine ih (j + 1) _ (by omega) (by rw [List.length_set]; exact hby) ?_ ?_
    ·intro v
     by_cases e : (stTo l t).toNat = v
     ·subst e
      rw [H.getD_set_eq _ _ _ _ (by omega)]
      omega
     ·rw [H.getD_set_ne _ _ _ _ _ e]
      have := hbd v
      omega
    ·intro t' ht' hf' he'
     by_cases e : (stTo l t).toNat = (stTo l t').toNat
     ·rw [← e, H.getD_set_eq _ _ _ _ (by omega)]
      omega
     ·rw [H.getD_set_ne _ _ _ _ _ e]
      rw [htk] at ht'
      rcases List.mem_append.1 ht' with h1 | h1
      ·exact hcov t' h1 hf' he'
      ·rw [List.mem_singleton.1 h1] at e
       exact absurd rfl e
   ·refine ih (j + 1) by_ (by omega) hby (fun v => by have := hbd v; omega) ?_
    intro t' ht' hf' he'
    rw [htk] at ht'
    rcases List.mem_append.1 ht' with h1 | h1
    ·exact hcov t' h1 hf' he'
    ·rw [List.mem_singleton.1 h1] at he'
     exact absurd he' g2
  ·refine ih (j + 1) by_ (by omega) hby (fun v => by have := hbd v; omega) ?_
   intro t' ht' hf' he'
   rw [htk] at ht'
   rcases List.mem_append.1 ht' with h1 | h1
   ·exact hcov t' h1 hf' he'
   ·rw [List.mem_singleton.1 h1] at hf'
    exact absurd hf' g
theorem costSteps_ev (n : Int) (b : Bool) (l : List S74) (f : List Int) (s : Int) : Ev (fun k => ebbtidelaw11_CostSteps.f k n b l f s) true := by
 unfold ebbtidelaw11_CostSteps.f
 refine Ev.bind awake11_ev ?_
 refine Ev.pos rfl ?_
 refine Ev.bind (cost_far_ev n b l f s) ?_
 unfold farRes
 by_cases h0 : askErr n l f = 0
 ·rw [if_pos h0]
  by_cases hs : 0 ≤ s ∧ s < n
  ·rw [if_pos hs]
   obtain ⟨n0, rfl, hr⟩ := right_of h0
   obtain ⟨s0, rfl⟩ : ∃ s0 : Nat, s = s0 := ⟨s.toNat, by omega⟩
   rw [Int.toNat_natCast, Int.toNat_natCast]
   by_cases hok : (refF l f n0 s0).OK = true
   ·rw [if_pos hok]
    have ht := tol_of hr (by omega) hok
    have hD := ht.hD
    have hI := ht.hI
    have hn := hr.fifty
    have hsl := H.stepsR_len l f f.length
    have hl2 := hr.len
    have hl3 := hr.arcs
    refine Ev.pos rfl ?_
    refine Ev.pos (by show ((refF l f n0 s0).D.length : Int) = _; omega) ?_
    refine Ev.pos (by show ((refF l f n0 s0).I.length : Int) = _; omega) ?_
    refine Ev.pos (by omega) ?_
    refine Ev.pos (by show (s0 : Int) < ((refF l f n0 s0).I.length : Int); omega) ?_
    refine Ev.pos (by rw [rdOf_get, Int.toNat_natCast]; exact ht.st) ?_
    refine Ev.pos (by show (s0 : Int) < ((refF l f n0 s0).D.length : Int); omega) ?_
    rw [rd_get, Int.toNat_natCast, show (refF l f n0 s0).D.getD s0 0 = 0 from ht.st0]
    refine Ev.succ ?_; simp only [ebbtidelaw11_CostSteps.j0]
    refine Ev.neg (by simp) ?_
    refine Ev.bind (H.steps_ev hr _ _) ?_
    refine Ev.pos (by omega) ?_
    refine Ev.pos (by omega) ?_
    rw [Int.toNat_natCast]
    refine steps_l0' hr b _ (stepsR_of hr) (by omega) ht (stepsR l f f.length).length 0 (List.replicate n0 0) (by omega) (by rw [List.length_replicate]) ?_ ?_
    ·intro v
     have : (List.replicate n0 (0 : Int)).getD v 0 = 0 := by
      rw [List.getD_eq_getElem?_getD, List.getElem?_replicate]
      split <;> rfl
     rw [this]
     omega
    ·intro t ht'
     rw [List.take_zero] at ht'
     cases ht'
   ·rw [if_neg hok]
    refine Ev.neg (by show ¬ (110 : Int) = 0; decide) ?_
    exact Ev.done (by show (wrap64 ((0 : Int) + 0) == 0) = true; rw [wrap_id (x := (0 : Int) + 0) (by decide) (by decide)]; rfl)
  ·rw [if_neg hs]
   refine Ev.neg (by show ¬ (1 : Int) = 0; decide) ?_
   exact Ev.done (by show (wrap64 ((0 : Int) + 0) == 0) = true; rw [wrap_id (x := (0 : Int) + 0) (by decide) (by decide)]; rfl)
 ·rw [if_neg h0]
  refine Ev.neg h0 ?_
  exact Ev.done (by show (wrap64 ((0 : Int) + 0) == 0) = true; rw [wrap_id (x := (0 : Int) + 0) (by decide) (by decide)]; rfl)
end Go.Proofs.Ytkcpanpdipmmmaa.Q
