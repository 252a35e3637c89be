/- Joined by wip/tool/bundle.py out of: P35 QTrail QLTrails. -/
import Derived.Test.YtghdpoabpodieaaGajlpje
import Derived.Test.YtghdpoabpodieaaGkgobec
import Derived.Test.YtghdpoabpodieaaGclenol
import Derived.Test.YtghdpoabpodieaaGdcfijf
import Derived.Test.YtghdpoabpodieaaGmjnlkm
import Derived.Laws.BitsLemmas
import Derived.Test.YtghdpoabpodieaaGedcckp
-- Laid by wip/tool/mk.py, by the kit's print.py, for all laws of this seat in one namespace; a function told as by hand has a proof of this session's own.
namespace Go.Proofs.Ytghdpoabpodieaa.P
open Go.RowKit Go.Proofs.YtghdpoabpodieaaW.PrintWords Go.Proofs.YtghdpoabpodieaaW.PrintLast Go.Proofs.YtghdpoabpodieaaW.PrintMore
attribute [local go_sem] max2_int min2_int max_two min_two max_three min_three max_four min_four   -- for this text's walks alone
set_option linter.unusedVariables false
set_option linter.unusedSimpArgs false

/-! ### ebbtidelaw07_StaticTrails: function 6 -/
mutual
def ebbtidelaw07_StaticTrails.j0 : Nat → List Int → Int → List Int → Int → Bool → List Int → Bool → Int → Bool → List (S48) → Option (Bool)
 | 0, _, _, _, _, _, _, _, _, _, _ => none
 | k + 1, x1, x2, x3, x4, x11, x12, x46, x357000, x357001, x357002 => if x46 = true then (some x11) else ((ebbtidelaw07_Trail.f k x357000 x357001 x357002 x1 x2 x3).bind fun bt362 => ((static_Push.f k x357000 x357001 x357002 x1 bt362.1 (Go.bits .and .i64 x4 7)).bind fun bt366 => (if bt366.2 = 0 then ((static_Balance.f k x357000 x357001 x357002 bt366.1).bind fun bt370 => (if bt370.2 = 0 then (if (bt370.1.length : Int) = x357000 then (ebbtidelaw07_StaticTrails.j1 k x1 x2 (Go.bits .and .i64 x4 7) x11 x12 bt362.1 bt362.2 bt366.1 bt370.1 ((x12.length : Int) != x357000) x357000 x357001 x357002) else (ebbtidelaw07_StaticTrails.j1 k x1 x2 (Go.bits .and .i64 x4 7) x11 x12 bt362.1 bt362.2 bt366.1 bt370.1 true x357000 x357001 x357002)) else (ebbtidelaw07_StaticTrails.j1 k x1 x2 (Go.bits .and .i64 x4 7) x11 x12 bt362.1 bt362.2 bt366.1 bt370.1 true x357000 x357001 x357002))) else (if x11 = true then (if bt366.2 = 71 then (some ((bt366.1.length : Int) == 0)) else (some false)) else (some false)))))
def ebbtidelaw07_StaticTrails.j1 : Nat → List Int → Int → Int → Bool → List Int → List (S41) → Int → List Int → List Int → Bool → Int → Bool → List (S48) → Option (Bool)
 | 0, _, _, _, _, _, _, _, _, _, _, _, _, _ => none
 | k + 1, x1, x2, x4, x11, x12, x14, x15, x16, x18, x99, x357000, x357001, x357002 => if x99 = true then (some false) else (ebbtidelaw07_StaticTrails.l0 k x1 x2 x4 x11 x12 x14 x15 x16 x18 0 x357000 x357001 x357002)
def ebbtidelaw07_StaticTrails.l0 : Nat → List Int → Int → Int → Bool → List Int → List (S41) → Int → List Int → List Int → Int → Int → Bool → List (S48) → Option (Bool)
 | 0, _, _, _, _, _, _, _, _, _, _, _, _, _ => none
 | k + 1, x1, x2, x4, x11, x12, x14, x15, x16, x18, x20, x357000, x357001, x357002 => if x20 < x357000 then (if x20 = x2 then (ebbtidelaw07_StaticTrails.j3 k x1 x2 x4 x11 x12 x14 x15 x16 x18 x20 (wrap64 (0 + x4)) x357000 x357001 x357002) else (ebbtidelaw07_StaticTrails.j3 k x1 x2 x4 x11 x12 x14 x15 x16 x18 x20 0 x357000 x357001 x357002)) else (ebbtidelaw07_StaticTrails.l1 k x1 x4 x11 x14 x16 ([] : List (S41)) (wrap64 ((x14.length : Int) - 1)) x357000 x357001 x357002)
def ebbtidelaw07_StaticTrails.j3 : Nat → List Int → Int → Int → Bool → List Int → List (S41) → Int → List Int → List Int → Int → Int → Int → Bool → List (S48) → Option (Bool)
 | 0, _, _, _, _, _, _, _, _, _, _, _, _, _, _ => none
 | k + 1, x1, x2, x4, x11, x12, x14, x15, x16, x18, x20, x21, x357000, x357001, x357002 => if x20 = x15 then (if 0 ≤ x20 then (if x20 < (x18.length : Int) then (if x20 < (x12.length : Int) then (if (rd x18 x20) = (wrap64 ((rd x12 x20) + (wrap64 (x21 - x4)))) then (ebbtidelaw07_StaticTrails.l0 k x1 x2 x4 x11 x12 x14 x15 x16 x18 (wrap64 (x20 + 1)) x357000 x357001 x357002) else (some false)) else (none)) else (none)) else (none)) else (if 0 ≤ x20 then (if x20 < (x18.length : Int) then (if x20 < (x12.length : Int) then (if (rd x18 x20) = (wrap64 ((rd x12 x20) + x21)) then (ebbtidelaw07_StaticTrails.l0 k x1 x2 x4 x11 x12 x14 x15 x16 x18 (wrap64 (x20 + 1)) x357000 x357001 x357002) else (some false)) else (none)) else (none)) else (none))
def ebbtidelaw07_StaticTrails.l1 : Nat → List Int → Int → Bool → List (S41) → List Int → List (S41) → Int → Int → Bool → List (S48) → Option (Bool)
 | 0, _, _, _, _, _, _, _, _, _, _ => none
 | k + 1, x1, x4, x11, x14, x16, x22, x23, x357000, x357001, x357002 => if x23 ≥ 0 then (if 0 ≤ x23 then (if x23 < (x14.length : Int) then (if x22.length < 8796093022208 then (ebbtidelaw07_StaticTrails.l1 k x1 x4 x11 x14 x16 (x22 ++ [(⟨(rd_T41 x14 x23).f0, !((rd_T41 x14 x23).f1)⟩ : S41)]) (wrap64 (x23 - 1)) x357000 x357001 x357002) else (none)) else (none)) else (none)) else ((static_Push.f k x357000 x357001 x357002 x16 x22 x4).bind fun bt383 => (if x11 = true then (if bt383.2 = 0 then ((ebbtideref03_SameInts.f k bt383.1 x1).bind fun t387 => (some t387)) else (some false)) else (some false)))
end
def ebbtidelaw07_StaticTrails.f (k : Nat) (a0_0 : Int) (a0_1 : Bool) (l0_2 : List (S48)) (l1 : List Int) (a2 : Int) (l3 : List Int) (a4 : Int) : Option (Bool) := (ebbtidelaw07_awake.f k).bind fun t357 => (if t357 = true then ((static_Balance.f k a0_0 a0_1 l0_2 l1).bind fun bt358 => (if bt358.2 = 0 then (if a2 < 0 then (ebbtidelaw07_StaticTrails.j0 k l1 a2 l3 a4 t357 bt358.1 true a0_0 a0_1 l0_2) else (ebbtidelaw07_StaticTrails.j0 k l1 a2 l3 a4 t357 bt358.1 (decide (a2 ≥ a0_0)) a0_0 a0_1 l0_2)) else (ebbtidelaw07_StaticTrails.j0 k l1 a2 l3 a4 t357 bt358.1 true a0_0 a0_1 l0_2))) else (some false))
theorem ebbtidelaw07_StaticTrails.mono_l : ∀ k, (∀ y0 y1 y2 y3 y4 y5 y6 y7 y8 y9, LeO (ebbtidelaw07_StaticTrails.j0 k y0 y1 y2 y3 y4 y5 y6 y7 y8 y9) (ebbtidelaw07_StaticTrails.j0 (k + 1) y0 y1 y2 y3 y4 y5 y6 y7 y8 y9)) ∧ (∀ y0 y1 y2 y3 y4 y5 y6 y7 y8 y9 y10 y11 y12, LeO (ebbtidelaw07_StaticTrails.j1 k y0 y1 y2 y3 y4 y5 y6 y7 y8 y9 y10 y11 y12) (ebbtidelaw07_StaticTrails.j1 (k + 1) y0 y1 y2 y3 y4 y5 y6 y7 y8 y9 y10 y11 y12)) ∧ (∀ y0 y1 y2 y3 y4 y5 y6 y7 y8 y9 y10 y11 y12, LeO (ebbtidelaw07_StaticTrails.l0 k y0 y1 y2 y3 y4 y5 y6 y7 y8 y9 y10 y11 y12) (ebbtidelaw07_StaticTrails.l0 (k + 1) y0 y1 y2 y3 y4 y5 y6 y7 y8 y9 y10 y11 y12)) ∧ (∀ y0 y1 y2 y3 y4 y5 y6 y7 y8 y9 y10 y11 y12 y13, LeO (ebbtidelaw07_StaticTrails.j3 k y0 y1 y2 y3 y4 y5 y6 y7 y8 y9 y10 y11 y12 y13) (ebbtidelaw07_StaticTrails.j3 (k + 1) y0 y1 y2 y3 y4 y5 y6 y7 y8 y9 y10 y11 y12 y13)) ∧ (∀ y0 y1 y2 y3 y4 y5 y6 y7 y8 y9, LeO (ebbtidelaw07_StaticTrails.l1 k y0 y1 y2 y3 y4 y5 y6 y7 y8 y9) (ebbtidelaw07_StaticTrails.l1 (k + 1) y0 y1 y2 y3 y4 y5 y6 y7 y8 y9))
 | 0 => ⟨fun _ _ _ _ _ _ _ _ _ _ r h => by simp [ebbtidelaw07_StaticTrails.j0] at h, fun _ _ _ _ _ _ _ _ _ _ _ _ _ r h => by simp [ebbtidelaw07_StaticTrails.j1] at h, fun _ _ _ _ _ _ _ _ _ _ _ _ _ r h => by simp [ebbtidelaw07_StaticTrails.l0] at h, fun _ _ _ _ _ _ _ _ _ _ _ _ _ _ r h => by simp [ebbtidelaw07_StaticTrails.j3] at h, fun _ _ _ _ _ _ _ _ _ _ r h => by simp [ebbtidelaw07_StaticTrails.l1] at h⟩
 | k + 1 => by
  obtain ⟨ih0, ih1, ih2, ih3, ih4⟩ := ebbtidelaw07_StaticTrails.mono_l k
  refine ⟨?_, ?_, ?_, ?_, ?_⟩
  ·intro y0 y1 y2 y3 y4 y5 y6 y7 y8 y9
   unfold ebbtidelaw07_StaticTrails.j0
   repeat' first
   | (with_reducible exact ih0 _ _ _ _ _ _ _ _ _ _)
   | (with_reducible exact ih1 _ _ _ _ _ _ _ _ _ _ _ _ _)
   | (with_reducible exact ih2 _ _ _ _ _ _ _ _ _ _ _ _ _)
   | (with_reducible exact ih3 _ _ _ _ _ _ _ _ _ _ _ _ _ _)
   | (with_reducible exact ih4 _ _ _ _ _ _ _ _ _ _)
   | (with_reducible exact ebbtidelaw07_Trail.mono _ _ _ _ _ _ _)
   | (with_reducible exact ebbtidelaw07_awake.mono _)
   | (with_reducible exact ebbtideref03_SameInts.mono _ _ _)
   | (with_reducible exact static_Balance.mono _ _ _ _ _)
   | (with_reducible exact static_Push.mono _ _ _ _ _ _ _)
   | (with_reducible exact LeO.refl _)
   | (with_reducible exact LeO.none _)
   | (with_reducible refine LeO.ite ?_ ?_)
   | (with_reducible refine LeO.bind ?_ (fun _ => ?_))
   | exact ih0 _ _ _ _ _ _ _ _ _ _
   | exact ih1 _ _ _ _ _ _ _ _ _ _ _ _ _
   | exact ih2 _ _ _ _ _ _ _ _ _ _ _ _ _
   | exact ih3 _ _ _ _ _ _ _ _ _ _ _ _ _ _
   | exact ih4 _ _ _ _ _ _ _ _ _ _
   | exact ebbtidelaw07_Trail.mono _ _ _ _ _ _ _
   | exact ebbtidelaw07_awake.mono _
   | exact ebbtideref03_SameInts.mono _ _ _
   | exact static_Balance.mono _ _ _ _ _
   | exact static_Push.mono _ _ _ _ _ _ _
   | exact LeO.none _
   | refine LeO.ite ?_ ?_
   | refine LeO.bind ?_ (fun _ => ?_)
  ·intro y0 y1 y2 y3 y4 y5 y6 y7 y8 y9 y10 y11 y12
   unfold ebbtidelaw07_StaticTrails.j1
   repeat' first
   | (with_reducible exact ih0 _ _ _ _ _ _ _ _ _ _)
   | (with_reducible exact ih1 _ _ _ _ _ _ _ _ _ _ _ _ _)
   | (with_reducible exact ih2 _ _ _ _ _ _ _ _ _ _ _ _ _)
   | (with_reducible exact ih3 _ _ _ _ _ _ _ _ _ _ _ _ _ _)
   | (with_reducible exact ih4 _ _ _ _ _ _ _ _ _ _)
   | (with_reducible exact ebbtidelaw07_Trail.mono _ _ _ _ _ _ _)
   | (with_reducible exact ebbtidelaw07_awake.mono _)
   | (with_reducible exact ebbtideref03_SameInts.mono _ _ _)
   | (with_reducible exact static_Balance.mono _ _ _ _ _)
   | (with_reducible exact static_Push.mono _ _ _ _ _ _ _)
   | (with_reducible exact LeO.refl _)
   | (with_reducible exact LeO.none _)
   | (with_reducible refine LeO.ite ?_ ?_)
   | (with_reducible refine LeO.bind ?_ (fun _ => ?_))
   | exact ih0 _ _ _ _ _ _ _ _ _ _
   | exact ih1 _ _ _ _ _ _ _ _ _ _ _ _ _
   | exact ih2 _ _ _ _ _ _ _ _ _ _ _ _ _
   | exact ih3 _ _ _ _ _ _ _ _ _ _ _ _ _ _
   | exact ih4 _ _ _ _ _ _ _ _ _ _
   | exact ebbtidelaw07_Trail.mono _ _ _ _ _ _ _
   | exact ebbtidelaw07_awake.mono _
   | exact ebbtideref03_SameInts.mono _ _ _
   | exact static_Balance.mono _ _ _ _ _
   | exact static_Push.mono _ _ _ _ _ _ _
   | exact LeO.none _
   | refine LeO.ite ?_ ?_
   | refine LeO.bind ?_ (fun _ => ?_)
  ·intro y0 y1 y2 y3 y4 y5 y6 y7 y8 y9 y10 y11 y12
   unfold ebbtidelaw07_StaticTrails.l0
   repeat' first
   | (with_reducible exact ih0 _ _ _ _ _ _ _ _ _ _)
   | (with_reducible exact ih1 _ _ _ _ _ _ _ _ _ _ _ _ _)
   | (with_reducible exact ih2 _ _ _ _ _ _ _ _ _ _ _ _ _)
   | (with_reducible exact ih3 _ _ _ _ _ _ _ _ _ _ _ _ _ _)
   | (with_reducible exact ih4 _ _ _ _ _ _ _ _ _ _)
   | (with_reducible exact ebbtidelaw07_Trail.mono _ _ _ _ _ _ _)
   | (with_reducible exact ebbtidelaw07_awake.mono _)
   | (with_reducible exact ebbtideref03_SameInts.mono _ _ _)
   | (with_reducible exact static_Balance.mono _ _ _ _ _)
   | (with_reducible exact static_Push.mono _ _ _ _ _ _ _)
   | (with_reducible exact LeO.refl _)
   | (with_reducible exact LeO.none _)
   | (with_reducible refine LeO.ite ?_ ?_)
   | (with_reducible refine LeO.bind ?_ (fun _ => ?_))
   | exact ih0 _ _ _ _ _ _ _ _ _ _
   | exact ih1 _ _ _ _ _ _ _ _ _ _ _ _ _
   | exact ih2 _ _ _ _ _ _ _ _ _ _ _ _ _
   | exact ih3 _ _ _ _ _ _ _ _ _ _ _ _ _ _
   | exact ih4 _ _ _ _ _ _ _ _ _ _
   | exact ebbtidelaw07_Trail.mono _ _ _ _ _ _ _
   | exact ebbtidelaw07_awake.mono _
   | exact ebbtideref03_SameInts.mono _ _ _
   | exact static_Balance.mono _ _ _ _ _
   | exact static_Push.mono _ _ _ _ _ _ _
   | exact LeO.none _
   | refine LeO.ite ?_ ?_
   | refine LeO.bind ?_ (fun _ => ?_)
  ·intro y0 y1 y2 y3 y4 y5 y6 y7 y8 y9 y10 y11 y12 y13
   unfold ebbtidelaw07_StaticTrails.j3
   repeat' first
   | (with_reducible exact ih0 _ _ _ _ _ _ _ _ _ _)
   | (with_reducible exact ih1 _ _ _ _ _ _ _ _ _ _ _ _ _)
   | (with_reducible exact ih2 _ _ _ _ _ _ _ _ _ _ _ _ _)
   | (with_reducible exact ih3 _ _ _ _ _ _ _ _ _ _ _ _ _ _)
   | (with_reducible exact ih4 _ _ _ _ _ _ _ _ _ _)
   | (with_reducible exact ebbtidelaw07_Trail.mono _ _ _ _ _ _ _)
   | (with_reducible exact ebbtidelaw07_awake.mono _)
   | (with_reducible exact ebbtideref03_SameInts.mono _ _ _)
   | (with_reducible exact static_Balance.mono _ _ _ _ _)
   | (with_reducible exact static_Push.mono _ _ _ _ _ _ _)
   | (with_reducible exact LeO.refl _)
   | (with_reducible exact LeO.none _)
   | (with_reducible refine LeO.ite ?_ ?_)
   | (with_reducible refine LeO.bind ?_ (fun _ => ?_))
   | exact ih0 _ _ _ _ _ _ _ _ _ _
   | exact ih1 _ _ _ _ _ _ _ _ _ _ _ _ _
   | exact ih2 _ _ _ _ _ _ _ _ _ _ _ _ _
   | exact ih3 _ _ _ _ _ _ _ _ _ _ _ _ _ _
   | exact ih4 _ _ _ _ _ _ _ _ _ _
   | exact ebbtidelaw07_Trail.mono _ _ _ _ _ _ _
   | exact ebbtidelaw07_awake.mono _
   | exact ebbtideref03_SameInts.mono _ _ _
   | exact static_Balance.mono _ _ _ _ _
   | exact static_Push.mono _ _ _ _ _ _ _
   | exact LeO.none _
   | refine LeO.ite ?_ ?_
   | refine LeO.bind ?_ (fun _ => ?_)
  ·intro y0 y1 y2 y3 y4 y5 y6 y7 y8 y9
   unfold ebbtidelaw07_StaticTrails.l1
   repeat' first
   | (with_reducible exact ih0 _ _ _ _ _ _ _ _ _ _)
   | (with_reducible exact ih1 _ _ _ _ _ _ _ _ _ _ _ _ _)
   | (with_reducible exact ih2 _ _ _ _ _ _ _ _ _ _ _ _ _)
   | (with_reducible exact ih3 _ _ _ _ _ _ _ _ _ _ _ _ _ _)
   | (with_reducible exact ih4 _ _ _ _ _ _ _ _ _ _)
   | (with_reducible exact ebbtidelaw07_Trail.mono _ _ _ _ _ _ _)
   | (with_reducible exact ebbtidelaw07_awake.mono _)
   | (with_reducible exact ebbtideref03_SameInts.mono _ _ _)
   | (with_reducible exact static_Balance.mono _ _ _ _ _)
   | (with_reducible exact static_Push.mono _ _ _ _ _ _ _)
   | (with_reducible exact LeO.refl _)
   | (with_reducible exact LeO.none _)
   | (with_reducible refine LeO.ite ?_ ?_)
   | (with_reducible refine LeO.bind ?_ (fun _ => ?_))
   | exact ih0 _ _ _ _ _ _ _ _ _ _
   | exact ih1 _ _ _ _ _ _ _ _ _ _ _ _ _
   | exact ih2 _ _ _ _ _ _ _ _ _ _ _ _ _
   | exact ih3 _ _ _ _ _ _ _ _ _ _ _ _ _ _
   | exact ih4 _ _ _ _ _ _ _ _ _ _
   | exact ebbtidelaw07_Trail.mono _ _ _ _ _ _ _
   | exact ebbtidelaw07_awake.mono _
   | exact ebbtideref03_SameInts.mono _ _ _
   | exact static_Balance.mono _ _ _ _ _
   | exact static_Push.mono _ _ _ _ _ _ _
   | exact LeO.none _
   | refine LeO.ite ?_ ?_
   | refine LeO.bind ?_ (fun _ => ?_)
theorem ebbtidelaw07_StaticTrails.mono : ∀ a0 a1 a2 a3 a4 a5 a6 k, LeO (ebbtidelaw07_StaticTrails.f k a0 a1 a2 a3 a4 a5 a6) (ebbtidelaw07_StaticTrails.f (k + 1) a0 a1 a2 a3 a4 a5 a6) := by
 intro a0 a1 a2 a3 a4 a5 a6 k
 obtain ⟨ih0, ih1, ih2, ih3, ih4⟩ := ebbtidelaw07_StaticTrails.mono_l k
 unfold ebbtidelaw07_StaticTrails.f
 repeat' first
   | (with_reducible exact ih0 _ _ _ _ _ _ _ _ _ _)
   | (with_reducible exact ih1 _ _ _ _ _ _ _ _ _ _ _ _ _)
   | (with_reducible exact ih2 _ _ _ _ _ _ _ _ _ _ _ _ _)
   | (with_reducible exact ih3 _ _ _ _ _ _ _ _ _ _ _ _ _ _)
   | (with_reducible exact ih4 _ _ _ _ _ _ _ _ _ _)
   | (with_reducible exact ebbtidelaw07_Trail.mono _ _ _ _ _ _ _)
   | (with_reducible exact ebbtidelaw07_awake.mono _)
   | (with_reducible exact ebbtideref03_SameInts.mono _ _ _)
   | (with_reducible exact static_Balance.mono _ _ _ _ _)
   | (with_reducible exact static_Push.mono _ _ _ _ _ _ _)
   | (with_reducible exact LeO.refl _)
   | (with_reducible exact LeO.none _)
   | (with_reducible refine LeO.ite ?_ ?_)
   | (with_reducible refine LeO.bind ?_ (fun _ => ?_))
   | exact ih0 _ _ _ _ _ _ _ _ _ _
   | exact ih1 _ _ _ _ _ _ _ _ _ _ _ _ _
   | exact ih2 _ _ _ _ _ _ _ _ _ _ _ _ _
   | exact ih3 _ _ _ _ _ _ _ _ _ _ _ _ _ _
   | exact ih4 _ _ _ _ _ _ _ _ _ _
   | exact ebbtidelaw07_Trail.mono _ _ _ _ _ _ _
   | exact ebbtidelaw07_awake.mono _
   | exact ebbtideref03_SameInts.mono _ _ _
   | exact static_Balance.mono _ _ _ _ _
   | exact static_Push.mono _ _ _ _ _ _ _
   | exact LeO.none _
   | refine LeO.ite ?_ ?_
   | refine LeO.bind ?_ (fun _ => ?_)
def ebbtidelaw07_StaticTrails.T23 : Bool × List (List Nat × List Nat) := (true, [([], []), ([], []), ([0, 1], [0, 1]), ([2], [2]), ([], []), ([], []), ([4, 5], [4, 5]), ([6], [6]), ([], []), ([7, 8], [7, 8]), ([3, 9], [3, 9])])
def ebbtidelaw07_StaticTrails.B23 : List Nat := [0, 0, 3, 7, 0, 0, 48, 112, 0, 496, 1023]
theorem ebbtidelaw07_StaticTrails.tab23 : rtab .any (opsOf Try.f6 23) = ebbtidelaw07_StaticTrails.T23 := by kernel_rfl
theorem ebbtidelaw07_StaticTrails.bits23 : waitsOk ebbtidelaw07_StaticTrails.T23.2 ebbtidelaw07_StaticTrails.B23 = true := by kernel_rfl
def ebbtidelaw07_StaticTrails.T29 : Bool × List (List Nat × List Nat) := (true, [([], []), ([], []), ([], []), ([1, 2], [1, 2]), ([3], [3]), ([4], [4]), ([], []), ([], []), ([6, 7], [6, 7]), ([8], [8]), ([9], [9]), ([10], [10]), ([5, 11], [5, 11]), ([12], [12]), ([0, 13], [0, 13]), ([14, 14, 0, 1, 2, 3, 4, 5, 6, 7, 8, 9, 10, 11, 12, 13, 14], [0, 14])])
def ebbtidelaw07_StaticTrails.B29 : List Nat := [0, 0, 0, 6, 14, 30, 0, 0, 192, 448, 960, 1984, 4094, 8190, 16383, 32767]
theorem ebbtidelaw07_StaticTrails.tab29 : rtab .any (opsOf Try.f6 29) = ebbtidelaw07_StaticTrails.T29 := by kernel_rfl
theorem ebbtidelaw07_StaticTrails.bits29 : waitsOk ebbtidelaw07_StaticTrails.T29.2 ebbtidelaw07_StaticTrails.B29 = true := by kernel_rfl
set_option maxHeartbeats 8000000 in
set_option maxRecDepth 100000 in
theorem ebbtidelaw07_StaticTrails.calls (k : Nat) (a0_0 : Int) (a0_1 : Bool) (A0_2 : Option Addr) (c0_2 : Nat) (l0_2 : List (S48)) (A1 : Option Addr) (c1 : Nat) (l1 : List Int) (a2 : Int) (A3 : Option Addr) (c3 : Nat) (l3 : List Int) (a4 : Int) (r : Bool) (w : World) (hr0_2 : Kd.C k48 w A0_2 l0_2.length l0_2) (hc0_2 : l0_2.length ≤ c0_2) (hr1 : Kd.C (Kd.int .i64) w A1 l1.length l1) (hc1 : l1.length ≤ c1) (hr3 : Kd.C (Kd.int .i64) w A3 l3.length l3) (hc3 : l3.length ≤ c3) (h : ebbtidelaw07_StaticTrails.f k a0_0 a0_1 l0_2 l1 a2 l3 a4 = some r) (hrT_ : r = true := by first | rfl | exact Aside0.out (by assumption)) :
  Calls Try.prog 6 #[.agg #[.int .i64 a0_0, .bool a0_1, .slice A0_2 l0_2.length c0_2], .slice A1 l1.length c1, .int .i64 a2, .slice A3 l3.length c3, .int .i64 a4] w fun e w' => e = .returned (.bool r) ∧ Below w.heap.size w w' := by
 have HRT := Aside0.mk hrT_
 clear hrT_
 have hu24 := Try.underlying24
 have hu41 := Try.underlying41
 have HR0_2 := Aside0.mk hr0_2
 have HC0_2 := Aside0.mk hc0_2
 clear hr0_2 hc0_2
 have HR1 := Aside0.mk hr1
 have HC1 := Aside0.mk hc1
 clear hr1 hc1
 have HR3 := Aside0.mk hr3
 have HC3 := Aside0.mk hc3
 clear hr3 hc3
 have HB := Aside0.mk (Below.refl w.heap.size w)
 have H : ((ebbtidelaw07_awake.f k).bind fun t357 => (if t357 = true then ((static_Balance.f k a0_0 a0_1 l0_2 l1).bind fun bt358 => (if bt358.2 = 0 then (if a2 < 0 then (ebbtidelaw07_StaticTrails.j0 k l1 a2 l3 a4 t357 bt358.1 true a0_0 a0_1 l0_2) else (ebbtidelaw07_StaticTrails.j0 k l1 a2 l3 a4 t357 bt358.1 (decide (a2 ≥ a0_0)) a0_0 a0_1 l0_2)) else (ebbtidelaw07_StaticTrails.j0 k l1 a2 l3 a4 t357 bt358.1 true a0_0 a0_1 l0_2))) else (some false))) = some r := h
 clear h
 replace H := Option.bind_eq_some_iff.mp H
 obtain ⟨t357, A60, H⟩ := H
 replace H : (if t357 = true then ((static_Balance.f k a0_0 a0_1 l0_2 l1).bind fun bt358 => (if bt358.2 = 0 then (if a2 < 0 then (ebbtidelaw07_StaticTrails.j0 k l1 a2 l3 a4 t357 bt358.1 true a0_0 a0_1 l0_2) else (ebbtidelaw07_StaticTrails.j0 k l1 a2 l3 a4 t357 bt358.1 (decide (a2 ≥ a0_0)) a0_0 a0_1 l0_2)) else (ebbtidelaw07_StaticTrails.j0 k l1 a2 l3 a4 t357 bt358.1 true a0_0 a0_1 l0_2))) else (some false)) = some r := H
 have A6 := Aside0.mk A60
 clear A60
 by_cases c7 : t357 = true
 ·subst c7
  have H1 : ((static_Balance.f k a0_0 a0_1 l0_2 l1).bind fun bt358 => (if bt358.2 = 0 then (if a2 < 0 then (ebbtidelaw07_StaticTrails.j0 k l1 a2 l3 a4 true bt358.1 true a0_0 a0_1 l0_2) else (ebbtidelaw07_StaticTrails.j0 k l1 a2 l3 a4 true bt358.1 (decide (a2 ≥ a0_0)) a0_0 a0_1 l0_2)) else (ebbtidelaw07_StaticTrails.j0 k l1 a2 l3 a4 true bt358.1 true a0_0 a0_1 l0_2))) = some r := by rw [if_pos rfl] at H; exact H
  clear H
  have H := H1
  clear H1
  replace H := Option.bind_eq_some_iff.mp H
  obtain ⟨⟨t358, t361⟩, A80, H⟩ := H
  replace H : (if t361 = 0 then (if a2 < 0 then (ebbtidelaw07_StaticTrails.j0 k l1 a2 l3 a4 true t358 true a0_0 a0_1 l0_2) else (ebbtidelaw07_StaticTrails.j0 k l1 a2 l3 a4 true t358 (decide (a2 ≥ a0_0)) a0_0 a0_1 l0_2)) else (ebbtidelaw07_StaticTrails.j0 k l1 a2 l3 a4 true t358 true a0_0 a0_1 l0_2)) = some r := H
  have A8 := Aside0.mk A80
  clear A80
  have HC9 := Aside0.mk H
  clear H
  go_enter Try.func6, Try.ntmps6
  go_upto_region 5 with (first | ((with_reducible refine gate_dst (N := 5) rfl ?_); (try (refine gate_guard (by rfl) ?_; dsimp only)); refine box_event ?hg (N := 5) ?hd (cs := #[.int .i64 a0_0, .bool a0_1, .slice A0_2 l0_2.length c0_2]) (t := 24) ?hr ?_; (case hd => rfl); (case hg => rfl); (case hr => first | (go_simp; done) | (go_simp; rfl)); intro gb356 hg w10 hbox hb; have n0_ := Aside0.mk (below_step (by repeat (first | (with_reducible first | exact HB.out | apply below_alloc | apply pw_below_drewN | apply below_drew1) | exact HB.out)) hb); have n1_ := Aside0.mk (hbox); have n2_ := Aside0.mk ((by rw [hg]; exact (below_size (by repeat (first | (with_reducible first | exact HB.out | apply below_alloc | apply pw_below_drewN | apply below_drew1) | exact HB.out))) : w.heap.size ≤ gb356)); have n3_ := Aside0.mk ((by rw [hg]; exact (below_size (by repeat (first | (with_reducible first | exact HB.out | apply below_alloc | apply pw_below_drewN | apply below_drew1) | exact HB.out))) : w.heap.size ≤ gb356)); clear HB; have HB := n0_; have BK356 := n1_; have GW356 := n2_; have GE356 := n3_; clear n0_ n1_ n2_ n3_; clear hb hbox hg) | ((with_reducible refine gate_callee (f := 12) rfl ?_); refine goesL_ (some 26) rfl rfl Try.func12 (by kernel_rfl) rfl #[] rfl (by (try simp only [List.map_toArray, List.map_cons, List.map_nil]); first | done | rfl | (simp only [List.length_drop, List.length_take]; rfl)) ?_; (with_reducible refine (ebbtidelaw07_awake.calls k  true _ A6.out).mono ?_); rintro e w11 ⟨rfl, hb⟩; refine ⟨_, rfl, ?_⟩; have n0_ := Aside0.mk (blk_below (g := gb356) (o := .cells #[.int .i64 a0_0, .bool a0_1, .slice A0_2 l0_2.length c0_2] 24 (0, 0)) (by (with_reducible repeat (first | refine blk_drewN ?_ _ | refine blk_drew ?_ | refine blk_alloc ?_ _)); exact BK356.out) hb); have n1_ := Aside0.mk (below_step (by repeat (first | (with_reducible first | exact HB.out | apply below_alloc | apply pw_below_drewN | apply below_drew1 | refine below_set ?_ GE356.out) | exact HB.out)) hb); clear BK356; clear HB; have BK356 := n0_; have HB := n1_; clear n0_ n1_; (try clear hb); (try clear hb2); (try clear hk); (try clear hi); have hcz12_0 : w11.cell? ⟨gb356, 0, none⟩ = some (.int .i64 a0_0) := (blk_cell BK356.out 0).trans rfl; have hcz12_1 : w11.cell? ⟨gb356, 1, none⟩ = some (.bool a0_1) := (blk_cell BK356.out 1).trans rfl; have hcz12_2 : w11.cell? ⟨gb356, 2, none⟩ = some (.slice A0_2 l0_2.length c0_2) := (blk_cell BK356.out 2).trans rfl; have hfz12_0 := blk_frozen BK356.out 0; have hfz12_1 := blk_frozen BK356.out 1; have hfz12_2 := blk_frozen BK356.out 2) | ((with_reducible refine gate_callee (f := 8) rfl ?_); refine goesL_ (some 32) rfl rfl Try.func8 (by kernel_rfl) rfl #[.agg #[.int .i64 a0_0, .bool a0_1, .slice A0_2 l0_2.length c0_2], .slice A1 l1.length c1] rfl (by (try simp only [List.map_toArray, List.map_cons, List.map_nil]); first | done | rfl | (simp only [List.length_drop, List.length_take]; rfl)) ?_; (with_reducible refine (static_Balance.calls k a0_0 a0_1 _ _ l0_2 _ _ l1 t358 t361 _ ?side1 ?side2 ?side3 ?side4 A8.out).mono ?_); (case side1 => repeat (first | exact (Kd.C_below HR0_2.out HB.out) | (with_reducible refine Kd.C_alloc ?_ _) | (with_reducible refine Kd.C_drewN ?_ _) | (with_reducible refine Kd.C_drew ?_))); (case side2 => exact HC0_2.out); (case side3 => repeat (first | exact (Kd.C_below HR1.out HB.out) | (with_reducible refine Kd.C_alloc ?_ _) | (with_reducible refine Kd.C_drewN ?_ _) | (with_reducible refine Kd.C_drew ?_))); (case side4 => exact HC1.out); rintro e w13 ⟨v359, rfl, ho0, hb⟩; refine ⟨_, rfl, ?_⟩; have n0_ := Aside0.mk (Kd.R_lower ho0 (below_size (by repeat (first | (with_reducible first | exact HB.out | apply below_alloc | apply pw_below_drewN | apply below_drew1 | refine below_set ?_ GE356.out) | exact HB.out)))); have n1_ := Aside0.mk (blk_below (g := gb356) (o := .cells #[.int .i64 a0_0, .bool a0_1, .slice A0_2 l0_2.length c0_2] 24 (0, 0)) (by (with_reducible repeat (first | refine blk_drewN ?_ _ | refine blk_drew ?_ | refine blk_alloc ?_ _)); exact BK356.out) hb); have n2_ := Aside0.mk (below_step (by repeat (first | (with_reducible first | exact HB.out | apply below_alloc | apply pw_below_drewN | apply below_drew1 | refine below_set ?_ GE356.out) | exact HB.out)) hb); clear BK356; clear HB; have HO360 := n0_; have BK356 := n1_; have HB := n2_; clear n0_ n1_ n2_; (try clear hb); (try clear hb2); (try clear hk); (try clear hi); (try clear ho0)))
  (try simp only [Act.put, List.setIfInBounds_toArray, List.set_cons_zero, List.set_cons_succ])
  go_cut [46] (fun v46 wc => ∃ (kq : Nat) (x46_8 : Bool), v46 = .bool x46_8 ∧ Aside0 (ebbtidelaw07_StaticTrails.j0 kq l1 a2 l3 a4 true t358 x46_8 a0_0 a0_1 l0_2 = some r) ∧ Aside0 (kq ≤ k) ∧ Aside0 (Kd.R (Kd.int .i64) 3 wc w.heap.size (fun _ => True) v359 t358) ∧ Aside0 (wc.heap[gb356]? = some (.cells #[.int .i64 a0_0, .bool a0_1, (.slice A0_2 l0_2.length c0_2)] 24 (0, 0))) ∧ Aside0 (Below w.heap.size w wc))
  case first =>
   have H := HC9.out
   clear HC9
   by_cases c14 : t361 = 0
   ·rw [if_pos c14] at H
    have c14b0 : (t361 == 0) = true := beq_iff_eq.mpr c14
    have c14b1 : (t361 != 0) = false := bne_eq_false_iff_eq.mpr c14
    clear c14
    (first | rw [c14b0] | (simp only [i64_w, i32_w]; rw [c14b0]) | skip)
    by_cases c15 : a2 < 0
    ·rw [if_pos c15] at H
     have c15b0 : decide (a2 < 0) = true := decide_eq_true c15
     clear c15
     have H' := Aside0.mk H
     clear H
     go_wp2
     go_meet
     case rel => exact ⟨_, (true), (by first | rfl | (simp; done) | (simp [*]; done)), H', ⟨by first | omega | exact Nat.le_refl _⟩, ⟨by (with_reducible repeat (first | apply Kd.R_alloc | apply Kd.R_drewN | apply Kd.R_drew)); exact HO360.out⟩, ⟨by (with_reducible repeat (first | refine blk_drewN ?_ _ | refine blk_drew ?_ | refine blk_alloc ?_ _)); exact BK356.out⟩, ⟨by repeat (first | (with_reducible first | exact HB.out | apply below_alloc | apply pw_below_drewN | apply below_drew1 | refine below_set ?_ GE356.out) | exact HB.out)⟩⟩
    ·rw [if_neg c15] at H
     have c15b0 : decide (a2 < 0) = false := decide_eq_false c15
     clear c15
     have H' := Aside0.mk H
     clear H
     have hcz16_0 : w13.cell? ⟨gb356, 0, none⟩ = some (.int .i64 a0_0) := (blk_cell BK356.out 0).trans rfl
     have hcz16_1 : w13.cell? ⟨gb356, 1, none⟩ = some (.bool a0_1) := (blk_cell BK356.out 1).trans rfl
     have hcz16_2 : w13.cell? ⟨gb356, 2, none⟩ = some (.slice A0_2 l0_2.length c0_2) := (blk_cell BK356.out 2).trans rfl
     have hfz16_0 := blk_frozen BK356.out 0
     have hfz16_1 := blk_frozen BK356.out 1
     have hfz16_2 := blk_frozen BK356.out 2
     go_wp2
     go_meet
     case rel => exact ⟨_, (decide (a2 ≥ a0_0)), (by first | rfl | (simp; done) | (simp [*]; done)), H', ⟨by first | omega | exact Nat.le_refl _⟩, ⟨by (with_reducible repeat (first | apply Kd.R_alloc | apply Kd.R_drewN | apply Kd.R_drew)); exact HO360.out⟩, ⟨by (with_reducible repeat (first | refine blk_drewN ?_ _ | refine blk_drew ?_ | refine blk_alloc ?_ _)); exact BK356.out⟩, ⟨by repeat (first | (with_reducible first | exact HB.out | apply below_alloc | apply pw_below_drewN | apply below_drew1 | refine below_set ?_ GE356.out) | exact HB.out)⟩⟩
   ·rw [if_neg c14] at H
    have c14b0 : (t361 == 0) = false := beq_eq_false_iff_ne.mpr c14
    have c14b1 : (t361 != 0) = true := bne_iff_ne.mpr c14
    (first | rw [c14b0] | (simp only [i64_w, i32_w]; rw [c14b0]) | skip)
    have H' := Aside0.mk H
    clear H
    go_wp2
    go_meet
    case rel => exact ⟨_, (true), (by first | rfl | (simp; done) | (simp [*]; done)), H', ⟨by first | omega | exact Nat.le_refl _⟩, ⟨by (with_reducible repeat (first | apply Kd.R_alloc | apply Kd.R_drewN | apply Kd.R_drew)); exact HO360.out⟩, ⟨by (with_reducible repeat (first | refine blk_drewN ?_ _ | refine blk_drew ?_ | refine blk_alloc ?_ _)); exact BK356.out⟩, ⟨by repeat (first | (with_reducible first | exact HB.out | apply below_alloc | apply pw_below_drewN | apply below_drew1 | refine below_set ?_ GE356.out) | exact HB.out)⟩⟩
  case rest =>
   clear HC9
   try clear c1
   try clear p2
   try clear c3
   try clear c6
   try clear c7
   try clear c8
   try clear c12
   try clear c14
   try clear c14b0
   try clear c14b1
   try clear c15
   try clear c15b0
   try clear hcz12_0
   try clear hcz12_1
   try clear hcz12_2
   try clear hcz16_0
   try clear hcz16_1
   try clear hcz16_2
   try clear hfz12_0
   try clear hfz12_1
   try clear hfz12_2
   try clear hfz16_0
   try clear hfz16_1
   try clear hfz16_2
   obtain ⟨kq, x46_8, rfl, HA, HJ8, HO_12, BK356, HB⟩ := hcut
   cases kq with
   | zero => exact absurd HA.out (by simp [ebbtidelaw07_StaticTrails.j0])
   | succ kj8 =>
    have H := HA.out
    clear HA
    simp only [ebbtidelaw07_StaticTrails.j0] at H
    by_cases c17 : x46_8 = true
    ·subst c17
     have H1 : (some true) = some r := by rw [if_pos rfl] at H; exact H
     clear H
     have H := H1
     clear H1
     obtain rfl := Option.some.inj H
     go_wp2
     go_ret
     exact ⟨by first | rfl | (simp [errW_none, errW_some] <;> rfl) | (simp [*, errW_none, errW_some] <;> rfl), by repeat (first | (with_reducible first | exact HB.out | apply below_alloc | apply pw_below_drewN | apply below_drew1 | refine below_set ?_ GE356.out) | exact HB.out)⟩
    ·replace c17 := Bool.eq_false_iff.mpr c17
     subst c17
     have H1 : ((ebbtidelaw07_Trail.f kj8 a0_0 a0_1 l0_2 l1 a2 l3).bind fun bt362 => ((static_Push.f kj8 a0_0 a0_1 l0_2 l1 bt362.1 (Go.bits .and .i64 a4 7)).bind fun bt366 => (if bt366.2 = 0 then ((static_Balance.f kj8 a0_0 a0_1 l0_2 bt366.1).bind fun bt370 => (if bt370.2 = 0 then (if (bt370.1.length : Int) = a0_0 then (ebbtidelaw07_StaticTrails.j1 kj8 l1 a2 (Go.bits .and .i64 a4 7) true t358 bt362.1 bt362.2 bt366.1 bt370.1 ((t358.length : Int) != a0_0) a0_0 a0_1 l0_2) else (ebbtidelaw07_StaticTrails.j1 kj8 l1 a2 (Go.bits .and .i64 a4 7) true t358 bt362.1 bt362.2 bt366.1 bt370.1 true a0_0 a0_1 l0_2)) else (ebbtidelaw07_StaticTrails.j1 kj8 l1 a2 (Go.bits .and .i64 a4 7) true t358 bt362.1 bt362.2 bt366.1 bt370.1 true a0_0 a0_1 l0_2))) else (if true = true then (if bt366.2 = 71 then (some ((bt366.1.length : Int) == 0)) else (some false)) else (some false))))) = some r := by rw [if_neg (show ¬ (false = true) by decide)] at H; exact H
     clear H
     have H := H1
     clear H1
     replace H := Option.bind_eq_some_iff.mp H
     obtain ⟨⟨t362, t365⟩, A180, H⟩ := H
     replace H : ((static_Push.f kj8 a0_0 a0_1 l0_2 l1 t362 (Go.bits .and .i64 a4 7)).bind fun bt366 => (if bt366.2 = 0 then ((static_Balance.f kj8 a0_0 a0_1 l0_2 bt366.1).bind fun bt370 => (if bt370.2 = 0 then (if (bt370.1.length : Int) = a0_0 then (ebbtidelaw07_StaticTrails.j1 kj8 l1 a2 (Go.bits .and .i64 a4 7) true t358 t362 t365 bt366.1 bt370.1 ((t358.length : Int) != a0_0) a0_0 a0_1 l0_2) else (ebbtidelaw07_StaticTrails.j1 kj8 l1 a2 (Go.bits .and .i64 a4 7) true t358 t362 t365 bt366.1 bt370.1 true a0_0 a0_1 l0_2)) else (ebbtidelaw07_StaticTrails.j1 kj8 l1 a2 (Go.bits .and .i64 a4 7) true t358 t362 t365 bt366.1 bt370.1 true a0_0 a0_1 l0_2))) else (if true = true then (if bt366.2 = 71 then (some ((bt366.1.length : Int) == 0)) else (some false)) else (some false)))) = some r := H
     have A18 := Aside0.mk A180
     clear A180
     replace H := Option.bind_eq_some_iff.mp H
     obtain ⟨⟨t366, t369⟩, A190, H⟩ := H
     replace H : (if t369 = 0 then ((static_Balance.f kj8 a0_0 a0_1 l0_2 t366).bind fun bt370 => (if bt370.2 = 0 then (if (bt370.1.length : Int) = a0_0 then (ebbtidelaw07_StaticTrails.j1 kj8 l1 a2 (Go.bits .and .i64 a4 7) true t358 t362 t365 t366 bt370.1 ((t358.length : Int) != a0_0) a0_0 a0_1 l0_2) else (ebbtidelaw07_StaticTrails.j1 kj8 l1 a2 (Go.bits .and .i64 a4 7) true t358 t362 t365 t366 bt370.1 true a0_0 a0_1 l0_2)) else (ebbtidelaw07_StaticTrails.j1 kj8 l1 a2 (Go.bits .and .i64 a4 7) true t358 t362 t365 t366 bt370.1 true a0_0 a0_1 l0_2))) else (if true = true then (if t369 = 71 then (some ((t366.length : Int) == 0)) else (some false)) else (some false))) = some r := H
     have A19 := Aside0.mk A190
     clear A190
     by_cases c20 : t369 = 0
     ·rw [if_pos c20] at H
      have c20b0 : (t369 == 0) = true := beq_iff_eq.mpr c20
      have c20b1 : (t369 != 0) = false := bne_eq_false_iff_eq.mpr c20
      clear c20
      replace H := Option.bind_eq_some_iff.mp H
      obtain ⟨⟨t370, t373⟩, A210, H⟩ := H
      replace H : (if t373 = 0 then (if (t370.length : Int) = a0_0 then (ebbtidelaw07_StaticTrails.j1 kj8 l1 a2 (Go.bits .and .i64 a4 7) true t358 t362 t365 t366 t370 ((t358.length : Int) != a0_0) a0_0 a0_1 l0_2) else (ebbtidelaw07_StaticTrails.j1 kj8 l1 a2 (Go.bits .and .i64 a4 7) true t358 t362 t365 t366 t370 true a0_0 a0_1 l0_2)) else (ebbtidelaw07_StaticTrails.j1 kj8 l1 a2 (Go.bits .and .i64 a4 7) true t358 t362 t365 t366 t370 true a0_0 a0_1 l0_2)) = some r := H
      have A21 := Aside0.mk A210
      clear A210
      have HC22 := Aside0.mk H
      clear H
      have hcz23_0 : wc.cell? ⟨gb356, 0, none⟩ = some (.int .i64 a0_0) := (blk_cell BK356.out 0).trans rfl
      have hcz23_1 : wc.cell? ⟨gb356, 1, none⟩ = some (.bool a0_1) := (blk_cell BK356.out 1).trans rfl
      have hcz23_2 : wc.cell? ⟨gb356, 2, none⟩ = some (.slice A0_2 l0_2.length c0_2) := (blk_cell BK356.out 2).trans rfl
      have hfz23_0 := blk_frozen BK356.out 0
      have hfz23_1 := blk_frozen BK356.out 1
      have hfz23_2 := blk_frozen BK356.out 2
      go_upto_region 13 with (first | ((with_reducible refine gate_callee (f := 18) rfl ?_); refine goesL_ (some 53) rfl rfl Try.func18 (by kernel_rfl) rfl #[.agg #[.int .i64 a0_0, .bool a0_1, .slice A0_2 l0_2.length c0_2], .slice A1 l1.length c1, .int .i64 a2, .slice A3 l3.length c3] rfl (by (try simp only [List.map_toArray, List.map_cons, List.map_nil]); first | done | rfl | (simp only [List.length_drop, List.length_take]; rfl)) ?_; (with_reducible refine (ebbtidelaw07_Trail.calls kj8 a0_0 a0_1 _ _ l0_2 _ _ l1 a2 _ _ l3 t362 t365 _ ?side1 ?side2 ?side3 ?side4 ?side5 ?side6 A18.out).mono ?_); (case side1 => repeat (first | exact (Kd.C_below HR0_2.out HB.out) | (with_reducible refine Kd.C_alloc ?_ _) | (with_reducible refine Kd.C_drewN ?_ _) | (with_reducible refine Kd.C_drew ?_))); (case side2 => exact HC0_2.out); (case side3 => repeat (first | exact (Kd.C_below HR1.out HB.out) | (with_reducible refine Kd.C_alloc ?_ _) | (with_reducible refine Kd.C_drewN ?_ _) | (with_reducible refine Kd.C_drew ?_))); (case side4 => exact HC1.out); (case side5 => repeat (first | exact (Kd.C_below HR3.out HB.out) | (with_reducible refine Kd.C_alloc ?_ _) | (with_reducible refine Kd.C_drewN ?_ _) | (with_reducible refine Kd.C_drew ?_))); (case side6 => exact HC3.out); rintro e w24 ⟨v363, rfl, ho0, hb⟩; refine ⟨_, rfl, ?_⟩; have n0_ := Aside0.mk (Kd.R_below (by (with_reducible repeat (first | apply Kd.R_alloc | apply Kd.R_drewN | apply Kd.R_drew)); exact HO_12.out) hb); have n1_ := Aside0.mk (Kd.R_lower ho0 (below_size (by repeat (first | (with_reducible first | exact HB.out | apply below_alloc | apply pw_below_drewN | apply below_drew1 | refine below_set ?_ GE356.out) | exact HB.out)))); have n2_ := Aside0.mk (blk_below (g := gb356) (o := .cells #[.int .i64 a0_0, .bool a0_1, .slice A0_2 l0_2.length c0_2] 24 (0, 0)) (by (with_reducible repeat (first | refine blk_drewN ?_ _ | refine blk_drew ?_ | refine blk_alloc ?_ _)); exact BK356.out) hb); have n3_ := Aside0.mk (below_step (by repeat (first | (with_reducible first | exact HB.out | apply below_alloc | apply pw_below_drewN | apply below_drew1 | refine below_set ?_ GE356.out) | exact HB.out)) hb); clear HO_12; clear BK356; clear HB; have HO_12 := n0_; have HO364 := n1_; have BK356 := n2_; have HB := n3_; clear n0_ n1_ n2_ n3_; (try clear hb); (try clear hb2); (try clear hk); (try clear hi); (try clear ho0); have hcz25_0 : w24.cell? ⟨gb356, 0, none⟩ = some (.int .i64 a0_0) := (blk_cell BK356.out 0).trans rfl; have hcz25_1 : w24.cell? ⟨gb356, 1, none⟩ = some (.bool a0_1) := (blk_cell BK356.out 1).trans rfl; have hcz25_2 : w24.cell? ⟨gb356, 2, none⟩ = some (.slice A0_2 l0_2.length c0_2) := (blk_cell BK356.out 2).trans rfl; have hfz25_0 := blk_frozen BK356.out 0; have hfz25_1 := blk_frozen BK356.out 1; have hfz25_2 := blk_frozen BK356.out 2; obtain ⟨Ao26, co26, eo26⟩ := Kd.R_slice HO364.out; subst eo26) | ((with_reducible refine gate_callee (f := 16) rfl ?_); refine goesL_ (some 63) rfl rfl Try.func16 (by kernel_rfl) rfl #[.agg #[.int .i64 a0_0, .bool a0_1, .slice A0_2 l0_2.length c0_2], .slice A1 l1.length c1, .slice Ao26 t362.length co26, .int .i64 (Go.bits .and .i64 a4 7)] rfl (by (try simp only [List.map_toArray, List.map_cons, List.map_nil]); first | done | rfl | (simp only [List.length_drop, List.length_take]; rfl)) ?_; (with_reducible refine (static_Push.calls kj8 a0_0 a0_1 _ _ l0_2 _ _ l1 _ _ t362 (Go.bits .and .i64 a4 7) t366 t369 _ ?side1 ?side2 ?side3 ?side4 ?side5 ?side6 A19.out).mono ?_); (case side1 => repeat (first | exact (Kd.C_below HR0_2.out HB.out) | (with_reducible refine Kd.C_alloc ?_ _) | (with_reducible refine Kd.C_drewN ?_ _) | (with_reducible refine Kd.C_drew ?_))); (case side2 => exact HC0_2.out); (case side3 => repeat (first | exact (Kd.C_below HR1.out HB.out) | (with_reducible refine Kd.C_alloc ?_ _) | (with_reducible refine Kd.C_drewN ?_ _) | (with_reducible refine Kd.C_drew ?_))); (case side4 => exact HC1.out); (case side5 => repeat (first | exact (Kd.R_reads' HO364.out).2.2 | (with_reducible refine Kd.C_alloc ?_ _) | (with_reducible refine Kd.C_drewN ?_ _) | (with_reducible refine Kd.C_drew ?_))); (case side6 => exact (Kd.R_reads' HO364.out).2.1); rintro e w27 ⟨v367, rfl, ho0, hb⟩; refine ⟨_, rfl, ?_⟩; have n0_ := Aside0.mk (Kd.R_elder' (by (with_reducible repeat (first | apply Kd.R_alloc | apply Kd.R_drewN | apply Kd.R_drew)); exact HO_12.out) (Kd.R_base ho0) hb); have n1_ := Aside0.mk (Kd.R_below (by (with_reducible repeat (first | apply Kd.R_alloc | apply Kd.R_drewN | apply Kd.R_drew)); exact HO364.out) hb); have n2_ := Aside0.mk (Kd.R_lower (Kd.R_new' ho0 (Kd.R_lt (by (with_reducible repeat (first | apply Kd.R_alloc | apply Kd.R_drewN | apply Kd.R_drew)); exact HO_12.out))) (below_size (by repeat (first | (with_reducible first | exact HB.out | apply below_alloc | apply pw_below_drewN | apply below_drew1 | refine below_set ?_ GE356.out) | exact HB.out)))); have n3_ := Aside0.mk (blk_below (g := gb356) (o := .cells #[.int .i64 a0_0, .bool a0_1, .slice A0_2 l0_2.length c0_2] 24 (0, 0)) (by (with_reducible repeat (first | refine blk_drewN ?_ _ | refine blk_drew ?_ | refine blk_alloc ?_ _)); exact BK356.out) hb); have n4_ := Aside0.mk (below_step (by repeat (first | (with_reducible first | exact HB.out | apply below_alloc | apply pw_below_drewN | apply below_drew1 | refine below_set ?_ GE356.out) | exact HB.out)) hb); clear HO_12; clear HO364; clear BK356; clear HB; have HO_12 := n0_; have HO364 := n1_; have HO368 := n2_; have BK356 := n3_; have HB := n4_; clear n0_ n1_ n2_ n3_ n4_; (try clear hb); (try clear hb2); (try clear hk); (try clear hi); (try clear ho0); have hcz28_0 : w27.cell? ⟨gb356, 0, none⟩ = some (.int .i64 a0_0) := (blk_cell BK356.out 0).trans rfl; have hcz28_1 : w27.cell? ⟨gb356, 1, none⟩ = some (.bool a0_1) := (blk_cell BK356.out 1).trans rfl; have hcz28_2 : w27.cell? ⟨gb356, 2, none⟩ = some (.slice A0_2 l0_2.length c0_2) := (blk_cell BK356.out 2).trans rfl; have hfz28_0 := blk_frozen BK356.out 0; have hfz28_1 := blk_frozen BK356.out 1; have hfz28_2 := blk_frozen BK356.out 2; obtain ⟨Ao29, co29, eo29⟩ := Kd.R_slice HO368.out; subst eo29) | ((with_reducible refine gate_callee (f := 8) rfl ?_); refine goesL_ (some 81) rfl rfl Try.func8 (by kernel_rfl) rfl #[.agg #[.int .i64 a0_0, .bool a0_1, .slice A0_2 l0_2.length c0_2], .slice Ao29 t366.length co29] rfl (by (try simp only [List.map_toArray, List.map_cons, List.map_nil]); first | done | rfl | (simp only [List.length_drop, List.length_take]; rfl)) ?_; (with_reducible refine (static_Balance.calls kj8 a0_0 a0_1 _ _ l0_2 _ _ t366 t370 t373 _ ?side1 ?side2 ?side3 ?side4 A21.out).mono ?_); (case side1 => repeat (first | exact (Kd.C_below HR0_2.out HB.out) | (with_reducible refine Kd.C_alloc ?_ _) | (with_reducible refine Kd.C_drewN ?_ _) | (with_reducible refine Kd.C_drew ?_))); (case side2 => exact HC0_2.out); (case side3 => repeat (first | exact (Kd.R_reads' HO368.out).2.2 | (with_reducible refine Kd.C_alloc ?_ _) | (with_reducible refine Kd.C_drewN ?_ _) | (with_reducible refine Kd.C_drew ?_))); (case side4 => exact (Kd.R_reads' HO368.out).2.1); rintro e w30 ⟨v371, rfl, ho0, hb⟩; refine ⟨_, rfl, ?_⟩; have n0_ := Aside0.mk (Kd.R_elder' (by (with_reducible repeat (first | apply Kd.R_alloc | apply Kd.R_drewN | apply Kd.R_drew)); exact HO_12.out) (Kd.R_base ho0) hb); have n1_ := Aside0.mk (Kd.R_below (by (with_reducible repeat (first | apply Kd.R_alloc | apply Kd.R_drewN | apply Kd.R_drew)); exact HO364.out) hb); have n2_ := Aside0.mk (Kd.R_elder' (by (with_reducible repeat (first | apply Kd.R_alloc | apply Kd.R_drewN | apply Kd.R_drew)); exact HO368.out) (Kd.R_base ho0) hb); have n3_ := Aside0.mk (Kd.R_lower (Kd.R_new' (Kd.R_new' ho0 (Kd.R_lt (by (with_reducible repeat (first | apply Kd.R_alloc | apply Kd.R_drewN | apply Kd.R_drew)); exact HO_12.out))) (Kd.R_lt (by (with_reducible repeat (first | apply Kd.R_alloc | apply Kd.R_drewN | apply Kd.R_drew)); exact HO368.out))) (below_size (by repeat (first | (with_reducible first | exact HB.out | apply below_alloc | apply pw_below_drewN | apply below_drew1 | refine below_set ?_ GE356.out) | exact HB.out)))); have n4_ := Aside0.mk (blk_below (g := gb356) (o := .cells #[.int .i64 a0_0, .bool a0_1, .slice A0_2 l0_2.length c0_2] 24 (0, 0)) (by (with_reducible repeat (first | refine blk_drewN ?_ _ | refine blk_drew ?_ | refine blk_alloc ?_ _)); exact BK356.out) hb); have n5_ := Aside0.mk (below_step (by repeat (first | (with_reducible first | exact HB.out | apply below_alloc | apply pw_below_drewN | apply below_drew1 | refine below_set ?_ GE356.out) | exact HB.out)) hb); clear HO_12; clear HO364; clear HO368; clear BK356; clear HB; have HO_12 := n0_; have HO364 := n1_; have HO368 := n2_; have HO372 := n3_; have BK356 := n4_; have HB := n5_; clear n0_ n1_ n2_ n3_ n4_ n5_; (try clear hb); (try clear hb2); (try clear hk); (try clear hi); (try clear ho0)))
      (try simp only [Act.put, List.setIfInBounds_toArray, List.set_cons_zero, List.set_cons_succ])
      go_cut [99] (fun v99 wc => ∃ (kq : Nat) (x99_21 : Bool), v99 = .bool x99_21 ∧ Aside0 (ebbtidelaw07_StaticTrails.j1 kq l1 a2 (Go.bits .and .i64 a4 7) true t358 t362 t365 t366 t370 x99_21 a0_0 a0_1 l0_2 = some r) ∧ Aside0 (kq ≤ kj8) ∧ Aside0 (Kd.R (Kd.int .i64) 3 wc w.heap.size (fun k_ => some k_ ≠ ((.slice Ao29 t366.length co29) : Value).ownBlock ∧ some k_ ≠ (v371 : Value).ownBlock) v359 t358) ∧ Aside0 (Kd.R k41 41 wc w.heap.size (fun _ => True) (.slice Ao26 t362.length co26) t362) ∧ Aside0 (Kd.R (Kd.int .i64) 3 wc w.heap.size (fun k_ => some k_ ≠ (v359 : Value).ownBlock ∧ some k_ ≠ (v371 : Value).ownBlock) (.slice Ao29 t366.length co29) t366) ∧ Aside0 (Kd.R (Kd.int .i64) 3 wc w.heap.size (fun k_ => some k_ ≠ (v359 : Value).ownBlock ∧ some k_ ≠ ((.slice Ao29 t366.length co29) : Value).ownBlock) v371 t370) ∧ Aside0 (wc.heap[gb356]? = some (.cells #[.int .i64 a0_0, .bool a0_1, (.slice A0_2 l0_2.length c0_2)] 24 (0, 0))) ∧ Aside0 (Below w.heap.size w wc))
      case first =>
       have H := HC22.out
       clear HC22
       by_cases c31 : t373 = 0
       ·rw [if_pos c31] at H
        have c31b0 : (t373 == 0) = true := beq_iff_eq.mpr c31
        have c31b1 : (t373 != 0) = false := bne_eq_false_iff_eq.mpr c31
        clear c31
        (first | rw [c31b0] | (simp only [i64_w, i32_w]; rw [c31b0]) | skip)
        by_cases c32 : (t370.length : Int) = a0_0
        ·rw [if_pos c32] at H
         have c32b0 : ((t370.length : Int) == a0_0) = true := beq_iff_eq.mpr c32
         have c32b1 : ((t370.length : Int) != a0_0) = false := bne_eq_false_iff_eq.mpr c32
         clear c32
         have H' := Aside0.mk H
         clear H
         obtain ⟨Ao33, co33, eo33⟩ := Kd.R_slice HO372.out
         subst eo33
         have hcz34_0 : w30.cell? ⟨gb356, 0, none⟩ = some (.int .i64 a0_0) := (blk_cell BK356.out 0).trans rfl
         have hcz34_1 : w30.cell? ⟨gb356, 1, none⟩ = some (.bool a0_1) := (blk_cell BK356.out 1).trans rfl
         have hcz34_2 : w30.cell? ⟨gb356, 2, none⟩ = some (.slice A0_2 l0_2.length c0_2) := (blk_cell BK356.out 2).trans rfl
         have hfz34_0 := blk_frozen BK356.out 0
         have hfz34_1 := blk_frozen BK356.out 1
         have hfz34_2 := blk_frozen BK356.out 2
         obtain ⟨Ao35, co35, eo35⟩ := Kd.R_slice HO_12.out
         subst eo35
         go_wp2
         go_meet
         case rel => exact ⟨_, (((t358.length : Int) != a0_0)), (by first | rfl | (simp; done) | (simp [*]; done)), H', ⟨by have := HJ8.out; first | omega | exact Nat.le_refl _⟩, ⟨by (with_reducible repeat (first | apply Kd.R_alloc | apply Kd.R_drewN | apply Kd.R_drew)); exact Kd.R_mono HO_12.out (fun _ hk => ⟨hk.1.2, hk.2⟩)⟩, ⟨by (with_reducible repeat (first | apply Kd.R_alloc | apply Kd.R_drewN | apply Kd.R_drew)); exact HO364.out⟩, ⟨by (with_reducible repeat (first | apply Kd.R_alloc | apply Kd.R_drewN | apply Kd.R_drew)); exact Kd.R_mono HO368.out (fun _ hk => ⟨hk.1.2, hk.2⟩)⟩, ⟨by (with_reducible repeat (first | apply Kd.R_alloc | apply Kd.R_drewN | apply Kd.R_drew)); exact Kd.R_mono HO372.out (fun _ hk => ⟨hk.1.2, hk.2⟩)⟩, ⟨by (with_reducible repeat (first | refine blk_drewN ?_ _ | refine blk_drew ?_ | refine blk_alloc ?_ _)); exact BK356.out⟩, ⟨by repeat (first | (with_reducible first | exact HB.out | apply below_alloc | apply pw_below_drewN | apply below_drew1 | refine below_set ?_ GE356.out) | exact HB.out)⟩⟩
        ·rw [if_neg c32] at H
         have c32b0 : ((t370.length : Int) == a0_0) = false := beq_eq_false_iff_ne.mpr c32
         have c32b1 : ((t370.length : Int) != a0_0) = true := bne_iff_ne.mpr c32
         have H' := Aside0.mk H
         clear H
         obtain ⟨Ao36, co36, eo36⟩ := Kd.R_slice HO372.out
         subst eo36
         have hcz37_0 : w30.cell? ⟨gb356, 0, none⟩ = some (.int .i64 a0_0) := (blk_cell BK356.out 0).trans rfl
         have hcz37_1 : w30.cell? ⟨gb356, 1, none⟩ = some (.bool a0_1) := (blk_cell BK356.out 1).trans rfl
         have hcz37_2 : w30.cell? ⟨gb356, 2, none⟩ = some (.slice A0_2 l0_2.length c0_2) := (blk_cell BK356.out 2).trans rfl
         have hfz37_0 := blk_frozen BK356.out 0
         have hfz37_1 := blk_frozen BK356.out 1
         have hfz37_2 := blk_frozen BK356.out 2
         go_wp2
         go_meet
         case rel => exact ⟨_, (true), (by first | rfl | (simp; done) | (simp [*]; done)), H', ⟨by have := HJ8.out; first | omega | exact Nat.le_refl _⟩, ⟨by (with_reducible repeat (first | apply Kd.R_alloc | apply Kd.R_drewN | apply Kd.R_drew)); exact Kd.R_mono HO_12.out (fun _ hk => ⟨hk.1.2, hk.2⟩)⟩, ⟨by (with_reducible repeat (first | apply Kd.R_alloc | apply Kd.R_drewN | apply Kd.R_drew)); exact HO364.out⟩, ⟨by (with_reducible repeat (first | apply Kd.R_alloc | apply Kd.R_drewN | apply Kd.R_drew)); exact Kd.R_mono HO368.out (fun _ hk => ⟨hk.1.2, hk.2⟩)⟩, ⟨by (with_reducible repeat (first | apply Kd.R_alloc | apply Kd.R_drewN | apply Kd.R_drew)); exact Kd.R_mono HO372.out (fun _ hk => ⟨hk.1.2, hk.2⟩)⟩, ⟨by (with_reducible repeat (first | refine blk_drewN ?_ _ | refine blk_drew ?_ | refine blk_alloc ?_ _)); exact BK356.out⟩, ⟨by repeat (first | (with_reducible first | exact HB.out | apply below_alloc | apply pw_below_drewN | apply below_drew1 | refine below_set ?_ GE356.out) | exact HB.out)⟩⟩
       ·rw [if_neg c31] at H
        have c31b0 : (t373 == 0) = false := beq_eq_false_iff_ne.mpr c31
        have c31b1 : (t373 != 0) = true := bne_iff_ne.mpr c31
        (first | rw [c31b0] | (simp only [i64_w, i32_w]; rw [c31b0]) | skip)
        have H' := Aside0.mk H
        clear H
        go_wp2
        go_meet
        case rel => exact ⟨_, (true), (by first | rfl | (simp; done) | (simp [*]; done)), H', ⟨by have := HJ8.out; first | omega | exact Nat.le_refl _⟩, ⟨by (with_reducible repeat (first | apply Kd.R_alloc | apply Kd.R_drewN | apply Kd.R_drew)); exact Kd.R_mono HO_12.out (fun _ hk => ⟨hk.1.2, hk.2⟩)⟩, ⟨by (with_reducible repeat (first | apply Kd.R_alloc | apply Kd.R_drewN | apply Kd.R_drew)); exact HO364.out⟩, ⟨by (with_reducible repeat (first | apply Kd.R_alloc | apply Kd.R_drewN | apply Kd.R_drew)); exact Kd.R_mono HO368.out (fun _ hk => ⟨hk.1.2, hk.2⟩)⟩, ⟨by (with_reducible repeat (first | apply Kd.R_alloc | apply Kd.R_drewN | apply Kd.R_drew)); exact Kd.R_mono HO372.out (fun _ hk => ⟨hk.1.2, hk.2⟩)⟩, ⟨by (with_reducible repeat (first | refine blk_drewN ?_ _ | refine blk_drew ?_ | refine blk_alloc ?_ _)); exact BK356.out⟩, ⟨by repeat (first | (with_reducible first | exact HB.out | apply below_alloc | apply pw_below_drewN | apply below_drew1 | refine below_set ?_ GE356.out) | exact HB.out)⟩⟩
      case rest =>
       clear HC22
       try clear c1
       try clear c2
       try clear p2
       try clear c3
       try clear c6
       try clear c7
       try clear c8
       try clear c12
       try clear c14
       try clear c14b0
       try clear c14b1
       try clear c15
       try clear c15b0
       try clear c16
       try clear c17
       try clear c18
       try clear c20
       try clear c20b0
       try clear c20b1
       try clear c31
       try clear c31b0
       try clear c31b1
       try clear c32
       try clear c32b0
       try clear c32b1
       try clear hcz12_0
       try clear hcz12_1
       try clear hcz12_2
       try clear hcz16_0
       try clear hcz16_1
       try clear hcz16_2
       try clear hcz23_0
       try clear hcz23_1
       try clear hcz23_2
       try clear hcz25_0
       try clear hcz25_1
       try clear hcz25_2
       try clear hcz28_0
       try clear hcz28_1
       try clear hcz28_2
       try clear hcz34_0
       try clear hcz34_1
       try clear hcz34_2
       try clear hcz37_0
       try clear hcz37_1
       try clear hcz37_2
       try clear hfz12_0
       try clear hfz12_1
       try clear hfz12_2
       try clear hfz16_0
       try clear hfz16_1
       try clear hfz16_2
       try clear hfz23_0
       try clear hfz23_1
       try clear hfz23_2
       try clear hfz25_0
       try clear hfz25_1
       try clear hfz25_2
       try clear hfz28_0
       try clear hfz28_1
       try clear hfz28_2
       try clear hfz34_0
       try clear hfz34_1
       try clear hfz34_2
       try clear hfz37_0
       try clear hfz37_1
       try clear hfz37_2
       try clear p2
       obtain ⟨kq, x99_21, rfl, HA, HJ21, HO_12, HO_14, HO_16, HO_18, BK356, HB⟩ := hcut
       cases kq with
       | zero => exact absurd HA.out (by simp [ebbtidelaw07_StaticTrails.j1])
       | succ kj21 =>
        have H := HA.out
        clear HA
        simp only [ebbtidelaw07_StaticTrails.j1] at H
        by_cases c38 : x99_21 = true
        ·subst c38
         have H1 : (some false) = some r := by rw [if_pos rfl] at H; exact H
         exact absurd (Option.some.inj H1) (by rw [HRT.out]; decide)
        ·replace c38 := Bool.eq_false_iff.mpr c38
         subst c38
         have H1 : (ebbtidelaw07_StaticTrails.l0 kj21 l1 a2 (Go.bits .and .i64 a4 7) true t358 t362 t365 t366 t370 0 a0_0 a0_1 l0_2) = some r := by rw [if_neg (show ¬ (false = true) by decide)] at H; exact H
         clear H
         have H := H1
         clear H1
         have H' := Aside0.mk H
         clear H
         go_wp2
         go_loopg [20] kj21 (fun kq v20 w' => ∃ (x20_3 : Int), v20 = .int .i64 x20_3 ∧ Aside0 (ebbtidelaw07_StaticTrails.l0 kq l1 a2 (Go.bits .and .i64 a4 7) true t358 t362 t365 t366 t370 x20_3 a0_0 a0_1 l0_2 = some r) ∧ Aside0 (kq ≤ kj21) ∧ Aside0 (Kd.R (Kd.int .i64) 3 w' w.heap.size (fun k_ => some k_ ≠ ((.slice Ao29 t366.length co29) : Value).ownBlock ∧ some k_ ≠ (v371 : Value).ownBlock) v359 t358) ∧ Aside0 (Kd.R k41 41 w' w.heap.size (fun _ => True) (.slice Ao26 t362.length co26) t362) ∧ Aside0 (Kd.R (Kd.int .i64) 3 w' w.heap.size (fun k_ => some k_ ≠ (v359 : Value).ownBlock ∧ some k_ ≠ (v371 : Value).ownBlock) (.slice Ao29 t366.length co29) t366) ∧ Aside0 (Kd.R (Kd.int .i64) 3 w' w.heap.size (fun k_ => some k_ ≠ (v359 : Value).ownBlock ∧ some k_ ≠ ((.slice Ao29 t366.length co29) : Value).ownBlock) v371 t370) ∧ Aside0 (w'.heap[gb356]? = some (.cells #[.int .i64 a0_0, .bool a0_1, (.slice A0_2 l0_2.length c0_2)] 24 (0, 0))) ∧ Aside0 (Below w.heap.size w w'))
         case atStart => exact ⟨(0), (by first | rfl | (simp; done) | (simp [*]; done)), H', ⟨Nat.le_refl _⟩, ⟨by (with_reducible repeat (first | apply Kd.R_alloc | apply Kd.R_drewN | apply Kd.R_drew)); exact HO_12.out⟩, ⟨by (with_reducible repeat (first | apply Kd.R_alloc | apply Kd.R_drewN | apply Kd.R_drew)); exact HO_14.out⟩, ⟨by (with_reducible repeat (first | apply Kd.R_alloc | apply Kd.R_drewN | apply Kd.R_drew)); exact HO_16.out⟩, ⟨by (with_reducible repeat (first | apply Kd.R_alloc | apply Kd.R_drewN | apply Kd.R_drew)); exact HO_18.out⟩, ⟨by (with_reducible repeat (first | refine blk_drewN ?_ _ | refine blk_drew ?_ | refine blk_alloc ?_ _)); exact BK356.out⟩, ⟨by repeat (first | (with_reducible first | exact HB.out | apply below_alloc | apply pw_below_drewN | apply below_drew1 | refine below_set ?_ GE356.out) | exact HB.out)⟩⟩
         case round =>
          clear H'
          try clear c1
          try clear c2
          try clear p2
          try clear c3
          try clear c6
          try clear c7
          try clear c8
          try clear c12
          try clear c14
          try clear c14b0
          try clear c14b1
          try clear c15
          try clear c15b0
          try clear c16
          try clear c17
          try clear c18
          try clear c20
          try clear c20b0
          try clear c20b1
          try clear c31
          try clear c31b0
          try clear c31b1
          try clear c32
          try clear c32b0
          try clear c32b1
          try clear c38
          try clear hcz12_0
          try clear hcz12_1
          try clear hcz12_2
          try clear hcz16_0
          try clear hcz16_1
          try clear hcz16_2
          try clear hcz23_0
          try clear hcz23_1
          try clear hcz23_2
          try clear hcz25_0
          try clear hcz25_1
          try clear hcz25_2
          try clear hcz28_0
          try clear hcz28_1
          try clear hcz28_2
          try clear hcz34_0
          try clear hcz34_1
          try clear hcz34_2
          try clear hcz37_0
          try clear hcz37_1
          try clear hcz37_2
          try clear hfz12_0
          try clear hfz12_1
          try clear hfz12_2
          try clear hfz16_0
          try clear hfz16_1
          try clear hfz16_2
          try clear hfz23_0
          try clear hfz23_1
          try clear hfz23_2
          try clear hfz25_0
          try clear hfz25_1
          try clear hfz25_2
          try clear hfz28_0
          try clear hfz28_1
          try clear hfz28_2
          try clear hfz34_0
          try clear hfz34_1
          try clear hfz34_2
          try clear hfz37_0
          try clear hfz37_1
          try clear hfz37_2
          try clear p2
          obtain ⟨x20_3, rfl, HA, HK3, HO_12, HO_14, HO_16, HO_18, BK356, HB⟩ := hrel
          cases gk with
          | zero => exact absurd HA.out (by simp [ebbtidelaw07_StaticTrails.l0])
          | succ k3 =>
           have H := HA.out
           clear HA
           simp only [ebbtidelaw07_StaticTrails.l0] at H
           by_cases c39 : x20_3 < a0_0
           ·rw [if_pos c39] at H
            have c39b0 : decide (x20_3 < a0_0) = true := decide_eq_true c39
            clear c39
            have HC40 := Aside0.mk H
            clear H
            have hcz41_0 : wr.cell? ⟨gb356, 0, none⟩ = some (.int .i64 a0_0) := (blk_cell BK356.out 0).trans rfl
            have hcz41_1 : wr.cell? ⟨gb356, 1, none⟩ = some (.bool a0_1) := (blk_cell BK356.out 1).trans rfl
            have hcz41_2 : wr.cell? ⟨gb356, 2, none⟩ = some (.slice A0_2 l0_2.length c0_2) := (blk_cell BK356.out 2).trans rfl
            have hfz41_0 := blk_frozen BK356.out 0
            have hfz41_1 := blk_frozen BK356.out 1
            have hfz41_2 := blk_frozen BK356.out 2
            go_upto_if 108 with (fail)
            go_cut [21] (fun v21 wc => ∃ (kq : Nat) (x21_39 : Int), v21 = .int .i64 x21_39 ∧ Aside0 (ebbtidelaw07_StaticTrails.j3 kq l1 a2 (Go.bits .and .i64 a4 7) true t358 t362 t365 t366 t370 x20_3 x21_39 a0_0 a0_1 l0_2 = some r) ∧ Aside0 (kq ≤ k3) ∧ Aside0 (Kd.R (Kd.int .i64) 3 wc w.heap.size (fun k_ => some k_ ≠ ((.slice Ao29 t366.length co29) : Value).ownBlock ∧ some k_ ≠ (v371 : Value).ownBlock) v359 t358) ∧ Aside0 (Kd.R k41 41 wc w.heap.size (fun _ => True) (.slice Ao26 t362.length co26) t362) ∧ Aside0 (Kd.R (Kd.int .i64) 3 wc w.heap.size (fun k_ => some k_ ≠ (v359 : Value).ownBlock ∧ some k_ ≠ (v371 : Value).ownBlock) (.slice Ao29 t366.length co29) t366) ∧ Aside0 (Kd.R (Kd.int .i64) 3 wc w.heap.size (fun k_ => some k_ ≠ (v359 : Value).ownBlock ∧ some k_ ≠ ((.slice Ao29 t366.length co29) : Value).ownBlock) v371 t370) ∧ Aside0 (wc.heap[gb356]? = some (.cells #[.int .i64 a0_0, .bool a0_1, (.slice A0_2 l0_2.length c0_2)] 24 (0, 0))) ∧ Aside0 (Below w.heap.size w wc))
            case first =>
             have H := HC40.out
             clear HC40
             by_cases c42 : x20_3 = a2
             ·rw [if_pos c42] at H
              have c42b0 : (x20_3 == a2) = true := beq_iff_eq.mpr c42
              have c42b1 : (x20_3 != a2) = false := bne_eq_false_iff_eq.mpr c42
              clear c42
              (first | rw [c42b0] | (simp only [i64_w, i32_w]; rw [c42b0]) | skip)
              have H' := Aside0.mk H
              clear H
              go_wp2
              go_meet
              case rel => exact ⟨_, (wrap64 (0 + (Go.bits .and .i64 a4 7))), (by first | rfl | (simp; done) | (simp [*]; done)), H', ⟨by have := HJ8.out; have := HJ21.out; have := HK3.out; first | omega | exact Nat.le_refl _⟩, ⟨by (with_reducible repeat (first | apply Kd.R_alloc | apply Kd.R_drewN | apply Kd.R_drew)); exact HO_12.out⟩, ⟨by (with_reducible repeat (first | apply Kd.R_alloc | apply Kd.R_drewN | apply Kd.R_drew)); exact HO_14.out⟩, ⟨by (with_reducible repeat (first | apply Kd.R_alloc | apply Kd.R_drewN | apply Kd.R_drew)); exact HO_16.out⟩, ⟨by (with_reducible repeat (first | apply Kd.R_alloc | apply Kd.R_drewN | apply Kd.R_drew)); exact HO_18.out⟩, ⟨by (with_reducible repeat (first | refine blk_drewN ?_ _ | refine blk_drew ?_ | refine blk_alloc ?_ _)); exact BK356.out⟩, ⟨by repeat (first | (with_reducible first | exact HB.out | apply below_alloc | apply pw_below_drewN | apply below_drew1 | refine below_set ?_ GE356.out) | exact HB.out)⟩⟩
             ·rw [if_neg c42] at H
              have c42b0 : (x20_3 == a2) = false := beq_eq_false_iff_ne.mpr c42
              have c42b1 : (x20_3 != a2) = true := bne_iff_ne.mpr c42
              (first | rw [c42b0] | (simp only [i64_w, i32_w]; rw [c42b0]) | skip)
              have H' := Aside0.mk H
              clear H
              go_wp2
              go_meet
              case rel => exact ⟨_, (0), (by first | rfl | (simp; done) | (simp [*]; done)), H', ⟨by have := HJ8.out; have := HJ21.out; have := HK3.out; first | omega | exact Nat.le_refl _⟩, ⟨by (with_reducible repeat (first | apply Kd.R_alloc | apply Kd.R_drewN | apply Kd.R_drew)); exact HO_12.out⟩, ⟨by (with_reducible repeat (first | apply Kd.R_alloc | apply Kd.R_drewN | apply Kd.R_drew)); exact HO_14.out⟩, ⟨by (with_reducible repeat (first | apply Kd.R_alloc | apply Kd.R_drewN | apply Kd.R_drew)); exact HO_16.out⟩, ⟨by (with_reducible repeat (first | apply Kd.R_alloc | apply Kd.R_drewN | apply Kd.R_drew)); exact HO_18.out⟩, ⟨by (with_reducible repeat (first | refine blk_drewN ?_ _ | refine blk_drew ?_ | refine blk_alloc ?_ _)); exact BK356.out⟩, ⟨by repeat (first | (with_reducible first | exact HB.out | apply below_alloc | apply pw_below_drewN | apply below_drew1 | refine below_set ?_ GE356.out) | exact HB.out)⟩⟩
            case rest =>
             clear HC40
             try clear c1
             try clear c2
             try clear p2
             try clear c3
             try clear c4
             try clear c6
             try clear p6
             try clear c7
             try clear c8
             try clear c12
             try clear c14
             try clear c14b0
             try clear c14b1
             try clear c15
             try clear c15b0
             try clear c16
             try clear c17
             try clear c18
             try clear c20
             try clear c20b0
             try clear c20b1
             try clear c31
             try clear c31b0
             try clear c31b1
             try clear c32
             try clear c32b0
             try clear c32b1
             try clear c38
             try clear c39
             try clear c39b0
             try clear c42
             try clear c42b0
             try clear c42b1
             try clear hcz12_0
             try clear hcz12_1
             try clear hcz12_2
             try clear hcz16_0
             try clear hcz16_1
             try clear hcz16_2
             try clear hcz23_0
             try clear hcz23_1
             try clear hcz23_2
             try clear hcz25_0
             try clear hcz25_1
             try clear hcz25_2
             try clear hcz28_0
             try clear hcz28_1
             try clear hcz28_2
             try clear hcz34_0
             try clear hcz34_1
             try clear hcz34_2
             try clear hcz37_0
             try clear hcz37_1
             try clear hcz37_2
             try clear hcz41_0
             try clear hcz41_1
             try clear hcz41_2
             try clear hfz12_0
             try clear hfz12_1
             try clear hfz12_2
             try clear hfz16_0
             try clear hfz16_1
             try clear hfz16_2
             try clear hfz23_0
             try clear hfz23_1
             try clear hfz23_2
             try clear hfz25_0
             try clear hfz25_1
             try clear hfz25_2
             try clear hfz28_0
             try clear hfz28_1
             try clear hfz28_2
             try clear hfz34_0
             try clear hfz34_1
             try clear hfz34_2
             try clear hfz37_0
             try clear hfz37_1
             try clear hfz37_2
             try clear hfz41_0
             try clear hfz41_1
             try clear hfz41_2
             try clear p2
             obtain ⟨kq, x21_39, rfl, HA, HJ39, HO_12, HO_14, HO_16, HO_18, BK356, HB⟩ := hcut
             cases kq with
             | zero => exact absurd HA.out (by simp [ebbtidelaw07_StaticTrails.j3])
             | succ kj39 =>
              have H := HA.out
              clear HA
              simp only [ebbtidelaw07_StaticTrails.j3] at H
              by_cases c43 : x20_3 = t365
              ·rw [if_pos c43] at H
               have c43b0 : (x20_3 == t365) = true := beq_iff_eq.mpr c43
               have c43b1 : (x20_3 != t365) = false := bne_eq_false_iff_eq.mpr c43
               clear c43
               by_cases c44 : 0 ≤ x20_3
               ·rw [if_pos c44] at H
                have c44b0 : decide (0 ≤ x20_3) = true := decide_eq_true c44
                clear c44
                by_cases c45 : x20_3 < (t370.length : Int)
                ·rw [if_pos c45] at H
                 have c45b0 : decide (x20_3 < (t370.length : Int)) = true := decide_eq_true c45
                 clear c45
                 by_cases c46 : x20_3 < (t358.length : Int)
                 ·rw [if_pos c46] at H
                  have c46b0 : decide (x20_3 < (t358.length : Int)) = true := decide_eq_true c46
                  clear c46
                  by_cases c47 : (rd t370 x20_3) = (wrap64 ((rd t358 x20_3) + (wrap64 (x21_39 - (Go.bits .and .i64 a4 7)))))
                  ·rw [if_pos c47] at H
                   have c47b0 : ((rd t370 x20_3) == (wrap64 ((rd t358 x20_3) + (wrap64 (x21_39 - (Go.bits .and .i64 a4 7)))))) = true := beq_iff_eq.mpr c47
                   have c47b1 : ((rd t370 x20_3) != (wrap64 ((rd t358 x20_3) + (wrap64 (x21_39 - (Go.bits .and .i64 a4 7)))))) = false := bne_eq_false_iff_eq.mpr c47
                   clear c47
                   have H' := Aside0.mk H
                   clear H
                   try go_wp2
                   have n0_ := Aside0.mk (Kd.R_drew HO_12.out)
                   have n1_ := Aside0.mk (Kd.R_drew HO_14.out)
                   have n2_ := Aside0.mk (Kd.R_drew HO_16.out)
                   have n3_ := Aside0.mk (Kd.R_drew HO_18.out)
                   have n4_ := Aside0.mk (blk_drew BK356.out)
                   have n5_ := Aside0.mk (below_drew1 HB.out)
                   clear HO_12
                   clear HO_14
                   clear HO_16
                   clear HO_18
                   clear BK356
                   clear HB
                   have HO_12 := n0_
                   have HO_14 := n1_
                   have HO_16 := n2_
                   have HO_18 := n3_
                   have BK356 := n4_
                   have HB := n5_
                   clear n0_ n1_ n2_ n3_ n4_ n5_
                   obtain ⟨Ao49, co49, eo49⟩ := Kd.R_slice HO_18.out
                   (first | subst eo49 | (injection eo49 with f1_ f2_ f3_; have f4_ := f1_.symm; have f5_ := f3_.symm; clear f1_ f2_ f3_; subst f4_; subst f5_))
                   have p374 : 0 ≤ (x20_3 : Int) := of_decide_eq_true (by first | (with_reducible assumption) | assumption)
                   have q374 : x20_3 < (t370.length : Int) := of_decide_eq_true (by first | (with_reducible assumption) | assumption)
                   obtain ⟨ad374, e374, hx374_0⟩ := Kd.at_int (Kd.R_reads' HO_18.out).2.2 x20_3 p374 q374
                   cases e374
                   replace p374 := eq_true p374
                   replace q374 := eq_true q374
                   obtain ⟨Ao50, co50, eo50⟩ := Kd.R_slice HO_12.out
                   (first | subst eo50 | (injection eo50 with f1_ f2_ f3_; have f4_ := f1_.symm; have f5_ := f3_.symm; clear f1_ f2_ f3_; subst f4_; subst f5_))
                   have p375 : 0 ≤ (x20_3 : Int) := of_decide_eq_true (by first | (with_reducible assumption) | assumption)
                   have q375 : x20_3 < (t358.length : Int) := of_decide_eq_true (by first | (with_reducible assumption) | assumption)
                   obtain ⟨ad375, e375, hx375_0⟩ := Kd.at_int (Kd.R_reads' HO_12.out).2.2 x20_3 p375 q375
                   cases e375
                   replace p375 := eq_true p375
                   replace q375 := eq_true q375
                   refine start_ (n := 11) (S := fun w' => w'.cell? (ad374.add (x20_3).toNat) = some (.int .i64 (rd t370 x20_3)) ∧ w'.cell? (ad375.add (x20_3).toNat) = some (.int .i64 (rd t358 x20_3))) (ds := []) #[false, false, false, false, false, false, false, false, false, false, false] (by kernel_rfl) rfl rfl ⟨hx374_0, hx375_0⟩ (fun hHeld => ?_); refine with_tabW ebbtidelaw07_StaticTrails.tab23 ebbtidelaw07_StaticTrails.bits23 (fun HT_ HW_ => ?_)
                   generalize wc.drew = w48 at HO_12 HO_14 HO_16 HO_18 BK356 HB hx374_0 hx375_0 hHeld ⊢
                   refine pure_ (i := 0) (N := some 118) (v := ?_) (a' := ?_) #[true, false, false, false, false, false, false, false, false, false, false] rfl rfl (any_of HT_.out (by kernel_rfl)) (fun _ _ _ h => h) (Or.inl ⟨by rfl, ?_⟩) ?_ ?_
                   rotate_left
                   ·intro w'
                    go_simp
                    with_reducible rfl
                   rotate_left
                   ·simp only [Act.put, List.setIfInBounds_toArray, List.set_cons_zero, List.set_cons_succ, i64_w, i32_w]
                    rfl
                   refine pure_ (i := 1) (N := some 119) (v := ?_) (a' := ?_) #[true, true, false, false, false, false, false, false, false, false, false] rfl rfl (any_of HT_.out (by kernel_rfl)) (fun _ _ _ h => h) (Or.inl ⟨by rfl, ?_⟩) ?_ ?_
                   rotate_left
                   ·intro w'
                    go_simp
                    with_reducible rfl
                   rotate_left
                   ·simp only [Act.put, List.setIfInBounds_toArray, List.set_cons_zero, List.set_cons_succ, i64_w, i32_w]
                    rfl
                   refine pure_ (i := 2) (N := some 120) (v := ?_) (a' := ?_) #[true, true, true, false, false, false, false, false, false, false, false] rfl rfl (any_of HT_.out (by kernel_rfl)) (fun _ _ _ h => h) (Or.inl ⟨by rfl, ?_⟩) ?_ ?_
                   rotate_left
                   ·intro w'
                    go_simp
                    with_reducible rfl
                   rotate_left
                   ·simp only [Act.put, List.setIfInBounds_toArray, List.set_cons_zero, List.set_cons_succ, i64_w, i32_w]
                    rfl
                   refine pure_ (i := 4) (N := some 122) (v := ?_) (a' := ?_) #[true, true, true, false, true, false, false, false, false, false, false] rfl rfl (any_of HT_.out (by kernel_rfl)) (fun _ _ _ h => h) (Or.inl ⟨by rfl, ?_⟩) ?_ ?_
                   rotate_left
                   ·intro w'
                    go_simp
                    with_reducible rfl
                   rotate_left
                   ·simp only [Act.put, List.setIfInBounds_toArray, List.set_cons_zero, List.set_cons_succ, i64_w, i32_w]
                    rfl
                   refine pure_ (i := 5) (N := some 123) (v := ?_) (a' := ?_) #[true, true, true, false, true, true, false, false, false, false, false] rfl rfl (any_of HT_.out (by kernel_rfl)) (fun _ _ _ h => h) (Or.inl ⟨by rfl, ?_⟩) ?_ ?_
                   rotate_left
                   ·intro w'
                    go_simp
                    with_reducible rfl
                   rotate_left
                   ·simp only [Act.put, List.setIfInBounds_toArray, List.set_cons_zero, List.set_cons_succ, i64_w, i32_w]
                    rfl
                   refine pure_ (i := 6) (N := some 124) (v := ?_) (a' := ?_) #[true, true, true, false, true, true, true, false, false, false, false] rfl rfl (any_of HT_.out (by kernel_rfl)) (fun _ _ _ h => h) (Or.inl ⟨by rfl, ?_⟩) ?_ ?_
                   rotate_left
                   ·intro w'
                    go_simp
                    with_reducible rfl
                   rotate_left
                   ·simp only [Act.put, List.setIfInBounds_toArray, List.set_cons_zero, List.set_cons_succ, i64_w, i32_w]
                    rfl
                   refine pure_ (i := 8) (N := some 126) (v := ?_) (a' := ?_) #[true, true, true, false, true, true, true, false, true, false, false] rfl rfl (any_of HT_.out (by kernel_rfl)) (fun _ _ _ h => h) (Or.inl ⟨by rfl, ?_⟩) ?_ ?_
                   rotate_left
                   ·intro w'
                    go_simp
                    with_reducible rfl
                   rotate_left
                   ·simp only [Act.put, List.setIfInBounds_toArray, List.set_cons_zero, List.set_cons_succ, i64_w, i32_w]
                    rfl
                   refine take_ (i := 3) (N := some 121) (v := ?_) (a' := ?_) #[true, true, true, true, true, true, true, false, true, false, false] rfl rfl (take_ofW HT_.out HW_.out (by kernel_rfl)) (fun _ _ _ h => h) (Or.inl ⟨by rfl, ?_⟩) hHeld ?_ ?_
                   rotate_left
                   ·rintro w' ⟨s0, s1⟩
                    go_simp
                    with_reducible rfl
                   rotate_left
                   ·simp only [Act.put, List.setIfInBounds_toArray, List.set_cons_zero, List.set_cons_succ, i64_w, i32_w]
                    rfl
                   refine take_ (i := 7) (N := some 125) (v := ?_) (a' := ?_) #[true, true, true, true, true, true, true, true, true, false, false] rfl rfl (take_ofW HT_.out HW_.out (by kernel_rfl)) (fun _ _ _ h => h) (Or.inl ⟨by rfl, ?_⟩) hHeld ?_ ?_
                   rotate_left
                   ·rintro w' ⟨s0, s1⟩
                    go_simp
                    with_reducible rfl
                   rotate_left
                   ·simp only [Act.put, List.setIfInBounds_toArray, List.set_cons_zero, List.set_cons_succ, i64_w, i32_w]
                    rfl
                   refine pure_ (i := 9) (N := some 127) (v := ?_) (a' := ?_) #[true, true, true, true, true, true, true, true, true, true, false] rfl rfl (any_of HT_.out (by kernel_rfl)) (fun _ _ _ h => h) (Or.inl ⟨by rfl, ?_⟩) ?_ ?_
                   rotate_left
                   ·intro w'
                    go_simp
                    with_reducible rfl
                   rotate_left
                   ·simp only [Act.put, List.setIfInBounds_toArray, List.set_cons_zero, List.set_cons_succ, i64_w, i32_w]
                    rfl
                   refine pure_ (i := 10) (N := some 128) (v := ?_) (a' := ?_) #[true, true, true, true, true, true, true, true, true, true, true] rfl rfl (any_of HT_.out (by kernel_rfl)) (fun _ _ _ h => h) (Or.inl ⟨by rfl, ?_⟩) ?_ ?_
                   rotate_left
                   ·intro w'
                    go_simp
                    with_reducible rfl
                   rotate_left
                   ·simp only [Act.put, List.setIfInBounds_toArray, List.set_cons_zero, List.set_cons_succ, i64_w, i32_w]
                    rfl
                   refine done_ (done_of HT_.out (by kernel_rfl)) ?_
                   try go_wp2
                   go_roundg kj39
                   case measure => have := HJ8.out; have := HJ21.out; have := HK3.out; have := HJ39.out; omega
                   case rel => exact ⟨(wrap64 (x20_3 + 1)), (by first | rfl | (simp; done) | (simp [*]; done)), H', ⟨by have := HJ8.out; have := HJ21.out; have := HK3.out; have := HJ39.out; omega⟩, ⟨by (with_reducible repeat (first | apply Kd.R_alloc | apply Kd.R_drewN | apply Kd.R_drew)); exact HO_12.out⟩, ⟨by (with_reducible repeat (first | apply Kd.R_alloc | apply Kd.R_drewN | apply Kd.R_drew)); exact HO_14.out⟩, ⟨by (with_reducible repeat (first | apply Kd.R_alloc | apply Kd.R_drewN | apply Kd.R_drew)); exact HO_16.out⟩, ⟨by (with_reducible repeat (first | apply Kd.R_alloc | apply Kd.R_drewN | apply Kd.R_drew)); exact HO_18.out⟩, ⟨by (with_reducible repeat (first | refine blk_drewN ?_ _ | refine blk_drew ?_ | refine blk_alloc ?_ _)); exact BK356.out⟩, ⟨by repeat (first | (with_reducible first | exact HB.out | apply below_alloc | apply pw_below_drewN | apply below_drew1 | refine below_set ?_ GE356.out) | exact HB.out)⟩⟩
                  ·rw [if_neg c47] at H
                   have c47b0 : ((rd t370 x20_3) == (wrap64 ((rd t358 x20_3) + (wrap64 (x21_39 - (Go.bits .and .i64 a4 7)))))) = false := beq_eq_false_iff_ne.mpr c47
                   have c47b1 : ((rd t370 x20_3) != (wrap64 ((rd t358 x20_3) + (wrap64 (x21_39 - (Go.bits .and .i64 a4 7)))))) = true := bne_iff_ne.mpr c47
                   obtain rfl := Option.some.inj H
                   try go_wp2
                   have n0_ := Aside0.mk (Kd.R_drew HO_12.out)
                   have n1_ := Aside0.mk (Kd.R_drew HO_14.out)
                   have n2_ := Aside0.mk (Kd.R_drew HO_16.out)
                   have n3_ := Aside0.mk (Kd.R_drew HO_18.out)
                   have n4_ := Aside0.mk (blk_drew BK356.out)
                   have n5_ := Aside0.mk (below_drew1 HB.out)
                   clear HO_12
                   clear HO_14
                   clear HO_16
                   clear HO_18
                   clear BK356
                   clear HB
                   have HO_12 := n0_
                   have HO_14 := n1_
                   have HO_16 := n2_
                   have HO_18 := n3_
                   have BK356 := n4_
                   have HB := n5_
                   clear n0_ n1_ n2_ n3_ n4_ n5_
                   obtain ⟨Ao52, co52, eo52⟩ := Kd.R_slice HO_18.out
                   (first | subst eo52 | (injection eo52 with f1_ f2_ f3_; have f4_ := f1_.symm; have f5_ := f3_.symm; clear f1_ f2_ f3_; subst f4_; subst f5_))
                   have p374 : 0 ≤ (x20_3 : Int) := of_decide_eq_true (by first | (with_reducible assumption) | assumption)
                   have q374 : x20_3 < (t370.length : Int) := of_decide_eq_true (by first | (with_reducible assumption) | assumption)
                   obtain ⟨ad374, e374, hx374_0⟩ := Kd.at_int (Kd.R_reads' HO_18.out).2.2 x20_3 p374 q374
                   cases e374
                   replace p374 := eq_true p374
                   replace q374 := eq_true q374
                   obtain ⟨Ao53, co53, eo53⟩ := Kd.R_slice HO_12.out
                   (first | subst eo53 | (injection eo53 with f1_ f2_ f3_; have f4_ := f1_.symm; have f5_ := f3_.symm; clear f1_ f2_ f3_; subst f4_; subst f5_))
                   have p375 : 0 ≤ (x20_3 : Int) := of_decide_eq_true (by first | (with_reducible assumption) | assumption)
                   have q375 : x20_3 < (t358.length : Int) := of_decide_eq_true (by first | (with_reducible assumption) | assumption)
                   obtain ⟨ad375, e375, hx375_0⟩ := Kd.at_int (Kd.R_reads' HO_12.out).2.2 x20_3 p375 q375
                   cases e375
                   replace p375 := eq_true p375
                   replace q375 := eq_true q375
                   refine start_ (n := 11) (S := fun w' => w'.cell? (ad374.add (x20_3).toNat) = some (.int .i64 (rd t370 x20_3)) ∧ w'.cell? (ad375.add (x20_3).toNat) = some (.int .i64 (rd t358 x20_3))) (ds := []) #[false, false, false, false, false, false, false, false, false, false, false] (by kernel_rfl) rfl rfl ⟨hx374_0, hx375_0⟩ (fun hHeld => ?_); refine with_tabW ebbtidelaw07_StaticTrails.tab23 ebbtidelaw07_StaticTrails.bits23 (fun HT_ HW_ => ?_)
                   generalize wc.drew = w51 at HO_12 HO_14 HO_16 HO_18 BK356 HB hx374_0 hx375_0 hHeld ⊢
                   refine pure_ (i := 0) (N := some 118) (v := ?_) (a' := ?_) #[true, false, false, false, false, false, false, false, false, false, false] rfl rfl (any_of HT_.out (by kernel_rfl)) (fun _ _ _ h => h) (Or.inl ⟨by rfl, ?_⟩) ?_ ?_
                   rotate_left
                   ·intro w'
                    go_simp
                    with_reducible rfl
                   rotate_left
                   ·simp only [Act.put, List.setIfInBounds_toArray, List.set_cons_zero, List.set_cons_succ, i64_w, i32_w]
                    rfl
                   refine pure_ (i := 1) (N := some 119) (v := ?_) (a' := ?_) #[true, true, false, false, false, false, false, false, false, false, false] rfl rfl (any_of HT_.out (by kernel_rfl)) (fun _ _ _ h => h) (Or.inl ⟨by rfl, ?_⟩) ?_ ?_
                   rotate_left
                   ·intro w'
                    go_simp
                    with_reducible rfl
                   rotate_left
                   ·simp only [Act.put, List.setIfInBounds_toArray, List.set_cons_zero, List.set_cons_succ, i64_w, i32_w]
                    rfl
                   refine pure_ (i := 2) (N := some 120) (v := ?_) (a' := ?_) #[true, true, true, false, false, false, false, false, false, false, false] rfl rfl (any_of HT_.out (by kernel_rfl)) (fun _ _ _ h => h) (Or.inl ⟨by rfl, ?_⟩) ?_ ?_
                   rotate_left
                   ·intro w'
                    go_simp
                    with_reducible rfl
                   rotate_left
                   ·simp only [Act.put, List.setIfInBounds_toArray, List.set_cons_zero, List.set_cons_succ, i64_w, i32_w]
                    rfl
                   refine pure_ (i := 4) (N := some 122) (v := ?_) (a' := ?_) #[true, true, true, false, true, false, false, false, false, false, false] rfl rfl (any_of HT_.out (by kernel_rfl)) (fun _ _ _ h => h) (Or.inl ⟨by rfl, ?_⟩) ?_ ?_
                   rotate_left
                   ·intro w'
                    go_simp
                    with_reducible rfl
                   rotate_left
                   ·simp only [Act.put, List.setIfInBounds_toArray, List.set_cons_zero, List.set_cons_succ, i64_w, i32_w]
                    rfl
                   refine pure_ (i := 5) (N := some 123) (v := ?_) (a' := ?_) #[true, true, true, false, true, true, false, false, false, false, false] rfl rfl (any_of HT_.out (by kernel_rfl)) (fun _ _ _ h => h) (Or.inl ⟨by rfl, ?_⟩) ?_ ?_
                   rotate_left
                   ·intro w'
                    go_simp
                    with_reducible rfl
                   rotate_left
                   ·simp only [Act.put, List.setIfInBounds_toArray, List.set_cons_zero, List.set_cons_succ, i64_w, i32_w]
                    rfl
                   refine pure_ (i := 6) (N := some 124) (v := ?_) (a' := ?_) #[true, true, true, false, true, true, true, false, false, false, false] rfl rfl (any_of HT_.out (by kernel_rfl)) (fun _ _ _ h => h) (Or.inl ⟨by rfl, ?_⟩) ?_ ?_
                   rotate_left
                   ·intro w'
                    go_simp
                    with_reducible rfl
                   rotate_left
                   ·simp only [Act.put, List.setIfInBounds_toArray, List.set_cons_zero, List.set_cons_succ, i64_w, i32_w]
                    rfl
                   refine pure_ (i := 8) (N := some 126) (v := ?_) (a' := ?_) #[true, true, true, false, true, true, true, false, true, false, false] rfl rfl (any_of HT_.out (by kernel_rfl)) (fun _ _ _ h => h) (Or.inl ⟨by rfl, ?_⟩) ?_ ?_
                   rotate_left
                   ·intro w'
                    go_simp
                    with_reducible rfl
                   rotate_left
                   ·simp only [Act.put, List.setIfInBounds_toArray, List.set_cons_zero, List.set_cons_succ, i64_w, i32_w]
                    rfl
                   refine take_ (i := 3) (N := some 121) (v := ?_) (a' := ?_) #[true, true, true, true, true, true, true, false, true, false, false] rfl rfl (take_ofW HT_.out HW_.out (by kernel_rfl)) (fun _ _ _ h => h) (Or.inl ⟨by rfl, ?_⟩) hHeld ?_ ?_
                   rotate_left
                   ·rintro w' ⟨s0, s1⟩
                    go_simp
                    with_reducible rfl
                   rotate_left
                   ·simp only [Act.put, List.setIfInBounds_toArray, List.set_cons_zero, List.set_cons_succ, i64_w, i32_w]
                    rfl
                   refine take_ (i := 7) (N := some 125) (v := ?_) (a' := ?_) #[true, true, true, true, true, true, true, true, true, false, false] rfl rfl (take_ofW HT_.out HW_.out (by kernel_rfl)) (fun _ _ _ h => h) (Or.inl ⟨by rfl, ?_⟩) hHeld ?_ ?_
                   rotate_left
                   ·rintro w' ⟨s0, s1⟩
                    go_simp
                    with_reducible rfl
                   rotate_left
                   ·simp only [Act.put, List.setIfInBounds_toArray, List.set_cons_zero, List.set_cons_succ, i64_w, i32_w]
                    rfl
                   refine pure_ (i := 9) (N := some 127) (v := ?_) (a' := ?_) #[true, true, true, true, true, true, true, true, true, true, false] rfl rfl (any_of HT_.out (by kernel_rfl)) (fun _ _ _ h => h) (Or.inl ⟨by rfl, ?_⟩) ?_ ?_
                   rotate_left
                   ·intro w'
                    go_simp
                    with_reducible rfl
                   rotate_left
                   ·simp only [Act.put, List.setIfInBounds_toArray, List.set_cons_zero, List.set_cons_succ, i64_w, i32_w]
                    rfl
                   refine pure_ (i := 10) (N := some 128) (v := ?_) (a' := ?_) #[true, true, true, true, true, true, true, true, true, true, true] rfl rfl (any_of HT_.out (by kernel_rfl)) (fun _ _ _ h => h) (Or.inl ⟨by rfl, ?_⟩) ?_ ?_
                   rotate_left
                   ·intro w'
                    go_simp
                    with_reducible rfl
                   rotate_left
                   ·simp only [Act.put, List.setIfInBounds_toArray, List.set_cons_zero, List.set_cons_succ, i64_w, i32_w]
                    rfl
                   refine done_ (done_of HT_.out (by kernel_rfl)) ?_
                   try go_wp2
                   go_ret
                   exact ⟨by first | rfl | (simp [errW_none, errW_some] <;> rfl) | (simp [*, errW_none, errW_some] <;> rfl), by repeat (first | (with_reducible first | exact HB.out | apply below_alloc | apply pw_below_drewN | apply below_drew1 | refine below_set ?_ GE356.out) | exact HB.out)⟩
                 ·rw [if_neg c46] at H
                  exact absurd H (by simp)
                ·rw [if_neg c45] at H
                 exact absurd H (by simp)
               ·rw [if_neg c44] at H
                exact absurd H (by simp)
              ·rw [if_neg c43] at H
               have c43b0 : (x20_3 == t365) = false := beq_eq_false_iff_ne.mpr c43
               have c43b1 : (x20_3 != t365) = true := bne_iff_ne.mpr c43
               by_cases c54 : 0 ≤ x20_3
               ·rw [if_pos c54] at H
                have c54b0 : decide (0 ≤ x20_3) = true := decide_eq_true c54
                clear c54
                by_cases c55 : x20_3 < (t370.length : Int)
                ·rw [if_pos c55] at H
                 have c55b0 : decide (x20_3 < (t370.length : Int)) = true := decide_eq_true c55
                 clear c55
                 by_cases c56 : x20_3 < (t358.length : Int)
                 ·rw [if_pos c56] at H
                  have c56b0 : decide (x20_3 < (t358.length : Int)) = true := decide_eq_true c56
                  clear c56
                  by_cases c57 : (rd t370 x20_3) = (wrap64 ((rd t358 x20_3) + x21_39))
                  ·rw [if_pos c57] at H
                   have c57b0 : ((rd t370 x20_3) == (wrap64 ((rd t358 x20_3) + x21_39))) = true := beq_iff_eq.mpr c57
                   have c57b1 : ((rd t370 x20_3) != (wrap64 ((rd t358 x20_3) + x21_39))) = false := bne_eq_false_iff_eq.mpr c57
                   clear c57
                   have H' := Aside0.mk H
                   clear H
                   try go_wp2
                   have n0_ := Aside0.mk (Kd.R_drew HO_12.out)
                   have n1_ := Aside0.mk (Kd.R_drew HO_14.out)
                   have n2_ := Aside0.mk (Kd.R_drew HO_16.out)
                   have n3_ := Aside0.mk (Kd.R_drew HO_18.out)
                   have n4_ := Aside0.mk (blk_drew BK356.out)
                   have n5_ := Aside0.mk (below_drew1 HB.out)
                   clear HO_12
                   clear HO_14
                   clear HO_16
                   clear HO_18
                   clear BK356
                   clear HB
                   have HO_12 := n0_
                   have HO_14 := n1_
                   have HO_16 := n2_
                   have HO_18 := n3_
                   have BK356 := n4_
                   have HB := n5_
                   clear n0_ n1_ n2_ n3_ n4_ n5_
                   obtain ⟨Ao59, co59, eo59⟩ := Kd.R_slice HO_18.out
                   (first | subst eo59 | (injection eo59 with f1_ f2_ f3_; have f4_ := f1_.symm; have f5_ := f3_.symm; clear f1_ f2_ f3_; subst f4_; subst f5_))
                   have p376 : 0 ≤ (x20_3 : Int) := of_decide_eq_true (by first | (with_reducible assumption) | assumption)
                   have q376 : x20_3 < (t370.length : Int) := of_decide_eq_true (by first | (with_reducible assumption) | assumption)
                   obtain ⟨ad376, e376, hx376_0⟩ := Kd.at_int (Kd.R_reads' HO_18.out).2.2 x20_3 p376 q376
                   cases e376
                   replace p376 := eq_true p376
                   replace q376 := eq_true q376
                   obtain ⟨Ao60, co60, eo60⟩ := Kd.R_slice HO_12.out
                   (first | subst eo60 | (injection eo60 with f1_ f2_ f3_; have f4_ := f1_.symm; have f5_ := f3_.symm; clear f1_ f2_ f3_; subst f4_; subst f5_))
                   have p377 : 0 ≤ (x20_3 : Int) := of_decide_eq_true (by first | (with_reducible assumption) | assumption)
                   have q377 : x20_3 < (t358.length : Int) := of_decide_eq_true (by first | (with_reducible assumption) | assumption)
                   obtain ⟨ad377, e377, hx377_0⟩ := Kd.at_int (Kd.R_reads' HO_12.out).2.2 x20_3 p377 q377
                   cases e377
                   replace p377 := eq_true p377
                   replace q377 := eq_true q377
                   refine start_ (n := 11) (S := fun w' => w'.cell? (ad376.add (x20_3).toNat) = some (.int .i64 (rd t370 x20_3)) ∧ w'.cell? (ad377.add (x20_3).toNat) = some (.int .i64 (rd t358 x20_3))) (ds := []) #[false, false, false, false, false, false, false, false, false, false, false] (by kernel_rfl) rfl rfl ⟨hx376_0, hx377_0⟩ (fun hHeld => ?_); refine with_tabW ebbtidelaw07_StaticTrails.tab23 ebbtidelaw07_StaticTrails.bits23 (fun HT_ HW_ => ?_)
                   generalize wc.drew = w58 at HO_12 HO_14 HO_16 HO_18 BK356 HB hx376_0 hx377_0 hHeld ⊢
                   refine pure_ (i := 0) (N := some 118) (v := ?_) (a' := ?_) #[true, false, false, false, false, false, false, false, false, false, false] rfl rfl (any_of HT_.out (by kernel_rfl)) (fun _ _ _ h => h) (Or.inl ⟨by rfl, ?_⟩) ?_ ?_
                   rotate_left
                   ·intro w'
                    go_simp
                    with_reducible rfl
                   rotate_left
                   ·simp only [Act.put, List.setIfInBounds_toArray, List.set_cons_zero, List.set_cons_succ, i64_w, i32_w]
                    rfl
                   refine pure_ (i := 1) (N := some 119) (v := ?_) (a' := ?_) #[true, true, false, false, false, false, false, false, false, false, false] rfl rfl (any_of HT_.out (by kernel_rfl)) (fun _ _ _ h => h) (Or.inl ⟨by rfl, ?_⟩) ?_ ?_
                   rotate_left
                   ·intro w'
                    go_simp
                    with_reducible rfl
                   rotate_left
                   ·simp only [Act.put, List.setIfInBounds_toArray, List.set_cons_zero, List.set_cons_succ, i64_w, i32_w]
                    rfl
                   refine pure_ (i := 2) (N := some 120) (v := ?_) (a' := ?_) #[true, true, true, false, false, false, false, false, false, false, false] rfl rfl (any_of HT_.out (by kernel_rfl)) (fun _ _ _ h => h) (Or.inl ⟨by rfl, ?_⟩) ?_ ?_
                   rotate_left
                   ·intro w'
                    go_simp
                    with_reducible rfl
                   rotate_left
                   ·simp only [Act.put, List.setIfInBounds_toArray, List.set_cons_zero, List.set_cons_succ, i64_w, i32_w]
                    rfl
                   refine pure_ (i := 4) (N := some 122) (v := ?_) (a' := ?_) #[true, true, true, false, true, false, false, false, false, false, false] rfl rfl (any_of HT_.out (by kernel_rfl)) (fun _ _ _ h => h) (Or.inl ⟨by rfl, ?_⟩) ?_ ?_
                   rotate_left
                   ·intro w'
                    go_simp
                    with_reducible rfl
                   rotate_left
                   ·simp only [Act.put, List.setIfInBounds_toArray, List.set_cons_zero, List.set_cons_succ, i64_w, i32_w]
                    rfl
                   refine pure_ (i := 5) (N := some 123) (v := ?_) (a' := ?_) #[true, true, true, false, true, true, false, false, false, false, false] rfl rfl (any_of HT_.out (by kernel_rfl)) (fun _ _ _ h => h) (Or.inl ⟨by rfl, ?_⟩) ?_ ?_
                   rotate_left
                   ·intro w'
                    go_simp
                    with_reducible rfl
                   rotate_left
                   ·simp only [Act.put, List.setIfInBounds_toArray, List.set_cons_zero, List.set_cons_succ, i64_w, i32_w]
                    rfl
                   refine pure_ (i := 6) (N := some 124) (v := ?_) (a' := ?_) #[true, true, true, false, true, true, true, false, false, false, false] rfl rfl (any_of HT_.out (by kernel_rfl)) (fun _ _ _ h => h) (Or.inl ⟨by rfl, ?_⟩) ?_ ?_
                   rotate_left
                   ·intro w'
                    go_simp
                    with_reducible rfl
                   rotate_left
                   ·simp only [Act.put, List.setIfInBounds_toArray, List.set_cons_zero, List.set_cons_succ, i64_w, i32_w]
                    rfl
                   refine pure_ (i := 8) (N := some 126) (v := ?_) (a' := ?_) #[true, true, true, false, true, true, true, false, true, false, false] rfl rfl (any_of HT_.out (by kernel_rfl)) (fun _ _ _ h => h) (Or.inl ⟨by rfl, ?_⟩) ?_ ?_
                   rotate_left
                   ·intro w'
                    go_simp
                    with_reducible rfl
                   rotate_left
                   ·simp only [Act.put, List.setIfInBounds_toArray, List.set_cons_zero, List.set_cons_succ, i64_w, i32_w]
                    rfl
                   refine take_ (i := 3) (N := some 121) (v := ?_) (a' := ?_) #[true, true, true, true, true, true, true, false, true, false, false] rfl rfl (take_ofW HT_.out HW_.out (by kernel_rfl)) (fun _ _ _ h => h) (Or.inl ⟨by rfl, ?_⟩) hHeld ?_ ?_
                   rotate_left
                   ·rintro w' ⟨s0, s1⟩
                    go_simp
                    with_reducible rfl
                   rotate_left
                   ·simp only [Act.put, List.setIfInBounds_toArray, List.set_cons_zero, List.set_cons_succ, i64_w, i32_w]
                    rfl
                   refine take_ (i := 7) (N := some 125) (v := ?_) (a' := ?_) #[true, true, true, true, true, true, true, true, true, false, false] rfl rfl (take_ofW HT_.out HW_.out (by kernel_rfl)) (fun _ _ _ h => h) (Or.inl ⟨by rfl, ?_⟩) hHeld ?_ ?_
                   rotate_left
                   ·rintro w' ⟨s0, s1⟩
                    go_simp
                    with_reducible rfl
                   rotate_left
                   ·simp only [Act.put, List.setIfInBounds_toArray, List.set_cons_zero, List.set_cons_succ, i64_w, i32_w]
                    rfl
                   refine pure_ (i := 9) (N := some 127) (v := ?_) (a' := ?_) #[true, true, true, true, true, true, true, true, true, true, false] rfl rfl (any_of HT_.out (by kernel_rfl)) (fun _ _ _ h => h) (Or.inl ⟨by rfl, ?_⟩) ?_ ?_
                   rotate_left
                   ·intro w'
                    go_simp
                    with_reducible rfl
                   rotate_left
                   ·simp only [Act.put, List.setIfInBounds_toArray, List.set_cons_zero, List.set_cons_succ, i64_w, i32_w]
                    rfl
                   refine pure_ (i := 10) (N := some 128) (v := ?_) (a' := ?_) #[true, true, true, true, true, true, true, true, true, true, true] rfl rfl (any_of HT_.out (by kernel_rfl)) (fun _ _ _ h => h) (Or.inl ⟨by rfl, ?_⟩) ?_ ?_
                   rotate_left
                   ·intro w'
                    go_simp
                    with_reducible rfl
                   rotate_left
                   ·simp only [Act.put, List.setIfInBounds_toArray, List.set_cons_zero, List.set_cons_succ, i64_w, i32_w]
                    rfl
                   refine done_ (done_of HT_.out (by kernel_rfl)) ?_
                   try go_wp2
                   go_roundg kj39
                   case measure => have := HJ8.out; have := HJ21.out; have := HK3.out; have := HJ39.out; omega
                   case rel => exact ⟨(wrap64 (x20_3 + 1)), (by first | rfl | (simp; done) | (simp [*]; done)), H', ⟨by have := HJ8.out; have := HJ21.out; have := HK3.out; have := HJ39.out; omega⟩, ⟨by (with_reducible repeat (first | apply Kd.R_alloc | apply Kd.R_drewN | apply Kd.R_drew)); exact HO_12.out⟩, ⟨by (with_reducible repeat (first | apply Kd.R_alloc | apply Kd.R_drewN | apply Kd.R_drew)); exact HO_14.out⟩, ⟨by (with_reducible repeat (first | apply Kd.R_alloc | apply Kd.R_drewN | apply Kd.R_drew)); exact HO_16.out⟩, ⟨by (with_reducible repeat (first | apply Kd.R_alloc | apply Kd.R_drewN | apply Kd.R_drew)); exact HO_18.out⟩, ⟨by (with_reducible repeat (first | refine blk_drewN ?_ _ | refine blk_drew ?_ | refine blk_alloc ?_ _)); exact BK356.out⟩, ⟨by repeat (first | (with_reducible first | exact HB.out | apply below_alloc | apply pw_below_drewN | apply below_drew1 | refine below_set ?_ GE356.out) | exact HB.out)⟩⟩
                  ·rw [if_neg c57] at H
                   have c57b0 : ((rd t370 x20_3) == (wrap64 ((rd t358 x20_3) + x21_39))) = false := beq_eq_false_iff_ne.mpr c57
                   have c57b1 : ((rd t370 x20_3) != (wrap64 ((rd t358 x20_3) + x21_39))) = true := bne_iff_ne.mpr c57
                   obtain rfl := Option.some.inj H
                   try go_wp2
                   have n0_ := Aside0.mk (Kd.R_drew HO_12.out)
                   have n1_ := Aside0.mk (Kd.R_drew HO_14.out)
                   have n2_ := Aside0.mk (Kd.R_drew HO_16.out)
                   have n3_ := Aside0.mk (Kd.R_drew HO_18.out)
                   have n4_ := Aside0.mk (blk_drew BK356.out)
                   have n5_ := Aside0.mk (below_drew1 HB.out)
                   clear HO_12
                   clear HO_14
                   clear HO_16
                   clear HO_18
                   clear BK356
                   clear HB
                   have HO_12 := n0_
                   have HO_14 := n1_
                   have HO_16 := n2_
                   have HO_18 := n3_
                   have BK356 := n4_
                   have HB := n5_
                   clear n0_ n1_ n2_ n3_ n4_ n5_
                   obtain ⟨Ao62, co62, eo62⟩ := Kd.R_slice HO_18.out
                   (first | subst eo62 | (injection eo62 with f1_ f2_ f3_; have f4_ := f1_.symm; have f5_ := f3_.symm; clear f1_ f2_ f3_; subst f4_; subst f5_))
                   have p376 : 0 ≤ (x20_3 : Int) := of_decide_eq_true (by first | (with_reducible assumption) | assumption)
                   have q376 : x20_3 < (t370.length : Int) := of_decide_eq_true (by first | (with_reducible assumption) | assumption)
                   obtain ⟨ad376, e376, hx376_0⟩ := Kd.at_int (Kd.R_reads' HO_18.out).2.2 x20_3 p376 q376
                   cases e376
                   replace p376 := eq_true p376
                   replace q376 := eq_true q376
                   obtain ⟨Ao63, co63, eo63⟩ := Kd.R_slice HO_12.out
                   (first | subst eo63 | (injection eo63 with f1_ f2_ f3_; have f4_ := f1_.symm; have f5_ := f3_.symm; clear f1_ f2_ f3_; subst f4_; subst f5_))
                   have p377 : 0 ≤ (x20_3 : Int) := of_decide_eq_true (by first | (with_reducible assumption) | assumption)
                   have q377 : x20_3 < (t358.length : Int) := of_decide_eq_true (by first | (with_reducible assumption) | assumption)
                   obtain ⟨ad377, e377, hx377_0⟩ := Kd.at_int (Kd.R_reads' HO_12.out).2.2 x20_3 p377 q377
                   cases e377
                   replace p377 := eq_true p377
                   replace q377 := eq_true q377
                   refine start_ (n := 11) (S := fun w' => w'.cell? (ad376.add (x20_3).toNat) = some (.int .i64 (rd t370 x20_3)) ∧ w'.cell? (ad377.add (x20_3).toNat) = some (.int .i64 (rd t358 x20_3))) (ds := []) #[false, false, false, false, false, false, false, false, false, false, false] (by kernel_rfl) rfl rfl ⟨hx376_0, hx377_0⟩ (fun hHeld => ?_); refine with_tabW ebbtidelaw07_StaticTrails.tab23 ebbtidelaw07_StaticTrails.bits23 (fun HT_ HW_ => ?_)
                   generalize wc.drew = w61 at HO_12 HO_14 HO_16 HO_18 BK356 HB hx376_0 hx377_0 hHeld ⊢
                   refine pure_ (i := 0) (N := some 118) (v := ?_) (a' := ?_) #[true, false, false, false, false, false, false, false, false, false, false] rfl rfl (any_of HT_.out (by kernel_rfl)) (fun _ _ _ h => h) (Or.inl ⟨by rfl, ?_⟩) ?_ ?_
                   rotate_left
                   ·intro w'
                    go_simp
                    with_reducible rfl
                   rotate_left
                   ·simp only [Act.put, List.setIfInBounds_toArray, List.set_cons_zero, List.set_cons_succ, i64_w, i32_w]
                    rfl
                   refine pure_ (i := 1) (N := some 119) (v := ?_) (a' := ?_) #[true, true, false, false, false, false, false, false, false, false, false] rfl rfl (any_of HT_.out (by kernel_rfl)) (fun _ _ _ h => h) (Or.inl ⟨by rfl, ?_⟩) ?_ ?_
                   rotate_left
                   ·intro w'
                    go_simp
                    with_reducible rfl
                   rotate_left
                   ·simp only [Act.put, List.setIfInBounds_toArray, List.set_cons_zero, List.set_cons_succ, i64_w, i32_w]
                    rfl
                   refine pure_ (i := 2) (N := some 120) (v := ?_) (a' := ?_) #[true, true, true, false, false, false, false, false, false, false, false] rfl rfl (any_of HT_.out (by kernel_rfl)) (fun _ _ _ h => h) (Or.inl ⟨by rfl, ?_⟩) ?_ ?_
                   rotate_left
                   ·intro w'
                    go_simp
                    with_reducible rfl
                   rotate_left
                   ·simp only [Act.put, List.setIfInBounds_toArray, List.set_cons_zero, List.set_cons_succ, i64_w, i32_w]
                    rfl
                   refine pure_ (i := 4) (N := some 122) (v := ?_) (a' := ?_) #[true, true, true, false, true, false, false, false, false, false, false] rfl rfl (any_of HT_.out (by kernel_rfl)) (fun _ _ _ h => h) (Or.inl ⟨by rfl, ?_⟩) ?_ ?_
                   rotate_left
                   ·intro w'
                    go_simp
                    with_reducible rfl
                   rotate_left
                   ·simp only [Act.put, List.setIfInBounds_toArray, List.set_cons_zero, List.set_cons_succ, i64_w, i32_w]
                    rfl
                   refine pure_ (i := 5) (N := some 123) (v := ?_) (a' := ?_) #[true, true, true, false, true, true, false, false, false, false, false] rfl rfl (any_of HT_.out (by kernel_rfl)) (fun _ _ _ h => h) (Or.inl ⟨by rfl, ?_⟩) ?_ ?_
                   rotate_left
                   ·intro w'
                    go_simp
                    with_reducible rfl
                   rotate_left
                   ·simp only [Act.put, List.setIfInBounds_toArray, List.set_cons_zero, List.set_cons_succ, i64_w, i32_w]
                    rfl
                   refine pure_ (i := 6) (N := some 124) (v := ?_) (a' := ?_) #[true, true, true, false, true, true, true, false, false, false, false] rfl rfl (any_of HT_.out (by kernel_rfl)) (fun _ _ _ h => h) (Or.inl ⟨by rfl, ?_⟩) ?_ ?_
                   rotate_left
                   ·intro w'
                    go_simp
                    with_reducible rfl
                   rotate_left
                   ·simp only [Act.put, List.setIfInBounds_toArray, List.set_cons_zero, List.set_cons_succ, i64_w, i32_w]
                    rfl
                   refine pure_ (i := 8) (N := some 126) (v := ?_) (a' := ?_) #[true, true, true, false, true, true, true, false, true, false, false] rfl rfl (any_of HT_.out (by kernel_rfl)) (fun _ _ _ h => h) (Or.inl ⟨by rfl, ?_⟩) ?_ ?_
                   rotate_left
                   ·intro w'
                    go_simp
                    with_reducible rfl
                   rotate_left
                   ·simp only [Act.put, List.setIfInBounds_toArray, List.set_cons_zero, List.set_cons_succ, i64_w, i32_w]
                    rfl
                   refine take_ (i := 3) (N := some 121) (v := ?_) (a' := ?_) #[true, true, true, true, true, true, true, false, true, false, false] rfl rfl (take_ofW HT_.out HW_.out (by kernel_rfl)) (fun _ _ _ h => h) (Or.inl ⟨by rfl, ?_⟩) hHeld ?_ ?_
                   rotate_left
                   ·rintro w' ⟨s0, s1⟩
                    go_simp
                    with_reducible rfl
                   rotate_left
                   ·simp only [Act.put, List.setIfInBounds_toArray, List.set_cons_zero, List.set_cons_succ, i64_w, i32_w]
                    rfl
                   refine take_ (i := 7) (N := some 125) (v := ?_) (a' := ?_) #[true, true, true, true, true, true, true, true, true, false, false] rfl rfl (take_ofW HT_.out HW_.out (by kernel_rfl)) (fun _ _ _ h => h) (Or.inl ⟨by rfl, ?_⟩) hHeld ?_ ?_
                   rotate_left
                   ·rintro w' ⟨s0, s1⟩
                    go_simp
                    with_reducible rfl
                   rotate_left
                   ·simp only [Act.put, List.setIfInBounds_toArray, List.set_cons_zero, List.set_cons_succ, i64_w, i32_w]
                    rfl
                   refine pure_ (i := 9) (N := some 127) (v := ?_) (a' := ?_) #[true, true, true, true, true, true, true, true, true, true, false] rfl rfl (any_of HT_.out (by kernel_rfl)) (fun _ _ _ h => h) (Or.inl ⟨by rfl, ?_⟩) ?_ ?_
                   rotate_left
                   ·intro w'
                    go_simp
                    with_reducible rfl
                   rotate_left
                   ·simp only [Act.put, List.setIfInBounds_toArray, List.set_cons_zero, List.set_cons_succ, i64_w, i32_w]
                    rfl
                   refine pure_ (i := 10) (N := some 128) (v := ?_) (a' := ?_) #[true, true, true, true, true, true, true, true, true, true, true] rfl rfl (any_of HT_.out (by kernel_rfl)) (fun _ _ _ h => h) (Or.inl ⟨by rfl, ?_⟩) ?_ ?_
                   rotate_left
                   ·intro w'
                    go_simp
                    with_reducible rfl
                   rotate_left
                   ·simp only [Act.put, List.setIfInBounds_toArray, List.set_cons_zero, List.set_cons_succ, i64_w, i32_w]
                    rfl
                   refine done_ (done_of HT_.out (by kernel_rfl)) ?_
                   try go_wp2
                   go_ret
                   exact ⟨by first | rfl | (simp [errW_none, errW_some] <;> rfl) | (simp [*, errW_none, errW_some] <;> rfl), by repeat (first | (with_reducible first | exact HB.out | apply below_alloc | apply pw_below_drewN | apply below_drew1 | refine below_set ?_ GE356.out) | exact HB.out)⟩
                 ·rw [if_neg c56] at H
                  exact absurd H (by simp)
                ·rw [if_neg c55] at H
                 exact absurd H (by simp)
               ·rw [if_neg c54] at H
                exact absurd H (by simp)
           ·rw [if_neg c39] at H
            have c39b0 : decide (x20_3 < a0_0) = false := decide_eq_false c39
            clear c39
            have H' := Aside0.mk H
            clear H
            have hcz64_0 : wr.cell? ⟨gb356, 0, none⟩ = some (.int .i64 a0_0) := (blk_cell BK356.out 0).trans rfl
            have hcz64_1 : wr.cell? ⟨gb356, 1, none⟩ = some (.bool a0_1) := (blk_cell BK356.out 1).trans rfl
            have hcz64_2 : wr.cell? ⟨gb356, 2, none⟩ = some (.slice A0_2 l0_2.length c0_2) := (blk_cell BK356.out 2).trans rfl
            have hfz64_0 := blk_frozen BK356.out 0
            have hfz64_1 := blk_frozen BK356.out 1
            have hfz64_2 := blk_frozen BK356.out 2
            go_wp2
            go_loopg [22, 23] k3 (fun kq v22 v23 w' => ∃ (x22_4 : List (S41)) (x23_4 : Int), v23 = .int .i64 x23_4 ∧ Aside0 (ebbtidelaw07_StaticTrails.l1 kq l1 (Go.bits .and .i64 a4 7) true t362 t366 x22_4 x23_4 a0_0 a0_1 l0_2 = some r) ∧ Aside0 (kq ≤ k3) ∧ Aside0 (Kd.R k41 41 w' w.heap.size (fun k_ => some k_ ≠ (v22 : Value).ownBlock) (.slice Ao26 t362.length co26) t362) ∧ Aside0 (Kd.R (Kd.int .i64) 3 w' w.heap.size (fun _ => True) (.slice Ao29 t366.length co29) t366) ∧ Aside0 (Kd.R k41 41 w' w.heap.size (fun k_ => some k_ ≠ ((.slice Ao26 t362.length co26) : Value).ownBlock) v22 x22_4) ∧ Aside0 (w'.heap[gb356]? = some (.cells #[.int .i64 a0_0, .bool a0_1, (.slice A0_2 l0_2.length c0_2)] 24 (0, 0))) ∧ Aside0 (Below w.heap.size w w'))
            case atStart => exact ⟨(([] : List (S41))), (wrap64 ((t362.length : Int) - 1)), (by first | rfl | (simp; done) | (simp [*]; done)), H', ⟨Nat.le_refl _⟩, ⟨by (with_reducible repeat (first | apply Kd.R_alloc | apply Kd.R_drewN | apply Kd.R_drew)); exact Kd.R_mono HO_14.out (fun _ hk => (by simp [Value.ownBlock]))⟩, ⟨by (with_reducible repeat (first | apply Kd.R_alloc | apply Kd.R_drewN | apply Kd.R_drew)); exact Kd.R_mono HO_16.out (fun _ hk => trivial)⟩, ⟨by first | exact Kd.R_nil _ _ _ _ _ | exact Kd.N_nil _ _ _ _ _ | exact Kd.V_nil _ _ _ _ _ | exact Kd.Q_nil _ _ _ _ _ | exact Kd.S_nil _ _ _ _ _⟩, ⟨by (with_reducible repeat (first | refine blk_drewN ?_ _ | refine blk_drew ?_ | refine blk_alloc ?_ _)); exact BK356.out⟩, ⟨by repeat (first | (with_reducible first | exact HB.out | apply below_alloc | apply pw_below_drewN | apply below_drew1 | refine below_set ?_ GE356.out) | exact HB.out)⟩⟩
            case round =>
             clear H'
             try clear p2
             try clear c3
             try clear p3
             try clear q3
             try clear hx3
             try clear c4
             try clear c5
             try clear p6
             try clear p37
             try clear q37
             try clear hx37
             try clear c39
             try clear c39b0
             try clear c43
             try clear c43b0
             try clear c43b1
             try clear c44
             try clear c44b0
             try clear c45
             try clear c45b0
             try clear c46
             try clear c46b0
             try clear c47
             try clear c47b0
             try clear c47b1
             try clear c54
             try clear c54b0
             try clear c55
             try clear c55b0
             try clear c56
             try clear c56b0
             try clear c57
             try clear c57b0
             try clear c57b1
             try clear p64
             try clear hcz64_0
             try clear hcz64_1
             try clear hcz64_2
             try clear hfz64_0
             try clear hfz64_1
             try clear hfz64_2
             try clear hx374_0
             try clear hx375_0
             try clear hx376_0
             try clear hx377_0
             try clear p374
             try clear p375
             try clear p376
             try clear p377
             try clear q374
             try clear q375
             try clear q376
             try clear q377
             obtain ⟨x22_4, x23_4, rfl, HA, HK4, HO_14, HO_16, HO_22, BK356, HB⟩ := hrel
             cases gk with
             | zero => exact absurd HA.out (by simp [ebbtidelaw07_StaticTrails.l1])
             | succ k4 =>
              have H := HA.out
              clear HA
              simp only [ebbtidelaw07_StaticTrails.l1] at H
              by_cases c65 : x23_4 ≥ 0
              ·rw [if_pos c65] at H
               have c65b0 : decide (0 ≤ x23_4) = true := decide_eq_true c65
               clear c65
               by_cases c66 : 0 ≤ x23_4
               ·rw [if_pos c66] at H
                have c66b0 : decide (0 ≤ x23_4) = true := decide_eq_true c66
                clear c66
                by_cases c67 : x23_4 < (t362.length : Int)
                ·rw [if_pos c67] at H
                 have c67b0 : decide (x23_4 < (t362.length : Int)) = true := decide_eq_true c67
                 clear c67
                 by_cases c68 : x22_4.length < 8796093022208
                 ·rw [if_pos c68] at H
                  have LMc68 := Aside0.mk c68
                  clear c68
                  obtain ⟨y380, hy380⟩ : ∃ y_ : List (S41), y_ = (x22_4 ++ [(⟨(rd_T41 t362 x23_4).f0, !((rd_T41 t362 x23_4).f1)⟩ : S41)]) := ⟨_, rfl⟩
                  replace H : (ebbtidelaw07_StaticTrails.l1 k4 l1 (Go.bits .and .i64 a4 7) true t362 t366 y380 (wrap64 (x23_4 - 1)) a0_0 a0_1 l0_2) = some r := by first | (rw [hy380]; with_reducible exact H) | (have H2_ := (Option.bind_some _ _).symm.trans H; rw [hy380]; with_reducible exact H2_) | (have H2_ := (Option.bind_some _ _).symm.trans H; with_reducible exact H2_) | with_reducible exact H | (rw [hy380]; exact H) | exact H
                  have Ny380 := Aside0.mk hy380
                  clear hy380
                  have H' := Aside0.mk H
                  clear H
                  try go_wp2
                  have n0_ := Aside0.mk (Kd.R_drew HO_14.out)
                  have n1_ := Aside0.mk (Kd.R_drew HO_16.out)
                  have n2_ := Aside0.mk (Kd.R_drew HO_22.out)
                  have n3_ := Aside0.mk (blk_drew BK356.out)
                  have n4_ := Aside0.mk (below_drew1 HB.out)
                  clear HO_14
                  clear HO_16
                  clear HO_22
                  clear BK356
                  clear HB
                  have HO_14 := n0_
                  have HO_16 := n1_
                  have HO_22 := n2_
                  have BK356 := n3_
                  have HB := n4_
                  clear n0_ n1_ n2_ n3_ n4_
                  have p378 : 0 ≤ (x23_4 : Int) := of_decide_eq_true (by first | (with_reducible assumption) | assumption)
                  have q378 : x23_4 < (t362.length : Int) := of_decide_eq_true (by first | (with_reducible assumption) | assumption)
                  obtain ⟨ad378, e378, hx378_0, hx378_1⟩ := at_T41 (Kd.R_reads' HO_14.out).2.2 x23_4 p378 q378
                  cases e378
                  replace p378 := eq_true p378
                  replace q378 := eq_true q378
                  have p379 : 0 ≤ (x23_4 : Int) := of_decide_eq_true (by first | (with_reducible assumption) | assumption)
                  have q379 : x23_4 < (t362.length : Int) := of_decide_eq_true (by first | (with_reducible assumption) | assumption)
                  obtain ⟨ad379, e379, hx379_0, hx379_1⟩ := at_T41 (Kd.R_reads' HO_14.out).2.2 x23_4 p379 q379
                  obtain rfl : ad378 = ad379 := (by injection e379)
                  replace p379 := eq_true p379
                  replace q379 := eq_true q379
                  refine start_ (n := 16) (S := fun w' => w'.cell? (ad378.add ((x23_4).toNat * 2)) = some (.int .i64 ((rd_T41 t362 x23_4).f0)) ∧ w'.cell? ⟨(ad378.add ((x23_4).toNat * 2)).block, (ad378.add ((x23_4).toNat * 2)).off + 1, none⟩ = some (.bool ((rd_T41 t362 x23_4).f1)) ∧ w'.cell? (ad378.add ((x23_4).toNat * 2)) = some (.int .i64 ((rd_T41 t362 x23_4).f0)) ∧ w'.cell? ⟨(ad378.add ((x23_4).toNat * 2)).block, (ad378.add ((x23_4).toNat * 2)).off + 1, none⟩ = some (.bool ((rd_T41 t362 x23_4).f1))) (ds := [13, 14]) #[false, false, false, false, false, false, false, false, false, false, false, false, false, false, false, false] (by kernel_rfl) rfl rfl ⟨hx378_0, hx378_1, hx379_0, hx379_1⟩ (fun hHeld => ?_); refine with_tabW ebbtidelaw07_StaticTrails.tab29 ebbtidelaw07_StaticTrails.bits29 (fun HT_ HW_ => ?_)
                  generalize wr.drew = w69 at HO_14 HO_16 HO_22 BK356 HB hx378_0 hx378_1 hx379_0 hx379_1 hHeld ⊢
                  refine pure_ (i := 0) (N := some 136) (v := ?_) (a' := ?_) #[true, false, false, false, false, false, false, false, false, false, false, false, false, false, false, false] rfl rfl (any_of HT_.out (by kernel_rfl)) (fun _ _ _ h => h) (Or.inl ⟨by rfl, ?_⟩) ?_ ?_
                  rotate_left
                  ·intro w'
                   go_simp
                   with_reducible rfl
                  rotate_left
                  ·simp only [Act.put, List.setIfInBounds_toArray, List.set_cons_zero, List.set_cons_succ, i64_w, i32_w]
                   rfl
                  refine pure_ (i := 1) (N := some 137) (v := ?_) (a' := ?_) #[true, true, false, false, false, false, false, false, false, false, false, false, false, false, false, false] rfl rfl (any_of HT_.out (by kernel_rfl)) (fun _ _ _ h => h) (Or.inl ⟨by rfl, ?_⟩) ?_ ?_
                  rotate_left
                  ·intro w'
                   go_simp
                   with_reducible rfl
                  rotate_left
                  ·simp only [Act.put, List.setIfInBounds_toArray, List.set_cons_zero, List.set_cons_succ, i64_w, i32_w]
                   rfl
                  refine pure_ (i := 2) (N := some 138) (v := ?_) (a' := ?_) #[true, true, true, false, false, false, false, false, false, false, false, false, false, false, false, false] rfl rfl (any_of HT_.out (by kernel_rfl)) (fun _ _ _ h => h) (Or.inl ⟨by rfl, ?_⟩) ?_ ?_
                  rotate_left
                  ·intro w'
                   go_simp
                   with_reducible rfl
                  rotate_left
                  ·simp only [Act.put, List.setIfInBounds_toArray, List.set_cons_zero, List.set_cons_succ, i64_w, i32_w]
                   rfl
                  refine pure_ (i := 3) (N := some 139) (v := ?_) (a' := ?_) #[true, true, true, true, false, false, false, false, false, false, false, false, false, false, false, false] rfl rfl (any_of HT_.out (by kernel_rfl)) (fun _ _ _ h => h) (Or.inl ⟨by rfl, ?_⟩) ?_ ?_
                  rotate_left
                  ·intro w'
                   go_simp
                   with_reducible rfl
                  rotate_left
                  ·simp only [Act.put, List.setIfInBounds_toArray, List.set_cons_zero, List.set_cons_succ, i64_w, i32_w]
                   rfl
                  refine pure_ (i := 4) (N := some 140) (v := ?_) (a' := ?_) #[true, true, true, true, true, false, false, false, false, false, false, false, false, false, false, false] rfl rfl (any_of HT_.out (by kernel_rfl)) (fun _ _ _ h => h) (Or.inl ⟨by rfl, ?_⟩) ?_ ?_
                  rotate_left
                  ·intro w'
                   go_simp
                   with_reducible rfl
                  rotate_left
                  ·simp only [Act.put, List.setIfInBounds_toArray, List.set_cons_zero, List.set_cons_succ, i64_w, i32_w]
                   rfl
                  refine pure_ (i := 6) (N := some 142) (v := ?_) (a' := ?_) #[true, true, true, true, true, false, true, false, false, false, false, false, false, false, false, false] rfl rfl (any_of HT_.out (by kernel_rfl)) (fun _ _ _ h => h) (Or.inl ⟨by rfl, ?_⟩) ?_ ?_
                  rotate_left
                  ·intro w'
                   go_simp
                   with_reducible rfl
                  rotate_left
                  ·simp only [Act.put, List.setIfInBounds_toArray, List.set_cons_zero, List.set_cons_succ, i64_w, i32_w]
                   rfl
                  refine pure_ (i := 7) (N := some 143) (v := ?_) (a' := ?_) #[true, true, true, true, true, false, true, true, false, false, false, false, false, false, false, false] rfl rfl (any_of HT_.out (by kernel_rfl)) (fun _ _ _ h => h) (Or.inl ⟨by rfl, ?_⟩) ?_ ?_
                  rotate_left
                  ·intro w'
                   go_simp
                   with_reducible rfl
                  rotate_left
                  ·simp only [Act.put, List.setIfInBounds_toArray, List.set_cons_zero, List.set_cons_succ, i64_w, i32_w]
                   rfl
                  refine pure_ (i := 8) (N := some 144) (v := ?_) (a' := ?_) #[true, true, true, true, true, false, true, true, true, false, false, false, false, false, false, false] rfl rfl (any_of HT_.out (by kernel_rfl)) (fun _ _ _ h => h) (Or.inl ⟨by rfl, ?_⟩) ?_ ?_
                  rotate_left
                  ·intro w'
                   go_simp
                   with_reducible rfl
                  rotate_left
                  ·simp only [Act.put, List.setIfInBounds_toArray, List.set_cons_zero, List.set_cons_succ, i64_w, i32_w]
                   rfl
                  refine pure_ (i := 9) (N := some 145) (v := ?_) (a' := ?_) #[true, true, true, true, true, false, true, true, true, true, false, false, false, false, false, false] rfl rfl (any_of HT_.out (by kernel_rfl)) (fun _ _ _ h => h) (Or.inl ⟨by rfl, ?_⟩) ?_ ?_
                  rotate_left
                  ·intro w'
                   go_simp
                   with_reducible rfl
                  rotate_left
                  ·simp only [Act.put, List.setIfInBounds_toArray, List.set_cons_zero, List.set_cons_succ, i64_w, i32_w]
                   rfl
                  refine take_ (i := 5) (N := some 141) (v := ?_) (a' := ?_) #[true, true, true, true, true, true, true, true, true, true, false, false, false, false, false, false] rfl rfl (take_ofW HT_.out HW_.out (by kernel_rfl)) (fun _ _ _ h => h) (Or.inl ⟨by rfl, ?_⟩) hHeld ?_ ?_
                  rotate_left
                  ·rintro w' ⟨s0, s1, s2, s3⟩
                   go_simp
                   with_reducible rfl
                  rotate_left
                  ·simp only [Act.put, List.setIfInBounds_toArray, List.set_cons_zero, List.set_cons_succ, i64_w, i32_w]
                   rfl
                  refine take_ (i := 10) (N := some 146) (v := ?_) (a' := ?_) #[true, true, true, true, true, true, true, true, true, true, true, false, false, false, false, false] rfl rfl (take_ofW HT_.out HW_.out (by kernel_rfl)) (fun _ _ _ h => h) (Or.inl ⟨by rfl, ?_⟩) hHeld ?_ ?_
                  rotate_left
                  ·rintro w' ⟨s0, s1, s2, s3⟩
                   go_simp
                   with_reducible rfl
                  rotate_left
                  ·simp only [Act.put, List.setIfInBounds_toArray, List.set_cons_zero, List.set_cons_succ, i64_w, i32_w]
                   rfl
                  refine pure_ (i := 11) (N := some 147) (v := ?_) (a' := ?_) #[true, true, true, true, true, true, true, true, true, true, true, true, false, false, false, false] rfl rfl (any_of HT_.out (by kernel_rfl)) (fun _ _ _ h => h) (Or.inl ⟨by rfl, ?_⟩) ?_ ?_
                  rotate_left
                  ·intro w'
                   go_simp
                   with_reducible rfl
                  rotate_left
                  ·simp only [Act.put, List.setIfInBounds_toArray, List.set_cons_zero, List.set_cons_succ, i64_w, i32_w]
                   rfl
                  refine pure_ (i := 12) (N := some 148) (v := ?_) (a' := ?_) #[true, true, true, true, true, true, true, true, true, true, true, true, true, false, false, false] rfl rfl (any_of HT_.out (by kernel_rfl)) (fun _ _ _ h => h) (Or.inl ⟨by rfl, ?_⟩) ?_ ?_
                  rotate_left
                  ·intro w'
                   go_simp
                   with_reducible rfl
                  rotate_left
                  ·simp only [Act.put, List.setIfInBounds_toArray, List.set_cons_zero, List.set_cons_succ, i64_w, i32_w]
                   rfl
                  refine last_ (i := 13) (N := some 149) #[true, true, true, true, true, true, true, true, true, true, true, true, true, true, false, false] rfl rfl (one_of HT_.out (by kernel_rfl)) (by decide) (fun K hK => ?_)
                  refine value_ (w1 := ?_) (v := ?_) (by rfl) rfl ?_ ?_
                  rotate_left 2
                  ·go_simp
                   constructor
                   ·rfl
                   ·rfl
                  refine hK.out _ _ ?_
                  clear hK K
                  refine norm_ (a' := ?_) ?_ ?_
                  rotate_left
                  ·show Act.put _ (some 149) _ = _
                   simp only [Act.put, List.setIfInBounds_toArray, List.set_cons_zero, List.set_cons_succ, i64_w, i32_w]
                   rfl
                  refine last_ (i := 14) (N := some 150) #[true, true, true, true, true, true, true, true, true, true, true, true, true, true, true, false] rfl rfl (one_of HT_.out (by kernel_rfl)) (by decide) (fun K hK => ?_)
                  refine Kd.R_append_step k41 (w0 := w) w.heap.size (by rfl) (.tmp 136) (.tmp 149) 35 41 (.agg #[(.int .i64 0), (.bool false)]) 16 rfl Try.underlying35 info41 rfl (by decide) (by omega) u22 x22_4 (⟨(rd_T41 t362 x23_4).f0, !((rd_T41 t362 x23_4).f1)⟩ : S41) [.int .i64 ((rd_T41 t362 x23_4).f0), .bool (!((rd_T41 t362 x23_4).f1))] (fun k_ => some k_ ≠ (.slice (some ad378) t362.length co26 : Value).ownBlock) (fun _ => False) rfl rfl ?aP (fun _ hk => hk.elim) ?aF ?aO ?aB ?aS ?aL ?_
                  (case aP => exact k41_mkM _ _ _ (⟨(rd_T41 t362 x23_4).f0, !((rd_T41 t362 x23_4).f1)⟩ : S41))
                  (case aB => exact (by repeat (first | (with_reducible first | exact HB.out | apply below_alloc | apply pw_below_drewN | apply below_drew1 | refine below_set ?_ GE356.out) | exact HB.out)))
                  (case aF => exact (fun k_ hk => Kd.fresh' (Kd.R_lt (by (with_reducible repeat (first | apply Kd.R_alloc | apply Kd.R_drewN | apply Kd.R_drew)); exact HO_14.out)) k_ hk))
                  (case aO => exact (by (with_reducible repeat (first | apply Kd.R_alloc | apply Kd.R_drewN | apply Kd.R_drew)); exact HO_22.out))
                  (case aS => exact (below_size (by repeat (first | (with_reducible first | exact HB.out | apply below_alloc | apply pw_below_drewN | apply below_drew1 | refine below_set ?_ GE356.out) | exact HB.out))))
                  (case aL => have := LMc68.out; omega)
                  intro v381 w70 ho hb hg hat
                  rw [← Ny380.out] at ho
                  have n0_ := Aside0.mk (Kd.R_after (ok := (fun _ => True)) (by (with_reducible repeat (first | apply Kd.R_alloc | apply Kd.R_drewN | apply Kd.R_drew)); exact Kd.R_mono HO_14.out (fun _ hk => ⟨trivial, hk⟩)) hg hat)
                  have n1_ := Aside0.mk (Kd.R_over' (by (with_reducible repeat (first | apply Kd.R_alloc | apply Kd.R_drewN | apply Kd.R_drew)); exact HO_16.out) (Kd.R_typed (by (with_reducible repeat (first | apply Kd.R_alloc | apply Kd.R_drewN | apply Kd.R_drew)); exact HO_22.out)) (by decide) hg)
                  have n2_ := Aside0.mk (blk_grown (g := gb356) (o := .cells #[.int .i64 a0_0, .bool a0_1, .slice A0_2 l0_2.length c0_2] 24 (0, 0)) (by (with_reducible repeat (first | refine blk_drewN ?_ _ | refine blk_drew ?_ | refine blk_alloc ?_ _)); exact BK356.out) hg (Kd.R_ne HO_22.out BK356.out (by decide)))
                  have n3_ := Aside0.mk (hb)
                  have n4_ := Aside0.mk (ho)
                  clear HO_14
                  clear HO_16
                  clear BK356
                  clear HB
                  clear HO_22
                  have HO_14 := n0_
                  have HO_16 := n1_
                  have BK356 := n2_
                  have HB := n3_
                  have HO382 := n4_
                  clear n0_ n1_ n2_ n3_ n4_
                  clear ho hb hg hat
                  refine hK.out _ _ ?_
                  clear hK K
                  refine norm_ (a' := ?_) ?_ ?_
                  rotate_left
                  ·show Act.put _ (some 150) _ = _
                   simp only [Act.put, List.setIfInBounds_toArray, List.set_cons_zero, List.set_cons_succ, i64_w, i32_w]
                   rfl
                  refine pure_ (i := 15) (N := some 22) (v := ?_) (a' := ?_) #[true, true, true, true, true, true, true, true, true, true, true, true, true, true, true, true] rfl rfl (any_of HT_.out (by kernel_rfl)) (fun _ _ _ h => h) (Or.inl ⟨by rfl, ?_⟩) ?_ ?_
                  rotate_left
                  ·intro w'
                   go_simp
                   with_reducible rfl
                  rotate_left
                  ·simp only [Act.put, List.setIfInBounds_toArray, List.set_cons_zero, List.set_cons_succ, i64_w, i32_w]
                   rfl
                  refine done_ (done_of HT_.out (by kernel_rfl)) ?_
                  try go_wp2
                  go_roundg k4
                  case measure => have := HJ8.out; have := HJ21.out; have := HK3.out; have := HK4.out; omega
                  case rel => exact ⟨(y380), (wrap64 (x23_4 - 1)), (by first | rfl | (simp; done) | (simp [*]; done)), H', ⟨by have := HJ8.out; have := HJ21.out; have := HK3.out; have := HK4.out; omega⟩, ⟨by (with_reducible repeat (first | apply Kd.R_alloc | apply Kd.R_drewN | apply Kd.R_drew)); exact Kd.R_mono HO_14.out (fun _ hk => hk.2)⟩, ⟨by (with_reducible repeat (first | apply Kd.R_alloc | apply Kd.R_drewN | apply Kd.R_drew)); exact HO_16.out⟩, ⟨by (with_reducible repeat (first | apply Kd.R_alloc | apply Kd.R_drewN | apply Kd.R_drew)); exact HO382.out⟩, ⟨by (with_reducible repeat (first | refine blk_drewN ?_ _ | refine blk_drew ?_ | refine blk_alloc ?_ _)); exact BK356.out⟩, ⟨by repeat (first | (with_reducible first | exact HB.out | apply below_alloc | apply pw_below_drewN | apply below_drew1 | refine below_set ?_ GE356.out) | exact HB.out)⟩⟩
                 ·rw [if_neg c68] at H
                  exact absurd H (by simp)
                ·rw [if_neg c67] at H
                 exact absurd H (by simp)
               ·rw [if_neg c66] at H
                exact absurd H (by simp)
              ·rw [if_neg c65] at H
               have c65b0 : decide (0 ≤ x23_4) = false := decide_eq_false c65
               clear c65
               replace H := Option.bind_eq_some_iff.mp H
               obtain ⟨⟨t383, t386⟩, A710, H⟩ := H
               replace H : (if true = true then (if t386 = 0 then ((ebbtideref03_SameInts.f k4 t383 l1).bind fun t387 => (some t387)) else (some false)) else (some false)) = some r := H
               have A71 := Aside0.mk A710
               clear A710
               by_cases c72 : true = true
               ·clear c72
                have H1 : (if t386 = 0 then ((ebbtideref03_SameInts.f k4 t383 l1).bind fun t387 => (some t387)) else (some false)) = some r := by rw [if_pos rfl] at H; exact H
                clear H
                have H := H1
                clear H1
                by_cases c73 : t386 = 0
                ·rw [if_pos c73] at H
                 have c73b0 : (t386 == 0) = true := beq_iff_eq.mpr c73
                 have c73b1 : (t386 != 0) = false := bne_eq_false_iff_eq.mpr c73
                 clear c73
                 replace H := Option.bind_eq_some_iff.mp H
                 obtain ⟨t387, A740, H⟩ := H
                 replace H : (some t387) = some r := H
                 have A74 := Aside0.mk A740
                 clear A740
                 obtain rfl := Option.some.inj H
                 have hcz75_0 : wr.cell? ⟨gb356, 0, none⟩ = some (.int .i64 a0_0) := (blk_cell BK356.out 0).trans rfl
                 have hcz75_1 : wr.cell? ⟨gb356, 1, none⟩ = some (.bool a0_1) := (blk_cell BK356.out 1).trans rfl
                 have hcz75_2 : wr.cell? ⟨gb356, 2, none⟩ = some (.slice A0_2 l0_2.length c0_2) := (blk_cell BK356.out 2).trans rfl
                 have hfz75_0 := blk_frozen BK356.out 0
                 have hfz75_1 := blk_frozen BK356.out 1
                 have hfz75_2 := blk_frozen BK356.out 2
                 obtain ⟨Ao76, co76, eo76⟩ := Kd.R_slice HO_22.out
                 subst eo76
                 go_wp2_with (first | ((with_reducible refine gate_callee (f := 16) rfl ?_); refine goesL_ (some 156) rfl rfl Try.func16 (by kernel_rfl) rfl #[.agg #[.int .i64 a0_0, .bool a0_1, .slice A0_2 l0_2.length c0_2], .slice Ao29 t366.length co29, .slice Ao76 x22_4.length co76, .int .i64 (Go.bits .and .i64 a4 7)] rfl (by (try simp only [List.map_toArray, List.map_cons, List.map_nil]); first | done | rfl | (simp only [List.length_drop, List.length_take]; rfl)) ?_; (with_reducible refine (static_Push.calls k4 a0_0 a0_1 _ _ l0_2 _ _ t366 _ _ x22_4 (Go.bits .and .i64 a4 7) t383 t386 _ ?side1 ?side2 ?side3 ?side4 ?side5 ?side6 A71.out).mono ?_); (case side1 => repeat (first | exact (Kd.C_below HR0_2.out HB.out) | (with_reducible refine Kd.C_alloc ?_ _) | (with_reducible refine Kd.C_drewN ?_ _) | (with_reducible refine Kd.C_drew ?_))); (case side2 => exact HC0_2.out); (case side3 => repeat (first | exact (Kd.R_reads' HO_16.out).2.2 | (with_reducible refine Kd.C_alloc ?_ _) | (with_reducible refine Kd.C_drewN ?_ _) | (with_reducible refine Kd.C_drew ?_))); (case side4 => exact (Kd.R_reads' HO_16.out).2.1); (case side5 => repeat (first | exact (Kd.R_reads' HO_22.out).2.2 | (with_reducible refine Kd.C_alloc ?_ _) | (with_reducible refine Kd.C_drewN ?_ _) | (with_reducible refine Kd.C_drew ?_))); (case side6 => exact (Kd.R_reads' HO_22.out).2.1); rintro e w77 ⟨v384, rfl, ho0, hb⟩; refine ⟨_, rfl, ?_⟩; have n0_ := Aside0.mk (Kd.R_below (by (with_reducible repeat (first | apply Kd.R_alloc | apply Kd.R_drewN | apply Kd.R_drew)); exact HO_14.out) hb); have n1_ := Aside0.mk (Kd.R_elder' (by (with_reducible repeat (first | apply Kd.R_alloc | apply Kd.R_drewN | apply Kd.R_drew)); exact HO_16.out) (Kd.R_base ho0) hb); have n2_ := Aside0.mk (Kd.R_below (by (with_reducible repeat (first | apply Kd.R_alloc | apply Kd.R_drewN | apply Kd.R_drew)); exact HO_22.out) hb); have n3_ := Aside0.mk (Kd.R_lower (Kd.R_new' ho0 (Kd.R_lt (by (with_reducible repeat (first | apply Kd.R_alloc | apply Kd.R_drewN | apply Kd.R_drew)); exact HO_16.out))) (below_size (by repeat (first | (with_reducible first | exact HB.out | apply below_alloc | apply pw_below_drewN | apply below_drew1 | refine below_set ?_ GE356.out) | exact HB.out)))); have n4_ := Aside0.mk (blk_below (g := gb356) (o := .cells #[.int .i64 a0_0, .bool a0_1, .slice A0_2 l0_2.length c0_2] 24 (0, 0)) (by (with_reducible repeat (first | refine blk_drewN ?_ _ | refine blk_drew ?_ | refine blk_alloc ?_ _)); exact BK356.out) hb); have n5_ := Aside0.mk (below_step (by repeat (first | (with_reducible first | exact HB.out | apply below_alloc | apply pw_below_drewN | apply below_drew1 | refine below_set ?_ GE356.out) | exact HB.out)) hb); clear HO_14; clear HO_16; clear HO_22; clear BK356; clear HB; have HO_14 := n0_; have HO_16 := n1_; have HO_22 := n2_; have HO385 := n3_; have BK356 := n4_; have HB := n5_; clear n0_ n1_ n2_ n3_ n4_ n5_; (try clear hb); (try clear hb2); (try clear hk); (try clear hi); (try clear ho0); obtain ⟨Ao78, co78, eo78⟩ := Kd.R_slice HO385.out; subst eo78) | (go_at_call 15; (with_reducible refine (ebbtideref03_SameInts.calls k4 _ _ t383 _ _ l1 t387 _ ?side1 ?side2 ?side3 ?side4 A74.out).mono ?_); (case side1 => repeat (first | exact (Kd.R_reads' HO385.out).2.2 | (with_reducible refine Kd.C_alloc ?_ _) | (with_reducible refine Kd.C_drewN ?_ _) | (with_reducible refine Kd.C_drew ?_))); (case side2 => exact (Kd.R_reads' HO385.out).2.1); (case side3 => repeat (first | exact (Kd.C_below HR1.out HB.out) | (with_reducible refine Kd.C_alloc ?_ _) | (with_reducible refine Kd.C_drewN ?_ _) | (with_reducible refine Kd.C_drew ?_))); (case side4 => exact HC1.out); rintro e w' ⟨rfl, ⟨nd, rfl⟩⟩))
                 go_ret
                 exact ⟨by first | rfl | (simp [errW_none, errW_some] <;> rfl) | (simp [*, errW_none, errW_some] <;> rfl), by repeat (first | (with_reducible first | exact HB.out | apply below_alloc | apply pw_below_drewN | apply below_drew1 | refine below_set ?_ GE356.out) | exact HB.out)⟩
                ·rw [if_neg c73] at H
                 exact absurd (Option.some.inj H) (by rw [HRT.out]; decide)
               ·exact absurd rfl c72
     ·rw [if_neg c20] at H
      have c20b0 : (t369 == 0) = false := beq_eq_false_iff_ne.mpr c20
      have c20b1 : (t369 != 0) = true := bne_iff_ne.mpr c20
      by_cases c85 : true = true
      ·clear c85
       have H1 : (if t369 = 71 then (some ((t366.length : Int) == 0)) else (some false)) = some r := by rw [if_pos rfl] at H; exact H
       clear H
       have H := H1
       clear H1
       by_cases c86 : t369 = 71
       ·rw [if_pos c86] at H
        have c86b0 : (t369 == 71) = true := beq_iff_eq.mpr c86
        have c86b1 : (t369 != 71) = false := bne_eq_false_iff_eq.mpr c86
        clear c86
        obtain rfl := Option.some.inj H
        have hcz87_0 : wc.cell? ⟨gb356, 0, none⟩ = some (.int .i64 a0_0) := (blk_cell BK356.out 0).trans rfl
        have hcz87_1 : wc.cell? ⟨gb356, 1, none⟩ = some (.bool a0_1) := (blk_cell BK356.out 1).trans rfl
        have hcz87_2 : wc.cell? ⟨gb356, 2, none⟩ = some (.slice A0_2 l0_2.length c0_2) := (blk_cell BK356.out 2).trans rfl
        have hfz87_0 := blk_frozen BK356.out 0
        have hfz87_1 := blk_frozen BK356.out 1
        have hfz87_2 := blk_frozen BK356.out 2
        go_wp2_with (first | ((with_reducible refine gate_callee (f := 18) rfl ?_); refine goesL_ (some 53) rfl rfl Try.func18 (by kernel_rfl) rfl #[.agg #[.int .i64 a0_0, .bool a0_1, .slice A0_2 l0_2.length c0_2], .slice A1 l1.length c1, .int .i64 a2, .slice A3 l3.length c3] rfl (by (try simp only [List.map_toArray, List.map_cons, List.map_nil]); first | done | rfl | (simp only [List.length_drop, List.length_take]; rfl)) ?_; (with_reducible refine (ebbtidelaw07_Trail.calls kj8 a0_0 a0_1 _ _ l0_2 _ _ l1 a2 _ _ l3 t362 t365 _ ?side1 ?side2 ?side3 ?side4 ?side5 ?side6 A18.out).mono ?_); (case side1 => repeat (first | exact (Kd.C_below HR0_2.out HB.out) | (with_reducible refine Kd.C_alloc ?_ _) | (with_reducible refine Kd.C_drewN ?_ _) | (with_reducible refine Kd.C_drew ?_))); (case side2 => exact HC0_2.out); (case side3 => repeat (first | exact (Kd.C_below HR1.out HB.out) | (with_reducible refine Kd.C_alloc ?_ _) | (with_reducible refine Kd.C_drewN ?_ _) | (with_reducible refine Kd.C_drew ?_))); (case side4 => exact HC1.out); (case side5 => repeat (first | exact (Kd.C_below HR3.out HB.out) | (with_reducible refine Kd.C_alloc ?_ _) | (with_reducible refine Kd.C_drewN ?_ _) | (with_reducible refine Kd.C_drew ?_))); (case side6 => exact HC3.out); rintro e w88 ⟨v363, rfl, ho0, hb⟩; refine ⟨_, rfl, ?_⟩; have n0_ := Aside0.mk (Kd.R_below (by (with_reducible repeat (first | apply Kd.R_alloc | apply Kd.R_drewN | apply Kd.R_drew)); exact HO_12.out) hb); have n1_ := Aside0.mk (Kd.R_lower ho0 (below_size (by repeat (first | (with_reducible first | exact HB.out | apply below_alloc | apply pw_below_drewN | apply below_drew1 | refine below_set ?_ GE356.out) | exact HB.out)))); have n2_ := Aside0.mk (blk_below (g := gb356) (o := .cells #[.int .i64 a0_0, .bool a0_1, .slice A0_2 l0_2.length c0_2] 24 (0, 0)) (by (with_reducible repeat (first | refine blk_drewN ?_ _ | refine blk_drew ?_ | refine blk_alloc ?_ _)); exact BK356.out) hb); have n3_ := Aside0.mk (below_step (by repeat (first | (with_reducible first | exact HB.out | apply below_alloc | apply pw_below_drewN | apply below_drew1 | refine below_set ?_ GE356.out) | exact HB.out)) hb); clear HO_12; clear BK356; clear HB; have HO_12 := n0_; have HO364 := n1_; have BK356 := n2_; have HB := n3_; clear n0_ n1_ n2_ n3_; (try clear hb); (try clear hb2); (try clear hk); (try clear hi); (try clear ho0); have hcz89_0 : w88.cell? ⟨gb356, 0, none⟩ = some (.int .i64 a0_0) := (blk_cell BK356.out 0).trans rfl; have hcz89_1 : w88.cell? ⟨gb356, 1, none⟩ = some (.bool a0_1) := (blk_cell BK356.out 1).trans rfl; have hcz89_2 : w88.cell? ⟨gb356, 2, none⟩ = some (.slice A0_2 l0_2.length c0_2) := (blk_cell BK356.out 2).trans rfl; have hfz89_0 := blk_frozen BK356.out 0; have hfz89_1 := blk_frozen BK356.out 1; have hfz89_2 := blk_frozen BK356.out 2; obtain ⟨Ao90, co90, eo90⟩ := Kd.R_slice HO364.out; subst eo90) | ((with_reducible refine gate_callee (f := 16) rfl ?_); refine goesL_ (some 63) rfl rfl Try.func16 (by kernel_rfl) rfl #[.agg #[.int .i64 a0_0, .bool a0_1, .slice A0_2 l0_2.length c0_2], .slice A1 l1.length c1, .slice Ao90 t362.length co90, .int .i64 (Go.bits .and .i64 a4 7)] rfl (by (try simp only [List.map_toArray, List.map_cons, List.map_nil]); first | done | rfl | (simp only [List.length_drop, List.length_take]; rfl)) ?_; (with_reducible refine (static_Push.calls kj8 a0_0 a0_1 _ _ l0_2 _ _ l1 _ _ t362 (Go.bits .and .i64 a4 7) t366 t369 _ ?side1 ?side2 ?side3 ?side4 ?side5 ?side6 A19.out).mono ?_); (case side1 => repeat (first | exact (Kd.C_below HR0_2.out HB.out) | (with_reducible refine Kd.C_alloc ?_ _) | (with_reducible refine Kd.C_drewN ?_ _) | (with_reducible refine Kd.C_drew ?_))); (case side2 => exact HC0_2.out); (case side3 => repeat (first | exact (Kd.C_below HR1.out HB.out) | (with_reducible refine Kd.C_alloc ?_ _) | (with_reducible refine Kd.C_drewN ?_ _) | (with_reducible refine Kd.C_drew ?_))); (case side4 => exact HC1.out); (case side5 => repeat (first | exact (Kd.R_reads' HO364.out).2.2 | (with_reducible refine Kd.C_alloc ?_ _) | (with_reducible refine Kd.C_drewN ?_ _) | (with_reducible refine Kd.C_drew ?_))); (case side6 => exact (Kd.R_reads' HO364.out).2.1); rintro e w91 ⟨v367, rfl, ho0, hb⟩; refine ⟨_, rfl, ?_⟩; have n0_ := Aside0.mk (Kd.R_elder' (by (with_reducible repeat (first | apply Kd.R_alloc | apply Kd.R_drewN | apply Kd.R_drew)); exact HO_12.out) (Kd.R_base ho0) hb); have n1_ := Aside0.mk (Kd.R_below (by (with_reducible repeat (first | apply Kd.R_alloc | apply Kd.R_drewN | apply Kd.R_drew)); exact HO364.out) hb); have n2_ := Aside0.mk (Kd.R_lower (Kd.R_new' ho0 (Kd.R_lt (by (with_reducible repeat (first | apply Kd.R_alloc | apply Kd.R_drewN | apply Kd.R_drew)); exact HO_12.out))) (below_size (by repeat (first | (with_reducible first | exact HB.out | apply below_alloc | apply pw_below_drewN | apply below_drew1 | refine below_set ?_ GE356.out) | exact HB.out)))); have n3_ := Aside0.mk (blk_below (g := gb356) (o := .cells #[.int .i64 a0_0, .bool a0_1, .slice A0_2 l0_2.length c0_2] 24 (0, 0)) (by (with_reducible repeat (first | refine blk_drewN ?_ _ | refine blk_drew ?_ | refine blk_alloc ?_ _)); exact BK356.out) hb); have n4_ := Aside0.mk (below_step (by repeat (first | (with_reducible first | exact HB.out | apply below_alloc | apply pw_below_drewN | apply below_drew1 | refine below_set ?_ GE356.out) | exact HB.out)) hb); clear HO_12; clear HO364; clear BK356; clear HB; have HO_12 := n0_; have HO364 := n1_; have HO368 := n2_; have BK356 := n3_; have HB := n4_; clear n0_ n1_ n2_ n3_ n4_; (try clear hb); (try clear hb2); (try clear hk); (try clear hi); (try clear ho0); obtain ⟨Ao92, co92, eo92⟩ := Kd.R_slice HO368.out; subst eo92))
        go_ret
        exact ⟨by first | rfl | (simp [errW_none, errW_some] <;> rfl) | (simp [*, errW_none, errW_some] <;> rfl), by repeat (first | (with_reducible first | exact HB.out | apply below_alloc | apply pw_below_drewN | apply below_drew1 | refine below_set ?_ GE356.out) | exact HB.out)⟩
       ·rw [if_neg c86] at H
        exact absurd (Option.some.inj H) (by rw [HRT.out]; decide)
      ·exact absurd rfl c85
 ·replace c7 := Bool.eq_false_iff.mpr c7
  subst c7
  have H1 : (some false) = some r := by rw [if_neg (show ¬ (false = true) by decide)] at H; exact H
  exact absurd (Option.some.inj H1) (by rw [HRT.out]; decide)
end Go.Proofs.Ytghdpoabpodieaa.P

/- Trails: steps one behind the other; what is pushed along one changes the balance of its ends alone; pushed back it is as it was. -/
set_option linter.unusedVariables false
namespace Go.Proofs.Ytghdpoabpodieaa.Q
open Go.RowKit Go.Proofs.YtghdpoabpodieaaW.PrintWords Go.Proofs.YtghdpoabpodieaaW.PrintLast Go.Proofs.YtghdpoabpodieaaW.PrintMore Go.Proofs.Ytghdpoabpodieaa.P
theorem and_small (x : Int) (m : Nat) (hm : m < 4611686018427387904) : 0 ≤ Go.bits .and .i64 x m ∧ Go.bits .and .i64 x m ≤ m := by
  have hb : (BitVec.ofInt 64 (m : Int)).toNat = m := by
    rw [BitVec.ofInt_natCast, BitVec.toNat_ofNat]
    exact Nat.mod_eq_of_lt (by omega)
  have h : ((BitVec.ofInt 64 x &&& BitVec.ofInt 64 (m : Int)).toNat) ≤ m := by
    rw [BitVec.toNat_and]
    refine Nat.le_trans Nat.and_le_right ?_
    omega
  have e : Go.bits .and .i64 x m = (((BitVec.ofInt 64 x &&& BitVec.ofInt 64 (m : Int)).toNat : Nat) : Int) := by
    simp only [Go.bits]
    show IntKind.i64.wrap (((BitVec.ofInt 64 x &&& BitVec.ofInt 64 (m : Int)).toNat : Nat) : Int) = _
    rw [IntKind.wrap_i64]
    omega
  rw [e]
  omega
def fromS (l : List S48) (s : S41) : Int := if s.f1 = true then (rd_T48 l s.f0).f1 else (rd_T48 l s.f0).f0
def toS (l : List S48) (s : S41) : Int := if s.f1 = true then (rd_T48 l s.f0).f0 else (rd_T48 l s.f0).f1
def flipS (s : S41) : S41 := ⟨s.f0, !s.f1⟩
/-- Steps one behind the other, from a node to another. -/
def trailP (l : List S48) : Int → List S41 → Int → Prop
  | v, [], w => v = w
  | v, s :: ss, w => StepOk l s ∧ fromS l s = v ∧ trailP l (toS l s) ss w
theorem trail_append {l : List S48} {s : S41} (hs : StepOk l s) : ∀ {ss : List S41} {v : Int}, trailP l v ss (fromS l s) → trailP l v (ss ++ [s]) (toS l s)
  | [], v, h => ⟨hs, h.symm, rfl⟩
  | x :: ss, v, h => ⟨h.1, h.2.1, trail_append hs h.2.2⟩
theorem trail_ok {l : List S48} : ∀ {ss : List S41} {v w : Int}, trailP l v ss w → ∀ s ∈ ss, StepOk l s
  | [], v, w, _, s, hs => by cases hs
  | x :: ss, v, w, h, s, hs => (List.mem_cons.1 hs).elim (fun e => e ▸ h.1) (trail_ok h.2.2 s)
/-- Along steps that are some, pushing is refused for want of room alone. -/
theorem pushL_code {l : List S48} {k : Int} : ∀ {ss : List S41} {f : List Int}, (∀ s ∈ ss, StepOk l s) → (pushL l k f ss).2 = 0 ∨ (pushL l k f ss).2 = 71
  | [], f, _ => Or.inl rfl
  | s :: ss, f, h => by
    have hs := h s (List.mem_cons_self ..)
    unfold StepOk at hs
    unfold pushL
    rw [if_neg (by omega)]
    split
    · exact Or.inr rfl
    · exact pushL_code fun x hx => h x (List.mem_cons_of_mem _ hx)
theorem bal_set (l : List S48) (v : Int) : ∀ (f : List Int) (i : Nat) (y : Int), f.length = l.length → i < l.length →
    bal l (f.set i y) v = bal l f v + (if (l.getD i z48).f0 = v then y - f.getD i 0 else 0) - (if (l.getD i z48).f1 = v then y - f.getD i 0 else 0) := by
  induction l with
  | nil => intro f i y h hi; simp at hi
  | cons a l ih =>
    intro f i y h hi
    cases f with
    | nil => simp at h
    | cons x f =>
      cases i with
      | zero =>
        simp only [List.set_cons_zero, List.getD_cons_zero, bal_cons]
        split <;> split <;> omega
      | succ i =>
        simp only [List.set_cons_succ, List.getD_cons_succ, bal_cons]
        rw [ih f i y (by simpa using h) (by simpa using hi)]
        omega
theorem bal_go {l : List S48} {f : List Int} (hl : f.length = l.length) {s : S41} (hs : StepOk l s) (k v : Int) :
    bal l (goS f s k) v = bal l f v + (if fromS l s = v then k else 0) - (if toS l s = v then k else 0) := by
  obtain ⟨h1, h2⟩ := hs
  have e : s.f0 = ((s.f0.toNat : Nat) : Int) := by omega
  unfold goS fromS toS
  rw [bal_set l v f _ _ hl (by omega)]
  have e1 : rd_T48 l s.f0 = l.getD s.f0.toNat z48 := rfl
  have e2 : rd f s.f0 = f.getD s.f0.toNat 0 := rfl
  rw [e1, e2]
  by_cases g : s.f1 = true
  · simp only [if_pos g]
    split <;> split <;> omega
  · simp only [if_neg g]
    split <;> split <;> omega
theorem pushL_bal {l : List S48} {k : Int} (v : Int) : ∀ {ss : List S41} {f : List Int} {a b : Int}, f.length = l.length → trailP l a ss b → (pushL l k f ss).2 = 0 →
    bal l (pushL l k f ss).1 v = bal l f v + (if v = a then k else 0) - (if v = b then k else 0)
  | [], f, a, b, _, h, _ => by
    have h : a = b := h
    subst h
    show bal l f v = _
    omega
  | s :: ss, f, a, b, hl, h, h0 => by
    obtain ⟨hs, rfl, ht⟩ := h
    have hs' := hs
    unfold StepOk at hs'
    unfold pushL at h0 ⊢
    rw [if_neg (by omega)] at h0 ⊢
    by_cases g : roomS l f s < k
    · rw [if_pos g] at h0; cases h0
    · rw [if_neg g] at h0 ⊢
      rw [pushL_bal v (by rw [goS_len, hl]) ht h0, bal_go hl hs]
      have e1 : (if v = toS l s then k else 0) = (if toS l s = v then k else 0) := by
        by_cases e : toS l s = v
        · rw [if_pos e, if_pos e.symm]
        · rw [if_neg e, if_neg (Ne.symm e)]
      have e2 : (if v = fromS l s then k else 0) = (if fromS l s = v then k else 0) := by
        by_cases e : fromS l s = v
        · rw [if_pos e, if_pos e.symm]
        · rw [if_neg e, if_neg (Ne.symm e)]
      rw [e1, e2]
      omega
theorem pushL_append {l : List S48} {k : Int} : ∀ {a b : List S41} {f : List Int}, (pushL l k f a).2 = 0 → pushL l k f (a ++ b) = pushL l k (pushL l k f a).1 b
  | [], b, f, _ => rfl
  | s :: a, b, f, h => by
    rw [List.cons_append]
    unfold pushL at h ⊢
    by_cases g : s.f0 < 0 ∨ (l.length : Int) ≤ s.f0
    · rw [if_pos g] at h; cases h
    · rw [if_neg g] at h
      rw [if_neg g]
      by_cases g2 : roomS l f s < k
      · rw [if_pos g2] at h; cases h
      · rw [if_neg g2] at h
        rw [if_neg g2, pushL_append h]
        have : pushL l k f (s :: a) = pushL l k (goS f s k) a := by
          rw [pushL, if_neg g, if_neg g2]
        rw [this]
        cases b <;> rfl
theorem set_self (f : List Int) (i : Nat) (y : Int) (h : f.getD i 0 = y) : f.set i y = f := by
  apply List.ext_getElem (by simp)
  intro j h1 h2
  rw [List.getElem_set]
  split
  · subst h; subst_vars
    rw [List.getD_eq_getElem?_getD, List.getElem?_eq_getElem h2]
    rfl
  · rfl
theorem go_back {f : List Int} {s : S41} (h0 : 0 ≤ s.f0) (h1 : s.f0 < f.length) (k : Int) : goS (goS f s k) (flipS s) k = f := by
  unfold goS flipS
  have e : rd (f.set s.f0.toNat (if s.f1 = true then rd f s.f0 - k else rd f s.f0 + k)) s.f0 = if s.f1 = true then rd f s.f0 - k else rd f s.f0 + k := by
    rw [rd_set _ _ _ _ h0 h1 h0, if_pos rfl]
  simp only [e, List.set_set]
  apply set_self
  have e2 : f.getD s.f0.toNat 0 = rd f s.f0 := rfl
  rw [e2]
  cases s.f1 <;> simp <;> omega
theorem room_back {n : Int} {l : List S48} {f : List Int} (hn : NetOk n l) (hf : FlowOk l f) {s : S41} (hs : StepOk l s) (k : Int) : k ≤ roomS l (goS f s k) (flipS s) := by
  have h1 : StepOk l (flipS s) := hs
  have h2 := (roomS_small hn hf h1).1
  have hl := hf.len
  obtain ⟨a, b⟩ := hs
  unfold roomS flipS at h2 ⊢
  unfold goS
  simp only at h2 ⊢
  rw [rd_set _ _ _ _ a (by omega) a, if_pos rfl]
  cases h : s.f1 <;> simp [h] at h2 ⊢ <;> omega
/-- Pushed back along the same steps, a flow is as it was. -/
theorem push_back {n : Int} {l : List S48} (hn : NetOk n l) {k : Int} (hk : 0 ≤ k) : ∀ {ss : List S41} {f : List Int}, FlowOk l f → (pushL l k f ss).2 = 0 → pushL l k (pushL l k f ss).1 (ss.reverse.map flipS) = (f, 0)
  | [], f, _, _ => rfl
  | s :: ss, f, hf, h => by
    have h' := h
    unfold pushL at h'
    by_cases g : s.f0 < 0 ∨ (l.length : Int) ≤ s.f0
    · rw [if_pos g] at h'; cases h'
    · rw [if_neg g] at h'
      by_cases g2 : roomS l f s < k
      · rw [if_pos g2] at h'; cases h'
      · rw [if_neg g2] at h'
        have hs : StepOk l s := ⟨by omega, by omega⟩
        have hl := hf.len
        have e : pushL l k f (s :: ss) = pushL l k (goS f s k) ss := by rw [pushL, if_neg g, if_neg g2]
        have ih := push_back hn hk (goS_ok hf hs hk (by omega)) h'
        rw [e, List.reverse_cons, List.map_append, pushL_append (by rw [ih]), ih]
        show pushL l k (goS f s k) [flipS s] = _
        have hr := room_back hn hf hs k
        have hf0 : (flipS s).f0 = s.f0 := rfl
        rw [pushL, if_neg (by rw [hf0]; exact g), if_neg (by omega), go_back hs.1 (by omega)]
        rfl
end Go.Proofs.Ytghdpoabpodieaa.Q

/- StaticTrails: what is pushed along steps one behind the other changes the balance of the first and the last node alone; pushed back it is as it was. -/
set_option linter.unusedVariables false
namespace Go.Proofs.Ytghdpoabpodieaa.Q
open Go.RowKit Go.Proofs.YtghdpoabpodieaaW.PrintWords Go.Proofs.YtghdpoabpodieaaW.PrintLast Go.Proofs.YtghdpoabpodieaaW.PrintMore Go.Proofs.Ytghdpoabpodieaa.P
theorem from_eq {n : Int} (b : Bool) {l : List S48} {s : S41} (hs : StepOk l s) : ebbtideref07_From.f n b l s.f0 s.f1 = some (fromS l s) := by
  obtain ⟨h1, h2⟩ := hs
  unfold ebbtideref07_From.f fromS
  by_cases g : s.f1 = true
  · simp only [if_pos g]; rw [if_pos h1, if_pos h2]
  · simp only [if_neg g]; rw [if_pos h1, if_pos h2]
theorem to_eq {n : Int} (b : Bool) {l : List S48} {s : S41} (hs : StepOk l s) : ebbtideref07_To.f n b l s.f0 s.f1 = some (toS l s) := by
  obtain ⟨h1, h2⟩ := hs
  unfold ebbtideref07_To.f toS
  by_cases g : s.f1 = true
  · simp only [if_pos g]; rw [if_pos h1, if_pos h2]
  · simp only [if_neg g]; rw [if_pos h1, if_pos h2]
/-- All steps that have room are some of the network's, at most two of each arc. -/
theorem steps_l0 (n : Int) (b : Bool) (l : List S48) (f : List Int) (hl : l.length ≤ 200) (hf : f.length = l.length) (d : Nat) : ∀ (i : Nat) (x : List S41), i + d = l.length → x.length ≤ 2 * i → (∀ s ∈ x, StepOk l s) →
    ∃ r, Ev (fun m => ebbtideref07_Steps.l0 m f x (i : Int) n b l) r ∧ r.length ≤ 400 ∧ ∀ s ∈ r, StepOk l s := by
  induction d with
  | zero =>
    intro i x hi hx hs
    refine ⟨x, ?_, by omega, hs⟩
    refine Ev.succ ?_; simp only [ebbtideref07_Steps.l0]
    repeat (first | exact Ev.now _ | with_reducible refine Ev.pos (by first | assumption | omega) ?_ | with_reducible refine Ev.neg (by first | assumption | omega) ?_ | with_reducible refine Ev.let_ ?_)
  | succ d ih =>
    intro i x hi hx hs
    have h1 : ∀ c : Bool, StepOk l ⟨(i : Int), c⟩ := fun c => ⟨by show (0 : Int) ≤ i; omega, by show (i : Int) < l.length; omega⟩
    by_cases g1 : (rd_T48 l (i : Int)).f2 > rd f (i : Int)
    · by_cases g2 : rd f (i : Int) > 0
      · obtain ⟨r, hr, h2⟩ := ih (i + 1) ((x ++ [(⟨(i : Int), false⟩ : S41)]) ++ [(⟨(i : Int), true⟩ : S41)]) (by omega) (by simp; omega) (by
          intro s h
          simp only [List.mem_append, List.mem_singleton] at h
          rcases h with (h | rfl) | rfl
          · exact hs s h
          · exact h1 _
          · exact h1 _)
        refine ⟨r, ?_, h2⟩
        refine Ev.succ ?_; simp only [ebbtideref07_Steps.l0]
        repeat (first | exact Ev.now _ | with_reducible refine Ev.pos (by first | assumption | omega) ?_ | with_reducible refine Ev.neg (by first | assumption | omega) ?_ | with_reducible refine Ev.let_ ?_)
        refine Ev.pos (by simp; omega) ?_
        rw [wrap_succ (n := l.length) (by omega) (by omega)]
        exact hr
      · obtain ⟨r, hr, h2⟩ := ih (i + 1) (x ++ [(⟨(i : Int), false⟩ : S41)]) (by omega) (by simp; omega) (by
          intro s h
          simp only [List.mem_append, List.mem_singleton] at h
          rcases h with h | rfl
          · exact hs s h
          · exact h1 _)
        refine ⟨r, ?_, h2⟩
        refine Ev.succ ?_; simp only [ebbtideref07_Steps.l0]
        repeat (first | exact Ev.now _ | with_reducible refine Ev.pos (by first | assumption | omega) ?_ | with_reducible refine Ev.neg (by first | assumption | omega) ?_ | with_reducible refine Ev.let_ ?_)
        rw [wrap_succ (n := l.length) (by omega) (by omega)]
        exact hr
    · by_cases g2 : rd f (i : Int) > 0
      · obtain ⟨r, hr, h2⟩ := ih (i + 1) (x ++ [(⟨(i : Int), true⟩ : S41)]) (by omega) (by simp; omega) (by
          intro s h
          simp only [List.mem_append, List.mem_singleton] at h
          rcases h with h | rfl
          · exact hs s h
          · exact h1 _)
        refine ⟨r, ?_, h2⟩
        refine Ev.succ ?_; simp only [ebbtideref07_Steps.l0]
        repeat (first | exact Ev.now _ | with_reducible refine Ev.pos (by first | assumption | omega) ?_ | with_reducible refine Ev.neg (by first | assumption | omega) ?_ | with_reducible refine Ev.let_ ?_)
        rw [wrap_succ (n := l.length) (by omega) (by omega)]
        exact hr
      · obtain ⟨r, hr, h2⟩ := ih (i + 1) x (by omega) (by omega) hs
        refine ⟨r, ?_, h2⟩
        refine Ev.succ ?_; simp only [ebbtideref07_Steps.l0]
        repeat (first | exact Ev.now _ | with_reducible refine Ev.pos (by first | assumption | omega) ?_ | with_reducible refine Ev.neg (by first | assumption | omega) ?_ | with_reducible refine Ev.let_ ?_)
        rw [wrap_succ (n := l.length) (by omega) (by omega)]
        exact hr
theorem steps_some (n : Int) (b : Bool) (l : List S48) (f : List Int) (hl : l.length ≤ 200) (hf : f.length = l.length) :
    ∃ r, Ev (fun m => ebbtideref07_Steps.f m n b l f) r ∧ r.length ≤ 400 ∧ ∀ s ∈ r, StepOk l s := by
  unfold ebbtideref07_Steps.f
  exact steps_l0 n b l f hl hf l.length 0 [] (by omega) (by simp) (by simp)
theorem tmod_at {x : Int} {m : Nat} (h0 : 0 ≤ x) (hm : 0 < m) : 0 ≤ Int.tmod x (m : Int) ∧ Int.tmod x (m : Int) < (m : Int) :=
  ⟨Int.tmod_nonneg _ h0, Int.tmod_lt_of_pos _ (by omega)⟩
theorem trail_l1 (n : Int) (b : Bool) (l : List S48) (f picks : List Int) (x10 : List S41) (at_ : Int) (i : Nat) (hi : i < picks.length) (hi2 : i < 20) (h10 : x10.length ≤ i) (all : List S41) (hall : all.length ≤ 400) (hok : ∀ s ∈ all, StepOk l s)
    (P : List S41 × Int → Prop) (hend : P (x10, at_))
    (next : ∀ s, StepOk l s → fromS l s = at_ → ∃ r, Ev (fun m => ebbtidelaw07_Trail.l0 m f picks (x10 ++ [s]) (toS l s) ((i + 1 : Nat) : Int) n b l) r ∧ P r) (d : Nat) :
    ∀ (j : Nat) (x13 : List S41), j + d = all.length → x13.length ≤ j → (∀ s ∈ x13, StepOk l s ∧ fromS l s = at_) →
      ∃ r, Ev (fun m => ebbtidelaw07_Trail.l1 m f picks x10 at_ (i : Int) x13 all (j : Int) n b l) r ∧ P r := by
  induction d with
  | zero =>
    intro j x13 hj h13 hs
    by_cases g : (x13.length : Int) = 0
    · refine ⟨(x10, at_), ?_, hend⟩
      refine Ev.succ ?_; simp only [ebbtidelaw07_Trail.l1]
      repeat (first | exact Ev.now _ | with_reducible refine Ev.pos (by first | assumption | omega) ?_ | with_reducible refine Ev.neg (by first | assumption | omega) ?_ | with_reducible refine Ev.let_ ?_)
    · have hm := and_small (rd picks (i : Int)) 1023 (by omega)
      have ht := tmod_at (x := Go.bits .and .i64 (rd picks (i : Int)) 1023) (m := x13.length) hm.1 (by omega)
      have hmem := hs (rd_T41 x13 (Int.tmod (Go.bits .and .i64 (rd picks (i : Int)) 1023) (x13.length : Int))) (getD_mem (by omega))
      obtain ⟨r, hr, hp⟩ := next _ hmem.1 hmem.2
      refine ⟨r, ?_, hp⟩
      refine Ev.succ ?_; simp only [ebbtidelaw07_Trail.l1]
      refine Ev.neg (by omega) (Ev.neg g (Ev.pos (by omega) (Ev.pos (by omega) (Ev.pos ht.1 (Ev.pos ht.2 (Ev.pos (by omega) ?_))))))
      refine Ev.call (to_eq b hmem.1) ?_
      rw [wrap_succ (n := 20) (by omega) (by omega)]
      exact hr
  | succ d ih =>
    intro j x13 hj h13 hs
    have hmem := hok (rd_T41 all (j : Int)) (getD_mem (by omega))
    by_cases g : fromS l (rd_T41 all (j : Int)) = at_
    · obtain ⟨r, hr, hp⟩ := ih (j + 1) (x13 ++ [(⟨(rd_T41 all (j : Int)).f0, (rd_T41 all (j : Int)).f1⟩ : S41)]) (by omega) (by simp; omega) (by
        intro s h
        simp only [List.mem_append, List.mem_singleton] at h
        rcases h with h | rfl
        · exact hs s h
        · exact ⟨hmem, g⟩)
      refine ⟨r, ?_, hp⟩
      refine Ev.succ ?_; simp only [ebbtidelaw07_Trail.l1]
      repeat (first | exact Ev.now _ | with_reducible refine Ev.pos (by first | assumption | omega) ?_ | with_reducible refine Ev.neg (by first | assumption | omega) ?_ | with_reducible refine Ev.let_ ?_)
      refine Ev.call (from_eq b hmem) (Ev.pos g (Ev.pos (by omega) ?_))
      rw [wrap_succ (n := all.length) (by omega) (by omega)]
      exact hr
    · obtain ⟨r, hr, hp⟩ := ih (j + 1) x13 (by omega) (by omega) hs
      refine ⟨r, ?_, hp⟩
      refine Ev.succ ?_; simp only [ebbtidelaw07_Trail.l1]
      repeat (first | exact Ev.now _ | with_reducible refine Ev.pos (by first | assumption | omega) ?_ | with_reducible refine Ev.neg (by first | assumption | omega) ?_ | with_reducible refine Ev.let_ ?_)
      refine Ev.call (from_eq b hmem) (Ev.neg g ?_)
      rw [wrap_succ (n := all.length) (by omega) (by omega)]
      exact hr
theorem trail_l0 (n : Int) (b : Bool) (l : List S48) (f picks : List Int) (hl : l.length ≤ 200) (hf : f.length = l.length) (v0 : Int) (d : Nat) : ∀ (i : Nat) (x : List S41) (at_ : Int), i + d = 20 → x.length ≤ i → trailP l v0 x at_ →
    ∃ r, Ev (fun m => ebbtidelaw07_Trail.l0 m f picks x at_ (i : Int) n b l) r ∧ (trailP l v0 r.1 r.2 ∧ r.1.length ≤ 20) := by
  induction d with
  | zero =>
    intro i x at_ hi hx ht
    refine ⟨(x, at_), ?_, ht, by show x.length ≤ 20; omega⟩
    refine Ev.succ ?_; simp only [ebbtidelaw07_Trail.l0]
    refine Ev.ite (fun g => ?_) (fun g => ?_)
    · refine Ev.succ ?_; simp only [ebbtidelaw07_Trail.j1]
      refine Ev.neg (by simp; omega) (Ev.now _)
    · refine Ev.succ ?_; simp only [ebbtidelaw07_Trail.j1]
      refine Ev.neg (by simp) (Ev.now _)
  | succ d ih =>
    intro i x at_ hi hx ht
    by_cases g : (i : Int) < (picks.length : Int)
    · obtain ⟨all, hall, hlen, hok⟩ := steps_some n b l f hl hf
      obtain ⟨r, hr, hp⟩ := trail_l1 n b l f picks x at_ i (by omega) (by omega) hx all hlen hok (fun r => trailP l v0 r.1 r.2 ∧ r.1.length ≤ 20) ⟨ht, by show x.length ≤ 20; omega⟩ (fun s hs he => by
        exact ih (i + 1) (x ++ [s]) (toS l s) (by omega) (by simp; omega) (trail_append hs (he ▸ ht))) all.length 0 [] (by omega) (by simp) (by simp)
      refine ⟨r, ?_, hp⟩
      refine Ev.succ ?_; simp only [ebbtidelaw07_Trail.l0]
      refine Ev.pos g ?_
      refine Ev.succ ?_; simp only [ebbtidelaw07_Trail.j1]
      exact Ev.pos (decide_eq_true (by omega)) (Ev.bind hall hr)
    · refine ⟨(x, at_), ?_, ht, by show x.length ≤ 20; omega⟩
      refine Ev.succ ?_; simp only [ebbtidelaw07_Trail.l0]
      refine Ev.neg g ?_
      refine Ev.succ ?_; simp only [ebbtidelaw07_Trail.j1]
      exact Ev.neg (by simp) (Ev.now _)
theorem trails_l1 (n : Int) (b : Bool) (l : List S48) (f : List Int) (hn : NetOk n l) (hf : FlowOk l f) (k : Int) (hk : 0 ≤ k) (ss : List S41) (hss : ss.length ≤ 20) (g : List Int) (hg : pushL l k f ss = (g, 0)) (d : Nat) :
    ∀ (i : Nat), i = d → i ≤ ss.length → Ev (fun m => ebbtidelaw07_StaticTrails.l1 m f k true ss g ((ss.drop i).reverse.map flipS) ((i : Int) - 1) n b l) true := by
  have hok := pushL_ok (ss := ss) hn hk hf (by rw [hg])
  rw [hg] at hok
  have hlen := hf.len
  have hnl := hn.len
  induction d with
  | zero =>
    intro i hi h0
    subst hi
    refine Ev.succ ?_; simp only [ebbtidelaw07_StaticTrails.l1]
    refine Ev.neg (by omega) ?_
    refine Ev.bind (push_ev n b l g _ k (by simp; omega)) ?_
    unfold pushRes
    rw [if_pos (ask_of hn hok.1), if_neg (by omega), List.drop_zero]
    have hb := push_back hn hk hf (ss := ss) (k := k) (by rw [hg])
    rw [hg] at hb
    rw [hb]
    refine Ev.pos (by trivial) (Ev.pos rfl ?_)
    refine Ev.bind (same_ev _ _ (by show f.length ≤ _; omega)) ?_
    exact Ev.done (decide_eq_true rfl)
  | succ d ih =>
    intro i hi h0
    refine Ev.succ ?_; simp only [ebbtidelaw07_StaticTrails.l1]
    refine Ev.pos (by omega) (Ev.pos (by omega) (Ev.pos (by omega) (Ev.pos (by simp; omega) ?_)))
    have hw : wrap64 ((i : Int) - 1 - 1) = (((i - 1 : Nat) : Int)) - 1 := by rw [wrap_id (by omega) (by omega)]; omega
    rw [hw]
    have e : (ss.drop i).reverse.map flipS ++ [(⟨(rd_T41 ss ((i : Int) - 1)).f0, !(rd_T41 ss ((i : Int) - 1)).f1⟩ : S41)] = (ss.drop (i - 1)).reverse.map flipS := by
      rw [drop_getD ss (i - 1) z41 (by omega), show i - 1 + 1 = i by omega, List.reverse_cons, List.map_append]
      have : rd_T41 ss ((i : Int) - 1) = ss.getD (i - 1) z41 := by
        rw [show (i : Int) - 1 = ((i - 1 : Nat) : Int) by omega, rdStep_nat]
      rw [this]
      rfl
    rw [e]
    exact ih (i - 1) (by omega) (by omega)
theorem trails_l0 (n : Int) (b : Bool) (l : List S48) (f : List Int) (hn : NetOk n l) (hf : FlowOk l f) (k : Int) (hk : 0 ≤ k) (hk7 : k ≤ 7) (ss : List S41) (hss : ss.length ≤ 20) (g : List Int) (hg : pushL l k f ss = (g, 0)) (v0 v1 : Int)
    (ht : trailP l v0 ss v1) (d : Nat) : ∀ i : Nat, i + d = n.toNat → Ev (fun m => ebbtidelaw07_StaticTrails.l0 m f v0 k true (balOf n l f) ss v1 g (balOf n l g) (i : Int) n b l) true := by
  have hlo := hn.lo
  have hhi := hn.hi
  have hbl := balOf_len n l f
  have hbl2 := balOf_len n l g
  induction d with
  | zero =>
    intro i hi
    refine Ev.succ ?_; simp only [ebbtidelaw07_StaticTrails.l0]
    refine Ev.neg (by omega) ?_
    have e : wrap64 ((ss.length : Int) - 1) = (ss.length : Int) - 1 := wrap_id (by omega) (by omega)
    rw [e]
    have := trails_l1 n b l f hn hf k hk ss hss g hg ss.length ss.length rfl (Nat.le_refl _)
    rw [List.drop_of_length_le (Nat.le_refl _)] at this
    exact this
  | succ d ih =>
    intro i hi
    have hb := pushL_bal (i : Int) (k := k) hf.len ht (by rw [hg])
    rw [hg] at hb
    have hb : bal l g i = bal l f i + (if (i : Int) = v0 then k else 0) - (if (i : Int) = v1 then k else 0) := hb
    have hs := hf.bal_small hn (i : Int)
    have key : ∀ x21 : Int, x21 = (if (i : Int) = v0 then k else 0) → Ev (fun m => ebbtidelaw07_StaticTrails.j3 m f v0 k true (balOf n l f) ss v1 g (balOf n l g) (i : Int) x21 n b l) true := by
      intro x21 hx
      have hx7 : 0 ≤ x21 ∧ x21 ≤ 7 := by rw [hx]; split <;> omega
      refine Ev.succ ?_; simp only [ebbtidelaw07_StaticTrails.j3]
      refine Ev.ite (fun h => ?_) (fun h => ?_)
      · repeat (first | exact Ev.now _ | with_reducible refine Ev.pos (by first | assumption | omega) ?_ | with_reducible refine Ev.neg (by first | assumption | omega) ?_ | with_reducible refine Ev.let_ ?_)
        refine Ev.pos ?_ ?_
        · rw [rd_balOf (by omega) (by omega), rd_balOf (by omega) (by omega), wrap_id (x := x21 - k) (by omega) (by omega), wrap_id (by omega) (by omega), hb, if_pos h, hx]
          omega
        · rw [wrap_succ (n := n.toNat) (by omega) (by omega)]
          exact ih (i + 1) (by omega)
      · repeat (first | exact Ev.now _ | with_reducible refine Ev.pos (by first | assumption | omega) ?_ | with_reducible refine Ev.neg (by first | assumption | omega) ?_ | with_reducible refine Ev.let_ ?_)
        refine Ev.pos ?_ ?_
        · rw [rd_balOf (by omega) (by omega), rd_balOf (by omega) (by omega), wrap_id (by omega) (by omega), hb, if_neg h, hx]
          omega
        · rw [wrap_succ (n := n.toNat) (by omega) (by omega)]
          exact ih (i + 1) (by omega)
    refine Ev.succ ?_; simp only [ebbtidelaw07_StaticTrails.l0]
    refine Ev.pos (by omega) ?_
    refine Ev.ite (fun h => ?_) (fun h => ?_)
    · exact key _ (by rw [if_pos h, wrap_id (by omega) (by omega)]; omega)
    · exact key _ (by rw [if_neg h])
theorem trails_j0 (n : Int) (b : Bool) (l : List S48) (f : List Int) (hn : NetOk n l) (hf : FlowOk l f) (v0 : Int) (picks : List Int) (k : Int) :
    Ev (fun m => ebbtidelaw07_StaticTrails.j0 m f v0 picks k true (balOf n l f) false n b l) true := by
  have hlo := hn.lo
  have hhi := hn.hi
  have hkk : 0 ≤ Go.bits .and .i64 k 7 ∧ Go.bits .and .i64 k 7 ≤ 7 := and_small k 7 (by omega)
  obtain ⟨⟨ss, v1⟩, hr, ht, hss⟩ := trail_l0 n b l f picks hn.len hf.len v0 20 0 [] v0 (by omega) (by simp) rfl
  have hss : ss.length ≤ 20 := hss
  have ht : trailP l v0 ss v1 := ht
  refine Ev.succ ?_; simp only [ebbtidelaw07_StaticTrails.j0]
  refine Ev.neg (by simp) ?_
  refine Ev.bind (a := (ss, v1)) (by unfold ebbtidelaw07_Trail.f; exact hr) ?_
  refine Ev.bind (push_ev n b l f ss _ (by show ss.length ≤ _; omega)) ?_
  unfold pushRes
  rw [if_pos (ask_of hn hf), if_neg (by omega)]
  rcases pushL_code (l := l) (k := Go.bits .and .i64 k 7) (f := f) (trail_ok ht) with h | h
  · obtain ⟨g, hg⟩ : ∃ g, pushL l (Go.bits .and .i64 k 7) f ss = (g, 0) := ⟨_, Prod.ext rfl h⟩
    have hgo := (pushL_ok (ss := ss) hn hkk.1 hf h).1
    rw [hg] at hgo ⊢
    refine Ev.pos rfl ?_
    refine Ev.bind (balance_ev n b l g) ?_
    rw [balRes_ok (ask_of hn hgo)]
    refine Ev.pos rfl (Ev.pos (by show ((balOf n l g).length : Int) = n; rw [balOf_len]; omega) ?_)
    refine Ev.succ ?_; simp only [ebbtidelaw07_StaticTrails.j1]
    refine Ev.neg (by rw [balOf_len]; simp; omega) ?_
    exact trails_l0 n b l f hn hf _ hkk.1 hkk.2 ss hss g hg v0 v1 ht n.toNat 0 (by omega)
  · have hne : (pushL l (Go.bits .and .i64 k 7) f ss).2 ≠ 0 := by rw [h]; decide
    refine Ev.neg hne ?_
    refine Ev.pos (by trivial) (Ev.pos h ?_)
    rw [pushL_no l _ ss f hne]
    exact Ev.done rfl
theorem staticTrails_ev (n : Int) (b : Bool) (l : List S48) (f : List Int) (v0 : Int) (picks : List Int) (k : Int) : Ev (fun m => ebbtidelaw07_StaticTrails.f m n b l f v0 picks k) true := by
  unfold ebbtidelaw07_StaticTrails.f
  refine Ev.bind awake07_ev (Ev.pos rfl ?_)
  refine Ev.bind (balance_ev n b l f) ?_
  have out : ∀ (a : List Int), Ev (fun m => ebbtidelaw07_StaticTrails.j0 m f v0 picks k true a true n b l) true := by
    intro a
    refine Ev.succ ?_; simp only [ebbtidelaw07_StaticTrails.j0]
    exact Ev.pos (by trivial) (Ev.now _)
  by_cases h : askErr n l f = 0
  · obtain ⟨hn, hf⟩ := askErr_ok h
    rw [balRes_ok h]
    refine Ev.pos rfl ?_
    refine Ev.ite (fun g => ?_) (fun g => ?_)
    · exact out _
    · by_cases g2 : v0 ≥ n
      · rw [decide_eq_true g2]; exact out _
      · rw [decide_eq_false g2]; exact trails_j0 n b l f hn hf v0 picks k
  · rw [balRes_no h]
    exact Ev.neg h (out _)
end Go.Proofs.Ytghdpoabpodieaa.Q
