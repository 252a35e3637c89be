/- Joined by wip/tool/bundle.py out of: P6 P7 P8. -/
import Derived.Test.YtkcpanpdipmmmaaGodmgla
import Derived.RegionTactic
import Derived.BigRegion
-- Laid by wip/tool/mk.py, by the kit's print.py, for all laws of this seat in one namespace; a function told as by hand has a proof of this session's own.
namespace Go.Proofs.Ytkcpanpdipmmmaa.P
open Go.RowKit Go.Proofs.YtkcpanpdipmmmaaW.PrintWords Go.Proofs.YtkcpanpdipmmmaaW.PrintLast Go.Proofs.YtkcpanpdipmmmaaW.PrintMore
attribute [local go_sem] max2_int min2_int max_two min_two max_three min_three max_four min_four   -- for this text's walks alone
set_option linter.unusedVariables false
set_option linter.unusedSimpArgs false

/-! ### ebbtideref11_From: function 71 -/
mutual
def ebbtideref11_From.l0 : Nat → List (S38) → Int → Int → Bool → List (S74) → List Int → List Bool → Bool → Option (List Int × List Bool × Bool)
 | 0, _, _, _, _, _, _, _, _ => none
 | k + 1, x8, x9, x128000, x128001, x128002, x136000, x136001, x136002 => if x9 ≤ x128000 then (ebbtideref11_From.l1 k x8 x9 0 x128000 x128001 x128002 x136000 x136001 true) else (some (x136000, x136001, x136002))
def ebbtideref11_From.l1 : Nat → List (S38) → Int → Int → Int → Bool → List (S74) → List Int → List Bool → Bool → Option (List Int × List Bool × Bool)
 | 0, _, _, _, _, _, _, _, _, _ => none
 | k + 1, x8, x9, x10, x128000, x128001, x128002, x136000, x136001, x136002 => if x10 < (x8.length : Int) then (if 0 ≤ x10 then ((ebbtideref07_From.f x128000 x128001 x128002 ((rd_T38 x8 x10).f0) ((rd_T38 x8 x10).f1)).bind fun t141 => ((ebbtideref07_To.f x128000 x128001 x128002 ((rd_T38 x8 x10).f0) ((rd_T38 x8 x10).f1)).bind fun t143 => (if 0 ≤ t141 then (if t141 < (x136000.length : Int) then ((ebbtideref11_Time.f x128000 x128001 x128002 ((rd_T38 x8 x10).f0) ((rd_T38 x8 x10).f1)).bind fun t146 => (if t141 < (x136001.length : Int) then (if rdOf false x136001 t141 = true then (if 0 ≤ t143 then (if t143 < (x136001.length : Int) then (if rdOf false x136001 t143 = true then (if t143 < (x136000.length : Int) then (if (wrap64 ((rd x136000 t141) + t146)) < (rd x136000 t143) then (ebbtideref11_From.l1 k x8 x9 (wrap64 (x10 + 1)) x128000 x128001 x128002 (x136000.set (t143 : Int).toNat (wrap64 ((rd x136000 t141) + t146))) (x136001.set (t143 : Int).toNat true) false) else (ebbtideref11_From.l1 k x8 x9 (wrap64 (x10 + 1)) x128000 x128001 x128002 x136000 x136001 x136002)) else (none)) else (if t143 < (x136000.length : Int) then (ebbtideref11_From.l1 k x8 x9 (wrap64 (x10 + 1)) x128000 x128001 x128002 (x136000.set (t143 : Int).toNat (wrap64 ((rd x136000 t141) + t146))) (x136001.set (t143 : Int).toNat true) false) else (none))) else (none)) else (none)) else (ebbtideref11_From.l1 k x8 x9 (wrap64 (x10 + 1)) x128000 x128001 x128002 x136000 x136001 x136002)) else (none))) else (none)) else (none)))) else (none)) else (ebbtideref11_From.l0 k x8 (wrap64 (x9 + 1)) x128000 x128001 x128002 x136000 x136001 x136002)
end
def ebbtideref11_From.f (k : Nat) (a0_0 : Int) (a0_1 : Bool) (l0_2 : List (S74)) (l1 : List Int) (a2 : Int) : Option (List Int × List Bool × Bool) := if 0 ≤ a0_0 then (if (a0_0 : Int).toNat ≤ 35184372088832 then (if (a0_0 : Int).toNat ≤ 281474976710656 then ((some (List.replicate (a0_0 : Int).toNat false : List Bool)).bind fun y132 => (if 0 ≤ a2 then (if a2 < (y132.length : Int) then ((ebbtideref07_Steps.f k a0_0 a0_1 l0_2 l1).bind fun t137 => (ebbtideref11_From.l0 k t137 0 a0_0 a0_1 l0_2 (List.replicate (a0_0 : Int).toNat 0) (y132.set (a2 : Int).toNat true) false)) else (none)) else (none))) else (none)) else (none)) else (none)
theorem ebbtideref11_From.mono_l : ∀ k, (∀ y0 y1 y2 y3 y4 y5 y6 y7, LeO (ebbtideref11_From.l0 k y0 y1 y2 y3 y4 y5 y6 y7) (ebbtideref11_From.l0 (k + 1) y0 y1 y2 y3 y4 y5 y6 y7)) ∧ (∀ y0 y1 y2 y3 y4 y5 y6 y7 y8, LeO (ebbtideref11_From.l1 k y0 y1 y2 y3 y4 y5 y6 y7 y8) (ebbtideref11_From.l1 (k + 1) y0 y1 y2 y3 y4 y5 y6 y7 y8))
 | 0 => ⟨fun _ _ _ _ _ _ _ _ r h => by simp [ebbtideref11_From.l0] at h, fun _ _ _ _ _ _ _ _ _ r h => by simp [ebbtideref11_From.l1] at h⟩
 | k + 1 => by
  obtain ⟨ih0, ih1⟩ := ebbtideref11_From.mono_l k
  refine ⟨?_, ?_⟩
  ·intro y0 y1 y2 y3 y4 y5 y6 y7
   unfold ebbtideref11_From.l0
   repeat' first
   | (with_reducible exact ih0 _ _ _ _ _ _ _ _)
   | (with_reducible exact ih1 _ _ _ _ _ _ _ _ _)
   | (with_reducible exact ebbtideref07_Steps.mono _ _ _ _ _)
   | (with_reducible exact LeO.refl _)
   | (with_reducible exact LeO.none _)
   | (with_reducible refine LeO.ite ?_ ?_)
   | (with_reducible refine LeO.bind ?_ (fun _ => ?_))
   | exact ih0 _ _ _ _ _ _ _ _
   | exact ih1 _ _ _ _ _ _ _ _ _
   | exact ebbtideref07_Steps.mono _ _ _ _ _
   | exact LeO.none _
   | refine LeO.ite ?_ ?_
   | refine LeO.bind ?_ (fun _ => ?_)
  ·intro y0 y1 y2 y3 y4 y5 y6 y7 y8
   unfold ebbtideref11_From.l1
   repeat' first
   | (with_reducible exact ih0 _ _ _ _ _ _ _ _)
   | (with_reducible exact ih1 _ _ _ _ _ _ _ _ _)
   | (with_reducible exact ebbtideref07_Steps.mono _ _ _ _ _)
   | (with_reducible exact LeO.refl _)
   | (with_reducible exact LeO.none _)
   | (with_reducible refine LeO.ite ?_ ?_)
   | (with_reducible refine LeO.bind ?_ (fun _ => ?_))
   | exact ih0 _ _ _ _ _ _ _ _
   | exact ih1 _ _ _ _ _ _ _ _ _
   | exact ebbtideref07_Steps.mono _ _ _ _ _
   | exact LeO.none _
   | refine LeO.ite ?_ ?_
   | refine LeO.bind ?_ (fun _ => ?_)
theorem ebbtideref11_From.mono : ∀ a0 a1 a2 a3 a4 k, LeO (ebbtideref11_From.f k a0 a1 a2 a3 a4) (ebbtideref11_From.f (k + 1) a0 a1 a2 a3 a4) := by
 intro a0 a1 a2 a3 a4 k
 obtain ⟨ih0, ih1⟩ := ebbtideref11_From.mono_l k
 unfold ebbtideref11_From.f
 repeat' first
   | (with_reducible exact ih0 _ _ _ _ _ _ _ _)
   | (with_reducible exact ih1 _ _ _ _ _ _ _ _ _)
   | (with_reducible exact ebbtideref07_Steps.mono _ _ _ _ _)
   | (with_reducible exact LeO.refl _)
   | (with_reducible exact LeO.none _)
   | (with_reducible refine LeO.ite ?_ ?_)
   | (with_reducible refine LeO.bind ?_ (fun _ => ?_))
   | exact ih0 _ _ _ _ _ _ _ _
   | exact ih1 _ _ _ _ _ _ _ _ _
   | exact ebbtideref07_Steps.mono _ _ _ _ _
   | exact LeO.none _
   | refine LeO.ite ?_ ?_
   | refine LeO.bind ?_ (fun _ => ?_)
def ebbtideref11_From.T11 : Bool × List (List Nat × List Nat) := (true, [([], []), ([], []), ([], []), ([1, 2], [1, 2]), ([3], [3]), ([0, 4], [0, 4]), ([], []), ([], []), ([], []), ([7, 8], [7, 8]), ([9], [9]), ([6, 10, 5], [6, 10]), ([5, 11, 0, 1, 2, 3, 4, 5], [5]), ([11, 12, 0, 1, 2, 3, 4, 5, 6, 7, 8, 9, 10, 11, 12], [11])])
def ebbtideref11_From.B11 : List Nat := [0, 0, 0, 6, 14, 31, 0, 0, 0, 384, 896, 2047, 4095, 8191]
theorem ebbtideref11_From.tab11 : rtab .any (opsOf Try.f71 11) = ebbtideref11_From.T11 := by kernel_rfl
theorem ebbtideref11_From.bits11 : waitsOk ebbtideref11_From.T11.2 ebbtideref11_From.B11 = true := by kernel_rfl
def ebbtideref11_From.T12 : Bool × List (List Nat × List Nat) := (true, [([], []), ([0], [0]), ([], []), ([1, 2], [1, 2]), ([3], [3]), ([], []), ([], []), ([], []), ([6, 7], [6, 7]), ([8], [8]), ([5, 9], [5, 9]), ([4, 10], [4, 10]), ([11, 10, 0, 1, 2, 3, 4, 5, 6, 7, 8, 9, 10, 11], [11])])
def ebbtideref11_From.B12 : List Nat := [0, 1, 0, 7, 15, 0, 0, 0, 192, 448, 992, 2047, 4095]
theorem ebbtideref11_From.tab12 : rtab .any (opsOf Try.f71 12) = ebbtideref11_From.T12 := by kernel_rfl
theorem ebbtideref11_From.bits12 : waitsOk ebbtideref11_From.T12.2 ebbtideref11_From.B12 = true := by kernel_rfl
set_option maxHeartbeats 8000000 in
set_option maxRecDepth 100000 in
theorem ebbtideref11_From.calls (k : Nat) (a0_0 : Int) (a0_1 : Bool) (A0_2 : Option Addr) (c0_2 : Nat) (l0_2 : List (S74)) (A1 : Option Addr) (c1 : Nat) (l1 : List Int) (a2 : Int) (r1 : List Int) (r2 : List Bool) (r3 : Bool) (w : World) (hr0_2 : Kd.C k74 w A0_2 l0_2.length l0_2) (hc0_2 : l0_2.length ≤ c0_2) (hr1 : Kd.C (Kd.int .i64) w A1 l1.length l1) (hc1 : l1.length ≤ c1) (h : ebbtideref11_From.f k a0_0 a0_1 l0_2 l1 a2 = some (r1, r2, r3)) :
  Calls Try.prog 71 #[.agg #[.int .i64 a0_0, .bool a0_1, .slice A0_2 l0_2.length c0_2], .slice A1 l1.length c1, .int .i64 a2] w fun e w' => ∃ v0_ v1_ : Value, e = .returned (.agg #[v0_, v1_, .bool r3]) ∧ Kd.R (Kd.int .i64) 3 w' w.heap.size (fun _ => True) v0_ r1 ∧ Kd.R Kd.bool 4 w' w.heap.size (fun _ => True) v1_ r2 ∧ Below w.heap.size w w' := by
 have hu24 := Try.underlying24
 have hu66 := Try.underlying66
 have hu38 := Try.underlying38
 have HR0_2 := Aside0.mk hr0_2
 have HC0_2 := Aside0.mk hc0_2
 clear hr0_2 hc0_2
 have HR1 := Aside0.mk hr1
 have HC1 := Aside0.mk hc1
 clear hr1 hc1
 have HB := Aside0.mk (Below.refl w.heap.size w)
 have H : (if 0 ≤ a0_0 then (if (a0_0 : Int).toNat ≤ 35184372088832 then (if (a0_0 : Int).toNat ≤ 281474976710656 then ((some (List.replicate (a0_0 : Int).toNat false : List Bool)).bind fun y132 => (if 0 ≤ a2 then (if a2 < (y132.length : Int) then ((ebbtideref07_Steps.f k a0_0 a0_1 l0_2 l1).bind fun t137 => (ebbtideref11_From.l0 k t137 0 a0_0 a0_1 l0_2 (List.replicate (a0_0 : Int).toNat 0) (y132.set (a2 : Int).toNat true) false)) else (none)) else (none))) else (none)) else (none)) else (none)) = some (r1, r2, r3) := h
 clear h
 by_cases c4 : 0 ≤ a0_0
 rotate_left
 ·rw [if_neg c4] at H
  exact absurd H (by simp)

 rw [if_pos c4] at H
 have c4b0 := eq_true c4
 have c4b1 : decide (0 ≤ a0_0) = true := decide_eq_true c4
 clear c4
 by_cases c5 : (a0_0 : Int).toNat ≤ 35184372088832
 rotate_left
 ·rw [if_neg c5] at H
  exact absurd H (by simp)
 rw [if_pos c5] at H
 have c5b0 := eq_true c5
 have c5b1 : decide ((a0_0 : Int).toNat ≤ 35184372088832) = true := decide_eq_true c5
 clear c5
 obtain ⟨y129, hy129⟩ : ∃ y_ : List Int, y_ = (List.replicate (a0_0 : Int).toNat 0) := ⟨_, rfl⟩
 replace H : (if (a0_0 : Int).toNat ≤ 281474976710656 then ((some (List.replicate (a0_0 : Int).toNat false : List Bool)).bind fun y132 => (if 0 ≤ a2 then (if a2 < (y132.length : Int) then ((ebbtideref07_Steps.f k a0_0 a0_1 l0_2 l1).bind fun t137 => (ebbtideref11_From.l0 k t137 0 a0_0 a0_1 l0_2 y129 (y132.set (a2 : Int).toNat true) false)) else (none)) else (none))) else (none)) = some (r1, r2, r3) := by first | (rw [hy129]; with_reducible exact H) | (have H2_ := (Option.bind_some _ _).symm.trans H; rw [hy129]; with_reducible exact H2_) | (have H2_ := (Option.bind_some _ _).symm.trans H; with_reducible exact H2_) | with_reducible exact H | (rw [hy129]; exact H) | exact H
 have Ny129 := Aside0.mk hy129
 clear hy129
 by_cases c6 : (a0_0 : Int).toNat ≤ 281474976710656
 rotate_left
 ·rw [if_neg c6] at H
  exact absurd H (by simp)
 rw [if_pos c6] at H
 have c6b0 := eq_true c6
 have c6b1 : decide ((a0_0 : Int).toNat ≤ 281474976710656) = true := decide_eq_true c6
 clear c6
 obtain ⟨y132, hy132⟩ : ∃ y_ : List Bool, y_ = (List.replicate (a0_0 : Int).toNat false) := ⟨_, rfl⟩
 replace H : (if 0 ≤ a2 then (if a2 < (y132.length : Int) then ((ebbtideref07_Steps.f k a0_0 a0_1 l0_2 l1).bind fun t137 => (ebbtideref11_From.l0 k t137 0 a0_0 a0_1 l0_2 y129 (y132.set (a2 : Int).toNat true) false)) else (none)) else (none)) = some (r1, r2, r3) := by first | (rw [hy132]; with_reducible exact H) | (have H2_ := (Option.bind_some _ _).symm.trans H; rw [hy132]; with_reducible exact H2_) | (have H2_ := (Option.bind_some _ _).symm.trans H; with_reducible exact H2_) | with_reducible exact H | (rw [hy132]; exact H) | exact H
 have Ny132 := Aside0.mk hy132
 clear hy132
 by_cases c7 : 0 ≤ a2
 rotate_left
 ·rw [if_neg c7] at H
  exact absurd H (by simp)
 rw [if_pos c7] at H
 have c7b0 : decide (0 ≤ a2) = true := decide_eq_true c7
 clear c7
 by_cases c8 : a2 < (y132.length : Int)
 rotate_left
 ·rw [if_neg c8] at H
  exact absurd H (by simp)
 rw [if_pos c8] at H
 have c8b0 : decide (a2 < (y132.length : Int)) = true := decide_eq_true c8
 clear c8
 obtain ⟨y136, hy136⟩ : ∃ y_ : List Bool, y_ = (y132.set (a2 : Int).toNat true) := ⟨_, rfl⟩
 replace H : ((ebbtideref07_Steps.f k a0_0 a0_1 l0_2 l1).bind fun t137 => (ebbtideref11_From.l0 k t137 0 a0_0 a0_1 l0_2 y129 y136 false)) = some (r1, r2, r3) := by first | (rw [hy136]; with_reducible exact H) | (have H2_ := (Option.bind_some _ _).symm.trans H; rw [hy136]; with_reducible exact H2_) | (have H2_ := (Option.bind_some _ _).symm.trans H; with_reducible exact H2_) | with_reducible exact H | (rw [hy136]; exact H) | exact H
 have Ny136 := Aside0.mk hy136
 clear hy136
 replace H := Option.bind_eq_some_iff.mp H
 obtain ⟨t137, A100, H⟩ := H
 replace H : (ebbtideref11_From.l0 k t137 0 a0_0 a0_1 l0_2 y129 y136 false) = some (r1, r2, r3) := H
 have A10 := Aside0.mk A100
 clear A100
 have H' := Aside0.mk H
 clear H
 go_enter Try.func71, Try.ntmps71
 go_wp2_with (first | ((with_reducible refine gate_dst (N := 3) rfl ?_); refine box_event ?hg (N := 3) ?hd (cs := #[.int .i64 a0_0, .bool a0_1, .slice A0_2 l0_2.length c0_2]) (t := 24) ?hr ?_; (case hd => rfl); (case hg => rfl); (case hr => first | (go_simp; done) | (go_simp; rfl)); intro gb127 hg w11 hbox hb; have n0_ := Aside0.mk (below_step HB.out hb); have n1_ := Aside0.mk (hbox); have n2_ := Aside0.mk ((by rw [hg]; exact (below_size HB.out) : w.heap.size ≤ gb127)); have n3_ := Aside0.mk ((by rw [hg]; exact (below_size HB.out) : w.heap.size ≤ gb127)); clear HB; have HB := n0_; have BK127 := n1_; have GW127 := n2_; have GE127 := n3_; clear n0_ n1_ n2_ n3_; clear hb hbox hg) | ((with_reducible refine gate_dst (N := 6) rfl ?_); refine box_event ?hg (N := 6) ?hd (cs := #[.slice none 0 0, .slice none 0 0, .bool false]) (t := 66) ?hr ?_; (case hd => rfl); (case hg => rfl); (case hr => first | (go_simp; done) | (go_simp; rfl)); intro gb128 hg w12 hbox hb; have n0_ := Aside0.mk (blk_below BK127.out hb); have n1_ := Aside0.mk (below_step HB.out hb); have n2_ := Aside0.mk (hbox); have n3_ := Aside0.mk ((by rw [hg]; exact (below_size HB.out) : w.heap.size ≤ gb128)); have n4_ := Aside0.mk ((by rw [hg]; exact (below_size HB.out) : w.heap.size ≤ gb128)); have n5_ := Aside0.mk ((by rw [hg]; exact Nat.ne_of_lt (blk_lt BK127.out) : gb127 ≠ gb128)); have n6_ := Aside0.mk ((by rw [hg]; exact Nat.ne_of_gt (blk_lt BK127.out) : gb128 ≠ gb127)); clear BK127; clear HB; have BK127 := n0_; have HB := n1_; have BK128 := n2_; have GW128 := n3_; have GE128 := n4_; have NB127_128 := n5_; have NB128_127 := n6_; clear n0_ n1_ n2_ n3_ n4_ n5_ n6_; clear hb hbox hg; have hnb13 := NB127_128.out; have hnc13 := NB128_127.out; have hcz14_0 : w12.cell? ⟨gb127, 0, none⟩ = some (.int .i64 a0_0) := (blk_cell BK127.out 0).trans rfl; have hcz14_1 : w12.cell? ⟨gb127, 1, none⟩ = some (.bool a0_1) := (blk_cell BK127.out 1).trans rfl; have hcz14_2 : w12.cell? ⟨gb127, 2, none⟩ = some (.slice A0_2 l0_2.length c0_2) := (blk_cell BK127.out 2).trans rfl; have hfz14_0 := blk_frozen BK127.out 0; have hfz14_1 := blk_frozen BK127.out 1; have hfz14_2 := blk_frozen BK127.out 2) | fail)
 refine start_ (n := 9) (S := fun w' => w'.cell? ⟨gb127, 0, none⟩ = some (.int .i64 a0_0)) (ds := [8]) #[false, false, false, false, false, false, false, false, false] (by kernel_rfl) rfl rfl hcz14_0 (fun hHeld => ?_)
 have d0_ := Aside0.mk (below_drew HB.out)
 have d1_ := Aside0.mk (show w12.drew.heap[gb127]? = some (.cells #[.int .i64 a0_0, .bool a0_1, .slice A0_2 l0_2.length c0_2] 24 (0, 0)) from BK127.out)
 have d2_ := Aside0.mk (show w12.drew.heap[gb128]? = some (.cells #[.slice none 0 0, .slice none 0 0, .bool false] 66 (0, 0)) from BK128.out)
 clear HB BK127 BK128
 have HB := d0_
 have BK127 := d1_
 have BK128 := d2_
 clear d0_ d1_ d2_
 generalize w12.drew = w14 at hHeld HB BK127 BK128 ⊢
 have L0_ : Aside0 (gb127 < w14.heap.size) := ⟨blk_lt BK127.out⟩
 have L1_ : Aside0 (gb128 < w14.heap.size) := ⟨blk_lt BK128.out⟩
 refine pure_ (i := 0) (N := some 14) (v := ?_) (a' := ?_) #[true, false, false, false, false, false, false, false, false] rfl rfl (by kernel_rfl) (fun _ _ _ h => h) (Or.inl ⟨by rfl, ?_⟩) ?_ ?_
 rotate_left
 ·intro w'
  go_simp
  with_reducible rfl
 rotate_left
 ·simp only [Act.put, List.setIfInBounds_toArray, List.set_cons_zero, List.set_cons_succ, i64_w, i32_w]
  rfl
 refine pure_ (i := 3) (N := some 17) (v := ?_) (a' := ?_) #[true, false, false, true, false, false, false, false, false] rfl rfl (by kernel_rfl) (fun _ _ _ h => h) (Or.inl ⟨by rfl, ?_⟩) ?_ ?_
 rotate_left
 ·intro w'
  go_simp
  with_reducible rfl
 rotate_left
 ·simp only [Act.put, List.setIfInBounds_toArray, List.set_cons_zero, List.set_cons_succ, i64_w, i32_w]
  rfl
 refine take_ (i := 1) (N := some 15) (v := ?_) (a' := ?_) #[true, true, false, true, false, false, false, false, false] rfl rfl (by kernel_rfl) (fun _ _ _ h => h) (Or.inl ⟨by rfl, ?_⟩) hHeld ?_ ?_
 rotate_left
 ·rintro w' s0
  go_simp
  with_reducible rfl
 rotate_left
 ·simp only [Act.put, List.setIfInBounds_toArray, List.set_cons_zero, List.set_cons_succ, i64_w, i32_w]
  rfl
 refine take_ (i := 4) (N := some 18) (v := ?_) (a' := ?_) #[true, true, false, true, true, false, false, false, false] rfl rfl (by kernel_rfl) (fun _ _ _ h => h) (Or.inl ⟨by rfl, ?_⟩) hHeld ?_ ?_
 rotate_left
 ·rintro w' s0
  go_simp
  with_reducible rfl
 rotate_left
 ·simp only [Act.put, List.setIfInBounds_toArray, List.set_cons_zero, List.set_cons_succ, i64_w, i32_w]
  rfl
 refine join_ (σ := Value × Value × Nat) 1 #[true, true, true, true, true, true, true, true, false] (fun s_ => [(16, s_.1), (19, s_.2.1), (20, .agg #[s_.1, s_.2.1, .bool false]), (7, .pointer (some ⟨s_.2.2, 0, none⟩))]) (fun s_ w' => w'.cell? ⟨gb127, 0, none⟩ = some (.int .i64 a0_0) ∧ Below w14.heap.size w14 w' ∧ Kd.R (Kd.int .i64) 3 w' w14.heap.size (fun _ => True) s_.1 y129 ∧ Kd.R Kd.bool 4 w' w14.heap.size (fun _ => True) s_.2.1 y132 ∧ w14.heap.size ≤ s_.2.2 ∧ w'.heap[s_.2.2]? = some (.cells #[.slice none 0 0, .slice none 0 0, .bool false] 66 (0, 0))) ?_ ?_
 rotate_left
 ·intro hCont
  refine H.makers_ (fuel := 2) 3 #[true, true, true, true, true, true, false, true, false] [7] #[true, true, true, true, true, true, false, false, false] [⟨2, 16, (fun v w' => Kd.R (Kd.int .i64) 3 w' w14.heap.size (fun _ => True) v y129)⟩, ⟨5, 19, (fun v w' => Kd.R Kd.bool 4 w' w14.heap.size (fun _ => True) v y132)⟩, ⟨7, 7, (fun v w' => ∃ g, v = .pointer (some ⟨g, 0, none⟩) ∧ w14.heap.size ≤ g ∧ w'.heap[g]? = some (.cells #[.slice none 0 0, .slice none 0 0, .bool false] 66 (0, 0)))⟩] rfl (by simp) (by simp) ?_ ?_ (by kernel_rfl) hHeld ?_ ?_
  ·intro m hm
   simp only [List.mem_cons, List.not_mem_nil, or_false] at hm
   rcases hm with rfl | rfl | rfl
   ·refine ⟨_, rfl, rfl, by simp, fun a' w' K he hS hb hK => ?_⟩
    refine Kd.R_make_step (Kd.int .i64) (w0 := w') w14.heap.size 3 (by rfl) (N := 16) rfl 25 (.tmp 15) (.tmp 15) rfl a0_0 ((he 15 (by simp)).trans rfl) ((he 15 (by simp)).trans rfl) Try.underlying25 (.int .i64 0) 8 info3 rfl (by decide) (by omega) 0 (ok := fun _ => True) (okp := fun _ => False) rfl (fun _ hk => hk.elim) trivial (of_decide_eq_true (by first | (with_reducible assumption) | assumption)) (by have h1_ : (a0_0 : Int).toNat ≤ 35184372088832 := (of_decide_eq_true (by first | (with_reducible assumption) | assumption)); omega) (Below.refl _ _) hb.size (fun v1 w1 hr hb1 hg hat => ?_)
    rw [← Ny129.out] at hr
    have hbb : Below w'.heap.size w' w1 := ⟨hg.os, hg.tape, hg.output, hg.size, fun k hk => hg.block k hk (by simp)⟩
    exact hK v1 w1 (pw_cell_below hbb hS) hbb hr
   ·refine ⟨_, rfl, rfl, by simp, fun a' w' K he hS hb hK => ?_⟩
    refine Kd.R_make_step Kd.bool (w0 := w') w14.heap.size 4 (by rfl) (N := 19) rfl 26 (.tmp 18) (.tmp 18) rfl a0_0 ((he 18 (by simp)).trans rfl) ((he 18 (by simp)).trans rfl) Try.underlying26 (.bool false) 1 info4 rfl (by decide) (by omega) false (ok := fun _ => True) (okp := fun _ => False) rfl (fun _ hk => hk.elim) trivial (of_decide_eq_true (by first | (with_reducible assumption) | assumption)) (by have h1_ : (a0_0 : Int).toNat ≤ 281474976710656 := (of_decide_eq_true (by first | (with_reducible assumption) | assumption)); omega) (Below.refl _ _) hb.size (fun v1 w1 hr hb1 hg hat => ?_)
    rw [← Ny132.out] at hr
    have hbb : Below w'.heap.size w' w1 := ⟨hg.os, hg.tape, hg.output, hg.size, fun k hk => hg.block k hk (by simp)⟩
    exact hK v1 w1 (pw_cell_below hbb hS) hbb hr
   ·refine ⟨_, rfl, rfl, by simp, fun a' w' K he hS hb hK => ?_⟩
    refine box_step ?hg (N := 7) ?hd (cs := #[.slice none 0 0, .slice none 0 0, .bool false]) (t := 66) ?hr ?_; (case hd => rfl); (case hg => rfl); (case hr => first | (go_simp; done) | (go_simp; rfl))
    intro g hg w1 hbox hbb
    exact hK _ w1 (pw_cell_below hbb hS) hbb ⟨g, rfl, by rw [hg]; exact hb.size, hbox⟩
  ·intro m hm
   simp only [List.mem_cons, List.not_mem_nil, or_false] at hm
   rcases hm with rfl | rfl | rfl
   ·exact fun v w1 w2 hb hg => Kd.R_below hg hb
   ·exact fun v w1 w2 hb hg => Kd.R_below hg hb
   ·rintro v w1 w2 hb ⟨g, e, h1, h2⟩
    exact ⟨g, e, h1, blk_below h2 hb⟩
  ·skip
   intro vs w15 hb15 hHeld hG
   have p0 := hG _ (List.mem_cons_self ..)
   have p1 := hG _ (List.mem_cons_of_mem _ (List.mem_cons_self ..))
   have p2 := hG _ (List.mem_cons_of_mem _ (List.mem_cons_of_mem _ (List.mem_cons_self ..)))
   clear hG
   dsimp only at p0 p1
   obtain ⟨A0, k0, e0⟩ := Kd.R_slice p0
   obtain ⟨A1_, k1, e1⟩ := Kd.R_slice p1
   obtain ⟨g_, e2, p2a, p2b⟩ := p2
   dsimp only at e2
   refine norm_ (a' := ?_) ?_ ?_
   rotate_left
   ·simp only [List.map_cons, List.map_nil, putAll, Act.put, List.setIfInBounds_toArray, List.set_cons_zero, List.set_cons_succ, e0, e1, e2]
    rfl
   rw [e0] at p0
   rw [e1] at p1
   refine pure_ (i := 6) (N := some 20) (v := ?_) (a' := ?_) #[true, true, true, true, true, true, true, true, false] rfl rfl (by kernel_rfl) (fun _ _ _ h => h) (Or.inl ⟨by rfl, ?_⟩) ?_ ?_
   rotate_left
   ·intro w'
    go_simp
    with_reducible rfl
   rotate_left
   ·simp only [Act.put, List.setIfInBounds_toArray, List.set_cons_zero, List.set_cons_succ, i64_w, i32_w]
    rfl
   exact norm_ (by (simp only [putAll, Act.put, List.setIfInBounds_toArray, List.set_cons_zero, List.set_cons_succ]) <;> rfl) (hCont (.slice A0 y129.length k0, .slice A1_ y132.length k1, g_) _ ⟨hHeld, hb15, p0, p1, p2a, p2b⟩)
  ·skip
   intro vs w15 hb15 hHeld hG
   have p0 := hG _ (List.mem_cons_self ..) (by simp)
   have p1 := hG _ (List.mem_cons_of_mem _ (List.mem_cons_self ..)) (by simp)
   clear hG
   dsimp only at p0 p1
   obtain ⟨A0, k0, e0⟩ := Kd.R_slice p0
   obtain ⟨A1_, k1, e1⟩ := Kd.R_slice p1
   show wpAnyLast _ _ _ _ _ _ 3 _ _ _
   refine norm_ (a' := ?_) ?_ ?_
   rotate_left
   ·show putAll _ [(16, vs 16), (19, vs 19)] = _
    simp only [e0, e1, putAll, Act.put, List.setIfInBounds_toArray, List.set_cons_zero, List.set_cons_succ]
    rfl
   rw [e0] at p0
   rw [e1] at p1
   refine pure_ (i := 6) (N := some 20) (v := ?_) (a' := ?_) #[true, true, true, true, true, true, true, false, false] rfl rfl (by kernel_rfl) (fun _ _ _ h => h) (Or.inl ⟨by rfl, ?_⟩) ?_ ?_
   rotate_left
   ·intro w'
    go_simp
    with_reducible rfl
   rotate_left
   ·simp only [Act.put, List.setIfInBounds_toArray, List.set_cons_zero, List.set_cons_succ, i64_w, i32_w]
    rfl
   refine one_ (i := 7) (N := some 7) #[true, true, true, true, true, true, true, true, false] rfl rfl (by kernel_rfl) (by decide) (fun K hK => ?_)
   refine box_step ?hg (N := 7) ?hd (cs := #[.slice none 0 0, .slice none 0 0, .bool false]) (t := 66) ?hr ?_; (case hd => rfl); (case hg => rfl); (case hr => first | (go_simp; done) | (go_simp; rfl))
   intro g_ hg w16 hbox hbb
   refine hK.out _ _ (pw_cell_below hbb hHeld) (fun hHeld => ?_)
   exact norm_ (by (simp only [putAll, Act.put, List.setIfInBounds_toArray, List.set_cons_zero, List.set_cons_succ]) <;> rfl) (hCont (.slice A0 y129.length k0, .slice A1_ y132.length k1, g_) _ ⟨hHeld, below_then hb15 hb15.size hbb, Kd.R_below p0 hbb, Kd.R_below p1 hbb, by rw [hg]; exact hb15.size, hbox⟩)
 rintro ⟨v0, v1, gb135⟩ w22 ⟨hHeld, hb15, p0, p1, p2a, p2b⟩
 dsimp only at p0 p1 p2a p2b
 refine norm_ (a' := ?_) ?_ ?_
 rotate_left
 ·simp only [putAll, Act.put, List.setIfInBounds_toArray, List.set_cons_zero, List.set_cons_succ]
  rfl
 obtain ⟨Ao21, co21, e0⟩ := Kd.R_slice p0
 obtain ⟨Ao20, co20, e1⟩ := Kd.R_slice p1
 subst e0
 subst e1
 have HO131 := Aside0.mk (Kd.R_lower p0 HB.out.size)
 have HO134 := Aside0.mk (Kd.R_lower p1 HB.out.size)
 have BK135 := Aside0.mk p2b
 have GE135 : Aside0 (w.heap.size ≤ gb135) := ⟨Nat.le_trans HB.out.size p2a⟩
 have GW135 := GE135
 have NB127_135 : Aside0 (gb127 ≠ gb135) := ⟨by have := L0_.out; omega⟩
 have NB135_127 : Aside0 (gb135 ≠ gb127) := ⟨by have := L0_.out; omega⟩
 have NB128_135 : Aside0 (gb128 ≠ gb135) := ⟨by have := L1_.out; omega⟩
 have NB135_128 : Aside0 (gb135 ≠ gb128) := ⟨by have := L1_.out; omega⟩
 have d0_ := Aside0.mk (below_step HB.out hb15)
 have d1_ := Aside0.mk (blk_below BK127.out hb15)
 have d2_ := Aside0.mk (blk_below BK128.out hb15)
 clear HB BK127 BK128 p0 p1 p2a p2b hb15 L0_ L1_
 have HB := d0_
 have BK127 := d1_
 have BK128 := d2_
 clear d0_ d1_ d2_
 refine last_ (i := 8) (N := none) #[true, true, true, true, true, true, true, true, true] rfl rfl (by kernel_rfl) (by decide) (fun K hK => ?_)
 have hs0 : w22.cell? ⟨gb135, 0, none⟩ = some (.slice none 0 0) := (blk_cell BK135.out 0).trans rfl
 have hfs0 := blk_frozen BK135.out 0
 have hs1 : w22.cell? ⟨gb135, 1, none⟩ = some (.slice none 0 0) := (blk_cell BK135.out 1).trans rfl
 have hfs1 := blk_frozen BK135.out 1
 have hs2 : w22.cell? ⟨gb135, 2, none⟩ = some (.bool false) := (blk_cell BK135.out 2).trans rfl
 have hfs2 := blk_frozen BK135.out 2
 refine skip_ (w1 := (((w22.setCell ⟨gb135, 0, none⟩ (.slice Ao21 y129.length co21)).setCell ⟨gb135, 1, none⟩ (.slice Ao20 y132.length co20)).setCell ⟨gb135, 2, none⟩ (.bool false))) (by rfl) rfl ?_ ?_
 ·go_simp
 refine hK.out _ _ ?_
 clear hK K hs0 hs1 hs2 hfs0 hfs1 hfs2 hHeld
 refine done_ (by kernel_rfl) ?_
 obtain ⟨w26, hw⟩ : ∃ x_, x_ = (((w22.setCell ⟨gb135, 0, none⟩ (.slice Ao21 y129.length co21)).setCell ⟨gb135, 1, none⟩ (.slice Ao20 y132.length co20)).setCell ⟨gb135, 2, none⟩ (.bool false)) := ⟨_, rfl⟩
 rw [← hw]
 have n0_ : Aside0 (Kd.R (Kd.int .i64) 3 w26 w.heap.size (fun _ => True) (.slice Ao21 y129.length co21) y129) := ⟨(by rw [hw]; exact (by (with_reducible repeat (first | apply Kd.R_alloc | apply Kd.R_drewN | apply Kd.R_drew)); exact Kd.R_mono (Kd.R_far (p := ⟨gb135, 2, none⟩) (Kd.R_far (p := ⟨gb135, 1, none⟩) (Kd.R_far (p := ⟨gb135, 0, none⟩) (Kd.R_types HO131.out BK135.out (by decide)) (fun _ hk => hk.2) (.slice Ao21 y129.length co21)) (fun _ hk => hk.2) (.slice Ao20 y132.length co20)) (fun _ hk => hk.2) (.bool false)) (fun _ hk => trivial)))⟩; have n1_ : Aside0 (Kd.R Kd.bool 4 w26 w.heap.size (fun _ => True) (.slice Ao20 y132.length co20) y132) := ⟨(by rw [hw]; exact (by (with_reducible repeat (first | apply Kd.R_alloc | apply Kd.R_drewN | apply Kd.R_drew)); exact Kd.R_mono (Kd.R_far (p := ⟨gb135, 2, none⟩) (Kd.R_far (p := ⟨gb135, 1, none⟩) (Kd.R_far (p := ⟨gb135, 0, none⟩) (Kd.R_types HO134.out BK135.out (by decide)) (fun _ hk => hk.2) (.slice Ao21 y129.length co21)) (fun _ hk => hk.2) (.slice Ao20 y132.length co20)) (fun _ hk => hk.2) (.bool false)) (fun _ hk => trivial)))⟩; have n2_ : Aside0 (w26.heap[gb127]? = some (.cells #[.int .i64 a0_0, .bool a0_1, .slice A0_2 l0_2.length c0_2] 24 (0, 0))) := ⟨(by rw [hw]; exact (by (with_reducible repeat (first | refine blk_drewN ?_ _ | refine blk_drew ?_ | refine blk_alloc ?_ _)); refine blk_far ?_ NB127_135.out _; (with_reducible repeat (first | refine blk_drewN ?_ _ | refine blk_drew ?_ | refine blk_alloc ?_ _)); refine blk_far ?_ NB127_135.out _; (with_reducible repeat (first | refine blk_drewN ?_ _ | refine blk_drew ?_ | refine blk_alloc ?_ _)); refine blk_far ?_ NB127_135.out _; (with_reducible repeat (first | refine blk_drewN ?_ _ | refine blk_drew ?_ | refine blk_alloc ?_ _)); exact BK127.out))⟩; have n3_ : Aside0 (w26.heap[gb128]? = some (.cells #[.slice none 0 0, .slice none 0 0, .bool false] 66 (0, 0))) := ⟨(by rw [hw]; exact (by (with_reducible repeat (first | refine blk_drewN ?_ _ | refine blk_drew ?_ | refine blk_alloc ?_ _)); refine blk_far ?_ NB128_135.out _; (with_reducible repeat (first | refine blk_drewN ?_ _ | refine blk_drew ?_ | refine blk_alloc ?_ _)); refine blk_far ?_ NB128_135.out _; (with_reducible repeat (first | refine blk_drewN ?_ _ | refine blk_drew ?_ | refine blk_alloc ?_ _)); refine blk_far ?_ NB128_135.out _; (with_reducible repeat (first | refine blk_drewN ?_ _ | refine blk_drew ?_ | refine blk_alloc ?_ _)); exact BK128.out))⟩; have n4_ : Aside0 (w26.heap[gb135]? = some (.cells #[.slice Ao21 y129.length co21, .slice Ao20 y132.length co20, .bool false] 66 (0, 0))) := ⟨(by rw [hw]; exact (by (with_reducible repeat (first | refine blk_drewN ?_ _ | refine blk_drew ?_ | refine blk_alloc ?_ _)); refine blk_put (cs := #[.slice Ao21 y129.length co21, .slice Ao20 y132.length co20, .bool false]) ?_ 2 _ rfl; (with_reducible repeat (first | refine blk_drewN ?_ _ | refine blk_drew ?_ | refine blk_alloc ?_ _)); refine blk_put (cs := #[.slice Ao21 y129.length co21, .slice none 0 0, .bool false]) ?_ 1 _ rfl; (with_reducible repeat (first | refine blk_drewN ?_ _ | refine blk_drew ?_ | refine blk_alloc ?_ _)); refine blk_put (cs := #[.slice none 0 0, .slice none 0 0, .bool false]) ?_ 0 _ rfl; (with_reducible repeat (first | refine blk_drewN ?_ _ | refine blk_drew ?_ | refine blk_alloc ?_ _)); exact BK135.out))⟩; have n5_ : Aside0 (Below w.heap.size w w26) := ⟨(by rw [hw]; exact (by repeat (first | (with_reducible first | exact HB.out | apply below_alloc | apply pw_below_drewN | apply below_drew1 | refine below_set ?_ GE127.out | refine below_set ?_ GE128.out | refine below_set ?_ GE135.out) | exact HB.out)))⟩; clear hw; clear HO131; clear HO134; clear BK127; clear BK128; clear BK135; clear HB; have HO131 := n0_; have HO134 := n1_; have BK127 := n2_; have BK128 := n3_; have BK135 := n4_; have HB := n5_; clear n0_ n1_ n2_ n3_ n4_ n5_; have hcz27_0 : w26.cell? ⟨gb135, 0, none⟩ = some (.slice Ao21 y129.length co21) := (blk_cell BK135.out 0).trans rfl; have hcz27_1 : w26.cell? ⟨gb135, 1, none⟩ = some (.slice Ao20 y132.length co20) := (blk_cell BK135.out 1).trans rfl; have hcz27_2 : w26.cell? ⟨gb135, 2, none⟩ = some (.bool false) := (blk_cell BK135.out 2).trans rfl; have hfz27_0 := blk_frozen BK135.out 0; have hfz27_1 := blk_frozen BK135.out 1; have hfz27_2 := blk_frozen BK135.out 2; have p9 : 0 ≤ (a2 : Int) := of_decide_eq_true (by first | (with_reducible assumption) | assumption); have q9 : (a2 : Int) < ((y132.length : Int) : Int) := of_decide_eq_true (by first | (with_reducible assumption) | assumption); obtain ⟨go9, co9, eo9, gb9, gl9, cl9, HG9⟩ := Kd.R_form HO134.out (by omega); (first | cases eo9 | (injection eo9 with ea_ en_ ec_; (first | subst ea_ | (injection ea_ with ea_; subst ea_)); subst ec_; clear en_)); have GB9 := Aside0.mk gb9; have GG9 := Aside0.mk HG9; clear gb9 gl9 HG9; obtain ⟨hx9_0, hf9_0⟩ := Kd.R_celln false HO134.out (a2 : Int) p9 q9; replace p9 := eq_true p9; replace q9 := eq_true q9; obtain ⟨hy28_, hz28_⟩ := Kd.R_celln false HO134.out (a2 : Int) (of_decide_eq_true (by first | (with_reducible assumption) | assumption)) (of_decide_eq_true (by first | (with_reducible assumption) | assumption)); have HP28 := Kd.R_putg HO134.out (a2 : Int) true
 go_wp2_with (first | ((with_reducible refine gate_store (t := 4) (p := 24) rfl ?_); refine store_event (t := 4) (p := 24) (v := ?vo_w29) (w1 := (w26.setCell ⟨go9, (a2 : Int).toNat, none⟩ (.bool true))) ?hg ?ho ?hn ?hr ?_; (case ho => rfl); (case hg => rfl); (case hn => rfl); (case hr => first | (go_simp; done) | (go_simp; rfl)); intro w29 hw; have hg : w26.grownBy w29 (some go9) := (by rw [hw]; exact HP28.2); have hp_ : Kd.R Kd.bool 4 w29 w.heap.size (fun _ => True) (.slice (some ⟨go9, 0, none⟩) y132.length co20) y136 := (by rw [hw, Ny136.out]; exact HP28.1); clear HP28; have n0_ := Aside0.mk (blk_grown BK127.out hg (Kd.R_ne HO134.out BK127.out (by decide))); have n1_ := Aside0.mk (blk_grown BK128.out hg (Kd.R_ne HO134.out BK128.out (by decide))); have n2_ := Aside0.mk (Kd.R_over' (v := (.slice (some ⟨go9, 0, none⟩) y132.length co20)) HO131.out (Kd.R_typed HO134.out) (by decide) hg); have n3_ := Aside0.mk (hp_); have n4_ := Aside0.mk (blk_grown BK135.out hg (Kd.R_ne HO134.out BK135.out (by decide))); have n5_ := Aside0.mk ((by rw [hw]; exact below_set (HB.out) GB9.out : Below w.heap.size w w29)); clear BK127; clear BK128; clear HO131; clear HO134; clear BK135; clear HB; have BK127 := n0_; have BK128 := n1_; have HO131 := n2_; have HO134 := n3_; have BK135 := n4_; have HB := n5_; clear n0_ n1_ n2_ n3_ n4_ n5_; clear hg hw hp_; have hcz30_0 : w29.cell? ⟨gb127, 0, none⟩ = some (.int .i64 a0_0) := (blk_cell BK127.out 0).trans rfl; have hcz30_1 : w29.cell? ⟨gb127, 1, none⟩ = some (.bool a0_1) := (blk_cell BK127.out 1).trans rfl; have hcz30_2 : w29.cell? ⟨gb127, 2, none⟩ = some (.slice A0_2 l0_2.length c0_2) := (blk_cell BK127.out 2).trans rfl; have hfz30_0 := blk_frozen BK127.out 0; have hfz30_1 := blk_frozen BK127.out 1; have hfz30_2 := blk_frozen BK127.out 2) | ((with_reducible refine gate_callee (f := 43) rfl ?_); refine goesL_ (some 27) rfl rfl Try.func43 (by kernel_rfl) rfl #[.agg #[.int .i64 a0_0, .bool a0_1, .slice A0_2 l0_2.length c0_2], .slice A1 l1.length c1] rfl (by (try simp only [List.map_toArray, List.map_cons, List.map_nil]); first | done | rfl | (simp only [List.length_drop, List.length_take]; rfl)) ?_; (with_reducible refine (ebbtideref07_Steps.calls k a0_0 a0_1 _ _ l0_2 _ _ l1 t137 _ ?side1 ?side2 ?side3 ?side4 A10.out).mono ?_); (case side1 => repeat (first | exact (Kd.C_below HR0_2.out HB.out) | (with_reducible refine Kd.C_alloc ?_ _) | (with_reducible refine Kd.C_drewN ?_ _) | (with_reducible refine Kd.C_drew ?_))); (case side2 => exact HC0_2.out); (case side3 => repeat (first | exact (Kd.C_below HR1.out HB.out) | (with_reducible refine Kd.C_alloc ?_ _) | (with_reducible refine Kd.C_drewN ?_ _) | (with_reducible refine Kd.C_drew ?_))); (case side4 => exact HC1.out); rintro e w31 ⟨v138, rfl, ho0, hb⟩; refine ⟨_, rfl, ?_⟩; have n0_ := Aside0.mk (Kd.R_below HO131.out hb); have n1_ := Aside0.mk (Kd.R_below HO134.out hb); have n2_ := Aside0.mk (Kd.R_lower ho0 (below_size HB.out)); have n3_ := Aside0.mk (blk_below BK127.out hb); have n4_ := Aside0.mk (blk_below BK128.out hb); have n5_ := Aside0.mk (blk_below BK135.out hb); have n6_ := Aside0.mk (below_step HB.out hb); clear HO131; clear HO134; clear BK127; clear BK128; clear BK135; clear HB; have HO131 := n0_; have HO134 := n1_; have HO139 := n2_; have BK127 := n3_; have BK128 := n4_; have BK135 := n5_; have HB := n6_; clear n0_ n1_ n2_ n3_ n4_ n5_ n6_; (try clear hb); (try clear hb2); (try clear hk); (try clear hi); (try clear ho0)))
 go_loopg [9] k (fun kq v9 w' => ∃ (x9_1 : Int) (x136000_1 : List Int) (x136001_1 : List Bool) (x136002_1 : Bool) (u136000 : Value) (u136001 : Value), v9 = .int .i64 x9_1 ∧ Aside0 (ebbtideref11_From.l0 kq t137 x9_1 a0_0 a0_1 l0_2 x136000_1 x136001_1 x136002_1 = some (r1, r2, r3)) ∧ Aside0 (kq ≤ k) ∧ Aside0 (Kd.R k38 38 w' w.heap.size (fun _ => True) v138 t137) ∧ Aside0 (Kd.R (Kd.int .i64) 3 w' w.heap.size (fun _ => True) u136000 x136000_1) ∧ Aside0 (Kd.R Kd.bool 4 w' w.heap.size (fun _ => True) u136001 x136001_1) ∧ Aside0 (w'.heap[gb127]? = some (.cells #[.int .i64 a0_0, .bool a0_1, (.slice A0_2 l0_2.length c0_2)] 24 (0, 0))) ∧ Aside0 (w'.heap[gb128]? = some (.cells #[(.slice none 0 0), (.slice none 0 0), .bool false] 66 (0, 0))) ∧ Aside0 (w'.heap[gb135]? = some (.cells #[u136000, u136001, .bool x136002_1] 66 (0, 0))) ∧ Aside0 (Below w.heap.size w w'))
 case atStart => exact ⟨(0), (y129), (y136), (false), (.slice Ao21 y129.length co21), (.slice (some ⟨go9, 0, none⟩) y132.length co20), (by first | rfl | (simp; done) | (simp [*]; done)), H', ⟨Nat.le_refl _⟩, ⟨HO139.out⟩, ⟨HO131.out⟩, ⟨HO134.out⟩, ⟨BK127.out⟩, ⟨BK128.out⟩, ⟨BK135.out⟩, ⟨HB.out⟩⟩
 case round =>
  clear H'
  try clear c1
  try clear c2
  try clear p2
  try clear c4
  try clear c4b0
  try clear c4b1
  try clear c5
  try clear c5b0
  try clear c5b1
  try clear c6
  try clear c6b0
  try clear c6b1
  try clear c7
  try clear c7b0
  try clear c8
  try clear c8b0
  try clear p9
  try clear q9
  try clear hx9
  try clear hf9
  try clear c13
  try clear c23
  try clear c24
  try clear hcz14_0
  try clear hcz14_1
  try clear hcz14_2
  try clear hcz17_0
  try clear hcz17_1
  try clear hcz17_2
  try clear hcz25_0
  try clear hcz25_1
  try clear hcz25_2
  try clear hcz27_0
  try clear hcz27_1
  try clear hcz27_2
  try clear hcz30_0
  try clear hcz30_1
  try clear hcz30_2
  try clear hfz14_0
  try clear hfz14_1
  try clear hfz14_2
  try clear hfz17_0
  try clear hfz17_1
  try clear hfz17_2
  try clear hfz25_0
  try clear hfz25_1
  try clear hfz25_2
  try clear hfz27_0
  try clear hfz27_1
  try clear hfz27_2
  try clear hfz30_0
  try clear hfz30_1
  try clear hfz30_2
  try clear hx9_0
  try clear p9
  try clear q9
  obtain ⟨x9_1, x136000_1, x136001_1, x136002_1, u136000, u136001, rfl, HA, HK1, HO_8, HO_136000, HO_136001, BK127, BK128, BK135, HB⟩ := hrel
  cases gk with
  | zero => exact absurd HA.out (by simp [ebbtideref11_From.l0])
  | succ k1 =>
   have H := HA.out
   clear HA
   simp only [ebbtideref11_From.l0] at H
   by_cases c32 : x9_1 ≤ a0_0
   rotate_left
   ·rw [if_neg c32] at H
    have c32b0 : decide (x9_1 ≤ a0_0) = false := decide_eq_false c32
    clear c32
    simp only [Option.some.injEq, Prod.mk.injEq] at H
    obtain ⟨rfl, rfl, rfl⟩ := H
    have hnb114 := NB127_128.out
    have hnc114 := NB128_127.out
    have hnb115 := NB127_135.out
    have hnc115 := NB135_127.out
    have hcz116_0 : wr.cell? ⟨gb127, 0, none⟩ = some (.int .i64 a0_0) := (blk_cell BK127.out 0).trans rfl
    have hcz116_1 : wr.cell? ⟨gb127, 1, none⟩ = some (.bool a0_1) := (blk_cell BK127.out 1).trans rfl
    have hcz116_2 : wr.cell? ⟨gb127, 2, none⟩ = some (.slice A0_2 l0_2.length c0_2) := (blk_cell BK127.out 2).trans rfl
    have hfz116_0 := blk_frozen BK127.out 0
    have hfz116_1 := blk_frozen BK127.out 1
    have hfz116_2 := blk_frozen BK127.out 2
    have hnb117 := NB135_128.out
    have hnc117 := NB128_135.out
    have hcz118_0 : wr.cell? ⟨gb135, 0, none⟩ = some (u136000) := (blk_cell BK135.out 0).trans rfl
    have hcz118_1 : wr.cell? ⟨gb135, 1, none⟩ = some (u136001) := (blk_cell BK135.out 1).trans rfl
    have hcz118_2 : wr.cell? ⟨gb135, 2, none⟩ = some (.bool x136002_1) := (blk_cell BK135.out 2).trans rfl
    have hfz118_0 := blk_frozen BK135.out 0
    have hfz118_1 := blk_frozen BK135.out 1
    have hfz118_2 := blk_frozen BK135.out 2
    obtain ⟨Ao119, co119, eo119⟩ := Kd.R_slice HO_136000.out
    subst eo119
    have hcz120_0 : wr.cell? ⟨gb128, 0, none⟩ = some (.slice none 0 0) := (blk_cell BK128.out 0).trans rfl
    have hcz120_1 : wr.cell? ⟨gb128, 1, none⟩ = some (.slice none 0 0) := (blk_cell BK128.out 1).trans rfl
    have hcz120_2 : wr.cell? ⟨gb128, 2, none⟩ = some (.bool false) := (blk_cell BK128.out 2).trans rfl
    have hfz120_0 := blk_frozen BK128.out 0
    have hfz120_1 := blk_frozen BK128.out 1
    have hfz120_2 := blk_frozen BK128.out 2
    obtain ⟨Ao121, co121, eo121⟩ := Kd.R_slice HO_136001.out
    subst eo121
    go_wp2
    refine bodyPost_ret (results_cell_row rfl _ _ gb128 66 #[.slice Ao119 x136000_1.length co119, .slice Ao121 x136001_1.length co121, .bool x136002_1] (0, 0) _ rfl (by (with_reducible repeat (first | refine blk_drewN ?_ _ | refine blk_drew ?_ | refine blk_alloc ?_ _)); refine blk_put (cs := #[.slice Ao119 x136000_1.length co119, .slice Ao121 x136001_1.length co121, .bool false]) ?_ 2 _ rfl; (with_reducible repeat (first | refine blk_drewN ?_ _ | refine blk_drew ?_ | refine blk_alloc ?_ _)); refine blk_put (cs := #[.slice Ao119 x136000_1.length co119, .slice none 0 0, .bool false]) ?_ 1 _ rfl; (with_reducible repeat (first | refine blk_drewN ?_ _ | refine blk_drew ?_ | refine blk_alloc ?_ _)); refine blk_put (cs := #[.slice none 0 0, .slice none 0 0, .bool false]) ?_ 0 _ rfl; (with_reducible repeat (first | refine blk_drewN ?_ _ | refine blk_drew ?_ | refine blk_alloc ?_ _)); exact BK128.out) Try.underlying66 rfl (by kernel_rfl)) rfl ?_
    exact ⟨_, _, by first | rfl | (simp [errW_none, errW_some] <;> rfl) | (simp [*, errW_none, errW_some] <;> rfl), by (with_reducible repeat (first | apply Kd.R_alloc | apply Kd.R_drewN | apply Kd.R_drew)); exact Kd.R_mono (Kd.R_far (p := ⟨gb128, 2, none⟩) (Kd.R_far (p := ⟨gb128, 1, none⟩) (Kd.R_far (p := ⟨gb128, 0, none⟩) (Kd.R_types HO_136000.out BK128.out (by decide)) (fun _ hk => hk.2) (.slice Ao119 x136000_1.length co119)) (fun _ hk => hk.2) (.slice Ao121 x136001_1.length co121)) (fun _ hk => hk.2) (.bool x136002_1)) (fun _ hk => trivial), by (with_reducible repeat (first | apply Kd.R_alloc | apply Kd.R_drewN | apply Kd.R_drew)); exact Kd.R_mono (Kd.R_far (p := ⟨gb128, 2, none⟩) (Kd.R_far (p := ⟨gb128, 1, none⟩) (Kd.R_far (p := ⟨gb128, 0, none⟩) (Kd.R_types HO_136001.out BK128.out (by decide)) (fun _ hk => hk.2) (.slice Ao119 x136000_1.length co119)) (fun _ hk => hk.2) (.slice Ao121 x136001_1.length co121)) (fun _ hk => hk.2) (.bool x136002_1)) (fun _ hk => trivial), by repeat (first | (with_reducible first | exact HB.out | apply below_alloc | apply pw_below_drewN | apply below_drew1 | refine below_set ?_ GE127.out | refine below_set ?_ GE128.out | refine below_set ?_ GE135.out) | exact HB.out)⟩
   rw [if_pos c32] at H
   have c32b0 : decide (x9_1 ≤ a0_0) = true := decide_eq_true c32
   clear c32
   have H' := Aside0.mk H
   clear H
   have hnb33 := NB127_128.out
   have hnc33 := NB128_127.out
   have hnb34 := NB127_135.out
   have hnc34 := NB135_127.out
   have hcz35_0 : wr.cell? ⟨gb127, 0, none⟩ = some (.int .i64 a0_0) := (blk_cell BK127.out 0).trans rfl
   have hcz35_1 : wr.cell? ⟨gb127, 1, none⟩ = some (.bool a0_1) := (blk_cell BK127.out 1).trans rfl
   have hcz35_2 : wr.cell? ⟨gb127, 2, none⟩ = some (.slice A0_2 l0_2.length c0_2) := (blk_cell BK127.out 2).trans rfl
   have hfz35_0 := blk_frozen BK127.out 0
   have hfz35_1 := blk_frozen BK127.out 1
   have hfz35_2 := blk_frozen BK127.out 2
   have hnb36 := NB135_128.out
   have hnc36 := NB128_135.out
   have hcz37_0 : wr.cell? ⟨gb135, 0, none⟩ = some (u136000) := (blk_cell BK135.out 0).trans rfl
   have hcz37_1 : wr.cell? ⟨gb135, 1, none⟩ = some (u136001) := (blk_cell BK135.out 1).trans rfl
   have hcz37_2 : wr.cell? ⟨gb135, 2, none⟩ = some (.bool x136002_1) := (blk_cell BK135.out 2).trans rfl
   have hfz37_0 := blk_frozen BK135.out 0
   have hfz37_1 := blk_frozen BK135.out 1
   have hfz37_2 := blk_frozen BK135.out 2
   go_wp2
   go_loopg [10] k1 (fun kq v10 w' => ∃ (x10_2 : Int) (x136000_2 : List Int) (x136001_2 : List Bool) (x136002_2 : Bool) (u136000 : Value) (u136001 : Value), v10 = .int .i64 x10_2 ∧ Aside0 (ebbtideref11_From.l1 kq t137 x9_1 x10_2 a0_0 a0_1 l0_2 x136000_2 x136001_2 x136002_2 = some (r1, r2, r3)) ∧ Aside0 (kq ≤ k1) ∧ Aside0 (Kd.R k38 38 w' w.heap.size (fun _ => True) v138 t137) ∧ Aside0 (Kd.R (Kd.int .i64) 3 w' w.heap.size (fun _ => True) u136000 x136000_2) ∧ Aside0 (Kd.R Kd.bool 4 w' w.heap.size (fun _ => True) u136001 x136001_2) ∧ Aside0 (w'.heap[gb127]? = some (.cells #[.int .i64 a0_0, .bool a0_1, (.slice A0_2 l0_2.length c0_2)] 24 (0, 0))) ∧ Aside0 (w'.heap[gb128]? = some (.cells #[(.slice none 0 0), (.slice none 0 0), .bool false] 66 (0, 0))) ∧ Aside0 (w'.heap[gb135]? = some (.cells #[u136000, u136001, .bool x136002_2] 66 (0, 0))) ∧ Aside0 (Below w.heap.size w w'))
   case atStart => exact ⟨(0), (x136000_1), (x136001_1), (true), (u136000), (u136001), (by first | rfl | (simp; done) | (simp [*]; done)), H', ⟨Nat.le_refl _⟩, ⟨by (with_reducible repeat (first | apply Kd.R_alloc | apply Kd.R_drewN | apply Kd.R_drew)); exact Kd.R_mono (Kd.R_far (p := ⟨gb135, 2, none⟩) (Kd.R_types HO_8.out BK135.out (by decide)) (fun _ hk => hk.2) (.bool true)) (fun _ hk => trivial)⟩, ⟨by (with_reducible repeat (first | apply Kd.R_alloc | apply Kd.R_drewN | apply Kd.R_drew)); exact Kd.R_mono (Kd.R_far (p := ⟨gb135, 2, none⟩) (Kd.R_types HO_136000.out BK135.out (by decide)) (fun _ hk => hk.2) (.bool true)) (fun _ hk => trivial)⟩, ⟨by (with_reducible repeat (first | apply Kd.R_alloc | apply Kd.R_drewN | apply Kd.R_drew)); exact Kd.R_mono (Kd.R_far (p := ⟨gb135, 2, none⟩) (Kd.R_types HO_136001.out BK135.out (by decide)) (fun _ hk => hk.2) (.bool true)) (fun _ hk => trivial)⟩, ⟨by (with_reducible repeat (first | refine blk_drewN ?_ _ | refine blk_drew ?_ | refine blk_alloc ?_ _)); refine blk_far ?_ NB127_135.out _; (with_reducible repeat (first | refine blk_drewN ?_ _ | refine blk_drew ?_ | refine blk_alloc ?_ _)); exact BK127.out⟩, ⟨by (with_reducible repeat (first | refine blk_drewN ?_ _ | refine blk_drew ?_ | refine blk_alloc ?_ _)); refine blk_far ?_ NB128_135.out _; (with_reducible repeat (first | refine blk_drewN ?_ _ | refine blk_drew ?_ | refine blk_alloc ?_ _)); exact BK128.out⟩, ⟨by (with_reducible repeat (first | refine blk_drewN ?_ _ | refine blk_drew ?_ | refine blk_alloc ?_ _)); refine blk_put (cs := #[u136000, u136001, .bool x136002_1]) ?_ 2 _ rfl; (with_reducible repeat (first | refine blk_drewN ?_ _ | refine blk_drew ?_ | refine blk_alloc ?_ _)); exact BK135.out⟩, ⟨by repeat (first | (with_reducible first | exact HB.out | apply below_alloc | apply pw_below_drewN | apply below_drew1 | refine below_set ?_ GE127.out | refine below_set ?_ GE128.out | refine below_set ?_ GE135.out) | exact HB.out)⟩⟩
   case round =>
    clear H'
    try clear c1
    try clear c2
    try clear p2
    try clear c3
    try clear c4
    try clear c4b0
    try clear c4b1
    try clear c5
    try clear c5b0
    try clear c5b1
    try clear c6
    try clear c6b0
    try clear c6b1
    try clear c7
    try clear c7b0
    try clear c8
    try clear c8b0
    try clear p9
    try clear q9
    try clear hx9
    try clear hf9
    try clear c13
    try clear c23
    try clear c24
    try clear c32
    try clear c32b0
    try clear c33
    try clear c34
    try clear c36
    try clear hcz14_0
    try clear hcz14_1
    try clear hcz14_2
    try clear hcz17_0
    try clear hcz17_1
    try clear hcz17_2
    try clear hcz25_0
    try clear hcz25_1
    try clear hcz25_2
    try clear hcz27_0
    try clear hcz27_1
    try clear hcz27_2
    try clear hcz30_0
    try clear hcz30_1
    try clear hcz30_2
    try clear hcz35_0
    try clear hcz35_1
    try clear hcz35_2
    try clear hcz37_0
    try clear hcz37_1
    try clear hcz37_2
    try clear hfz14_0
    try clear hfz14_1
    try clear hfz14_2
    try clear hfz17_0
    try clear hfz17_1
    try clear hfz17_2
    try clear hfz25_0
    try clear hfz25_1
    try clear hfz25_2
    try clear hfz27_0
    try clear hfz27_1
    try clear hfz27_2
    try clear hfz30_0
    try clear hfz30_1
    try clear hfz30_2
    try clear hfz35_0
    try clear hfz35_1
    try clear hfz35_2
    try clear hfz37_0
    try clear hfz37_1
    try clear hfz37_2
    try clear hx9_0
    try clear p2
    try clear p9
    try clear q9
    obtain ⟨x10_2, x136000_2, x136001_2, x136002_2, u136000, u136001, rfl, HA, HK2, HO_8, HO_136000, HO_136001, BK127, BK128, BK135, HB⟩ := hrel
    cases gk with
    | zero => exact absurd HA.out (by simp [ebbtideref11_From.l1])
    | succ k2 =>
     have H := HA.out
     clear HA
     simp only [ebbtideref11_From.l1] at H
     by_cases c38 : x10_2 < (t137.length : Int)
     rotate_left
     ·rw [if_neg c38] at H
      have c38b0 : decide (x10_2 < (t137.length : Int)) = false := decide_eq_false c38
      clear c38
      have H' := Aside0.mk H
      clear H
      obtain ⟨Ao113, co113, eo113⟩ := Kd.R_slice HO_8.out
      subst eo113
      go_wp2
      go_roundg k2
      case measure => have := HK1.out; have := HK2.out; omega
      case rel => exact ⟨(wrap64 (x9_1 + 1)), (x136000_2), (x136001_2), (x136002_2), (u136000), (u136001), (by first | rfl | (simp; done) | (simp [*]; done)), H', ⟨by have := HK1.out; have := HK2.out; omega⟩, ⟨HO_8.out⟩, ⟨HO_136000.out⟩, ⟨HO_136001.out⟩, ⟨BK127.out⟩, ⟨BK128.out⟩, ⟨BK135.out⟩, ⟨HB.out⟩⟩
     rw [if_pos c38] at H
     have c38b0 : decide (x10_2 < (t137.length : Int)) = true := decide_eq_true c38
     clear c38
     by_cases c39 : 0 ≤ x10_2
     rotate_left
     ·rw [if_neg c39] at H
      exact absurd H (by simp)
     rw [if_pos c39] at H
     have c39b0 : decide (0 ≤ x10_2) = true := decide_eq_true c39
     clear c39
     replace H := Option.bind_eq_some_iff.mp H
     obtain ⟨t141, A400, H⟩ := H
     replace H : ((ebbtideref07_To.f a0_0 a0_1 l0_2 ((rd_T38 t137 x10_2).f0) ((rd_T38 t137 x10_2).f1)).bind fun t143 => (if 0 ≤ t141 then (if t141 < (x136000_2.length : Int) then ((ebbtideref11_Time.f a0_0 a0_1 l0_2 ((rd_T38 t137 x10_2).f0) ((rd_T38 t137 x10_2).f1)).bind fun t146 => (if t141 < (x136001_2.length : Int) then (if rdOf false x136001_2 t141 = true then (if 0 ≤ t143 then (if t143 < (x136001_2.length : Int) then (if rdOf false x136001_2 t143 = true then (if t143 < (x136000_2.length : Int) then (if (wrap64 ((rd x136000_2 t141) + t146)) < (rd x136000_2 t143) then (ebbtideref11_From.l1 k2 t137 x9_1 (wrap64 (x10_2 + 1)) a0_0 a0_1 l0_2 (x136000_2.set (t143 : Int).toNat (wrap64 ((rd x136000_2 t141) + t146))) (x136001_2.set (t143 : Int).toNat true) false) else (ebbtideref11_From.l1 k2 t137 x9_1 (wrap64 (x10_2 + 1)) a0_0 a0_1 l0_2 x136000_2 x136001_2 x136002_2)) else (none)) else (if t143 < (x136000_2.length : Int) then (ebbtideref11_From.l1 k2 t137 x9_1 (wrap64 (x10_2 + 1)) a0_0 a0_1 l0_2 (x136000_2.set (t143 : Int).toNat (wrap64 ((rd x136000_2 t141) + t146))) (x136001_2.set (t143 : Int).toNat true) false) else (none))) else (none)) else (none)) else (ebbtideref11_From.l1 k2 t137 x9_1 (wrap64 (x10_2 + 1)) a0_0 a0_1 l0_2 x136000_2 x136001_2 x136002_2)) else (none))) else (none)) else (none))) = some (r1, r2, r3) := H
     have A40 := Aside0.mk A400
     clear A400
     replace H := Option.bind_eq_some_iff.mp H
     obtain ⟨t143, A410, H⟩ := H
     replace H : (if 0 ≤ t141 then (if t141 < (x136000_2.length : Int) then ((ebbtideref11_Time.f a0_0 a0_1 l0_2 ((rd_T38 t137 x10_2).f0) ((rd_T38 t137 x10_2).f1)).bind fun t146 => (if t141 < (x136001_2.length : Int) then (if rdOf false x136001_2 t141 = true then (if 0 ≤ t143 then (if t143 < (x136001_2.length : Int) then (if rdOf false x136001_2 t143 = true then (if t143 < (x136000_2.length : Int) then (if (wrap64 ((rd x136000_2 t141) + t146)) < (rd x136000_2 t143) then (ebbtideref11_From.l1 k2 t137 x9_1 (wrap64 (x10_2 + 1)) a0_0 a0_1 l0_2 (x136000_2.set (t143 : Int).toNat (wrap64 ((rd x136000_2 t141) + t146))) (x136001_2.set (t143 : Int).toNat true) false) else (ebbtideref11_From.l1 k2 t137 x9_1 (wrap64 (x10_2 + 1)) a0_0 a0_1 l0_2 x136000_2 x136001_2 x136002_2)) else (none)) else (if t143 < (x136000_2.length : Int) then (ebbtideref11_From.l1 k2 t137 x9_1 (wrap64 (x10_2 + 1)) a0_0 a0_1 l0_2 (x136000_2.set (t143 : Int).toNat (wrap64 ((rd x136000_2 t141) + t146))) (x136001_2.set (t143 : Int).toNat true) false) else (none))) else (none)) else (none)) else (ebbtideref11_From.l1 k2 t137 x9_1 (wrap64 (x10_2 + 1)) a0_0 a0_1 l0_2 x136000_2 x136001_2 x136002_2)) else (none))) else (none)) else (none)) = some (r1, r2, r3) := H
     have A41 := Aside0.mk A410
     clear A410
     by_cases c42 : 0 ≤ t141
     rotate_left
     ·rw [if_neg c42] at H
      exact absurd H (by simp)
     rw [if_pos c42] at H
     have c42b0 : decide (0 ≤ t141) = true := decide_eq_true c42
     clear c42
     by_cases c43 : t141 < (x136000_2.length : Int)
     rotate_left
     ·rw [if_neg c43] at H
      exact absurd H (by simp)
     rw [if_pos c43] at H
     have c43b0 : decide (t141 < (x136000_2.length : Int)) = true := decide_eq_true c43
     clear c43
     replace H := Option.bind_eq_some_iff.mp H
     obtain ⟨t146, A440, H⟩ := H
     replace H : (if t141 < (x136001_2.length : Int) then (if rdOf false x136001_2 t141 = true then (if 0 ≤ t143 then (if t143 < (x136001_2.length : Int) then (if rdOf false x136001_2 t143 = true then (if t143 < (x136000_2.length : Int) then (if (wrap64 ((rd x136000_2 t141) + t146)) < (rd x136000_2 t143) then (ebbtideref11_From.l1 k2 t137 x9_1 (wrap64 (x10_2 + 1)) a0_0 a0_1 l0_2 (x136000_2.set (t143 : Int).toNat (wrap64 ((rd x136000_2 t141) + t146))) (x136001_2.set (t143 : Int).toNat true) false) else (ebbtideref11_From.l1 k2 t137 x9_1 (wrap64 (x10_2 + 1)) a0_0 a0_1 l0_2 x136000_2 x136001_2 x136002_2)) else (none)) else (if t143 < (x136000_2.length : Int) then (ebbtideref11_From.l1 k2 t137 x9_1 (wrap64 (x10_2 + 1)) a0_0 a0_1 l0_2 (x136000_2.set (t143 : Int).toNat (wrap64 ((rd x136000_2 t141) + t146))) (x136001_2.set (t143 : Int).toNat true) false) else (none))) else (none)) else (none)) else (ebbtideref11_From.l1 k2 t137 x9_1 (wrap64 (x10_2 + 1)) a0_0 a0_1 l0_2 x136000_2 x136001_2 x136002_2)) else (none)) = some (r1, r2, r3) := H
     have A44 := Aside0.mk A440
     clear A440
     by_cases c45 : t141 < (x136001_2.length : Int)
     rotate_left
     ·rw [if_neg c45] at H
      exact absurd H (by simp)
     rw [if_pos c45] at H
     have c45b0 : decide (t141 < (x136001_2.length : Int)) = true := decide_eq_true c45
     clear c45
     obtain ⟨bq46, hbq46⟩ : ∃ b_ : Bool, b_ = (rdOf false x136001_2 t141) := ⟨_, rfl⟩
     replace H : (if bq46 = true then (if 0 ≤ t143 then (if t143 < (x136001_2.length : Int) then (if rdOf false x136001_2 t143 = true then (if t143 < (x136000_2.length : Int) then (if (wrap64 ((rd x136000_2 t141) + t146)) < (rd x136000_2 t143) then (ebbtideref11_From.l1 k2 t137 x9_1 (wrap64 (x10_2 + 1)) a0_0 a0_1 l0_2 (x136000_2.set (t143 : Int).toNat (wrap64 ((rd x136000_2 t141) + t146))) (x136001_2.set (t143 : Int).toNat true) false) else (ebbtideref11_From.l1 k2 t137 x9_1 (wrap64 (x10_2 + 1)) a0_0 a0_1 l0_2 x136000_2 x136001_2 x136002_2)) else (none)) else (if t143 < (x136000_2.length : Int) then (ebbtideref11_From.l1 k2 t137 x9_1 (wrap64 (x10_2 + 1)) a0_0 a0_1 l0_2 (x136000_2.set (t143 : Int).toNat (wrap64 ((rd x136000_2 t141) + t146))) (x136001_2.set (t143 : Int).toNat true) false) else (none))) else (none)) else (none)) else (ebbtideref11_From.l1 k2 t137 x9_1 (wrap64 (x10_2 + 1)) a0_0 a0_1 l0_2 x136000_2 x136001_2 x136002_2)) = some (r1, r2, r3) := by rw [← hbq46] at H; exact H
     have Nbq46 := Aside0.mk hbq46
     clear hbq46
     by_cases c47 : bq46 = true
     rotate_left
     ·replace c47 := Bool.eq_false_iff.mpr c47
      subst c47
      have H1 : (ebbtideref11_From.l1 k2 t137 x9_1 (wrap64 (x10_2 + 1)) a0_0 a0_1 l0_2 x136000_2 x136001_2 x136002_2) = some (r1, r2, r3) := by rw [if_neg (show ¬ (false = true) by decide)] at H; exact H
      clear H
      have H := H1
      clear H1
      have H' := Aside0.mk H
      clear H
      obtain ⟨Ao102, co102, eo102⟩ := Kd.R_slice HO_8.out
      subst eo102
      try go_wp2
      have n0_ := Aside0.mk (Kd.R_drew HO_8.out)
      have n1_ := Aside0.mk (Kd.R_drew HO_136000.out)
      have n2_ := Aside0.mk (Kd.R_drew HO_136001.out)
      have n3_ := Aside0.mk (blk_drew BK127.out)
      have n4_ := Aside0.mk (blk_drew BK128.out)
      have n5_ := Aside0.mk (blk_drew BK135.out)
      have n6_ := Aside0.mk (below_drew1 HB.out)
      clear HO_8
      clear HO_136000
      clear HO_136001
      clear BK127
      clear BK128
      clear BK135
      clear HB
      have HO_8 := n0_
      have HO_136000 := n1_
      have HO_136001 := n2_
      have BK127 := n3_
      have BK128 := n4_
      have BK135 := n5_
      have HB := n6_
      clear n0_ n1_ n2_ n3_ n4_ n5_ n6_
      have p140 : 0 ≤ (x10_2 : Int) := of_decide_eq_true (by first | (with_reducible assumption) | assumption)
      have q140 : x10_2 < (t137.length : Int) := of_decide_eq_true (by first | (with_reducible assumption) | assumption)
      obtain ⟨ad140, e140, hx140_0, hx140_1⟩ := at_T38 (Kd.R_reads' HO_8.out).2.2 x10_2 p140 q140
      (try rw [← Nbq46.out] at hx140_1)
      cases e140
      replace p140 := eq_true p140
      replace q140 := eq_true q140
      have p142 : 0 ≤ (x10_2 : Int) := of_decide_eq_true (by first | (with_reducible assumption) | assumption)
      have q142 : x10_2 < (t137.length : Int) := of_decide_eq_true (by first | (with_reducible assumption) | assumption)
      obtain ⟨ad142, e142, hx142_0, hx142_1⟩ := at_T38 (Kd.R_reads' HO_8.out).2.2 x10_2 p142 q142
      (try rw [← Nbq46.out] at hx142_1)
      obtain rfl : ad140 = ad142 := (by injection e142)
      replace p142 := eq_true p142
      replace q142 := eq_true q142
      refine start_ (n := 14) (S := fun w' => w'.cell? ⟨gb127, 0, none⟩ = some (.int .i64 a0_0) ∧ w'.cell? ⟨gb127, 1, none⟩ = some (.bool a0_1) ∧ w'.cell? ⟨gb127, 2, none⟩ = some (.slice A0_2 l0_2.length c0_2) ∧ w'.cell? (ad140.add ((x10_2).toNat * 2)) = some (.int .i64 ((rd_T38 t137 x10_2).f0)) ∧ w'.cell? ⟨(ad140.add ((x10_2).toNat * 2)).block, (ad140.add ((x10_2).toNat * 2)).off + 1, none⟩ = some (.bool ((rd_T38 t137 x10_2).f1)) ∧ w'.cell? (ad140.add ((x10_2).toNat * 2)) = some (.int .i64 ((rd_T38 t137 x10_2).f0)) ∧ w'.cell? ⟨(ad140.add ((x10_2).toNat * 2)).block, (ad140.add ((x10_2).toNat * 2)).off + 1, none⟩ = some (.bool ((rd_T38 t137 x10_2).f1))) (ds := []) #[false, false, false, false, false, false, false, false, false, false, false, false, false, false] (by kernel_rfl) rfl rfl ⟨(blk_cell BK127.out 0).trans rfl, (blk_cell BK127.out 1).trans rfl, (blk_cell BK127.out 2).trans rfl, hx140_0, hx140_1, hx142_0, hx142_1⟩ (fun hHeld => ?_); refine with_tabW ebbtideref11_From.tab11 ebbtideref11_From.bits11 (fun HT_ HW_ => ?_)
      generalize wr.drew = w103 at HO_8 HO_136000 HO_136001 BK127 BK128 BK135 HB hx140_0 hx140_1 hx142_0 hx142_1 hHeld ⊢
      refine pure_ (i := 1) (N := some 42) (v := ?_) (a' := ?_) #[false, true, false, false, false, false, false, false, false, false, false, false, false, false] rfl rfl (any_of HT_.out (by kernel_rfl)) (fun _ _ _ h => h) (Or.inl ⟨by rfl, ?_⟩) ?_ ?_
      rotate_left
      ·intro w'
       go_simp
       with_reducible rfl
      rotate_left
      ·simp only [Act.put, List.setIfInBounds_toArray, List.set_cons_zero, List.set_cons_succ, i64_w, i32_w]
       rfl
      refine pure_ (i := 2) (N := some 43) (v := ?_) (a' := ?_) #[false, true, true, false, false, false, false, false, false, false, false, false, false, false] rfl rfl (any_of HT_.out (by kernel_rfl)) (fun _ _ _ h => h) (Or.inl ⟨by rfl, ?_⟩) ?_ ?_
      rotate_left
      ·intro w'
       go_simp
       with_reducible rfl
      rotate_left
      ·simp only [Act.put, List.setIfInBounds_toArray, List.set_cons_zero, List.set_cons_succ, i64_w, i32_w]
       rfl
      refine pure_ (i := 3) (N := some 44) (v := ?_) (a' := ?_) #[false, true, true, true, false, false, false, false, false, false, false, false, false, false] rfl rfl (any_of HT_.out (by kernel_rfl)) (fun _ _ _ h => h) (Or.inl ⟨by rfl, ?_⟩) ?_ ?_
      rotate_left
      ·intro w'
       go_simp
       with_reducible rfl
      rotate_left
      ·simp only [Act.put, List.setIfInBounds_toArray, List.set_cons_zero, List.set_cons_succ, i64_w, i32_w]
       rfl
      refine pure_ (i := 7) (N := some 48) (v := ?_) (a' := ?_) #[false, true, true, true, false, false, false, true, false, false, false, false, false, false] rfl rfl (any_of HT_.out (by kernel_rfl)) (fun _ _ _ h => h) (Or.inl ⟨by rfl, ?_⟩) ?_ ?_
      rotate_left
      ·intro w'
       go_simp
       with_reducible rfl
      rotate_left
      ·simp only [Act.put, List.setIfInBounds_toArray, List.set_cons_zero, List.set_cons_succ, i64_w, i32_w]
       rfl
      refine pure_ (i := 8) (N := some 49) (v := ?_) (a' := ?_) #[false, true, true, true, false, false, false, true, true, false, false, false, false, false] rfl rfl (any_of HT_.out (by kernel_rfl)) (fun _ _ _ h => h) (Or.inl ⟨by rfl, ?_⟩) ?_ ?_
      rotate_left
      ·intro w'
       go_simp
       with_reducible rfl
      rotate_left
      ·simp only [Act.put, List.setIfInBounds_toArray, List.set_cons_zero, List.set_cons_succ, i64_w, i32_w]
       rfl
      refine pure_ (i := 9) (N := some 50) (v := ?_) (a' := ?_) #[false, true, true, true, false, false, false, true, true, true, false, false, false, false] rfl rfl (any_of HT_.out (by kernel_rfl)) (fun _ _ _ h => h) (Or.inl ⟨by rfl, ?_⟩) ?_ ?_
      rotate_left
      ·intro w'
       go_simp
       with_reducible rfl
      rotate_left
      ·simp only [Act.put, List.setIfInBounds_toArray, List.set_cons_zero, List.set_cons_succ, i64_w, i32_w]
       rfl
      refine take_ (i := 0) (N := some 41) (v := ?_) (a' := ?_) #[true, true, true, true, false, false, false, true, true, true, false, false, false, false] rfl rfl (take_ofW HT_.out HW_.out (by kernel_rfl)) (fun _ _ _ h => h) (Or.inl ⟨by rfl, ?_⟩) hHeld ?_ ?_
      rotate_left
      ·rintro w' ⟨s0, s1, s2, s3, s4, s5, s6⟩
       go_simp
       with_reducible rfl
      rotate_left
      ·simp only [Act.put, List.setIfInBounds_toArray, List.set_cons_zero, List.set_cons_succ, i64_w, i32_w]
       rfl
      refine take_ (i := 4) (N := some 45) (v := ?_) (a' := ?_) #[true, true, true, true, true, false, false, true, true, true, false, false, false, false] rfl rfl (take_ofW HT_.out HW_.out (by kernel_rfl)) (fun _ _ _ h => h) (Or.inl ⟨by rfl, ?_⟩) hHeld ?_ ?_
      rotate_left
      ·rintro w' ⟨s0, s1, s2, s3, s4, s5, s6⟩
       go_simp
       with_reducible rfl
      rotate_left
      ·simp only [Act.put, List.setIfInBounds_toArray, List.set_cons_zero, List.set_cons_succ, i64_w, i32_w]
       rfl
      refine take_ (i := 6) (N := some 47) (v := ?_) (a' := ?_) #[true, true, true, true, true, false, true, true, true, true, false, false, false, false] rfl rfl (take_ofW HT_.out HW_.out (by kernel_rfl)) (fun _ _ _ h => h) (Or.inl ⟨by rfl, ?_⟩) hHeld ?_ ?_
      rotate_left
      ·rintro w' ⟨s0, s1, s2, s3, s4, s5, s6⟩
       go_simp
       with_reducible rfl
      rotate_left
      ·simp only [Act.put, List.setIfInBounds_toArray, List.set_cons_zero, List.set_cons_succ, i64_w, i32_w]
       rfl
      refine take_ (i := 10) (N := some 51) (v := ?_) (a' := ?_) #[true, true, true, true, true, false, true, true, true, true, true, false, false, false] rfl rfl (take_ofW HT_.out HW_.out (by kernel_rfl)) (fun _ _ _ h => h) (Or.inl ⟨by rfl, ?_⟩) hHeld ?_ ?_
      rotate_left
      ·rintro w' ⟨s0, s1, s2, s3, s4, s5, s6⟩
       go_simp
       with_reducible rfl
      rotate_left
      ·simp only [Act.put, List.setIfInBounds_toArray, List.set_cons_zero, List.set_cons_succ, i64_w, i32_w]
       rfl
      refine one_ (i := 5) (N := some 46) #[true, true, true, true, true, true, true, true, true, true, true, false, false, false] rfl rfl (one_of HT_.out (by kernel_rfl)) (by decide) (fun K hK => ?_)
      refine goes_ Try.func44 (by kernel_rfl) rfl #[.agg #[.int .i64 a0_0, .bool a0_1, .slice A0_2 l0_2.length c0_2], .agg #[.int .i64 ((rd_T38 t137 x10_2).f0), .bool ((rd_T38 t137 x10_2).f1)]] (by rfl) rfl rfl (by (try simp only [List.map_toArray, List.map_cons, List.map_nil]); first | done | rfl | (simp only [List.length_drop, List.length_take]; rfl)) ?_
      with_reducible refine (ebbtideref07_From.calls a0_0 a0_1 _ _ l0_2 ((rd_T38 t137 x10_2).f0) ((rd_T38 t137 x10_2).f1) t141 _ ?side1 ?side2 (by first | exact A40.out | (have h_ := A40.out; rw [← Nbq50.out] at h_; exact h_) | (have h_ := A40.out; rw [← Nbq46.out] at h_; exact h_))).mono ?_
      (case side1 => repeat (first | exact (Kd.C_below HR0_2.out HB.out) | (with_reducible refine Kd.C_alloc ?_ _) | (with_reducible refine Kd.C_drewN ?_ _) | (with_reducible refine Kd.C_drew ?_)))
      (case side2 => exact HC0_2.out)
      rintro e w104 ⟨rfl, hb⟩
      have HS3_ := (hb.cell (World.block_lt_of_cell? _ _ (hHeld.2.2.2.1))).trans (hHeld.2.2.2.1)
      have HS4_ := (hb.cell (World.block_lt_of_cell? _ _ (hHeld.2.2.2.2.1))).trans (hHeld.2.2.2.2.1)
      have HS5_ := (hb.cell (World.block_lt_of_cell? _ _ (hHeld.2.2.2.2.2.1))).trans (hHeld.2.2.2.2.2.1)
      have HS6_ := (hb.cell (World.block_lt_of_cell? _ _ (hHeld.2.2.2.2.2.2))).trans (hHeld.2.2.2.2.2.2)
      refine ⟨_, rfl, ?_⟩
      have n0_ := Aside0.mk (Kd.R_below HO_8.out hb)
      have n1_ := Aside0.mk (Kd.R_below HO_136000.out hb)
      have n2_ := Aside0.mk (Kd.R_below HO_136001.out hb)
      have n3_ := Aside0.mk (blk_below BK127.out hb)
      have n4_ := Aside0.mk (blk_below BK128.out hb)
      have n5_ := Aside0.mk (blk_below BK135.out hb)
      have n6_ := Aside0.mk (below_step HB.out hb)
      clear HO_8
      clear HO_136000
      clear HO_136001
      clear BK127
      clear BK128
      clear BK135
      clear HB
      have HO_8 := n0_
      have HO_136000 := n1_
      have HO_136001 := n2_
      have BK127 := n3_
      have BK128 := n4_
      have BK135 := n5_
      have HB := n6_
      clear n0_ n1_ n2_ n3_ n4_ n5_ n6_
      (try clear hb)
      (try clear hb2)
      (try clear hk)
      (try clear hi)
      refine hK.out _ _ ⟨(blk_cell BK127.out 0).trans rfl, (blk_cell BK127.out 1).trans rfl, (blk_cell BK127.out 2).trans rfl, HS3_, HS4_, HS5_, HS6_⟩ (fun hHeld => ?_)
      clear hK K
      refine norm_ (a' := ?_) ?_ ?_
      rotate_left
      ·show Act.put _ (some 46) _ = _
       simp only [Act.put, List.setIfInBounds_toArray, List.set_cons_zero, List.set_cons_succ, i64_w, i32_w]
       rfl
      refine one_ (i := 11) (N := some 52) #[true, true, true, true, true, true, true, true, true, true, true, true, false, false] rfl rfl (one_of HT_.out (by kernel_rfl)) (by decide) (fun K hK => ?_)
      refine goes_ Try.func45 (by kernel_rfl) rfl #[.agg #[.int .i64 a0_0, .bool a0_1, .slice A0_2 l0_2.length c0_2], .agg #[.int .i64 ((rd_T38 t137 x10_2).f0), .bool ((rd_T38 t137 x10_2).f1)]] (by rfl) rfl rfl (by (try simp only [List.map_toArray, List.map_cons, List.map_nil]); first | done | rfl | (simp only [List.length_drop, List.length_take]; rfl)) ?_
      with_reducible refine (ebbtideref07_To.calls a0_0 a0_1 _ _ l0_2 ((rd_T38 t137 x10_2).f0) ((rd_T38 t137 x10_2).f1) t143 _ ?side1 ?side2 (by first | exact A41.out | (have h_ := A41.out; rw [← Nbq50.out] at h_; exact h_) | (have h_ := A41.out; rw [← Nbq46.out] at h_; exact h_))).mono ?_
      (case side1 => repeat (first | exact (Kd.C_below HR0_2.out HB.out) | (with_reducible refine Kd.C_alloc ?_ _) | (with_reducible refine Kd.C_drewN ?_ _) | (with_reducible refine Kd.C_drew ?_)))
      (case side2 => exact HC0_2.out)
      rintro e w105 ⟨rfl, hb⟩
      have HS3_ := (hb.cell (World.block_lt_of_cell? _ _ (hHeld.2.2.2.1))).trans (hHeld.2.2.2.1)
      have HS4_ := (hb.cell (World.block_lt_of_cell? _ _ (hHeld.2.2.2.2.1))).trans (hHeld.2.2.2.2.1)
      have HS5_ := (hb.cell (World.block_lt_of_cell? _ _ (hHeld.2.2.2.2.2.1))).trans (hHeld.2.2.2.2.2.1)
      have HS6_ := (hb.cell (World.block_lt_of_cell? _ _ (hHeld.2.2.2.2.2.2))).trans (hHeld.2.2.2.2.2.2)
      refine ⟨_, rfl, ?_⟩
      have n0_ := Aside0.mk (Kd.R_below HO_8.out hb)
      have n1_ := Aside0.mk (Kd.R_below HO_136000.out hb)
      have n2_ := Aside0.mk (Kd.R_below HO_136001.out hb)
      have n3_ := Aside0.mk (blk_below BK127.out hb)
      have n4_ := Aside0.mk (blk_below BK128.out hb)
      have n5_ := Aside0.mk (blk_below BK135.out hb)
      have n6_ := Aside0.mk (below_step HB.out hb)
      clear HO_8
      clear HO_136000
      clear HO_136001
      clear BK127
      clear BK128
      clear BK135
      clear HB
      have HO_8 := n0_
      have HO_136000 := n1_
      have HO_136001 := n2_
      have BK127 := n3_
      have BK128 := n4_
      have BK135 := n5_
      have HB := n6_
      clear n0_ n1_ n2_ n3_ n4_ n5_ n6_
      (try clear hb)
      (try clear hb2)
      (try clear hk)
      (try clear hi)
      refine hK.out _ _ ⟨(blk_cell BK127.out 0).trans rfl, (blk_cell BK127.out 1).trans rfl, (blk_cell BK127.out 2).trans rfl, HS3_, HS4_, HS5_, HS6_⟩ (fun hHeld => ?_)
      clear hK K
      refine norm_ (a' := ?_) ?_ ?_
      rotate_left
      ·show Act.put _ (some 52) _ = _
       simp only [Act.put, List.setIfInBounds_toArray, List.set_cons_zero, List.set_cons_succ, i64_w, i32_w]
       rfl
      refine pure_ (i := 12) (N := some 11) (v := ?_) (a' := ?_) #[true, true, true, true, true, true, true, true, true, true, true, true, true, false] rfl rfl (any_of HT_.out (by kernel_rfl)) (fun _ _ _ h => h) (Or.inl ⟨by rfl, ?_⟩) ?_ ?_
      rotate_left
      ·intro w'
       go_simp
       with_reducible rfl
      rotate_left
      ·simp only [Act.put, List.setIfInBounds_toArray, List.set_cons_zero, List.set_cons_succ, i64_w, i32_w]
       rfl
      refine pure_ (i := 13) (N := some 12) (v := ?_) (a' := ?_) #[true, true, true, true, true, true, true, true, true, true, true, true, true, true] rfl rfl (any_of HT_.out (by kernel_rfl)) (fun _ _ _ h => h) (Or.inl ⟨by rfl, ?_⟩) ?_ ?_
      rotate_left
      ·intro w'
       go_simp
       with_reducible rfl
      rotate_left
      ·simp only [Act.put, List.setIfInBounds_toArray, List.set_cons_zero, List.set_cons_succ, i64_w, i32_w]
       rfl
      refine done_ (done_of HT_.out (by kernel_rfl)) ?_
      try go_wp2
      have n0_ := Aside0.mk (Kd.R_drew HO_8.out)
      have n1_ := Aside0.mk (Kd.R_drew HO_136000.out)
      have n2_ := Aside0.mk (Kd.R_drew HO_136001.out)
      have n3_ := Aside0.mk (blk_drew BK127.out)
      have n4_ := Aside0.mk (blk_drew BK128.out)
      have n5_ := Aside0.mk (blk_drew BK135.out)
      have n6_ := Aside0.mk (below_drew1 HB.out)
      clear HO_8
      clear HO_136000
      clear HO_136001
      clear BK127
      clear BK128
      clear BK135
      clear HB
      have HO_8 := n0_
      have HO_136000 := n1_
      have HO_136001 := n2_
      have BK127 := n3_
      have BK128 := n4_
      have BK135 := n5_
      have HB := n6_
      clear n0_ n1_ n2_ n3_ n4_ n5_ n6_
      obtain ⟨Ao107, co107, eo107⟩ := Kd.R_slice HO_136000.out
      (first | subst eo107 | (injection eo107 with f1_ f2_ f3_; have f4_ := f1_.symm; have f5_ := f3_.symm; clear f1_ f2_ f3_; subst f4_; subst f5_))
      have p144 : 0 ≤ (t141 : Int) := of_decide_eq_true (by first | (with_reducible assumption) | assumption)
      have q144 : t141 < (x136000_2.length : Int) := of_decide_eq_true (by first | (with_reducible assumption) | assumption)
      obtain ⟨ad144, e144, hx144_0⟩ := Kd.at_int (Kd.R_reads' HO_136000.out).2.2 t141 p144 q144
      cases e144
      replace p144 := eq_true p144
      replace q144 := eq_true q144
      have p145 : 0 ≤ (x10_2 : Int) := of_decide_eq_true (by first | (with_reducible assumption) | assumption)
      have q145 : x10_2 < (t137.length : Int) := of_decide_eq_true (by first | (with_reducible assumption) | assumption)
      obtain ⟨ad145, e145, hx145_0, hx145_1⟩ := at_T38 (Kd.R_reads' HO_8.out).2.2 x10_2 p145 q145
      (try rw [← Nbq46.out] at hx145_1)
      obtain rfl : ad140 = ad145 := (by injection e145)
      replace p145 := eq_true p145
      replace q145 := eq_true q145
      refine start_ (n := 13) (S := fun w' => w'.cell? ⟨gb135, 0, none⟩ = some (.slice (some ad144) x136000_2.length co107) ∧ w'.cell? ⟨gb135, 1, none⟩ = some (u136001) ∧ w'.cell? ⟨gb135, 2, none⟩ = some (.bool x136002_2) ∧ w'.cell? ⟨gb127, 0, none⟩ = some (.int .i64 a0_0) ∧ w'.cell? ⟨gb127, 1, none⟩ = some (.bool a0_1) ∧ w'.cell? ⟨gb127, 2, none⟩ = some (.slice A0_2 l0_2.length c0_2) ∧ w'.cell? (ad144.add (t141).toNat) = some (.int .i64 (rd x136000_2 t141)) ∧ w'.cell? (ad140.add ((x10_2).toNat * 2)) = some (.int .i64 ((rd_T38 t137 x10_2).f0)) ∧ w'.cell? ⟨(ad140.add ((x10_2).toNat * 2)).block, (ad140.add ((x10_2).toNat * 2)).off + 1, none⟩ = some (.bool ((rd_T38 t137 x10_2).f1))) (ds := []) #[false, false, false, false, false, false, false, false, false, false, false, false, false] (by kernel_rfl) rfl rfl ⟨(blk_cell BK135.out 0).trans rfl, (blk_cell BK135.out 1).trans rfl, (blk_cell BK135.out 2).trans rfl, (blk_cell BK127.out 0).trans rfl, (blk_cell BK127.out 1).trans rfl, (blk_cell BK127.out 2).trans rfl, hx144_0, hx145_0, hx145_1⟩ (fun hHeld => ?_); refine with_tabW ebbtideref11_From.tab12 ebbtideref11_From.bits12 (fun HT_ HW_ => ?_)
      generalize w105.drew = w106 at HO_8 HO_136000 HO_136001 BK127 BK128 BK135 HB hx144_0 hx145_0 hx145_1 hHeld ⊢
      refine pure_ (i := 0) (N := some 53) (v := ?_) (a' := ?_) #[true, false, false, false, false, false, false, false, false, false, false, false, false] rfl rfl (any_of HT_.out (by kernel_rfl)) (fun _ _ _ h => h) (Or.inl ⟨by rfl, ?_⟩) ?_ ?_
      rotate_left
      ·intro w'
       go_simp
       with_reducible rfl
      rotate_left
      ·simp only [Act.put, List.setIfInBounds_toArray, List.set_cons_zero, List.set_cons_succ, i64_w, i32_w]
       rfl
      refine pure_ (i := 2) (N := some 55) (v := ?_) (a' := ?_) #[true, false, true, false, false, false, false, false, false, false, false, false, false] rfl rfl (any_of HT_.out (by kernel_rfl)) (fun _ _ _ h => h) (Or.inl ⟨by rfl, ?_⟩) ?_ ?_
      rotate_left
      ·intro w'
       go_simp
       with_reducible rfl
      rotate_left
      ·simp only [Act.put, List.setIfInBounds_toArray, List.set_cons_zero, List.set_cons_succ, i64_w, i32_w]
       rfl
      refine pure_ (i := 6) (N := some 59) (v := ?_) (a' := ?_) #[true, false, true, false, false, false, true, false, false, false, false, false, false] rfl rfl (any_of HT_.out (by kernel_rfl)) (fun _ _ _ h => h) (Or.inl ⟨by rfl, ?_⟩) ?_ ?_
      rotate_left
      ·intro w'
       go_simp
       with_reducible rfl
      rotate_left
      ·simp only [Act.put, List.setIfInBounds_toArray, List.set_cons_zero, List.set_cons_succ, i64_w, i32_w]
       rfl
      refine pure_ (i := 7) (N := some 60) (v := ?_) (a' := ?_) #[true, false, true, false, false, false, true, true, false, false, false, false, false] rfl rfl (any_of HT_.out (by kernel_rfl)) (fun _ _ _ h => h) (Or.inl ⟨by rfl, ?_⟩) ?_ ?_
      rotate_left
      ·intro w'
       go_simp
       with_reducible rfl
      rotate_left
      ·simp only [Act.put, List.setIfInBounds_toArray, List.set_cons_zero, List.set_cons_succ, i64_w, i32_w]
       rfl
      refine pure_ (i := 8) (N := some 61) (v := ?_) (a' := ?_) #[true, false, true, false, false, false, true, true, true, false, false, false, false] rfl rfl (any_of HT_.out (by kernel_rfl)) (fun _ _ _ h => h) (Or.inl ⟨by rfl, ?_⟩) ?_ ?_
      rotate_left
      ·intro w'
       go_simp
       with_reducible rfl
      rotate_left
      ·simp only [Act.put, List.setIfInBounds_toArray, List.set_cons_zero, List.set_cons_succ, i64_w, i32_w]
       rfl
      refine take_ (i := 1) (N := some 54) (v := ?_) (a' := ?_) #[true, true, true, false, false, false, true, true, true, false, false, false, false] rfl rfl (take_ofW HT_.out HW_.out (by kernel_rfl)) (fun _ _ _ h => h) (Or.inl ⟨by rfl, ?_⟩) hHeld ?_ ?_
      rotate_left
      ·rintro w' ⟨s0, s1, s2, s3, s4, s5, s6, s7, s8⟩
       go_simp
       with_reducible rfl
      rotate_left
      ·simp only [Act.put, List.setIfInBounds_toArray, List.set_cons_zero, List.set_cons_succ, i64_w, i32_w]
       rfl
      refine pure_ (i := 3) (N := some 56) (v := ?_) (a' := ?_) #[true, true, true, true, false, false, true, true, true, false, false, false, false] rfl rfl (any_of HT_.out (by kernel_rfl)) (fun _ _ _ h => h) (Or.inl ⟨by rfl, ?_⟩) ?_ ?_
      rotate_left
      ·intro w'
       go_simp
       with_reducible rfl
      rotate_left
      ·simp only [Act.put, List.setIfInBounds_toArray, List.set_cons_zero, List.set_cons_succ, i64_w, i32_w]
       rfl
      refine take_ (i := 4) (N := some 57) (v := ?_) (a' := ?_) #[true, true, true, true, true, false, true, true, true, false, false, false, false] rfl rfl (take_ofW HT_.out HW_.out (by kernel_rfl)) (fun _ _ _ h => h) (Or.inl ⟨by rfl, ?_⟩) hHeld ?_ ?_
      rotate_left
      ·rintro w' ⟨s0, s1, s2, s3, s4, s5, s6, s7, s8⟩
       go_simp
       with_reducible rfl
      rotate_left
      ·simp only [Act.put, List.setIfInBounds_toArray, List.set_cons_zero, List.set_cons_succ, i64_w, i32_w]
       rfl
      refine take_ (i := 5) (N := some 58) (v := ?_) (a' := ?_) #[true, true, true, true, true, true, true, true, true, false, false, false, false] rfl rfl (take_ofW HT_.out HW_.out (by kernel_rfl)) (fun _ _ _ h => h) (Or.inl ⟨by rfl, ?_⟩) hHeld ?_ ?_
      rotate_left
      ·rintro w' ⟨s0, s1, s2, s3, s4, s5, s6, s7, s8⟩
       go_simp
       with_reducible rfl
      rotate_left
      ·simp only [Act.put, List.setIfInBounds_toArray, List.set_cons_zero, List.set_cons_succ, i64_w, i32_w]
       rfl
      refine take_ (i := 9) (N := some 62) (v := ?_) (a' := ?_) #[true, true, true, true, true, true, true, true, true, true, false, false, false] rfl rfl (take_ofW HT_.out HW_.out (by kernel_rfl)) (fun _ _ _ h => h) (Or.inl ⟨by rfl, ?_⟩) hHeld ?_ ?_
      rotate_left
      ·rintro w' ⟨s0, s1, s2, s3, s4, s5, s6, s7, s8⟩
       go_simp
       with_reducible rfl
      rotate_left
      ·simp only [Act.put, List.setIfInBounds_toArray, List.set_cons_zero, List.set_cons_succ, i64_w, i32_w]
       rfl
      refine one_ (i := 10) (N := some 63) #[true, true, true, true, true, true, true, true, true, true, true, false, false] rfl rfl (one_of HT_.out (by kernel_rfl)) (by decide) (fun K hK => ?_)
      refine goes_ Try.func46 (by kernel_rfl) rfl #[.agg #[.int .i64 a0_0, .bool a0_1, .slice A0_2 l0_2.length c0_2], .agg #[.int .i64 ((rd_T38 t137 x10_2).f0), .bool ((rd_T38 t137 x10_2).f1)]] (by rfl) rfl rfl (by (try simp only [List.map_toArray, List.map_cons, List.map_nil]); first | done | rfl | (simp only [List.length_drop, List.length_take]; rfl)) ?_
      with_reducible refine (ebbtideref11_Time.calls a0_0 a0_1 _ _ l0_2 ((rd_T38 t137 x10_2).f0) ((rd_T38 t137 x10_2).f1) t146 _ ?side1 ?side2 (by first | exact A44.out | (have h_ := A44.out; rw [← Nbq50.out] at h_; exact h_) | (have h_ := A44.out; rw [← Nbq46.out] at h_; exact h_))).mono ?_
      (case side1 => repeat (first | exact (Kd.C_below HR0_2.out HB.out) | (with_reducible refine Kd.C_alloc ?_ _) | (with_reducible refine Kd.C_drewN ?_ _) | (with_reducible refine Kd.C_drew ?_)))
      (case side2 => exact HC0_2.out)
      rintro e w108 ⟨rfl, hb⟩
      have HS6_ := (hb.cell (World.block_lt_of_cell? _ _ (hHeld.2.2.2.2.2.2.1))).trans (hHeld.2.2.2.2.2.2.1)
      have HS7_ := (hb.cell (World.block_lt_of_cell? _ _ (hHeld.2.2.2.2.2.2.2.1))).trans (hHeld.2.2.2.2.2.2.2.1)
      have HS8_ := (hb.cell (World.block_lt_of_cell? _ _ (hHeld.2.2.2.2.2.2.2.2))).trans (hHeld.2.2.2.2.2.2.2.2)
      refine ⟨_, rfl, ?_⟩
      have n0_ := Aside0.mk (Kd.R_below HO_8.out hb)
      have n1_ := Aside0.mk (Kd.R_below HO_136000.out hb)
      have n2_ := Aside0.mk (Kd.R_below HO_136001.out hb)
      have n3_ := Aside0.mk (blk_below BK127.out hb)
      have n4_ := Aside0.mk (blk_below BK128.out hb)
      have n5_ := Aside0.mk (blk_below BK135.out hb)
      have n6_ := Aside0.mk (below_step HB.out hb)
      clear HO_8
      clear HO_136000
      clear HO_136001
      clear BK127
      clear BK128
      clear BK135
      clear HB
      have HO_8 := n0_
      have HO_136000 := n1_
      have HO_136001 := n2_
      have BK127 := n3_
      have BK128 := n4_
      have BK135 := n5_
      have HB := n6_
      clear n0_ n1_ n2_ n3_ n4_ n5_ n6_
      (try clear hb)
      (try clear hb2)
      (try clear hk)
      (try clear hi)
      refine hK.out _ _ ⟨(blk_cell BK135.out 0).trans rfl, (blk_cell BK135.out 1).trans rfl, (blk_cell BK135.out 2).trans rfl, (blk_cell BK127.out 0).trans rfl, (blk_cell BK127.out 1).trans rfl, (blk_cell BK127.out 2).trans rfl, HS6_, HS7_, HS8_⟩ (fun hHeld => ?_)
      clear hK K
      refine norm_ (a' := ?_) ?_ ?_
      rotate_left
      ·show Act.put _ (some 63) _ = _
       simp only [Act.put, List.setIfInBounds_toArray, List.set_cons_zero, List.set_cons_succ, i64_w, i32_w]
       rfl
      refine pure_ (i := 11) (N := some 64) (v := ?_) (a' := ?_) #[true, true, true, true, true, true, true, true, true, true, true, true, false] rfl rfl (any_of HT_.out (by kernel_rfl)) (fun _ _ _ h => h) (Or.inl ⟨by rfl, ?_⟩) ?_ ?_
      rotate_left
      ·intro w'
       go_simp
       with_reducible rfl
      rotate_left
      ·simp only [Act.put, List.setIfInBounds_toArray, List.set_cons_zero, List.set_cons_succ, i64_w, i32_w]
       rfl
      refine pure_ (i := 12) (N := some 13) (v := ?_) (a' := ?_) #[true, true, true, true, true, true, true, true, true, true, true, true, true] rfl rfl (any_of HT_.out (by kernel_rfl)) (fun _ _ _ h => h) (Or.inl ⟨by rfl, ?_⟩) ?_ ?_
      rotate_left
      ·intro w'
       go_simp
       with_reducible rfl
      rotate_left
      ·simp only [Act.put, List.setIfInBounds_toArray, List.set_cons_zero, List.set_cons_succ, i64_w, i32_w]
       rfl
      refine done_ (done_of HT_.out (by kernel_rfl)) ?_
      have hnb109 := NB135_127.out
      have hnc109 := NB127_135.out
      have hnb110 := NB135_128.out
      have hnc110 := NB128_135.out
      have hcz111_0 : w108.cell? ⟨gb135, 0, none⟩ = some (.slice (some ad144) x136000_2.length co107) := (blk_cell BK135.out 0).trans rfl
      have hcz111_1 : w108.cell? ⟨gb135, 1, none⟩ = some (u136001) := (blk_cell BK135.out 1).trans rfl
      have hcz111_2 : w108.cell? ⟨gb135, 2, none⟩ = some (.bool x136002_2) := (blk_cell BK135.out 2).trans rfl
      have hfz111_0 := blk_frozen BK135.out 0
      have hfz111_1 := blk_frozen BK135.out 1
      have hfz111_2 := blk_frozen BK135.out 2
      obtain ⟨Ao112, co112, eo112⟩ := Kd.R_slice HO_136001.out
      subst eo112
      have p147 : 0 ≤ (t141 : Int) := of_decide_eq_true (by first | (with_reducible assumption) | assumption)
      have q147 : t141 < (x136001_2.length : Int) := of_decide_eq_true (by first | (with_reducible assumption) | assumption)
      obtain ⟨ad147, e147, hx147_0⟩ := Kd.at_bool (Kd.R_reads' HO_136001.out).2.2 t141 p147 q147
      (try rw [← Nbq46.out] at hx147_0)
      cases e147
      replace p147 := eq_true p147
      replace q147 := eq_true q147
      try go_wp2
      go_roundg k2
      case measure => have := HK1.out; have := HK2.out; omega
      case rel => exact ⟨(wrap64 (x10_2 + 1)), (x136000_2), (x136001_2), (x136002_2), (.slice (some ad144) x136000_2.length co107), (.slice (some ad147) x136001_2.length co112), (by first | rfl | (simp; done) | (simp [*]; done)), H', ⟨by have := HK1.out; have := HK2.out; omega⟩, ⟨HO_8.out⟩, ⟨HO_136000.out⟩, ⟨HO_136001.out⟩, ⟨BK127.out⟩, ⟨BK128.out⟩, ⟨BK135.out⟩, ⟨HB.out⟩⟩
     subst c47
     have H1 : (if 0 ≤ t143 then (if t143 < (x136001_2.length : Int) then (if rdOf false x136001_2 t143 = true then (if t143 < (x136000_2.length : Int) then (if (wrap64 ((rd x136000_2 t141) + t146)) < (rd x136000_2 t143) then (ebbtideref11_From.l1 k2 t137 x9_1 (wrap64 (x10_2 + 1)) a0_0 a0_1 l0_2 (x136000_2.set (t143 : Int).toNat (wrap64 ((rd x136000_2 t141) + t146))) (x136001_2.set (t143 : Int).toNat true) false) else (ebbtideref11_From.l1 k2 t137 x9_1 (wrap64 (x10_2 + 1)) a0_0 a0_1 l0_2 x136000_2 x136001_2 x136002_2)) else (none)) else (if t143 < (x136000_2.length : Int) then (ebbtideref11_From.l1 k2 t137 x9_1 (wrap64 (x10_2 + 1)) a0_0 a0_1 l0_2 (x136000_2.set (t143 : Int).toNat (wrap64 ((rd x136000_2 t141) + t146))) (x136001_2.set (t143 : Int).toNat true) false) else (none))) else (none)) else (none)) = some (r1, r2, r3) := by rw [if_pos rfl] at H; exact H
     clear H
     have H := H1
     clear H1
     by_cases c48 : 0 ≤ t143
     rotate_left
     ·rw [if_neg c48] at H
      exact absurd H (by simp)
     rw [if_pos c48] at H
     have c48b0 : decide (0 ≤ t143) = true := decide_eq_true c48
     clear c48
     by_cases c49 : t143 < (x136001_2.length : Int)
     rotate_left
     ·rw [if_neg c49] at H
      exact absurd H (by simp)
     rw [if_pos c49] at H
     have c49b0 : decide (t143 < (x136001_2.length : Int)) = true := decide_eq_true c49
     clear c49
     obtain ⟨bq50, hbq50⟩ : ∃ b_ : Bool, b_ = (rdOf false x136001_2 t143) := ⟨_, rfl⟩
     replace H : (if bq50 = true then (if t143 < (x136000_2.length : Int) then (if (wrap64 ((rd x136000_2 t141) + t146)) < (rd x136000_2 t143) then (ebbtideref11_From.l1 k2 t137 x9_1 (wrap64 (x10_2 + 1)) a0_0 a0_1 l0_2 (x136000_2.set (t143 : Int).toNat (wrap64 ((rd x136000_2 t141) + t146))) (x136001_2.set (t143 : Int).toNat true) false) else (ebbtideref11_From.l1 k2 t137 x9_1 (wrap64 (x10_2 + 1)) a0_0 a0_1 l0_2 x136000_2 x136001_2 x136002_2)) else (none)) else (if t143 < (x136000_2.length : Int) then (ebbtideref11_From.l1 k2 t137 x9_1 (wrap64 (x10_2 + 1)) a0_0 a0_1 l0_2 (x136000_2.set (t143 : Int).toNat (wrap64 ((rd x136000_2 t141) + t146))) (x136001_2.set (t143 : Int).toNat true) false) else (none))) = some (r1, r2, r3) := by rw [← hbq50] at H; exact H
     have Nbq50 := Aside0.mk hbq50
     clear hbq50
     by_cases c51 : bq50 = true
     rotate_left
     ·replace c51 := Bool.eq_false_iff.mpr c51
      subst c51
      have H1 : (if t143 < (x136000_2.length : Int) then (ebbtideref11_From.l1 k2 t137 x9_1 (wrap64 (x10_2 + 1)) a0_0 a0_1 l0_2 (x136000_2.set (t143 : Int).toNat (wrap64 ((rd x136000_2 t141) + t146))) (x136001_2.set (t143 : Int).toNat true) false) else (none)) = some (r1, r2, r3) := by rw [if_neg (show ¬ (false = true) by decide)] at H; exact H
      clear H
      have H := H1
      clear H1
      by_cases c83 : t143 < (x136000_2.length : Int)
      rotate_left
      ·rw [if_neg c83] at H
       exact absurd H (by simp)
      rw [if_pos c83] at H
      have c83b0 : decide (t143 < (x136000_2.length : Int)) = true := decide_eq_true c83
      clear c83
      obtain ⟨y152, hy152⟩ : ∃ y_ : List Int, y_ = (x136000_2.set (t143 : Int).toNat (wrap64 ((rd x136000_2 t141) + t146))) := ⟨_, rfl⟩
      replace H : (ebbtideref11_From.l1 k2 t137 x9_1 (wrap64 (x10_2 + 1)) a0_0 a0_1 l0_2 y152 (x136001_2.set (t143 : Int).toNat true) false) = some (r1, r2, r3) := by first | (rw [hy152]; with_reducible exact H) | (have H2_ := (Option.bind_some _ _).symm.trans H; rw [hy152]; with_reducible exact H2_) | (have H2_ := (Option.bind_some _ _).symm.trans H; with_reducible exact H2_) | with_reducible exact H | (rw [hy152]; exact H) | exact H
      have Ny152 := Aside0.mk hy152
      clear hy152
      obtain ⟨y153, hy153⟩ : ∃ y_ : List Bool, y_ = (x136001_2.set (t143 : Int).toNat true) := ⟨_, rfl⟩
      replace H : (ebbtideref11_From.l1 k2 t137 x9_1 (wrap64 (x10_2 + 1)) a0_0 a0_1 l0_2 y152 y153 false) = some (r1, r2, r3) := by first | (rw [hy153]; with_reducible exact H) | (have H2_ := (Option.bind_some _ _).symm.trans H; rw [hy153]; with_reducible exact H2_) | (have H2_ := (Option.bind_some _ _).symm.trans H; with_reducible exact H2_) | with_reducible exact H | (rw [hy153]; exact H) | exact H
      have Ny153 := Aside0.mk hy153
      clear hy153
      have H' := Aside0.mk H
      clear H
      obtain ⟨Ao86, co86, eo86⟩ := Kd.R_slice HO_8.out
      subst eo86
      try go_wp2
      have n0_ := Aside0.mk (Kd.R_drew HO_8.out)
      have n1_ := Aside0.mk (Kd.R_drew HO_136000.out)
      have n2_ := Aside0.mk (Kd.R_drew HO_136001.out)
      have n3_ := Aside0.mk (blk_drew BK127.out)
      have n4_ := Aside0.mk (blk_drew BK128.out)
      have n5_ := Aside0.mk (blk_drew BK135.out)
      have n6_ := Aside0.mk (below_drew1 HB.out)
      clear HO_8
      clear HO_136000
      clear HO_136001
      clear BK127
      clear BK128
      clear BK135
      clear HB
      have HO_8 := n0_
      have HO_136000 := n1_
      have HO_136001 := n2_
      have BK127 := n3_
      have BK128 := n4_
      have BK135 := n5_
      have HB := n6_
      clear n0_ n1_ n2_ n3_ n4_ n5_ n6_
      have p140 : 0 ≤ (x10_2 : Int) := of_decide_eq_true (by first | (with_reducible assumption) | assumption)
      have q140 : x10_2 < (t137.length : Int) := of_decide_eq_true (by first | (with_reducible assumption) | assumption)
      obtain ⟨ad140, e140, hx140_0, hx140_1⟩ := at_T38 (Kd.R_reads' HO_8.out).2.2 x10_2 p140 q140
      (try rw [← Nbq46.out] at hx140_1)
      (try rw [← Nbq50.out] at hx140_1)
      cases e140
      replace p140 := eq_true p140
      replace q140 := eq_true q140
      have p142 : 0 ≤ (x10_2 : Int) := of_decide_eq_true (by first | (with_reducible assumption) | assumption)
      have q142 : x10_2 < (t137.length : Int) := of_decide_eq_true (by first | (with_reducible assumption) | assumption)
      obtain ⟨ad142, e142, hx142_0, hx142_1⟩ := at_T38 (Kd.R_reads' HO_8.out).2.2 x10_2 p142 q142
      (try rw [← Nbq46.out] at hx142_1)
      (try rw [← Nbq50.out] at hx142_1)
      obtain rfl : ad140 = ad142 := (by injection e142)
      replace p142 := eq_true p142
      replace q142 := eq_true q142
      refine start_ (n := 14) (S := fun w' => w'.cell? ⟨gb127, 0, none⟩ = some (.int .i64 a0_0) ∧ w'.cell? ⟨gb127, 1, none⟩ = some (.bool a0_1) ∧ w'.cell? ⟨gb127, 2, none⟩ = some (.slice A0_2 l0_2.length c0_2) ∧ w'.cell? (ad140.add ((x10_2).toNat * 2)) = some (.int .i64 ((rd_T38 t137 x10_2).f0)) ∧ w'.cell? ⟨(ad140.add ((x10_2).toNat * 2)).block, (ad140.add ((x10_2).toNat * 2)).off + 1, none⟩ = some (.bool ((rd_T38 t137 x10_2).f1)) ∧ w'.cell? (ad140.add ((x10_2).toNat * 2)) = some (.int .i64 ((rd_T38 t137 x10_2).f0)) ∧ w'.cell? ⟨(ad140.add ((x10_2).toNat * 2)).block, (ad140.add ((x10_2).toNat * 2)).off + 1, none⟩ = some (.bool ((rd_T38 t137 x10_2).f1))) (ds := []) #[false, false, false, false, false, false, false, false, false, false, false, false, false, false] (by kernel_rfl) rfl rfl ⟨(blk_cell BK127.out 0).trans rfl, (blk_cell BK127.out 1).trans rfl, (blk_cell BK127.out 2).trans rfl, hx140_0, hx140_1, hx142_0, hx142_1⟩ (fun hHeld => ?_); refine with_tabW ebbtideref11_From.tab11 ebbtideref11_From.bits11 (fun HT_ HW_ => ?_)
      generalize wr.drew = w87 at HO_8 HO_136000 HO_136001 BK127 BK128 BK135 HB hx140_0 hx140_1 hx142_0 hx142_1 hHeld ⊢
      refine pure_ (i := 1) (N := some 42) (v := ?_) (a' := ?_) #[false, true, false, false, false, false, false, false, false, false, false, false, false, false] rfl rfl (any_of HT_.out (by kernel_rfl)) (fun _ _ _ h => h) (Or.inl ⟨by rfl, ?_⟩) ?_ ?_
      rotate_left
      ·intro w'
       go_simp
       with_reducible rfl
      rotate_left
      ·simp only [Act.put, List.setIfInBounds_toArray, List.set_cons_zero, List.set_cons_succ, i64_w, i32_w]
       rfl
      refine pure_ (i := 2) (N := some 43) (v := ?_) (a' := ?_) #[false, true, true, false, false, false, false, false, false, false, false, false, false, false] rfl rfl (any_of HT_.out (by kernel_rfl)) (fun _ _ _ h => h) (Or.inl ⟨by rfl, ?_⟩) ?_ ?_
      rotate_left
      ·intro w'
       go_simp
       with_reducible rfl
      rotate_left
      ·simp only [Act.put, List.setIfInBounds_toArray, List.set_cons_zero, List.set_cons_succ, i64_w, i32_w]
       rfl
      refine pure_ (i := 3) (N := some 44) (v := ?_) (a' := ?_) #[false, true, true, true, false, false, false, false, false, false, false, false, false, false] rfl rfl (any_of HT_.out (by kernel_rfl)) (fun _ _ _ h => h) (Or.inl ⟨by rfl, ?_⟩) ?_ ?_
      rotate_left
      ·intro w'
       go_simp
       with_reducible rfl
      rotate_left
      ·simp only [Act.put, List.setIfInBounds_toArray, List.set_cons_zero, List.set_cons_succ, i64_w, i32_w]
       rfl
      refine pure_ (i := 7) (N := some 48) (v := ?_) (a' := ?_) #[false, true, true, true, false, false, false, true, false, false, false, false, false, false] rfl rfl (any_of HT_.out (by kernel_rfl)) (fun _ _ _ h => h) (Or.inl ⟨by rfl, ?_⟩) ?_ ?_
      rotate_left
      ·intro w'
       go_simp
       with_reducible rfl
      rotate_left
      ·simp only [Act.put, List.setIfInBounds_toArray, List.set_cons_zero, List.set_cons_succ, i64_w, i32_w]
       rfl
      refine pure_ (i := 8) (N := some 49) (v := ?_) (a' := ?_) #[false, true, true, true, false, false, false, true, true, false, false, false, false, false] rfl rfl (any_of HT_.out (by kernel_rfl)) (fun _ _ _ h => h) (Or.inl ⟨by rfl, ?_⟩) ?_ ?_
      rotate_left
      ·intro w'
       go_simp
       with_reducible rfl
      rotate_left
      ·simp only [Act.put, List.setIfInBounds_toArray, List.set_cons_zero, List.set_cons_succ, i64_w, i32_w]
       rfl
      refine pure_ (i := 9) (N := some 50) (v := ?_) (a' := ?_) #[false, true, true, true, false, false, false, true, true, true, false, false, false, false] rfl rfl (any_of HT_.out (by kernel_rfl)) (fun _ _ _ h => h) (Or.inl ⟨by rfl, ?_⟩) ?_ ?_
      rotate_left
      ·intro w'
       go_simp
       with_reducible rfl
      rotate_left
      ·simp only [Act.put, List.setIfInBounds_toArray, List.set_cons_zero, List.set_cons_succ, i64_w, i32_w]
       rfl
      refine take_ (i := 0) (N := some 41) (v := ?_) (a' := ?_) #[true, true, true, true, false, false, false, true, true, true, false, false, false, false] rfl rfl (take_ofW HT_.out HW_.out (by kernel_rfl)) (fun _ _ _ h => h) (Or.inl ⟨by rfl, ?_⟩) hHeld ?_ ?_
      rotate_left
      ·rintro w' ⟨s0, s1, s2, s3, s4, s5, s6⟩
       go_simp
       with_reducible rfl
      rotate_left
      ·simp only [Act.put, List.setIfInBounds_toArray, List.set_cons_zero, List.set_cons_succ, i64_w, i32_w]
       rfl
      refine take_ (i := 4) (N := some 45) (v := ?_) (a' := ?_) #[true, true, true, true, true, false, false, true, true, true, false, false, false, false] rfl rfl (take_ofW HT_.out HW_.out (by kernel_rfl)) (fun _ _ _ h => h) (Or.inl ⟨by rfl, ?_⟩) hHeld ?_ ?_
      rotate_left
      ·rintro w' ⟨s0, s1, s2, s3, s4, s5, s6⟩
       go_simp
       with_reducible rfl
      rotate_left
      ·simp only [Act.put, List.setIfInBounds_toArray, List.set_cons_zero, List.set_cons_succ, i64_w, i32_w]
       rfl
      refine take_ (i := 6) (N := some 47) (v := ?_) (a' := ?_) #[true, true, true, true, true, false, true, true, true, true, false, false, false, false] rfl rfl (take_ofW HT_.out HW_.out (by kernel_rfl)) (fun _ _ _ h => h) (Or.inl ⟨by rfl, ?_⟩) hHeld ?_ ?_
      rotate_left
      ·rintro w' ⟨s0, s1, s2, s3, s4, s5, s6⟩
       go_simp
       with_reducible rfl
      rotate_left
      ·simp only [Act.put, List.setIfInBounds_toArray, List.set_cons_zero, List.set_cons_succ, i64_w, i32_w]
       rfl
      refine take_ (i := 10) (N := some 51) (v := ?_) (a' := ?_) #[true, true, true, true, true, false, true, true, true, true, true, false, false, false] rfl rfl (take_ofW HT_.out HW_.out (by kernel_rfl)) (fun _ _ _ h => h) (Or.inl ⟨by rfl, ?_⟩) hHeld ?_ ?_
      rotate_left
      ·rintro w' ⟨s0, s1, s2, s3, s4, s5, s6⟩
       go_simp
       with_reducible rfl
      rotate_left
      ·simp only [Act.put, List.setIfInBounds_toArray, List.set_cons_zero, List.set_cons_succ, i64_w, i32_w]
       rfl
      refine one_ (i := 5) (N := some 46) #[true, true, true, true, true, true, true, true, true, true, true, false, false, false] rfl rfl (one_of HT_.out (by kernel_rfl)) (by decide) (fun K hK => ?_)
      refine goes_ Try.func44 (by kernel_rfl) rfl #[.agg #[.int .i64 a0_0, .bool a0_1, .slice A0_2 l0_2.length c0_2], .agg #[.int .i64 ((rd_T38 t137 x10_2).f0), .bool ((rd_T38 t137 x10_2).f1)]] (by rfl) rfl rfl (by (try simp only [List.map_toArray, List.map_cons, List.map_nil]); first | done | rfl | (simp only [List.length_drop, List.length_take]; rfl)) ?_
      with_reducible refine (ebbtideref07_From.calls a0_0 a0_1 _ _ l0_2 ((rd_T38 t137 x10_2).f0) ((rd_T38 t137 x10_2).f1) t141 _ ?side1 ?side2 (by first | exact A40.out | (have h_ := A40.out; rw [← Nbq50.out] at h_; exact h_) | (have h_ := A40.out; rw [← Nbq46.out] at h_; exact h_))).mono ?_
      (case side1 => repeat (first | exact (Kd.C_below HR0_2.out HB.out) | (with_reducible refine Kd.C_alloc ?_ _) | (with_reducible refine Kd.C_drewN ?_ _) | (with_reducible refine Kd.C_drew ?_)))
      (case side2 => exact HC0_2.out)
      rintro e w88 ⟨rfl, hb⟩
      have HS3_ := (hb.cell (World.block_lt_of_cell? _ _ (hHeld.2.2.2.1))).trans (hHeld.2.2.2.1)
      have HS4_ := (hb.cell (World.block_lt_of_cell? _ _ (hHeld.2.2.2.2.1))).trans (hHeld.2.2.2.2.1)
      have HS5_ := (hb.cell (World.block_lt_of_cell? _ _ (hHeld.2.2.2.2.2.1))).trans (hHeld.2.2.2.2.2.1)
      have HS6_ := (hb.cell (World.block_lt_of_cell? _ _ (hHeld.2.2.2.2.2.2))).trans (hHeld.2.2.2.2.2.2)
      refine ⟨_, rfl, ?_⟩
      have n0_ := Aside0.mk (Kd.R_below HO_8.out hb)
      have n1_ := Aside0.mk (Kd.R_below HO_136000.out hb)
      have n2_ := Aside0.mk (Kd.R_below HO_136001.out hb)
      have n3_ := Aside0.mk (blk_below BK127.out hb)
      have n4_ := Aside0.mk (blk_below BK128.out hb)
      have n5_ := Aside0.mk (blk_below BK135.out hb)
      have n6_ := Aside0.mk (below_step HB.out hb)
      clear HO_8
      clear HO_136000
      clear HO_136001
      clear BK127
      clear BK128
      clear BK135
      clear HB
      have HO_8 := n0_
      have HO_136000 := n1_
      have HO_136001 := n2_
      have BK127 := n3_
      have BK128 := n4_
      have BK135 := n5_
      have HB := n6_
      clear n0_ n1_ n2_ n3_ n4_ n5_ n6_
      (try clear hb)
      (try clear hb2)
      (try clear hk)
      (try clear hi)
      refine hK.out _ _ ⟨(blk_cell BK127.out 0).trans rfl, (blk_cell BK127.out 1).trans rfl, (blk_cell BK127.out 2).trans rfl, HS3_, HS4_, HS5_, HS6_⟩ (fun hHeld => ?_)
      clear hK K
      refine norm_ (a' := ?_) ?_ ?_
      rotate_left
      ·show Act.put _ (some 46) _ = _
       simp only [Act.put, List.setIfInBounds_toArray, List.set_cons_zero, List.set_cons_succ, i64_w, i32_w]
       rfl
      refine one_ (i := 11) (N := some 52) #[true, true, true, true, true, true, true, true, true, true, true, true, false, false] rfl rfl (one_of HT_.out (by kernel_rfl)) (by decide) (fun K hK => ?_)
      refine goes_ Try.func45 (by kernel_rfl) rfl #[.agg #[.int .i64 a0_0, .bool a0_1, .slice A0_2 l0_2.length c0_2], .agg #[.int .i64 ((rd_T38 t137 x10_2).f0), .bool ((rd_T38 t137 x10_2).f1)]] (by rfl) rfl rfl (by (try simp only [List.map_toArray, List.map_cons, List.map_nil]); first | done | rfl | (simp only [List.length_drop, List.length_take]; rfl)) ?_
      with_reducible refine (ebbtideref07_To.calls a0_0 a0_1 _ _ l0_2 ((rd_T38 t137 x10_2).f0) ((rd_T38 t137 x10_2).f1) t143 _ ?side1 ?side2 (by first | exact A41.out | (have h_ := A41.out; rw [← Nbq50.out] at h_; exact h_) | (have h_ := A41.out; rw [← Nbq46.out] at h_; exact h_))).mono ?_
      (case side1 => repeat (first | exact (Kd.C_below HR0_2.out HB.out) | (with_reducible refine Kd.C_alloc ?_ _) | (with_reducible refine Kd.C_drewN ?_ _) | (with_reducible refine Kd.C_drew ?_)))
      (case side2 => exact HC0_2.out)
      rintro e w89 ⟨rfl, hb⟩
      have HS3_ := (hb.cell (World.block_lt_of_cell? _ _ (hHeld.2.2.2.1))).trans (hHeld.2.2.2.1)
      have HS4_ := (hb.cell (World.block_lt_of_cell? _ _ (hHeld.2.2.2.2.1))).trans (hHeld.2.2.2.2.1)
      have HS5_ := (hb.cell (World.block_lt_of_cell? _ _ (hHeld.2.2.2.2.2.1))).trans (hHeld.2.2.2.2.2.1)
      have HS6_ := (hb.cell (World.block_lt_of_cell? _ _ (hHeld.2.2.2.2.2.2))).trans (hHeld.2.2.2.2.2.2)
      refine ⟨_, rfl, ?_⟩
      have n0_ := Aside0.mk (Kd.R_below HO_8.out hb)
      have n1_ := Aside0.mk (Kd.R_below HO_136000.out hb)
      have n2_ := Aside0.mk (Kd.R_below HO_136001.out hb)
      have n3_ := Aside0.mk (blk_below BK127.out hb)
      have n4_ := Aside0.mk (blk_below BK128.out hb)
      have n5_ := Aside0.mk (blk_below BK135.out hb)
      have n6_ := Aside0.mk (below_step HB.out hb)
      clear HO_8
      clear HO_136000
      clear HO_136001
      clear BK127
      clear BK128
      clear BK135
      clear HB
      have HO_8 := n0_
      have HO_136000 := n1_
      have HO_136001 := n2_
      have BK127 := n3_
      have BK128 := n4_
      have BK135 := n5_
      have HB := n6_
      clear n0_ n1_ n2_ n3_ n4_ n5_ n6_
      (try clear hb)
      (try clear hb2)
      (try clear hk)
      (try clear hi)
      refine hK.out _ _ ⟨(blk_cell BK127.out 0).trans rfl, (blk_cell BK127.out 1).trans rfl, (blk_cell BK127.out 2).trans rfl, HS3_, HS4_, HS5_, HS6_⟩ (fun hHeld => ?_)
      clear hK K
      refine norm_ (a' := ?_) ?_ ?_
      rotate_left
      ·show Act.put _ (some 52) _ = _
       simp only [Act.put, List.setIfInBounds_toArray, List.set_cons_zero, List.set_cons_succ, i64_w, i32_w]
       rfl
      refine pure_ (i := 12) (N := some 11) (v := ?_) (a' := ?_) #[true, true, true, true, true, true, true, true, true, true, true, true, true, false] rfl rfl (any_of HT_.out (by kernel_rfl)) (fun _ _ _ h => h) (Or.inl ⟨by rfl, ?_⟩) ?_ ?_
      rotate_left
      ·intro w'
       go_simp
       with_reducible rfl
      rotate_left
      ·simp only [Act.put, List.setIfInBounds_toArray, List.set_cons_zero, List.set_cons_succ, i64_w, i32_w]
       rfl
      refine pure_ (i := 13) (N := some 12) (v := ?_) (a' := ?_) #[true, true, true, true, true, true, true, true, true, true, true, true, true, true] rfl rfl (any_of HT_.out (by kernel_rfl)) (fun _ _ _ h => h) (Or.inl ⟨by rfl, ?_⟩) ?_ ?_
      rotate_left
      ·intro w'
       go_simp
       with_reducible rfl
      rotate_left
      ·simp only [Act.put, List.setIfInBounds_toArray, List.set_cons_zero, List.set_cons_succ, i64_w, i32_w]
       rfl
      refine done_ (done_of HT_.out (by kernel_rfl)) ?_
      try go_wp2
      have n0_ := Aside0.mk (Kd.R_drew HO_8.out)
      have n1_ := Aside0.mk (Kd.R_drew HO_136000.out)
      have n2_ := Aside0.mk (Kd.R_drew HO_136001.out)
      have n3_ := Aside0.mk (blk_drew BK127.out)
      have n4_ := Aside0.mk (blk_drew BK128.out)
      have n5_ := Aside0.mk (blk_drew BK135.out)
      have n6_ := Aside0.mk (below_drew1 HB.out)
      clear HO_8
      clear HO_136000
      clear HO_136001
      clear BK127
      clear BK128
      clear BK135
      clear HB
      have HO_8 := n0_
      have HO_136000 := n1_
      have HO_136001 := n2_
      have BK127 := n3_
      have BK128 := n4_
      have BK135 := n5_
      have HB := n6_
      clear n0_ n1_ n2_ n3_ n4_ n5_ n6_
      obtain ⟨Ao91, co91, eo91⟩ := Kd.R_slice HO_136000.out
      (first | subst eo91 | (injection eo91 with f1_ f2_ f3_; have f4_ := f1_.symm; have f5_ := f3_.symm; clear f1_ f2_ f3_; subst f4_; subst f5_))
      have p144 : 0 ≤ (t141 : Int) := of_decide_eq_true (by first | (with_reducible assumption) | assumption)
      have q144 : t141 < (x136000_2.length : Int) := of_decide_eq_true (by first | (with_reducible assumption) | assumption)
      obtain ⟨ad144, e144, hx144_0⟩ := Kd.at_int (Kd.R_reads' HO_136000.out).2.2 t141 p144 q144
      cases e144
      replace p144 := eq_true p144
      replace q144 := eq_true q144
      have p145 : 0 ≤ (x10_2 : Int) := of_decide_eq_true (by first | (with_reducible assumption) | assumption)
      have q145 : x10_2 < (t137.length : Int) := of_decide_eq_true (by first | (with_reducible assumption) | assumption)
      obtain ⟨ad145, e145, hx145_0, hx145_1⟩ := at_T38 (Kd.R_reads' HO_8.out).2.2 x10_2 p145 q145
      (try rw [← Nbq46.out] at hx145_1)
      (try rw [← Nbq50.out] at hx145_1)
      obtain rfl : ad140 = ad145 := (by injection e145)
      replace p145 := eq_true p145
      replace q145 := eq_true q145
      refine start_ (n := 13) (S := fun w' => w'.cell? ⟨gb135, 0, none⟩ = some (.slice (some ad144) x136000_2.length co91) ∧ w'.cell? ⟨gb135, 1, none⟩ = some (u136001) ∧ w'.cell? ⟨gb135, 2, none⟩ = some (.bool x136002_2) ∧ w'.cell? ⟨gb127, 0, none⟩ = some (.int .i64 a0_0) ∧ w'.cell? ⟨gb127, 1, none⟩ = some (.bool a0_1) ∧ w'.cell? ⟨gb127, 2, none⟩ = some (.slice A0_2 l0_2.length c0_2) ∧ w'.cell? (ad144.add (t141).toNat) = some (.int .i64 (rd x136000_2 t141)) ∧ w'.cell? (ad140.add ((x10_2).toNat * 2)) = some (.int .i64 ((rd_T38 t137 x10_2).f0)) ∧ w'.cell? ⟨(ad140.add ((x10_2).toNat * 2)).block, (ad140.add ((x10_2).toNat * 2)).off + 1, none⟩ = some (.bool ((rd_T38 t137 x10_2).f1))) (ds := []) #[false, false, false, false, false, false, false, false, false, false, false, false, false] (by kernel_rfl) rfl rfl ⟨(blk_cell BK135.out 0).trans rfl, (blk_cell BK135.out 1).trans rfl, (blk_cell BK135.out 2).trans rfl, (blk_cell BK127.out 0).trans rfl, (blk_cell BK127.out 1).trans rfl, (blk_cell BK127.out 2).trans rfl, hx144_0, hx145_0, hx145_1⟩ (fun hHeld => ?_); refine with_tabW ebbtideref11_From.tab12 ebbtideref11_From.bits12 (fun HT_ HW_ => ?_)
      generalize w89.drew = w90 at HO_8 HO_136000 HO_136001 BK127 BK128 BK135 HB hx144_0 hx145_0 hx145_1 hHeld ⊢
      refine pure_ (i := 0) (N := some 53) (v := ?_) (a' := ?_) #[true, false, false, false, false, false, false, false, false, false, false, false, false] rfl rfl (any_of HT_.out (by kernel_rfl)) (fun _ _ _ h => h) (Or.inl ⟨by rfl, ?_⟩) ?_ ?_
      rotate_left
      ·intro w'
       go_simp
       with_reducible rfl
      rotate_left
      ·simp only [Act.put, List.setIfInBounds_toArray, List.set_cons_zero, List.set_cons_succ, i64_w, i32_w]
       rfl
      refine pure_ (i := 2) (N := some 55) (v := ?_) (a' := ?_) #[true, false, true, false, false, false, false, false, false, false, false, false, false] rfl rfl (any_of HT_.out (by kernel_rfl)) (fun _ _ _ h => h) (Or.inl ⟨by rfl, ?_⟩) ?_ ?_
      rotate_left
      ·intro w'
       go_simp
       with_reducible rfl
      rotate_left
      ·simp only [Act.put, List.setIfInBounds_toArray, List.set_cons_zero, List.set_cons_succ, i64_w, i32_w]
       rfl
      refine pure_ (i := 6) (N := some 59) (v := ?_) (a' := ?_) #[true, false, true, false, false, false, true, false, false, false, false, false, false] rfl rfl (any_of HT_.out (by kernel_rfl)) (fun _ _ _ h => h) (Or.inl ⟨by rfl, ?_⟩) ?_ ?_
      rotate_left
      ·intro w'
       go_simp
       with_reducible rfl
      rotate_left
      ·simp only [Act.put, List.setIfInBounds_toArray, List.set_cons_zero, List.set_cons_succ, i64_w, i32_w]
       rfl
      refine pure_ (i := 7) (N := some 60) (v := ?_) (a' := ?_) #[true, false, true, false, false, false, true, true, false, false, false, false, false] rfl rfl (any_of HT_.out (by kernel_rfl)) (fun _ _ _ h => h) (Or.inl ⟨by rfl, ?_⟩) ?_ ?_
      rotate_left
      ·intro w'
       go_simp
       with_reducible rfl
      rotate_left
      ·simp only [Act.put, List.setIfInBounds_toArray, List.set_cons_zero, List.set_cons_succ, i64_w, i32_w]
       rfl
      refine pure_ (i := 8) (N := some 61) (v := ?_) (a' := ?_) #[true, false, true, false, false, false, true, true, true, false, false, false, false] rfl rfl (any_of HT_.out (by kernel_rfl)) (fun _ _ _ h => h) (Or.inl ⟨by rfl, ?_⟩) ?_ ?_
      rotate_left
      ·intro w'
       go_simp
       with_reducible rfl
      rotate_left
      ·simp only [Act.put, List.setIfInBounds_toArray, List.set_cons_zero, List.set_cons_succ, i64_w, i32_w]
       rfl
      refine take_ (i := 1) (N := some 54) (v := ?_) (a' := ?_) #[true, true, true, false, false, false, true, true, true, false, false, false, false] rfl rfl (take_ofW HT_.out HW_.out (by kernel_rfl)) (fun _ _ _ h => h) (Or.inl ⟨by rfl, ?_⟩) hHeld ?_ ?_
      rotate_left
      ·rintro w' ⟨s0, s1, s2, s3, s4, s5, s6, s7, s8⟩
       go_simp
       with_reducible rfl
      rotate_left
      ·simp only [Act.put, List.setIfInBounds_toArray, List.set_cons_zero, List.set_cons_succ, i64_w, i32_w]
       rfl
      refine pure_ (i := 3) (N := some 56) (v := ?_) (a' := ?_) #[true, true, true, true, false, false, true, true, true, false, false, false, false] rfl rfl (any_of HT_.out (by kernel_rfl)) (fun _ _ _ h => h) (Or.inl ⟨by rfl, ?_⟩) ?_ ?_
      rotate_left
      ·intro w'
       go_simp
       with_reducible rfl
      rotate_left
      ·simp only [Act.put, List.setIfInBounds_toArray, List.set_cons_zero, List.set_cons_succ, i64_w, i32_w]
       rfl
      refine take_ (i := 4) (N := some 57) (v := ?_) (a' := ?_) #[true, true, true, true, true, false, true, true, true, false, false, false, false] rfl rfl (take_ofW HT_.out HW_.out (by kernel_rfl)) (fun _ _ _ h => h) (Or.inl ⟨by rfl, ?_⟩) hHeld ?_ ?_
      rotate_left
      ·rintro w' ⟨s0, s1, s2, s3, s4, s5, s6, s7, s8⟩
       go_simp
       with_reducible rfl
      rotate_left
      ·simp only [Act.put, List.setIfInBounds_toArray, List.set_cons_zero, List.set_cons_succ, i64_w, i32_w]
       rfl
      refine take_ (i := 5) (N := some 58) (v := ?_) (a' := ?_) #[true, true, true, true, true, true, true, true, true, false, false, false, false] rfl rfl (take_ofW HT_.out HW_.out (by kernel_rfl)) (fun _ _ _ h => h) (Or.inl ⟨by rfl, ?_⟩) hHeld ?_ ?_
      rotate_left
      ·rintro w' ⟨s0, s1, s2, s3, s4, s5, s6, s7, s8⟩
       go_simp
       with_reducible rfl
      rotate_left
      ·simp only [Act.put, List.setIfInBounds_toArray, List.set_cons_zero, List.set_cons_succ, i64_w, i32_w]
       rfl
      refine take_ (i := 9) (N := some 62) (v := ?_) (a' := ?_) #[true, true, true, true, true, true, true, true, true, true, false, false, false] rfl rfl (take_ofW HT_.out HW_.out (by kernel_rfl)) (fun _ _ _ h => h) (Or.inl ⟨by rfl, ?_⟩) hHeld ?_ ?_
      rotate_left
      ·rintro w' ⟨s0, s1, s2, s3, s4, s5, s6, s7, s8⟩
       go_simp
       with_reducible rfl
      rotate_left
      ·simp only [Act.put, List.setIfInBounds_toArray, List.set_cons_zero, List.set_cons_succ, i64_w, i32_w]
       rfl
      refine one_ (i := 10) (N := some 63) #[true, true, true, true, true, true, true, true, true, true, true, false, false] rfl rfl (one_of HT_.out (by kernel_rfl)) (by decide) (fun K hK => ?_)
      refine goes_ Try.func46 (by kernel_rfl) rfl #[.agg #[.int .i64 a0_0, .bool a0_1, .slice A0_2 l0_2.length c0_2], .agg #[.int .i64 ((rd_T38 t137 x10_2).f0), .bool ((rd_T38 t137 x10_2).f1)]] (by rfl) rfl rfl (by (try simp only [List.map_toArray, List.map_cons, List.map_nil]); first | done | rfl | (simp only [List.length_drop, List.length_take]; rfl)) ?_
      with_reducible refine (ebbtideref11_Time.calls a0_0 a0_1 _ _ l0_2 ((rd_T38 t137 x10_2).f0) ((rd_T38 t137 x10_2).f1) t146 _ ?side1 ?side2 (by first | exact A44.out | (have h_ := A44.out; rw [← Nbq50.out] at h_; exact h_) | (have h_ := A44.out; rw [← Nbq46.out] at h_; exact h_))).mono ?_
      (case side1 => repeat (first | exact (Kd.C_below HR0_2.out HB.out) | (with_reducible refine Kd.C_alloc ?_ _) | (with_reducible refine Kd.C_drewN ?_ _) | (with_reducible refine Kd.C_drew ?_)))
      (case side2 => exact HC0_2.out)
      rintro e w92 ⟨rfl, hb⟩
      have HS6_ := (hb.cell (World.block_lt_of_cell? _ _ (hHeld.2.2.2.2.2.2.1))).trans (hHeld.2.2.2.2.2.2.1)
      have HS7_ := (hb.cell (World.block_lt_of_cell? _ _ (hHeld.2.2.2.2.2.2.2.1))).trans (hHeld.2.2.2.2.2.2.2.1)
      have HS8_ := (hb.cell (World.block_lt_of_cell? _ _ (hHeld.2.2.2.2.2.2.2.2))).trans (hHeld.2.2.2.2.2.2.2.2)
      refine ⟨_, rfl, ?_⟩
      have n0_ := Aside0.mk (Kd.R_below HO_8.out hb)
      have n1_ := Aside0.mk (Kd.R_below HO_136000.out hb)
      have n2_ := Aside0.mk (Kd.R_below HO_136001.out hb)
      have n3_ := Aside0.mk (blk_below BK127.out hb)
      have n4_ := Aside0.mk (blk_below BK128.out hb)
      have n5_ := Aside0.mk (blk_below BK135.out hb)
      have n6_ := Aside0.mk (below_step HB.out hb)
      clear HO_8
      clear HO_136000
      clear HO_136001
      clear BK127
      clear BK128
      clear BK135
      clear HB
      have HO_8 := n0_
      have HO_136000 := n1_
      have HO_136001 := n2_
      have BK127 := n3_
      have BK128 := n4_
      have BK135 := n5_
      have HB := n6_
      clear n0_ n1_ n2_ n3_ n4_ n5_ n6_
      (try clear hb)
      (try clear hb2)
      (try clear hk)
      (try clear hi)
      refine hK.out _ _ ⟨(blk_cell BK135.out 0).trans rfl, (blk_cell BK135.out 1).trans rfl, (blk_cell BK135.out 2).trans rfl, (blk_cell BK127.out 0).trans rfl, (blk_cell BK127.out 1).trans rfl, (blk_cell BK127.out 2).trans rfl, HS6_, HS7_, HS8_⟩ (fun hHeld => ?_)
      clear hK K
      refine norm_ (a' := ?_) ?_ ?_
      rotate_left
      ·show Act.put _ (some 63) _ = _
       simp only [Act.put, List.setIfInBounds_toArray, List.set_cons_zero, List.set_cons_succ, i64_w, i32_w]
       rfl
      refine pure_ (i := 11) (N := some 64) (v := ?_) (a' := ?_) #[true, true, true, true, true, true, true, true, true, true, true, true, false] rfl rfl (any_of HT_.out (by kernel_rfl)) (fun _ _ _ h => h) (Or.inl ⟨by rfl, ?_⟩) ?_ ?_
      rotate_left
      ·intro w'
       go_simp
       with_reducible rfl
      rotate_left
      ·simp only [Act.put, List.setIfInBounds_toArray, List.set_cons_zero, List.set_cons_succ, i64_w, i32_w]
       rfl
      refine pure_ (i := 12) (N := some 13) (v := ?_) (a' := ?_) #[true, true, true, true, true, true, true, true, true, true, true, true, true] rfl rfl (any_of HT_.out (by kernel_rfl)) (fun _ _ _ h => h) (Or.inl ⟨by rfl, ?_⟩) ?_ ?_
      rotate_left
      ·intro w'
       go_simp
       with_reducible rfl
      rotate_left
      ·simp only [Act.put, List.setIfInBounds_toArray, List.set_cons_zero, List.set_cons_succ, i64_w, i32_w]
       rfl
      refine done_ (done_of HT_.out (by kernel_rfl)) ?_
      have hnb93 := NB135_127.out
      have hnc93 := NB127_135.out
      have hnb94 := NB135_128.out
      have hnc94 := NB128_135.out
      have hcz95_0 : w92.cell? ⟨gb135, 0, none⟩ = some (.slice (some ad144) x136000_2.length co91) := (blk_cell BK135.out 0).trans rfl
      have hcz95_1 : w92.cell? ⟨gb135, 1, none⟩ = some (u136001) := (blk_cell BK135.out 1).trans rfl
      have hcz95_2 : w92.cell? ⟨gb135, 2, none⟩ = some (.bool x136002_2) := (blk_cell BK135.out 2).trans rfl
      have hfz95_0 := blk_frozen BK135.out 0
      have hfz95_1 := blk_frozen BK135.out 1
      have hfz95_2 := blk_frozen BK135.out 2
      obtain ⟨Ao96, co96, eo96⟩ := Kd.R_slice HO_136001.out
      subst eo96
      have p147 : 0 ≤ (t141 : Int) := of_decide_eq_true (by first | (with_reducible assumption) | assumption)
      have q147 : t141 < (x136001_2.length : Int) := of_decide_eq_true (by first | (with_reducible assumption) | assumption)
      obtain ⟨ad147, e147, hx147_0⟩ := Kd.at_bool (Kd.R_reads' HO_136001.out).2.2 t141 p147 q147
      (try rw [← Nbq46.out] at hx147_0)
      (try rw [← Nbq50.out] at hx147_0)
      cases e147
      replace p147 := eq_true p147
      replace q147 := eq_true q147
      have p148 : 0 ≤ (t143 : Int) := of_decide_eq_true (by first | (with_reducible assumption) | assumption)
      have q148 : t143 < (x136001_2.length : Int) := of_decide_eq_true (by first | (with_reducible assumption) | assumption)
      obtain ⟨ad148, e148, hx148_0⟩ := Kd.at_bool (Kd.R_reads' HO_136001.out).2.2 t143 p148 q148
      (try rw [← Nbq46.out] at hx148_0)
      (try rw [← Nbq50.out] at hx148_0)
      obtain rfl : ad147 = ad148 := (by injection e148)
      replace p148 := eq_true p148
      replace q148 := eq_true q148
      have p84 : 0 ≤ (t143 : Int) := of_decide_eq_true (by first | (with_reducible assumption) | assumption)
      have q84 : (t143 : Int) < ((x136000_2.length : Int) : Int) := of_decide_eq_true (by first | (with_reducible assumption) | assumption)
      obtain ⟨go84, co84, eo84, gb84, gl84, cl84, HG84⟩ := Kd.R_form HO_136000.out (by omega)
      (first | cases eo84 | (injection eo84 with ea_ en_ ec_; (first | subst ea_ | (injection ea_ with ea_; subst ea_)); subst ec_; clear en_))
      have GB84 := Aside0.mk gb84
      have GG84 := Aside0.mk HG84
      clear gb84 gl84 HG84
      (first | simp only [add_plain] at hx144_0 | skip)
      (first | simp only [add_plain] at hx149_0 | skip)
      obtain ⟨hx84_0, hf84_0⟩ := Kd.R_celln 0 HO_136000.out (t143 : Int) p84 q84
      replace p84 := eq_true p84
      replace q84 := eq_true q84
      obtain ⟨hy97_, hz97_⟩ := Kd.R_celln 0 HO_136000.out (t143 : Int) (of_decide_eq_true (by first | (with_reducible assumption) | assumption)) (of_decide_eq_true (by first | (with_reducible assumption) | assumption))
      have HP97 := Kd.R_putg HO_136000.out (t143 : Int) (wrap64 ((rd x136000_2 t141) + t146))
      have p85 : 0 ≤ (t143 : Int) := of_decide_eq_true (by first | (with_reducible assumption) | assumption); have q85 : (t143 : Int) < ((x136001_2.length : Int) : Int) := of_decide_eq_true (by first | (with_reducible assumption) | assumption); obtain ⟨go85, co85, eo85, gb85, gl85, cl85, HG85⟩ := Kd.R_form HO_136001.out (by omega); (first | cases eo85 | (injection eo85 with ea_ en_ ec_; (first | subst ea_ | (injection ea_ with ea_; subst ea_)); subst ec_; clear en_)); have GB85 := Aside0.mk gb85; have GG85 := Aside0.mk HG85; clear gb85 gl85 HG85; (first | simp only [add_plain] at hx147_0 | skip); (first | simp only [add_plain] at hx148_0 | skip); obtain ⟨hx85_0, hf85_0⟩ := Kd.R_celln false HO_136001.out (t143 : Int) p85 q85; replace p85 := eq_true p85; replace q85 := eq_true q85
      try go_wp2_with fail
      have zc0 : w92.cell? ⟨gb135, 0, none⟩ = some (.slice (some ⟨go84, 0, none⟩) x136000_2.length co91) := (blk_cell BK135.out 0).trans rfl
      have zc1 : w92.cell? ⟨gb135, 1, none⟩ = some (.slice (some ⟨go85, 0, none⟩) x136001_2.length co96) := (blk_cell BK135.out 1).trans rfl
      have ngb135go84_ : gb135 ≠ go84 := fun e => Kd.R_ne HO_136000.out BK135.out (by decide) (congrArg some e)
      have ngo84gb135_ : go84 ≠ gb135 := Ne.symm ngb135go84_
      have ngb135go85_ : gb135 ≠ go85 := fun e => Kd.R_ne HO_136001.out BK135.out (by decide) (congrArg some e)
      have ngo85gb135_ : go85 ≠ gb135 := Ne.symm ngb135go85_
      have ngo84go85_ : go84 ≠ go85 := fun e => by obtain ⟨c1_, h1_⟩ := Kd.R_typed HO_136000.out _ rfl; obtain ⟨c2_, h2_⟩ := Kd.R_typed HO_136001.out _ rfl; rw [← e] at h2_; have t_ := h1_.symm.trans h2_; simp at t_
      have ngo85go84_ : go85 ≠ go84 := Ne.symm ngo84go85_
      go_region
      obtain ⟨w98, hw⟩ : ∃ x_, x_ = (w92.setCell ⟨go84, (t143 : Int).toNat, none⟩ (.int .i64 (wrap64 ((rd x136000_2 t141) + t146)))) := ⟨_, rfl⟩
      rw [← hw]
      have hg : w92.grownBy w98 (some go84) := (by rw [hw]; exact HP97.2); have hp_ : Kd.R (Kd.int .i64) 3 w98 w.heap.size (fun _ => True) (.slice (some ⟨go84, 0, none⟩) x136000_2.length co91) y152 := (by rw [hw, Ny152.out]; exact HP97.1); clear HP97; have n0_ := Aside0.mk (Kd.R_over' (v := (.slice (some ⟨go84, 0, none⟩) x136000_2.length co91)) HO_8.out (Kd.R_typed HO_136000.out) (by decide) hg); have n1_ := Aside0.mk (hp_); have n2_ := Aside0.mk (Kd.R_over' (v := (.slice (some ⟨go84, 0, none⟩) x136000_2.length co91)) HO_136001.out (Kd.R_typed HO_136000.out) (by decide) hg); have n3_ := Aside0.mk (blk_grown BK127.out hg (Kd.R_ne HO_136000.out BK127.out (by decide))); have n4_ := Aside0.mk (blk_grown BK128.out hg (Kd.R_ne HO_136000.out BK128.out (by decide))); have n5_ := Aside0.mk (blk_grown BK135.out hg (Kd.R_ne HO_136000.out BK135.out (by decide))); have n6_ := Aside0.mk ((by rw [hw]; exact below_set (HB.out) GB84.out : Below w.heap.size w w98)); clear HO_8; clear HO_136000; clear HO_136001; clear BK127; clear BK128; clear BK135; clear HB; have HO_8 := n0_; have HO_136000 := n1_; have HO_136001 := n2_; have BK127 := n3_; have BK128 := n4_; have BK135 := n5_; have HB := n6_; clear n0_ n1_ n2_ n3_ n4_ n5_ n6_; clear hg hw hp_
      obtain ⟨hy99_, hz99_⟩ := Kd.R_celln false HO_136001.out (t143 : Int) (of_decide_eq_true (by first | (with_reducible assumption) | assumption)) (of_decide_eq_true (by first | (with_reducible assumption) | assumption)); have HP99 := Kd.R_putg HO_136001.out (t143 : Int) true
      obtain ⟨w100, hw⟩ : ∃ x_, x_ = (w98.setCell ⟨go85, (t143 : Int).toNat, none⟩ (.bool true)) := ⟨_, rfl⟩
      rw [← hw]
      have hg : w98.grownBy w100 (some go85) := (by rw [hw]; exact HP99.2); have hp_ : Kd.R Kd.bool 4 w100 w.heap.size (fun _ => True) (.slice (some ⟨go85, 0, none⟩) x136001_2.length co96) y153 := (by rw [hw, Ny153.out]; exact HP99.1); clear HP99; have n0_ := Aside0.mk (Kd.R_over' (v := (.slice (some ⟨go85, 0, none⟩) x136001_2.length co96)) HO_8.out (Kd.R_typed HO_136001.out) (by decide) hg); have n1_ := Aside0.mk (Kd.R_over' (v := (.slice (some ⟨go85, 0, none⟩) x136001_2.length co96)) HO_136000.out (Kd.R_typed HO_136001.out) (by decide) hg); have n2_ := Aside0.mk (hp_); have n3_ := Aside0.mk (blk_grown BK127.out hg (Kd.R_ne HO_136001.out BK127.out (by decide))); have n4_ := Aside0.mk (blk_grown BK128.out hg (Kd.R_ne HO_136001.out BK128.out (by decide))); have n5_ := Aside0.mk (blk_grown BK135.out hg (Kd.R_ne HO_136001.out BK135.out (by decide))); have n6_ := Aside0.mk ((by rw [hw]; exact below_set (HB.out) GB85.out : Below w.heap.size w w100)); clear HO_8; clear HO_136000; clear HO_136001; clear BK127; clear BK128; clear BK135; clear HB; have HO_8 := n0_; have HO_136000 := n1_; have HO_136001 := n2_; have BK127 := n3_; have BK128 := n4_; have BK135 := n5_; have HB := n6_; clear n0_ n1_ n2_ n3_ n4_ n5_ n6_; clear hg hw hp_
      have u0_ := Aside0.mk (Kd.R_drew HO_8.out)
      have u1_ := Aside0.mk (Kd.R_drew HO_136000.out)
      have u2_ := Aside0.mk (Kd.R_drew HO_136001.out)
      have u3_ := Aside0.mk (blk_drew BK127.out)
      have u4_ := Aside0.mk (blk_drew BK128.out)
      have u5_ := Aside0.mk (blk_drew BK135.out)
      have u6_ := Aside0.mk (below_drew HB.out)
      clear HO_8 HO_136000 HO_136001 BK127 BK128 BK135 HB zc0 zc1
      have HO_8 := u0_
      have HO_136000 := u1_
      have HO_136001 := u2_
      have BK127 := u3_
      have BK128 := u4_
      have BK135 := u5_
      have HB := u6_
      clear u0_ u1_ u2_ u3_ u4_ u5_ u6_
      generalize w100.drew = w100x at HO_8 HO_136000 HO_136001 BK127 BK128 BK135 HB ⊢
      have hcz101_0 : w100x.cell? ⟨gb135, 0, none⟩ = some (.slice (some ⟨go84, 0, none⟩) x136000_2.length co91) := (blk_cell BK135.out 0).trans rfl; have hcz101_1 : w100x.cell? ⟨gb135, 1, none⟩ = some (.slice (some ⟨go85, 0, none⟩) x136001_2.length co96) := (blk_cell BK135.out 1).trans rfl; have hcz101_2 : w100x.cell? ⟨gb135, 2, none⟩ = some (.bool x136002_2) := (blk_cell BK135.out 2).trans rfl; have hfz101_0 := blk_frozen BK135.out 0; have hfz101_1 := blk_frozen BK135.out 1; have hfz101_2 := blk_frozen BK135.out 2
      go_wp2_with fail
      go_roundg k2
      case measure => have := HK1.out; have := HK2.out; omega
      case rel => exact ⟨(wrap64 (x10_2 + 1)), (y152), (y153), (false), (.slice (some ⟨go84, 0, none⟩) x136000_2.length co91), (.slice (some ⟨go85, 0, none⟩) x136001_2.length co96), (by first | rfl | (simp; done) | (simp [*]; done)), H', ⟨by have := HK1.out; have := HK2.out; omega⟩, ⟨by (with_reducible repeat (first | apply Kd.R_alloc | apply Kd.R_drewN | apply Kd.R_drew)); exact Kd.R_mono (Kd.R_far (p := ⟨gb135, 2, none⟩) (Kd.R_types HO_8.out BK135.out (by decide)) (fun _ hk => hk.2) (.bool false)) (fun _ hk => trivial)⟩, ⟨by (with_reducible repeat (first | apply Kd.R_alloc | apply Kd.R_drewN | apply Kd.R_drew)); exact Kd.R_mono (Kd.R_far (p := ⟨gb135, 2, none⟩) (Kd.R_types HO_136000.out BK135.out (by decide)) (fun _ hk => hk.2) (.bool false)) (fun _ hk => trivial)⟩, ⟨by (with_reducible repeat (first | apply Kd.R_alloc | apply Kd.R_drewN | apply Kd.R_drew)); exact Kd.R_mono (Kd.R_far (p := ⟨gb135, 2, none⟩) (Kd.R_types HO_136001.out BK135.out (by decide)) (fun _ hk => hk.2) (.bool false)) (fun _ hk => trivial)⟩, ⟨by (with_reducible repeat (first | refine blk_drewN ?_ _ | refine blk_drew ?_ | refine blk_alloc ?_ _)); refine blk_far ?_ NB127_135.out _; (with_reducible repeat (first | refine blk_drewN ?_ _ | refine blk_drew ?_ | refine blk_alloc ?_ _)); exact BK127.out⟩, ⟨by (with_reducible repeat (first | refine blk_drewN ?_ _ | refine blk_drew ?_ | refine blk_alloc ?_ _)); refine blk_far ?_ NB128_135.out _; (with_reducible repeat (first | refine blk_drewN ?_ _ | refine blk_drew ?_ | refine blk_alloc ?_ _)); exact BK128.out⟩, ⟨by (with_reducible repeat (first | refine blk_drewN ?_ _ | refine blk_drew ?_ | refine blk_alloc ?_ _)); refine blk_put (cs := #[.slice (some ⟨go84, 0, none⟩) x136000_2.length co91, .slice (some ⟨go85, 0, none⟩) x136001_2.length co96, .bool x136002_2]) ?_ 2 _ rfl; (with_reducible repeat (first | refine blk_drewN ?_ _ | refine blk_drew ?_ | refine blk_alloc ?_ _)); exact BK135.out⟩, ⟨by repeat (first | (with_reducible first | exact HB.out | apply below_alloc | apply pw_below_drewN | apply below_drew1 | refine below_set ?_ GE127.out | refine below_set ?_ GE128.out | refine below_set ?_ GE135.out) | exact HB.out)⟩⟩
     subst c51
     have H1 : (if t143 < (x136000_2.length : Int) then (if (wrap64 ((rd x136000_2 t141) + t146)) < (rd x136000_2 t143) then (ebbtideref11_From.l1 k2 t137 x9_1 (wrap64 (x10_2 + 1)) a0_0 a0_1 l0_2 (x136000_2.set (t143 : Int).toNat (wrap64 ((rd x136000_2 t141) + t146))) (x136001_2.set (t143 : Int).toNat true) false) else (ebbtideref11_From.l1 k2 t137 x9_1 (wrap64 (x10_2 + 1)) a0_0 a0_1 l0_2 x136000_2 x136001_2 x136002_2)) else (none)) = some (r1, r2, r3) := by rw [if_pos rfl] at H; exact H
     clear H
     have H := H1
     clear H1
     by_cases c52 : t143 < (x136000_2.length : Int)
     rotate_left
     ·rw [if_neg c52] at H
      exact absurd H (by simp)
     rw [if_pos c52] at H
     have c52b0 : decide (t143 < (x136000_2.length : Int)) = true := decide_eq_true c52
     clear c52
     by_cases c53 : (wrap64 ((rd x136000_2 t141) + t146)) < (rd x136000_2 t143)
     rotate_left
     ·rw [if_neg c53] at H
      have c53b0 : decide ((wrap64 ((rd x136000_2 t141) + t146)) < (rd x136000_2 t143)) = false := decide_eq_false c53
      clear c53
      have H' := Aside0.mk H
      clear H
      obtain ⟨Ao72, co72, eo72⟩ := Kd.R_slice HO_8.out
      subst eo72
      try go_wp2
      have n0_ := Aside0.mk (Kd.R_drew HO_8.out)
      have n1_ := Aside0.mk (Kd.R_drew HO_136000.out)
      have n2_ := Aside0.mk (Kd.R_drew HO_136001.out)
      have n3_ := Aside0.mk (blk_drew BK127.out)
      have n4_ := Aside0.mk (blk_drew BK128.out)
      have n5_ := Aside0.mk (blk_drew BK135.out)
      have n6_ := Aside0.mk (below_drew1 HB.out)
      clear HO_8
      clear HO_136000
      clear HO_136001
      clear BK127
      clear BK128
      clear BK135
      clear HB
      have HO_8 := n0_
      have HO_136000 := n1_
      have HO_136001 := n2_
      have BK127 := n3_
      have BK128 := n4_
      have BK135 := n5_
      have HB := n6_
      clear n0_ n1_ n2_ n3_ n4_ n5_ n6_
      have p140 : 0 ≤ (x10_2 : Int) := of_decide_eq_true (by first | (with_reducible assumption) | assumption)
      have q140 : x10_2 < (t137.length : Int) := of_decide_eq_true (by first | (with_reducible assumption) | assumption)
      obtain ⟨ad140, e140, hx140_0, hx140_1⟩ := at_T38 (Kd.R_reads' HO_8.out).2.2 x10_2 p140 q140
      (try rw [← Nbq46.out] at hx140_1)
      (try rw [← Nbq50.out] at hx140_1)
      cases e140
      replace p140 := eq_true p140
      replace q140 := eq_true q140
      have p142 : 0 ≤ (x10_2 : Int) := of_decide_eq_true (by first | (with_reducible assumption) | assumption)
      have q142 : x10_2 < (t137.length : Int) := of_decide_eq_true (by first | (with_reducible assumption) | assumption)
      obtain ⟨ad142, e142, hx142_0, hx142_1⟩ := at_T38 (Kd.R_reads' HO_8.out).2.2 x10_2 p142 q142
      (try rw [← Nbq46.out] at hx142_1)
      (try rw [← Nbq50.out] at hx142_1)
      obtain rfl : ad140 = ad142 := (by injection e142)
      replace p142 := eq_true p142
      replace q142 := eq_true q142
      refine start_ (n := 14) (S := fun w' => w'.cell? ⟨gb127, 0, none⟩ = some (.int .i64 a0_0) ∧ w'.cell? ⟨gb127, 1, none⟩ = some (.bool a0_1) ∧ w'.cell? ⟨gb127, 2, none⟩ = some (.slice A0_2 l0_2.length c0_2) ∧ w'.cell? (ad140.add ((x10_2).toNat * 2)) = some (.int .i64 ((rd_T38 t137 x10_2).f0)) ∧ w'.cell? ⟨(ad140.add ((x10_2).toNat * 2)).block, (ad140.add ((x10_2).toNat * 2)).off + 1, none⟩ = some (.bool ((rd_T38 t137 x10_2).f1)) ∧ w'.cell? (ad140.add ((x10_2).toNat * 2)) = some (.int .i64 ((rd_T38 t137 x10_2).f0)) ∧ w'.cell? ⟨(ad140.add ((x10_2).toNat * 2)).block, (ad140.add ((x10_2).toNat * 2)).off + 1, none⟩ = some (.bool ((rd_T38 t137 x10_2).f1))) (ds := []) #[false, false, false, false, false, false, false, false, false, false, false, false, false, false] (by kernel_rfl) rfl rfl ⟨(blk_cell BK127.out 0).trans rfl, (blk_cell BK127.out 1).trans rfl, (blk_cell BK127.out 2).trans rfl, hx140_0, hx140_1, hx142_0, hx142_1⟩ (fun hHeld => ?_); refine with_tabW ebbtideref11_From.tab11 ebbtideref11_From.bits11 (fun HT_ HW_ => ?_)
      generalize wr.drew = w73 at HO_8 HO_136000 HO_136001 BK127 BK128 BK135 HB hx140_0 hx140_1 hx142_0 hx142_1 hHeld ⊢
      refine pure_ (i := 1) (N := some 42) (v := ?_) (a' := ?_) #[false, true, false, false, false, false, false, false, false, false, false, false, false, false] rfl rfl (any_of HT_.out (by kernel_rfl)) (fun _ _ _ h => h) (Or.inl ⟨by rfl, ?_⟩) ?_ ?_
      rotate_left
      ·intro w'
       go_simp
       with_reducible rfl
      rotate_left
      ·simp only [Act.put, List.setIfInBounds_toArray, List.set_cons_zero, List.set_cons_succ, i64_w, i32_w]
       rfl
      refine pure_ (i := 2) (N := some 43) (v := ?_) (a' := ?_) #[false, true, true, false, false, false, false, false, false, false, false, false, false, false] rfl rfl (any_of HT_.out (by kernel_rfl)) (fun _ _ _ h => h) (Or.inl ⟨by rfl, ?_⟩) ?_ ?_
      rotate_left
      ·intro w'
       go_simp
       with_reducible rfl
      rotate_left
      ·simp only [Act.put, List.setIfInBounds_toArray, List.set_cons_zero, List.set_cons_succ, i64_w, i32_w]
       rfl
      refine pure_ (i := 3) (N := some 44) (v := ?_) (a' := ?_) #[false, true, true, true, false, false, false, false, false, false, false, false, false, false] rfl rfl (any_of HT_.out (by kernel_rfl)) (fun _ _ _ h => h) (Or.inl ⟨by rfl, ?_⟩) ?_ ?_
      rotate_left
      ·intro w'
       go_simp
       with_reducible rfl
      rotate_left
      ·simp only [Act.put, List.setIfInBounds_toArray, List.set_cons_zero, List.set_cons_succ, i64_w, i32_w]
       rfl
      refine pure_ (i := 7) (N := some 48) (v := ?_) (a' := ?_) #[false, true, true, true, false, false, false, true, false, false, false, false, false, false] rfl rfl (any_of HT_.out (by kernel_rfl)) (fun _ _ _ h => h) (Or.inl ⟨by rfl, ?_⟩) ?_ ?_
      rotate_left
      ·intro w'
       go_simp
       with_reducible rfl
      rotate_left
      ·simp only [Act.put, List.setIfInBounds_toArray, List.set_cons_zero, List.set_cons_succ, i64_w, i32_w]
       rfl
      refine pure_ (i := 8) (N := some 49) (v := ?_) (a' := ?_) #[false, true, true, true, false, false, false, true, true, false, false, false, false, false] rfl rfl (any_of HT_.out (by kernel_rfl)) (fun _ _ _ h => h) (Or.inl ⟨by rfl, ?_⟩) ?_ ?_
      rotate_left
      ·intro w'
       go_simp
       with_reducible rfl
      rotate_left
      ·simp only [Act.put, List.setIfInBounds_toArray, List.set_cons_zero, List.set_cons_succ, i64_w, i32_w]
       rfl
      refine pure_ (i := 9) (N := some 50) (v := ?_) (a' := ?_) #[false, true, true, true, false, false, false, true, true, true, false, false, false, false] rfl rfl (any_of HT_.out (by kernel_rfl)) (fun _ _ _ h => h) (Or.inl ⟨by rfl, ?_⟩) ?_ ?_
      rotate_left
      ·intro w'
       go_simp
       with_reducible rfl
      rotate_left
      ·simp only [Act.put, List.setIfInBounds_toArray, List.set_cons_zero, List.set_cons_succ, i64_w, i32_w]
       rfl
      refine take_ (i := 0) (N := some 41) (v := ?_) (a' := ?_) #[true, true, true, true, false, false, false, true, true, true, false, false, false, false] rfl rfl (take_ofW HT_.out HW_.out (by kernel_rfl)) (fun _ _ _ h => h) (Or.inl ⟨by rfl, ?_⟩) hHeld ?_ ?_
      rotate_left
      ·rintro w' ⟨s0, s1, s2, s3, s4, s5, s6⟩
       go_simp
       with_reducible rfl
      rotate_left
      ·simp only [Act.put, List.setIfInBounds_toArray, List.set_cons_zero, List.set_cons_succ, i64_w, i32_w]
       rfl
      refine take_ (i := 4) (N := some 45) (v := ?_) (a' := ?_) #[true, true, true, true, true, false, false, true, true, true, false, false, false, false] rfl rfl (take_ofW HT_.out HW_.out (by kernel_rfl)) (fun _ _ _ h => h) (Or.inl ⟨by rfl, ?_⟩) hHeld ?_ ?_
      rotate_left
      ·rintro w' ⟨s0, s1, s2, s3, s4, s5, s6⟩
       go_simp
       with_reducible rfl
      rotate_left
      ·simp only [Act.put, List.setIfInBounds_toArray, List.set_cons_zero, List.set_cons_succ, i64_w, i32_w]
       rfl
      refine take_ (i := 6) (N := some 47) (v := ?_) (a' := ?_) #[true, true, true, true, true, false, true, true, true, true, false, false, false, false] rfl rfl (take_ofW HT_.out HW_.out (by kernel_rfl)) (fun _ _ _ h => h) (Or.inl ⟨by rfl, ?_⟩) hHeld ?_ ?_
      rotate_left
      ·rintro w' ⟨s0, s1, s2, s3, s4, s5, s6⟩
       go_simp
       with_reducible rfl
      rotate_left
      ·simp only [Act.put, List.setIfInBounds_toArray, List.set_cons_zero, List.set_cons_succ, i64_w, i32_w]
       rfl
      refine take_ (i := 10) (N := some 51) (v := ?_) (a' := ?_) #[true, true, true, true, true, false, true, true, true, true, true, false, false, false] rfl rfl (take_ofW HT_.out HW_.out (by kernel_rfl)) (fun _ _ _ h => h) (Or.inl ⟨by rfl, ?_⟩) hHeld ?_ ?_
      rotate_left
      ·rintro w' ⟨s0, s1, s2, s3, s4, s5, s6⟩
       go_simp
       with_reducible rfl
      rotate_left
      ·simp only [Act.put, List.setIfInBounds_toArray, List.set_cons_zero, List.set_cons_succ, i64_w, i32_w]
       rfl
      refine one_ (i := 5) (N := some 46) #[true, true, true, true, true, true, true, true, true, true, true, false, false, false] rfl rfl (one_of HT_.out (by kernel_rfl)) (by decide) (fun K hK => ?_)
      refine goes_ Try.func44 (by kernel_rfl) rfl #[.agg #[.int .i64 a0_0, .bool a0_1, .slice A0_2 l0_2.length c0_2], .agg #[.int .i64 ((rd_T38 t137 x10_2).f0), .bool ((rd_T38 t137 x10_2).f1)]] (by rfl) rfl rfl (by (try simp only [List.map_toArray, List.map_cons, List.map_nil]); first | done | rfl | (simp only [List.length_drop, List.length_take]; rfl)) ?_
      with_reducible refine (ebbtideref07_From.calls a0_0 a0_1 _ _ l0_2 ((rd_T38 t137 x10_2).f0) ((rd_T38 t137 x10_2).f1) t141 _ ?side1 ?side2 (by first | exact A40.out | (have h_ := A40.out; rw [← Nbq50.out] at h_; exact h_) | (have h_ := A40.out; rw [← Nbq46.out] at h_; exact h_))).mono ?_
      (case side1 => repeat (first | exact (Kd.C_below HR0_2.out HB.out) | (with_reducible refine Kd.C_alloc ?_ _) | (with_reducible refine Kd.C_drewN ?_ _) | (with_reducible refine Kd.C_drew ?_)))
      (case side2 => exact HC0_2.out)
      rintro e w74 ⟨rfl, hb⟩
      have HS3_ := (hb.cell (World.block_lt_of_cell? _ _ (hHeld.2.2.2.1))).trans (hHeld.2.2.2.1)
      have HS4_ := (hb.cell (World.block_lt_of_cell? _ _ (hHeld.2.2.2.2.1))).trans (hHeld.2.2.2.2.1)
      have HS5_ := (hb.cell (World.block_lt_of_cell? _ _ (hHeld.2.2.2.2.2.1))).trans (hHeld.2.2.2.2.2.1)
      have HS6_ := (hb.cell (World.block_lt_of_cell? _ _ (hHeld.2.2.2.2.2.2))).trans (hHeld.2.2.2.2.2.2)
      refine ⟨_, rfl, ?_⟩
      have n0_ := Aside0.mk (Kd.R_below HO_8.out hb)
      have n1_ := Aside0.mk (Kd.R_below HO_136000.out hb)
      have n2_ := Aside0.mk (Kd.R_below HO_136001.out hb)
      have n3_ := Aside0.mk (blk_below BK127.out hb)
      have n4_ := Aside0.mk (blk_below BK128.out hb)
      have n5_ := Aside0.mk (blk_below BK135.out hb)
      have n6_ := Aside0.mk (below_step HB.out hb)
      clear HO_8
      clear HO_136000
      clear HO_136001
      clear BK127
      clear BK128
      clear BK135
      clear HB
      have HO_8 := n0_
      have HO_136000 := n1_
      have HO_136001 := n2_
      have BK127 := n3_
      have BK128 := n4_
      have BK135 := n5_
      have HB := n6_
      clear n0_ n1_ n2_ n3_ n4_ n5_ n6_
      (try clear hb)
      (try clear hb2)
      (try clear hk)
      (try clear hi)
      refine hK.out _ _ ⟨(blk_cell BK127.out 0).trans rfl, (blk_cell BK127.out 1).trans rfl, (blk_cell BK127.out 2).trans rfl, HS3_, HS4_, HS5_, HS6_⟩ (fun hHeld => ?_)
      clear hK K
      refine norm_ (a' := ?_) ?_ ?_
      rotate_left
      ·show Act.put _ (some 46) _ = _
       simp only [Act.put, List.setIfInBounds_toArray, List.set_cons_zero, List.set_cons_succ, i64_w, i32_w]
       rfl
      refine one_ (i := 11) (N := some 52) #[true, true, true, true, true, true, true, true, true, true, true, true, false, false] rfl rfl (one_of HT_.out (by kernel_rfl)) (by decide) (fun K hK => ?_)
      refine goes_ Try.func45 (by kernel_rfl) rfl #[.agg #[.int .i64 a0_0, .bool a0_1, .slice A0_2 l0_2.length c0_2], .agg #[.int .i64 ((rd_T38 t137 x10_2).f0), .bool ((rd_T38 t137 x10_2).f1)]] (by rfl) rfl rfl (by (try simp only [List.map_toArray, List.map_cons, List.map_nil]); first | done | rfl | (simp only [List.length_drop, List.length_take]; rfl)) ?_
      with_reducible refine (ebbtideref07_To.calls a0_0 a0_1 _ _ l0_2 ((rd_T38 t137 x10_2).f0) ((rd_T38 t137 x10_2).f1) t143 _ ?side1 ?side2 (by first | exact A41.out | (have h_ := A41.out; rw [← Nbq50.out] at h_; exact h_) | (have h_ := A41.out; rw [← Nbq46.out] at h_; exact h_))).mono ?_
      (case side1 => repeat (first | exact (Kd.C_below HR0_2.out HB.out) | (with_reducible refine Kd.C_alloc ?_ _) | (with_reducible refine Kd.C_drewN ?_ _) | (with_reducible refine Kd.C_drew ?_)))
      (case side2 => exact HC0_2.out)
      rintro e w75 ⟨rfl, hb⟩
      have HS3_ := (hb.cell (World.block_lt_of_cell? _ _ (hHeld.2.2.2.1))).trans (hHeld.2.2.2.1)
      have HS4_ := (hb.cell (World.block_lt_of_cell? _ _ (hHeld.2.2.2.2.1))).trans (hHeld.2.2.2.2.1)
      have HS5_ := (hb.cell (World.block_lt_of_cell? _ _ (hHeld.2.2.2.2.2.1))).trans (hHeld.2.2.2.2.2.1)
      have HS6_ := (hb.cell (World.block_lt_of_cell? _ _ (hHeld.2.2.2.2.2.2))).trans (hHeld.2.2.2.2.2.2)
      refine ⟨_, rfl, ?_⟩
      have n0_ := Aside0.mk (Kd.R_below HO_8.out hb)
      have n1_ := Aside0.mk (Kd.R_below HO_136000.out hb)
      have n2_ := Aside0.mk (Kd.R_below HO_136001.out hb)
      have n3_ := Aside0.mk (blk_below BK127.out hb)
      have n4_ := Aside0.mk (blk_below BK128.out hb)
      have n5_ := Aside0.mk (blk_below BK135.out hb)
      have n6_ := Aside0.mk (below_step HB.out hb)
      clear HO_8
      clear HO_136000
      clear HO_136001
      clear BK127
      clear BK128
      clear BK135
      clear HB
      have HO_8 := n0_
      have HO_136000 := n1_
      have HO_136001 := n2_
      have BK127 := n3_
      have BK128 := n4_
      have BK135 := n5_
      have HB := n6_
      clear n0_ n1_ n2_ n3_ n4_ n5_ n6_
      (try clear hb)
      (try clear hb2)
      (try clear hk)
      (try clear hi)
      refine hK.out _ _ ⟨(blk_cell BK127.out 0).trans rfl, (blk_cell BK127.out 1).trans rfl, (blk_cell BK127.out 2).trans rfl, HS3_, HS4_, HS5_, HS6_⟩ (fun hHeld => ?_)
      clear hK K
      refine norm_ (a' := ?_) ?_ ?_
      rotate_left
      ·show Act.put _ (some 52) _ = _
       simp only [Act.put, List.setIfInBounds_toArray, List.set_cons_zero, List.set_cons_succ, i64_w, i32_w]
       rfl
      refine pure_ (i := 12) (N := some 11) (v := ?_) (a' := ?_) #[true, true, true, true, true, true, true, true, true, true, true, true, true, false] rfl rfl (any_of HT_.out (by kernel_rfl)) (fun _ _ _ h => h) (Or.inl ⟨by rfl, ?_⟩) ?_ ?_
      rotate_left
      ·intro w'
       go_simp
       with_reducible rfl
      rotate_left
      ·simp only [Act.put, List.setIfInBounds_toArray, List.set_cons_zero, List.set_cons_succ, i64_w, i32_w]
       rfl
      refine pure_ (i := 13) (N := some 12) (v := ?_) (a' := ?_) #[true, true, true, true, true, true, true, true, true, true, true, true, true, true] rfl rfl (any_of HT_.out (by kernel_rfl)) (fun _ _ _ h => h) (Or.inl ⟨by rfl, ?_⟩) ?_ ?_
      rotate_left
      ·intro w'
       go_simp
       with_reducible rfl
      rotate_left
      ·simp only [Act.put, List.setIfInBounds_toArray, List.set_cons_zero, List.set_cons_succ, i64_w, i32_w]
       rfl
      refine done_ (done_of HT_.out (by kernel_rfl)) ?_
      try go_wp2
      have n0_ := Aside0.mk (Kd.R_drew HO_8.out)
      have n1_ := Aside0.mk (Kd.R_drew HO_136000.out)
      have n2_ := Aside0.mk (Kd.R_drew HO_136001.out)
      have n3_ := Aside0.mk (blk_drew BK127.out)
      have n4_ := Aside0.mk (blk_drew BK128.out)
      have n5_ := Aside0.mk (blk_drew BK135.out)
      have n6_ := Aside0.mk (below_drew1 HB.out)
      clear HO_8
      clear HO_136000
      clear HO_136001
      clear BK127
      clear BK128
      clear BK135
      clear HB
      have HO_8 := n0_
      have HO_136000 := n1_
      have HO_136001 := n2_
      have BK127 := n3_
      have BK128 := n4_
      have BK135 := n5_
      have HB := n6_
      clear n0_ n1_ n2_ n3_ n4_ n5_ n6_
      obtain ⟨Ao77, co77, eo77⟩ := Kd.R_slice HO_136000.out
      (first | subst eo77 | (injection eo77 with f1_ f2_ f3_; have f4_ := f1_.symm; have f5_ := f3_.symm; clear f1_ f2_ f3_; subst f4_; subst f5_))
      have p144 : 0 ≤ (t141 : Int) := of_decide_eq_true (by first | (with_reducible assumption) | assumption)
      have q144 : t141 < (x136000_2.length : Int) := of_decide_eq_true (by first | (with_reducible assumption) | assumption)
      obtain ⟨ad144, e144, hx144_0⟩ := Kd.at_int (Kd.R_reads' HO_136000.out).2.2 t141 p144 q144
      cases e144
      replace p144 := eq_true p144
      replace q144 := eq_true q144
      have p145 : 0 ≤ (x10_2 : Int) := of_decide_eq_true (by first | (with_reducible assumption) | assumption)
      have q145 : x10_2 < (t137.length : Int) := of_decide_eq_true (by first | (with_reducible assumption) | assumption)
      obtain ⟨ad145, e145, hx145_0, hx145_1⟩ := at_T38 (Kd.R_reads' HO_8.out).2.2 x10_2 p145 q145
      (try rw [← Nbq46.out] at hx145_1)
      (try rw [← Nbq50.out] at hx145_1)
      obtain rfl : ad140 = ad145 := (by injection e145)
      replace p145 := eq_true p145
      replace q145 := eq_true q145
      refine start_ (n := 13) (S := fun w' => w'.cell? ⟨gb135, 0, none⟩ = some (.slice (some ad144) x136000_2.length co77) ∧ w'.cell? ⟨gb135, 1, none⟩ = some (u136001) ∧ w'.cell? ⟨gb135, 2, none⟩ = some (.bool x136002_2) ∧ w'.cell? ⟨gb127, 0, none⟩ = some (.int .i64 a0_0) ∧ w'.cell? ⟨gb127, 1, none⟩ = some (.bool a0_1) ∧ w'.cell? ⟨gb127, 2, none⟩ = some (.slice A0_2 l0_2.length c0_2) ∧ w'.cell? (ad144.add (t141).toNat) = some (.int .i64 (rd x136000_2 t141)) ∧ w'.cell? (ad140.add ((x10_2).toNat * 2)) = some (.int .i64 ((rd_T38 t137 x10_2).f0)) ∧ w'.cell? ⟨(ad140.add ((x10_2).toNat * 2)).block, (ad140.add ((x10_2).toNat * 2)).off + 1, none⟩ = some (.bool ((rd_T38 t137 x10_2).f1))) (ds := []) #[false, false, false, false, false, false, false, false, false, false, false, false, false] (by kernel_rfl) rfl rfl ⟨(blk_cell BK135.out 0).trans rfl, (blk_cell BK135.out 1).trans rfl, (blk_cell BK135.out 2).trans rfl, (blk_cell BK127.out 0).trans rfl, (blk_cell BK127.out 1).trans rfl, (blk_cell BK127.out 2).trans rfl, hx144_0, hx145_0, hx145_1⟩ (fun hHeld => ?_); refine with_tabW ebbtideref11_From.tab12 ebbtideref11_From.bits12 (fun HT_ HW_ => ?_)
      generalize w75.drew = w76 at HO_8 HO_136000 HO_136001 BK127 BK128 BK135 HB hx144_0 hx145_0 hx145_1 hHeld ⊢
      refine pure_ (i := 0) (N := some 53) (v := ?_) (a' := ?_) #[true, false, false, false, false, false, false, false, false, false, false, false, false] rfl rfl (any_of HT_.out (by kernel_rfl)) (fun _ _ _ h => h) (Or.inl ⟨by rfl, ?_⟩) ?_ ?_
      rotate_left
      ·intro w'
       go_simp
       with_reducible rfl
      rotate_left
      ·simp only [Act.put, List.setIfInBounds_toArray, List.set_cons_zero, List.set_cons_succ, i64_w, i32_w]
       rfl
      refine pure_ (i := 2) (N := some 55) (v := ?_) (a' := ?_) #[true, false, true, false, false, false, false, false, false, false, false, false, false] rfl rfl (any_of HT_.out (by kernel_rfl)) (fun _ _ _ h => h) (Or.inl ⟨by rfl, ?_⟩) ?_ ?_
      rotate_left
      ·intro w'
       go_simp
       with_reducible rfl
      rotate_left
      ·simp only [Act.put, List.setIfInBounds_toArray, List.set_cons_zero, List.set_cons_succ, i64_w, i32_w]
       rfl
      refine pure_ (i := 6) (N := some 59) (v := ?_) (a' := ?_) #[true, false, true, false, false, false, true, false, false, false, false, false, false] rfl rfl (any_of HT_.out (by kernel_rfl)) (fun _ _ _ h => h) (Or.inl ⟨by rfl, ?_⟩) ?_ ?_
      rotate_left
      ·intro w'
       go_simp
       with_reducible rfl
      rotate_left
      ·simp only [Act.put, List.setIfInBounds_toArray, List.set_cons_zero, List.set_cons_succ, i64_w, i32_w]
       rfl
      refine pure_ (i := 7) (N := some 60) (v := ?_) (a' := ?_) #[true, false, true, false, false, false, true, true, false, false, false, false, false] rfl rfl (any_of HT_.out (by kernel_rfl)) (fun _ _ _ h => h) (Or.inl ⟨by rfl, ?_⟩) ?_ ?_
      rotate_left
      ·intro w'
       go_simp
       with_reducible rfl
      rotate_left
      ·simp only [Act.put, List.setIfInBounds_toArray, List.set_cons_zero, List.set_cons_succ, i64_w, i32_w]
       rfl
      refine pure_ (i := 8) (N := some 61) (v := ?_) (a' := ?_) #[true, false, true, false, false, false, true, true, true, false, false, false, false] rfl rfl (any_of HT_.out (by kernel_rfl)) (fun _ _ _ h => h) (Or.inl ⟨by rfl, ?_⟩) ?_ ?_
      rotate_left
      ·intro w'
       go_simp
       with_reducible rfl
      rotate_left
      ·simp only [Act.put, List.setIfInBounds_toArray, List.set_cons_zero, List.set_cons_succ, i64_w, i32_w]
       rfl
      refine take_ (i := 1) (N := some 54) (v := ?_) (a' := ?_) #[true, true, true, false, false, false, true, true, true, false, false, false, false] rfl rfl (take_ofW HT_.out HW_.out (by kernel_rfl)) (fun _ _ _ h => h) (Or.inl ⟨by rfl, ?_⟩) hHeld ?_ ?_
      rotate_left
      ·rintro w' ⟨s0, s1, s2, s3, s4, s5, s6, s7, s8⟩
       go_simp
       with_reducible rfl
      rotate_left
      ·simp only [Act.put, List.setIfInBounds_toArray, List.set_cons_zero, List.set_cons_succ, i64_w, i32_w]
       rfl
      refine pure_ (i := 3) (N := some 56) (v := ?_) (a' := ?_) #[true, true, true, true, false, false, true, true, true, false, false, false, false] rfl rfl (any_of HT_.out (by kernel_rfl)) (fun _ _ _ h => h) (Or.inl ⟨by rfl, ?_⟩) ?_ ?_
      rotate_left
      ·intro w'
       go_simp
       with_reducible rfl
      rotate_left
      ·simp only [Act.put, List.setIfInBounds_toArray, List.set_cons_zero, List.set_cons_succ, i64_w, i32_w]
       rfl
      refine take_ (i := 4) (N := some 57) (v := ?_) (a' := ?_) #[true, true, true, true, true, false, true, true, true, false, false, false, false] rfl rfl (take_ofW HT_.out HW_.out (by kernel_rfl)) (fun _ _ _ h => h) (Or.inl ⟨by rfl, ?_⟩) hHeld ?_ ?_
      rotate_left
      ·rintro w' ⟨s0, s1, s2, s3, s4, s5, s6, s7, s8⟩
       go_simp
       with_reducible rfl
      rotate_left
      ·simp only [Act.put, List.setIfInBounds_toArray, List.set_cons_zero, List.set_cons_succ, i64_w, i32_w]
       rfl
      refine take_ (i := 5) (N := some 58) (v := ?_) (a' := ?_) #[true, true, true, true, true, true, true, true, true, false, false, false, false] rfl rfl (take_ofW HT_.out HW_.out (by kernel_rfl)) (fun _ _ _ h => h) (Or.inl ⟨by rfl, ?_⟩) hHeld ?_ ?_
      rotate_left
      ·rintro w' ⟨s0, s1, s2, s3, s4, s5, s6, s7, s8⟩
       go_simp
       with_reducible rfl
      rotate_left
      ·simp only [Act.put, List.setIfInBounds_toArray, List.set_cons_zero, List.set_cons_succ, i64_w, i32_w]
       rfl
      refine take_ (i := 9) (N := some 62) (v := ?_) (a' := ?_) #[true, true, true, true, true, true, true, true, true, true, false, false, false] rfl rfl (take_ofW HT_.out HW_.out (by kernel_rfl)) (fun _ _ _ h => h) (Or.inl ⟨by rfl, ?_⟩) hHeld ?_ ?_
      rotate_left
      ·rintro w' ⟨s0, s1, s2, s3, s4, s5, s6, s7, s8⟩
       go_simp
       with_reducible rfl
      rotate_left
      ·simp only [Act.put, List.setIfInBounds_toArray, List.set_cons_zero, List.set_cons_succ, i64_w, i32_w]
       rfl
      refine one_ (i := 10) (N := some 63) #[true, true, true, true, true, true, true, true, true, true, true, false, false] rfl rfl (one_of HT_.out (by kernel_rfl)) (by decide) (fun K hK => ?_)
      refine goes_ Try.func46 (by kernel_rfl) rfl #[.agg #[.int .i64 a0_0, .bool a0_1, .slice A0_2 l0_2.length c0_2], .agg #[.int .i64 ((rd_T38 t137 x10_2).f0), .bool ((rd_T38 t137 x10_2).f1)]] (by rfl) rfl rfl (by (try simp only [List.map_toArray, List.map_cons, List.map_nil]); first | done | rfl | (simp only [List.length_drop, List.length_take]; rfl)) ?_
      with_reducible refine (ebbtideref11_Time.calls a0_0 a0_1 _ _ l0_2 ((rd_T38 t137 x10_2).f0) ((rd_T38 t137 x10_2).f1) t146 _ ?side1 ?side2 (by first | exact A44.out | (have h_ := A44.out; rw [← Nbq50.out] at h_; exact h_) | (have h_ := A44.out; rw [← Nbq46.out] at h_; exact h_))).mono ?_
      (case side1 => repeat (first | exact (Kd.C_below HR0_2.out HB.out) | (with_reducible refine Kd.C_alloc ?_ _) | (with_reducible refine Kd.C_drewN ?_ _) | (with_reducible refine Kd.C_drew ?_)))
      (case side2 => exact HC0_2.out)
      rintro e w78 ⟨rfl, hb⟩
      have HS6_ := (hb.cell (World.block_lt_of_cell? _ _ (hHeld.2.2.2.2.2.2.1))).trans (hHeld.2.2.2.2.2.2.1)
      have HS7_ := (hb.cell (World.block_lt_of_cell? _ _ (hHeld.2.2.2.2.2.2.2.1))).trans (hHeld.2.2.2.2.2.2.2.1)
      have HS8_ := (hb.cell (World.block_lt_of_cell? _ _ (hHeld.2.2.2.2.2.2.2.2))).trans (hHeld.2.2.2.2.2.2.2.2)
      refine ⟨_, rfl, ?_⟩
      have n0_ := Aside0.mk (Kd.R_below HO_8.out hb)
      have n1_ := Aside0.mk (Kd.R_below HO_136000.out hb)
      have n2_ := Aside0.mk (Kd.R_below HO_136001.out hb)
      have n3_ := Aside0.mk (blk_below BK127.out hb)
      have n4_ := Aside0.mk (blk_below BK128.out hb)
      have n5_ := Aside0.mk (blk_below BK135.out hb)
      have n6_ := Aside0.mk (below_step HB.out hb)
      clear HO_8
      clear HO_136000
      clear HO_136001
      clear BK127
      clear BK128
      clear BK135
      clear HB
      have HO_8 := n0_
      have HO_136000 := n1_
      have HO_136001 := n2_
      have BK127 := n3_
      have BK128 := n4_
      have BK135 := n5_
      have HB := n6_
      clear n0_ n1_ n2_ n3_ n4_ n5_ n6_
      (try clear hb)
      (try clear hb2)
      (try clear hk)
      (try clear hi)
      refine hK.out _ _ ⟨(blk_cell BK135.out 0).trans rfl, (blk_cell BK135.out 1).trans rfl, (blk_cell BK135.out 2).trans rfl, (blk_cell BK127.out 0).trans rfl, (blk_cell BK127.out 1).trans rfl, (blk_cell BK127.out 2).trans rfl, HS6_, HS7_, HS8_⟩ (fun hHeld => ?_)
      clear hK K
      refine norm_ (a' := ?_) ?_ ?_
      rotate_left
      ·show Act.put _ (some 63) _ = _
       simp only [Act.put, List.setIfInBounds_toArray, List.set_cons_zero, List.set_cons_succ, i64_w, i32_w]
       rfl
      refine pure_ (i := 11) (N := some 64) (v := ?_) (a' := ?_) #[true, true, true, true, true, true, true, true, true, true, true, true, false] rfl rfl (any_of HT_.out (by kernel_rfl)) (fun _ _ _ h => h) (Or.inl ⟨by rfl, ?_⟩) ?_ ?_
      rotate_left
      ·intro w'
       go_simp
       with_reducible rfl
      rotate_left
      ·simp only [Act.put, List.setIfInBounds_toArray, List.set_cons_zero, List.set_cons_succ, i64_w, i32_w]
       rfl
      refine pure_ (i := 12) (N := some 13) (v := ?_) (a' := ?_) #[true, true, true, true, true, true, true, true, true, true, true, true, true] rfl rfl (any_of HT_.out (by kernel_rfl)) (fun _ _ _ h => h) (Or.inl ⟨by rfl, ?_⟩) ?_ ?_
      rotate_left
      ·intro w'
       go_simp
       with_reducible rfl
      rotate_left
      ·simp only [Act.put, List.setIfInBounds_toArray, List.set_cons_zero, List.set_cons_succ, i64_w, i32_w]
       rfl
      refine done_ (done_of HT_.out (by kernel_rfl)) ?_
      have hnb79 := NB135_127.out
      have hnc79 := NB127_135.out
      have hnb80 := NB135_128.out
      have hnc80 := NB128_135.out
      have hcz81_0 : w78.cell? ⟨gb135, 0, none⟩ = some (.slice (some ad144) x136000_2.length co77) := (blk_cell BK135.out 0).trans rfl
      have hcz81_1 : w78.cell? ⟨gb135, 1, none⟩ = some (u136001) := (blk_cell BK135.out 1).trans rfl
      have hcz81_2 : w78.cell? ⟨gb135, 2, none⟩ = some (.bool x136002_2) := (blk_cell BK135.out 2).trans rfl
      have hfz81_0 := blk_frozen BK135.out 0
      have hfz81_1 := blk_frozen BK135.out 1
      have hfz81_2 := blk_frozen BK135.out 2
      obtain ⟨Ao82, co82, eo82⟩ := Kd.R_slice HO_136001.out
      subst eo82
      have p147 : 0 ≤ (t141 : Int) := of_decide_eq_true (by first | (with_reducible assumption) | assumption)
      have q147 : t141 < (x136001_2.length : Int) := of_decide_eq_true (by first | (with_reducible assumption) | assumption)
      obtain ⟨ad147, e147, hx147_0⟩ := Kd.at_bool (Kd.R_reads' HO_136001.out).2.2 t141 p147 q147
      (try rw [← Nbq46.out] at hx147_0)
      (try rw [← Nbq50.out] at hx147_0)
      cases e147
      replace p147 := eq_true p147
      replace q147 := eq_true q147
      have p148 : 0 ≤ (t143 : Int) := of_decide_eq_true (by first | (with_reducible assumption) | assumption)
      have q148 : t143 < (x136001_2.length : Int) := of_decide_eq_true (by first | (with_reducible assumption) | assumption)
      obtain ⟨ad148, e148, hx148_0⟩ := Kd.at_bool (Kd.R_reads' HO_136001.out).2.2 t143 p148 q148
      (try rw [← Nbq46.out] at hx148_0)
      (try rw [← Nbq50.out] at hx148_0)
      obtain rfl : ad147 = ad148 := (by injection e148)
      replace p148 := eq_true p148
      replace q148 := eq_true q148
      have p149 : 0 ≤ (t143 : Int) := of_decide_eq_true (by first | (with_reducible assumption) | assumption)
      have q149 : t143 < (x136000_2.length : Int) := of_decide_eq_true (by first | (with_reducible assumption) | assumption)
      obtain ⟨ad149, e149, hx149_0⟩ := Kd.at_int (Kd.R_reads' HO_136000.out).2.2 t143 p149 q149
      obtain rfl : ad144 = ad149 := (by injection e149)
      replace p149 := eq_true p149
      replace q149 := eq_true q149
      try go_wp2
      go_roundg k2
      case measure => have := HK1.out; have := HK2.out; omega
      case rel => exact ⟨(wrap64 (x10_2 + 1)), (x136000_2), (x136001_2), (x136002_2), (.slice (some ad144) x136000_2.length co77), (.slice (some ad147) x136001_2.length co82), (by first | rfl | (simp; done) | (simp [*]; done)), H', ⟨by have := HK1.out; have := HK2.out; omega⟩, ⟨HO_8.out⟩, ⟨HO_136000.out⟩, ⟨HO_136001.out⟩, ⟨BK127.out⟩, ⟨BK128.out⟩, ⟨BK135.out⟩, ⟨HB.out⟩⟩
     rw [if_pos c53] at H
     have c53b0 : decide ((wrap64 ((rd x136000_2 t141) + t146)) < (rd x136000_2 t143)) = true := decide_eq_true c53
     clear c53
     obtain ⟨y150, hy150⟩ : ∃ y_ : List Int, y_ = (x136000_2.set (t143 : Int).toNat (wrap64 ((rd x136000_2 t141) + t146))) := ⟨_, rfl⟩
     replace H : (ebbtideref11_From.l1 k2 t137 x9_1 (wrap64 (x10_2 + 1)) a0_0 a0_1 l0_2 y150 (x136001_2.set (t143 : Int).toNat true) false) = some (r1, r2, r3) := by first | (rw [hy150]; with_reducible exact H) | (have H2_ := (Option.bind_some _ _).symm.trans H; rw [hy150]; with_reducible exact H2_) | (have H2_ := (Option.bind_some _ _).symm.trans H; with_reducible exact H2_) | with_reducible exact H | (rw [hy150]; exact H) | exact H
     have Ny150 := Aside0.mk hy150
     clear hy150
     obtain ⟨y151, hy151⟩ : ∃ y_ : List Bool, y_ = (x136001_2.set (t143 : Int).toNat true) := ⟨_, rfl⟩
     replace H : (ebbtideref11_From.l1 k2 t137 x9_1 (wrap64 (x10_2 + 1)) a0_0 a0_1 l0_2 y150 y151 false) = some (r1, r2, r3) := by first | (rw [hy151]; with_reducible exact H) | (have H2_ := (Option.bind_some _ _).symm.trans H; rw [hy151]; with_reducible exact H2_) | (have H2_ := (Option.bind_some _ _).symm.trans H; with_reducible exact H2_) | with_reducible exact H | (rw [hy151]; exact H) | exact H
     have Ny151 := Aside0.mk hy151
     clear hy151
     have H' := Aside0.mk H
     clear H
     obtain ⟨Ao56, co56, eo56⟩ := Kd.R_slice HO_8.out
     subst eo56
     try go_wp2
     have n0_ := Aside0.mk (Kd.R_drew HO_8.out)
     have n1_ := Aside0.mk (Kd.R_drew HO_136000.out)
     have n2_ := Aside0.mk (Kd.R_drew HO_136001.out)
     have n3_ := Aside0.mk (blk_drew BK127.out)
     have n4_ := Aside0.mk (blk_drew BK128.out)
     have n5_ := Aside0.mk (blk_drew BK135.out)
     have n6_ := Aside0.mk (below_drew1 HB.out)
     clear HO_8
     clear HO_136000
     clear HO_136001
     clear BK127
     clear BK128
     clear BK135
     clear HB
     have HO_8 := n0_
     have HO_136000 := n1_
     have HO_136001 := n2_
     have BK127 := n3_
     have BK128 := n4_
     have BK135 := n5_
     have HB := n6_
     clear n0_ n1_ n2_ n3_ n4_ n5_ n6_
     have p140 : 0 ≤ (x10_2 : Int) := of_decide_eq_true (by first | (with_reducible assumption) | assumption)
     have q140 : x10_2 < (t137.length : Int) := of_decide_eq_true (by first | (with_reducible assumption) | assumption)
     obtain ⟨ad140, e140, hx140_0, hx140_1⟩ := at_T38 (Kd.R_reads' HO_8.out).2.2 x10_2 p140 q140
     (try rw [← Nbq46.out] at hx140_1)
     (try rw [← Nbq50.out] at hx140_1)
     cases e140
     replace p140 := eq_true p140
     replace q140 := eq_true q140
     have p142 : 0 ≤ (x10_2 : Int) := of_decide_eq_true (by first | (with_reducible assumption) | assumption)
     have q142 : x10_2 < (t137.length : Int) := of_decide_eq_true (by first | (with_reducible assumption) | assumption)
     obtain ⟨ad142, e142, hx142_0, hx142_1⟩ := at_T38 (Kd.R_reads' HO_8.out).2.2 x10_2 p142 q142
     (try rw [← Nbq46.out] at hx142_1)
     (try rw [← Nbq50.out] at hx142_1)
     obtain rfl : ad140 = ad142 := (by injection e142)
     replace p142 := eq_true p142
     replace q142 := eq_true q142
     refine start_ (n := 14) (S := fun w' => w'.cell? ⟨gb127, 0, none⟩ = some (.int .i64 a0_0) ∧ w'.cell? ⟨gb127, 1, none⟩ = some (.bool a0_1) ∧ w'.cell? ⟨gb127, 2, none⟩ = some (.slice A0_2 l0_2.length c0_2) ∧ w'.cell? (ad140.add ((x10_2).toNat * 2)) = some (.int .i64 ((rd_T38 t137 x10_2).f0)) ∧ w'.cell? ⟨(ad140.add ((x10_2).toNat * 2)).block, (ad140.add ((x10_2).toNat * 2)).off + 1, none⟩ = some (.bool ((rd_T38 t137 x10_2).f1)) ∧ w'.cell? (ad140.add ((x10_2).toNat * 2)) = some (.int .i64 ((rd_T38 t137 x10_2).f0)) ∧ w'.cell? ⟨(ad140.add ((x10_2).toNat * 2)).block, (ad140.add ((x10_2).toNat * 2)).off + 1, none⟩ = some (.bool ((rd_T38 t137 x10_2).f1))) (ds := []) #[false, false, false, false, false, false, false, false, false, false, false, false, false, false] (by kernel_rfl) rfl rfl ⟨(blk_cell BK127.out 0).trans rfl, (blk_cell BK127.out 1).trans rfl, (blk_cell BK127.out 2).trans rfl, hx140_0, hx140_1, hx142_0, hx142_1⟩ (fun hHeld => ?_); refine with_tabW ebbtideref11_From.tab11 ebbtideref11_From.bits11 (fun HT_ HW_ => ?_)
     generalize wr.drew = w57 at HO_8 HO_136000 HO_136001 BK127 BK128 BK135 HB hx140_0 hx140_1 hx142_0 hx142_1 hHeld ⊢
     refine pure_ (i := 1) (N := some 42) (v := ?_) (a' := ?_) #[false, true, false, false, false, false, false, false, false, false, false, false, false, false] rfl rfl (any_of HT_.out (by kernel_rfl)) (fun _ _ _ h => h) (Or.inl ⟨by rfl, ?_⟩) ?_ ?_
     rotate_left
     ·intro w'
      go_simp
      with_reducible rfl
     rotate_left
     ·simp only [Act.put, List.setIfInBounds_toArray, List.set_cons_zero, List.set_cons_succ, i64_w, i32_w]
      rfl
     refine pure_ (i := 2) (N := some 43) (v := ?_) (a' := ?_) #[false, true, true, false, false, false, false, false, false, false, false, false, false, false] rfl rfl (any_of HT_.out (by kernel_rfl)) (fun _ _ _ h => h) (Or.inl ⟨by rfl, ?_⟩) ?_ ?_
     rotate_left
     ·intro w'
      go_simp
      with_reducible rfl
     rotate_left
     ·simp only [Act.put, List.setIfInBounds_toArray, List.set_cons_zero, List.set_cons_succ, i64_w, i32_w]
      rfl
     refine pure_ (i := 3) (N := some 44) (v := ?_) (a' := ?_) #[false, true, true, true, false, false, false, false, false, false, false, false, false, false] rfl rfl (any_of HT_.out (by kernel_rfl)) (fun _ _ _ h => h) (Or.inl ⟨by rfl, ?_⟩) ?_ ?_
     rotate_left
     ·intro w'
      go_simp
      with_reducible rfl
     rotate_left
     ·simp only [Act.put, List.setIfInBounds_toArray, List.set_cons_zero, List.set_cons_succ, i64_w, i32_w]
      rfl
     refine pure_ (i := 7) (N := some 48) (v := ?_) (a' := ?_) #[false, true, true, true, false, false, false, true, false, false, false, false, false, false] rfl rfl (any_of HT_.out (by kernel_rfl)) (fun _ _ _ h => h) (Or.inl ⟨by rfl, ?_⟩) ?_ ?_
     rotate_left
     ·intro w'
      go_simp
      with_reducible rfl
     rotate_left
     ·simp only [Act.put, List.setIfInBounds_toArray, List.set_cons_zero, List.set_cons_succ, i64_w, i32_w]
      rfl
     refine pure_ (i := 8) (N := some 49) (v := ?_) (a' := ?_) #[false, true, true, true, false, false, false, true, true, false, false, false, false, false] rfl rfl (any_of HT_.out (by kernel_rfl)) (fun _ _ _ h => h) (Or.inl ⟨by rfl, ?_⟩) ?_ ?_
     rotate_left
     ·intro w'
      go_simp
      with_reducible rfl
     rotate_left
     ·simp only [Act.put, List.setIfInBounds_toArray, List.set_cons_zero, List.set_cons_succ, i64_w, i32_w]
      rfl
     refine pure_ (i := 9) (N := some 50) (v := ?_) (a' := ?_) #[false, true, true, true, false, false, false, true, true, true, false, false, false, false] rfl rfl (any_of HT_.out (by kernel_rfl)) (fun _ _ _ h => h) (Or.inl ⟨by rfl, ?_⟩) ?_ ?_
     rotate_left
     ·intro w'
      go_simp
      with_reducible rfl
     rotate_left
     ·simp only [Act.put, List.setIfInBounds_toArray, List.set_cons_zero, List.set_cons_succ, i64_w, i32_w]
      rfl
     refine take_ (i := 0) (N := some 41) (v := ?_) (a' := ?_) #[true, true, true, true, false, false, false, true, true, true, false, false, false, false] rfl rfl (take_ofW HT_.out HW_.out (by kernel_rfl)) (fun _ _ _ h => h) (Or.inl ⟨by rfl, ?_⟩) hHeld ?_ ?_
     rotate_left
     ·rintro w' ⟨s0, s1, s2, s3, s4, s5, s6⟩
      go_simp
      with_reducible rfl
     rotate_left
     ·simp only [Act.put, List.setIfInBounds_toArray, List.set_cons_zero, List.set_cons_succ, i64_w, i32_w]
      rfl
     refine take_ (i := 4) (N := some 45) (v := ?_) (a' := ?_) #[true, true, true, true, true, false, false, true, true, true, false, false, false, false] rfl rfl (take_ofW HT_.out HW_.out (by kernel_rfl)) (fun _ _ _ h => h) (Or.inl ⟨by rfl, ?_⟩) hHeld ?_ ?_
     rotate_left
     ·rintro w' ⟨s0, s1, s2, s3, s4, s5, s6⟩
      go_simp
      with_reducible rfl
     rotate_left
     ·simp only [Act.put, List.setIfInBounds_toArray, List.set_cons_zero, List.set_cons_succ, i64_w, i32_w]
      rfl
     refine take_ (i := 6) (N := some 47) (v := ?_) (a' := ?_) #[true, true, true, true, true, false, true, true, true, true, false, false, false, false] rfl rfl (take_ofW HT_.out HW_.out (by kernel_rfl)) (fun _ _ _ h => h) (Or.inl ⟨by rfl, ?_⟩) hHeld ?_ ?_
     rotate_left
     ·rintro w' ⟨s0, s1, s2, s3, s4, s5, s6⟩
      go_simp
      with_reducible rfl
     rotate_left
     ·simp only [Act.put, List.setIfInBounds_toArray, List.set_cons_zero, List.set_cons_succ, i64_w, i32_w]
      rfl
     refine take_ (i := 10) (N := some 51) (v := ?_) (a' := ?_) #[true, true, true, true, true, false, true, true, true, true, true, false, false, false] rfl rfl (take_ofW HT_.out HW_.out (by kernel_rfl)) (fun _ _ _ h => h) (Or.inl ⟨by rfl, ?_⟩) hHeld ?_ ?_
     rotate_left
     ·rintro w' ⟨s0, s1, s2, s3, s4, s5, s6⟩
      go_simp
      with_reducible rfl
     rotate_left
     ·simp only [Act.put, List.setIfInBounds_toArray, List.set_cons_zero, List.set_cons_succ, i64_w, i32_w]
      rfl
     refine one_ (i := 5) (N := some 46) #[true, true, true, true, true, true, true, true, true, true, true, false, false, false] rfl rfl (one_of HT_.out (by kernel_rfl)) (by decide) (fun K hK => ?_)
     refine goes_ Try.func44 (by kernel_rfl) rfl #[.agg #[.int .i64 a0_0, .bool a0_1, .slice A0_2 l0_2.length c0_2], .agg #[.int .i64 ((rd_T38 t137 x10_2).f0), .bool ((rd_T38 t137 x10_2).f1)]] (by rfl) rfl rfl (by (try simp only [List.map_toArray, List.map_cons, List.map_nil]); first | done | rfl | (simp only [List.length_drop, List.length_take]; rfl)) ?_
     with_reducible refine (ebbtideref07_From.calls a0_0 a0_1 _ _ l0_2 ((rd_T38 t137 x10_2).f0) ((rd_T38 t137 x10_2).f1) t141 _ ?side1 ?side2 (by first | exact A40.out | (have h_ := A40.out; rw [← Nbq50.out] at h_; exact h_) | (have h_ := A40.out; rw [← Nbq46.out] at h_; exact h_))).mono ?_
     (case side1 => repeat (first | exact (Kd.C_below HR0_2.out HB.out) | (with_reducible refine Kd.C_alloc ?_ _) | (with_reducible refine Kd.C_drewN ?_ _) | (with_reducible refine Kd.C_drew ?_)))
     (case side2 => exact HC0_2.out)
     rintro e w58 ⟨rfl, hb⟩
     have HS3_ := (hb.cell (World.block_lt_of_cell? _ _ (hHeld.2.2.2.1))).trans (hHeld.2.2.2.1)
     have HS4_ := (hb.cell (World.block_lt_of_cell? _ _ (hHeld.2.2.2.2.1))).trans (hHeld.2.2.2.2.1)
     have HS5_ := (hb.cell (World.block_lt_of_cell? _ _ (hHeld.2.2.2.2.2.1))).trans (hHeld.2.2.2.2.2.1)
     have HS6_ := (hb.cell (World.block_lt_of_cell? _ _ (hHeld.2.2.2.2.2.2))).trans (hHeld.2.2.2.2.2.2)
     refine ⟨_, rfl, ?_⟩
     have n0_ := Aside0.mk (Kd.R_below HO_8.out hb)
     have n1_ := Aside0.mk (Kd.R_below HO_136000.out hb)
     have n2_ := Aside0.mk (Kd.R_below HO_136001.out hb)
     have n3_ := Aside0.mk (blk_below BK127.out hb)
     have n4_ := Aside0.mk (blk_below BK128.out hb)
     have n5_ := Aside0.mk (blk_below BK135.out hb)
     have n6_ := Aside0.mk (below_step HB.out hb)
     clear HO_8
     clear HO_136000
     clear HO_136001
     clear BK127
     clear BK128
     clear BK135
     clear HB
     have HO_8 := n0_
     have HO_136000 := n1_
     have HO_136001 := n2_
     have BK127 := n3_
     have BK128 := n4_
     have BK135 := n5_
     have HB := n6_
     clear n0_ n1_ n2_ n3_ n4_ n5_ n6_
     (try clear hb)
     (try clear hb2)
     (try clear hk)
     (try clear hi)
     refine hK.out _ _ ⟨(blk_cell BK127.out 0).trans rfl, (blk_cell BK127.out 1).trans rfl, (blk_cell BK127.out 2).trans rfl, HS3_, HS4_, HS5_, HS6_⟩ (fun hHeld => ?_)
     clear hK K
     refine norm_ (a' := ?_) ?_ ?_
     rotate_left
     ·show Act.put _ (some 46) _ = _
      simp only [Act.put, List.setIfInBounds_toArray, List.set_cons_zero, List.set_cons_succ, i64_w, i32_w]
      rfl
     refine one_ (i := 11) (N := some 52) #[true, true, true, true, true, true, true, true, true, true, true, true, false, false] rfl rfl (one_of HT_.out (by kernel_rfl)) (by decide) (fun K hK => ?_)
     refine goes_ Try.func45 (by kernel_rfl) rfl #[.agg #[.int .i64 a0_0, .bool a0_1, .slice A0_2 l0_2.length c0_2], .agg #[.int .i64 ((rd_T38 t137 x10_2).f0), .bool ((rd_T38 t137 x10_2).f1)]] (by rfl) rfl rfl (by (try simp only [List.map_toArray, List.map_cons, List.map_nil]); first | done | rfl | (simp only [List.length_drop, List.length_take]; rfl)) ?_
     with_reducible refine (ebbtideref07_To.calls a0_0 a0_1 _ _ l0_2 ((rd_T38 t137 x10_2).f0) ((rd_T38 t137 x10_2).f1) t143 _ ?side1 ?side2 (by first | exact A41.out | (have h_ := A41.out; rw [← Nbq50.out] at h_; exact h_) | (have h_ := A41.out; rw [← Nbq46.out] at h_; exact h_))).mono ?_
     (case side1 => repeat (first | exact (Kd.C_below HR0_2.out HB.out) | (with_reducible refine Kd.C_alloc ?_ _) | (with_reducible refine Kd.C_drewN ?_ _) | (with_reducible refine Kd.C_drew ?_)))
     (case side2 => exact HC0_2.out)
     rintro e w59 ⟨rfl, hb⟩
     have HS3_ := (hb.cell (World.block_lt_of_cell? _ _ (hHeld.2.2.2.1))).trans (hHeld.2.2.2.1)
     have HS4_ := (hb.cell (World.block_lt_of_cell? _ _ (hHeld.2.2.2.2.1))).trans (hHeld.2.2.2.2.1)
     have HS5_ := (hb.cell (World.block_lt_of_cell? _ _ (hHeld.2.2.2.2.2.1))).trans (hHeld.2.2.2.2.2.1)
     have HS6_ := (hb.cell (World.block_lt_of_cell? _ _ (hHeld.2.2.2.2.2.2))).trans (hHeld.2.2.2.2.2.2)
     refine ⟨_, rfl, ?_⟩
     have n0_ := Aside0.mk (Kd.R_below HO_8.out hb)
     have n1_ := Aside0.mk (Kd.R_below HO_136000.out hb)
     have n2_ := Aside0.mk (Kd.R_below HO_136001.out hb)
     have n3_ := Aside0.mk (blk_below BK127.out hb)
     have n4_ := Aside0.mk (blk_below BK128.out hb)
     have n5_ := Aside0.mk (blk_below BK135.out hb)
     have n6_ := Aside0.mk (below_step HB.out hb)
     clear HO_8
     clear HO_136000
     clear HO_136001
     clear BK127
     clear BK128
     clear BK135
     clear HB
     have HO_8 := n0_
     have HO_136000 := n1_
     have HO_136001 := n2_
     have BK127 := n3_
     have BK128 := n4_
     have BK135 := n5_
     have HB := n6_
     clear n0_ n1_ n2_ n3_ n4_ n5_ n6_
     (try clear hb)
     (try clear hb2)
     (try clear hk)
     (try clear hi)
     refine hK.out _ _ ⟨(blk_cell BK127.out 0).trans rfl, (blk_cell BK127.out 1).trans rfl, (blk_cell BK127.out 2).trans rfl, HS3_, HS4_, HS5_, HS6_⟩ (fun hHeld => ?_)
     clear hK K
     refine norm_ (a' := ?_) ?_ ?_
     rotate_left
     ·show Act.put _ (some 52) _ = _
      simp only [Act.put, List.setIfInBounds_toArray, List.set_cons_zero, List.set_cons_succ, i64_w, i32_w]
      rfl
     refine pure_ (i := 12) (N := some 11) (v := ?_) (a' := ?_) #[true, true, true, true, true, true, true, true, true, true, true, true, true, false] rfl rfl (any_of HT_.out (by kernel_rfl)) (fun _ _ _ h => h) (Or.inl ⟨by rfl, ?_⟩) ?_ ?_
     rotate_left
     ·intro w'
      go_simp
      with_reducible rfl
     rotate_left
     ·simp only [Act.put, List.setIfInBounds_toArray, List.set_cons_zero, List.set_cons_succ, i64_w, i32_w]
      rfl
     refine pure_ (i := 13) (N := some 12) (v := ?_) (a' := ?_) #[true, true, true, true, true, true, true, true, true, true, true, true, true, true] rfl rfl (any_of HT_.out (by kernel_rfl)) (fun _ _ _ h => h) (Or.inl ⟨by rfl, ?_⟩) ?_ ?_
     rotate_left
     ·intro w'
      go_simp
      with_reducible rfl
     rotate_left
     ·simp only [Act.put, List.setIfInBounds_toArray, List.set_cons_zero, List.set_cons_succ, i64_w, i32_w]
      rfl
     refine done_ (done_of HT_.out (by kernel_rfl)) ?_
     try go_wp2
     have n0_ := Aside0.mk (Kd.R_drew HO_8.out)
     have n1_ := Aside0.mk (Kd.R_drew HO_136000.out)
     have n2_ := Aside0.mk (Kd.R_drew HO_136001.out)
     have n3_ := Aside0.mk (blk_drew BK127.out)
     have n4_ := Aside0.mk (blk_drew BK128.out)
     have n5_ := Aside0.mk (blk_drew BK135.out)
     have n6_ := Aside0.mk (below_drew1 HB.out)
     clear HO_8
     clear HO_136000
     clear HO_136001
     clear BK127
     clear BK128
     clear BK135
     clear HB
     have HO_8 := n0_
     have HO_136000 := n1_
     have HO_136001 := n2_
     have BK127 := n3_
     have BK128 := n4_
     have BK135 := n5_
     have HB := n6_
     clear n0_ n1_ n2_ n3_ n4_ n5_ n6_
     obtain ⟨Ao61, co61, eo61⟩ := Kd.R_slice HO_136000.out
     (first | subst eo61 | (injection eo61 with f1_ f2_ f3_; have f4_ := f1_.symm; have f5_ := f3_.symm; clear f1_ f2_ f3_; subst f4_; subst f5_))
     have p144 : 0 ≤ (t141 : Int) := of_decide_eq_true (by first | (with_reducible assumption) | assumption)
     have q144 : t141 < (x136000_2.length : Int) := of_decide_eq_true (by first | (with_reducible assumption) | assumption)
     obtain ⟨ad144, e144, hx144_0⟩ := Kd.at_int (Kd.R_reads' HO_136000.out).2.2 t141 p144 q144
     cases e144
     replace p144 := eq_true p144
     replace q144 := eq_true q144
     have p145 : 0 ≤ (x10_2 : Int) := of_decide_eq_true (by first | (with_reducible assumption) | assumption)
     have q145 : x10_2 < (t137.length : Int) := of_decide_eq_true (by first | (with_reducible assumption) | assumption)
     obtain ⟨ad145, e145, hx145_0, hx145_1⟩ := at_T38 (Kd.R_reads' HO_8.out).2.2 x10_2 p145 q145
     (try rw [← Nbq46.out] at hx145_1)
     (try rw [← Nbq50.out] at hx145_1)
     obtain rfl : ad140 = ad145 := (by injection e145)
     replace p145 := eq_true p145
     replace q145 := eq_true q145
     refine start_ (n := 13) (S := fun w' => w'.cell? ⟨gb135, 0, none⟩ = some (.slice (some ad144) x136000_2.length co61) ∧ w'.cell? ⟨gb135, 1, none⟩ = some (u136001) ∧ w'.cell? ⟨gb135, 2, none⟩ = some (.bool x136002_2) ∧ w'.cell? ⟨gb127, 0, none⟩ = some (.int .i64 a0_0) ∧ w'.cell? ⟨gb127, 1, none⟩ = some (.bool a0_1) ∧ w'.cell? ⟨gb127, 2, none⟩ = some (.slice A0_2 l0_2.length c0_2) ∧ w'.cell? (ad144.add (t141).toNat) = some (.int .i64 (rd x136000_2 t141)) ∧ w'.cell? (ad140.add ((x10_2).toNat * 2)) = some (.int .i64 ((rd_T38 t137 x10_2).f0)) ∧ w'.cell? ⟨(ad140.add ((x10_2).toNat * 2)).block, (ad140.add ((x10_2).toNat * 2)).off + 1, none⟩ = some (.bool ((rd_T38 t137 x10_2).f1))) (ds := []) #[false, false, false, false, false, false, false, false, false, false, false, false, false] (by kernel_rfl) rfl rfl ⟨(blk_cell BK135.out 0).trans rfl, (blk_cell BK135.out 1).trans rfl, (blk_cell BK135.out 2).trans rfl, (blk_cell BK127.out 0).trans rfl, (blk_cell BK127.out 1).trans rfl, (blk_cell BK127.out 2).trans rfl, hx144_0, hx145_0, hx145_1⟩ (fun hHeld => ?_); refine with_tabW ebbtideref11_From.tab12 ebbtideref11_From.bits12 (fun HT_ HW_ => ?_)
     generalize w59.drew = w60 at HO_8 HO_136000 HO_136001 BK127 BK128 BK135 HB hx144_0 hx145_0 hx145_1 hHeld ⊢
     refine pure_ (i := 0) (N := some 53) (v := ?_) (a' := ?_) #[true, false, false, false, false, false, false, false, false, false, false, false, false] rfl rfl (any_of HT_.out (by kernel_rfl)) (fun _ _ _ h => h) (Or.inl ⟨by rfl, ?_⟩) ?_ ?_
     rotate_left
     ·intro w'
      go_simp
      with_reducible rfl
     rotate_left
     ·simp only [Act.put, List.setIfInBounds_toArray, List.set_cons_zero, List.set_cons_succ, i64_w, i32_w]
      rfl
     refine pure_ (i := 2) (N := some 55) (v := ?_) (a' := ?_) #[true, false, true, false, false, false, false, false, false, false, false, false, false] rfl rfl (any_of HT_.out (by kernel_rfl)) (fun _ _ _ h => h) (Or.inl ⟨by rfl, ?_⟩) ?_ ?_
     rotate_left
     ·intro w'
      go_simp
      with_reducible rfl
     rotate_left
     ·simp only [Act.put, List.setIfInBounds_toArray, List.set_cons_zero, List.set_cons_succ, i64_w, i32_w]
      rfl
     refine pure_ (i := 6) (N := some 59) (v := ?_) (a' := ?_) #[true, false, true, false, false, false, true, false, false, false, false, false, false] rfl rfl (any_of HT_.out (by kernel_rfl)) (fun _ _ _ h => h) (Or.inl ⟨by rfl, ?_⟩) ?_ ?_
     rotate_left
     ·intro w'
      go_simp
      with_reducible rfl
     rotate_left
     ·simp only [Act.put, List.setIfInBounds_toArray, List.set_cons_zero, List.set_cons_succ, i64_w, i32_w]
      rfl
     refine pure_ (i := 7) (N := some 60) (v := ?_) (a' := ?_) #[true, false, true, false, false, false, true, true, false, false, false, false, false] rfl rfl (any_of HT_.out (by kernel_rfl)) (fun _ _ _ h => h) (Or.inl ⟨by rfl, ?_⟩) ?_ ?_
     rotate_left
     ·intro w'
      go_simp
      with_reducible rfl
     rotate_left
     ·simp only [Act.put, List.setIfInBounds_toArray, List.set_cons_zero, List.set_cons_succ, i64_w, i32_w]
      rfl
     refine pure_ (i := 8) (N := some 61) (v := ?_) (a' := ?_) #[true, false, true, false, false, false, true, true, true, false, false, false, false] rfl rfl (any_of HT_.out (by kernel_rfl)) (fun _ _ _ h => h) (Or.inl ⟨by rfl, ?_⟩) ?_ ?_
     rotate_left
     ·intro w'
      go_simp
      with_reducible rfl
     rotate_left
     ·simp only [Act.put, List.setIfInBounds_toArray, List.set_cons_zero, List.set_cons_succ, i64_w, i32_w]
      rfl
     refine take_ (i := 1) (N := some 54) (v := ?_) (a' := ?_) #[true, true, true, false, false, false, true, true, true, false, false, false, false] rfl rfl (take_ofW HT_.out HW_.out (by kernel_rfl)) (fun _ _ _ h => h) (Or.inl ⟨by rfl, ?_⟩) hHeld ?_ ?_
     rotate_left
     ·rintro w' ⟨s0, s1, s2, s3, s4, s5, s6, s7, s8⟩
      go_simp
      with_reducible rfl
     rotate_left
     ·simp only [Act.put, List.setIfInBounds_toArray, List.set_cons_zero, List.set_cons_succ, i64_w, i32_w]
      rfl
     refine pure_ (i := 3) (N := some 56) (v := ?_) (a' := ?_) #[true, true, true, true, false, false, true, true, true, false, false, false, false] rfl rfl (any_of HT_.out (by kernel_rfl)) (fun _ _ _ h => h) (Or.inl ⟨by rfl, ?_⟩) ?_ ?_
     rotate_left
     ·intro w'
      go_simp
      with_reducible rfl
     rotate_left
     ·simp only [Act.put, List.setIfInBounds_toArray, List.set_cons_zero, List.set_cons_succ, i64_w, i32_w]
      rfl
     refine take_ (i := 4) (N := some 57) (v := ?_) (a' := ?_) #[true, true, true, true, true, false, true, true, true, false, false, false, false] rfl rfl (take_ofW HT_.out HW_.out (by kernel_rfl)) (fun _ _ _ h => h) (Or.inl ⟨by rfl, ?_⟩) hHeld ?_ ?_
     rotate_left
     ·rintro w' ⟨s0, s1, s2, s3, s4, s5, s6, s7, s8⟩
      go_simp
      with_reducible rfl
     rotate_left
     ·simp only [Act.put, List.setIfInBounds_toArray, List.set_cons_zero, List.set_cons_succ, i64_w, i32_w]
      rfl
     refine take_ (i := 5) (N := some 58) (v := ?_) (a' := ?_) #[true, true, true, true, true, true, true, true, true, false, false, false, false] rfl rfl (take_ofW HT_.out HW_.out (by kernel_rfl)) (fun _ _ _ h => h) (Or.inl ⟨by rfl, ?_⟩) hHeld ?_ ?_
     rotate_left
     ·rintro w' ⟨s0, s1, s2, s3, s4, s5, s6, s7, s8⟩
      go_simp
      with_reducible rfl
     rotate_left
     ·simp only [Act.put, List.setIfInBounds_toArray, List.set_cons_zero, List.set_cons_succ, i64_w, i32_w]
      rfl
     refine take_ (i := 9) (N := some 62) (v := ?_) (a' := ?_) #[true, true, true, true, true, true, true, true, true, true, false, false, false] rfl rfl (take_ofW HT_.out HW_.out (by kernel_rfl)) (fun _ _ _ h => h) (Or.inl ⟨by rfl, ?_⟩) hHeld ?_ ?_
     rotate_left
     ·rintro w' ⟨s0, s1, s2, s3, s4, s5, s6, s7, s8⟩
      go_simp
      with_reducible rfl
     rotate_left
     ·simp only [Act.put, List.setIfInBounds_toArray, List.set_cons_zero, List.set_cons_succ, i64_w, i32_w]
      rfl
     refine one_ (i := 10) (N := some 63) #[true, true, true, true, true, true, true, true, true, true, true, false, false] rfl rfl (one_of HT_.out (by kernel_rfl)) (by decide) (fun K hK => ?_)
     refine goes_ Try.func46 (by kernel_rfl) rfl #[.agg #[.int .i64 a0_0, .bool a0_1, .slice A0_2 l0_2.length c0_2], .agg #[.int .i64 ((rd_T38 t137 x10_2).f0), .bool ((rd_T38 t137 x10_2).f1)]] (by rfl) rfl rfl (by (try simp only [List.map_toArray, List.map_cons, List.map_nil]); first | done | rfl | (simp only [List.length_drop, List.length_take]; rfl)) ?_
     with_reducible refine (ebbtideref11_Time.calls a0_0 a0_1 _ _ l0_2 ((rd_T38 t137 x10_2).f0) ((rd_T38 t137 x10_2).f1) t146 _ ?side1 ?side2 (by first | exact A44.out | (have h_ := A44.out; rw [← Nbq50.out] at h_; exact h_) | (have h_ := A44.out; rw [← Nbq46.out] at h_; exact h_))).mono ?_
     (case side1 => repeat (first | exact (Kd.C_below HR0_2.out HB.out) | (with_reducible refine Kd.C_alloc ?_ _) | (with_reducible refine Kd.C_drewN ?_ _) | (with_reducible refine Kd.C_drew ?_)))
     (case side2 => exact HC0_2.out)
     rintro e w62 ⟨rfl, hb⟩
     have HS6_ := (hb.cell (World.block_lt_of_cell? _ _ (hHeld.2.2.2.2.2.2.1))).trans (hHeld.2.2.2.2.2.2.1)
     have HS7_ := (hb.cell (World.block_lt_of_cell? _ _ (hHeld.2.2.2.2.2.2.2.1))).trans (hHeld.2.2.2.2.2.2.2.1)
     have HS8_ := (hb.cell (World.block_lt_of_cell? _ _ (hHeld.2.2.2.2.2.2.2.2))).trans (hHeld.2.2.2.2.2.2.2.2)
     refine ⟨_, rfl, ?_⟩
     have n0_ := Aside0.mk (Kd.R_below HO_8.out hb)
     have n1_ := Aside0.mk (Kd.R_below HO_136000.out hb)
     have n2_ := Aside0.mk (Kd.R_below HO_136001.out hb)
     have n3_ := Aside0.mk (blk_below BK127.out hb)
     have n4_ := Aside0.mk (blk_below BK128.out hb)
     have n5_ := Aside0.mk (blk_below BK135.out hb)
     have n6_ := Aside0.mk (below_step HB.out hb)
     clear HO_8
     clear HO_136000
     clear HO_136001
     clear BK127
     clear BK128
     clear BK135
     clear HB
     have HO_8 := n0_
     have HO_136000 := n1_
     have HO_136001 := n2_
     have BK127 := n3_
     have BK128 := n4_
     have BK135 := n5_
     have HB := n6_
     clear n0_ n1_ n2_ n3_ n4_ n5_ n6_
     (try clear hb)
     (try clear hb2)
     (try clear hk)
     (try clear hi)
     refine hK.out _ _ ⟨(blk_cell BK135.out 0).trans rfl, (blk_cell BK135.out 1).trans rfl, (blk_cell BK135.out 2).trans rfl, (blk_cell BK127.out 0).trans rfl, (blk_cell BK127.out 1).trans rfl, (blk_cell BK127.out 2).trans rfl, HS6_, HS7_, HS8_⟩ (fun hHeld => ?_)
     clear hK K
     refine norm_ (a' := ?_) ?_ ?_
     rotate_left
     ·show Act.put _ (some 63) _ = _
      simp only [Act.put, List.setIfInBounds_toArray, List.set_cons_zero, List.set_cons_succ, i64_w, i32_w]
      rfl
     refine pure_ (i := 11) (N := some 64) (v := ?_) (a' := ?_) #[true, true, true, true, true, true, true, true, true, true, true, true, false] rfl rfl (any_of HT_.out (by kernel_rfl)) (fun _ _ _ h => h) (Or.inl ⟨by rfl, ?_⟩) ?_ ?_
     rotate_left
     ·intro w'
      go_simp
      with_reducible rfl
     rotate_left
     ·simp only [Act.put, List.setIfInBounds_toArray, List.set_cons_zero, List.set_cons_succ, i64_w, i32_w]
      rfl
     refine pure_ (i := 12) (N := some 13) (v := ?_) (a' := ?_) #[true, true, true, true, true, true, true, true, true, true, true, true, true] rfl rfl (any_of HT_.out (by kernel_rfl)) (fun _ _ _ h => h) (Or.inl ⟨by rfl, ?_⟩) ?_ ?_
     rotate_left
     ·intro w'
      go_simp
      with_reducible rfl
     rotate_left
     ·simp only [Act.put, List.setIfInBounds_toArray, List.set_cons_zero, List.set_cons_succ, i64_w, i32_w]
      rfl
     refine done_ (done_of HT_.out (by kernel_rfl)) ?_
     have hnb63 := NB135_127.out
     have hnc63 := NB127_135.out
     have hnb64 := NB135_128.out
     have hnc64 := NB128_135.out
     have hcz65_0 : w62.cell? ⟨gb135, 0, none⟩ = some (.slice (some ad144) x136000_2.length co61) := (blk_cell BK135.out 0).trans rfl
     have hcz65_1 : w62.cell? ⟨gb135, 1, none⟩ = some (u136001) := (blk_cell BK135.out 1).trans rfl
     have hcz65_2 : w62.cell? ⟨gb135, 2, none⟩ = some (.bool x136002_2) := (blk_cell BK135.out 2).trans rfl
     have hfz65_0 := blk_frozen BK135.out 0
     have hfz65_1 := blk_frozen BK135.out 1
     have hfz65_2 := blk_frozen BK135.out 2
     obtain ⟨Ao66, co66, eo66⟩ := Kd.R_slice HO_136001.out
     subst eo66
     have p147 : 0 ≤ (t141 : Int) := of_decide_eq_true (by first | (with_reducible assumption) | assumption)
     have q147 : t141 < (x136001_2.length : Int) := of_decide_eq_true (by first | (with_reducible assumption) | assumption)
     obtain ⟨ad147, e147, hx147_0⟩ := Kd.at_bool (Kd.R_reads' HO_136001.out).2.2 t141 p147 q147
     (try rw [← Nbq46.out] at hx147_0)
     (try rw [← Nbq50.out] at hx147_0)
     cases e147
     replace p147 := eq_true p147
     replace q147 := eq_true q147
     have p148 : 0 ≤ (t143 : Int) := of_decide_eq_true (by first | (with_reducible assumption) | assumption)
     have q148 : t143 < (x136001_2.length : Int) := of_decide_eq_true (by first | (with_reducible assumption) | assumption)
     obtain ⟨ad148, e148, hx148_0⟩ := Kd.at_bool (Kd.R_reads' HO_136001.out).2.2 t143 p148 q148
     (try rw [← Nbq46.out] at hx148_0)
     (try rw [← Nbq50.out] at hx148_0)
     obtain rfl : ad147 = ad148 := (by injection e148)
     replace p148 := eq_true p148
     replace q148 := eq_true q148
     have p149 : 0 ≤ (t143 : Int) := of_decide_eq_true (by first | (with_reducible assumption) | assumption)
     have q149 : t143 < (x136000_2.length : Int) := of_decide_eq_true (by first | (with_reducible assumption) | assumption)
     obtain ⟨ad149, e149, hx149_0⟩ := Kd.at_int (Kd.R_reads' HO_136000.out).2.2 t143 p149 q149
     obtain rfl : ad144 = ad149 := (by injection e149)
     replace p149 := eq_true p149
     replace q149 := eq_true q149
     have p54 : 0 ≤ (t143 : Int) := of_decide_eq_true (by first | (with_reducible assumption) | assumption)
     have q54 : (t143 : Int) < ((x136000_2.length : Int) : Int) := of_decide_eq_true (by first | (with_reducible assumption) | assumption)
     obtain ⟨go54, co54, eo54, gb54, gl54, cl54, HG54⟩ := Kd.R_form HO_136000.out (by omega)
     (first | cases eo54 | (injection eo54 with ea_ en_ ec_; (first | subst ea_ | (injection ea_ with ea_; subst ea_)); subst ec_; clear en_))
     have GB54 := Aside0.mk gb54
     have GG54 := Aside0.mk HG54
     clear gb54 gl54 HG54
     (first | simp only [add_plain] at hx144_0 | skip)
     (first | simp only [add_plain] at hx149_0 | skip)
     obtain ⟨hx54_0, hf54_0⟩ := Kd.R_celln 0 HO_136000.out (t143 : Int) p54 q54
     replace p54 := eq_true p54
     replace q54 := eq_true q54
     obtain ⟨hy67_, hz67_⟩ := Kd.R_celln 0 HO_136000.out (t143 : Int) (of_decide_eq_true (by first | (with_reducible assumption) | assumption)) (of_decide_eq_true (by first | (with_reducible assumption) | assumption))
     have HP67 := Kd.R_putg HO_136000.out (t143 : Int) (wrap64 ((rd x136000_2 t141) + t146))
     have p55 : 0 ≤ (t143 : Int) := of_decide_eq_true (by first | (with_reducible assumption) | assumption); have q55 : (t143 : Int) < ((x136001_2.length : Int) : Int) := of_decide_eq_true (by first | (with_reducible assumption) | assumption); obtain ⟨go55, co55, eo55, gb55, gl55, cl55, HG55⟩ := Kd.R_form HO_136001.out (by omega); (first | cases eo55 | (injection eo55 with ea_ en_ ec_; (first | subst ea_ | (injection ea_ with ea_; subst ea_)); subst ec_; clear en_)); have GB55 := Aside0.mk gb55; have GG55 := Aside0.mk HG55; clear gb55 gl55 HG55; (first | simp only [add_plain] at hx147_0 | skip); (first | simp only [add_plain] at hx148_0 | skip); obtain ⟨hx55_0, hf55_0⟩ := Kd.R_celln false HO_136001.out (t143 : Int) p55 q55; replace p55 := eq_true p55; replace q55 := eq_true q55
     try go_wp2_with fail
     have zc0 : w62.cell? ⟨gb135, 0, none⟩ = some (.slice (some ⟨go54, 0, none⟩) x136000_2.length co61) := (blk_cell BK135.out 0).trans rfl
     have zc1 : w62.cell? ⟨gb135, 1, none⟩ = some (.slice (some ⟨go55, 0, none⟩) x136001_2.length co66) := (blk_cell BK135.out 1).trans rfl
     have ngb135go54_ : gb135 ≠ go54 := fun e => Kd.R_ne HO_136000.out BK135.out (by decide) (congrArg some e)
     have ngo54gb135_ : go54 ≠ gb135 := Ne.symm ngb135go54_
     have ngb135go55_ : gb135 ≠ go55 := fun e => Kd.R_ne HO_136001.out BK135.out (by decide) (congrArg some e)
     have ngo55gb135_ : go55 ≠ gb135 := Ne.symm ngb135go55_
     have ngo54go55_ : go54 ≠ go55 := fun e => by obtain ⟨c1_, h1_⟩ := Kd.R_typed HO_136000.out _ rfl; obtain ⟨c2_, h2_⟩ := Kd.R_typed HO_136001.out _ rfl; rw [← e] at h2_; have t_ := h1_.symm.trans h2_; simp at t_
     have ngo55go54_ : go55 ≠ go54 := Ne.symm ngo54go55_
     go_region
     obtain ⟨w68, hw⟩ : ∃ x_, x_ = (w62.setCell ⟨go54, (t143 : Int).toNat, none⟩ (.int .i64 (wrap64 ((rd x136000_2 t141) + t146)))) := ⟨_, rfl⟩
     rw [← hw]
     have hg : w62.grownBy w68 (some go54) := (by rw [hw]; exact HP67.2); have hp_ : Kd.R (Kd.int .i64) 3 w68 w.heap.size (fun _ => True) (.slice (some ⟨go54, 0, none⟩) x136000_2.length co61) y150 := (by rw [hw, Ny150.out]; exact HP67.1); clear HP67; have n0_ := Aside0.mk (Kd.R_over' (v := (.slice (some ⟨go54, 0, none⟩) x136000_2.length co61)) HO_8.out (Kd.R_typed HO_136000.out) (by decide) hg); have n1_ := Aside0.mk (hp_); have n2_ := Aside0.mk (Kd.R_over' (v := (.slice (some ⟨go54, 0, none⟩) x136000_2.length co61)) HO_136001.out (Kd.R_typed HO_136000.out) (by decide) hg); have n3_ := Aside0.mk (blk_grown BK127.out hg (Kd.R_ne HO_136000.out BK127.out (by decide))); have n4_ := Aside0.mk (blk_grown BK128.out hg (Kd.R_ne HO_136000.out BK128.out (by decide))); have n5_ := Aside0.mk (blk_grown BK135.out hg (Kd.R_ne HO_136000.out BK135.out (by decide))); have n6_ := Aside0.mk ((by rw [hw]; exact below_set (HB.out) GB54.out : Below w.heap.size w w68)); clear HO_8; clear HO_136000; clear HO_136001; clear BK127; clear BK128; clear BK135; clear HB; have HO_8 := n0_; have HO_136000 := n1_; have HO_136001 := n2_; have BK127 := n3_; have BK128 := n4_; have BK135 := n5_; have HB := n6_; clear n0_ n1_ n2_ n3_ n4_ n5_ n6_; clear hg hw hp_
     obtain ⟨hy69_, hz69_⟩ := Kd.R_celln false HO_136001.out (t143 : Int) (of_decide_eq_true (by first | (with_reducible assumption) | assumption)) (of_decide_eq_true (by first | (with_reducible assumption) | assumption)); have HP69 := Kd.R_putg HO_136001.out (t143 : Int) true
     obtain ⟨w70, hw⟩ : ∃ x_, x_ = (w68.setCell ⟨go55, (t143 : Int).toNat, none⟩ (.bool true)) := ⟨_, rfl⟩
     rw [← hw]
     have hg : w68.grownBy w70 (some go55) := (by rw [hw]; exact HP69.2); have hp_ : Kd.R Kd.bool 4 w70 w.heap.size (fun _ => True) (.slice (some ⟨go55, 0, none⟩) x136001_2.length co66) y151 := (by rw [hw, Ny151.out]; exact HP69.1); clear HP69; have n0_ := Aside0.mk (Kd.R_over' (v := (.slice (some ⟨go55, 0, none⟩) x136001_2.length co66)) HO_8.out (Kd.R_typed HO_136001.out) (by decide) hg); have n1_ := Aside0.mk (Kd.R_over' (v := (.slice (some ⟨go55, 0, none⟩) x136001_2.length co66)) HO_136000.out (Kd.R_typed HO_136001.out) (by decide) hg); have n2_ := Aside0.mk (hp_); have n3_ := Aside0.mk (blk_grown BK127.out hg (Kd.R_ne HO_136001.out BK127.out (by decide))); have n4_ := Aside0.mk (blk_grown BK128.out hg (Kd.R_ne HO_136001.out BK128.out (by decide))); have n5_ := Aside0.mk (blk_grown BK135.out hg (Kd.R_ne HO_136001.out BK135.out (by decide))); have n6_ := Aside0.mk ((by rw [hw]; exact below_set (HB.out) GB55.out : Below w.heap.size w w70)); clear HO_8; clear HO_136000; clear HO_136001; clear BK127; clear BK128; clear BK135; clear HB; have HO_8 := n0_; have HO_136000 := n1_; have HO_136001 := n2_; have BK127 := n3_; have BK128 := n4_; have BK135 := n5_; have HB := n6_; clear n0_ n1_ n2_ n3_ n4_ n5_ n6_; clear hg hw hp_
     have u0_ := Aside0.mk (Kd.R_drew HO_8.out)
     have u1_ := Aside0.mk (Kd.R_drew HO_136000.out)
     have u2_ := Aside0.mk (Kd.R_drew HO_136001.out)
     have u3_ := Aside0.mk (blk_drew BK127.out)
     have u4_ := Aside0.mk (blk_drew BK128.out)
     have u5_ := Aside0.mk (blk_drew BK135.out)
     have u6_ := Aside0.mk (below_drew HB.out)
     clear HO_8 HO_136000 HO_136001 BK127 BK128 BK135 HB zc0 zc1
     have HO_8 := u0_
     have HO_136000 := u1_
     have HO_136001 := u2_
     have BK127 := u3_
     have BK128 := u4_
     have BK135 := u5_
     have HB := u6_
     clear u0_ u1_ u2_ u3_ u4_ u5_ u6_
     generalize w70.drew = w70x at HO_8 HO_136000 HO_136001 BK127 BK128 BK135 HB ⊢
     have hcz71_0 : w70x.cell? ⟨gb135, 0, none⟩ = some (.slice (some ⟨go54, 0, none⟩) x136000_2.length co61) := (blk_cell BK135.out 0).trans rfl; have hcz71_1 : w70x.cell? ⟨gb135, 1, none⟩ = some (.slice (some ⟨go55, 0, none⟩) x136001_2.length co66) := (blk_cell BK135.out 1).trans rfl; have hcz71_2 : w70x.cell? ⟨gb135, 2, none⟩ = some (.bool x136002_2) := (blk_cell BK135.out 2).trans rfl; have hfz71_0 := blk_frozen BK135.out 0; have hfz71_1 := blk_frozen BK135.out 1; have hfz71_2 := blk_frozen BK135.out 2
     go_wp2_with fail
     go_roundg k2
     case measure => have := HK1.out; have := HK2.out; omega
     case rel => exact ⟨(wrap64 (x10_2 + 1)), (y150), (y151), (false), (.slice (some ⟨go54, 0, none⟩) x136000_2.length co61), (.slice (some ⟨go55, 0, none⟩) x136001_2.length co66), (by first | rfl | (simp; done) | (simp [*]; done)), H', ⟨by have := HK1.out; have := HK2.out; omega⟩, ⟨by (with_reducible repeat (first | apply Kd.R_alloc | apply Kd.R_drewN | apply Kd.R_drew)); exact Kd.R_mono (Kd.R_far (p := ⟨gb135, 2, none⟩) (Kd.R_types HO_8.out BK135.out (by decide)) (fun _ hk => hk.2) (.bool false)) (fun _ hk => trivial)⟩, ⟨by (with_reducible repeat (first | apply Kd.R_alloc | apply Kd.R_drewN | apply Kd.R_drew)); exact Kd.R_mono (Kd.R_far (p := ⟨gb135, 2, none⟩) (Kd.R_types HO_136000.out BK135.out (by decide)) (fun _ hk => hk.2) (.bool false)) (fun _ hk => trivial)⟩, ⟨by (with_reducible repeat (first | apply Kd.R_alloc | apply Kd.R_drewN | apply Kd.R_drew)); exact Kd.R_mono (Kd.R_far (p := ⟨gb135, 2, none⟩) (Kd.R_types HO_136001.out BK135.out (by decide)) (fun _ hk => hk.2) (.bool false)) (fun _ hk => trivial)⟩, ⟨by (with_reducible repeat (first | refine blk_drewN ?_ _ | refine blk_drew ?_ | refine blk_alloc ?_ _)); refine blk_far ?_ NB127_135.out _; (with_reducible repeat (first | refine blk_drewN ?_ _ | refine blk_drew ?_ | refine blk_alloc ?_ _)); exact BK127.out⟩, ⟨by (with_reducible repeat (first | refine blk_drewN ?_ _ | refine blk_drew ?_ | refine blk_alloc ?_ _)); refine blk_far ?_ NB128_135.out _; (with_reducible repeat (first | refine blk_drewN ?_ _ | refine blk_drew ?_ | refine blk_alloc ?_ _)); exact BK128.out⟩, ⟨by (with_reducible repeat (first | refine blk_drewN ?_ _ | refine blk_drew ?_ | refine blk_alloc ?_ _)); refine blk_put (cs := #[.slice (some ⟨go54, 0, none⟩) x136000_2.length co61, .slice (some ⟨go55, 0, none⟩) x136001_2.length co66, .bool x136002_2]) ?_ 2 _ rfl; (with_reducible repeat (first | refine blk_drewN ?_ _ | refine blk_drew ?_ | refine blk_alloc ?_ _)); exact BK135.out⟩, ⟨by repeat (first | (with_reducible first | exact HB.out | apply below_alloc | apply pw_below_drewN | apply below_drew1 | refine below_set ?_ GE127.out | refine below_set ?_ GE128.out | refine below_set ?_ GE135.out) | exact HB.out)⟩⟩
end Go.Proofs.Ytkcpanpdipmmmaa.P

-- Laid by wip/tool/mk.py, by the kit's print.py, for all laws of this seat in one namespace; a function told as by hand has a proof of this session's own.
namespace Go.Proofs.Ytkcpanpdipmmmaa.P
open Go.RowKit Go.Proofs.YtkcpanpdipmmmaaW.PrintWords Go.Proofs.YtkcpanpdipmmmaaW.PrintLast Go.Proofs.YtkcpanpdipmmmaaW.PrintMore
attribute [local go_sem] max2_int min2_int max_two min_two max_three min_three max_four min_four   -- for this text's walks alone
set_option linter.unusedVariables false
set_option linter.unusedSimpArgs false

/-! ### ebbtideref05_nodes: function 122 -/
def ebbtideref05_nodes.f (a0 : Int) : Option (Int) := if a0 < 1 then (some 51) else (if a0 > 50 then (some 2) else (some 0))
set_option maxHeartbeats 8000000 in
set_option maxRecDepth 100000 in
theorem ebbtideref05_nodes.calls (a0 : Int) (r : Int) (w : World) (h : ebbtideref05_nodes.f a0 = some r) :
  Calls Try.prog 122 #[.int .i64 a0] w fun e w' => e = .returned (.int .i64 r) ∧ Drawn0 w w' := by
 have H : (if a0 < 1 then (some 51) else (if a0 > 50 then (some 2) else (some 0))) = some r := h
 clear h
 by_cases c2 : a0 < 1
 ·rw [if_pos c2] at H
  have c2b0 : decide (a0 < 1) = true := decide_eq_true c2
  clear c2
  obtain rfl := Option.some.inj H
  go_enter Try.func122, Try.ntmps122
  go_wp2
  go_ret
  exact ⟨by first | rfl | (simp; done) | (simp [*]; done), by repeat (first | exact Drawn0.refl _ | apply Drawn0.step)⟩
 rw [if_neg c2] at H
 have c2b0 : decide (a0 < 1) = false := decide_eq_false c2
 clear c2
 by_cases c3 : a0 > 50
 ·rw [if_pos c3] at H
  have c3b0 : decide (50 < a0) = true := decide_eq_true c3
  clear c3
  obtain rfl := Option.some.inj H
  go_enter Try.func122, Try.ntmps122
  go_wp2
  go_ret
  exact ⟨by first | rfl | (simp; done) | (simp [*]; done), by repeat (first | exact Drawn0.refl _ | apply Drawn0.step)⟩
 rw [if_neg c3] at H
 have c3b0 : decide (50 < a0) = false := decide_eq_false c3
 clear c3
 obtain rfl := Option.some.inj H
 go_enter Try.func122, Try.ntmps122
 go_wp2
 go_ret
 exact ⟨by first | rfl | (simp; done) | (simp [*]; done), by repeat (first | exact Drawn0.refl _ | apply Drawn0.step)⟩

end Go.Proofs.Ytkcpanpdipmmmaa.P

-- Laid by wip/tool/mk.py, by the kit's print.py, for all laws of this seat in one namespace; a function told as by hand has a proof of this session's own.
namespace Go.Proofs.Ytkcpanpdipmmmaa.P
open Go.RowKit Go.Proofs.YtkcpanpdipmmmaaW.PrintWords Go.Proofs.YtkcpanpdipmmmaaW.PrintLast Go.Proofs.YtkcpanpdipmmmaaW.PrintMore
attribute [local go_sem] max2_int min2_int max_two min_two max_three min_three max_four min_four   -- for this text's walks alone
set_option linter.unusedVariables false
set_option linter.unusedSimpArgs false

/-! ### ebbtideref05_Arc: function 123 -/
def ebbtideref05_Arc.j0 : Nat → Bool → Int → Int → Int → Int → Option (Int)
 | 0, _, _, _, _, _ => none
 | k + 1, x34, x155000, x155001, x155002, x155003 => if x34 = true then (some 51) else (if x155002 > 1048576 then (some 2) else (if x155003 > 1048576 then (some 2) else (some 0)))
def ebbtideref05_Arc.f (k : Nat) (a0 : Int) (a1_0 : Int) (a1_1 : Int) (a1_2 : Int) (a1_3 : Int) : Option (Int) := if a1_0 < 0 then (ebbtideref05_Arc.j0 k true a1_0 a1_1 a1_2 a1_3) else (if a1_0 ≥ a0 then (ebbtideref05_Arc.j0 k true a1_0 a1_1 a1_2 a1_3) else (if a1_1 < 0 then (ebbtideref05_Arc.j0 k true a1_0 a1_1 a1_2 a1_3) else (if a1_1 ≥ a0 then (ebbtideref05_Arc.j0 k true a1_0 a1_1 a1_2 a1_3) else (if a1_2 < 0 then (ebbtideref05_Arc.j0 k true a1_0 a1_1 a1_2 a1_3) else (ebbtideref05_Arc.j0 k (decide (a1_3 < 0)) a1_0 a1_1 a1_2 a1_3)))))
theorem ebbtideref05_Arc.mono_l : ∀ k, (∀ y0 y1 y2 y3 y4, LeO (ebbtideref05_Arc.j0 k y0 y1 y2 y3 y4) (ebbtideref05_Arc.j0 (k + 1) y0 y1 y2 y3 y4))
 | 0 => fun _ _ _ _ _ r h => by simp [ebbtideref05_Arc.j0] at h
 | k + 1 => by
  have ih0 := ebbtideref05_Arc.mono_l k
  ·intro y0 y1 y2 y3 y4
   unfold ebbtideref05_Arc.j0
   repeat' first
   | (with_reducible exact ih0 _ _ _ _ _)
   | (with_reducible exact LeO.refl _)
   | (with_reducible exact LeO.none _)
   | (with_reducible refine LeO.ite ?_ ?_)
   | (with_reducible refine LeO.bind ?_ (fun _ => ?_))
   | exact ih0 _ _ _ _ _
   | exact LeO.none _
   | refine LeO.ite ?_ ?_
   | refine LeO.bind ?_ (fun _ => ?_)
theorem ebbtideref05_Arc.mono : ∀ a0 a1 a2 a3 a4 k, LeO (ebbtideref05_Arc.f k a0 a1 a2 a3 a4) (ebbtideref05_Arc.f (k + 1) a0 a1 a2 a3 a4) := by
 intro a0 a1 a2 a3 a4 k
 have ih0 := ebbtideref05_Arc.mono_l k
 unfold ebbtideref05_Arc.f
 repeat' first
   | (with_reducible exact ih0 _ _ _ _ _)
   | (with_reducible exact LeO.refl _)
   | (with_reducible exact LeO.none _)
   | (with_reducible refine LeO.ite ?_ ?_)
   | (with_reducible refine LeO.bind ?_ (fun _ => ?_))
   | exact ih0 _ _ _ _ _
   | exact LeO.none _
   | refine LeO.ite ?_ ?_
   | refine LeO.bind ?_ (fun _ => ?_)
set_option maxHeartbeats 8000000 in
set_option maxRecDepth 100000 in
theorem ebbtideref05_Arc.calls (k : Nat) (a0 : Int) (a1_0 : Int) (a1_1 : Int) (a1_2 : Int) (a1_3 : Int) (r : Int) (w : World) (h : ebbtideref05_Arc.f k a0 a1_0 a1_1 a1_2 a1_3 = some r) :
  Calls Try.prog 123 #[.int .i64 a0, .agg #[.int .i64 a1_0, .int .i64 a1_1, .int .i64 a1_2, .int .i64 a1_3]] w fun e w' => e = .returned (.int .i64 r) ∧ Below w.heap.size w w' := by
 have hu74 := Try.underlying74
 have HB := Aside0.mk (Below.refl w.heap.size w)
 have H : (if a1_0 < 0 then (ebbtideref05_Arc.j0 k true a1_0 a1_1 a1_2 a1_3) else (if a1_0 ≥ a0 then (ebbtideref05_Arc.j0 k true a1_0 a1_1 a1_2 a1_3) else (if a1_1 < 0 then (ebbtideref05_Arc.j0 k true a1_0 a1_1 a1_2 a1_3) else (if a1_1 ≥ a0 then (ebbtideref05_Arc.j0 k true a1_0 a1_1 a1_2 a1_3) else (if a1_2 < 0 then (ebbtideref05_Arc.j0 k true a1_0 a1_1 a1_2 a1_3) else (ebbtideref05_Arc.j0 k (decide (a1_3 < 0)) a1_0 a1_1 a1_2 a1_3)))))) = some r := h
 clear h
 have HC3 := Aside0.mk H
 clear H
 go_enter Try.func123, Try.ntmps123
 go_upto_region 1 with (first | ((with_reducible refine gate_dst (N := 3) rfl ?_); refine box_event ?hg (N := 3) ?hd (cs := #[.int .i64 a1_0, .int .i64 a1_1, .int .i64 a1_2, .int .i64 a1_3]) (t := 74) ?hr ?_; (case hd => rfl); (case hg => rfl); (case hr => first | (go_simp; done) | (go_simp; rfl)); intro gb154 hg w4 hbox hb; have n0_ := Aside0.mk (below_step (by repeat (first | (with_reducible first | exact HB.out | apply below_alloc | apply pw_below_drewN | apply below_drew1) | exact HB.out)) hb); have n1_ := Aside0.mk (hbox); have n2_ := Aside0.mk ((by rw [hg]; exact (below_size (by repeat (first | (with_reducible first | exact HB.out | apply below_alloc | apply pw_below_drewN | apply below_drew1) | exact HB.out))) : w.heap.size ≤ gb154)); have n3_ := Aside0.mk ((by rw [hg]; exact (below_size (by repeat (first | (with_reducible first | exact HB.out | apply below_alloc | apply pw_below_drewN | apply below_drew1) | exact HB.out))) : w.heap.size ≤ gb154)); clear HB; have HB := n0_; have BK154 := n1_; have GW154 := n2_; have GE154 := n3_; clear n0_ n1_ n2_ n3_; clear hb hbox hg))
 (try simp only [Act.put, List.setIfInBounds_toArray, List.set_cons_zero, List.set_cons_succ])
 go_cut [34] (fun v34 wc => ∃ (kq : Nat) (x34_2 : Bool), v34 = .bool x34_2 ∧ Aside0 (ebbtideref05_Arc.j0 kq x34_2 a1_0 a1_1 a1_2 a1_3 = some r) ∧ Aside0 (kq ≤ k) ∧ Aside0 (wc.heap[gb154]? = some (.cells #[.int .i64 a1_0, .int .i64 a1_1, .int .i64 a1_2, .int .i64 a1_3] 74 (0, 0))) ∧ Aside0 (Below w.heap.size w wc))
 case first =>
  have H := HC3.out
  clear HC3
  by_cases c5 : a1_0 < 0
  ·rw [if_pos c5] at H
   have c5b0 : decide (a1_0 < 0) = true := decide_eq_true c5
   clear c5
   (first | rw [c5b0] | (simp only [i64_w, i32_w]; rw [c5b0]) | skip)
   have H' := Aside0.mk H
   clear H
   have hcz6_0 : w4.cell? ⟨gb154, 0, none⟩ = some (.int .i64 a1_0) := (blk_cell BK154.out 0).trans rfl
   have hcz6_1 : w4.cell? ⟨gb154, 1, none⟩ = some (.int .i64 a1_1) := (blk_cell BK154.out 1).trans rfl
   have hcz6_2 : w4.cell? ⟨gb154, 2, none⟩ = some (.int .i64 a1_2) := (blk_cell BK154.out 2).trans rfl
   have hcz6_3 : w4.cell? ⟨gb154, 3, none⟩ = some (.int .i64 a1_3) := (blk_cell BK154.out 3).trans rfl
   have hfz6_0 := blk_frozen BK154.out 0
   have hfz6_1 := blk_frozen BK154.out 1
   have hfz6_2 := blk_frozen BK154.out 2
   have hfz6_3 := blk_frozen BK154.out 3
   go_wp2
   go_meet
   case rel => exact ⟨_, (true), (by first | rfl | (simp; done) | (simp [*]; done)), H', ⟨by first | omega | exact Nat.le_refl _⟩, ⟨by (with_reducible repeat (first | refine blk_drewN ?_ _ | refine blk_drew ?_ | refine blk_alloc ?_ _)); exact BK154.out⟩, ⟨by repeat (first | (with_reducible first | exact HB.out | apply below_alloc | apply pw_below_drewN | apply below_drew1 | refine below_set ?_ GE154.out) | exact HB.out)⟩⟩
  rw [if_neg c5] at H
  have c5b0 : decide (a1_0 < 0) = false := decide_eq_false c5
  clear c5
  (first | rw [c5b0] | (simp only [i64_w, i32_w]; rw [c5b0]) | skip)
  by_cases c7 : a1_0 ≥ a0
  ·rw [if_pos c7] at H
   have c7b0 : decide (a0 ≤ a1_0) = true := decide_eq_true c7
   clear c7
   have H' := Aside0.mk H
   clear H
   have hcz8_0 : w4.cell? ⟨gb154, 0, none⟩ = some (.int .i64 a1_0) := (blk_cell BK154.out 0).trans rfl
   have hcz8_1 : w4.cell? ⟨gb154, 1, none⟩ = some (.int .i64 a1_1) := (blk_cell BK154.out 1).trans rfl
   have hcz8_2 : w4.cell? ⟨gb154, 2, none⟩ = some (.int .i64 a1_2) := (blk_cell BK154.out 2).trans rfl
   have hcz8_3 : w4.cell? ⟨gb154, 3, none⟩ = some (.int .i64 a1_3) := (blk_cell BK154.out 3).trans rfl
   have hfz8_0 := blk_frozen BK154.out 0
   have hfz8_1 := blk_frozen BK154.out 1
   have hfz8_2 := blk_frozen BK154.out 2
   have hfz8_3 := blk_frozen BK154.out 3
   go_wp2
   go_meet
   case rel => exact ⟨_, (true), (by first | rfl | (simp; done) | (simp [*]; done)), H', ⟨by first | omega | exact Nat.le_refl _⟩, ⟨by (with_reducible repeat (first | refine blk_drewN ?_ _ | refine blk_drew ?_ | refine blk_alloc ?_ _)); exact BK154.out⟩, ⟨by repeat (first | (with_reducible first | exact HB.out | apply below_alloc | apply pw_below_drewN | apply below_drew1 | refine below_set ?_ GE154.out) | exact HB.out)⟩⟩
  rw [if_neg c7] at H
  have c7b0 : decide (a0 ≤ a1_0) = false := decide_eq_false c7
  clear c7
  by_cases c9 : a1_1 < 0
  ·rw [if_pos c9] at H
   have c9b0 : decide (a1_1 < 0) = true := decide_eq_true c9
   clear c9
   have H' := Aside0.mk H
   clear H
   have hcz10_0 : w4.cell? ⟨gb154, 0, none⟩ = some (.int .i64 a1_0) := (blk_cell BK154.out 0).trans rfl
   have hcz10_1 : w4.cell? ⟨gb154, 1, none⟩ = some (.int .i64 a1_1) := (blk_cell BK154.out 1).trans rfl
   have hcz10_2 : w4.cell? ⟨gb154, 2, none⟩ = some (.int .i64 a1_2) := (blk_cell BK154.out 2).trans rfl
   have hcz10_3 : w4.cell? ⟨gb154, 3, none⟩ = some (.int .i64 a1_3) := (blk_cell BK154.out 3).trans rfl
   have hfz10_0 := blk_frozen BK154.out 0
   have hfz10_1 := blk_frozen BK154.out 1
   have hfz10_2 := blk_frozen BK154.out 2
   have hfz10_3 := blk_frozen BK154.out 3
   go_wp2
   go_meet
   case rel => exact ⟨_, (true), (by first | rfl | (simp; done) | (simp [*]; done)), H', ⟨by first | omega | exact Nat.le_refl _⟩, ⟨by (with_reducible repeat (first | refine blk_drewN ?_ _ | refine blk_drew ?_ | refine blk_alloc ?_ _)); exact BK154.out⟩, ⟨by repeat (first | (with_reducible first | exact HB.out | apply below_alloc | apply pw_below_drewN | apply below_drew1 | refine below_set ?_ GE154.out) | exact HB.out)⟩⟩
  rw [if_neg c9] at H
  have c9b0 : decide (a1_1 < 0) = false := decide_eq_false c9
  clear c9
  by_cases c11 : a1_1 ≥ a0
  ·rw [if_pos c11] at H
   have c11b0 : decide (a0 ≤ a1_1) = true := decide_eq_true c11
   clear c11
   have H' := Aside0.mk H
   clear H
   have hcz12_0 : w4.cell? ⟨gb154, 0, none⟩ = some (.int .i64 a1_0) := (blk_cell BK154.out 0).trans rfl
   have hcz12_1 : w4.cell? ⟨gb154, 1, none⟩ = some (.int .i64 a1_1) := (blk_cell BK154.out 1).trans rfl
   have hcz12_2 : w4.cell? ⟨gb154, 2, none⟩ = some (.int .i64 a1_2) := (blk_cell BK154.out 2).trans rfl
   have hcz12_3 : w4.cell? ⟨gb154, 3, none⟩ = some (.int .i64 a1_3) := (blk_cell BK154.out 3).trans rfl
   have hfz12_0 := blk_frozen BK154.out 0
   have hfz12_1 := blk_frozen BK154.out 1
   have hfz12_2 := blk_frozen BK154.out 2
   have hfz12_3 := blk_frozen BK154.out 3
   go_wp2
   go_meet
   case rel => exact ⟨_, (true), (by first | rfl | (simp; done) | (simp [*]; done)), H', ⟨by first | omega | exact Nat.le_refl _⟩, ⟨by (with_reducible repeat (first | refine blk_drewN ?_ _ | refine blk_drew ?_ | refine blk_alloc ?_ _)); exact BK154.out⟩, ⟨by repeat (first | (with_reducible first | exact HB.out | apply below_alloc | apply pw_below_drewN | apply below_drew1 | refine below_set ?_ GE154.out) | exact HB.out)⟩⟩
  rw [if_neg c11] at H
  have c11b0 : decide (a0 ≤ a1_1) = false := decide_eq_false c11
  clear c11
  by_cases c13 : a1_2 < 0
  rotate_left
  ·rw [if_neg c13] at H
   have c13b0 : decide (a1_2 < 0) = false := decide_eq_false c13
   clear c13
   have H' := Aside0.mk H
   clear H
   have hcz15_0 : w4.cell? ⟨gb154, 0, none⟩ = some (.int .i64 a1_0) := (blk_cell BK154.out 0).trans rfl
   have hcz15_1 : w4.cell? ⟨gb154, 1, none⟩ = some (.int .i64 a1_1) := (blk_cell BK154.out 1).trans rfl
   have hcz15_2 : w4.cell? ⟨gb154, 2, none⟩ = some (.int .i64 a1_2) := (blk_cell BK154.out 2).trans rfl
   have hcz15_3 : w4.cell? ⟨gb154, 3, none⟩ = some (.int .i64 a1_3) := (blk_cell BK154.out 3).trans rfl
   have hfz15_0 := blk_frozen BK154.out 0
   have hfz15_1 := blk_frozen BK154.out 1
   have hfz15_2 := blk_frozen BK154.out 2
   have hfz15_3 := blk_frozen BK154.out 3
   go_wp2
   go_meet
   case rel => exact ⟨_, (decide (a1_3 < 0)), (by first | rfl | (simp; done) | (simp [*]; done)), H', ⟨by first | omega | exact Nat.le_refl _⟩, ⟨by (with_reducible repeat (first | refine blk_drewN ?_ _ | refine blk_drew ?_ | refine blk_alloc ?_ _)); exact BK154.out⟩, ⟨by repeat (first | (with_reducible first | exact HB.out | apply below_alloc | apply pw_below_drewN | apply below_drew1 | refine below_set ?_ GE154.out) | exact HB.out)⟩⟩
  rw [if_pos c13] at H
  have c13b0 : decide (a1_2 < 0) = true := decide_eq_true c13
  clear c13
  have H' := Aside0.mk H
  clear H
  have hcz14_0 : w4.cell? ⟨gb154, 0, none⟩ = some (.int .i64 a1_0) := (blk_cell BK154.out 0).trans rfl
  have hcz14_1 : w4.cell? ⟨gb154, 1, none⟩ = some (.int .i64 a1_1) := (blk_cell BK154.out 1).trans rfl
  have hcz14_2 : w4.cell? ⟨gb154, 2, none⟩ = some (.int .i64 a1_2) := (blk_cell BK154.out 2).trans rfl
  have hcz14_3 : w4.cell? ⟨gb154, 3, none⟩ = some (.int .i64 a1_3) := (blk_cell BK154.out 3).trans rfl
  have hfz14_0 := blk_frozen BK154.out 0
  have hfz14_1 := blk_frozen BK154.out 1
  have hfz14_2 := blk_frozen BK154.out 2
  have hfz14_3 := blk_frozen BK154.out 3
  go_wp2
  go_meet
  case rel => exact ⟨_, (true), (by first | rfl | (simp; done) | (simp [*]; done)), H', ⟨by first | omega | exact Nat.le_refl _⟩, ⟨by (with_reducible repeat (first | refine blk_drewN ?_ _ | refine blk_drew ?_ | refine blk_alloc ?_ _)); exact BK154.out⟩, ⟨by repeat (first | (with_reducible first | exact HB.out | apply below_alloc | apply pw_below_drewN | apply below_drew1 | refine below_set ?_ GE154.out) | exact HB.out)⟩⟩
 case rest =>
  clear HC3
  try clear c1
  try clear p2
  try clear c5
  try clear c5b0
  try clear c7
  try clear c7b0
  try clear c9
  try clear c9b0
  try clear c11
  try clear c11b0
  try clear c12
  try clear c13
  try clear c13b0
  try clear hcz10_0
  try clear hcz10_1
  try clear hcz10_2
  try clear hcz10_3
  try clear hcz12_0
  try clear hcz12_1
  try clear hcz12_2
  try clear hcz12_3
  try clear hcz14_0
  try clear hcz14_1
  try clear hcz14_2
  try clear hcz14_3
  try clear hcz15_0
  try clear hcz15_1
  try clear hcz15_2
  try clear hcz15_3
  try clear hcz6_0
  try clear hcz6_1
  try clear hcz6_2
  try clear hcz6_3
  try clear hcz8_0
  try clear hcz8_1
  try clear hcz8_2
  try clear hcz8_3
  try clear hfz10_0
  try clear hfz10_1
  try clear hfz10_2
  try clear hfz10_3
  try clear hfz12_0
  try clear hfz12_1
  try clear hfz12_2
  try clear hfz12_3
  try clear hfz14_0
  try clear hfz14_1
  try clear hfz14_2
  try clear hfz14_3
  try clear hfz15_0
  try clear hfz15_1
  try clear hfz15_2
  try clear hfz15_3
  try clear hfz6_0
  try clear hfz6_1
  try clear hfz6_2
  try clear hfz6_3
  try clear hfz8_0
  try clear hfz8_1
  try clear hfz8_2
  try clear hfz8_3
  obtain ⟨kq, x34_2, rfl, HA, HJ2, BK154, HB⟩ := hcut
  cases kq with
  | zero => exact absurd HA.out (by simp [ebbtideref05_Arc.j0])
  | succ kj2 =>
   have H := HA.out
   clear HA
   simp only [ebbtideref05_Arc.j0] at H
   by_cases c16 : x34_2 = true
   ·subst c16
    have H1 : (some 51) = some r := by rw [if_pos rfl] at H; exact H
    clear H
    have H := H1
    clear H1
    obtain rfl := Option.some.inj H
    go_wp2
    go_ret
    exact ⟨by first | rfl | (simp [errW_none, errW_some] <;> rfl) | (simp [*, errW_none, errW_some] <;> rfl), by repeat (first | (with_reducible first | exact HB.out | apply below_alloc | apply pw_below_drewN | apply below_drew1 | refine below_set ?_ GE154.out) | exact HB.out)⟩
   replace c16 := Bool.eq_false_iff.mpr c16
   subst c16
   have H1 : (if a1_2 > 1048576 then (some 2) else (if a1_3 > 1048576 then (some 2) else (some 0))) = some r := by rw [if_neg (show ¬ (false = true) by decide)] at H; exact H
   clear H
   have H := H1
   clear H1
   by_cases c17 : a1_2 > 1048576
   ·rw [if_pos c17] at H
    have c17b0 : decide (1048576 < a1_2) = true := decide_eq_true c17
    clear c17
    obtain rfl := Option.some.inj H
    have hcz18_0 : wc.cell? ⟨gb154, 0, none⟩ = some (.int .i64 a1_0) := (blk_cell BK154.out 0).trans rfl
    have hcz18_1 : wc.cell? ⟨gb154, 1, none⟩ = some (.int .i64 a1_1) := (blk_cell BK154.out 1).trans rfl
    have hcz18_2 : wc.cell? ⟨gb154, 2, none⟩ = some (.int .i64 a1_2) := (blk_cell BK154.out 2).trans rfl
    have hcz18_3 : wc.cell? ⟨gb154, 3, none⟩ = some (.int .i64 a1_3) := (blk_cell BK154.out 3).trans rfl
    have hfz18_0 := blk_frozen BK154.out 0
    have hfz18_1 := blk_frozen BK154.out 1
    have hfz18_2 := blk_frozen BK154.out 2
    have hfz18_3 := blk_frozen BK154.out 3
    go_wp2
    go_ret
    exact ⟨by first | rfl | (simp [errW_none, errW_some] <;> rfl) | (simp [*, errW_none, errW_some] <;> rfl), by repeat (first | (with_reducible first | exact HB.out | apply below_alloc | apply pw_below_drewN | apply below_drew1 | refine below_set ?_ GE154.out) | exact HB.out)⟩
   rw [if_neg c17] at H
   have c17b0 : decide (1048576 < a1_2) = false := decide_eq_false c17
   clear c17
   by_cases c19 : a1_3 > 1048576
   ·rw [if_pos c19] at H
    have c19b0 : decide (1048576 < a1_3) = true := decide_eq_true c19
    clear c19
    obtain rfl := Option.some.inj H
    have hcz20_0 : wc.cell? ⟨gb154, 0, none⟩ = some (.int .i64 a1_0) := (blk_cell BK154.out 0).trans rfl
    have hcz20_1 : wc.cell? ⟨gb154, 1, none⟩ = some (.int .i64 a1_1) := (blk_cell BK154.out 1).trans rfl
    have hcz20_2 : wc.cell? ⟨gb154, 2, none⟩ = some (.int .i64 a1_2) := (blk_cell BK154.out 2).trans rfl
    have hcz20_3 : wc.cell? ⟨gb154, 3, none⟩ = some (.int .i64 a1_3) := (blk_cell BK154.out 3).trans rfl
    have hfz20_0 := blk_frozen BK154.out 0
    have hfz20_1 := blk_frozen BK154.out 1
    have hfz20_2 := blk_frozen BK154.out 2
    have hfz20_3 := blk_frozen BK154.out 3
    go_wp2
    go_ret
    exact ⟨by first | rfl | (simp [errW_none, errW_some] <;> rfl) | (simp [*, errW_none, errW_some] <;> rfl), by repeat (first | (with_reducible first | exact HB.out | apply below_alloc | apply pw_below_drewN | apply below_drew1 | refine below_set ?_ GE154.out) | exact HB.out)⟩
   rw [if_neg c19] at H
   have c19b0 : decide (1048576 < a1_3) = false := decide_eq_false c19
   clear c19
   obtain rfl := Option.some.inj H
   have hcz21_0 : wc.cell? ⟨gb154, 0, none⟩ = some (.int .i64 a1_0) := (blk_cell BK154.out 0).trans rfl
   have hcz21_1 : wc.cell? ⟨gb154, 1, none⟩ = some (.int .i64 a1_1) := (blk_cell BK154.out 1).trans rfl
   have hcz21_2 : wc.cell? ⟨gb154, 2, none⟩ = some (.int .i64 a1_2) := (blk_cell BK154.out 2).trans rfl
   have hcz21_3 : wc.cell? ⟨gb154, 3, none⟩ = some (.int .i64 a1_3) := (blk_cell BK154.out 3).trans rfl
   have hfz21_0 := blk_frozen BK154.out 0
   have hfz21_1 := blk_frozen BK154.out 1
   have hfz21_2 := blk_frozen BK154.out 2
   have hfz21_3 := blk_frozen BK154.out 3
   go_wp2
   go_ret
   exact ⟨by first | rfl | (simp [errW_none, errW_some] <;> rfl) | (simp [*, errW_none, errW_some] <;> rfl), by repeat (first | (with_reducible first | exact HB.out | apply below_alloc | apply pw_below_drewN | apply below_drew1 | refine below_set ?_ GE154.out) | exact HB.out)⟩

end Go.Proofs.Ytkcpanpdipmmmaa.P
