/- Joined by wip/tool/bundle.py out of: P34 P35 P36. -/
import Derived.Test.YtagppmdgmppmnaaGhhiiib
import Derived.Test.YtagppmdgmppmnaaGncaaid
import Derived.Test.YtagppmdgmppmnaaGhkhjdm
-- Laid by wip/tool/mk.py, by the kit's print.py, for all laws of this seat in one namespace; a function told as by hand has a proof of this session's own.
namespace Go.Proofs.Ytagppmdgmppmnaa.P
open Go.RowKit Go.Proofs.YtagppmdgmppmnaaW.PrintWords Go.Proofs.YtagppmdgmppmnaaW.PrintLast Go.Proofs.YtagppmdgmppmnaaW.PrintMore
attribute [local go_sem] max2_int min2_int max_two min_two max_three min_three max_four min_four   -- for this text's walks alone
set_option linter.unusedVariables false
set_option linter.unusedSimpArgs false

/-! ### ebbtidelaw12_Read: function 17 -/
def ebbtidelaw12_Read.l0 : Nat → Int → Int → Int → Bool → List (S79) → Int → Int → Int → Int → Bool → List (S69) → Option (Int × Bool × (List (S69)) × Int × Int × Int)
 | 0, _, _, _, _, _, _, _, _, _, _, _ => none
 | k + 1, x1, x9, x250000, x250001, x250002, x250003, x250004, x250005, x252000, x252001, x252002 => if x9 < (x250002.length : Int) then (if x9 < x1 then (if 0 ≤ x9 then (if x252000 = 0 then (none) else (if x252002.length < 4398046511104 then (ebbtidelaw12_Read.l0 k x1 (wrap64 (x9 + 1)) x250000 x250001 x250002 x250003 x250004 x250005 x252000 x252001 (x252002 ++ [(⟨Int.tmod (wrap64 ((rd_T79 x250002 x9).f0)) x252000, Int.tmod (wrap64 ((rd_T79 x250002 x9).f1)) x252000, Int.tmod (wrap64 ((rd_T79 x250002 x9).f2)) 6, Int.tmod (wrap64 ((rd_T79 x250002 x9).f3)) 4⟩ : S69)])) else (none))) else (none)) else (if x252000 = 0 then (none) else (if (wrap64 (x252000 - 1)) = 0 then (none) else (some (x252000, x252001, x252002, Int.tmod (wrap64 (x250003)) x252000, Int.tmod (wrap64 ((wrap64 ((Int.tmod (wrap64 (x250003)) x252000) + 1)) + (Int.tmod (wrap64 (x250004)) (wrap64 (x252000 - 1))))) x252000, Int.tmod (wrap64 (x250005)) 8))))) else (if x252000 = 0 then (none) else (if (wrap64 (x252000 - 1)) = 0 then (none) else (some (x252000, x252001, x252002, Int.tmod (wrap64 (x250003)) x252000, Int.tmod (wrap64 ((wrap64 ((Int.tmod (wrap64 (x250003)) x252000) + 1)) + (Int.tmod (wrap64 (x250004)) (wrap64 (x252000 - 1))))) x252000, Int.tmod (wrap64 (x250005)) 8))))
def ebbtidelaw12_Read.f (k : Nat) (a0_0 : Int) (a0_1 : Bool) (l0_2 : List (S79)) (a0_3 : Int) (a0_4 : Int) (a0_5 : Int) (a1 : Int) : Option (Int × Bool × (List (S69)) × Int × Int × Int) := ebbtidelaw12_Read.l0 k a1 0 a0_0 a0_1 l0_2 a0_3 a0_4 a0_5 (wrap64 (2 + (Int.tmod (wrap64 (a0_0)) 4))) a0_1 ([] : List (S69))
theorem ebbtidelaw12_Read.mono_l : ∀ k, (∀ y0 y1 y2 y3 y4 y5 y6 y7 y8 y9 y10, LeO (ebbtidelaw12_Read.l0 k y0 y1 y2 y3 y4 y5 y6 y7 y8 y9 y10) (ebbtidelaw12_Read.l0 (k + 1) y0 y1 y2 y3 y4 y5 y6 y7 y8 y9 y10))
 | 0 => fun _ _ _ _ _ _ _ _ _ _ _ r h => by simp [ebbtidelaw12_Read.l0] at h
 | k + 1 => by
  have ih0 := ebbtidelaw12_Read.mono_l k
  ·intro y0 y1 y2 y3 y4 y5 y6 y7 y8 y9 y10
   unfold ebbtidelaw12_Read.l0
   repeat' first
   | (with_reducible exact ih0 _ _ _ _ _ _ _ _ _ _ _)
   | (with_reducible exact LeO.refl _)
   | (with_reducible exact LeO.none _)
   | (with_reducible refine LeO.ite ?_ ?_)
   | (with_reducible refine LeO.bind ?_ (fun _ => ?_))
   | exact ih0 _ _ _ _ _ _ _ _ _ _ _
   | exact LeO.none _
   | refine LeO.ite ?_ ?_
   | refine LeO.bind ?_ (fun _ => ?_)
theorem ebbtidelaw12_Read.mono : ∀ a0 a1 a2 a3 a4 a5 a6 k, LeO (ebbtidelaw12_Read.f k a0 a1 a2 a3 a4 a5 a6) (ebbtidelaw12_Read.f (k + 1) a0 a1 a2 a3 a4 a5 a6) := by
 intro a0 a1 a2 a3 a4 a5 a6 k
 have ih0 := ebbtidelaw12_Read.mono_l k
 unfold ebbtidelaw12_Read.f
 repeat' first
   | (with_reducible exact ih0 _ _ _ _ _ _ _ _ _ _ _)
   | (with_reducible exact LeO.refl _)
   | (with_reducible exact LeO.none _)
   | (with_reducible refine LeO.ite ?_ ?_)
   | (with_reducible refine LeO.bind ?_ (fun _ => ?_))
   | exact ih0 _ _ _ _ _ _ _ _ _ _ _
   | exact LeO.none _
   | refine LeO.ite ?_ ?_
   | refine LeO.bind ?_ (fun _ => ?_)
def ebbtidelaw12_Read.T6 : Bool × List (List Nat × List Nat) := (true, [([], []), ([0], [0]), ([], []), ([2], [2]), ([3], [3]), ([], []), ([5], [5]), ([4, 6], [4, 6]), ([], []), ([8], [8]), ([9], [9]), ([], []), ([11], [11]), ([10, 12], [10, 12]), ([], []), ([14], [14]), ([15], [15]), ([16], [16]), ([], []), ([18], [18]), ([19], [19]), ([20], [20]), ([7, 13, 17, 21], [7, 13, 17, 21]), ([22], [22]), ([1, 23], [1, 23]), ([0, 1, 2, 3, 4, 5, 6, 7, 8, 9, 10, 11, 12, 13, 14, 15, 16, 17, 18, 19, 20, 21, 22, 23, 24], []), ([25, 24, 24, 0, 1, 2, 3, 4, 5, 6, 7, 8, 9, 10, 11, 12, 13, 14, 15, 16, 17, 18, 19, 20, 21, 22, 23, 24], [24, 25])])
def ebbtidelaw12_Read.B6 : List Nat := [0, 1, 0, 4, 12, 0, 32, 124, 0, 256, 768, 0, 2048, 7936, 0, 16384, 49152, 114688, 0, 262144, 786432, 1835008, 4194300, 8388604, 16777215, 33554431, 67108863]
theorem ebbtidelaw12_Read.tab6 : rtab .any (opsOf Try.f17 6) = ebbtidelaw12_Read.T6 := by kernel_rfl
theorem ebbtidelaw12_Read.bits6 : waitsOk ebbtidelaw12_Read.T6.2 ebbtidelaw12_Read.B6 = true := by kernel_rfl
def ebbtidelaw12_Read.T8 : Bool × List (List Nat × List Nat) := (true, [([], []), ([0], [0]), ([], []), ([2], [2]), ([3], [3]), ([], []), ([5], [5]), ([6], [6]), ([4, 7], [4, 7]), ([1, 8], [1, 8]), ([], []), ([10], [10]), ([9, 11], [9, 11]), ([12, 0, 1, 2, 3, 4, 5, 6, 7, 8, 9, 10, 11, 12], [12])])
def ebbtidelaw12_Read.B8 : List Nat := [0, 1, 0, 4, 12, 0, 32, 96, 252, 511, 0, 1024, 4095, 8191]
theorem ebbtidelaw12_Read.tab8 : rtab .any (opsOf Try.f17 8) = ebbtidelaw12_Read.T8 := by kernel_rfl
theorem ebbtidelaw12_Read.bits8 : waitsOk ebbtidelaw12_Read.T8.2 ebbtidelaw12_Read.B8 = true := by kernel_rfl
def ebbtidelaw12_Read.T9 : Bool × List (List Nat × List Nat) := (true, [([], []), ([], []), ([], []), ([], []), ([3], [3]), ([4], [4]), ([5], [5]), ([0, 0], [0]), ([1, 7, 0, 1, 7], [1]), ([2, 8, 0, 1, 2, 7, 8], [2]), ([6, 9, 0, 1, 2, 3, 4, 5, 6, 7, 8, 9], [6])])
def ebbtidelaw12_Read.B9 : List Nat := [0, 0, 0, 0, 8, 24, 56, 1, 131, 391, 1023]
theorem ebbtidelaw12_Read.tab9 : rtab .any (opsOf Try.f17 9) = ebbtidelaw12_Read.T9 := by kernel_rfl
theorem ebbtidelaw12_Read.bits9 : waitsOk ebbtidelaw12_Read.T9.2 ebbtidelaw12_Read.B9 = true := by kernel_rfl
set_option maxHeartbeats 8000000 in
set_option maxRecDepth 100000 in
theorem ebbtidelaw12_Read.calls (k : Nat) (a0_0 : Int) (a0_1 : Bool) (A0_2 : Option Addr) (c0_2 : Nat) (l0_2 : List (S79)) (a0_3 : Int) (a0_4 : Int) (a0_5 : Int) (a1 : Int) (r1 : Int) (r2 : Bool) (r3 : List (S69)) (r4 : Int) (r5 : Int) (r6 : Int) (w : World) (hr0_2 : Kd.C k79 w A0_2 l0_2.length l0_2) (hc0_2 : l0_2.length ≤ c0_2) (h : ebbtidelaw12_Read.f k a0_0 a0_1 l0_2 a0_3 a0_4 a0_5 a1 = some (r1, r2, r3, r4, r5, r6)) :
  Calls Try.prog 17 #[.agg #[.int .u8 a0_0, .bool a0_1, .slice A0_2 l0_2.length c0_2, .int .u8 a0_3, .int .u8 a0_4, .int .u8 a0_5], .int .i64 a1] w fun e w' => ∃ v2_ : Value, e = .returned (.tuple #[.agg #[.int .i64 r1, .bool r2, v2_], .int .i64 r4, .int .i64 r5, .int .i64 r6]) ∧ Kd.R k69 69 w' w.heap.size (fun _ => True) v2_ r3 ∧ Below w.heap.size w w' := by
 have hu38 := Try.underlying38
 have hu24 := Try.underlying24
 have hu79 := Try.underlying79
 have hu69 := Try.underlying69
 have HR0_2 := Aside0.mk hr0_2
 have HC0_2 := Aside0.mk hc0_2
 clear hr0_2 hc0_2
 have HB := Aside0.mk (Below.refl w.heap.size w)
 have H : (ebbtidelaw12_Read.l0 k a1 0 a0_0 a0_1 l0_2 a0_3 a0_4 a0_5 (wrap64 (2 + (Int.tmod (wrap64 (a0_0)) 4))) a0_1 ([] : List (S69))) = some (r1, r2, r3, r4, r5, r6) := h
 clear h
 have H' := Aside0.mk H
 clear H
 go_enter Try.func17, Try.ntmps17
 go_wp2_with (first | ((with_reducible refine gate_dst (N := 2) rfl ?_); refine box_event ?hg (N := 2) ?hd (cs := #[.int .u8 a0_0, .bool a0_1, .slice A0_2 l0_2.length c0_2, .int .u8 a0_3, .int .u8 a0_4, .int .u8 a0_5]) (t := 38) ?hr ?_; (case hd => rfl); (case hg => rfl); (case hr => first | (go_simp; done) | (go_simp; rfl)); intro gb249 hg w3 hbox hb; have n0_ := Aside0.mk (below_step (by repeat (first | (with_reducible first | exact HB.out | apply below_alloc | apply pw_below_drewN | apply below_drew1) | exact HB.out)) hb); have n1_ := Aside0.mk (hbox); have n2_ := Aside0.mk ((by rw [hg]; exact (below_size (by repeat (first | (with_reducible first | exact HB.out | apply below_alloc | apply pw_below_drewN | apply below_drew1) | exact HB.out))) : w.heap.size ≤ gb249)); have n3_ := Aside0.mk ((by rw [hg]; exact (below_size (by repeat (first | (with_reducible first | exact HB.out | apply below_alloc | apply pw_below_drewN | apply below_drew1) | exact HB.out))) : w.heap.size ≤ gb249)); clear HB; have HB := n0_; have BK249 := n1_; have GW249 := n2_; have GE249 := n3_; clear n0_ n1_ n2_ n3_; clear hb hbox hg) | ((with_reducible refine gate_dst (N := 4) rfl ?_); refine box_event ?hg (N := 4) ?hd (cs := #[.int .i64 0, .bool false, .slice none 0 0]) (t := 24) ?hr ?_; (case hd => rfl); (case hg => rfl); (case hr => first | (go_simp; done) | (go_simp; rfl)); intro gb250 hg w4 hbox hb; have n0_ := Aside0.mk (blk_below (g := gb249) (o := .cells #[.int .u8 a0_0, .bool a0_1, .slice A0_2 l0_2.length c0_2, .int .u8 a0_3, .int .u8 a0_4, .int .u8 a0_5] 38 (0, 0)) (by (with_reducible repeat (first | refine blk_drewN ?_ _ | refine blk_drew ?_ | refine blk_alloc ?_ _)); exact BK249.out) hb); have n1_ := Aside0.mk (below_step (by repeat (first | (with_reducible first | exact HB.out | apply below_alloc | apply pw_below_drewN | apply below_drew1 | refine below_set ?_ GE249.out) | exact HB.out)) hb); have n2_ := Aside0.mk (hbox); have n3_ := Aside0.mk ((by rw [hg]; exact (below_size (by repeat (first | (with_reducible first | exact HB.out | apply below_alloc | apply pw_below_drewN | apply below_drew1 | refine below_set ?_ GE249.out) | exact HB.out))) : w.heap.size ≤ gb250)); have n4_ := Aside0.mk ((by rw [hg]; exact (below_size (by repeat (first | (with_reducible first | exact HB.out | apply below_alloc | apply pw_below_drewN | apply below_drew1 | refine below_set ?_ GE249.out) | exact HB.out))) : w.heap.size ≤ gb250)); have n5_ := Aside0.mk ((by rw [hg]; exact Nat.ne_of_lt (blk_lt (g := gb249) (o := .cells #[.int .u8 a0_0, .bool a0_1, .slice A0_2 l0_2.length c0_2, .int .u8 a0_3, .int .u8 a0_4, .int .u8 a0_5] 38 (0, 0)) (by (with_reducible repeat (first | refine blk_drewN ?_ _ | refine blk_drew ?_ | refine blk_alloc ?_ _)); exact BK249.out)) : gb249 ≠ gb250)); have n6_ := Aside0.mk ((by rw [hg]; exact Nat.ne_of_gt (blk_lt (g := gb249) (o := .cells #[.int .u8 a0_0, .bool a0_1, .slice A0_2 l0_2.length c0_2, .int .u8 a0_3, .int .u8 a0_4, .int .u8 a0_5] 38 (0, 0)) (by (with_reducible repeat (first | refine blk_drewN ?_ _ | refine blk_drew ?_ | refine blk_alloc ?_ _)); exact BK249.out)) : gb250 ≠ gb249)); clear BK249; clear HB; have BK249 := n0_; have HB := n1_; have BK250 := n2_; have GW250 := n3_; have GE250 := n4_; have NB249_250 := n5_; have NB250_249 := n6_; clear n0_ n1_ n2_ n3_ n4_ n5_ n6_; clear hb hbox hg; have hnb5 := NB249_250.out; have hnc5 := NB250_249.out; have hcz6_0 : w4.cell? ⟨gb249, 0, none⟩ = some (.int .u8 a0_0) := (blk_cell BK249.out 0).trans rfl; have hcz6_1 : w4.cell? ⟨gb249, 1, none⟩ = some (.bool a0_1) := (blk_cell BK249.out 1).trans rfl; have hcz6_2 : w4.cell? ⟨gb249, 2, none⟩ = some (.slice A0_2 l0_2.length c0_2) := (blk_cell BK249.out 2).trans rfl; have hcz6_3 : w4.cell? ⟨gb249, 3, none⟩ = some (.int .u8 a0_3) := (blk_cell BK249.out 3).trans rfl; have hcz6_4 : w4.cell? ⟨gb249, 4, none⟩ = some (.int .u8 a0_4) := (blk_cell BK249.out 4).trans rfl; have hcz6_5 : w4.cell? ⟨gb249, 5, none⟩ = some (.int .u8 a0_5) := (blk_cell BK249.out 5).trans rfl; have hfz6_0 := blk_frozen BK249.out 0; have hfz6_1 := blk_frozen BK249.out 1; have hfz6_2 := blk_frozen BK249.out 2; have hfz6_3 := blk_frozen BK249.out 3; have hfz6_4 := blk_frozen BK249.out 4; have hfz6_5 := blk_frozen BK249.out 5) | ((with_reducible refine gate_dst (N := 8) rfl ?_); refine box_event ?hg (N := 8) ?hd (cs := #[.int .i64 0, .bool false, .slice none 0 0]) (t := 24) ?hr ?_; (case hd => rfl); (case hg => rfl); (case hr => first | (go_simp; done) | (go_simp; rfl)); intro gb251 hg w7 hbox hb; have n0_ := Aside0.mk (blk_below (g := gb249) (o := .cells #[.int .u8 a0_0, .bool a0_1, .slice A0_2 l0_2.length c0_2, .int .u8 a0_3, .int .u8 a0_4, .int .u8 a0_5] 38 (0, 0)) (by (with_reducible repeat (first | refine blk_drewN ?_ _ | refine blk_drew ?_ | refine blk_alloc ?_ _)); exact BK249.out) hb); have n1_ := Aside0.mk (blk_below (g := gb250) (o := .cells #[.int .i64 0, .bool false, .slice none 0 0] 24 (0, 0)) (by (with_reducible repeat (first | refine blk_drewN ?_ _ | refine blk_drew ?_ | refine blk_alloc ?_ _)); exact BK250.out) hb); have n2_ := Aside0.mk (below_step (by repeat (first | (with_reducible first | exact HB.out | apply below_alloc | apply pw_below_drewN | apply below_drew1 | refine below_set ?_ GE249.out | refine below_set ?_ GE250.out) | exact HB.out)) hb); have n3_ := Aside0.mk (hbox); have n4_ := Aside0.mk ((by rw [hg]; exact (below_size (by repeat (first | (with_reducible first | exact HB.out | apply below_alloc | apply pw_below_drewN | apply below_drew1 | refine below_set ?_ GE249.out | refine below_set ?_ GE250.out) | exact HB.out))) : w.heap.size ≤ gb251)); have n5_ := Aside0.mk ((by rw [hg]; exact (below_size (by repeat (first | (with_reducible first | exact HB.out | apply below_alloc | apply pw_below_drewN | apply below_drew1 | refine below_set ?_ GE249.out | refine below_set ?_ GE250.out) | exact HB.out))) : w.heap.size ≤ gb251)); have n6_ := Aside0.mk ((by rw [hg]; exact Nat.ne_of_lt (blk_lt (g := gb249) (o := .cells #[.int .u8 a0_0, .bool a0_1, .slice A0_2 l0_2.length c0_2, .int .u8 a0_3, .int .u8 a0_4, .int .u8 a0_5] 38 (0, 0)) (by (with_reducible repeat (first | refine blk_drewN ?_ _ | refine blk_drew ?_ | refine blk_alloc ?_ _)); exact BK249.out)) : gb249 ≠ gb251)); have n7_ := Aside0.mk ((by rw [hg]; exact Nat.ne_of_gt (blk_lt (g := gb249) (o := .cells #[.int .u8 a0_0, .bool a0_1, .slice A0_2 l0_2.length c0_2, .int .u8 a0_3, .int .u8 a0_4, .int .u8 a0_5] 38 (0, 0)) (by (with_reducible repeat (first | refine blk_drewN ?_ _ | refine blk_drew ?_ | refine blk_alloc ?_ _)); exact BK249.out)) : gb251 ≠ gb249)); have n8_ := Aside0.mk ((by rw [hg]; exact Nat.ne_of_lt (blk_lt (g := gb250) (o := .cells #[.int .i64 0, .bool false, .slice none 0 0] 24 (0, 0)) (by (with_reducible repeat (first | refine blk_drewN ?_ _ | refine blk_drew ?_ | refine blk_alloc ?_ _)); exact BK250.out)) : gb250 ≠ gb251)); have n9_ := Aside0.mk ((by rw [hg]; exact Nat.ne_of_gt (blk_lt (g := gb250) (o := .cells #[.int .i64 0, .bool false, .slice none 0 0] 24 (0, 0)) (by (with_reducible repeat (first | refine blk_drewN ?_ _ | refine blk_drew ?_ | refine blk_alloc ?_ _)); exact BK250.out)) : gb251 ≠ gb250)); clear BK249; clear BK250; clear HB; have BK249 := n0_; have BK250 := n1_; have HB := n2_; have BK251 := n3_; have GW251 := n4_; have GE251 := n5_; have NB249_251 := n6_; have NB251_249 := n7_; have NB250_251 := n8_; have NB251_250 := n9_; clear n0_ n1_ n2_ n3_ n4_ n5_ n6_ n7_ n8_ n9_; clear hb hbox hg; have hnb8 := NB251_249.out; have hnc8 := NB249_251.out; have hnb9 := NB251_250.out; have hnc9 := NB250_251.out; have hcz10_0 : w7.cell? ⟨gb251, 0, none⟩ = some (.int .i64 0) := (blk_cell BK251.out 0).trans rfl; have hcz10_1 : w7.cell? ⟨gb251, 1, none⟩ = some (.bool false) := (blk_cell BK251.out 1).trans rfl; have hcz10_2 : w7.cell? ⟨gb251, 2, none⟩ = some (.slice none 0 0) := (blk_cell BK251.out 2).trans rfl; have hfz10_0 := blk_frozen BK251.out 0; have hfz10_1 := blk_frozen BK251.out 1; have hfz10_2 := blk_frozen BK251.out 2))
 go_loopg [9] k (fun kq v9 w' => ∃ (x9_1 : Int) (x252002_1 : List (S69)) (u252002 : Value), v9 = .int .i64 x9_1 ∧ Aside0 (ebbtidelaw12_Read.l0 kq a1 x9_1 a0_0 a0_1 l0_2 a0_3 a0_4 a0_5 (wrap64 (2 + (Int.tmod (wrap64 (a0_0)) 4))) a0_1 x252002_1 = some (r1, r2, r3, r4, r5, r6)) ∧ Aside0 (kq ≤ k) ∧ Aside0 (Kd.R k69 69 w' w.heap.size (fun _ => True) u252002 x252002_1) ∧ Aside0 (w'.heap[gb249]? = some (.cells #[.int .u8 a0_0, .bool a0_1, (.slice A0_2 l0_2.length c0_2), .int .u8 a0_3, .int .u8 a0_4, .int .u8 a0_5] 38 (0, 0))) ∧ Aside0 (w'.heap[gb250]? = some (.cells #[.int .i64 0, .bool false, (.slice none 0 0)] 24 (0, 0))) ∧ Aside0 (w'.heap[gb251]? = some (.cells #[.int .i64 (wrap64 (2 + (Int.tmod (wrap64 (a0_0)) 4))), .bool a0_1, u252002] 24 (0, 0))) ∧ Aside0 (Below w.heap.size w w'))
 case atStart => exact ⟨(0), (([] : List (S69))), (.slice none 0 0), (by first | rfl | (simp; done) | (simp [*]; done)), H', ⟨Nat.le_refl _⟩, ⟨by first | exact Kd.R_nil _ _ _ _ _ | exact Kd.N_nil _ _ _ _ _ | exact Kd.V_nil _ _ _ _ _ | exact Kd.Q_nil _ _ _ _ _ | exact Kd.S_nil _ _ _ _ _⟩, ⟨by (with_reducible repeat (first | refine blk_drewN ?_ _ | refine blk_drew ?_ | refine blk_alloc ?_ _)); refine blk_far ?_ NB249_251.out _; (with_reducible repeat (first | refine blk_drewN ?_ _ | refine blk_drew ?_ | refine blk_alloc ?_ _)); refine blk_far ?_ NB249_251.out _; (with_reducible repeat (first | refine blk_drewN ?_ _ | refine blk_drew ?_ | refine blk_alloc ?_ _)); refine blk_far ?_ NB249_251.out _; (with_reducible repeat (first | refine blk_drewN ?_ _ | refine blk_drew ?_ | refine blk_alloc ?_ _)); exact BK249.out⟩, ⟨by (with_reducible repeat (first | refine blk_drewN ?_ _ | refine blk_drew ?_ | refine blk_alloc ?_ _)); refine blk_far ?_ NB250_251.out _; (with_reducible repeat (first | refine blk_drewN ?_ _ | refine blk_drew ?_ | refine blk_alloc ?_ _)); refine blk_far ?_ NB250_251.out _; (with_reducible repeat (first | refine blk_drewN ?_ _ | refine blk_drew ?_ | refine blk_alloc ?_ _)); refine blk_far ?_ NB250_251.out _; (with_reducible repeat (first | refine blk_drewN ?_ _ | refine blk_drew ?_ | refine blk_alloc ?_ _)); exact BK250.out⟩, ⟨by (with_reducible repeat (first | refine blk_drewN ?_ _ | refine blk_drew ?_ | refine blk_alloc ?_ _)); refine blk_put (cs := #[.int .i64 (wrap64 (2 + (Int.tmod (wrap64 (a0_0)) 4))), .bool a0_1, .slice none 0 0]) ?_ 2 _ rfl; (with_reducible repeat (first | refine blk_drewN ?_ _ | refine blk_drew ?_ | refine blk_alloc ?_ _)); refine blk_put (cs := #[.int .i64 (wrap64 (2 + (Int.tmod (wrap64 (a0_0)) 4))), .bool false, .slice none 0 0]) ?_ 1 _ rfl; (with_reducible repeat (first | refine blk_drewN ?_ _ | refine blk_drew ?_ | refine blk_alloc ?_ _)); refine blk_put (cs := #[.int .i64 0, .bool false, .slice none 0 0]) ?_ 0 _ rfl; (with_reducible repeat (first | refine blk_drewN ?_ _ | refine blk_drew ?_ | refine blk_alloc ?_ _)); exact BK251.out⟩, ⟨by repeat (first | (with_reducible first | exact HB.out | apply below_alloc | apply pw_below_drewN | apply below_drew1 | refine below_set ?_ GE249.out | refine below_set ?_ GE250.out | refine below_set ?_ GE251.out) | exact HB.out)⟩⟩
 case round =>
  clear H'
  try clear c1
  try clear p2
  try clear c5
  try clear p6
  try clear c8
  try clear c9
  try clear hcz10_0
  try clear hcz10_1
  try clear hcz10_2
  try clear hcz6_0
  try clear hcz6_1
  try clear hcz6_2
  try clear hcz6_3
  try clear hcz6_4
  try clear hcz6_5
  try clear hfz10_0
  try clear hfz10_1
  try clear hfz10_2
  try clear hfz6_0
  try clear hfz6_1
  try clear hfz6_2
  try clear hfz6_3
  try clear hfz6_4
  try clear hfz6_5
  obtain ⟨x9_1, x252002_1, u252002, rfl, HA, HK1, HO_252002, BK249, BK250, BK251, HB⟩ := hrel
  cases gk with
  | zero => exact absurd HA.out (by simp [ebbtidelaw12_Read.l0])
  | succ k1 =>
   have H := HA.out
   clear HA
   simp only [ebbtidelaw12_Read.l0] at H
   by_cases c11 : x9_1 < (l0_2.length : Int)
   ·rw [if_pos c11] at H
    have c11b0 : decide (x9_1 < (l0_2.length : Int)) = true := decide_eq_true c11
    clear c11
    by_cases c12 : x9_1 < a1
    ·rw [if_pos c12] at H
     have c12b0 : decide (x9_1 < a1) = true := decide_eq_true c12
     clear c12
     by_cases c13 : 0 ≤ x9_1
     ·rw [if_pos c13] at H
      have c13b0 : decide (0 ≤ x9_1) = true := decide_eq_true c13
      clear c13
      by_cases c14 : (wrap64 (2 + (Int.tmod (wrap64 (a0_0)) 4))) = 0
      ·rw [if_pos c14] at H
       exact absurd H (by simp)
      ·rw [if_neg c14] at H
       have c14b0 : ((wrap64 (2 + (Int.tmod (wrap64 (a0_0)) 4))) == 0) = false := beq_eq_false_iff_ne.mpr c14
       have c14b1 : ((wrap64 (2 + (Int.tmod (wrap64 (a0_0)) 4))) != 0) = true := bne_iff_ne.mpr c14
       by_cases c15 : x252002_1.length < 4398046511104
       ·rw [if_pos c15] at H
        have LMc15 := Aside0.mk c15
        clear c15
        obtain ⟨y254, hy254⟩ : ∃ y_ : List (S69), y_ = (x252002_1 ++ [(⟨Int.tmod (wrap64 ((rd_T79 l0_2 x9_1).f0)) (wrap64 (2 + (Int.tmod (wrap64 (a0_0)) 4))), Int.tmod (wrap64 ((rd_T79 l0_2 x9_1).f1)) (wrap64 (2 + (Int.tmod (wrap64 (a0_0)) 4))), Int.tmod (wrap64 ((rd_T79 l0_2 x9_1).f2)) 6, Int.tmod (wrap64 ((rd_T79 l0_2 x9_1).f3)) 4⟩ : S69)]) := ⟨_, rfl⟩
        replace H : (ebbtidelaw12_Read.l0 k1 a1 (wrap64 (x9_1 + 1)) a0_0 a0_1 l0_2 a0_3 a0_4 a0_5 (wrap64 (2 + (Int.tmod (wrap64 (a0_0)) 4))) a0_1 y254) = some (r1, r2, r3, r4, r5, r6) := by first | (rw [hy254]; with_reducible exact H) | (have H2_ := (Option.bind_some _ _).symm.trans H; rw [hy254]; with_reducible exact H2_) | (have H2_ := (Option.bind_some _ _).symm.trans H; with_reducible exact H2_) | with_reducible exact H | (rw [hy254]; exact H) | exact H
        have Ny254 := Aside0.mk hy254
        clear hy254
        have H' := Aside0.mk H
        clear H
        have hnb16 := NB249_250.out
        have hnc16 := NB250_249.out
        have hnb17 := NB249_251.out
        have hnc17 := NB251_249.out
        have hcz18_0 : wr.cell? ⟨gb249, 0, none⟩ = some (.int .u8 a0_0) := (blk_cell BK249.out 0).trans rfl
        have hcz18_1 : wr.cell? ⟨gb249, 1, none⟩ = some (.bool a0_1) := (blk_cell BK249.out 1).trans rfl
        have hcz18_2 : wr.cell? ⟨gb249, 2, none⟩ = some (.slice A0_2 l0_2.length c0_2) := (blk_cell BK249.out 2).trans rfl
        have hcz18_3 : wr.cell? ⟨gb249, 3, none⟩ = some (.int .u8 a0_3) := (blk_cell BK249.out 3).trans rfl
        have hcz18_4 : wr.cell? ⟨gb249, 4, none⟩ = some (.int .u8 a0_4) := (blk_cell BK249.out 4).trans rfl
        have hcz18_5 : wr.cell? ⟨gb249, 5, none⟩ = some (.int .u8 a0_5) := (blk_cell BK249.out 5).trans rfl
        have hfz18_0 := blk_frozen BK249.out 0
        have hfz18_1 := blk_frozen BK249.out 1
        have hfz18_2 := blk_frozen BK249.out 2
        have hfz18_3 := blk_frozen BK249.out 3
        have hfz18_4 := blk_frozen BK249.out 4
        have hfz18_5 := blk_frozen BK249.out 5
        have p252 : 0 ≤ (x9_1 : Int) := of_decide_eq_true (by first | (with_reducible assumption) | assumption)
        have q252 : x9_1 < (l0_2.length : Int) := of_decide_eq_true (by first | (with_reducible assumption) | assumption)
        obtain ⟨ad252, e252, hx252_0, hx252_1, hx252_2, hx252_3⟩ := at_T79 HR0_2.out x9_1 p252 q252
        cases e252
        replace hx252_0 := (HB.out.cell (World.block_lt_of_cell? w _ hx252_0)).trans hx252_0
        replace hx252_1 := (HB.out.cell (World.block_lt_of_cell? w _ hx252_1)).trans hx252_1
        replace hx252_2 := (HB.out.cell (World.block_lt_of_cell? w _ hx252_2)).trans hx252_2
        replace hx252_3 := (HB.out.cell (World.block_lt_of_cell? w _ hx252_3)).trans hx252_3
        replace p252 := eq_true p252
        replace q252 := eq_true q252
        try go_wp2_with (first | ((with_reducible refine gate_dst (N := 10) rfl ?_); refine box_event ?hg (N := 10) ?hd (cs := #[.int .u8 0, .int .u8 0, .int .u8 0, .int .u8 0]) (t := 79) ?hr ?_; (case hd => rfl); (case hg => rfl); (case hr => first | (go_simp; done) | (go_simp; rfl)); intro gb253 hg w19 hbox hb; have n0_ := Aside0.mk (Kd.R_below (by (with_reducible repeat (first | apply Kd.R_alloc | apply Kd.R_drewN | apply Kd.R_drew)); exact HO_252002.out) hb); have n1_ := Aside0.mk (blk_below (g := gb249) (o := .cells #[.int .u8 a0_0, .bool a0_1, .slice (some ad252) l0_2.length c0_2, .int .u8 a0_3, .int .u8 a0_4, .int .u8 a0_5] 38 (0, 0)) (by (with_reducible repeat (first | refine blk_drewN ?_ _ | refine blk_drew ?_ | refine blk_alloc ?_ _)); exact BK249.out) hb); have n2_ := Aside0.mk (blk_below (g := gb250) (o := .cells #[.int .i64 0, .bool false, .slice none 0 0] 24 (0, 0)) (by (with_reducible repeat (first | refine blk_drewN ?_ _ | refine blk_drew ?_ | refine blk_alloc ?_ _)); exact BK250.out) hb); have n3_ := Aside0.mk (blk_below (g := gb251) (o := .cells #[.int .i64 (wrap64 (2 + (Int.tmod (wrap64 (a0_0)) 4))), .bool a0_1, u252002] 24 (0, 0)) (by (with_reducible repeat (first | refine blk_drewN ?_ _ | refine blk_drew ?_ | refine blk_alloc ?_ _)); exact BK251.out) hb); have n4_ := Aside0.mk (below_step (by repeat (first | (with_reducible first | exact HB.out | apply below_alloc | apply pw_below_drewN | apply below_drew1 | refine below_set ?_ GE249.out | refine below_set ?_ GE250.out | refine below_set ?_ GE251.out) | exact HB.out)) hb); have n5_ := Aside0.mk (hbox); have n6_ := Aside0.mk ((by rw [hg]; exact (below_size (by repeat (first | (with_reducible first | exact HB.out | apply below_alloc | apply pw_below_drewN | apply below_drew1 | refine below_set ?_ GE249.out | refine below_set ?_ GE250.out | refine below_set ?_ GE251.out) | exact HB.out))) : w.heap.size ≤ gb253)); have n7_ := Aside0.mk ((by rw [hg]; exact (below_size (by repeat (first | (with_reducible first | exact HB.out | apply below_alloc | apply pw_below_drewN | apply below_drew1 | refine below_set ?_ GE249.out | refine below_set ?_ GE250.out | refine below_set ?_ GE251.out) | exact HB.out))) : w.heap.size ≤ gb253)); have n8_ := Aside0.mk ((by rw [hg]; exact Nat.ne_of_lt (blk_lt (g := gb249) (o := .cells #[.int .u8 a0_0, .bool a0_1, .slice (some ad252) l0_2.length c0_2, .int .u8 a0_3, .int .u8 a0_4, .int .u8 a0_5] 38 (0, 0)) (by (with_reducible repeat (first | refine blk_drewN ?_ _ | refine blk_drew ?_ | refine blk_alloc ?_ _)); exact BK249.out)) : gb249 ≠ gb253)); have n9_ := Aside0.mk ((by rw [hg]; exact Nat.ne_of_gt (blk_lt (g := gb249) (o := .cells #[.int .u8 a0_0, .bool a0_1, .slice (some ad252) l0_2.length c0_2, .int .u8 a0_3, .int .u8 a0_4, .int .u8 a0_5] 38 (0, 0)) (by (with_reducible repeat (first | refine blk_drewN ?_ _ | refine blk_drew ?_ | refine blk_alloc ?_ _)); exact BK249.out)) : gb253 ≠ gb249)); have n10_ := Aside0.mk ((by rw [hg]; exact Nat.ne_of_lt (blk_lt (g := gb250) (o := .cells #[.int .i64 0, .bool false, .slice none 0 0] 24 (0, 0)) (by (with_reducible repeat (first | refine blk_drewN ?_ _ | refine blk_drew ?_ | refine blk_alloc ?_ _)); exact BK250.out)) : gb250 ≠ gb253)); have n11_ := Aside0.mk ((by rw [hg]; exact Nat.ne_of_gt (blk_lt (g := gb250) (o := .cells #[.int .i64 0, .bool false, .slice none 0 0] 24 (0, 0)) (by (with_reducible repeat (first | refine blk_drewN ?_ _ | refine blk_drew ?_ | refine blk_alloc ?_ _)); exact BK250.out)) : gb253 ≠ gb250)); have n12_ := Aside0.mk ((by rw [hg]; exact Nat.ne_of_lt (blk_lt (g := gb251) (o := .cells #[.int .i64 (wrap64 (2 + (Int.tmod (wrap64 (a0_0)) 4))), .bool a0_1, u252002] 24 (0, 0)) (by (with_reducible repeat (first | refine blk_drewN ?_ _ | refine blk_drew ?_ | refine blk_alloc ?_ _)); exact BK251.out)) : gb251 ≠ gb253)); have n13_ := Aside0.mk ((by rw [hg]; exact Nat.ne_of_gt (blk_lt (g := gb251) (o := .cells #[.int .i64 (wrap64 (2 + (Int.tmod (wrap64 (a0_0)) 4))), .bool a0_1, u252002] 24 (0, 0)) (by (with_reducible repeat (first | refine blk_drewN ?_ _ | refine blk_drew ?_ | refine blk_alloc ?_ _)); exact BK251.out)) : gb253 ≠ gb251)); clear HO_252002; clear BK249; clear BK250; clear BK251; clear HB; have HO_252002 := n0_; have BK249 := n1_; have BK250 := n2_; have BK251 := n3_; have HB := n4_; have BK253 := n5_; have GW253 := n6_; have GE253 := n7_; have NB249_253 := n8_; have NB253_249 := n9_; have NB250_253 := n10_; have NB253_250 := n11_; have NB251_253 := n12_; have NB253_251 := n13_; clear n0_ n1_ n2_ n3_ n4_ n5_ n6_ n7_ n8_ n9_ n10_ n11_ n12_ n13_; clear hb hbox hg; have hnb20 := NB253_249.out; have hnc20 := NB249_253.out; have hnb21 := NB253_250.out; have hnc21 := NB250_253.out; have hnb22 := NB253_251.out; have hnc22 := NB251_253.out; have hcz23_0 : w19.cell? ⟨gb253, 0, none⟩ = some (.int .u8 0) := (blk_cell BK253.out 0).trans rfl; have hcz23_1 : w19.cell? ⟨gb253, 1, none⟩ = some (.int .u8 0) := (blk_cell BK253.out 1).trans rfl; have hcz23_2 : w19.cell? ⟨gb253, 2, none⟩ = some (.int .u8 0) := (blk_cell BK253.out 2).trans rfl; have hcz23_3 : w19.cell? ⟨gb253, 3, none⟩ = some (.int .u8 0) := (blk_cell BK253.out 3).trans rfl; have hfz23_0 := blk_frozen BK253.out 0; have hfz23_1 := blk_frozen BK253.out 1; have hfz23_2 := blk_frozen BK253.out 2; have hfz23_3 := blk_frozen BK253.out 3))
        have n0_ : Aside0 (Kd.R k69 69 ((((w19.setCell ⟨gb253, 0, none⟩ (.int .u8 ((rd_T79 l0_2 x9_1).f0))).setCell ⟨gb253, 1, none⟩ (.int .u8 ((rd_T79 l0_2 x9_1).f1))).setCell ⟨gb253, 2, none⟩ (.int .u8 ((rd_T79 l0_2 x9_1).f2))).setCell ⟨gb253, 3, none⟩ (.int .u8 ((rd_T79 l0_2 x9_1).f3))) w.heap.size (fun _ => True) u252002 x252002_1) := ⟨by (with_reducible repeat (first | apply Kd.R_alloc | apply Kd.R_drewN | apply Kd.R_drew)); exact Kd.R_mono (Kd.R_far (p := ⟨gb253, 3, none⟩) (Kd.R_far (p := ⟨gb253, 2, none⟩) (Kd.R_far (p := ⟨gb253, 1, none⟩) (Kd.R_far (p := ⟨gb253, 0, none⟩) (Kd.R_types HO_252002.out BK253.out (by decide)) (fun _ hk => hk.2) (.int .u8 ((rd_T79 l0_2 x9_1).f0))) (fun _ hk => hk.2) (.int .u8 ((rd_T79 l0_2 x9_1).f1))) (fun _ hk => hk.2) (.int .u8 ((rd_T79 l0_2 x9_1).f2))) (fun _ hk => hk.2) (.int .u8 ((rd_T79 l0_2 x9_1).f3))) (fun _ hk => trivial)⟩
        have n1_ : Aside0 (((((w19.setCell ⟨gb253, 0, none⟩ (.int .u8 ((rd_T79 l0_2 x9_1).f0))).setCell ⟨gb253, 1, none⟩ (.int .u8 ((rd_T79 l0_2 x9_1).f1))).setCell ⟨gb253, 2, none⟩ (.int .u8 ((rd_T79 l0_2 x9_1).f2))).setCell ⟨gb253, 3, none⟩ (.int .u8 ((rd_T79 l0_2 x9_1).f3))).heap[gb249]? = some (.cells #[.int .u8 a0_0, .bool a0_1, .slice (some ad252) l0_2.length c0_2, .int .u8 a0_3, .int .u8 a0_4, .int .u8 a0_5] 38 (0, 0))) := ⟨by (with_reducible repeat (first | refine blk_drewN ?_ _ | refine blk_drew ?_ | refine blk_alloc ?_ _)); refine blk_far ?_ NB249_253.out _; (with_reducible repeat (first | refine blk_drewN ?_ _ | refine blk_drew ?_ | refine blk_alloc ?_ _)); refine blk_far ?_ NB249_253.out _; (with_reducible repeat (first | refine blk_drewN ?_ _ | refine blk_drew ?_ | refine blk_alloc ?_ _)); refine blk_far ?_ NB249_253.out _; (with_reducible repeat (first | refine blk_drewN ?_ _ | refine blk_drew ?_ | refine blk_alloc ?_ _)); refine blk_far ?_ NB249_253.out _; (with_reducible repeat (first | refine blk_drewN ?_ _ | refine blk_drew ?_ | refine blk_alloc ?_ _)); exact BK249.out⟩
        have n2_ : Aside0 (((((w19.setCell ⟨gb253, 0, none⟩ (.int .u8 ((rd_T79 l0_2 x9_1).f0))).setCell ⟨gb253, 1, none⟩ (.int .u8 ((rd_T79 l0_2 x9_1).f1))).setCell ⟨gb253, 2, none⟩ (.int .u8 ((rd_T79 l0_2 x9_1).f2))).setCell ⟨gb253, 3, none⟩ (.int .u8 ((rd_T79 l0_2 x9_1).f3))).heap[gb250]? = some (.cells #[.int .i64 0, .bool false, .slice none 0 0] 24 (0, 0))) := ⟨by (with_reducible repeat (first | refine blk_drewN ?_ _ | refine blk_drew ?_ | refine blk_alloc ?_ _)); refine blk_far ?_ NB250_253.out _; (with_reducible repeat (first | refine blk_drewN ?_ _ | refine blk_drew ?_ | refine blk_alloc ?_ _)); refine blk_far ?_ NB250_253.out _; (with_reducible repeat (first | refine blk_drewN ?_ _ | refine blk_drew ?_ | refine blk_alloc ?_ _)); refine blk_far ?_ NB250_253.out _; (with_reducible repeat (first | refine blk_drewN ?_ _ | refine blk_drew ?_ | refine blk_alloc ?_ _)); refine blk_far ?_ NB250_253.out _; (with_reducible repeat (first | refine blk_drewN ?_ _ | refine blk_drew ?_ | refine blk_alloc ?_ _)); exact BK250.out⟩
        have n3_ : Aside0 (((((w19.setCell ⟨gb253, 0, none⟩ (.int .u8 ((rd_T79 l0_2 x9_1).f0))).setCell ⟨gb253, 1, none⟩ (.int .u8 ((rd_T79 l0_2 x9_1).f1))).setCell ⟨gb253, 2, none⟩ (.int .u8 ((rd_T79 l0_2 x9_1).f2))).setCell ⟨gb253, 3, none⟩ (.int .u8 ((rd_T79 l0_2 x9_1).f3))).heap[gb251]? = some (.cells #[.int .i64 (wrap64 (2 + (Int.tmod (wrap64 (a0_0)) 4))), .bool a0_1, u252002] 24 (0, 0))) := ⟨by (with_reducible repeat (first | refine blk_drewN ?_ _ | refine blk_drew ?_ | refine blk_alloc ?_ _)); refine blk_far ?_ NB251_253.out _; (with_reducible repeat (first | refine blk_drewN ?_ _ | refine blk_drew ?_ | refine blk_alloc ?_ _)); refine blk_far ?_ NB251_253.out _; (with_reducible repeat (first | refine blk_drewN ?_ _ | refine blk_drew ?_ | refine blk_alloc ?_ _)); refine blk_far ?_ NB251_253.out _; (with_reducible repeat (first | refine blk_drewN ?_ _ | refine blk_drew ?_ | refine blk_alloc ?_ _)); refine blk_far ?_ NB251_253.out _; (with_reducible repeat (first | refine blk_drewN ?_ _ | refine blk_drew ?_ | refine blk_alloc ?_ _)); exact BK251.out⟩
        have n4_ : Aside0 (((((w19.setCell ⟨gb253, 0, none⟩ (.int .u8 ((rd_T79 l0_2 x9_1).f0))).setCell ⟨gb253, 1, none⟩ (.int .u8 ((rd_T79 l0_2 x9_1).f1))).setCell ⟨gb253, 2, none⟩ (.int .u8 ((rd_T79 l0_2 x9_1).f2))).setCell ⟨gb253, 3, none⟩ (.int .u8 ((rd_T79 l0_2 x9_1).f3))).heap[gb253]? = some (.cells #[.int .u8 ((rd_T79 l0_2 x9_1).f0), .int .u8 ((rd_T79 l0_2 x9_1).f1), .int .u8 ((rd_T79 l0_2 x9_1).f2), .int .u8 ((rd_T79 l0_2 x9_1).f3)] 79 (0, 0))) := ⟨by (with_reducible repeat (first | refine blk_drewN ?_ _ | refine blk_drew ?_ | refine blk_alloc ?_ _)); refine blk_put (cs := #[.int .u8 ((rd_T79 l0_2 x9_1).f0), .int .u8 ((rd_T79 l0_2 x9_1).f1), .int .u8 ((rd_T79 l0_2 x9_1).f2), .int .u8 0]) ?_ 3 _ rfl; (with_reducible repeat (first | refine blk_drewN ?_ _ | refine blk_drew ?_ | refine blk_alloc ?_ _)); refine blk_put (cs := #[.int .u8 ((rd_T79 l0_2 x9_1).f0), .int .u8 ((rd_T79 l0_2 x9_1).f1), .int .u8 0, .int .u8 0]) ?_ 2 _ rfl; (with_reducible repeat (first | refine blk_drewN ?_ _ | refine blk_drew ?_ | refine blk_alloc ?_ _)); refine blk_put (cs := #[.int .u8 ((rd_T79 l0_2 x9_1).f0), .int .u8 0, .int .u8 0, .int .u8 0]) ?_ 1 _ rfl; (with_reducible repeat (first | refine blk_drewN ?_ _ | refine blk_drew ?_ | refine blk_alloc ?_ _)); refine blk_put (cs := #[.int .u8 0, .int .u8 0, .int .u8 0, .int .u8 0]) ?_ 0 _ rfl; (with_reducible repeat (first | refine blk_drewN ?_ _ | refine blk_drew ?_ | refine blk_alloc ?_ _)); exact BK253.out⟩
        have n5_ : Aside0 (Below w.heap.size w ((((w19.setCell ⟨gb253, 0, none⟩ (.int .u8 ((rd_T79 l0_2 x9_1).f0))).setCell ⟨gb253, 1, none⟩ (.int .u8 ((rd_T79 l0_2 x9_1).f1))).setCell ⟨gb253, 2, none⟩ (.int .u8 ((rd_T79 l0_2 x9_1).f2))).setCell ⟨gb253, 3, none⟩ (.int .u8 ((rd_T79 l0_2 x9_1).f3)))) := ⟨by repeat (first | (with_reducible first | exact HB.out | apply below_alloc | apply pw_below_drewN | apply below_drew1 | refine below_set ?_ GE249.out | refine below_set ?_ GE250.out | refine below_set ?_ GE251.out | refine below_set ?_ GE253.out) | exact HB.out)⟩
        (try clear HO_252002)
        (try clear BK249)
        (try clear BK250)
        (try clear BK251)
        (try clear BK253)
        (try clear HB)
        generalize ((((w19.setCell ⟨gb253, 0, none⟩ (.int .u8 ((rd_T79 l0_2 x9_1).f0))).setCell ⟨gb253, 1, none⟩ (.int .u8 ((rd_T79 l0_2 x9_1).f1))).setCell ⟨gb253, 2, none⟩ (.int .u8 ((rd_T79 l0_2 x9_1).f2))).setCell ⟨gb253, 3, none⟩ (.int .u8 ((rd_T79 l0_2 x9_1).f3))) = w24 at n0_ n1_ n2_ n3_ n4_ n5_ ⊢
        have HO_252002 := n0_
        have BK249 := n1_
        have BK250 := n2_
        have BK251 := n3_
        have BK253 := n4_
        have HB := n5_
        clear n0_ n1_ n2_ n3_ n4_ n5_
        have n0_ := Aside0.mk (Kd.R_drew HO_252002.out)
        have n1_ := Aside0.mk (blk_drew BK249.out)
        have n2_ := Aside0.mk (blk_drew BK250.out)
        have n3_ := Aside0.mk (blk_drew BK251.out)
        have n4_ := Aside0.mk (blk_drew BK253.out)
        have n5_ := Aside0.mk (below_drew1 HB.out)
        clear HO_252002
        clear BK249
        clear BK250
        clear BK251
        clear BK253
        clear HB
        have HO_252002 := n0_
        have BK249 := n1_
        have BK250 := n2_
        have BK251 := n3_
        have BK253 := n4_
        have HB := n5_
        clear n0_ n1_ n2_ n3_ n4_ n5_
        refine start_ (n := 27) (S := fun w' => w'.cell? ⟨gb251, 0, none⟩ = some (.int .i64 (wrap64 (2 + (Int.tmod (wrap64 (a0_0)) 4)))) ∧ w'.cell? ⟨gb251, 1, none⟩ = some (.bool a0_1) ∧ w'.cell? ⟨gb251, 2, none⟩ = some (u252002) ∧ w'.cell? ⟨gb253, 0, none⟩ = some (.int .u8 ((rd_T79 l0_2 x9_1).f0)) ∧ w'.cell? ⟨gb253, 1, none⟩ = some (.int .u8 ((rd_T79 l0_2 x9_1).f1)) ∧ w'.cell? ⟨gb253, 2, none⟩ = some (.int .u8 ((rd_T79 l0_2 x9_1).f2)) ∧ w'.cell? ⟨gb253, 3, none⟩ = some (.int .u8 ((rd_T79 l0_2 x9_1).f3))) (ds := [26]) #[false, false, false, false, false, false, false, false, false, false, false, false, false, false, false, false, false, false, false, false, false, false, false, false, false, false, false] (by kernel_rfl) rfl rfl ⟨(blk_cell BK251.out 0).trans rfl, (blk_cell BK251.out 1).trans rfl, (blk_cell BK251.out 2).trans rfl, (blk_cell BK253.out 0).trans rfl, (blk_cell BK253.out 1).trans rfl, (blk_cell BK253.out 2).trans rfl, (blk_cell BK253.out 3).trans rfl⟩ (fun hHeld => ?_); refine with_tabW ebbtidelaw12_Read.tab6 ebbtidelaw12_Read.bits6 (fun HT_ HW_ => ?_)
        generalize w24.drew = w25 at HO_252002 BK249 BK250 BK251 BK253 HB hHeld ⊢
        refine pure_ (i := 0) (N := some 38) (v := ?_) (a' := ?_) #[true, false, false, false, false, false, false, false, false, false, false, false, false, false, false, false, false, false, false, false, false, false, false, false, false, false, false] rfl rfl (any_of HT_.out (by kernel_rfl)) (fun _ _ _ h => h) (Or.inl ⟨by rfl, ?_⟩) ?_ ?_
        rotate_left
        ·intro w'
         go_simp
         with_reducible rfl
        rotate_left
        ·simp only [Act.put, List.setIfInBounds_toArray, List.set_cons_zero, List.set_cons_succ, i64_w, i32_w]
         rfl
        refine pure_ (i := 2) (N := some 40) (v := ?_) (a' := ?_) #[true, false, true, false, false, false, false, false, false, false, false, false, false, false, false, false, false, false, false, false, false, false, false, false, false, false, false] rfl rfl (any_of HT_.out (by kernel_rfl)) (fun _ _ _ h => h) (Or.inl ⟨by rfl, ?_⟩) ?_ ?_
        rotate_left
        ·intro w'
         go_simp
         with_reducible rfl
        rotate_left
        ·simp only [Act.put, List.setIfInBounds_toArray, List.set_cons_zero, List.set_cons_succ, i64_w, i32_w]
         rfl
        refine pure_ (i := 5) (N := some 43) (v := ?_) (a' := ?_) #[true, false, true, false, false, true, false, false, false, false, false, false, false, false, false, false, false, false, false, false, false, false, false, false, false, false, false] rfl rfl (any_of HT_.out (by kernel_rfl)) (fun _ _ _ h => h) (Or.inl ⟨by rfl, ?_⟩) ?_ ?_
        rotate_left
        ·intro w'
         go_simp
         with_reducible rfl
        rotate_left
        ·simp only [Act.put, List.setIfInBounds_toArray, List.set_cons_zero, List.set_cons_succ, i64_w, i32_w]
         rfl
        refine pure_ (i := 8) (N := some 46) (v := ?_) (a' := ?_) #[true, false, true, false, false, true, false, false, true, false, false, false, false, false, false, false, false, false, false, false, false, false, false, false, false, false, false] rfl rfl (any_of HT_.out (by kernel_rfl)) (fun _ _ _ h => h) (Or.inl ⟨by rfl, ?_⟩) ?_ ?_
        rotate_left
        ·intro w'
         go_simp
         with_reducible rfl
        rotate_left
        ·simp only [Act.put, List.setIfInBounds_toArray, List.set_cons_zero, List.set_cons_succ, i64_w, i32_w]
         rfl
        refine pure_ (i := 11) (N := some 49) (v := ?_) (a' := ?_) #[true, false, true, false, false, true, false, false, true, false, false, true, false, false, false, false, false, false, false, false, false, false, false, false, false, false, false] rfl rfl (any_of HT_.out (by kernel_rfl)) (fun _ _ _ h => h) (Or.inl ⟨by rfl, ?_⟩) ?_ ?_
        rotate_left
        ·intro w'
         go_simp
         with_reducible rfl
        rotate_left
        ·simp only [Act.put, List.setIfInBounds_toArray, List.set_cons_zero, List.set_cons_succ, i64_w, i32_w]
         rfl
        refine pure_ (i := 14) (N := some 52) (v := ?_) (a' := ?_) #[true, false, true, false, false, true, false, false, true, false, false, true, false, false, true, false, false, false, false, false, false, false, false, false, false, false, false] rfl rfl (any_of HT_.out (by kernel_rfl)) (fun _ _ _ h => h) (Or.inl ⟨by rfl, ?_⟩) ?_ ?_
        rotate_left
        ·intro w'
         go_simp
         with_reducible rfl
        rotate_left
        ·simp only [Act.put, List.setIfInBounds_toArray, List.set_cons_zero, List.set_cons_succ, i64_w, i32_w]
         rfl
        refine pure_ (i := 18) (N := some 56) (v := ?_) (a' := ?_) #[true, false, true, false, false, true, false, false, true, false, false, true, false, false, true, false, false, false, true, false, false, false, false, false, false, false, false] rfl rfl (any_of HT_.out (by kernel_rfl)) (fun _ _ _ h => h) (Or.inl ⟨by rfl, ?_⟩) ?_ ?_
        rotate_left
        ·intro w'
         go_simp
         with_reducible rfl
        rotate_left
        ·simp only [Act.put, List.setIfInBounds_toArray, List.set_cons_zero, List.set_cons_succ, i64_w, i32_w]
         rfl
        refine take_ (i := 1) (N := some 39) (v := ?_) (a' := ?_) #[true, true, true, false, false, true, false, false, true, false, false, true, false, false, true, false, false, false, true, false, false, false, false, false, false, false, false] rfl rfl (take_ofW HT_.out HW_.out (by kernel_rfl)) (fun _ _ _ h => h) (Or.inl ⟨by rfl, ?_⟩) hHeld ?_ ?_
        rotate_left
        ·rintro w' ⟨s0, s1, s2, s3, s4, s5, s6⟩
         go_simp
         with_reducible rfl
        rotate_left
        ·simp only [Act.put, List.setIfInBounds_toArray, List.set_cons_zero, List.set_cons_succ, i64_w, i32_w]
         rfl
        refine take_ (i := 3) (N := some 41) (v := ?_) (a' := ?_) #[true, true, true, true, false, true, false, false, true, false, false, true, false, false, true, false, false, false, true, false, false, false, false, false, false, false, false] rfl rfl (take_ofW HT_.out HW_.out (by kernel_rfl)) (fun _ _ _ h => h) (Or.inl ⟨by rfl, ?_⟩) hHeld ?_ ?_
        rotate_left
        ·rintro w' ⟨s0, s1, s2, s3, s4, s5, s6⟩
         go_simp
         with_reducible rfl
        rotate_left
        ·simp only [Act.put, List.setIfInBounds_toArray, List.set_cons_zero, List.set_cons_succ, i64_w, i32_w]
         rfl
        refine pure_ (i := 4) (N := some 42) (v := ?_) (a' := ?_) #[true, true, true, true, true, true, false, false, true, false, false, true, false, false, true, false, false, false, true, false, false, false, false, false, false, false, false] rfl rfl (any_of HT_.out (by kernel_rfl)) (fun _ _ _ h => h) (Or.inl ⟨by rfl, ?_⟩) ?_ ?_
        rotate_left
        ·intro w'
         go_simp
         with_reducible rfl
        rotate_left
        ·simp only [Act.put, List.setIfInBounds_toArray, List.set_cons_zero, List.set_cons_succ, i64_w, i32_w]
         rfl
        refine take_ (i := 6) (N := some 44) (v := ?_) (a' := ?_) #[true, true, true, true, true, true, true, false, true, false, false, true, false, false, true, false, false, false, true, false, false, false, false, false, false, false, false] rfl rfl (take_ofW HT_.out HW_.out (by kernel_rfl)) (fun _ _ _ h => h) (Or.inl ⟨by rfl, ?_⟩) hHeld ?_ ?_
        rotate_left
        ·rintro w' ⟨s0, s1, s2, s3, s4, s5, s6⟩
         go_simp
         with_reducible rfl
        rotate_left
        ·simp only [Act.put, List.setIfInBounds_toArray, List.set_cons_zero, List.set_cons_succ, i64_w, i32_w]
         rfl
        refine pure_ (i := 7) (N := some 45) (v := ?_) (a' := ?_) #[true, true, true, true, true, true, true, true, true, false, false, true, false, false, true, false, false, false, true, false, false, false, false, false, false, false, false] rfl rfl (any_of HT_.out (by kernel_rfl)) (fun _ _ _ h => h) (Or.inl ⟨by rfl, ?_⟩) ?_ ?_
        rotate_left
        ·intro w'
         go_simp
         with_reducible rfl
        rotate_left
        ·simp only [Act.put, List.setIfInBounds_toArray, List.set_cons_zero, List.set_cons_succ, i64_w, i32_w]
         rfl
        refine take_ (i := 9) (N := some 47) (v := ?_) (a' := ?_) #[true, true, true, true, true, true, true, true, true, true, false, true, false, false, true, false, false, false, true, false, false, false, false, false, false, false, false] rfl rfl (take_ofW HT_.out HW_.out (by kernel_rfl)) (fun _ _ _ h => h) (Or.inl ⟨by rfl, ?_⟩) hHeld ?_ ?_
        rotate_left
        ·rintro w' ⟨s0, s1, s2, s3, s4, s5, s6⟩
         go_simp
         with_reducible rfl
        rotate_left
        ·simp only [Act.put, List.setIfInBounds_toArray, List.set_cons_zero, List.set_cons_succ, i64_w, i32_w]
         rfl
        refine pure_ (i := 10) (N := some 48) (v := ?_) (a' := ?_) #[true, true, true, true, true, true, true, true, true, true, true, true, false, false, true, false, false, false, true, false, false, false, false, false, false, false, false] rfl rfl (any_of HT_.out (by kernel_rfl)) (fun _ _ _ h => h) (Or.inl ⟨by rfl, ?_⟩) ?_ ?_
        rotate_left
        ·intro w'
         go_simp
         with_reducible rfl
        rotate_left
        ·simp only [Act.put, List.setIfInBounds_toArray, List.set_cons_zero, List.set_cons_succ, i64_w, i32_w]
         rfl
        refine take_ (i := 12) (N := some 50) (v := ?_) (a' := ?_) #[true, true, true, true, true, true, true, true, true, true, true, true, true, false, true, false, false, false, true, false, false, false, false, false, false, false, false] rfl rfl (take_ofW HT_.out HW_.out (by kernel_rfl)) (fun _ _ _ h => h) (Or.inl ⟨by rfl, ?_⟩) hHeld ?_ ?_
        rotate_left
        ·rintro w' ⟨s0, s1, s2, s3, s4, s5, s6⟩
         go_simp
         with_reducible rfl
        rotate_left
        ·simp only [Act.put, List.setIfInBounds_toArray, List.set_cons_zero, List.set_cons_succ, i64_w, i32_w]
         rfl
        refine pure_ (i := 13) (N := some 51) (v := ?_) (a' := ?_) #[true, true, true, true, true, true, true, true, true, true, true, true, true, true, true, false, false, false, true, false, false, false, false, false, false, false, false] rfl rfl (any_of HT_.out (by kernel_rfl)) (fun _ _ _ h => h) (Or.inl ⟨by rfl, ?_⟩) ?_ ?_
        rotate_left
        ·intro w'
         go_simp
         with_reducible rfl
        rotate_left
        ·simp only [Act.put, List.setIfInBounds_toArray, List.set_cons_zero, List.set_cons_succ, i64_w, i32_w]
         rfl
        refine take_ (i := 15) (N := some 53) (v := ?_) (a' := ?_) #[true, true, true, true, true, true, true, true, true, true, true, true, true, true, true, true, false, false, true, false, false, false, false, false, false, false, false] rfl rfl (take_ofW HT_.out HW_.out (by kernel_rfl)) (fun _ _ _ h => h) (Or.inl ⟨by rfl, ?_⟩) hHeld ?_ ?_
        rotate_left
        ·rintro w' ⟨s0, s1, s2, s3, s4, s5, s6⟩
         go_simp
         with_reducible rfl
        rotate_left
        ·simp only [Act.put, List.setIfInBounds_toArray, List.set_cons_zero, List.set_cons_succ, i64_w, i32_w]
         rfl
        refine pure_ (i := 16) (N := some 54) (v := ?_) (a' := ?_) #[true, true, true, true, true, true, true, true, true, true, true, true, true, true, true, true, true, false, true, false, false, false, false, false, false, false, false] rfl rfl (any_of HT_.out (by kernel_rfl)) (fun _ _ _ h => h) (Or.inl ⟨by rfl, ?_⟩) ?_ ?_
        rotate_left
        ·intro w'
         go_simp
         with_reducible rfl
        rotate_left
        ·simp only [Act.put, List.setIfInBounds_toArray, List.set_cons_zero, List.set_cons_succ, i64_w, i32_w]
         rfl
        refine pure_ (i := 17) (N := some 55) (v := ?_) (a' := ?_) #[true, true, true, true, true, true, true, true, true, true, true, true, true, true, true, true, true, true, true, false, false, false, false, false, false, false, false] rfl rfl (any_of HT_.out (by kernel_rfl)) (fun _ _ _ h => h) (Or.inl ⟨by rfl, ?_⟩) ?_ ?_
        rotate_left
        ·intro w'
         go_simp
         with_reducible rfl
        rotate_left
        ·simp only [Act.put, List.setIfInBounds_toArray, List.set_cons_zero, List.set_cons_succ, i64_w, i32_w]
         rfl
        refine take_ (i := 19) (N := some 57) (v := ?_) (a' := ?_) #[true, true, true, true, true, true, true, true, true, true, true, true, true, true, true, true, true, true, true, true, false, false, false, false, false, false, false] rfl rfl (take_ofW HT_.out HW_.out (by kernel_rfl)) (fun _ _ _ h => h) (Or.inl ⟨by rfl, ?_⟩) hHeld ?_ ?_
        rotate_left
        ·rintro w' ⟨s0, s1, s2, s3, s4, s5, s6⟩
         go_simp
         with_reducible rfl
        rotate_left
        ·simp only [Act.put, List.setIfInBounds_toArray, List.set_cons_zero, List.set_cons_succ, i64_w, i32_w]
         rfl
        refine pure_ (i := 20) (N := some 58) (v := ?_) (a' := ?_) #[true, true, true, true, true, true, true, true, true, true, true, true, true, true, true, true, true, true, true, true, true, false, false, false, false, false, false] rfl rfl (any_of HT_.out (by kernel_rfl)) (fun _ _ _ h => h) (Or.inl ⟨by rfl, ?_⟩) ?_ ?_
        rotate_left
        ·intro w'
         go_simp
         with_reducible rfl
        rotate_left
        ·simp only [Act.put, List.setIfInBounds_toArray, List.set_cons_zero, List.set_cons_succ, i64_w, i32_w]
         rfl
        refine pure_ (i := 21) (N := some 59) (v := ?_) (a' := ?_) #[true, true, true, true, true, true, true, true, true, true, true, true, true, true, true, true, true, true, true, true, true, true, false, false, false, false, false] rfl rfl (any_of HT_.out (by kernel_rfl)) (fun _ _ _ h => h) (Or.inl ⟨by rfl, ?_⟩) ?_ ?_
        rotate_left
        ·intro w'
         go_simp
         with_reducible rfl
        rotate_left
        ·simp only [Act.put, List.setIfInBounds_toArray, List.set_cons_zero, List.set_cons_succ, i64_w, i32_w]
         rfl
        refine pure_ (i := 22) (N := some 60) (v := ?_) (a' := ?_) #[true, true, true, true, true, true, true, true, true, true, true, true, true, true, true, true, true, true, true, true, true, true, true, false, false, false, false] rfl rfl (any_of HT_.out (by kernel_rfl)) (fun _ _ _ h => h) (Or.inl ⟨by rfl, ?_⟩) ?_ ?_
        rotate_left
        ·intro w'
         go_simp
         with_reducible rfl
        rotate_left
        ·simp only [Act.put, List.setIfInBounds_toArray, List.set_cons_zero, List.set_cons_succ, i64_w, i32_w]
         rfl
        refine one_ (i := 23) (N := some 61) #[true, true, true, true, true, true, true, true, true, true, true, true, true, true, true, true, true, true, true, true, true, true, true, true, false, false, false] rfl rfl (one_of HT_.out (by kernel_rfl)) (by decide) (fun K hK => ?_)
        refine value_ (w1 := ?_) (v := ?_) (by rfl) rfl ?_ ?_
        rotate_left 2
        ·go_simp
         constructor
         ·rfl
         ·rfl
        refine hK.out _ _ ⟨(blk_cell (blk_alloc BK251.out _) 0).trans rfl, (blk_cell (blk_alloc BK251.out _) 1).trans rfl, (blk_cell (blk_alloc BK251.out _) 2).trans rfl, (blk_cell (blk_alloc BK253.out _) 0).trans rfl, (blk_cell (blk_alloc BK253.out _) 1).trans rfl, (blk_cell (blk_alloc BK253.out _) 2).trans rfl, (blk_cell (blk_alloc BK253.out _) 3).trans rfl⟩ (fun hHeld => ?_)
        clear hK K
        refine norm_ (a' := ?_) ?_ ?_
        rotate_left
        ·show Act.put _ (some 61) _ = _
         simp only [Act.put, List.setIfInBounds_toArray, List.set_cons_zero, List.set_cons_succ, i64_w, i32_w]
         rfl
        refine one_ (i := 24) (N := some 62) #[true, true, true, true, true, true, true, true, true, true, true, true, true, true, true, true, true, true, true, true, true, true, true, true, true, false, false] rfl rfl (one_of HT_.out (by kernel_rfl)) (by decide) (fun K hK => ?_)
        refine Kd.R_append_step k69 (w0 := w) w.heap.size (by rfl) (.tmp 39) (.tmp 61) 22 69 (.agg #[(.int .i64 0), (.int .i64 0), (.int .i64 0), (.int .i64 0)]) 32 rfl Try.underlying22 info69 rfl (by decide) (by omega) u252002 x252002_1 (⟨Int.tmod (wrap64 ((rd_T79 l0_2 x9_1).f0)) (wrap64 (2 + (Int.tmod (wrap64 (a0_0)) 4))), Int.tmod (wrap64 ((rd_T79 l0_2 x9_1).f1)) (wrap64 (2 + (Int.tmod (wrap64 (a0_0)) 4))), Int.tmod (wrap64 ((rd_T79 l0_2 x9_1).f2)) 6, Int.tmod (wrap64 ((rd_T79 l0_2 x9_1).f3)) 4⟩ : S69) [.int .i64 (Int.tmod (wrap64 ((rd_T79 l0_2 x9_1).f0)) (wrap64 (2 + (Int.tmod (wrap64 (a0_0)) 4)))), .int .i64 (Int.tmod (wrap64 ((rd_T79 l0_2 x9_1).f1)) (wrap64 (2 + (Int.tmod (wrap64 (a0_0)) 4)))), .int .i64 (Int.tmod (wrap64 ((rd_T79 l0_2 x9_1).f2)) 6), .int .i64 (Int.tmod (wrap64 ((rd_T79 l0_2 x9_1).f3)) 4)] (fun _ => True) (fun _ => False) rfl rfl ?aP (fun _ hk => hk.elim) ?aF ?aO ?aB ?aS ?aL ?_
        (case aP => exact k69_mkM _ _ _ (⟨Int.tmod (wrap64 ((rd_T79 l0_2 x9_1).f0)) (wrap64 (2 + (Int.tmod (wrap64 (a0_0)) 4))), Int.tmod (wrap64 ((rd_T79 l0_2 x9_1).f1)) (wrap64 (2 + (Int.tmod (wrap64 (a0_0)) 4))), Int.tmod (wrap64 ((rd_T79 l0_2 x9_1).f2)) 6, Int.tmod (wrap64 ((rd_T79 l0_2 x9_1).f3)) 4⟩ : S69))
        (case aB => exact (by repeat (first | (with_reducible first | exact HB.out | apply below_alloc | apply pw_below_drewN | apply below_drew1 | refine below_set ?_ GE249.out | refine below_set ?_ GE250.out | refine below_set ?_ GE251.out | refine below_set ?_ GE253.out) | exact HB.out)))
        (case aF => exact (fun _ _ => trivial))
        (case aO => exact (by (with_reducible repeat (first | apply Kd.R_alloc | apply Kd.R_drewN | apply Kd.R_drew)); exact HO_252002.out))
        (case aS => exact (below_size (by repeat (first | (with_reducible first | exact HB.out | apply below_alloc | apply pw_below_drewN | apply below_drew1 | refine below_set ?_ GE249.out | refine below_set ?_ GE250.out | refine below_set ?_ GE251.out | refine below_set ?_ GE253.out) | exact HB.out))))
        (case aL => have := LMc15.out; omega)
        intro v255 w26 ho hb hg hat
        rw [← Ny254.out] at ho
        have n0_ := Aside0.mk (blk_grown (g := gb249) (o := .cells #[.int .u8 a0_0, .bool a0_1, .slice (some ad252) l0_2.length c0_2, .int .u8 a0_3, .int .u8 a0_4, .int .u8 a0_5] 38 (0, 0)) (by (with_reducible repeat (first | refine blk_drewN ?_ _ | refine blk_drew ?_ | refine blk_alloc ?_ _)); exact BK249.out) hg (Kd.R_ne HO_252002.out BK249.out (by decide)))
        have n1_ := Aside0.mk (blk_grown (g := gb250) (o := .cells #[.int .i64 0, .bool false, .slice none 0 0] 24 (0, 0)) (by (with_reducible repeat (first | refine blk_drewN ?_ _ | refine blk_drew ?_ | refine blk_alloc ?_ _)); exact BK250.out) hg (Kd.R_ne HO_252002.out BK250.out (by decide)))
        have n2_ := Aside0.mk (blk_grown (g := gb251) (o := .cells #[.int .i64 (wrap64 (2 + (Int.tmod (wrap64 (a0_0)) 4))), .bool a0_1, u252002] 24 (0, 0)) (by (with_reducible repeat (first | refine blk_drewN ?_ _ | refine blk_drew ?_ | refine blk_alloc ?_ _)); exact BK251.out) hg (Kd.R_ne HO_252002.out BK251.out (by decide)))
        have n3_ := Aside0.mk (blk_grown (g := gb253) (o := .cells #[.int .u8 ((rd_T79 l0_2 x9_1).f0), .int .u8 ((rd_T79 l0_2 x9_1).f1), .int .u8 ((rd_T79 l0_2 x9_1).f2), .int .u8 ((rd_T79 l0_2 x9_1).f3)] 79 (0, 0)) (by (with_reducible repeat (first | refine blk_drewN ?_ _ | refine blk_drew ?_ | refine blk_alloc ?_ _)); exact BK253.out) hg (Kd.R_ne HO_252002.out BK253.out (by decide)))
        have n4_ := Aside0.mk (hb)
        have n5_ := Aside0.mk (ho)
        clear BK249
        clear BK250
        clear BK251
        clear BK253
        clear HB
        clear HO_252002
        have BK249 := n0_
        have BK250 := n1_
        have BK251 := n2_
        have BK253 := n3_
        have HB := n4_
        have HO256 := n5_
        clear n0_ n1_ n2_ n3_ n4_ n5_
        clear ho hb hg hat
        obtain ⟨Ao27, co27, eo27⟩ := Kd.R_slice HO256.out
        (first | subst eo27 | (injection eo27 with f1_ f2_ f3_; have f4_ := f1_.symm; have f5_ := f3_.symm; clear f1_ f2_ f3_; subst f4_; subst f5_))
        refine hK.out _ _ ⟨(blk_cell BK251.out 0).trans rfl, (blk_cell BK251.out 1).trans rfl, (blk_cell BK251.out 2).trans rfl, (blk_cell BK253.out 0).trans rfl, (blk_cell BK253.out 1).trans rfl, (blk_cell BK253.out 2).trans rfl, (blk_cell BK253.out 3).trans rfl⟩ (fun hHeld => ?_)
        clear hK K
        refine norm_ (a' := ?_) ?_ ?_
        rotate_left
        ·show Act.put _ (some 62) _ = _
         simp only [Act.put, List.setIfInBounds_toArray, List.set_cons_zero, List.set_cons_succ, i64_w, i32_w]
         rfl
        refine pure_ (i := 25) (N := some 63) (v := ?_) (a' := ?_) #[true, true, true, true, true, true, true, true, true, true, true, true, true, true, true, true, true, true, true, true, true, true, true, true, true, true, false] rfl rfl (any_of HT_.out (by kernel_rfl)) (fun _ _ _ h => h) (Or.inl ⟨by rfl, ?_⟩) ?_ ?_
        rotate_left
        ·intro w'
         go_simp
         with_reducible rfl
        rotate_left
        ·simp only [Act.put, List.setIfInBounds_toArray, List.set_cons_zero, List.set_cons_succ, i64_w, i32_w]
         rfl
        refine last_ (i := 26) (N := none) #[true, true, true, true, true, true, true, true, true, true, true, true, true, true, true, true, true, true, true, true, true, true, true, true, true, true, true] rfl rfl (one_of HT_.out (by kernel_rfl)) (by decide) (fun K hK => ?_)
        have hs28 : w26.cell? ⟨gb251, 2, none⟩ = some (u252002) := (blk_cell BK251.out 2).trans rfl
        have hfs28 := blk_frozen BK251.out 2
        have hns28_0 := NB249_251.out
        have hns28_1 := NB250_251.out
        have hns28_3 := NB253_251.out
        have hms28_0 := NB251_249.out
        have hms28_1 := NB251_250.out
        have hms28_3 := NB251_253.out
        refine skip_ (w1 := ?_) (by rfl) rfl ?_ ?_
        rotate_left
        ·go_simp
         rfl
        refine hK.out _ _ ?_
        clear hK K
        refine done_ (done_of HT_.out (by kernel_rfl)) ?_
        try go_wp2
        go_roundg k1
        case measure => have := HK1.out; omega
        case rel => exact ⟨(wrap64 (x9_1 + 1)), (y254), (.slice Ao27 y254.length co27), (by first | rfl | (simp; done) | (simp [*]; done)), H', ⟨by have := HK1.out; omega⟩, ⟨by (with_reducible repeat (first | apply Kd.R_alloc | apply Kd.R_drewN | apply Kd.R_drew)); exact Kd.R_mono (Kd.R_far (p := ⟨gb251, 2, none⟩) (Kd.R_types HO256.out BK251.out (by decide)) (fun _ hk => hk.2) (.slice Ao27 y254.length co27)) (fun _ hk => trivial)⟩, ⟨by (with_reducible repeat (first | refine blk_drewN ?_ _ | refine blk_drew ?_ | refine blk_alloc ?_ _)); refine blk_far ?_ NB249_251.out _; (with_reducible repeat (first | refine blk_drewN ?_ _ | refine blk_drew ?_ | refine blk_alloc ?_ _)); exact BK249.out⟩, ⟨by (with_reducible repeat (first | refine blk_drewN ?_ _ | refine blk_drew ?_ | refine blk_alloc ?_ _)); refine blk_far ?_ NB250_251.out _; (with_reducible repeat (first | refine blk_drewN ?_ _ | refine blk_drew ?_ | refine blk_alloc ?_ _)); exact BK250.out⟩, ⟨by (with_reducible repeat (first | refine blk_drewN ?_ _ | refine blk_drew ?_ | refine blk_alloc ?_ _)); refine blk_put (cs := #[.int .i64 (wrap64 (2 + (Int.tmod (wrap64 (a0_0)) 4))), .bool a0_1, u252002]) ?_ 2 _ rfl; (with_reducible repeat (first | refine blk_drewN ?_ _ | refine blk_drew ?_ | refine blk_alloc ?_ _)); exact BK251.out⟩, ⟨by repeat (first | (with_reducible first | exact HB.out | apply below_alloc | apply pw_below_drewN | apply below_drew1 | refine below_set ?_ GE249.out | refine below_set ?_ GE250.out | refine below_set ?_ GE251.out | refine below_set ?_ GE253.out) | exact HB.out)⟩⟩
       ·rw [if_neg c15] at H
        exact absurd H (by simp)
     ·rw [if_neg c13] at H
      exact absurd H (by simp)
    ·rw [if_neg c12] at H
     have c12b0 : decide (x9_1 < a1) = false := decide_eq_false c12
     clear c12
     by_cases c29 : (wrap64 (2 + (Int.tmod (wrap64 (a0_0)) 4))) = 0
     ·rw [if_pos c29] at H
      exact absurd H (by simp)
     ·rw [if_neg c29] at H
      have c29b0 : ((wrap64 (2 + (Int.tmod (wrap64 (a0_0)) 4))) == 0) = false := beq_eq_false_iff_ne.mpr c29
      have c29b1 : ((wrap64 (2 + (Int.tmod (wrap64 (a0_0)) 4))) != 0) = true := bne_iff_ne.mpr c29
      by_cases c30 : (wrap64 ((wrap64 (2 + (Int.tmod (wrap64 (a0_0)) 4))) - 1)) = 0
      ·rw [if_pos c30] at H
       exact absurd H (by simp)
      ·rw [if_neg c30] at H
       have c30b0 : ((wrap64 ((wrap64 (2 + (Int.tmod (wrap64 (a0_0)) 4))) - 1)) == 0) = false := beq_eq_false_iff_ne.mpr c30
       have c30b1 : ((wrap64 ((wrap64 (2 + (Int.tmod (wrap64 (a0_0)) 4))) - 1)) != 0) = true := bne_iff_ne.mpr c30
       simp only [Option.some.injEq, Prod.mk.injEq] at H
       obtain ⟨rfl, rfl, rfl, rfl, rfl, rfl⟩ := H
       have hnb31 := NB249_250.out
       have hnc31 := NB250_249.out
       have hnb32 := NB249_251.out
       have hnc32 := NB251_249.out
       have hcz33_0 : wr.cell? ⟨gb249, 0, none⟩ = some (.int .u8 a0_0) := (blk_cell BK249.out 0).trans rfl
       have hcz33_1 : wr.cell? ⟨gb249, 1, none⟩ = some (.bool a0_1) := (blk_cell BK249.out 1).trans rfl
       have hcz33_2 : wr.cell? ⟨gb249, 2, none⟩ = some (.slice A0_2 l0_2.length c0_2) := (blk_cell BK249.out 2).trans rfl
       have hcz33_3 : wr.cell? ⟨gb249, 3, none⟩ = some (.int .u8 a0_3) := (blk_cell BK249.out 3).trans rfl
       have hcz33_4 : wr.cell? ⟨gb249, 4, none⟩ = some (.int .u8 a0_4) := (blk_cell BK249.out 4).trans rfl
       have hcz33_5 : wr.cell? ⟨gb249, 5, none⟩ = some (.int .u8 a0_5) := (blk_cell BK249.out 5).trans rfl
       have hfz33_0 := blk_frozen BK249.out 0
       have hfz33_1 := blk_frozen BK249.out 1
       have hfz33_2 := blk_frozen BK249.out 2
       have hfz33_3 := blk_frozen BK249.out 3
       have hfz33_4 := blk_frozen BK249.out 4
       have hfz33_5 := blk_frozen BK249.out 5
       have hnb34 := NB251_250.out
       have hnc34 := NB250_251.out
       have hcz35_0 : wr.cell? ⟨gb251, 0, none⟩ = some (.int .i64 (wrap64 (2 + (Int.tmod (wrap64 (a0_0)) 4)))) := (blk_cell BK251.out 0).trans rfl
       have hcz35_1 : wr.cell? ⟨gb251, 1, none⟩ = some (.bool a0_1) := (blk_cell BK251.out 1).trans rfl
       have hcz35_2 : wr.cell? ⟨gb251, 2, none⟩ = some (u252002) := (blk_cell BK251.out 2).trans rfl
       have hfz35_0 := blk_frozen BK251.out 0
       have hfz35_1 := blk_frozen BK251.out 1
       have hfz35_2 := blk_frozen BK251.out 2
       try go_wp2
       have n0_ := Aside0.mk (Kd.R_drew HO_252002.out)
       have n1_ := Aside0.mk (blk_drew BK249.out)
       have n2_ := Aside0.mk (blk_drew BK250.out)
       have n3_ := Aside0.mk (blk_drew BK251.out)
       have n4_ := Aside0.mk (below_drew1 HB.out)
       clear HO_252002
       clear BK249
       clear BK250
       clear BK251
       clear HB
       have HO_252002 := n0_
       have BK249 := n1_
       have BK250 := n2_
       have BK251 := n3_
       have HB := n4_
       clear n0_ n1_ n2_ n3_ n4_
       refine start_ (n := 14) (S := fun w' => w'.cell? ⟨gb249, 0, none⟩ = some (.int .u8 a0_0) ∧ w'.cell? ⟨gb249, 1, none⟩ = some (.bool a0_1) ∧ w'.cell? ⟨gb249, 2, none⟩ = some (.slice A0_2 l0_2.length c0_2) ∧ w'.cell? ⟨gb249, 3, none⟩ = some (.int .u8 a0_3) ∧ w'.cell? ⟨gb249, 4, none⟩ = some (.int .u8 a0_4) ∧ w'.cell? ⟨gb249, 5, none⟩ = some (.int .u8 a0_5) ∧ w'.cell? ⟨gb251, 0, none⟩ = some (.int .i64 (wrap64 (2 + (Int.tmod (wrap64 (a0_0)) 4)))) ∧ w'.cell? ⟨gb251, 1, none⟩ = some (.bool a0_1) ∧ w'.cell? ⟨gb251, 2, none⟩ = some (u252002)) (ds := []) #[false, false, false, false, false, false, false, false, false, false, false, false, false, false] (by kernel_rfl) rfl rfl ⟨(blk_cell BK249.out 0).trans rfl, (blk_cell BK249.out 1).trans rfl, (blk_cell BK249.out 2).trans rfl, (blk_cell BK249.out 3).trans rfl, (blk_cell BK249.out 4).trans rfl, (blk_cell BK249.out 5).trans rfl, (blk_cell BK251.out 0).trans rfl, (blk_cell BK251.out 1).trans rfl, (blk_cell BK251.out 2).trans rfl⟩ (fun hHeld => ?_); refine with_tabW ebbtidelaw12_Read.tab8 ebbtidelaw12_Read.bits8 (fun HT_ HW_ => ?_)
       generalize wr.drew = w36 at HO_252002 BK249 BK250 BK251 HB hHeld ⊢
       refine pure_ (i := 0) (N := some 70) (v := ?_) (a' := ?_) #[true, false, false, false, false, false, false, false, false, false, false, false, false, false] rfl rfl (any_of HT_.out (by kernel_rfl)) (fun _ _ _ h => h) (Or.inl ⟨by rfl, ?_⟩) ?_ ?_
       rotate_left
       ·intro w'
        go_simp
        with_reducible rfl
       rotate_left
       ·simp only [Act.put, List.setIfInBounds_toArray, List.set_cons_zero, List.set_cons_succ, i64_w, i32_w]
        rfl
       refine pure_ (i := 1) (N := some 71) (v := ?_) (a' := ?_) #[true, true, false, false, false, false, false, false, false, false, false, false, false, false] rfl rfl (any_of HT_.out (by kernel_rfl)) (fun _ _ _ h => h) (Or.inl ⟨by rfl, ?_⟩) ?_ ?_
       rotate_left
       ·intro w'
        go_simp
        with_reducible rfl
       rotate_left
       ·simp only [Act.put, List.setIfInBounds_toArray, List.set_cons_zero, List.set_cons_succ, i64_w, i32_w]
        rfl
       refine pure_ (i := 2) (N := some 72) (v := ?_) (a' := ?_) #[true, true, true, false, false, false, false, false, false, false, false, false, false, false] rfl rfl (any_of HT_.out (by kernel_rfl)) (fun _ _ _ h => h) (Or.inl ⟨by rfl, ?_⟩) ?_ ?_
       rotate_left
       ·intro w'
        go_simp
        with_reducible rfl
       rotate_left
       ·simp only [Act.put, List.setIfInBounds_toArray, List.set_cons_zero, List.set_cons_succ, i64_w, i32_w]
        rfl
       refine pure_ (i := 5) (N := some 75) (v := ?_) (a' := ?_) #[true, true, true, false, false, true, false, false, false, false, false, false, false, false] rfl rfl (any_of HT_.out (by kernel_rfl)) (fun _ _ _ h => h) (Or.inl ⟨by rfl, ?_⟩) ?_ ?_
       rotate_left
       ·intro w'
        go_simp
        with_reducible rfl
       rotate_left
       ·simp only [Act.put, List.setIfInBounds_toArray, List.set_cons_zero, List.set_cons_succ, i64_w, i32_w]
        rfl
       refine pure_ (i := 10) (N := some 80) (v := ?_) (a' := ?_) #[true, true, true, false, false, true, false, false, false, false, true, false, false, false] rfl rfl (any_of HT_.out (by kernel_rfl)) (fun _ _ _ h => h) (Or.inl ⟨by rfl, ?_⟩) ?_ ?_
       rotate_left
       ·intro w'
        go_simp
        with_reducible rfl
       rotate_left
       ·simp only [Act.put, List.setIfInBounds_toArray, List.set_cons_zero, List.set_cons_succ, i64_w, i32_w]
        rfl
       refine take_ (i := 3) (N := some 73) (v := ?_) (a' := ?_) #[true, true, true, true, false, true, false, false, false, false, true, false, false, false] rfl rfl (take_ofW HT_.out HW_.out (by kernel_rfl)) (fun _ _ _ h => h) (Or.inl ⟨by rfl, ?_⟩) hHeld ?_ ?_
       rotate_left
       ·rintro w' ⟨s0, s1, s2, s3, s4, s5, s6, s7, s8⟩
        go_simp
        with_reducible rfl
       rotate_left
       ·simp only [Act.put, List.setIfInBounds_toArray, List.set_cons_zero, List.set_cons_succ, i64_w, i32_w]
        rfl
       refine pure_ (i := 4) (N := some 74) (v := ?_) (a' := ?_) #[true, true, true, true, true, true, false, false, false, false, true, false, false, false] rfl rfl (any_of HT_.out (by kernel_rfl)) (fun _ _ _ h => h) (Or.inl ⟨by rfl, ?_⟩) ?_ ?_
       rotate_left
       ·intro w'
        go_simp
        with_reducible rfl
       rotate_left
       ·simp only [Act.put, List.setIfInBounds_toArray, List.set_cons_zero, List.set_cons_succ, i64_w, i32_w]
        rfl
       refine take_ (i := 6) (N := some 76) (v := ?_) (a' := ?_) #[true, true, true, true, true, true, true, false, false, false, true, false, false, false] rfl rfl (take_ofW HT_.out HW_.out (by kernel_rfl)) (fun _ _ _ h => h) (Or.inl ⟨by rfl, ?_⟩) hHeld ?_ ?_
       rotate_left
       ·rintro w' ⟨s0, s1, s2, s3, s4, s5, s6, s7, s8⟩
        go_simp
        with_reducible rfl
       rotate_left
       ·simp only [Act.put, List.setIfInBounds_toArray, List.set_cons_zero, List.set_cons_succ, i64_w, i32_w]
        rfl
       refine pure_ (i := 7) (N := some 77) (v := ?_) (a' := ?_) #[true, true, true, true, true, true, true, true, false, false, true, false, false, false] rfl rfl (any_of HT_.out (by kernel_rfl)) (fun _ _ _ h => h) (Or.inl ⟨by rfl, ?_⟩) ?_ ?_
       rotate_left
       ·intro w'
        go_simp
        with_reducible rfl
       rotate_left
       ·simp only [Act.put, List.setIfInBounds_toArray, List.set_cons_zero, List.set_cons_succ, i64_w, i32_w]
        rfl
       refine pure_ (i := 8) (N := some 78) (v := ?_) (a' := ?_) #[true, true, true, true, true, true, true, true, true, false, true, false, false, false] rfl rfl (any_of HT_.out (by kernel_rfl)) (fun _ _ _ h => h) (Or.inl ⟨by rfl, ?_⟩) ?_ ?_
       rotate_left
       ·intro w'
        go_simp
        with_reducible rfl
       rotate_left
       ·simp only [Act.put, List.setIfInBounds_toArray, List.set_cons_zero, List.set_cons_succ, i64_w, i32_w]
        rfl
       refine pure_ (i := 9) (N := some 79) (v := ?_) (a' := ?_) #[true, true, true, true, true, true, true, true, true, true, true, false, false, false] rfl rfl (any_of HT_.out (by kernel_rfl)) (fun _ _ _ h => h) (Or.inl ⟨by rfl, ?_⟩) ?_ ?_
       rotate_left
       ·intro w'
        go_simp
        with_reducible rfl
       rotate_left
       ·simp only [Act.put, List.setIfInBounds_toArray, List.set_cons_zero, List.set_cons_succ, i64_w, i32_w]
        rfl
       refine take_ (i := 11) (N := some 81) (v := ?_) (a' := ?_) #[true, true, true, true, true, true, true, true, true, true, true, true, false, false] rfl rfl (take_ofW HT_.out HW_.out (by kernel_rfl)) (fun _ _ _ h => h) (Or.inl ⟨by rfl, ?_⟩) hHeld ?_ ?_
       rotate_left
       ·rintro w' ⟨s0, s1, s2, s3, s4, s5, s6, s7, s8⟩
        go_simp
        with_reducible rfl
       rotate_left
       ·simp only [Act.put, List.setIfInBounds_toArray, List.set_cons_zero, List.set_cons_succ, i64_w, i32_w]
        rfl
       refine pure_ (i := 12) (N := some 82) (v := ?_) (a' := ?_) #[true, true, true, true, true, true, true, true, true, true, true, true, true, false] rfl rfl (any_of HT_.out (by kernel_rfl)) (fun _ _ _ h => h) (Or.inl ⟨by rfl, ?_⟩) ?_ ?_
       rotate_left
       ·intro w'
        go_simp
        with_reducible rfl
       rotate_left
       ·simp only [Act.put, List.setIfInBounds_toArray, List.set_cons_zero, List.set_cons_succ, i64_w, i32_w]
        rfl
       refine pure_ (i := 13) (N := some 12) (v := ?_) (a' := ?_) #[true, true, true, true, true, true, true, true, true, true, true, true, true, true] rfl rfl (any_of HT_.out (by kernel_rfl)) (fun _ _ _ h => h) (Or.inl ⟨by rfl, ?_⟩) ?_ ?_
       rotate_left
       ·intro w'
        go_simp
        with_reducible rfl
       rotate_left
       ·simp only [Act.put, List.setIfInBounds_toArray, List.set_cons_zero, List.set_cons_succ, i64_w, i32_w]
        rfl
       refine done_ (done_of HT_.out (by kernel_rfl)) ?_
       try go_wp2
       have n0_ := Aside0.mk (Kd.R_drew HO_252002.out)
       have n1_ := Aside0.mk (blk_drew BK249.out)
       have n2_ := Aside0.mk (blk_drew BK250.out)
       have n3_ := Aside0.mk (blk_drew BK251.out)
       have n4_ := Aside0.mk (below_drew1 HB.out)
       clear HO_252002
       clear BK249
       clear BK250
       clear BK251
       clear HB
       have HO_252002 := n0_
       have BK249 := n1_
       have BK250 := n2_
       have BK251 := n3_
       have HB := n4_
       clear n0_ n1_ n2_ n3_ n4_
       obtain ⟨Ao40, co40, eo40⟩ := Kd.R_slice HO_252002.out
       (first | subst eo40 | (injection eo40 with f1_ f2_ f3_; have f4_ := f1_.symm; have f5_ := f3_.symm; clear f1_ f2_ f3_; subst f4_; subst f5_))
       refine start_ (n := 11) (S := fun w' => w'.cell? ⟨gb251, 0, none⟩ = some (.int .i64 (wrap64 (2 + (Int.tmod (wrap64 (a0_0)) 4)))) ∧ w'.cell? ⟨gb251, 1, none⟩ = some (.bool a0_1) ∧ w'.cell? ⟨gb251, 2, none⟩ = some (.slice Ao40 x252002_1.length co40) ∧ w'.cell? ⟨gb249, 0, none⟩ = some (.int .u8 a0_0) ∧ w'.cell? ⟨gb249, 1, none⟩ = some (.bool a0_1) ∧ w'.cell? ⟨gb249, 2, none⟩ = some (.slice A0_2 l0_2.length c0_2) ∧ w'.cell? ⟨gb249, 3, none⟩ = some (.int .u8 a0_3) ∧ w'.cell? ⟨gb249, 4, none⟩ = some (.int .u8 a0_4) ∧ w'.cell? ⟨gb249, 5, none⟩ = some (.int .u8 a0_5)) (ds := []) #[false, false, false, false, false, false, false, false, false, false, false] (by kernel_rfl) rfl rfl ⟨(blk_cell BK251.out 0).trans rfl, (blk_cell BK251.out 1).trans rfl, (blk_cell BK251.out 2).trans rfl, (blk_cell BK249.out 0).trans rfl, (blk_cell BK249.out 1).trans rfl, (blk_cell BK249.out 2).trans rfl, (blk_cell BK249.out 3).trans rfl, (blk_cell BK249.out 4).trans rfl, (blk_cell BK249.out 5).trans rfl⟩ (fun hHeld => ?_); refine with_tabW ebbtidelaw12_Read.tab9 ebbtidelaw12_Read.bits9 (fun HT_ HW_ => ?_)
       generalize w36.drew = w37 at HO_252002 BK249 BK250 BK251 HB hHeld ⊢
       refine pure_ (i := 1) (N := some 84) (v := ?_) (a' := ?_) #[false, true, false, false, false, false, false, false, false, false, false] rfl rfl (any_of HT_.out (by kernel_rfl)) (fun _ _ _ h => h) (Or.inl ⟨by rfl, ?_⟩) ?_ ?_
       rotate_left
       ·intro w'
        go_simp
        with_reducible rfl
       rotate_left
       ·simp only [Act.put, List.setIfInBounds_toArray, List.set_cons_zero, List.set_cons_succ, i64_w, i32_w]
        rfl
       refine pure_ (i := 2) (N := some 85) (v := ?_) (a' := ?_) #[false, true, true, false, false, false, false, false, false, false, false] rfl rfl (any_of HT_.out (by kernel_rfl)) (fun _ _ _ h => h) (Or.inl ⟨by rfl, ?_⟩) ?_ ?_
       rotate_left
       ·intro w'
        go_simp
        with_reducible rfl
       rotate_left
       ·simp only [Act.put, List.setIfInBounds_toArray, List.set_cons_zero, List.set_cons_succ, i64_w, i32_w]
        rfl
       refine pure_ (i := 3) (N := some 86) (v := ?_) (a' := ?_) #[false, true, true, true, false, false, false, false, false, false, false] rfl rfl (any_of HT_.out (by kernel_rfl)) (fun _ _ _ h => h) (Or.inl ⟨by rfl, ?_⟩) ?_ ?_
       rotate_left
       ·intro w'
        go_simp
        with_reducible rfl
       rotate_left
       ·simp only [Act.put, List.setIfInBounds_toArray, List.set_cons_zero, List.set_cons_succ, i64_w, i32_w]
        rfl
       refine take_ (i := 0) (N := some 83) (v := ?_) (a' := ?_) #[true, true, true, true, false, false, false, false, false, false, false] rfl rfl (take_ofW HT_.out HW_.out (by kernel_rfl)) (fun _ _ _ h => h) (Or.inl ⟨by rfl, ?_⟩) hHeld ?_ ?_
       rotate_left
       ·rintro w' ⟨s0, s1, s2, s3, s4, s5, s6, s7, s8⟩
        go_simp
        with_reducible rfl
       rotate_left
       ·simp only [Act.put, List.setIfInBounds_toArray, List.set_cons_zero, List.set_cons_succ, i64_w, i32_w]
        rfl
       refine take_ (i := 4) (N := some 87) (v := ?_) (a' := ?_) #[true, true, true, true, true, false, false, false, false, false, false] rfl rfl (take_ofW HT_.out HW_.out (by kernel_rfl)) (fun _ _ _ h => h) (Or.inl ⟨by rfl, ?_⟩) hHeld ?_ ?_
       rotate_left
       ·rintro w' ⟨s0, s1, s2, s3, s4, s5, s6, s7, s8⟩
        go_simp
        with_reducible rfl
       rotate_left
       ·simp only [Act.put, List.setIfInBounds_toArray, List.set_cons_zero, List.set_cons_succ, i64_w, i32_w]
        rfl
       refine pure_ (i := 5) (N := some 88) (v := ?_) (a' := ?_) #[true, true, true, true, true, true, false, false, false, false, false] rfl rfl (any_of HT_.out (by kernel_rfl)) (fun _ _ _ h => h) (Or.inl ⟨by rfl, ?_⟩) ?_ ?_
       rotate_left
       ·intro w'
        go_simp
        with_reducible rfl
       rotate_left
       ·simp only [Act.put, List.setIfInBounds_toArray, List.set_cons_zero, List.set_cons_succ, i64_w, i32_w]
        rfl
       refine pure_ (i := 6) (N := some 89) (v := ?_) (a' := ?_) #[true, true, true, true, true, true, true, false, false, false, false] rfl rfl (any_of HT_.out (by kernel_rfl)) (fun _ _ _ h => h) (Or.inl ⟨by rfl, ?_⟩) ?_ ?_
       rotate_left
       ·intro w'
        go_simp
        with_reducible rfl
       rotate_left
       ·simp only [Act.put, List.setIfInBounds_toArray, List.set_cons_zero, List.set_cons_succ, i64_w, i32_w]
        rfl
       refine one_ (i := 7) (N := none) #[true, true, true, true, true, true, true, true, false, false, false] rfl rfl (one_of HT_.out (by kernel_rfl)) (by decide) (fun K hK => ?_)
       have hs38 : w37.cell? ⟨gb250, 0, none⟩ = some (.int .i64 0) := (blk_cell BK250.out 0).trans rfl
       have hfs38 := blk_frozen BK250.out 0
       have hns38_0 := NB249_250.out
       have hns38_2 := NB251_250.out
       have hms38_0 := NB250_249.out
       have hms38_2 := NB250_251.out
       have hs39 : w37.cell? ⟨gb250, 1, none⟩ = some (.bool false) := (blk_cell BK250.out 1).trans rfl
       have hfs39 := blk_frozen BK250.out 1
       have hns39_0 := NB249_250.out
       have hns39_2 := NB251_250.out
       have hms39_0 := NB250_249.out
       have hms39_2 := NB250_251.out
       have hs41 : w37.cell? ⟨gb250, 2, none⟩ = some (.slice none 0 0) := (blk_cell BK250.out 2).trans rfl
       have hfs41 := blk_frozen BK250.out 2
       have hns41_0 := NB249_250.out
       have hns41_2 := NB251_250.out
       have hms41_0 := NB250_249.out
       have hms41_2 := NB250_251.out
       refine skip_ (w1 := ?_) (by rfl) rfl ?_ ?_
       rotate_left
       ·go_simp
        rfl
       refine hK.out _ _ ⟨((cell_far (p := ⟨gb250, _, none⟩) NB251_250.out _).trans (((cell_far (p := ⟨gb250, _, none⟩) NB251_250.out _).trans (((cell_far (p := ⟨gb250, _, none⟩) NB251_250.out _).trans (hHeld.1)))))), ((cell_far (p := ⟨gb250, _, none⟩) NB251_250.out _).trans (((cell_far (p := ⟨gb250, _, none⟩) NB251_250.out _).trans (((cell_far (p := ⟨gb250, _, none⟩) NB251_250.out _).trans (hHeld.2.1)))))), ((cell_far (p := ⟨gb250, _, none⟩) NB251_250.out _).trans (((cell_far (p := ⟨gb250, _, none⟩) NB251_250.out _).trans (((cell_far (p := ⟨gb250, _, none⟩) NB251_250.out _).trans (hHeld.2.2.1)))))), ((cell_far (p := ⟨gb250, _, none⟩) NB249_250.out _).trans (((cell_far (p := ⟨gb250, _, none⟩) NB249_250.out _).trans (((cell_far (p := ⟨gb250, _, none⟩) NB249_250.out _).trans (hHeld.2.2.2.1)))))), ((cell_far (p := ⟨gb250, _, none⟩) NB249_250.out _).trans (((cell_far (p := ⟨gb250, _, none⟩) NB249_250.out _).trans (((cell_far (p := ⟨gb250, _, none⟩) NB249_250.out _).trans (hHeld.2.2.2.2.1)))))), ((cell_far (p := ⟨gb250, _, none⟩) NB249_250.out _).trans (((cell_far (p := ⟨gb250, _, none⟩) NB249_250.out _).trans (((cell_far (p := ⟨gb250, _, none⟩) NB249_250.out _).trans (hHeld.2.2.2.2.2.1)))))), ((cell_far (p := ⟨gb250, _, none⟩) NB249_250.out _).trans (((cell_far (p := ⟨gb250, _, none⟩) NB249_250.out _).trans (((cell_far (p := ⟨gb250, _, none⟩) NB249_250.out _).trans (hHeld.2.2.2.2.2.2.1)))))), ((cell_far (p := ⟨gb250, _, none⟩) NB249_250.out _).trans (((cell_far (p := ⟨gb250, _, none⟩) NB249_250.out _).trans (((cell_far (p := ⟨gb250, _, none⟩) NB249_250.out _).trans (hHeld.2.2.2.2.2.2.2.1)))))), ((cell_far (p := ⟨gb250, _, none⟩) NB249_250.out _).trans (((cell_far (p := ⟨gb250, _, none⟩) NB249_250.out _).trans (((cell_far (p := ⟨gb250, _, none⟩) NB249_250.out _).trans (hHeld.2.2.2.2.2.2.2.2))))))⟩ (fun hHeld => ?_)
       clear hK K
       refine pure_ (i := 8) (N := some 5) (v := ?_) (a' := ?_) #[true, true, true, true, true, true, true, true, true, false, false] rfl rfl (any_of HT_.out (by kernel_rfl)) (fun _ _ _ h => h) (Or.inl ⟨by rfl, ?_⟩) ?_ ?_
       rotate_left
       ·intro w'
        go_simp
        with_reducible rfl
       rotate_left
       ·simp only [Act.put, List.setIfInBounds_toArray, List.set_cons_zero, List.set_cons_succ, i64_w, i32_w]
        rfl
       refine pure_ (i := 9) (N := some 6) (v := ?_) (a' := ?_) #[true, true, true, true, true, true, true, true, true, true, false] rfl rfl (any_of HT_.out (by kernel_rfl)) (fun _ _ _ h => h) (Or.inl ⟨by rfl, ?_⟩) ?_ ?_
       rotate_left
       ·intro w'
        go_simp
        with_reducible rfl
       rotate_left
       ·simp only [Act.put, List.setIfInBounds_toArray, List.set_cons_zero, List.set_cons_succ, i64_w, i32_w]
        rfl
       refine pure_ (i := 10) (N := some 7) (v := ?_) (a' := ?_) #[true, true, true, true, true, true, true, true, true, true, true] rfl rfl (any_of HT_.out (by kernel_rfl)) (fun _ _ _ h => h) (Or.inl ⟨by rfl, ?_⟩) ?_ ?_
       rotate_left
       ·intro w'
        go_simp
        with_reducible rfl
       rotate_left
       ·simp only [Act.put, List.setIfInBounds_toArray, List.set_cons_zero, List.set_cons_succ, i64_w, i32_w]
        rfl
       refine done_ (done_of HT_.out (by kernel_rfl)) ?_
       try go_wp2
       refine bodyPost_ret (results_list (rs := [.cell 4 24, .tmp 5, .tmp 6, .tmp 7]) rfl (by simp) (.cell gb250 24 #[.int .i64 (wrap64 (2 + (Int.tmod (wrap64 (a0_0)) 4))), .bool a0_1, .slice Ao40 x252002_1.length co40] (0, 0) _ rfl (by (with_reducible repeat (first | refine blk_drewN ?_ _ | refine blk_drew ?_ | refine blk_alloc ?_ _)); refine blk_put (cs := #[.int .i64 (wrap64 (2 + (Int.tmod (wrap64 (a0_0)) 4))), .bool a0_1, .slice none 0 0]) ?_ 2 _ rfl; (with_reducible repeat (first | refine blk_drewN ?_ _ | refine blk_drew ?_ | refine blk_alloc ?_ _)); refine blk_put (cs := #[.int .i64 (wrap64 (2 + (Int.tmod (wrap64 (a0_0)) 4))), .bool false, .slice none 0 0]) ?_ 1 _ rfl; (with_reducible repeat (first | refine blk_drewN ?_ _ | refine blk_drew ?_ | refine blk_alloc ?_ _)); refine blk_put (cs := #[.int .i64 0, .bool false, .slice none 0 0]) ?_ 0 _ rfl; (with_reducible repeat (first | refine blk_drewN ?_ _ | refine blk_drew ?_ | refine blk_alloc ?_ _)); exact BK250.out) Try.underlying24 rfl (by kernel_rfl) (.tmp (.tmp (.tmp .nil))))) rfl ?_
       exact ⟨_, by first | rfl | (simp [errW_none, errW_some] <;> rfl) | (simp [*, errW_none, errW_some] <;> rfl), by (with_reducible repeat (first | apply Kd.R_alloc | apply Kd.R_drewN | apply Kd.R_drew)); exact Kd.R_mono (Kd.R_far (p := ⟨gb250, 2, none⟩) (Kd.R_far (p := ⟨gb250, 1, none⟩) (Kd.R_far (p := ⟨gb250, 0, none⟩) (Kd.R_types HO_252002.out BK250.out (by decide)) (fun _ hk => hk.2) (.int .i64 (wrap64 (2 + (Int.tmod (wrap64 (a0_0)) 4))))) (fun _ hk => hk.2) (.bool a0_1)) (fun _ hk => hk.2) (.slice Ao40 x252002_1.length co40)) (fun _ hk => trivial), by repeat (first | (with_reducible first | exact HB.out | apply below_alloc | apply pw_below_drewN | apply below_drew1 | refine below_set ?_ GE249.out | refine below_set ?_ GE250.out | refine below_set ?_ GE251.out) | exact HB.out)⟩
   ·rw [if_neg c11] at H
    have c11b0 : decide (x9_1 < (l0_2.length : Int)) = false := decide_eq_false c11
    clear c11
    by_cases c42 : (wrap64 (2 + (Int.tmod (wrap64 (a0_0)) 4))) = 0
    ·rw [if_pos c42] at H
     exact absurd H (by simp)
    ·rw [if_neg c42] at H
     have c42b0 : ((wrap64 (2 + (Int.tmod (wrap64 (a0_0)) 4))) == 0) = false := beq_eq_false_iff_ne.mpr c42
     have c42b1 : ((wrap64 (2 + (Int.tmod (wrap64 (a0_0)) 4))) != 0) = true := bne_iff_ne.mpr c42
     by_cases c43 : (wrap64 ((wrap64 (2 + (Int.tmod (wrap64 (a0_0)) 4))) - 1)) = 0
     ·rw [if_pos c43] at H
      exact absurd H (by simp)
     ·rw [if_neg c43] at H
      have c43b0 : ((wrap64 ((wrap64 (2 + (Int.tmod (wrap64 (a0_0)) 4))) - 1)) == 0) = false := beq_eq_false_iff_ne.mpr c43
      have c43b1 : ((wrap64 ((wrap64 (2 + (Int.tmod (wrap64 (a0_0)) 4))) - 1)) != 0) = true := bne_iff_ne.mpr c43
      simp only [Option.some.injEq, Prod.mk.injEq] at H
      obtain ⟨rfl, rfl, rfl, rfl, rfl, rfl⟩ := H
      have hnb44 := NB249_250.out
      have hnc44 := NB250_249.out
      have hnb45 := NB249_251.out
      have hnc45 := NB251_249.out
      have hcz46_0 : wr.cell? ⟨gb249, 0, none⟩ = some (.int .u8 a0_0) := (blk_cell BK249.out 0).trans rfl
      have hcz46_1 : wr.cell? ⟨gb249, 1, none⟩ = some (.bool a0_1) := (blk_cell BK249.out 1).trans rfl
      have hcz46_2 : wr.cell? ⟨gb249, 2, none⟩ = some (.slice A0_2 l0_2.length c0_2) := (blk_cell BK249.out 2).trans rfl
      have hcz46_3 : wr.cell? ⟨gb249, 3, none⟩ = some (.int .u8 a0_3) := (blk_cell BK249.out 3).trans rfl
      have hcz46_4 : wr.cell? ⟨gb249, 4, none⟩ = some (.int .u8 a0_4) := (blk_cell BK249.out 4).trans rfl
      have hcz46_5 : wr.cell? ⟨gb249, 5, none⟩ = some (.int .u8 a0_5) := (blk_cell BK249.out 5).trans rfl
      have hfz46_0 := blk_frozen BK249.out 0
      have hfz46_1 := blk_frozen BK249.out 1
      have hfz46_2 := blk_frozen BK249.out 2
      have hfz46_3 := blk_frozen BK249.out 3
      have hfz46_4 := blk_frozen BK249.out 4
      have hfz46_5 := blk_frozen BK249.out 5
      have hnb47 := NB251_250.out
      have hnc47 := NB250_251.out
      have hcz48_0 : wr.cell? ⟨gb251, 0, none⟩ = some (.int .i64 (wrap64 (2 + (Int.tmod (wrap64 (a0_0)) 4)))) := (blk_cell BK251.out 0).trans rfl
      have hcz48_1 : wr.cell? ⟨gb251, 1, none⟩ = some (.bool a0_1) := (blk_cell BK251.out 1).trans rfl
      have hcz48_2 : wr.cell? ⟨gb251, 2, none⟩ = some (u252002) := (blk_cell BK251.out 2).trans rfl
      have hfz48_0 := blk_frozen BK251.out 0
      have hfz48_1 := blk_frozen BK251.out 1
      have hfz48_2 := blk_frozen BK251.out 2
      try go_wp2
      have n0_ := Aside0.mk (Kd.R_drew HO_252002.out)
      have n1_ := Aside0.mk (blk_drew BK249.out)
      have n2_ := Aside0.mk (blk_drew BK250.out)
      have n3_ := Aside0.mk (blk_drew BK251.out)
      have n4_ := Aside0.mk (below_drew1 HB.out)
      clear HO_252002
      clear BK249
      clear BK250
      clear BK251
      clear HB
      have HO_252002 := n0_
      have BK249 := n1_
      have BK250 := n2_
      have BK251 := n3_
      have HB := n4_
      clear n0_ n1_ n2_ n3_ n4_
      refine start_ (n := 14) (S := fun w' => w'.cell? ⟨gb249, 0, none⟩ = some (.int .u8 a0_0) ∧ w'.cell? ⟨gb249, 1, none⟩ = some (.bool a0_1) ∧ w'.cell? ⟨gb249, 2, none⟩ = some (.slice A0_2 l0_2.length c0_2) ∧ w'.cell? ⟨gb249, 3, none⟩ = some (.int .u8 a0_3) ∧ w'.cell? ⟨gb249, 4, none⟩ = some (.int .u8 a0_4) ∧ w'.cell? ⟨gb249, 5, none⟩ = some (.int .u8 a0_5) ∧ w'.cell? ⟨gb251, 0, none⟩ = some (.int .i64 (wrap64 (2 + (Int.tmod (wrap64 (a0_0)) 4)))) ∧ w'.cell? ⟨gb251, 1, none⟩ = some (.bool a0_1) ∧ w'.cell? ⟨gb251, 2, none⟩ = some (u252002)) (ds := []) #[false, false, false, false, false, false, false, false, false, false, false, false, false, false] (by kernel_rfl) rfl rfl ⟨(blk_cell BK249.out 0).trans rfl, (blk_cell BK249.out 1).trans rfl, (blk_cell BK249.out 2).trans rfl, (blk_cell BK249.out 3).trans rfl, (blk_cell BK249.out 4).trans rfl, (blk_cell BK249.out 5).trans rfl, (blk_cell BK251.out 0).trans rfl, (blk_cell BK251.out 1).trans rfl, (blk_cell BK251.out 2).trans rfl⟩ (fun hHeld => ?_); refine with_tabW ebbtidelaw12_Read.tab8 ebbtidelaw12_Read.bits8 (fun HT_ HW_ => ?_)
      generalize wr.drew = w49 at HO_252002 BK249 BK250 BK251 HB hHeld ⊢
      refine pure_ (i := 0) (N := some 70) (v := ?_) (a' := ?_) #[true, false, false, false, false, false, false, false, false, false, false, false, false, false] rfl rfl (any_of HT_.out (by kernel_rfl)) (fun _ _ _ h => h) (Or.inl ⟨by rfl, ?_⟩) ?_ ?_
      rotate_left
      ·intro w'
       go_simp
       with_reducible rfl
      rotate_left
      ·simp only [Act.put, List.setIfInBounds_toArray, List.set_cons_zero, List.set_cons_succ, i64_w, i32_w]
       rfl
      refine pure_ (i := 1) (N := some 71) (v := ?_) (a' := ?_) #[true, true, false, false, false, false, false, false, false, false, false, false, false, false] rfl rfl (any_of HT_.out (by kernel_rfl)) (fun _ _ _ h => h) (Or.inl ⟨by rfl, ?_⟩) ?_ ?_
      rotate_left
      ·intro w'
       go_simp
       with_reducible rfl
      rotate_left
      ·simp only [Act.put, List.setIfInBounds_toArray, List.set_cons_zero, List.set_cons_succ, i64_w, i32_w]
       rfl
      refine pure_ (i := 2) (N := some 72) (v := ?_) (a' := ?_) #[true, true, true, false, false, false, false, false, false, false, false, false, false, false] rfl rfl (any_of HT_.out (by kernel_rfl)) (fun _ _ _ h => h) (Or.inl ⟨by rfl, ?_⟩) ?_ ?_
      rotate_left
      ·intro w'
       go_simp
       with_reducible rfl
      rotate_left
      ·simp only [Act.put, List.setIfInBounds_toArray, List.set_cons_zero, List.set_cons_succ, i64_w, i32_w]
       rfl
      refine pure_ (i := 5) (N := some 75) (v := ?_) (a' := ?_) #[true, true, true, false, false, true, false, false, false, false, false, false, false, false] rfl rfl (any_of HT_.out (by kernel_rfl)) (fun _ _ _ h => h) (Or.inl ⟨by rfl, ?_⟩) ?_ ?_
      rotate_left
      ·intro w'
       go_simp
       with_reducible rfl
      rotate_left
      ·simp only [Act.put, List.setIfInBounds_toArray, List.set_cons_zero, List.set_cons_succ, i64_w, i32_w]
       rfl
      refine pure_ (i := 10) (N := some 80) (v := ?_) (a' := ?_) #[true, true, true, false, false, true, false, false, false, false, true, false, false, false] rfl rfl (any_of HT_.out (by kernel_rfl)) (fun _ _ _ h => h) (Or.inl ⟨by rfl, ?_⟩) ?_ ?_
      rotate_left
      ·intro w'
       go_simp
       with_reducible rfl
      rotate_left
      ·simp only [Act.put, List.setIfInBounds_toArray, List.set_cons_zero, List.set_cons_succ, i64_w, i32_w]
       rfl
      refine take_ (i := 3) (N := some 73) (v := ?_) (a' := ?_) #[true, true, true, true, false, true, false, false, false, false, true, false, false, false] rfl rfl (take_ofW HT_.out HW_.out (by kernel_rfl)) (fun _ _ _ h => h) (Or.inl ⟨by rfl, ?_⟩) hHeld ?_ ?_
      rotate_left
      ·rintro w' ⟨s0, s1, s2, s3, s4, s5, s6, s7, s8⟩
       go_simp
       with_reducible rfl
      rotate_left
      ·simp only [Act.put, List.setIfInBounds_toArray, List.set_cons_zero, List.set_cons_succ, i64_w, i32_w]
       rfl
      refine pure_ (i := 4) (N := some 74) (v := ?_) (a' := ?_) #[true, true, true, true, true, true, false, false, false, false, true, false, false, false] rfl rfl (any_of HT_.out (by kernel_rfl)) (fun _ _ _ h => h) (Or.inl ⟨by rfl, ?_⟩) ?_ ?_
      rotate_left
      ·intro w'
       go_simp
       with_reducible rfl
      rotate_left
      ·simp only [Act.put, List.setIfInBounds_toArray, List.set_cons_zero, List.set_cons_succ, i64_w, i32_w]
       rfl
      refine take_ (i := 6) (N := some 76) (v := ?_) (a' := ?_) #[true, true, true, true, true, true, true, false, false, false, true, false, false, false] rfl rfl (take_ofW HT_.out HW_.out (by kernel_rfl)) (fun _ _ _ h => h) (Or.inl ⟨by rfl, ?_⟩) hHeld ?_ ?_
      rotate_left
      ·rintro w' ⟨s0, s1, s2, s3, s4, s5, s6, s7, s8⟩
       go_simp
       with_reducible rfl
      rotate_left
      ·simp only [Act.put, List.setIfInBounds_toArray, List.set_cons_zero, List.set_cons_succ, i64_w, i32_w]
       rfl
      refine pure_ (i := 7) (N := some 77) (v := ?_) (a' := ?_) #[true, true, true, true, true, true, true, true, false, false, true, false, false, false] rfl rfl (any_of HT_.out (by kernel_rfl)) (fun _ _ _ h => h) (Or.inl ⟨by rfl, ?_⟩) ?_ ?_
      rotate_left
      ·intro w'
       go_simp
       with_reducible rfl
      rotate_left
      ·simp only [Act.put, List.setIfInBounds_toArray, List.set_cons_zero, List.set_cons_succ, i64_w, i32_w]
       rfl
      refine pure_ (i := 8) (N := some 78) (v := ?_) (a' := ?_) #[true, true, true, true, true, true, true, true, true, false, true, false, false, false] rfl rfl (any_of HT_.out (by kernel_rfl)) (fun _ _ _ h => h) (Or.inl ⟨by rfl, ?_⟩) ?_ ?_
      rotate_left
      ·intro w'
       go_simp
       with_reducible rfl
      rotate_left
      ·simp only [Act.put, List.setIfInBounds_toArray, List.set_cons_zero, List.set_cons_succ, i64_w, i32_w]
       rfl
      refine pure_ (i := 9) (N := some 79) (v := ?_) (a' := ?_) #[true, true, true, true, true, true, true, true, true, true, true, false, false, false] rfl rfl (any_of HT_.out (by kernel_rfl)) (fun _ _ _ h => h) (Or.inl ⟨by rfl, ?_⟩) ?_ ?_
      rotate_left
      ·intro w'
       go_simp
       with_reducible rfl
      rotate_left
      ·simp only [Act.put, List.setIfInBounds_toArray, List.set_cons_zero, List.set_cons_succ, i64_w, i32_w]
       rfl
      refine take_ (i := 11) (N := some 81) (v := ?_) (a' := ?_) #[true, true, true, true, true, true, true, true, true, true, true, true, false, false] rfl rfl (take_ofW HT_.out HW_.out (by kernel_rfl)) (fun _ _ _ h => h) (Or.inl ⟨by rfl, ?_⟩) hHeld ?_ ?_
      rotate_left
      ·rintro w' ⟨s0, s1, s2, s3, s4, s5, s6, s7, s8⟩
       go_simp
       with_reducible rfl
      rotate_left
      ·simp only [Act.put, List.setIfInBounds_toArray, List.set_cons_zero, List.set_cons_succ, i64_w, i32_w]
       rfl
      refine pure_ (i := 12) (N := some 82) (v := ?_) (a' := ?_) #[true, true, true, true, true, true, true, true, true, true, true, true, true, false] rfl rfl (any_of HT_.out (by kernel_rfl)) (fun _ _ _ h => h) (Or.inl ⟨by rfl, ?_⟩) ?_ ?_
      rotate_left
      ·intro w'
       go_simp
       with_reducible rfl
      rotate_left
      ·simp only [Act.put, List.setIfInBounds_toArray, List.set_cons_zero, List.set_cons_succ, i64_w, i32_w]
       rfl
      refine pure_ (i := 13) (N := some 12) (v := ?_) (a' := ?_) #[true, true, true, true, true, true, true, true, true, true, true, true, true, true] rfl rfl (any_of HT_.out (by kernel_rfl)) (fun _ _ _ h => h) (Or.inl ⟨by rfl, ?_⟩) ?_ ?_
      rotate_left
      ·intro w'
       go_simp
       with_reducible rfl
      rotate_left
      ·simp only [Act.put, List.setIfInBounds_toArray, List.set_cons_zero, List.set_cons_succ, i64_w, i32_w]
       rfl
      refine done_ (done_of HT_.out (by kernel_rfl)) ?_
      try go_wp2
      have n0_ := Aside0.mk (Kd.R_drew HO_252002.out)
      have n1_ := Aside0.mk (blk_drew BK249.out)
      have n2_ := Aside0.mk (blk_drew BK250.out)
      have n3_ := Aside0.mk (blk_drew BK251.out)
      have n4_ := Aside0.mk (below_drew1 HB.out)
      clear HO_252002
      clear BK249
      clear BK250
      clear BK251
      clear HB
      have HO_252002 := n0_
      have BK249 := n1_
      have BK250 := n2_
      have BK251 := n3_
      have HB := n4_
      clear n0_ n1_ n2_ n3_ n4_
      obtain ⟨Ao53, co53, eo53⟩ := Kd.R_slice HO_252002.out
      (first | subst eo53 | (injection eo53 with f1_ f2_ f3_; have f4_ := f1_.symm; have f5_ := f3_.symm; clear f1_ f2_ f3_; subst f4_; subst f5_))
      refine start_ (n := 11) (S := fun w' => w'.cell? ⟨gb251, 0, none⟩ = some (.int .i64 (wrap64 (2 + (Int.tmod (wrap64 (a0_0)) 4)))) ∧ w'.cell? ⟨gb251, 1, none⟩ = some (.bool a0_1) ∧ w'.cell? ⟨gb251, 2, none⟩ = some (.slice Ao53 x252002_1.length co53) ∧ w'.cell? ⟨gb249, 0, none⟩ = some (.int .u8 a0_0) ∧ w'.cell? ⟨gb249, 1, none⟩ = some (.bool a0_1) ∧ w'.cell? ⟨gb249, 2, none⟩ = some (.slice A0_2 l0_2.length c0_2) ∧ w'.cell? ⟨gb249, 3, none⟩ = some (.int .u8 a0_3) ∧ w'.cell? ⟨gb249, 4, none⟩ = some (.int .u8 a0_4) ∧ w'.cell? ⟨gb249, 5, none⟩ = some (.int .u8 a0_5)) (ds := []) #[false, false, false, false, false, false, false, false, false, false, false] (by kernel_rfl) rfl rfl ⟨(blk_cell BK251.out 0).trans rfl, (blk_cell BK251.out 1).trans rfl, (blk_cell BK251.out 2).trans rfl, (blk_cell BK249.out 0).trans rfl, (blk_cell BK249.out 1).trans rfl, (blk_cell BK249.out 2).trans rfl, (blk_cell BK249.out 3).trans rfl, (blk_cell BK249.out 4).trans rfl, (blk_cell BK249.out 5).trans rfl⟩ (fun hHeld => ?_); refine with_tabW ebbtidelaw12_Read.tab9 ebbtidelaw12_Read.bits9 (fun HT_ HW_ => ?_)
      generalize w49.drew = w50 at HO_252002 BK249 BK250 BK251 HB hHeld ⊢
      refine pure_ (i := 1) (N := some 84) (v := ?_) (a' := ?_) #[false, true, false, false, false, false, false, false, false, false, false] rfl rfl (any_of HT_.out (by kernel_rfl)) (fun _ _ _ h => h) (Or.inl ⟨by rfl, ?_⟩) ?_ ?_
      rotate_left
      ·intro w'
       go_simp
       with_reducible rfl
      rotate_left
      ·simp only [Act.put, List.setIfInBounds_toArray, List.set_cons_zero, List.set_cons_succ, i64_w, i32_w]
       rfl
      refine pure_ (i := 2) (N := some 85) (v := ?_) (a' := ?_) #[false, true, true, false, false, false, false, false, false, false, false] rfl rfl (any_of HT_.out (by kernel_rfl)) (fun _ _ _ h => h) (Or.inl ⟨by rfl, ?_⟩) ?_ ?_
      rotate_left
      ·intro w'
       go_simp
       with_reducible rfl
      rotate_left
      ·simp only [Act.put, List.setIfInBounds_toArray, List.set_cons_zero, List.set_cons_succ, i64_w, i32_w]
       rfl
      refine pure_ (i := 3) (N := some 86) (v := ?_) (a' := ?_) #[false, true, true, true, false, false, false, false, false, false, false] rfl rfl (any_of HT_.out (by kernel_rfl)) (fun _ _ _ h => h) (Or.inl ⟨by rfl, ?_⟩) ?_ ?_
      rotate_left
      ·intro w'
       go_simp
       with_reducible rfl
      rotate_left
      ·simp only [Act.put, List.setIfInBounds_toArray, List.set_cons_zero, List.set_cons_succ, i64_w, i32_w]
       rfl
      refine take_ (i := 0) (N := some 83) (v := ?_) (a' := ?_) #[true, true, true, true, false, false, false, false, false, false, false] rfl rfl (take_ofW HT_.out HW_.out (by kernel_rfl)) (fun _ _ _ h => h) (Or.inl ⟨by rfl, ?_⟩) hHeld ?_ ?_
      rotate_left
      ·rintro w' ⟨s0, s1, s2, s3, s4, s5, s6, s7, s8⟩
       go_simp
       with_reducible rfl
      rotate_left
      ·simp only [Act.put, List.setIfInBounds_toArray, List.set_cons_zero, List.set_cons_succ, i64_w, i32_w]
       rfl
      refine take_ (i := 4) (N := some 87) (v := ?_) (a' := ?_) #[true, true, true, true, true, false, false, false, false, false, false] rfl rfl (take_ofW HT_.out HW_.out (by kernel_rfl)) (fun _ _ _ h => h) (Or.inl ⟨by rfl, ?_⟩) hHeld ?_ ?_
      rotate_left
      ·rintro w' ⟨s0, s1, s2, s3, s4, s5, s6, s7, s8⟩
       go_simp
       with_reducible rfl
      rotate_left
      ·simp only [Act.put, List.setIfInBounds_toArray, List.set_cons_zero, List.set_cons_succ, i64_w, i32_w]
       rfl
      refine pure_ (i := 5) (N := some 88) (v := ?_) (a' := ?_) #[true, true, true, true, true, true, false, false, false, false, false] rfl rfl (any_of HT_.out (by kernel_rfl)) (fun _ _ _ h => h) (Or.inl ⟨by rfl, ?_⟩) ?_ ?_
      rotate_left
      ·intro w'
       go_simp
       with_reducible rfl
      rotate_left
      ·simp only [Act.put, List.setIfInBounds_toArray, List.set_cons_zero, List.set_cons_succ, i64_w, i32_w]
       rfl
      refine pure_ (i := 6) (N := some 89) (v := ?_) (a' := ?_) #[true, true, true, true, true, true, true, false, false, false, false] rfl rfl (any_of HT_.out (by kernel_rfl)) (fun _ _ _ h => h) (Or.inl ⟨by rfl, ?_⟩) ?_ ?_
      rotate_left
      ·intro w'
       go_simp
       with_reducible rfl
      rotate_left
      ·simp only [Act.put, List.setIfInBounds_toArray, List.set_cons_zero, List.set_cons_succ, i64_w, i32_w]
       rfl
      refine one_ (i := 7) (N := none) #[true, true, true, true, true, true, true, true, false, false, false] rfl rfl (one_of HT_.out (by kernel_rfl)) (by decide) (fun K hK => ?_)
      have hs51 : w50.cell? ⟨gb250, 0, none⟩ = some (.int .i64 0) := (blk_cell BK250.out 0).trans rfl
      have hfs51 := blk_frozen BK250.out 0
      have hns51_0 := NB249_250.out
      have hns51_2 := NB251_250.out
      have hms51_0 := NB250_249.out
      have hms51_2 := NB250_251.out
      have hs52 : w50.cell? ⟨gb250, 1, none⟩ = some (.bool false) := (blk_cell BK250.out 1).trans rfl
      have hfs52 := blk_frozen BK250.out 1
      have hns52_0 := NB249_250.out
      have hns52_2 := NB251_250.out
      have hms52_0 := NB250_249.out
      have hms52_2 := NB250_251.out
      have hs54 : w50.cell? ⟨gb250, 2, none⟩ = some (.slice none 0 0) := (blk_cell BK250.out 2).trans rfl
      have hfs54 := blk_frozen BK250.out 2
      have hns54_0 := NB249_250.out
      have hns54_2 := NB251_250.out
      have hms54_0 := NB250_249.out
      have hms54_2 := NB250_251.out
      refine skip_ (w1 := ?_) (by rfl) rfl ?_ ?_
      rotate_left
      ·go_simp
       rfl
      refine hK.out _ _ ⟨((cell_far (p := ⟨gb250, _, none⟩) NB251_250.out _).trans (((cell_far (p := ⟨gb250, _, none⟩) NB251_250.out _).trans (((cell_far (p := ⟨gb250, _, none⟩) NB251_250.out _).trans (hHeld.1)))))), ((cell_far (p := ⟨gb250, _, none⟩) NB251_250.out _).trans (((cell_far (p := ⟨gb250, _, none⟩) NB251_250.out _).trans (((cell_far (p := ⟨gb250, _, none⟩) NB251_250.out _).trans (hHeld.2.1)))))), ((cell_far (p := ⟨gb250, _, none⟩) NB251_250.out _).trans (((cell_far (p := ⟨gb250, _, none⟩) NB251_250.out _).trans (((cell_far (p := ⟨gb250, _, none⟩) NB251_250.out _).trans (hHeld.2.2.1)))))), ((cell_far (p := ⟨gb250, _, none⟩) NB249_250.out _).trans (((cell_far (p := ⟨gb250, _, none⟩) NB249_250.out _).trans (((cell_far (p := ⟨gb250, _, none⟩) NB249_250.out _).trans (hHeld.2.2.2.1)))))), ((cell_far (p := ⟨gb250, _, none⟩) NB249_250.out _).trans (((cell_far (p := ⟨gb250, _, none⟩) NB249_250.out _).trans (((cell_far (p := ⟨gb250, _, none⟩) NB249_250.out _).trans (hHeld.2.2.2.2.1)))))), ((cell_far (p := ⟨gb250, _, none⟩) NB249_250.out _).trans (((cell_far (p := ⟨gb250, _, none⟩) NB249_250.out _).trans (((cell_far (p := ⟨gb250, _, none⟩) NB249_250.out _).trans (hHeld.2.2.2.2.2.1)))))), ((cell_far (p := ⟨gb250, _, none⟩) NB249_250.out _).trans (((cell_far (p := ⟨gb250, _, none⟩) NB249_250.out _).trans (((cell_far (p := ⟨gb250, _, none⟩) NB249_250.out _).trans (hHeld.2.2.2.2.2.2.1)))))), ((cell_far (p := ⟨gb250, _, none⟩) NB249_250.out _).trans (((cell_far (p := ⟨gb250, _, none⟩) NB249_250.out _).trans (((cell_far (p := ⟨gb250, _, none⟩) NB249_250.out _).trans (hHeld.2.2.2.2.2.2.2.1)))))), ((cell_far (p := ⟨gb250, _, none⟩) NB249_250.out _).trans (((cell_far (p := ⟨gb250, _, none⟩) NB249_250.out _).trans (((cell_far (p := ⟨gb250, _, none⟩) NB249_250.out _).trans (hHeld.2.2.2.2.2.2.2.2))))))⟩ (fun hHeld => ?_)
      clear hK K
      refine pure_ (i := 8) (N := some 5) (v := ?_) (a' := ?_) #[true, true, true, true, true, true, true, true, true, false, false] rfl rfl (any_of HT_.out (by kernel_rfl)) (fun _ _ _ h => h) (Or.inl ⟨by rfl, ?_⟩) ?_ ?_
      rotate_left
      ·intro w'
       go_simp
       with_reducible rfl
      rotate_left
      ·simp only [Act.put, List.setIfInBounds_toArray, List.set_cons_zero, List.set_cons_succ, i64_w, i32_w]
       rfl
      refine pure_ (i := 9) (N := some 6) (v := ?_) (a' := ?_) #[true, true, true, true, true, true, true, true, true, true, false] rfl rfl (any_of HT_.out (by kernel_rfl)) (fun _ _ _ h => h) (Or.inl ⟨by rfl, ?_⟩) ?_ ?_
      rotate_left
      ·intro w'
       go_simp
       with_reducible rfl
      rotate_left
      ·simp only [Act.put, List.setIfInBounds_toArray, List.set_cons_zero, List.set_cons_succ, i64_w, i32_w]
       rfl
      refine pure_ (i := 10) (N := some 7) (v := ?_) (a' := ?_) #[true, true, true, true, true, true, true, true, true, true, true] rfl rfl (any_of HT_.out (by kernel_rfl)) (fun _ _ _ h => h) (Or.inl ⟨by rfl, ?_⟩) ?_ ?_
      rotate_left
      ·intro w'
       go_simp
       with_reducible rfl
      rotate_left
      ·simp only [Act.put, List.setIfInBounds_toArray, List.set_cons_zero, List.set_cons_succ, i64_w, i32_w]
       rfl
      refine done_ (done_of HT_.out (by kernel_rfl)) ?_
      try go_wp2
      refine bodyPost_ret (results_list (rs := [.cell 4 24, .tmp 5, .tmp 6, .tmp 7]) rfl (by simp) (.cell gb250 24 #[.int .i64 (wrap64 (2 + (Int.tmod (wrap64 (a0_0)) 4))), .bool a0_1, .slice Ao53 x252002_1.length co53] (0, 0) _ rfl (by (with_reducible repeat (first | refine blk_drewN ?_ _ | refine blk_drew ?_ | refine blk_alloc ?_ _)); refine blk_put (cs := #[.int .i64 (wrap64 (2 + (Int.tmod (wrap64 (a0_0)) 4))), .bool a0_1, .slice none 0 0]) ?_ 2 _ rfl; (with_reducible repeat (first | refine blk_drewN ?_ _ | refine blk_drew ?_ | refine blk_alloc ?_ _)); refine blk_put (cs := #[.int .i64 (wrap64 (2 + (Int.tmod (wrap64 (a0_0)) 4))), .bool false, .slice none 0 0]) ?_ 1 _ rfl; (with_reducible repeat (first | refine blk_drewN ?_ _ | refine blk_drew ?_ | refine blk_alloc ?_ _)); refine blk_put (cs := #[.int .i64 0, .bool false, .slice none 0 0]) ?_ 0 _ rfl; (with_reducible repeat (first | refine blk_drewN ?_ _ | refine blk_drew ?_ | refine blk_alloc ?_ _)); exact BK250.out) Try.underlying24 rfl (by kernel_rfl) (.tmp (.tmp (.tmp .nil))))) rfl ?_
      exact ⟨_, by first | rfl | (simp [errW_none, errW_some] <;> rfl) | (simp [*, errW_none, errW_some] <;> rfl), by (with_reducible repeat (first | apply Kd.R_alloc | apply Kd.R_drewN | apply Kd.R_drew)); exact Kd.R_mono (Kd.R_far (p := ⟨gb250, 2, none⟩) (Kd.R_far (p := ⟨gb250, 1, none⟩) (Kd.R_far (p := ⟨gb250, 0, none⟩) (Kd.R_types HO_252002.out BK250.out (by decide)) (fun _ hk => hk.2) (.int .i64 (wrap64 (2 + (Int.tmod (wrap64 (a0_0)) 4))))) (fun _ hk => hk.2) (.bool a0_1)) (fun _ hk => hk.2) (.slice Ao53 x252002_1.length co53)) (fun _ hk => trivial), by repeat (first | (with_reducible first | exact HB.out | apply below_alloc | apply pw_below_drewN | apply below_drew1 | refine below_set ?_ GE249.out | refine below_set ?_ GE250.out | refine below_set ?_ GE251.out) | exact HB.out)⟩

end Go.Proofs.Ytagppmdgmppmnaa.P

-- Laid by wip/tool/mk.py, by the kit's print.py, for all laws of this seat in one namespace; a function told as by hand has a proof of this session's own.
namespace Go.Proofs.Ytagppmdgmppmnaa.P
open Go.RowKit Go.Proofs.YtagppmdgmppmnaaW.PrintWords Go.Proofs.YtagppmdgmppmnaaW.PrintLast Go.Proofs.YtagppmdgmppmnaaW.PrintMore
attribute [local go_sem] max2_int min2_int max_two min_two max_three min_three max_four min_four   -- for this text's walks alone
set_option linter.unusedVariables false
set_option linter.unusedSimpArgs false

/-! ### ebbtidelaw18_Made: function 18 -/
mutual
def ebbtidelaw18_Made.l0 : Nat → Int → Int → Int → List Int → List (S59) → Int → Int → Bool → List (S69) → Option ((List (S59)))
 | 0, _, _, _, _, _, _, _, _, _ => none
 | k + 1, x1, x2, x3, x4, x11, x12, x258000, x258001, x258002 => if x12 ≤ x3 then (ebbtidelaw18_Made.l1 k x1 x2 x3 x4 x11 x12 0 x258000 x258001 x258002) else (some x11)
def ebbtidelaw18_Made.l1 : Nat → Int → Int → Int → List Int → List (S59) → Int → Int → Int → Bool → List (S69) → Option ((List (S59)))
 | 0, _, _, _, _, _, _, _, _, _, _ => none
 | k + 1, x1, x2, x3, x4, x11, x12, x13, x258000, x258001, x258002 => if x13 < x258000 then (if x13 < (x4.length : Int) then (if 0 ≤ x13 then (ebbtidelaw18_Made.j2 k x1 x2 x3 x4 x11 x12 x13 (rd x4 x13) x258000 x258001 x258002) else (none)) else (ebbtidelaw18_Made.j2 k x1 x2 x3 x4 x11 x12 x13 0 x258000 x258001 x258002)) else (ebbtidelaw18_Made.l0 k x1 x2 x3 x4 x11 (wrap64 (x12 + 1)) x258000 x258001 x258002)
def ebbtidelaw18_Made.j2 : Nat → Int → Int → Int → List Int → List (S59) → Int → Int → Int → Int → Bool → List (S69) → Option ((List (S59)))
 | 0, _, _, _, _, _, _, _, _, _, _, _ => none
 | k + 1, x1, x2, x3, x4, x11, x12, x13, x14, x258000, x258001, x258002 => if 0 ≤ x12 then (if x258001 = true then (if (wrap64 (x3 + 2)) = 0 then (none) else (if x13 = x1 then (if x11.length < 8796093022208 then (ebbtidelaw18_Made.l1 k x1 x2 x3 x4 (x11 ++ [(⟨x13, x12⟩ : S59)]) x12 (wrap64 (x13 + 1)) x258000 x258001 x258002) else (none)) else (if x13 = x2 then (ebbtidelaw18_Made.l1 k x1 x2 x3 x4 x11 x12 (wrap64 (x13 + 1)) x258000 x258001 x258002) else (if (Int.tmod (wrap64 (x14)) (wrap64 (x3 + 2))) ≤ x12 then (if x11.length < 8796093022208 then (ebbtidelaw18_Made.l1 k x1 x2 x3 x4 (x11 ++ [(⟨x13, x12⟩ : S59)]) x12 (wrap64 (x13 + 1)) x258000 x258001 x258002) else (none)) else (ebbtidelaw18_Made.l1 k x1 x2 x3 x4 x11 x12 (wrap64 (x13 + 1)) x258000 x258001 x258002))))) else (if x13 = x1 then (if x11.length < 8796093022208 then (ebbtidelaw18_Made.l1 k x1 x2 x3 x4 (x11 ++ [(⟨x13, x12⟩ : S59)]) x12 (wrap64 (x13 + 1)) x258000 x258001 x258002) else (none)) else (if x13 = x2 then (ebbtidelaw18_Made.l1 k x1 x2 x3 x4 x11 x12 (wrap64 (x13 + 1)) x258000 x258001 x258002) else (if (Go.bits .and .u16 (shr .u16 x14 x12) 1) = 1 then (if x11.length < 8796093022208 then (ebbtidelaw18_Made.l1 k x1 x2 x3 x4 (x11 ++ [(⟨x13, x12⟩ : S59)]) x12 (wrap64 (x13 + 1)) x258000 x258001 x258002) else (none)) else (ebbtidelaw18_Made.l1 k x1 x2 x3 x4 x11 x12 (wrap64 (x13 + 1)) x258000 x258001 x258002))))) else (none)
end
def ebbtidelaw18_Made.f (k : Nat) (a0_0 : Int) (a0_1 : Bool) (l0_2 : List (S69)) (a1 : Int) (a2 : Int) (a3 : Int) (l4 : List Int) : Option ((List (S59))) := ebbtidelaw18_Made.l0 k a1 a2 a3 l4 ([] : List (S59)) 0 a0_0 a0_1 l0_2
theorem ebbtidelaw18_Made.mono_l : ∀ k, (∀ y0 y1 y2 y3 y4 y5 y6 y7 y8, LeO (ebbtidelaw18_Made.l0 k y0 y1 y2 y3 y4 y5 y6 y7 y8) (ebbtidelaw18_Made.l0 (k + 1) y0 y1 y2 y3 y4 y5 y6 y7 y8)) ∧ (∀ y0 y1 y2 y3 y4 y5 y6 y7 y8 y9, LeO (ebbtidelaw18_Made.l1 k y0 y1 y2 y3 y4 y5 y6 y7 y8 y9) (ebbtidelaw18_Made.l1 (k + 1) y0 y1 y2 y3 y4 y5 y6 y7 y8 y9)) ∧ (∀ y0 y1 y2 y3 y4 y5 y6 y7 y8 y9 y10, LeO (ebbtidelaw18_Made.j2 k y0 y1 y2 y3 y4 y5 y6 y7 y8 y9 y10) (ebbtidelaw18_Made.j2 (k + 1) y0 y1 y2 y3 y4 y5 y6 y7 y8 y9 y10))
 | 0 => ⟨fun _ _ _ _ _ _ _ _ _ r h => by simp [ebbtidelaw18_Made.l0] at h, fun _ _ _ _ _ _ _ _ _ _ r h => by simp [ebbtidelaw18_Made.l1] at h, fun _ _ _ _ _ _ _ _ _ _ _ r h => by simp [ebbtidelaw18_Made.j2] at h⟩
 | k + 1 => by
  obtain ⟨ih0, ih1, ih2⟩ := ebbtidelaw18_Made.mono_l k
  refine ⟨?_, ?_, ?_⟩
  ·intro y0 y1 y2 y3 y4 y5 y6 y7 y8
   unfold ebbtidelaw18_Made.l0
   repeat' first
   | (with_reducible exact ih0 _ _ _ _ _ _ _ _ _)
   | (with_reducible exact ih1 _ _ _ _ _ _ _ _ _ _)
   | (with_reducible exact ih2 _ _ _ _ _ _ _ _ _ _ _)
   | (with_reducible exact LeO.refl _)
   | (with_reducible exact LeO.none _)
   | (with_reducible refine LeO.ite ?_ ?_)
   | (with_reducible refine LeO.bind ?_ (fun _ => ?_))
   | exact ih0 _ _ _ _ _ _ _ _ _
   | exact ih1 _ _ _ _ _ _ _ _ _ _
   | exact ih2 _ _ _ _ _ _ _ _ _ _ _
   | exact LeO.none _
   | refine LeO.ite ?_ ?_
   | refine LeO.bind ?_ (fun _ => ?_)
  ·intro y0 y1 y2 y3 y4 y5 y6 y7 y8 y9
   unfold ebbtidelaw18_Made.l1
   repeat' first
   | (with_reducible exact ih0 _ _ _ _ _ _ _ _ _)
   | (with_reducible exact ih1 _ _ _ _ _ _ _ _ _ _)
   | (with_reducible exact ih2 _ _ _ _ _ _ _ _ _ _ _)
   | (with_reducible exact LeO.refl _)
   | (with_reducible exact LeO.none _)
   | (with_reducible refine LeO.ite ?_ ?_)
   | (with_reducible refine LeO.bind ?_ (fun _ => ?_))
   | exact ih0 _ _ _ _ _ _ _ _ _
   | exact ih1 _ _ _ _ _ _ _ _ _ _
   | exact ih2 _ _ _ _ _ _ _ _ _ _ _
   | exact LeO.none _
   | refine LeO.ite ?_ ?_
   | refine LeO.bind ?_ (fun _ => ?_)
  ·intro y0 y1 y2 y3 y4 y5 y6 y7 y8 y9 y10
   unfold ebbtidelaw18_Made.j2
   repeat' first
   | (with_reducible exact ih0 _ _ _ _ _ _ _ _ _)
   | (with_reducible exact ih1 _ _ _ _ _ _ _ _ _ _)
   | (with_reducible exact ih2 _ _ _ _ _ _ _ _ _ _ _)
   | (with_reducible exact LeO.refl _)
   | (with_reducible exact LeO.none _)
   | (with_reducible refine LeO.ite ?_ ?_)
   | (with_reducible refine LeO.bind ?_ (fun _ => ?_))
   | exact ih0 _ _ _ _ _ _ _ _ _
   | exact ih1 _ _ _ _ _ _ _ _ _ _
   | exact ih2 _ _ _ _ _ _ _ _ _ _ _
   | exact LeO.none _
   | refine LeO.ite ?_ ?_
   | refine LeO.bind ?_ (fun _ => ?_)
theorem ebbtidelaw18_Made.mono : ∀ a0 a1 a2 a3 a4 a5 a6 k, LeO (ebbtidelaw18_Made.f k a0 a1 a2 a3 a4 a5 a6) (ebbtidelaw18_Made.f (k + 1) a0 a1 a2 a3 a4 a5 a6) := by
 intro a0 a1 a2 a3 a4 a5 a6 k
 obtain ⟨ih0, ih1, ih2⟩ := ebbtidelaw18_Made.mono_l k
 unfold ebbtidelaw18_Made.f
 repeat' first
   | (with_reducible exact ih0 _ _ _ _ _ _ _ _ _)
   | (with_reducible exact ih1 _ _ _ _ _ _ _ _ _ _)
   | (with_reducible exact ih2 _ _ _ _ _ _ _ _ _ _ _)
   | (with_reducible exact LeO.refl _)
   | (with_reducible exact LeO.none _)
   | (with_reducible refine LeO.ite ?_ ?_)
   | (with_reducible refine LeO.bind ?_ (fun _ => ?_))
   | exact ih0 _ _ _ _ _ _ _ _ _
   | exact ih1 _ _ _ _ _ _ _ _ _ _
   | exact ih2 _ _ _ _ _ _ _ _ _ _ _
   | exact LeO.none _
   | refine LeO.ite ?_ ?_
   | refine LeO.bind ?_ (fun _ => ?_)
set_option maxHeartbeats 8000000 in
set_option maxRecDepth 100000 in
theorem ebbtidelaw18_Made.calls (k : Nat) (a0_0 : Int) (a0_1 : Bool) (A0_2 : Option Addr) (c0_2 : Nat) (l0_2 : List (S69)) (a1 : Int) (a2 : Int) (a3 : Int) (A4 : Option Addr) (c4 : Nat) (l4 : List Int) (r : List (S59)) (w : World) (hr0_2 : Kd.C k69 w A0_2 l0_2.length l0_2) (hc0_2 : l0_2.length ≤ c0_2) (hr4 : Kd.C (Kd.int .u16) w A4 l4.length l4) (hc4 : l4.length ≤ c4) (h : ebbtidelaw18_Made.f k a0_0 a0_1 l0_2 a1 a2 a3 l4 = some r) :
  Calls Try.prog 18 #[.agg #[.int .i64 a0_0, .bool a0_1, .slice A0_2 l0_2.length c0_2], .int .i64 a1, .int .i64 a2, .int .i64 a3, .slice A4 l4.length c4] w fun e w' => ∃ v0_ : Value, e = .returned (v0_) ∧ Kd.R k59 59 w' w.heap.size (fun _ => True) v0_ r ∧ Below w.heap.size w w' := by
 have hu24 := Try.underlying24
 have hu59 := Try.underlying59
 have HR0_2 := Aside0.mk hr0_2
 have HC0_2 := Aside0.mk hc0_2
 clear hr0_2 hc0_2
 have HR4 := Aside0.mk hr4
 have HC4 := Aside0.mk hc4
 clear hr4 hc4
 have HB := Aside0.mk (Below.refl w.heap.size w)
 have H : (ebbtidelaw18_Made.l0 k a1 a2 a3 l4 ([] : List (S59)) 0 a0_0 a0_1 l0_2) = some r := h
 clear h
 have H' := Aside0.mk H
 clear H
 go_enter Try.func18, Try.ntmps18
 go_wp2_with (first | ((with_reducible refine gate_dst (N := 5) rfl ?_); refine box_event ?hg (N := 5) ?hd (cs := #[.int .i64 a0_0, .bool a0_1, .slice A0_2 l0_2.length c0_2]) (t := 24) ?hr ?_; (case hd => rfl); (case hg => rfl); (case hr => first | (go_simp; done) | (go_simp; rfl)); intro gb257 hg w6 hbox hb; have n0_ := Aside0.mk (below_step (by repeat (first | (with_reducible first | exact HB.out | apply below_alloc | apply pw_below_drewN | apply below_drew1) | exact HB.out)) hb); have n1_ := Aside0.mk (hbox); have n2_ := Aside0.mk ((by rw [hg]; exact (below_size (by repeat (first | (with_reducible first | exact HB.out | apply below_alloc | apply pw_below_drewN | apply below_drew1) | exact HB.out))) : w.heap.size ≤ gb257)); have n3_ := Aside0.mk ((by rw [hg]; exact (below_size (by repeat (first | (with_reducible first | exact HB.out | apply below_alloc | apply pw_below_drewN | apply below_drew1) | exact HB.out))) : w.heap.size ≤ gb257)); clear HB; have HB := n0_; have BK257 := n1_; have GW257 := n2_; have GE257 := n3_; clear n0_ n1_ n2_ n3_; clear hb hbox hg))
 go_loopg [11, 12] k (fun kq v11 v12 w' => ∃ (x11_1 : List (S59)) (x12_1 : Int), v12 = .int .i64 x12_1 ∧ Aside0 (ebbtidelaw18_Made.l0 kq a1 a2 a3 l4 x11_1 x12_1 a0_0 a0_1 l0_2 = some r) ∧ Aside0 (kq ≤ k) ∧ Aside0 (Kd.R k59 59 w' w.heap.size (fun _ => True) v11 x11_1) ∧ Aside0 (w'.heap[gb257]? = some (.cells #[.int .i64 a0_0, .bool a0_1, (.slice A0_2 l0_2.length c0_2)] 24 (0, 0))) ∧ Aside0 (Below w.heap.size w w'))
 case atStart => exact ⟨(([] : List (S59))), (0), (by first | rfl | (simp; done) | (simp [*]; done)), H', ⟨Nat.le_refl _⟩, ⟨by first | exact Kd.R_nil _ _ _ _ _ | exact Kd.N_nil _ _ _ _ _ | exact Kd.V_nil _ _ _ _ _ | exact Kd.Q_nil _ _ _ _ _ | exact Kd.S_nil _ _ _ _ _⟩, ⟨by (with_reducible repeat (first | refine blk_drewN ?_ _ | refine blk_drew ?_ | refine blk_alloc ?_ _)); exact BK257.out⟩, ⟨by repeat (first | (with_reducible first | exact HB.out | apply below_alloc | apply pw_below_drewN | apply below_drew1 | refine below_set ?_ GE257.out) | exact HB.out)⟩⟩
 case round =>
  clear H'
  try clear c1
  try clear p2
  try clear c4
  obtain ⟨x11_1, x12_1, rfl, HA, HK1, HO_11, BK257, HB⟩ := hrel
  cases gk with
  | zero => exact absurd HA.out (by simp [ebbtidelaw18_Made.l0])
  | succ k1 =>
   have H := HA.out
   clear HA
   simp only [ebbtidelaw18_Made.l0] at H
   by_cases c7 : x12_1 ≤ a3
   ·rw [if_pos c7] at H
    have c7b0 : decide (x12_1 ≤ a3) = true := decide_eq_true c7
    clear c7
    have H' := Aside0.mk H
    clear H
    go_wp2
    go_loopg [11, 13] k1 (fun kq v11 v13 w' => ∃ (x11_2 : List (S59)) (x13_2 : Int), v13 = .int .i64 x13_2 ∧ Aside0 (ebbtidelaw18_Made.l1 kq a1 a2 a3 l4 x11_2 x12_1 x13_2 a0_0 a0_1 l0_2 = some r) ∧ Aside0 (kq ≤ k1) ∧ Aside0 (Kd.R k59 59 w' w.heap.size (fun _ => True) v11 x11_2) ∧ Aside0 (w'.heap[gb257]? = some (.cells #[.int .i64 a0_0, .bool a0_1, (.slice A0_2 l0_2.length c0_2)] 24 (0, 0))) ∧ Aside0 (Below w.heap.size w w'))
    case atStart => exact ⟨(x11_1), (0), (by first | rfl | (simp; done) | (simp [*]; done)), H', ⟨Nat.le_refl _⟩, ⟨by (with_reducible repeat (first | apply Kd.R_alloc | apply Kd.R_drewN | apply Kd.R_drew)); exact HO_11.out⟩, ⟨by (with_reducible repeat (first | refine blk_drewN ?_ _ | refine blk_drew ?_ | refine blk_alloc ?_ _)); exact BK257.out⟩, ⟨by repeat (first | (with_reducible first | exact HB.out | apply below_alloc | apply pw_below_drewN | apply below_drew1 | refine below_set ?_ GE257.out) | exact HB.out)⟩⟩
    case round =>
     clear H'
     try clear c1
     try clear p2
     try clear c4
     try clear c7
     try clear c7b0
     try clear p2
     obtain ⟨x11_2, x13_2, rfl, HA, HK2, HO_11, BK257, HB⟩ := hrel
     cases gk with
     | zero => exact absurd HA.out (by simp [ebbtidelaw18_Made.l1])
     | succ k2 =>
      have H := HA.out
      clear HA
      simp only [ebbtidelaw18_Made.l1] at H
      by_cases c8 : x13_2 < a0_0
      ·rw [if_pos c8] at H
       have c8b0 : decide (x13_2 < a0_0) = true := decide_eq_true c8
       clear c8
       have HC9 := Aside0.mk H
       clear H
       have hcz10_0 : wr.cell? ⟨gb257, 0, none⟩ = some (.int .i64 a0_0) := (blk_cell BK257.out 0).trans rfl
       have hcz10_1 : wr.cell? ⟨gb257, 1, none⟩ = some (.bool a0_1) := (blk_cell BK257.out 1).trans rfl
       have hcz10_2 : wr.cell? ⟨gb257, 2, none⟩ = some (.slice A0_2 l0_2.length c0_2) := (blk_cell BK257.out 2).trans rfl
       have hfz10_0 := blk_frozen BK257.out 0
       have hfz10_1 := blk_frozen BK257.out 1
       have hfz10_2 := blk_frozen BK257.out 2
       go_upto_if 30 with (fail)
       go_cut [14] (fun v14 wc => ∃ (kq : Nat) (x14_8 : Int), v14 = .int .u16 x14_8 ∧ Aside0 (ebbtidelaw18_Made.j2 kq a1 a2 a3 l4 x11_2 x12_1 x13_2 x14_8 a0_0 a0_1 l0_2 = some r) ∧ Aside0 (kq ≤ k2) ∧ Aside0 (Kd.R k59 59 wc w.heap.size (fun _ => True) u11 x11_2) ∧ Aside0 (wc.heap[gb257]? = some (.cells #[.int .i64 a0_0, .bool a0_1, (.slice A0_2 l0_2.length c0_2)] 24 (0, 0))) ∧ Aside0 (Below w.heap.size w wc))
       case first =>
        have H := HC9.out
        clear HC9
        by_cases c11 : x13_2 < (l4.length : Int)
        ·rw [if_pos c11] at H
         have c11b0 : decide (x13_2 < (l4.length : Int)) = true := decide_eq_true c11
         clear c11
         (first | rw [c11b0] | (simp only [i64_w, i32_w]; rw [c11b0]) | skip)
         by_cases c12 : 0 ≤ x13_2
         ·rw [if_pos c12] at H
          have c12b0 : decide (0 ≤ x13_2) = true := decide_eq_true c12
          clear c12
          have H' := Aside0.mk H
          clear H
          have p258 : 0 ≤ (x13_2 : Int) := of_decide_eq_true (by first | (with_reducible assumption) | assumption)
          have q258 : x13_2 < (l4.length : Int) := of_decide_eq_true (by first | (with_reducible assumption) | assumption)
          obtain ⟨ad258, e258, hx258_0⟩ := Kd.at_int HR4.out x13_2 p258 q258
          cases e258
          replace hx258_0 := (HB.out.cell (World.block_lt_of_cell? w _ hx258_0)).trans hx258_0
          replace p258 := eq_true p258
          replace q258 := eq_true q258
          go_wp2
          go_meet
          case rel => exact ⟨_, (rd l4 x13_2), (by first | rfl | (simp; done) | (simp [*]; done)), H', ⟨by have := HK1.out; have := HK2.out; first | omega | exact Nat.le_refl _⟩, ⟨by (with_reducible repeat (first | apply Kd.R_alloc | apply Kd.R_drewN | apply Kd.R_drew)); exact HO_11.out⟩, ⟨by (with_reducible repeat (first | refine blk_drewN ?_ _ | refine blk_drew ?_ | refine blk_alloc ?_ _)); exact BK257.out⟩, ⟨by repeat (first | (with_reducible first | exact HB.out | apply below_alloc | apply pw_below_drewN | apply below_drew1 | refine below_set ?_ GE257.out) | exact HB.out)⟩⟩
         ·rw [if_neg c12] at H
          exact absurd H (by simp)
        ·rw [if_neg c11] at H
         have c11b0 : decide (x13_2 < (l4.length : Int)) = false := decide_eq_false c11
         clear c11
         (first | rw [c11b0] | (simp only [i64_w, i32_w]; rw [c11b0]) | skip)
         have H' := Aside0.mk H
         clear H
         go_wp2
         go_meet
         case rel => exact ⟨_, (0), (by first | rfl | (simp; done) | (simp [*]; done)), H', ⟨by have := HK1.out; have := HK2.out; first | omega | exact Nat.le_refl _⟩, ⟨by (with_reducible repeat (first | apply Kd.R_alloc | apply Kd.R_drewN | apply Kd.R_drew)); exact HO_11.out⟩, ⟨by (with_reducible repeat (first | refine blk_drewN ?_ _ | refine blk_drew ?_ | refine blk_alloc ?_ _)); exact BK257.out⟩, ⟨by repeat (first | (with_reducible first | exact HB.out | apply below_alloc | apply pw_below_drewN | apply below_drew1 | refine below_set ?_ GE257.out) | exact HB.out)⟩⟩
       case rest =>
        clear HC9
        try clear c1
        try clear p2
        try clear q2
        try clear hx2
        try clear c4
        try clear c7
        try clear c7b0
        try clear c8
        try clear c8b0
        try clear c11
        try clear c11b0
        try clear c12
        try clear c12b0
        try clear hcz10_0
        try clear hcz10_1
        try clear hcz10_2
        try clear hfz10_0
        try clear hfz10_1
        try clear hfz10_2
        try clear hx258_0
        try clear p2
        try clear p258
        try clear q258
        obtain ⟨kq, x14_8, rfl, HA, HJ8, HO_11, BK257, HB⟩ := hcut
        cases kq with
        | zero => exact absurd HA.out (by simp [ebbtidelaw18_Made.j2])
        | succ kj8 =>
         have H := HA.out
         clear HA
         simp only [ebbtidelaw18_Made.j2] at H
         by_cases c13 : 0 ≤ x12_1
         ·rw [if_pos c13] at H
          have c13b0 := eq_true c13
          have c13b1 : decide (0 ≤ x12_1) = true := decide_eq_true c13
          clear c13
          obtain ⟨ji14, hji14⟩ : ∃ j_ : Int, (shr .u16 x14_8 x12_1) = j_ := ⟨_, rfl⟩
          replace H : (if a0_1 = true then (if (wrap64 (a3 + 2)) = 0 then (none) else (if x13_2 = a1 then (if x11_2.length < 8796093022208 then (ebbtidelaw18_Made.l1 kj8 a1 a2 a3 l4 (x11_2 ++ [(⟨x13_2, x12_1⟩ : S59)]) x12_1 (wrap64 (x13_2 + 1)) a0_0 a0_1 l0_2) else (none)) else (if x13_2 = a2 then (ebbtidelaw18_Made.l1 kj8 a1 a2 a3 l4 x11_2 x12_1 (wrap64 (x13_2 + 1)) a0_0 a0_1 l0_2) else (if (Int.tmod (wrap64 (x14_8)) (wrap64 (a3 + 2))) ≤ x12_1 then (if x11_2.length < 8796093022208 then (ebbtidelaw18_Made.l1 kj8 a1 a2 a3 l4 (x11_2 ++ [(⟨x13_2, x12_1⟩ : S59)]) x12_1 (wrap64 (x13_2 + 1)) a0_0 a0_1 l0_2) else (none)) else (ebbtidelaw18_Made.l1 kj8 a1 a2 a3 l4 x11_2 x12_1 (wrap64 (x13_2 + 1)) a0_0 a0_1 l0_2))))) else (if x13_2 = a1 then (if x11_2.length < 8796093022208 then (ebbtidelaw18_Made.l1 kj8 a1 a2 a3 l4 (x11_2 ++ [(⟨x13_2, x12_1⟩ : S59)]) x12_1 (wrap64 (x13_2 + 1)) a0_0 a0_1 l0_2) else (none)) else (if x13_2 = a2 then (ebbtidelaw18_Made.l1 kj8 a1 a2 a3 l4 x11_2 x12_1 (wrap64 (x13_2 + 1)) a0_0 a0_1 l0_2) else (if (Go.bits .and .u16 (ji14) 1) = 1 then (if x11_2.length < 8796093022208 then (ebbtidelaw18_Made.l1 kj8 a1 a2 a3 l4 (x11_2 ++ [(⟨x13_2, x12_1⟩ : S59)]) x12_1 (wrap64 (x13_2 + 1)) a0_0 a0_1 l0_2) else (none)) else (ebbtidelaw18_Made.l1 kj8 a1 a2 a3 l4 x11_2 x12_1 (wrap64 (x13_2 + 1)) a0_0 a0_1 l0_2))))) = some r := by first | (rw [hji14] at H; exact H) | (simp only [hji14] at H ⊢; exact H)
          have hji14_ : (x14_8 / 2 ^ min x12_1.toNat 16) = ji14 := hji14
          have hji14z : x12_1 ≤ 16 → (x14_8 / 2 ^ x12_1.toNat) = ji14 := shr_small hji14
          by_cases c15 : a0_1 = true
          ·subst c15
           have H1 : (if (wrap64 (a3 + 2)) = 0 then (none) else (if x13_2 = a1 then (if x11_2.length < 8796093022208 then (ebbtidelaw18_Made.l1 kj8 a1 a2 a3 l4 (x11_2 ++ [(⟨x13_2, x12_1⟩ : S59)]) x12_1 (wrap64 (x13_2 + 1)) a0_0 true l0_2) else (none)) else (if x13_2 = a2 then (ebbtidelaw18_Made.l1 kj8 a1 a2 a3 l4 x11_2 x12_1 (wrap64 (x13_2 + 1)) a0_0 true l0_2) else (if (Int.tmod (wrap64 (x14_8)) (wrap64 (a3 + 2))) ≤ x12_1 then (if x11_2.length < 8796093022208 then (ebbtidelaw18_Made.l1 kj8 a1 a2 a3 l4 (x11_2 ++ [(⟨x13_2, x12_1⟩ : S59)]) x12_1 (wrap64 (x13_2 + 1)) a0_0 true l0_2) else (none)) else (ebbtidelaw18_Made.l1 kj8 a1 a2 a3 l4 x11_2 x12_1 (wrap64 (x13_2 + 1)) a0_0 true l0_2))))) = some r := by rw [if_pos rfl] at H; exact H
           clear H
           have H := H1
           clear H1
           by_cases c16 : (wrap64 (a3 + 2)) = 0
           ·rw [if_pos c16] at H
            exact absurd H (by simp)
           ·rw [if_neg c16] at H
            have c16b0 : ((wrap64 (a3 + 2)) == 0) = false := beq_eq_false_iff_ne.mpr c16
            have c16b1 : ((wrap64 (a3 + 2)) != 0) = true := bne_iff_ne.mpr c16
            by_cases c17 : x13_2 = a1
            ·rw [if_pos c17] at H
             have c17b0 : (x13_2 == a1) = true := beq_iff_eq.mpr c17
             have c17b1 : (x13_2 != a1) = false := bne_eq_false_iff_eq.mpr c17
             clear c17
             by_cases c18 : x11_2.length < 8796093022208
             ·rw [if_pos c18] at H
              have LMc18 := Aside0.mk c18
              clear c18
              obtain ⟨y259, hy259⟩ : ∃ y_ : List (S59), y_ = (x11_2 ++ [(⟨x13_2, x12_1⟩ : S59)]) := ⟨_, rfl⟩
              replace H : (ebbtidelaw18_Made.l1 kj8 a1 a2 a3 l4 y259 x12_1 (wrap64 (x13_2 + 1)) a0_0 true l0_2) = some r := by first | (rw [hy259]; with_reducible exact H) | (have H2_ := (Option.bind_some _ _).symm.trans H; rw [hy259]; with_reducible exact H2_) | (have H2_ := (Option.bind_some _ _).symm.trans H; with_reducible exact H2_) | with_reducible exact H | (rw [hy259]; exact H) | exact H
              have Ny259 := Aside0.mk hy259
              clear hy259
              have H' := Aside0.mk H
              clear H
              have hcz19_0 : wc.cell? ⟨gb257, 0, none⟩ = some (.int .i64 a0_0) := (blk_cell BK257.out 0).trans rfl
              have hcz19_1 : wc.cell? ⟨gb257, 1, none⟩ = some (.bool true) := (blk_cell BK257.out 1).trans rfl
              have hcz19_2 : wc.cell? ⟨gb257, 2, none⟩ = some (.slice A0_2 l0_2.length c0_2) := (blk_cell BK257.out 2).trans rfl
              have hfz19_0 := blk_frozen BK257.out 0
              have hfz19_1 := blk_frozen BK257.out 1
              have hfz19_2 := blk_frozen BK257.out 2
              go_wp2_with (first | ((with_reducible refine gate_builtin (b := .append) (xs := #[.tmp 60, .tmp 64]) rfl ?_); at_builtin; refine Kd.R_append k59 (w0 := w) w.heap.size rfl (.tmp 60) (.tmp 64) 25 59 (.agg #[(.int .i64 0), (.int .i64 0)]) 16 rfl Try.underlying25 info59 rfl (by decide) (by omega) u11 x11_2 (⟨x13_2, x12_1⟩ : S59) [.int .i64 x13_2, .int .i64 x12_1] (fun _ => True) (fun _ => False) rfl rfl ?aP (fun _ hk => hk.elim) ?aF ?aO ?aB ?aS ?aL ?_; (case aP => exact k59_mkM _ _ _ (⟨x13_2, x12_1⟩ : S59)); (case aB => exact (by repeat (first | (with_reducible first | exact HB.out | apply below_alloc | apply pw_below_drewN | apply below_drew1 | refine below_set ?_ GE257.out) | exact HB.out))); (case aF => exact (fun _ _ => trivial)); (case aO => exact (by (with_reducible repeat (first | apply Kd.R_alloc | apply Kd.R_drewN | apply Kd.R_drew)); exact HO_11.out)); (case aS => exact (below_size (by repeat (first | (with_reducible first | exact HB.out | apply below_alloc | apply pw_below_drewN | apply below_drew1 | refine below_set ?_ GE257.out) | exact HB.out)))); (case aL => have := LMc18.out; omega); intro v260 w20 ho hb hg hat; rw [← Ny259.out] at ho; have n0_ := Aside0.mk (blk_grown (g := gb257) (o := .cells #[.int .i64 a0_0, .bool true, .slice A0_2 l0_2.length c0_2] 24 (0, 0)) (by (with_reducible repeat (first | refine blk_drewN ?_ _ | refine blk_drew ?_ | refine blk_alloc ?_ _)); exact BK257.out) hg (Kd.R_ne HO_11.out BK257.out (by decide))); have n1_ := Aside0.mk (hb); have n2_ := Aside0.mk (ho); clear BK257; clear HB; clear HO_11; have BK257 := n0_; have HB := n1_; have HO261 := n2_; clear n0_ n1_ n2_; clear ho hb hg hat))
              go_roundg kj8
              case measure => have := HK1.out; have := HK2.out; have := HJ8.out; omega
              case rel => exact ⟨(y259), (wrap64 (x13_2 + 1)), (by first | rfl | (simp; done) | (simp [*]; done)), H', ⟨by have := HK1.out; have := HK2.out; have := HJ8.out; omega⟩, ⟨by (with_reducible repeat (first | apply Kd.R_alloc | apply Kd.R_drewN | apply Kd.R_drew)); exact HO261.out⟩, ⟨by (with_reducible repeat (first | refine blk_drewN ?_ _ | refine blk_drew ?_ | refine blk_alloc ?_ _)); exact BK257.out⟩, ⟨by repeat (first | (with_reducible first | exact HB.out | apply below_alloc | apply pw_below_drewN | apply below_drew1 | refine below_set ?_ GE257.out) | exact HB.out)⟩⟩
             ·rw [if_neg c18] at H
              exact absurd H (by simp)
            ·rw [if_neg c17] at H
             have c17b0 : (x13_2 == a1) = false := beq_eq_false_iff_ne.mpr c17
             have c17b1 : (x13_2 != a1) = true := bne_iff_ne.mpr c17
             by_cases c21 : x13_2 = a2
             ·rw [if_pos c21] at H
              have c21b0 : (x13_2 == a2) = true := beq_iff_eq.mpr c21
              have c21b1 : (x13_2 != a2) = false := bne_eq_false_iff_eq.mpr c21
              clear c21
              have H' := Aside0.mk H
              clear H
              have hcz22_0 : wc.cell? ⟨gb257, 0, none⟩ = some (.int .i64 a0_0) := (blk_cell BK257.out 0).trans rfl
              have hcz22_1 : wc.cell? ⟨gb257, 1, none⟩ = some (.bool true) := (blk_cell BK257.out 1).trans rfl
              have hcz22_2 : wc.cell? ⟨gb257, 2, none⟩ = some (.slice A0_2 l0_2.length c0_2) := (blk_cell BK257.out 2).trans rfl
              have hfz22_0 := blk_frozen BK257.out 0
              have hfz22_1 := blk_frozen BK257.out 1
              have hfz22_2 := blk_frozen BK257.out 2
              go_wp2
              go_roundg kj8
              case measure => have := HK1.out; have := HK2.out; have := HJ8.out; omega
              case rel => exact ⟨(x11_2), (wrap64 (x13_2 + 1)), (by first | rfl | (simp; done) | (simp [*]; done)), H', ⟨by have := HK1.out; have := HK2.out; have := HJ8.out; omega⟩, ⟨by (with_reducible repeat (first | apply Kd.R_alloc | apply Kd.R_drewN | apply Kd.R_drew)); exact HO_11.out⟩, ⟨by (with_reducible repeat (first | refine blk_drewN ?_ _ | refine blk_drew ?_ | refine blk_alloc ?_ _)); exact BK257.out⟩, ⟨by repeat (first | (with_reducible first | exact HB.out | apply below_alloc | apply pw_below_drewN | apply below_drew1 | refine below_set ?_ GE257.out) | exact HB.out)⟩⟩
             ·rw [if_neg c21] at H
              have c21b0 : (x13_2 == a2) = false := beq_eq_false_iff_ne.mpr c21
              have c21b1 : (x13_2 != a2) = true := bne_iff_ne.mpr c21
              by_cases c23 : (Int.tmod (wrap64 (x14_8)) (wrap64 (a3 + 2))) ≤ x12_1
              ·rw [if_pos c23] at H
               have c23b0 : decide ((Int.tmod (wrap64 (x14_8)) (wrap64 (a3 + 2))) ≤ x12_1) = true := decide_eq_true c23
               clear c23
               by_cases c24 : x11_2.length < 8796093022208
               ·rw [if_pos c24] at H
                have LMc24 := Aside0.mk c24
                clear c24
                obtain ⟨y262, hy262⟩ : ∃ y_ : List (S59), y_ = (x11_2 ++ [(⟨x13_2, x12_1⟩ : S59)]) := ⟨_, rfl⟩
                replace H : (ebbtidelaw18_Made.l1 kj8 a1 a2 a3 l4 y262 x12_1 (wrap64 (x13_2 + 1)) a0_0 true l0_2) = some r := by first | (rw [hy262]; with_reducible exact H) | (have H2_ := (Option.bind_some _ _).symm.trans H; rw [hy262]; with_reducible exact H2_) | (have H2_ := (Option.bind_some _ _).symm.trans H; with_reducible exact H2_) | with_reducible exact H | (rw [hy262]; exact H) | exact H
                have Ny262 := Aside0.mk hy262
                clear hy262
                have H' := Aside0.mk H
                clear H
                have hcz25_0 : wc.cell? ⟨gb257, 0, none⟩ = some (.int .i64 a0_0) := (blk_cell BK257.out 0).trans rfl
                have hcz25_1 : wc.cell? ⟨gb257, 1, none⟩ = some (.bool true) := (blk_cell BK257.out 1).trans rfl
                have hcz25_2 : wc.cell? ⟨gb257, 2, none⟩ = some (.slice A0_2 l0_2.length c0_2) := (blk_cell BK257.out 2).trans rfl
                have hfz25_0 := blk_frozen BK257.out 0
                have hfz25_1 := blk_frozen BK257.out 1
                have hfz25_2 := blk_frozen BK257.out 2
                go_wp2_with (first | ((with_reducible refine gate_builtin (b := .append) (xs := #[.tmp 60, .tmp 64]) rfl ?_); at_builtin; refine Kd.R_append k59 (w0 := w) w.heap.size rfl (.tmp 60) (.tmp 64) 25 59 (.agg #[(.int .i64 0), (.int .i64 0)]) 16 rfl Try.underlying25 info59 rfl (by decide) (by omega) u11 x11_2 (⟨x13_2, x12_1⟩ : S59) [.int .i64 x13_2, .int .i64 x12_1] (fun _ => True) (fun _ => False) rfl rfl ?aP (fun _ hk => hk.elim) ?aF ?aO ?aB ?aS ?aL ?_; (case aP => exact k59_mkM _ _ _ (⟨x13_2, x12_1⟩ : S59)); (case aB => exact (by repeat (first | (with_reducible first | exact HB.out | apply below_alloc | apply pw_below_drewN | apply below_drew1 | refine below_set ?_ GE257.out) | exact HB.out))); (case aF => exact (fun _ _ => trivial)); (case aO => exact (by (with_reducible repeat (first | apply Kd.R_alloc | apply Kd.R_drewN | apply Kd.R_drew)); exact HO_11.out)); (case aS => exact (below_size (by repeat (first | (with_reducible first | exact HB.out | apply below_alloc | apply pw_below_drewN | apply below_drew1 | refine below_set ?_ GE257.out) | exact HB.out)))); (case aL => have := LMc24.out; omega); intro v263 w26 ho hb hg hat; rw [← Ny262.out] at ho; have n0_ := Aside0.mk (blk_grown (g := gb257) (o := .cells #[.int .i64 a0_0, .bool true, .slice A0_2 l0_2.length c0_2] 24 (0, 0)) (by (with_reducible repeat (first | refine blk_drewN ?_ _ | refine blk_drew ?_ | refine blk_alloc ?_ _)); exact BK257.out) hg (Kd.R_ne HO_11.out BK257.out (by decide))); have n1_ := Aside0.mk (hb); have n2_ := Aside0.mk (ho); clear BK257; clear HB; clear HO_11; have BK257 := n0_; have HB := n1_; have HO264 := n2_; clear n0_ n1_ n2_; clear ho hb hg hat))
                go_roundg kj8
                case measure => have := HK1.out; have := HK2.out; have := HJ8.out; omega
                case rel => exact ⟨(y262), (wrap64 (x13_2 + 1)), (by first | rfl | (simp; done) | (simp [*]; done)), H', ⟨by have := HK1.out; have := HK2.out; have := HJ8.out; omega⟩, ⟨by (with_reducible repeat (first | apply Kd.R_alloc | apply Kd.R_drewN | apply Kd.R_drew)); exact HO264.out⟩, ⟨by (with_reducible repeat (first | refine blk_drewN ?_ _ | refine blk_drew ?_ | refine blk_alloc ?_ _)); exact BK257.out⟩, ⟨by repeat (first | (with_reducible first | exact HB.out | apply below_alloc | apply pw_below_drewN | apply below_drew1 | refine below_set ?_ GE257.out) | exact HB.out)⟩⟩
               ·rw [if_neg c24] at H
                exact absurd H (by simp)
              ·rw [if_neg c23] at H
               have c23b0 : decide ((Int.tmod (wrap64 (x14_8)) (wrap64 (a3 + 2))) ≤ x12_1) = false := decide_eq_false c23
               clear c23
               have H' := Aside0.mk H
               clear H
               have hcz27_0 : wc.cell? ⟨gb257, 0, none⟩ = some (.int .i64 a0_0) := (blk_cell BK257.out 0).trans rfl
               have hcz27_1 : wc.cell? ⟨gb257, 1, none⟩ = some (.bool true) := (blk_cell BK257.out 1).trans rfl
               have hcz27_2 : wc.cell? ⟨gb257, 2, none⟩ = some (.slice A0_2 l0_2.length c0_2) := (blk_cell BK257.out 2).trans rfl
               have hfz27_0 := blk_frozen BK257.out 0
               have hfz27_1 := blk_frozen BK257.out 1
               have hfz27_2 := blk_frozen BK257.out 2
               go_wp2
               go_roundg kj8
               case measure => have := HK1.out; have := HK2.out; have := HJ8.out; omega
               case rel => exact ⟨(x11_2), (wrap64 (x13_2 + 1)), (by first | rfl | (simp; done) | (simp [*]; done)), H', ⟨by have := HK1.out; have := HK2.out; have := HJ8.out; omega⟩, ⟨by (with_reducible repeat (first | apply Kd.R_alloc | apply Kd.R_drewN | apply Kd.R_drew)); exact HO_11.out⟩, ⟨by (with_reducible repeat (first | refine blk_drewN ?_ _ | refine blk_drew ?_ | refine blk_alloc ?_ _)); exact BK257.out⟩, ⟨by repeat (first | (with_reducible first | exact HB.out | apply below_alloc | apply pw_below_drewN | apply below_drew1 | refine below_set ?_ GE257.out) | exact HB.out)⟩⟩
          ·replace c15 := Bool.eq_false_iff.mpr c15
           subst c15
           have H1 : (if x13_2 = a1 then (if x11_2.length < 8796093022208 then (ebbtidelaw18_Made.l1 kj8 a1 a2 a3 l4 (x11_2 ++ [(⟨x13_2, x12_1⟩ : S59)]) x12_1 (wrap64 (x13_2 + 1)) a0_0 false l0_2) else (none)) else (if x13_2 = a2 then (ebbtidelaw18_Made.l1 kj8 a1 a2 a3 l4 x11_2 x12_1 (wrap64 (x13_2 + 1)) a0_0 false l0_2) else (if (Go.bits .and .u16 (ji14) 1) = 1 then (if x11_2.length < 8796093022208 then (ebbtidelaw18_Made.l1 kj8 a1 a2 a3 l4 (x11_2 ++ [(⟨x13_2, x12_1⟩ : S59)]) x12_1 (wrap64 (x13_2 + 1)) a0_0 false l0_2) else (none)) else (ebbtidelaw18_Made.l1 kj8 a1 a2 a3 l4 x11_2 x12_1 (wrap64 (x13_2 + 1)) a0_0 false l0_2)))) = some r := by rw [if_neg (show ¬ (false = true) by decide)] at H; exact H
           clear H
           have H := H1
           clear H1
           by_cases c28 : x13_2 = a1
           ·rw [if_pos c28] at H
            have c28b0 : (x13_2 == a1) = true := beq_iff_eq.mpr c28
            have c28b1 : (x13_2 != a1) = false := bne_eq_false_iff_eq.mpr c28
            clear c28
            by_cases c29 : x11_2.length < 8796093022208
            ·rw [if_pos c29] at H
             have LMc29 := Aside0.mk c29
             clear c29
             obtain ⟨y265, hy265⟩ : ∃ y_ : List (S59), y_ = (x11_2 ++ [(⟨x13_2, x12_1⟩ : S59)]) := ⟨_, rfl⟩
             replace H : (ebbtidelaw18_Made.l1 kj8 a1 a2 a3 l4 y265 x12_1 (wrap64 (x13_2 + 1)) a0_0 false l0_2) = some r := by first | (rw [hy265]; with_reducible exact H) | (have H2_ := (Option.bind_some _ _).symm.trans H; rw [hy265]; with_reducible exact H2_) | (have H2_ := (Option.bind_some _ _).symm.trans H; with_reducible exact H2_) | with_reducible exact H | (rw [hy265]; exact H) | exact H
             have Ny265 := Aside0.mk hy265
             clear hy265
             have H' := Aside0.mk H
             clear H
             have hcz30_0 : wc.cell? ⟨gb257, 0, none⟩ = some (.int .i64 a0_0) := (blk_cell BK257.out 0).trans rfl
             have hcz30_1 : wc.cell? ⟨gb257, 1, none⟩ = some (.bool false) := (blk_cell BK257.out 1).trans rfl
             have hcz30_2 : wc.cell? ⟨gb257, 2, none⟩ = some (.slice A0_2 l0_2.length c0_2) := (blk_cell BK257.out 2).trans rfl
             have hfz30_0 := blk_frozen BK257.out 0
             have hfz30_1 := blk_frozen BK257.out 1
             have hfz30_2 := blk_frozen BK257.out 2
             go_wp2_with (first | ((with_reducible refine gate_builtin (b := .append) (xs := #[.tmp 60, .tmp 64]) rfl ?_); at_builtin; refine Kd.R_append k59 (w0 := w) w.heap.size rfl (.tmp 60) (.tmp 64) 25 59 (.agg #[(.int .i64 0), (.int .i64 0)]) 16 rfl Try.underlying25 info59 rfl (by decide) (by omega) u11 x11_2 (⟨x13_2, x12_1⟩ : S59) [.int .i64 x13_2, .int .i64 x12_1] (fun _ => True) (fun _ => False) rfl rfl ?aP (fun _ hk => hk.elim) ?aF ?aO ?aB ?aS ?aL ?_; (case aP => exact k59_mkM _ _ _ (⟨x13_2, x12_1⟩ : S59)); (case aB => exact (by repeat (first | (with_reducible first | exact HB.out | apply below_alloc | apply pw_below_drewN | apply below_drew1 | refine below_set ?_ GE257.out) | exact HB.out))); (case aF => exact (fun _ _ => trivial)); (case aO => exact (by (with_reducible repeat (first | apply Kd.R_alloc | apply Kd.R_drewN | apply Kd.R_drew)); exact HO_11.out)); (case aS => exact (below_size (by repeat (first | (with_reducible first | exact HB.out | apply below_alloc | apply pw_below_drewN | apply below_drew1 | refine below_set ?_ GE257.out) | exact HB.out)))); (case aL => have := LMc29.out; omega); intro v266 w31 ho hb hg hat; rw [← Ny265.out] at ho; have n0_ := Aside0.mk (blk_grown (g := gb257) (o := .cells #[.int .i64 a0_0, .bool false, .slice A0_2 l0_2.length c0_2] 24 (0, 0)) (by (with_reducible repeat (first | refine blk_drewN ?_ _ | refine blk_drew ?_ | refine blk_alloc ?_ _)); exact BK257.out) hg (Kd.R_ne HO_11.out BK257.out (by decide))); have n1_ := Aside0.mk (hb); have n2_ := Aside0.mk (ho); clear BK257; clear HB; clear HO_11; have BK257 := n0_; have HB := n1_; have HO267 := n2_; clear n0_ n1_ n2_; clear ho hb hg hat))
             go_roundg kj8
             case measure => have := HK1.out; have := HK2.out; have := HJ8.out; omega
             case rel => exact ⟨(y265), (wrap64 (x13_2 + 1)), (by first | rfl | (simp; done) | (simp [*]; done)), H', ⟨by have := HK1.out; have := HK2.out; have := HJ8.out; omega⟩, ⟨by (with_reducible repeat (first | apply Kd.R_alloc | apply Kd.R_drewN | apply Kd.R_drew)); exact HO267.out⟩, ⟨by (with_reducible repeat (first | refine blk_drewN ?_ _ | refine blk_drew ?_ | refine blk_alloc ?_ _)); exact BK257.out⟩, ⟨by repeat (first | (with_reducible first | exact HB.out | apply below_alloc | apply pw_below_drewN | apply below_drew1 | refine below_set ?_ GE257.out) | exact HB.out)⟩⟩
            ·rw [if_neg c29] at H
             exact absurd H (by simp)
           ·rw [if_neg c28] at H
            have c28b0 : (x13_2 == a1) = false := beq_eq_false_iff_ne.mpr c28
            have c28b1 : (x13_2 != a1) = true := bne_iff_ne.mpr c28
            by_cases c32 : x13_2 = a2
            ·rw [if_pos c32] at H
             have c32b0 : (x13_2 == a2) = true := beq_iff_eq.mpr c32
             have c32b1 : (x13_2 != a2) = false := bne_eq_false_iff_eq.mpr c32
             clear c32
             have H' := Aside0.mk H
             clear H
             have hcz33_0 : wc.cell? ⟨gb257, 0, none⟩ = some (.int .i64 a0_0) := (blk_cell BK257.out 0).trans rfl
             have hcz33_1 : wc.cell? ⟨gb257, 1, none⟩ = some (.bool false) := (blk_cell BK257.out 1).trans rfl
             have hcz33_2 : wc.cell? ⟨gb257, 2, none⟩ = some (.slice A0_2 l0_2.length c0_2) := (blk_cell BK257.out 2).trans rfl
             have hfz33_0 := blk_frozen BK257.out 0
             have hfz33_1 := blk_frozen BK257.out 1
             have hfz33_2 := blk_frozen BK257.out 2
             go_wp2
             go_roundg kj8
             case measure => have := HK1.out; have := HK2.out; have := HJ8.out; omega
             case rel => exact ⟨(x11_2), (wrap64 (x13_2 + 1)), (by first | rfl | (simp; done) | (simp [*]; done)), H', ⟨by have := HK1.out; have := HK2.out; have := HJ8.out; omega⟩, ⟨by (with_reducible repeat (first | apply Kd.R_alloc | apply Kd.R_drewN | apply Kd.R_drew)); exact HO_11.out⟩, ⟨by (with_reducible repeat (first | refine blk_drewN ?_ _ | refine blk_drew ?_ | refine blk_alloc ?_ _)); exact BK257.out⟩, ⟨by repeat (first | (with_reducible first | exact HB.out | apply below_alloc | apply pw_below_drewN | apply below_drew1 | refine below_set ?_ GE257.out) | exact HB.out)⟩⟩
            ·rw [if_neg c32] at H
             have c32b0 : (x13_2 == a2) = false := beq_eq_false_iff_ne.mpr c32
             have c32b1 : (x13_2 != a2) = true := bne_iff_ne.mpr c32
             by_cases c34 : (Go.bits .and .u16 (ji14) 1) = 1
             ·rw [if_pos c34] at H
              have c34b0 : ((Go.bits .and .u16 (ji14) 1) == 1) = true := beq_iff_eq.mpr c34
              have c34b1 : ((Go.bits .and .u16 (ji14) 1) != 1) = false := bne_eq_false_iff_eq.mpr c34
              clear c34
              by_cases c35 : x11_2.length < 8796093022208
              ·rw [if_pos c35] at H
               have LMc35 := Aside0.mk c35
               clear c35
               obtain ⟨y268, hy268⟩ : ∃ y_ : List (S59), y_ = (x11_2 ++ [(⟨x13_2, x12_1⟩ : S59)]) := ⟨_, rfl⟩
               replace H : (ebbtidelaw18_Made.l1 kj8 a1 a2 a3 l4 y268 x12_1 (wrap64 (x13_2 + 1)) a0_0 false l0_2) = some r := by first | (rw [hy268]; with_reducible exact H) | (have H2_ := (Option.bind_some _ _).symm.trans H; rw [hy268]; with_reducible exact H2_) | (have H2_ := (Option.bind_some _ _).symm.trans H; with_reducible exact H2_) | with_reducible exact H | (rw [hy268]; exact H) | exact H
               have Ny268 := Aside0.mk hy268
               clear hy268
               have H' := Aside0.mk H
               clear H
               have hcz36_0 : wc.cell? ⟨gb257, 0, none⟩ = some (.int .i64 a0_0) := (blk_cell BK257.out 0).trans rfl
               have hcz36_1 : wc.cell? ⟨gb257, 1, none⟩ = some (.bool false) := (blk_cell BK257.out 1).trans rfl
               have hcz36_2 : wc.cell? ⟨gb257, 2, none⟩ = some (.slice A0_2 l0_2.length c0_2) := (blk_cell BK257.out 2).trans rfl
               have hfz36_0 := blk_frozen BK257.out 0
               have hfz36_1 := blk_frozen BK257.out 1
               have hfz36_2 := blk_frozen BK257.out 2
               go_wp2_with (first | ((with_reducible refine gate_builtin (b := .append) (xs := #[.tmp 60, .tmp 64]) rfl ?_); at_builtin; refine Kd.R_append k59 (w0 := w) w.heap.size rfl (.tmp 60) (.tmp 64) 25 59 (.agg #[(.int .i64 0), (.int .i64 0)]) 16 rfl Try.underlying25 info59 rfl (by decide) (by omega) u11 x11_2 (⟨x13_2, x12_1⟩ : S59) [.int .i64 x13_2, .int .i64 x12_1] (fun _ => True) (fun _ => False) rfl rfl ?aP (fun _ hk => hk.elim) ?aF ?aO ?aB ?aS ?aL ?_; (case aP => exact k59_mkM _ _ _ (⟨x13_2, x12_1⟩ : S59)); (case aB => exact (by repeat (first | (with_reducible first | exact HB.out | apply below_alloc | apply pw_below_drewN | apply below_drew1 | refine below_set ?_ GE257.out) | exact HB.out))); (case aF => exact (fun _ _ => trivial)); (case aO => exact (by (with_reducible repeat (first | apply Kd.R_alloc | apply Kd.R_drewN | apply Kd.R_drew)); exact HO_11.out)); (case aS => exact (below_size (by repeat (first | (with_reducible first | exact HB.out | apply below_alloc | apply pw_below_drewN | apply below_drew1 | refine below_set ?_ GE257.out) | exact HB.out)))); (case aL => have := LMc35.out; omega); intro v269 w37 ho hb hg hat; rw [← Ny268.out] at ho; have n0_ := Aside0.mk (blk_grown (g := gb257) (o := .cells #[.int .i64 a0_0, .bool false, .slice A0_2 l0_2.length c0_2] 24 (0, 0)) (by (with_reducible repeat (first | refine blk_drewN ?_ _ | refine blk_drew ?_ | refine blk_alloc ?_ _)); exact BK257.out) hg (Kd.R_ne HO_11.out BK257.out (by decide))); have n1_ := Aside0.mk (hb); have n2_ := Aside0.mk (ho); clear BK257; clear HB; clear HO_11; have BK257 := n0_; have HB := n1_; have HO270 := n2_; clear n0_ n1_ n2_; clear ho hb hg hat))
               go_roundg kj8
               case measure => have := HK1.out; have := HK2.out; have := HJ8.out; omega
               case rel => exact ⟨(y268), (wrap64 (x13_2 + 1)), (by first | rfl | (simp; done) | (simp [*]; done)), H', ⟨by have := HK1.out; have := HK2.out; have := HJ8.out; omega⟩, ⟨by (with_reducible repeat (first | apply Kd.R_alloc | apply Kd.R_drewN | apply Kd.R_drew)); exact HO270.out⟩, ⟨by (with_reducible repeat (first | refine blk_drewN ?_ _ | refine blk_drew ?_ | refine blk_alloc ?_ _)); exact BK257.out⟩, ⟨by repeat (first | (with_reducible first | exact HB.out | apply below_alloc | apply pw_below_drewN | apply below_drew1 | refine below_set ?_ GE257.out) | exact HB.out)⟩⟩
              ·rw [if_neg c35] at H
               exact absurd H (by simp)
             ·rw [if_neg c34] at H
              have c34b0 : ((Go.bits .and .u16 (ji14) 1) == 1) = false := beq_eq_false_iff_ne.mpr c34
              have c34b1 : ((Go.bits .and .u16 (ji14) 1) != 1) = true := bne_iff_ne.mpr c34
              have H' := Aside0.mk H
              clear H
              have hcz38_0 : wc.cell? ⟨gb257, 0, none⟩ = some (.int .i64 a0_0) := (blk_cell BK257.out 0).trans rfl
              have hcz38_1 : wc.cell? ⟨gb257, 1, none⟩ = some (.bool false) := (blk_cell BK257.out 1).trans rfl
              have hcz38_2 : wc.cell? ⟨gb257, 2, none⟩ = some (.slice A0_2 l0_2.length c0_2) := (blk_cell BK257.out 2).trans rfl
              have hfz38_0 := blk_frozen BK257.out 0
              have hfz38_1 := blk_frozen BK257.out 1
              have hfz38_2 := blk_frozen BK257.out 2
              go_wp2
              go_roundg kj8
              case measure => have := HK1.out; have := HK2.out; have := HJ8.out; omega
              case rel => exact ⟨(x11_2), (wrap64 (x13_2 + 1)), (by first | rfl | (simp; done) | (simp [*]; done)), H', ⟨by have := HK1.out; have := HK2.out; have := HJ8.out; omega⟩, ⟨by (with_reducible repeat (first | apply Kd.R_alloc | apply Kd.R_drewN | apply Kd.R_drew)); exact HO_11.out⟩, ⟨by (with_reducible repeat (first | refine blk_drewN ?_ _ | refine blk_drew ?_ | refine blk_alloc ?_ _)); exact BK257.out⟩, ⟨by repeat (first | (with_reducible first | exact HB.out | apply below_alloc | apply pw_below_drewN | apply below_drew1 | refine below_set ?_ GE257.out) | exact HB.out)⟩⟩
         ·rw [if_neg c13] at H
          exact absurd H (by simp)
      ·rw [if_neg c8] at H
       have c8b0 : decide (x13_2 < a0_0) = false := decide_eq_false c8
       clear c8
       have H' := Aside0.mk H
       clear H
       have hcz39_0 : wr.cell? ⟨gb257, 0, none⟩ = some (.int .i64 a0_0) := (blk_cell BK257.out 0).trans rfl
       have hcz39_1 : wr.cell? ⟨gb257, 1, none⟩ = some (.bool a0_1) := (blk_cell BK257.out 1).trans rfl
       have hcz39_2 : wr.cell? ⟨gb257, 2, none⟩ = some (.slice A0_2 l0_2.length c0_2) := (blk_cell BK257.out 2).trans rfl
       have hfz39_0 := blk_frozen BK257.out 0
       have hfz39_1 := blk_frozen BK257.out 1
       have hfz39_2 := blk_frozen BK257.out 2
       go_wp2
       go_roundg k2
       case measure => have := HK1.out; have := HK2.out; omega
       case rel => exact ⟨(x11_2), (wrap64 (x12_1 + 1)), (by first | rfl | (simp; done) | (simp [*]; done)), H', ⟨by have := HK1.out; have := HK2.out; omega⟩, ⟨by (with_reducible repeat (first | apply Kd.R_alloc | apply Kd.R_drewN | apply Kd.R_drew)); exact HO_11.out⟩, ⟨by (with_reducible repeat (first | refine blk_drewN ?_ _ | refine blk_drew ?_ | refine blk_alloc ?_ _)); exact BK257.out⟩, ⟨by repeat (first | (with_reducible first | exact HB.out | apply below_alloc | apply pw_below_drewN | apply below_drew1 | refine below_set ?_ GE257.out) | exact HB.out)⟩⟩
   ·rw [if_neg c7] at H
    have c7b0 : decide (x12_1 ≤ a3) = false := decide_eq_false c7
    clear c7
    obtain rfl := Option.some.inj H
    go_wp2
    go_ret
    exact ⟨_, by first | rfl | (simp [errW_none, errW_some] <;> rfl) | (simp [*, errW_none, errW_some] <;> rfl), by (with_reducible repeat (first | apply Kd.R_alloc | apply Kd.R_drewN | apply Kd.R_drew)); exact HO_11.out, by repeat (first | (with_reducible first | exact HB.out | apply below_alloc | apply pw_below_drewN | apply below_drew1 | refine below_set ?_ GE257.out) | exact HB.out)⟩

end Go.Proofs.Ytagppmdgmppmnaa.P

-- Laid by wip/tool/mk.py, by the kit's print.py, for all laws of this seat in one namespace; a function told as by hand has a proof of this session's own.
namespace Go.Proofs.Ytagppmdgmppmnaa.P
open Go.RowKit Go.Proofs.YtagppmdgmppmnaaW.PrintWords Go.Proofs.YtagppmdgmppmnaaW.PrintLast Go.Proofs.YtagppmdgmppmnaaW.PrintMore
attribute [local go_sem] max2_int min2_int max_two min_two max_three min_three max_four min_four   -- for this text's walks alone
set_option linter.unusedVariables false
set_option linter.unusedSimpArgs false

/-! ### ebbtidelaw18_TimecutSmall: function 5 -/
def ebbtidelaw18_TimecutSmall.j0 : Nat → Int → Int → Int → Int → List (S59) → Bool → Int → Bool → List (S69) → Option (Bool)
 | 0, _, _, _, _, _, _, _, _, _ => none
 | k + 1, x2, x8, x9, x10, x11, x64, x281000, x281001, x281002 => if x64 = true then (some false) else (if (x11.length : Int) = 0 then (none) else (if 0 ≤ (Int.tmod (wrap64 (x2)) (x11.length : Int)) then (if (Int.tmod (wrap64 (x2)) (x11.length : Int)) ≤ (x11.length : Int) then ((some (x11.take ((Int.tmod (wrap64 (x2)) (x11.length : Int)) : Int).toNat : List (S59))).bind fun y288 => (if ([] : List (S59)).length + y288.length < 8796093022208 then ((some (([] : List (S59)) ++ y288 : List (S59))).bind fun y292 => (if 0 ≤ (wrap64 ((Int.tmod (wrap64 (x2)) (x11.length : Int)) + 1)) then (if (wrap64 ((Int.tmod (wrap64 (x2)) (x11.length : Int)) + 1)) ≤ (x11.length : Int) then ((some (x11.drop ((wrap64 ((Int.tmod (wrap64 (x2)) (x11.length : Int)) + 1)) : Int).toNat : List (S59))).bind fun y295 => (if y292.length + y295.length < 8796093022208 then ((some (y292 ++ y295 : List (S59))).bind fun y299 => ((timecut_Check.f k x281000 x281001 x281002 x8 x9 x10 y299).bind fun bt302 => ((ebbtideref18_Check.f k x281000 x281001 x281002 x8 x9 x10 y299).bind fun bt304 => ((ebbtidelaw18_awake.f k).bind fun t306 => (if t306 = true then (if bt302.1 = bt304.1 then (some (bt302.2 == bt304.2)) else (some false)) else (some false)))))) else (none))) else (none)) else (none))) else (none))) else (none)) else (none)))
def ebbtidelaw18_TimecutSmall.f (k : Nat) (a0_0 : Int) (a0_1 : Bool) (l0_2 : List (S79)) (a0_3 : Int) (a0_4 : Int) (a0_5 : Int) (l1 : List Int) (a2 : Int) : Option (Bool) := (ebbtidelaw12_Read.f k a0_0 a0_1 l0_2 a0_3 a0_4 a0_5 10).bind fun bt272 => ((ebbtidelaw18_Made.f k bt272.1 bt272.2.1 bt272.2.2.1 bt272.2.2.2.1 bt272.2.2.2.2.1 bt272.2.2.2.2.2 l1).bind fun t281 => ((timecut_Check.f k bt272.1 bt272.2.1 bt272.2.2.1 bt272.2.2.2.1 bt272.2.2.2.2.1 bt272.2.2.2.2.2 t281).bind fun bt284 => ((ebbtideref18_Check.f k bt272.1 bt272.2.1 bt272.2.2.1 bt272.2.2.2.1 bt272.2.2.2.2.1 bt272.2.2.2.2.2 t281).bind fun bt286 => (if bt284.1 = bt286.1 then (if bt284.2 = bt286.2 then (ebbtidelaw18_TimecutSmall.j0 k a2 bt272.2.2.2.1 bt272.2.2.2.2.1 bt272.2.2.2.2.2 t281 (bt284.2 != 0) bt272.1 bt272.2.1 bt272.2.2.1) else (ebbtidelaw18_TimecutSmall.j0 k a2 bt272.2.2.2.1 bt272.2.2.2.2.1 bt272.2.2.2.2.2 t281 true bt272.1 bt272.2.1 bt272.2.2.1)) else (ebbtidelaw18_TimecutSmall.j0 k a2 bt272.2.2.2.1 bt272.2.2.2.2.1 bt272.2.2.2.2.2 t281 true bt272.1 bt272.2.1 bt272.2.2.1)))))
theorem ebbtidelaw18_TimecutSmall.mono_l : ∀ k, (∀ y0 y1 y2 y3 y4 y5 y6 y7 y8, LeO (ebbtidelaw18_TimecutSmall.j0 k y0 y1 y2 y3 y4 y5 y6 y7 y8) (ebbtidelaw18_TimecutSmall.j0 (k + 1) y0 y1 y2 y3 y4 y5 y6 y7 y8))
 | 0 => fun _ _ _ _ _ _ _ _ _ r h => by simp [ebbtidelaw18_TimecutSmall.j0] at h
 | k + 1 => by
  have ih0 := ebbtidelaw18_TimecutSmall.mono_l k
  ·intro y0 y1 y2 y3 y4 y5 y6 y7 y8
   unfold ebbtidelaw18_TimecutSmall.j0
   repeat' first
   | (with_reducible exact ih0 _ _ _ _ _ _ _ _ _)
   | (with_reducible exact ebbtidelaw12_Read.mono _ _ _ _ _ _ _ _)
   | (with_reducible exact ebbtidelaw18_Made.mono _ _ _ _ _ _ _ _)
   | (with_reducible exact ebbtidelaw18_awake.mono _)
   | (with_reducible exact ebbtideref18_Check.mono _ _ _ _ _ _ _ _)
   | (with_reducible exact timecut_Check.mono _ _ _ _ _ _ _ _)
   | (with_reducible exact LeO.refl _)
   | (with_reducible exact LeO.none _)
   | (with_reducible refine LeO.ite ?_ ?_)
   | (with_reducible refine LeO.bind ?_ (fun _ => ?_))
   | exact ih0 _ _ _ _ _ _ _ _ _
   | exact ebbtidelaw12_Read.mono _ _ _ _ _ _ _ _
   | exact ebbtidelaw18_Made.mono _ _ _ _ _ _ _ _
   | exact ebbtidelaw18_awake.mono _
   | exact ebbtideref18_Check.mono _ _ _ _ _ _ _ _
   | exact timecut_Check.mono _ _ _ _ _ _ _ _
   | exact LeO.none _
   | refine LeO.ite ?_ ?_
   | refine LeO.bind ?_ (fun _ => ?_)
theorem ebbtidelaw18_TimecutSmall.mono : ∀ a0 a1 a2 a3 a4 a5 a6 a7 k, LeO (ebbtidelaw18_TimecutSmall.f k a0 a1 a2 a3 a4 a5 a6 a7) (ebbtidelaw18_TimecutSmall.f (k + 1) a0 a1 a2 a3 a4 a5 a6 a7) := by
 intro a0 a1 a2 a3 a4 a5 a6 a7 k
 have ih0 := ebbtidelaw18_TimecutSmall.mono_l k
 unfold ebbtidelaw18_TimecutSmall.f
 repeat' first
   | (with_reducible exact ih0 _ _ _ _ _ _ _ _ _)
   | (with_reducible exact ebbtidelaw12_Read.mono _ _ _ _ _ _ _ _)
   | (with_reducible exact ebbtidelaw18_Made.mono _ _ _ _ _ _ _ _)
   | (with_reducible exact ebbtidelaw18_awake.mono _)
   | (with_reducible exact ebbtideref18_Check.mono _ _ _ _ _ _ _ _)
   | (with_reducible exact timecut_Check.mono _ _ _ _ _ _ _ _)
   | (with_reducible exact LeO.refl _)
   | (with_reducible exact LeO.none _)
   | (with_reducible refine LeO.ite ?_ ?_)
   | (with_reducible refine LeO.bind ?_ (fun _ => ?_))
   | exact ih0 _ _ _ _ _ _ _ _ _
   | exact ebbtidelaw12_Read.mono _ _ _ _ _ _ _ _
   | exact ebbtidelaw18_Made.mono _ _ _ _ _ _ _ _
   | exact ebbtidelaw18_awake.mono _
   | exact ebbtideref18_Check.mono _ _ _ _ _ _ _ _
   | exact timecut_Check.mono _ _ _ _ _ _ _ _
   | exact LeO.none _
   | refine LeO.ite ?_ ?_
   | refine LeO.bind ?_ (fun _ => ?_)
set_option maxHeartbeats 8000000 in
set_option maxRecDepth 100000 in
theorem ebbtidelaw18_TimecutSmall.calls (k : Nat) (a0_0 : Int) (a0_1 : Bool) (A0_2 : Option Addr) (c0_2 : Nat) (l0_2 : List (S79)) (a0_3 : Int) (a0_4 : Int) (a0_5 : Int) (A1 : Option Addr) (c1 : Nat) (l1 : List Int) (a2 : Int) (r : Bool) (w : World) (hr0_2 : Kd.C k79 w A0_2 l0_2.length l0_2) (hc0_2 : l0_2.length ≤ c0_2) (hr1 : Kd.C (Kd.int .u16) w A1 l1.length l1) (hc1 : l1.length ≤ c1) (h : ebbtidelaw18_TimecutSmall.f k a0_0 a0_1 l0_2 a0_3 a0_4 a0_5 l1 a2 = some r) (hrT_ : r = true := by first | rfl | exact Aside0.out (by assumption)) :
  Calls Try.prog 5 #[.agg #[.int .u8 a0_0, .bool a0_1, .slice A0_2 l0_2.length c0_2, .int .u8 a0_3, .int .u8 a0_4, .int .u8 a0_5], .slice A1 l1.length c1, .int .u8 a2] w fun e w' => e = .returned (.bool r) ∧ Below w.heap.size w w' := by
 have HRT := Aside0.mk hrT_
 clear hrT_
 have hu38 := Try.underlying38
 have hu24 := Try.underlying24
 have HR0_2 := Aside0.mk hr0_2
 have HC0_2 := Aside0.mk hc0_2
 clear hr0_2 hc0_2
 have HR1 := Aside0.mk hr1
 have HC1 := Aside0.mk hc1
 clear hr1 hc1
 have HB := Aside0.mk (Below.refl w.heap.size w)
 have H : ((ebbtidelaw12_Read.f k a0_0 a0_1 l0_2 a0_3 a0_4 a0_5 10).bind fun bt272 => ((ebbtidelaw18_Made.f k bt272.1 bt272.2.1 bt272.2.2.1 bt272.2.2.2.1 bt272.2.2.2.2.1 bt272.2.2.2.2.2 l1).bind fun t281 => ((timecut_Check.f k bt272.1 bt272.2.1 bt272.2.2.1 bt272.2.2.2.1 bt272.2.2.2.2.1 bt272.2.2.2.2.2 t281).bind fun bt284 => ((ebbtideref18_Check.f k bt272.1 bt272.2.1 bt272.2.2.1 bt272.2.2.2.1 bt272.2.2.2.2.1 bt272.2.2.2.2.2 t281).bind fun bt286 => (if bt284.1 = bt286.1 then (if bt284.2 = bt286.2 then (ebbtidelaw18_TimecutSmall.j0 k a2 bt272.2.2.2.1 bt272.2.2.2.2.1 bt272.2.2.2.2.2 t281 (bt284.2 != 0) bt272.1 bt272.2.1 bt272.2.2.1) else (ebbtidelaw18_TimecutSmall.j0 k a2 bt272.2.2.2.1 bt272.2.2.2.2.1 bt272.2.2.2.2.2 t281 true bt272.1 bt272.2.1 bt272.2.2.1)) else (ebbtidelaw18_TimecutSmall.j0 k a2 bt272.2.2.2.1 bt272.2.2.2.2.1 bt272.2.2.2.2.2 t281 true bt272.1 bt272.2.1 bt272.2.2.1)))))) = some r := h
 clear h
 replace H := Option.bind_eq_some_iff.mp H
 obtain ⟨⟨t272, t273, t274, t277, t278, t279⟩, A40, H⟩ := H
 replace H : ((ebbtidelaw18_Made.f k t272 t273 t274 t277 t278 t279 l1).bind fun t281 => ((timecut_Check.f k t272 t273 t274 t277 t278 t279 t281).bind fun bt284 => ((ebbtideref18_Check.f k t272 t273 t274 t277 t278 t279 t281).bind fun bt286 => (if bt284.1 = bt286.1 then (if bt284.2 = bt286.2 then (ebbtidelaw18_TimecutSmall.j0 k a2 t277 t278 t279 t281 (bt284.2 != 0) t272 t273 t274) else (ebbtidelaw18_TimecutSmall.j0 k a2 t277 t278 t279 t281 true t272 t273 t274)) else (ebbtidelaw18_TimecutSmall.j0 k a2 t277 t278 t279 t281 true t272 t273 t274))))) = some r := H
 have A4 := Aside0.mk A40
 clear A40
 replace H := Option.bind_eq_some_iff.mp H
 obtain ⟨t281, A50, H⟩ := H
 replace H : ((timecut_Check.f k t272 t273 t274 t277 t278 t279 t281).bind fun bt284 => ((ebbtideref18_Check.f k t272 t273 t274 t277 t278 t279 t281).bind fun bt286 => (if bt284.1 = bt286.1 then (if bt284.2 = bt286.2 then (ebbtidelaw18_TimecutSmall.j0 k a2 t277 t278 t279 t281 (bt284.2 != 0) t272 t273 t274) else (ebbtidelaw18_TimecutSmall.j0 k a2 t277 t278 t279 t281 true t272 t273 t274)) else (ebbtidelaw18_TimecutSmall.j0 k a2 t277 t278 t279 t281 true t272 t273 t274)))) = some r := H
 have A5 := Aside0.mk A50
 clear A50
 replace H := Option.bind_eq_some_iff.mp H
 obtain ⟨⟨t284, t285⟩, A60, H⟩ := H
 replace H : ((ebbtideref18_Check.f k t272 t273 t274 t277 t278 t279 t281).bind fun bt286 => (if t284 = bt286.1 then (if t285 = bt286.2 then (ebbtidelaw18_TimecutSmall.j0 k a2 t277 t278 t279 t281 (t285 != 0) t272 t273 t274) else (ebbtidelaw18_TimecutSmall.j0 k a2 t277 t278 t279 t281 true t272 t273 t274)) else (ebbtidelaw18_TimecutSmall.j0 k a2 t277 t278 t279 t281 true t272 t273 t274))) = some r := H
 have A6 := Aside0.mk A60
 clear A60
 replace H := Option.bind_eq_some_iff.mp H
 obtain ⟨⟨t286, t287⟩, A70, H⟩ := H
 replace H : (if t284 = t286 then (if t285 = t287 then (ebbtidelaw18_TimecutSmall.j0 k a2 t277 t278 t279 t281 (t285 != 0) t272 t273 t274) else (ebbtidelaw18_TimecutSmall.j0 k a2 t277 t278 t279 t281 true t272 t273 t274)) else (ebbtidelaw18_TimecutSmall.j0 k a2 t277 t278 t279 t281 true t272 t273 t274)) = some r := H
 have A7 := Aside0.mk A70
 clear A70
 have HC8 := Aside0.mk H
 clear H
 go_enter Try.func5, Try.ntmps5
 go_upto_region 5 with (first | ((with_reducible refine gate_dst (N := 3) rfl ?_); refine box_event ?hg (N := 3) ?hd (cs := #[.int .u8 a0_0, .bool a0_1, .slice A0_2 l0_2.length c0_2, .int .u8 a0_3, .int .u8 a0_4, .int .u8 a0_5]) (t := 38) ?hr ?_; (case hd => rfl); (case hg => rfl); (case hr => first | (go_simp; done) | (go_simp; rfl)); intro gb271 hg w9 hbox hb; have n0_ := Aside0.mk (below_step (by repeat (first | (with_reducible first | exact HB.out | apply below_alloc | apply pw_below_drewN | apply below_drew1) | exact HB.out)) hb); have n1_ := Aside0.mk (hbox); have n2_ := Aside0.mk ((by rw [hg]; exact (below_size (by repeat (first | (with_reducible first | exact HB.out | apply below_alloc | apply pw_below_drewN | apply below_drew1) | exact HB.out))) : w.heap.size ≤ gb271)); have n3_ := Aside0.mk ((by rw [hg]; exact (below_size (by repeat (first | (with_reducible first | exact HB.out | apply below_alloc | apply pw_below_drewN | apply below_drew1) | exact HB.out))) : w.heap.size ≤ gb271)); clear HB; have HB := n0_; have BK271 := n1_; have GW271 := n2_; have GE271 := n3_; clear n0_ n1_ n2_ n3_; clear hb hbox hg; have hcz10_0 : w9.cell? ⟨gb271, 0, none⟩ = some (.int .u8 a0_0) := (blk_cell BK271.out 0).trans rfl; have hcz10_1 : w9.cell? ⟨gb271, 1, none⟩ = some (.bool a0_1) := (blk_cell BK271.out 1).trans rfl; have hcz10_2 : w9.cell? ⟨gb271, 2, none⟩ = some (.slice A0_2 l0_2.length c0_2) := (blk_cell BK271.out 2).trans rfl; have hcz10_3 : w9.cell? ⟨gb271, 3, none⟩ = some (.int .u8 a0_3) := (blk_cell BK271.out 3).trans rfl; have hcz10_4 : w9.cell? ⟨gb271, 4, none⟩ = some (.int .u8 a0_4) := (blk_cell BK271.out 4).trans rfl; have hcz10_5 : w9.cell? ⟨gb271, 5, none⟩ = some (.int .u8 a0_5) := (blk_cell BK271.out 5).trans rfl; have hfz10_0 := blk_frozen BK271.out 0; have hfz10_1 := blk_frozen BK271.out 1; have hfz10_2 := blk_frozen BK271.out 2; have hfz10_3 := blk_frozen BK271.out 3; have hfz10_4 := blk_frozen BK271.out 4; have hfz10_5 := blk_frozen BK271.out 5) | ((with_reducible refine gate_callee (f := 17) rfl ?_); refine goesL_ (some 24) rfl rfl Try.func17 (by kernel_rfl) rfl #[.agg #[.int .u8 a0_0, .bool a0_1, .slice A0_2 l0_2.length c0_2, .int .u8 a0_3, .int .u8 a0_4, .int .u8 a0_5], .int .i64 10] rfl (by (try simp only [List.map_toArray, List.map_cons, List.map_nil]); first | done | rfl | (simp only [List.length_drop, List.length_take]; rfl)) ?_; (with_reducible refine (ebbtidelaw12_Read.calls k a0_0 a0_1 _ _ l0_2 a0_3 a0_4 a0_5 10 t272 t273 t274 t277 t278 t279 _ ?side1 ?side2 A4.out).mono ?_); (case side1 => repeat (first | exact (Kd.C_below HR0_2.out HB.out) | (with_reducible refine Kd.C_alloc ?_ _) | (with_reducible refine Kd.C_drewN ?_ _) | (with_reducible refine Kd.C_drew ?_))); (case side2 => exact HC0_2.out); rintro e w11 ⟨v275, rfl, ho0, hb⟩; refine ⟨_, rfl, ?_⟩; have n0_ := Aside0.mk (Kd.R_lower ho0 (below_size (by repeat (first | (with_reducible first | exact HB.out | apply below_alloc | apply pw_below_drewN | apply below_drew1 | refine below_set ?_ GE271.out) | exact HB.out)))); have n1_ := Aside0.mk (blk_below (g := gb271) (o := .cells #[.int .u8 a0_0, .bool a0_1, .slice A0_2 l0_2.length c0_2, .int .u8 a0_3, .int .u8 a0_4, .int .u8 a0_5] 38 (0, 0)) (by (with_reducible repeat (first | refine blk_drewN ?_ _ | refine blk_drew ?_ | refine blk_alloc ?_ _)); exact BK271.out) hb); have n2_ := Aside0.mk (below_step (by repeat (first | (with_reducible first | exact HB.out | apply below_alloc | apply pw_below_drewN | apply below_drew1 | refine below_set ?_ GE271.out) | exact HB.out)) hb); clear BK271; clear HB; have HO276 := n0_; have BK271 := n1_; have HB := n2_; clear n0_ n1_ n2_; (try clear hb); (try clear hb2); (try clear hk); (try clear hi); (try clear ho0)) | ((with_reducible refine gate_dst (N := 7) rfl ?_); refine box_event ?hg (N := 7) ?hd (cs := #[.int .i64 0, .bool false, .slice none 0 0]) (t := 24) ?hr ?_; (case hd => rfl); (case hg => rfl); (case hr => first | (go_simp; done) | (go_simp; rfl)); intro gb280 hg w12 hbox hb; have n0_ := Aside0.mk (Kd.R_below (by (with_reducible repeat (first | apply Kd.R_alloc | apply Kd.R_drewN | apply Kd.R_drew)); exact HO276.out) hb); have n1_ := Aside0.mk (blk_below (g := gb271) (o := .cells #[.int .u8 a0_0, .bool a0_1, .slice A0_2 l0_2.length c0_2, .int .u8 a0_3, .int .u8 a0_4, .int .u8 a0_5] 38 (0, 0)) (by (with_reducible repeat (first | refine blk_drewN ?_ _ | refine blk_drew ?_ | refine blk_alloc ?_ _)); exact BK271.out) hb); have n2_ := Aside0.mk (below_step (by repeat (first | (with_reducible first | exact HB.out | apply below_alloc | apply pw_below_drewN | apply below_drew1 | refine below_set ?_ GE271.out) | exact HB.out)) hb); have n3_ := Aside0.mk (hbox); have n4_ := Aside0.mk ((by rw [hg]; exact (below_size (by repeat (first | (with_reducible first | exact HB.out | apply below_alloc | apply pw_below_drewN | apply below_drew1 | refine below_set ?_ GE271.out) | exact HB.out))) : w.heap.size ≤ gb280)); have n5_ := Aside0.mk ((by rw [hg]; exact (below_size (by repeat (first | (with_reducible first | exact HB.out | apply below_alloc | apply pw_below_drewN | apply below_drew1 | refine below_set ?_ GE271.out) | exact HB.out))) : w.heap.size ≤ gb280)); have n6_ := Aside0.mk ((by rw [hg]; exact Nat.ne_of_lt (blk_lt (g := gb271) (o := .cells #[.int .u8 a0_0, .bool a0_1, .slice A0_2 l0_2.length c0_2, .int .u8 a0_3, .int .u8 a0_4, .int .u8 a0_5] 38 (0, 0)) (by (with_reducible repeat (first | refine blk_drewN ?_ _ | refine blk_drew ?_ | refine blk_alloc ?_ _)); exact BK271.out)) : gb271 ≠ gb280)); have n7_ := Aside0.mk ((by rw [hg]; exact Nat.ne_of_gt (blk_lt (g := gb271) (o := .cells #[.int .u8 a0_0, .bool a0_1, .slice A0_2 l0_2.length c0_2, .int .u8 a0_3, .int .u8 a0_4, .int .u8 a0_5] 38 (0, 0)) (by (with_reducible repeat (first | refine blk_drewN ?_ _ | refine blk_drew ?_ | refine blk_alloc ?_ _)); exact BK271.out)) : gb280 ≠ gb271)); clear HO276; clear BK271; clear HB; have HO276 := n0_; have BK271 := n1_; have HB := n2_; have BK280 := n3_; have GW280 := n4_; have GE280 := n5_; have NB271_280 := n6_; have NB280_271 := n7_; clear n0_ n1_ n2_ n3_ n4_ n5_ n6_ n7_; clear hb hbox hg; have hnb13 := NB280_271.out; have hnc13 := NB271_280.out; have hcz14_0 : w12.cell? ⟨gb280, 0, none⟩ = some (.int .i64 0) := (blk_cell BK280.out 0).trans rfl; have hcz14_1 : w12.cell? ⟨gb280, 1, none⟩ = some (.bool false) := (blk_cell BK280.out 1).trans rfl; have hcz14_2 : w12.cell? ⟨gb280, 2, none⟩ = some (.slice none 0 0) := (blk_cell BK280.out 2).trans rfl; have hfz14_0 := blk_frozen BK280.out 0; have hfz14_1 := blk_frozen BK280.out 1; have hfz14_2 := blk_frozen BK280.out 2; obtain ⟨Ao15, co15, eo15⟩ := Kd.R_slice HO276.out; subst eo15) | ((with_reducible refine gate_callee (f := 18) rfl ?_); refine goesL_ (some 34) rfl rfl Try.func18 (by kernel_rfl) rfl #[.agg #[.int .i64 t272, .bool t273, .slice Ao15 t274.length co15], .int .i64 t277, .int .i64 t278, .int .i64 t279, .slice A1 l1.length c1] rfl (by (try simp only [List.map_toArray, List.map_cons, List.map_nil]); first | done | rfl | (simp only [List.length_drop, List.length_take]; rfl)) ?_; (with_reducible refine (ebbtidelaw18_Made.calls k t272 t273 _ _ t274 t277 t278 t279 _ _ l1 t281 _ ?side1 ?side2 ?side3 ?side4 A5.out).mono ?_); (case side1 => refine (Kd.R_reads' (e := 69) (base := w.heap.size) (ok := fun k_ => True) (n := t274.length) (c := co15) ?_).2.2; exact (by (with_reducible repeat (first | apply Kd.R_alloc | apply Kd.R_drewN | apply Kd.R_drew)); exact (Kd.R_mono (Kd.R_far (p := ⟨gb280, 2, none⟩) (Kd.R_far (p := ⟨gb280, 1, none⟩) (Kd.R_far (p := ⟨gb280, 0, none⟩) (Kd.R_types HO276.out BK280.out (by decide)) (fun _ hk => hk.2) (.int .i64 t272)) (fun _ hk => hk.2) (.bool t273)) (fun _ hk => hk.2) (.slice Ao15 t274.length co15)) (fun _ h_ => h_.1)))); (case side2 => exact (Kd.R_reads' HO276.out).2.1); (case side3 => exact Kd.C_below HR1.out (by repeat (first | (with_reducible first | exact HB.out | apply below_alloc | apply pw_below_drewN | apply below_drew1 | refine below_set ?_ GE271.out | refine below_set ?_ GE280.out) | exact HB.out))); (case side4 => exact HC1.out); rintro e w16 ⟨v282, rfl, ho0, hb⟩; refine ⟨_, rfl, ?_⟩; have n0_ := Aside0.mk (Kd.R_below (by (with_reducible repeat (first | apply Kd.R_alloc | apply Kd.R_drewN | apply Kd.R_drew)); exact (Kd.R_mono (Kd.R_far (p := ⟨gb280, 2, none⟩) (Kd.R_far (p := ⟨gb280, 1, none⟩) (Kd.R_far (p := ⟨gb280, 0, none⟩) (Kd.R_types HO276.out BK280.out (by decide)) (fun _ hk => hk.2) (.int .i64 t272)) (fun _ hk => hk.2) (.bool t273)) (fun _ hk => hk.2) (.slice Ao15 t274.length co15)) (fun _ h_ => h_.1))) hb); have n1_ := Aside0.mk (Kd.R_lower ho0 (below_size (by repeat (first | (with_reducible first | exact HB.out | apply below_alloc | apply pw_below_drewN | apply below_drew1 | refine below_set ?_ GE271.out | refine below_set ?_ GE280.out) | exact HB.out)))); have n2_ := Aside0.mk (blk_below (g := gb271) (o := .cells #[.int .u8 a0_0, .bool a0_1, .slice A0_2 l0_2.length c0_2, .int .u8 a0_3, .int .u8 a0_4, .int .u8 a0_5] 38 (0, 0)) (by (with_reducible repeat (first | refine blk_drewN ?_ _ | refine blk_drew ?_ | refine blk_alloc ?_ _)); refine blk_far ?_ NB271_280.out _; (with_reducible repeat (first | refine blk_drewN ?_ _ | refine blk_drew ?_ | refine blk_alloc ?_ _)); refine blk_far ?_ NB271_280.out _; (with_reducible repeat (first | refine blk_drewN ?_ _ | refine blk_drew ?_ | refine blk_alloc ?_ _)); refine blk_far ?_ NB271_280.out _; (with_reducible repeat (first | refine blk_drewN ?_ _ | refine blk_drew ?_ | refine blk_alloc ?_ _)); exact BK271.out) hb); have n3_ := Aside0.mk (blk_below (g := gb280) (o := .cells #[.int .i64 t272, .bool t273, .slice Ao15 t274.length co15] 24 (0, 0)) (by (with_reducible repeat (first | refine blk_drewN ?_ _ | refine blk_drew ?_ | refine blk_alloc ?_ _)); refine blk_put (cs := #[.int .i64 t272, .bool t273, .slice none 0 0]) ?_ 2 _ rfl; (with_reducible repeat (first | refine blk_drewN ?_ _ | refine blk_drew ?_ | refine blk_alloc ?_ _)); refine blk_put (cs := #[.int .i64 t272, .bool false, .slice none 0 0]) ?_ 1 _ rfl; (with_reducible repeat (first | refine blk_drewN ?_ _ | refine blk_drew ?_ | refine blk_alloc ?_ _)); refine blk_put (cs := #[.int .i64 0, .bool false, .slice none 0 0]) ?_ 0 _ rfl; (with_reducible repeat (first | refine blk_drewN ?_ _ | refine blk_drew ?_ | refine blk_alloc ?_ _)); exact BK280.out) hb); have n4_ := Aside0.mk (below_step (by repeat (first | (with_reducible first | exact HB.out | apply below_alloc | apply pw_below_drewN | apply below_drew1 | refine below_set ?_ GE271.out | refine below_set ?_ GE280.out) | exact HB.out)) hb); clear HO276; clear BK271; clear BK280; clear HB; have HO276 := n0_; have HO283 := n1_; have BK271 := n2_; have BK280 := n3_; have HB := n4_; clear n0_ n1_ n2_ n3_ n4_; (try clear hb); (try clear hb2); (try clear hk); (try clear hi); (try clear ho0); have hcz17_0 : w16.cell? ⟨gb280, 0, none⟩ = some (.int .i64 t272) := (blk_cell BK280.out 0).trans rfl; have hcz17_1 : w16.cell? ⟨gb280, 1, none⟩ = some (.bool t273) := (blk_cell BK280.out 1).trans rfl; have hcz17_2 : w16.cell? ⟨gb280, 2, none⟩ = some (.slice Ao15 t274.length co15) := (blk_cell BK280.out 2).trans rfl; have hfz17_0 := blk_frozen BK280.out 0; have hfz17_1 := blk_frozen BK280.out 1; have hfz17_2 := blk_frozen BK280.out 2; obtain ⟨Ao18, co18, eo18⟩ := Kd.R_slice HO283.out; subst eo18) | ((with_reducible refine gate_callee (f := 12) rfl ?_); refine goesL_ (some 41) rfl rfl Try.func12 (by kernel_rfl) rfl #[.agg #[.int .i64 t272, .bool t273, .slice Ao15 t274.length co15], .int .i64 t277, .int .i64 t278, .int .i64 t279, .slice Ao18 t281.length co18] rfl (by (try simp only [List.map_toArray, List.map_cons, List.map_nil]); first | done | rfl | (simp only [List.length_drop, List.length_take]; rfl)) ?_; (with_reducible refine (timecut_Check.calls k t272 t273 _ _ t274 t277 t278 t279 _ _ t281 t284 t285 _ ?side1 ?side2 ?side3 ?side4 A6.out).mono ?_); (case side1 => repeat (first | exact (Kd.R_reads' HO276.out).2.2 | (with_reducible refine Kd.C_alloc ?_ _) | (with_reducible refine Kd.C_drewN ?_ _) | (with_reducible refine Kd.C_drew ?_))); (case side2 => exact (Kd.R_reads' HO276.out).2.1); (case side3 => repeat (first | exact (Kd.R_reads' HO283.out).2.2 | (with_reducible refine Kd.C_alloc ?_ _) | (with_reducible refine Kd.C_drewN ?_ _) | (with_reducible refine Kd.C_drew ?_))); (case side4 => exact (Kd.R_reads' HO283.out).2.1); rintro e w19 ⟨rfl, hb⟩; refine ⟨_, rfl, ?_⟩; have n0_ := Aside0.mk (Kd.R_below (by (with_reducible repeat (first | apply Kd.R_alloc | apply Kd.R_drewN | apply Kd.R_drew)); exact HO276.out) hb); have n1_ := Aside0.mk (Kd.R_below (by (with_reducible repeat (first | apply Kd.R_alloc | apply Kd.R_drewN | apply Kd.R_drew)); exact HO283.out) hb); have n2_ := Aside0.mk (blk_below (g := gb271) (o := .cells #[.int .u8 a0_0, .bool a0_1, .slice A0_2 l0_2.length c0_2, .int .u8 a0_3, .int .u8 a0_4, .int .u8 a0_5] 38 (0, 0)) (by (with_reducible repeat (first | refine blk_drewN ?_ _ | refine blk_drew ?_ | refine blk_alloc ?_ _)); exact BK271.out) hb); have n3_ := Aside0.mk (blk_below (g := gb280) (o := .cells #[.int .i64 t272, .bool t273, .slice Ao15 t274.length co15] 24 (0, 0)) (by (with_reducible repeat (first | refine blk_drewN ?_ _ | refine blk_drew ?_ | refine blk_alloc ?_ _)); exact BK280.out) hb); have n4_ := Aside0.mk (below_step (by repeat (first | (with_reducible first | exact HB.out | apply below_alloc | apply pw_below_drewN | apply below_drew1 | refine below_set ?_ GE271.out | refine below_set ?_ GE280.out) | exact HB.out)) hb); clear HO276; clear HO283; clear BK271; clear BK280; clear HB; have HO276 := n0_; have HO283 := n1_; have BK271 := n2_; have BK280 := n3_; have HB := n4_; clear n0_ n1_ n2_ n3_ n4_; (try clear hb); (try clear hb2); (try clear hk); (try clear hi); have hcz20_0 : w19.cell? ⟨gb280, 0, none⟩ = some (.int .i64 t272) := (blk_cell BK280.out 0).trans rfl; have hcz20_1 : w19.cell? ⟨gb280, 1, none⟩ = some (.bool t273) := (blk_cell BK280.out 1).trans rfl; have hcz20_2 : w19.cell? ⟨gb280, 2, none⟩ = some (.slice Ao15 t274.length co15) := (blk_cell BK280.out 2).trans rfl; have hfz20_0 := blk_frozen BK280.out 0; have hfz20_1 := blk_frozen BK280.out 1; have hfz20_2 := blk_frozen BK280.out 2) | ((with_reducible refine gate_callee (f := 13) rfl ?_); refine goesL_ (some 50) rfl rfl Try.func13 (by kernel_rfl) rfl #[.agg #[.int .i64 t272, .bool t273, .slice Ao15 t274.length co15], .int .i64 t277, .int .i64 t278, .int .i64 t279, .slice Ao18 t281.length co18] rfl (by (try simp only [List.map_toArray, List.map_cons, List.map_nil]); first | done | rfl | (simp only [List.length_drop, List.length_take]; rfl)) ?_; (with_reducible refine (ebbtideref18_Check.calls k t272 t273 _ _ t274 t277 t278 t279 _ _ t281 t286 t287 _ ?side1 ?side2 ?side3 ?side4 A7.out).mono ?_); (case side1 => repeat (first | exact (Kd.R_reads' HO276.out).2.2 | (with_reducible refine Kd.C_alloc ?_ _) | (with_reducible refine Kd.C_drewN ?_ _) | (with_reducible refine Kd.C_drew ?_))); (case side2 => exact (Kd.R_reads' HO276.out).2.1); (case side3 => repeat (first | exact (Kd.R_reads' HO283.out).2.2 | (with_reducible refine Kd.C_alloc ?_ _) | (with_reducible refine Kd.C_drewN ?_ _) | (with_reducible refine Kd.C_drew ?_))); (case side4 => exact (Kd.R_reads' HO283.out).2.1); rintro e w21 ⟨rfl, hb⟩; refine ⟨_, rfl, ?_⟩; have n0_ := Aside0.mk (Kd.R_below (by (with_reducible repeat (first | apply Kd.R_alloc | apply Kd.R_drewN | apply Kd.R_drew)); exact HO276.out) hb); have n1_ := Aside0.mk (Kd.R_below (by (with_reducible repeat (first | apply Kd.R_alloc | apply Kd.R_drewN | apply Kd.R_drew)); exact HO283.out) hb); have n2_ := Aside0.mk (blk_below (g := gb271) (o := .cells #[.int .u8 a0_0, .bool a0_1, .slice A0_2 l0_2.length c0_2, .int .u8 a0_3, .int .u8 a0_4, .int .u8 a0_5] 38 (0, 0)) (by (with_reducible repeat (first | refine blk_drewN ?_ _ | refine blk_drew ?_ | refine blk_alloc ?_ _)); exact BK271.out) hb); have n3_ := Aside0.mk (blk_below (g := gb280) (o := .cells #[.int .i64 t272, .bool t273, .slice Ao15 t274.length co15] 24 (0, 0)) (by (with_reducible repeat (first | refine blk_drewN ?_ _ | refine blk_drew ?_ | refine blk_alloc ?_ _)); exact BK280.out) hb); have n4_ := Aside0.mk (below_step (by repeat (first | (with_reducible first | exact HB.out | apply below_alloc | apply pw_below_drewN | apply below_drew1 | refine below_set ?_ GE271.out | refine below_set ?_ GE280.out) | exact HB.out)) hb); clear HO276; clear HO283; clear BK271; clear BK280; clear HB; have HO276 := n0_; have HO283 := n1_; have BK271 := n2_; have BK280 := n3_; have HB := n4_; clear n0_ n1_ n2_ n3_ n4_; (try clear hb); (try clear hb2); (try clear hk); (try clear hi)))
 (try simp only [Act.put, List.setIfInBounds_toArray, List.set_cons_zero, List.set_cons_succ])
 go_cut [64] (fun v64 wc => ∃ (kq : Nat) (x64_7 : Bool), v64 = .bool x64_7 ∧ Aside0 (ebbtidelaw18_TimecutSmall.j0 kq a2 t277 t278 t279 t281 x64_7 t272 t273 t274 = some r) ∧ Aside0 (kq ≤ k) ∧ Aside0 (Kd.R k59 59 wc w.heap.size (fun _ => True) (.slice Ao18 t281.length co18) t281) ∧ Aside0 (Kd.R k69 69 wc w.heap.size (fun _ => True) (.slice Ao15 t274.length co15) t274) ∧ Aside0 (wc.heap[gb271]? = some (.cells #[.int .u8 a0_0, .bool a0_1, (.slice A0_2 l0_2.length c0_2), .int .u8 a0_3, .int .u8 a0_4, .int .u8 a0_5] 38 (0, 0))) ∧ Aside0 (wc.heap[gb280]? = some (.cells #[.int .i64 t272, .bool t273, (.slice Ao15 t274.length co15)] 24 (0, 0))) ∧ Aside0 (Below w.heap.size w wc))
 case first =>
  have H := HC8.out
  clear HC8
  by_cases c22 : t284 = t286
  ·rw [if_pos c22] at H
   have c22b0 : (t284 == t286) = true := beq_iff_eq.mpr c22
   have c22b1 : (t284 != t286) = false := bne_eq_false_iff_eq.mpr c22
   clear c22
   (first | rw [c22b0] | (simp only [i64_w, i32_w]; rw [c22b0]) | skip)
   by_cases c23 : t285 = t287
   ·rw [if_pos c23] at H
    have c23b0 : (t285 == t287) = true := beq_iff_eq.mpr c23
    have c23b1 : (t285 != t287) = false := bne_eq_false_iff_eq.mpr c23
    clear c23
    have H' := Aside0.mk H
    clear H
    go_wp2
    go_meet
    case rel => exact ⟨_, ((t285 != 0)), (by first | rfl | (simp; done) | (simp [*]; done)), H', ⟨by first | omega | exact Nat.le_refl _⟩, ⟨by (with_reducible repeat (first | apply Kd.R_alloc | apply Kd.R_drewN | apply Kd.R_drew)); exact HO283.out⟩, ⟨by (with_reducible repeat (first | apply Kd.R_alloc | apply Kd.R_drewN | apply Kd.R_drew)); exact HO276.out⟩, ⟨by (with_reducible repeat (first | refine blk_drewN ?_ _ | refine blk_drew ?_ | refine blk_alloc ?_ _)); exact BK271.out⟩, ⟨by (with_reducible repeat (first | refine blk_drewN ?_ _ | refine blk_drew ?_ | refine blk_alloc ?_ _)); exact BK280.out⟩, ⟨by repeat (first | (with_reducible first | exact HB.out | apply below_alloc | apply pw_below_drewN | apply below_drew1 | refine below_set ?_ GE271.out | refine below_set ?_ GE280.out) | exact HB.out)⟩⟩
   ·rw [if_neg c23] at H
    have c23b0 : (t285 == t287) = false := beq_eq_false_iff_ne.mpr c23
    have c23b1 : (t285 != t287) = true := bne_iff_ne.mpr c23
    have H' := Aside0.mk H
    clear H
    go_wp2
    go_meet
    case rel => exact ⟨_, (true), (by first | rfl | (simp; done) | (simp [*]; done)), H', ⟨by first | omega | exact Nat.le_refl _⟩, ⟨by (with_reducible repeat (first | apply Kd.R_alloc | apply Kd.R_drewN | apply Kd.R_drew)); exact HO283.out⟩, ⟨by (with_reducible repeat (first | apply Kd.R_alloc | apply Kd.R_drewN | apply Kd.R_drew)); exact HO276.out⟩, ⟨by (with_reducible repeat (first | refine blk_drewN ?_ _ | refine blk_drew ?_ | refine blk_alloc ?_ _)); exact BK271.out⟩, ⟨by (with_reducible repeat (first | refine blk_drewN ?_ _ | refine blk_drew ?_ | refine blk_alloc ?_ _)); exact BK280.out⟩, ⟨by repeat (first | (with_reducible first | exact HB.out | apply below_alloc | apply pw_below_drewN | apply below_drew1 | refine below_set ?_ GE271.out | refine below_set ?_ GE280.out) | exact HB.out)⟩⟩
  ·rw [if_neg c22] at H
   have c22b0 : (t284 == t286) = false := beq_eq_false_iff_ne.mpr c22
   have c22b1 : (t284 != t286) = true := bne_iff_ne.mpr c22
   (first | rw [c22b0] | (simp only [i64_w, i32_w]; rw [c22b0]) | skip)
   have H' := Aside0.mk H
   clear H
   go_wp2
   go_meet
   case rel => exact ⟨_, (true), (by first | rfl | (simp; done) | (simp [*]; done)), H', ⟨by first | omega | exact Nat.le_refl _⟩, ⟨by (with_reducible repeat (first | apply Kd.R_alloc | apply Kd.R_drewN | apply Kd.R_drew)); exact HO283.out⟩, ⟨by (with_reducible repeat (first | apply Kd.R_alloc | apply Kd.R_drewN | apply Kd.R_drew)); exact HO276.out⟩, ⟨by (with_reducible repeat (first | refine blk_drewN ?_ _ | refine blk_drew ?_ | refine blk_alloc ?_ _)); exact BK271.out⟩, ⟨by (with_reducible repeat (first | refine blk_drewN ?_ _ | refine blk_drew ?_ | refine blk_alloc ?_ _)); exact BK280.out⟩, ⟨by repeat (first | (with_reducible first | exact HB.out | apply below_alloc | apply pw_below_drewN | apply below_drew1 | refine below_set ?_ GE271.out | refine below_set ?_ GE280.out) | exact HB.out)⟩⟩
 case rest =>
  clear HC8
  try clear c1
  try clear c2
  try clear p2
  try clear c5
  try clear c12
  try clear c13
  try clear c17
  try clear c18
  try clear c22
  try clear c22b0
  try clear c22b1
  try clear c23
  try clear c23b0
  try clear c23b1
  try clear hcz10_0
  try clear hcz10_1
  try clear hcz10_2
  try clear hcz10_3
  try clear hcz10_4
  try clear hcz10_5
  try clear hcz14_0
  try clear hcz14_1
  try clear hcz14_2
  try clear hcz17_0
  try clear hcz17_1
  try clear hcz17_2
  try clear hcz20_0
  try clear hcz20_1
  try clear hcz20_2
  try clear hfz10_0
  try clear hfz10_1
  try clear hfz10_2
  try clear hfz10_3
  try clear hfz10_4
  try clear hfz10_5
  try clear hfz14_0
  try clear hfz14_1
  try clear hfz14_2
  try clear hfz17_0
  try clear hfz17_1
  try clear hfz17_2
  try clear hfz20_0
  try clear hfz20_1
  try clear hfz20_2
  obtain ⟨kq, x64_7, rfl, HA, HJ7, HO_11, HO_281002, BK271, BK280, HB⟩ := hcut
  cases kq with
  | zero => exact absurd HA.out (by simp [ebbtidelaw18_TimecutSmall.j0])
  | succ kj7 =>
   have H := HA.out
   clear HA
   simp only [ebbtidelaw18_TimecutSmall.j0] at H
   by_cases c24 : x64_7 = true
   ·subst c24
    have H1 : (some false) = some r := by rw [if_pos rfl] at H; exact H
    exact absurd (Option.some.inj H1) (by rw [HRT.out]; decide)
   ·replace c24 := Bool.eq_false_iff.mpr c24
    subst c24
    have H1 : (if (t281.length : Int) = 0 then (none) else (if 0 ≤ (Int.tmod (wrap64 (a2)) (t281.length : Int)) then (if (Int.tmod (wrap64 (a2)) (t281.length : Int)) ≤ (t281.length : Int) then ((some (t281.take ((Int.tmod (wrap64 (a2)) (t281.length : Int)) : Int).toNat : List (S59))).bind fun y288 => (if ([] : List (S59)).length + y288.length < 8796093022208 then ((some (([] : List (S59)) ++ y288 : List (S59))).bind fun y292 => (if 0 ≤ (wrap64 ((Int.tmod (wrap64 (a2)) (t281.length : Int)) + 1)) then (if (wrap64 ((Int.tmod (wrap64 (a2)) (t281.length : Int)) + 1)) ≤ (t281.length : Int) then ((some (t281.drop ((wrap64 ((Int.tmod (wrap64 (a2)) (t281.length : Int)) + 1)) : Int).toNat : List (S59))).bind fun y295 => (if y292.length + y295.length < 8796093022208 then ((some (y292 ++ y295 : List (S59))).bind fun y299 => ((timecut_Check.f kj7 t272 t273 t274 t277 t278 t279 y299).bind fun bt302 => ((ebbtideref18_Check.f kj7 t272 t273 t274 t277 t278 t279 y299).bind fun bt304 => ((ebbtidelaw18_awake.f kj7).bind fun t306 => (if t306 = true then (if bt302.1 = bt304.1 then (some (bt302.2 == bt304.2)) else (some false)) else (some false)))))) else (none))) else (none)) else (none))) else (none))) else (none)) else (none))) = some r := by rw [if_neg (show ¬ (false = true) by decide)] at H; exact H
    clear H
    have H := H1
    clear H1
    by_cases c25 : (t281.length : Int) = 0
    ·rw [if_pos c25] at H
     exact absurd H (by simp)
    ·rw [if_neg c25] at H
     have c25b0 : ((t281.length : Int) == 0) = false := beq_eq_false_iff_ne.mpr c25
     have c25b1 : ((t281.length : Int) != 0) = true := bne_iff_ne.mpr c25
     have c25b2 : ¬ (t281 = []) := fun h_ => c25 (by rw [h_]; rfl)
     obtain ⟨ji26, hji26⟩ : ∃ j_ : Int, (Int.tmod (wrap64 (a2)) (t281.length : Int)) = j_ := ⟨_, rfl⟩
     replace H : (if 0 ≤ (ji26) then (if (ji26) ≤ (t281.length : Int) then ((some (t281.take ((ji26) : Int).toNat : List (S59))).bind fun y288 => (if ([] : List (S59)).length + y288.length < 8796093022208 then ((some (([] : List (S59)) ++ y288 : List (S59))).bind fun y292 => (if 0 ≤ (wrap64 ((ji26) + 1)) then (if (wrap64 ((ji26) + 1)) ≤ (t281.length : Int) then ((some (t281.drop ((wrap64 ((ji26) + 1)) : Int).toNat : List (S59))).bind fun y295 => (if y292.length + y295.length < 8796093022208 then ((some (y292 ++ y295 : List (S59))).bind fun y299 => ((timecut_Check.f kj7 t272 t273 t274 t277 t278 t279 y299).bind fun bt302 => ((ebbtideref18_Check.f kj7 t272 t273 t274 t277 t278 t279 y299).bind fun bt304 => ((ebbtidelaw18_awake.f kj7).bind fun t306 => (if t306 = true then (if bt302.1 = bt304.1 then (some (bt302.2 == bt304.2)) else (some false)) else (some false)))))) else (none))) else (none)) else (none))) else (none))) else (none)) else (none)) = some r := by first | (rw [hji26] at H; exact H) | (simp only [hji26] at H ⊢; exact H)
     by_cases c27 : 0 ≤ (ji26)
     ·rw [if_pos c27] at H
      have c27b0 := eq_true c27
      have c27b1 : decide (0 ≤ (ji26)) = true := decide_eq_true c27
      clear c27
      by_cases c28 : (ji26) ≤ (t281.length : Int)
      ·rw [if_pos c28] at H
       have c28b0 := eq_true c28
       have c28b1 : decide ((ji26) ≤ (t281.length : Int)) = true := decide_eq_true c28
       clear c28
       obtain ⟨y288, hy288⟩ : ∃ y_ : List (S59), y_ = (t281.take ((ji26) : Int).toNat) := ⟨_, rfl⟩
       replace H : (if ([] : List (S59)).length + y288.length < 8796093022208 then ((some (([] : List (S59)) ++ y288 : List (S59))).bind fun y292 => (if 0 ≤ (wrap64 ((ji26) + 1)) then (if (wrap64 ((ji26) + 1)) ≤ (t281.length : Int) then ((some (t281.drop ((wrap64 ((ji26) + 1)) : Int).toNat : List (S59))).bind fun y295 => (if y292.length + y295.length < 8796093022208 then ((some (y292 ++ y295 : List (S59))).bind fun y299 => ((timecut_Check.f kj7 t272 t273 t274 t277 t278 t279 y299).bind fun bt302 => ((ebbtideref18_Check.f kj7 t272 t273 t274 t277 t278 t279 y299).bind fun bt304 => ((ebbtidelaw18_awake.f kj7).bind fun t306 => (if t306 = true then (if bt302.1 = bt304.1 then (some (bt302.2 == bt304.2)) else (some false)) else (some false)))))) else (none))) else (none)) else (none))) else (none)) = some r := by first | (rw [hy288]; with_reducible exact H) | (have H2_ := (Option.bind_some _ _).symm.trans H; rw [hy288]; with_reducible exact H2_) | (have H2_ := (Option.bind_some _ _).symm.trans H; with_reducible exact H2_) | with_reducible exact H | (rw [hy288]; exact H) | exact H
       have Ny288 := Aside0.mk hy288
       clear hy288
       by_cases c29 : ([] : List (S59)).length + y288.length < 8796093022208
       ·rw [if_pos c29] at H
        have LMc29 := Aside0.mk c29
        clear c29
        obtain ⟨y292, hy292⟩ : ∃ y_ : List (S59), y_ = (([] : List (S59)) ++ y288) := ⟨_, rfl⟩
        replace H : (if 0 ≤ (wrap64 ((ji26) + 1)) then (if (wrap64 ((ji26) + 1)) ≤ (t281.length : Int) then ((some (t281.drop ((wrap64 ((ji26) + 1)) : Int).toNat : List (S59))).bind fun y295 => (if y292.length + y295.length < 8796093022208 then ((some (y292 ++ y295 : List (S59))).bind fun y299 => ((timecut_Check.f kj7 t272 t273 t274 t277 t278 t279 y299).bind fun bt302 => ((ebbtideref18_Check.f kj7 t272 t273 t274 t277 t278 t279 y299).bind fun bt304 => ((ebbtidelaw18_awake.f kj7).bind fun t306 => (if t306 = true then (if bt302.1 = bt304.1 then (some (bt302.2 == bt304.2)) else (some false)) else (some false)))))) else (none))) else (none)) else (none)) = some r := by first | (rw [hy292]; with_reducible exact H) | (have H2_ := (Option.bind_some _ _).symm.trans H; rw [hy292]; with_reducible exact H2_) | (have H2_ := (Option.bind_some _ _).symm.trans H; with_reducible exact H2_) | with_reducible exact H | (rw [hy292]; exact H) | exact H
        have Ny292 := Aside0.mk hy292
        clear hy292
        obtain ⟨ji30, hji30⟩ : ∃ j_ : Int, (wrap64 ((ji26) + 1)) = j_ := ⟨_, rfl⟩
        replace H : (if 0 ≤ (ji30) then (if (ji30) ≤ (t281.length : Int) then ((some (t281.drop ((ji30) : Int).toNat : List (S59))).bind fun y295 => (if y292.length + y295.length < 8796093022208 then ((some (y292 ++ y295 : List (S59))).bind fun y299 => ((timecut_Check.f kj7 t272 t273 t274 t277 t278 t279 y299).bind fun bt302 => ((ebbtideref18_Check.f kj7 t272 t273 t274 t277 t278 t279 y299).bind fun bt304 => ((ebbtidelaw18_awake.f kj7).bind fun t306 => (if t306 = true then (if bt302.1 = bt304.1 then (some (bt302.2 == bt304.2)) else (some false)) else (some false)))))) else (none))) else (none)) else (none)) = some r := by first | (rw [hji30] at H; exact H) | (simp only [hji30] at H ⊢; exact H)
        have hji30w : (IntKind.i64.wrap ((ji26) + 1)) = ji30 := (i64_w _).trans hji30
        by_cases c31 : 0 ≤ (ji30)
        ·rw [if_pos c31] at H
         have c31b0 := eq_true c31
         have c31b1 : decide (0 ≤ (ji30)) = true := decide_eq_true c31
         clear c31
         by_cases c32 : (ji30) ≤ (t281.length : Int)
         ·rw [if_pos c32] at H
          have c32b0 := eq_true c32
          have c32b1 : decide ((ji30) ≤ (t281.length : Int)) = true := decide_eq_true c32
          clear c32
          obtain ⟨y295, hy295⟩ : ∃ y_ : List (S59), y_ = (t281.drop ((ji30) : Int).toNat) := ⟨_, rfl⟩
          replace H : (if y292.length + y295.length < 8796093022208 then ((some (y292 ++ y295 : List (S59))).bind fun y299 => ((timecut_Check.f kj7 t272 t273 t274 t277 t278 t279 y299).bind fun bt302 => ((ebbtideref18_Check.f kj7 t272 t273 t274 t277 t278 t279 y299).bind fun bt304 => ((ebbtidelaw18_awake.f kj7).bind fun t306 => (if t306 = true then (if bt302.1 = bt304.1 then (some (bt302.2 == bt304.2)) else (some false)) else (some false)))))) else (none)) = some r := by first | (rw [hy295]; with_reducible exact H) | (have H2_ := (Option.bind_some _ _).symm.trans H; rw [hy295]; with_reducible exact H2_) | (have H2_ := (Option.bind_some _ _).symm.trans H; with_reducible exact H2_) | with_reducible exact H | (rw [hy295]; exact H) | exact H
          have Ny295 := Aside0.mk hy295
          clear hy295
          by_cases c33 : y292.length + y295.length < 8796093022208
          ·rw [if_pos c33] at H
           have LMc33 := Aside0.mk c33
           clear c33
           obtain ⟨y299, hy299⟩ : ∃ y_ : List (S59), y_ = (y292 ++ y295) := ⟨_, rfl⟩
           replace H : ((timecut_Check.f kj7 t272 t273 t274 t277 t278 t279 y299).bind fun bt302 => ((ebbtideref18_Check.f kj7 t272 t273 t274 t277 t278 t279 y299).bind fun bt304 => ((ebbtidelaw18_awake.f kj7).bind fun t306 => (if t306 = true then (if bt302.1 = bt304.1 then (some (bt302.2 == bt304.2)) else (some false)) else (some false))))) = some r := by first | (rw [hy299]; with_reducible exact H) | (have H2_ := (Option.bind_some _ _).symm.trans H; rw [hy299]; with_reducible exact H2_) | (have H2_ := (Option.bind_some _ _).symm.trans H; with_reducible exact H2_) | with_reducible exact H | (rw [hy299]; exact H) | exact H
           have Ny299 := Aside0.mk hy299
           clear hy299
           replace H := Option.bind_eq_some_iff.mp H
           obtain ⟨⟨t302, t303⟩, A340, H⟩ := H
           replace H : ((ebbtideref18_Check.f kj7 t272 t273 t274 t277 t278 t279 y299).bind fun bt304 => ((ebbtidelaw18_awake.f kj7).bind fun t306 => (if t306 = true then (if t302 = bt304.1 then (some (t303 == bt304.2)) else (some false)) else (some false)))) = some r := H
           have A34 := Aside0.mk A340
           clear A340
           replace H := Option.bind_eq_some_iff.mp H
           obtain ⟨⟨t304, t305⟩, A350, H⟩ := H
           replace H : ((ebbtidelaw18_awake.f kj7).bind fun t306 => (if t306 = true then (if t302 = t304 then (some (t303 == t305)) else (some false)) else (some false))) = some r := H
           have A35 := Aside0.mk A350
           clear A350
           replace H := Option.bind_eq_some_iff.mp H
           obtain ⟨t306, A360, H⟩ := H
           replace H : (if t306 = true then (if t302 = t304 then (some (t303 == t305)) else (some false)) else (some false)) = some r := H
           have A36 := Aside0.mk A360
           clear A360
           by_cases c37 : t306 = true
           ·subst c37
            have H1 : (if t302 = t304 then (some (t303 == t305)) else (some false)) = some r := by rw [if_pos rfl] at H; exact H
            clear H
            have H := H1
            clear H1
            by_cases c38 : t302 = t304
            ·rw [if_pos c38] at H
             have c38b0 : (t302 == t304) = true := beq_iff_eq.mpr c38
             have c38b1 : (t302 != t304) = false := bne_eq_false_iff_eq.mpr c38
             clear c38
             obtain rfl := Option.some.inj H
             have q39 : ((ji26) : Int) ≤ ((t281.length : Int) : Int) := of_decide_eq_true (by first | (with_reducible assumption) | assumption)
             obtain ⟨i039, hi039, _, hsz39, _⟩ := info_parts info59
             have hroom39 : t281.length ≤ co18 := (Kd.R_reads' HO_11.out).2.1
             have hC39 : Kd.C k59 _ Ao18 t281.length t281 := (Kd.R_reads' HO_11.out).2.2
             have hcut39 := cut_to (P := Try.prog) 25 59 .i64 Try.underlying25 hi039 Ao18 t281.length co18 (ji26) (of_decide_eq_true (by first | (with_reducible assumption) | assumption)) q39 hroom39
             have hr39 := Kd.C_take (m := ((ji26) : Int).toNat) hC39 (by omega)
             have hy39 : y288.length = ((ji26) : Int).toNat := (by rw [Ny288.out, List.length_take]; omega)
             rw [← Ny288.out] at hr39
             rw [← hy39] at hcut39
             have HR291 := Aside0.mk hr39
             have HC291 := Aside0.mk (show y288.length ≤ co18 from by omega)
             clear hr39 hC39 hroom39 hi039 hsz39
             have KY39 := Aside0.mk hy39
             clear hy39
             have KL39 := Aside0.mk (show ((ji26) : Int).toNat ≤ t281.length from by omega)
             replace q39 := eq_true q39
             go_wp2_with (first | ((with_reducible refine gate_builtin (b := .append) (xs := #[.tmp 70, .tmp 73]) rfl ?_); at_builtin; refine Kd.R_append_rows k59 (w0 := w) w.heap.size rfl (.tmp 70) (.tmp 73) 25 59 (.agg #[(.int .i64 0), (.int .i64 0)]) 16 rfl Try.underlying25 info59 rfl (by decide) (by omega) (.slice none 0 0) ([] : List (S59)) y288 _ _ _ (fun k_ => some k_ ≠ (.slice Ao18 t281.length co18 : Value).ownBlock) (fun _ => False) rfl rfl ?aO ?aR (fun _ _ h => h) (fun _ h => h.elim) ?aF ?aB ?aS ?aL ?_; (case aR => repeat (first | exact (by repeat (first | (with_reducible exact HR291.out) | (with_reducible refine Kd.C_alloc ?_ _) | (with_reducible refine Kd.C_drewN ?_ _) | (with_reducible refine Kd.C_drew ?_) | exact HR291.out)) | (with_reducible refine Kd.C_alloc ?_ _) | (with_reducible refine Kd.C_drewN ?_ _) | (with_reducible refine Kd.C_drew ?_))); (case aB => exact (by repeat (first | (with_reducible first | exact HB.out | apply below_alloc | apply pw_below_drewN | apply below_drew1 | refine below_set ?_ GE271.out | refine below_set ?_ GE280.out) | exact HB.out))); (case aF => exact (fun k_ hk => Kd.fresh' (Kd.R_lt (by (with_reducible repeat (first | apply Kd.R_alloc | apply Kd.R_drewN | apply Kd.R_drew)); exact HO_11.out)) k_ hk)); (case aO => exact ((Kd.R_nil _ _ _ _ (fun k_ => some k_ ≠ (.slice Ao18 t281.length co18 : Value).ownBlock)))); (case aS => exact (below_size (by repeat (first | (with_reducible first | exact HB.out | apply below_alloc | apply pw_below_drewN | apply below_drew1 | refine below_set ?_ GE271.out | refine below_set ?_ GE280.out) | exact HB.out)))); (case aL => have := LMc29.out; omega); intro v293 w40 ho hb hg hat; rw [← Ny292.out] at ho; have n0_ := Aside0.mk (Kd.R_after (Kd.R_apart_nil (by (with_reducible repeat (first | apply Kd.R_alloc | apply Kd.R_drewN | apply Kd.R_drew)); exact HO_11.out)) hg hat); have n1_ := Aside0.mk (Kd.R_grown (by (with_reducible repeat (first | apply Kd.R_alloc | apply Kd.R_drewN | apply Kd.R_drew)); exact HO_281002.out) hg (fun _ _ => by simp [Value.ownBlock])); have n2_ := Aside0.mk (blk_grown (g := gb271) (o := .cells #[.int .u8 a0_0, .bool a0_1, .slice A0_2 l0_2.length c0_2, .int .u8 a0_3, .int .u8 a0_4, .int .u8 a0_5] 38 (0, 0)) (by (with_reducible repeat (first | refine blk_drewN ?_ _ | refine blk_drew ?_ | refine blk_alloc ?_ _)); exact BK271.out) hg (by simp [Value.ownBlock])); have n3_ := Aside0.mk (blk_grown (g := gb280) (o := .cells #[.int .i64 t272, .bool t273, .slice Ao15 t274.length co15] 24 (0, 0)) (by (with_reducible repeat (first | refine blk_drewN ?_ _ | refine blk_drew ?_ | refine blk_alloc ?_ _)); exact BK280.out) hg (by simp [Value.ownBlock])); have n4_ := Aside0.mk (hb); have n5_ := Aside0.mk ((show Kd.C k59 w40 Ao18 y288.length y288 from by rw [Ny288.out]; exact Kd.C_take (m := ((ji26) : Int).toNat) ((Kd.R_reads' (Kd.R_after (Kd.R_apart_nil (by (with_reducible repeat (first | apply Kd.R_alloc | apply Kd.R_drewN | apply Kd.R_drew)); exact HO_11.out)) hg hat)).2.2) KL39.out)); have n6_ := Aside0.mk (ho); clear HO_11; clear HO_281002; clear BK271; clear BK280; clear HB; clear HR291; have HO_11 := n0_; have HO_281002 := n1_; have BK271 := n2_; have BK280 := n3_; have HB := n4_; have HR291 := n5_; have HO294 := n6_; clear n0_ n1_ n2_ n3_ n4_ n5_ n6_; clear ho hb hg hat; have q41 : ((ji30) : Int) ≤ ((t281.length : Int) : Int) := of_decide_eq_true (by first | (with_reducible assumption) | assumption); obtain ⟨i041, hi041, _, hsz41, _⟩ := info_parts info59; have hroom41 : t281.length ≤ co18 := (Kd.R_reads' HO_11.out).2.1; have hC41 : Kd.C k59 _ Ao18 t281.length t281 := (Kd.R_reads' HO_11.out).2.2; have q041 : (0 : Int) ≤ ((ji30) : Int) := of_decide_eq_true (by first | (with_reducible assumption) | assumption); have hcut41 := cut_from (P := Try.prog) 25 59 .i64 Try.underlying25 hi041 2 hsz41 Ao18 t281.length co18 (ji30) q041 q41; have hr41 := Kd.C_drop (m := ((ji30) : Int).toNat) (c := co18) hC41 (by omega) hroom41; obtain ⟨A41, hA41⟩ : ∃ A1, A1 = (if co18 = ((ji30) : Int).toNat then Ao18 else (Ao18 : Option Addr).map (·.add (((ji30) : Int).toNat * 2))) := ⟨_, rfl⟩; obtain ⟨c41, hc41⟩ : ∃ c1, c1 = co18 - ((ji30) : Int).toNat := ⟨_, rfl⟩; have hy41 : y295.length = t281.length - ((ji30) : Int).toNat := (by rw [Ny295.out, List.length_drop] <;> omega); rw [show (t281).drop ((ji30) : Int).toNat = y295 from Ny295.out.symm] at hr41; replace hr41 : Kd.C k59 _ A41 y295.length y295 := (by rw [hA41]; exact hr41); rw [← hy41, ← hA41, ← hc41] at hcut41; have HR298 := Aside0.mk hr41; have HC298 := Aside0.mk (show y295.length ≤ c41 from by rw [hy41, hc41]; exact Nat.sub_le_sub_right hroom41 _); clear hr41 hC41 hroom41 hi041 hsz41 hc41; have KY41 := Aside0.mk hy41; have KA41 := Aside0.mk hA41; clear hy41 hA41; have KL41 := Aside0.mk (show ((ji30) : Int).toNat ≤ t281.length from by omega); replace q41 := eq_true q41) | ((with_reducible refine gate_builtin (b := .append) (xs := #[.tmp 75, .tmp 79]) rfl ?_); at_builtin; refine Kd.R_append_rows k59 (w0 := w) w.heap.size rfl (.tmp 75) (.tmp 79) 25 59 (.agg #[(.int .i64 0), (.int .i64 0)]) 16 rfl Try.underlying25 info59 rfl (by decide) (by omega) v293 y292 y295 _ _ _ (fun k_ => some k_ ≠ (.slice Ao18 t281.length co18 : Value).ownBlock) (fun _ => False) rfl rfl ?aO ?aR (fun _ _ h => h) (fun _ h => h.elim) ?aF ?aB ?aS ?aL ?_; (case aR => repeat (first | exact (by repeat (first | (with_reducible exact HR298.out) | (with_reducible refine Kd.C_alloc ?_ _) | (with_reducible refine Kd.C_drewN ?_ _) | (with_reducible refine Kd.C_drew ?_) | exact HR298.out)) | (with_reducible refine Kd.C_alloc ?_ _) | (with_reducible refine Kd.C_drewN ?_ _) | (with_reducible refine Kd.C_drew ?_))); (case aB => exact (by repeat (first | (with_reducible first | exact HB.out | apply below_alloc | apply pw_below_drewN | apply below_drew1 | refine below_set ?_ GE271.out | refine below_set ?_ GE280.out) | exact HB.out))); (case aF => exact (fun k_ hk => Kd.fresh' (Kd.R_lt (by (with_reducible repeat (first | apply Kd.R_alloc | apply Kd.R_drewN | apply Kd.R_drew)); exact HO_11.out)) k_ hk)); (case aO => exact (by (with_reducible repeat (first | apply Kd.R_alloc | apply Kd.R_drewN | apply Kd.R_drew)); exact HO294.out)); (case aS => exact (below_size (by repeat (first | (with_reducible first | exact HB.out | apply below_alloc | apply pw_below_drewN | apply below_drew1 | refine below_set ?_ GE271.out | refine below_set ?_ GE280.out) | exact HB.out)))); (case aL => have := LMc33.out; omega); intro v300 w42 ho hb hg hat; rw [← Ny299.out] at ho; have n0_ := Aside0.mk (Kd.R_after (ok := (fun _ => True)) (by (with_reducible repeat (first | apply Kd.R_alloc | apply Kd.R_drewN | apply Kd.R_drew)); exact HO_11.out) hg hat); have n1_ := Aside0.mk (Kd.R_over' (by (with_reducible repeat (first | apply Kd.R_alloc | apply Kd.R_drewN | apply Kd.R_drew)); exact HO_281002.out) (Kd.R_typed (by (with_reducible repeat (first | apply Kd.R_alloc | apply Kd.R_drewN | apply Kd.R_drew)); exact HO294.out)) (by decide) hg); have n2_ := Aside0.mk (blk_grown (g := gb271) (o := .cells #[.int .u8 a0_0, .bool a0_1, .slice A0_2 l0_2.length c0_2, .int .u8 a0_3, .int .u8 a0_4, .int .u8 a0_5] 38 (0, 0)) (by (with_reducible repeat (first | refine blk_drewN ?_ _ | refine blk_drew ?_ | refine blk_alloc ?_ _)); exact BK271.out) hg (Kd.R_ne HO294.out BK271.out (by decide))); have n3_ := Aside0.mk (blk_grown (g := gb280) (o := .cells #[.int .i64 t272, .bool t273, .slice Ao15 t274.length co15] 24 (0, 0)) (by (with_reducible repeat (first | refine blk_drewN ?_ _ | refine blk_drew ?_ | refine blk_alloc ?_ _)); exact BK280.out) hg (Kd.R_ne HO294.out BK280.out (by decide))); have n4_ := Aside0.mk (hb); have n5_ := Aside0.mk ((show Kd.C k59 w42 Ao18 y288.length y288 from by rw [Ny288.out]; exact Kd.C_take (m := ((ji26) : Int).toNat) ((Kd.R_reads' (Kd.R_after (ok := (fun _ => True)) (by (with_reducible repeat (first | apply Kd.R_alloc | apply Kd.R_drewN | apply Kd.R_drew)); exact HO_11.out) hg hat)).2.2) KL39.out)); have n6_ := Aside0.mk ((show Kd.C k59 w42 A41 y295.length y295 from by rw [Ny295.out, KA41.out]; exact Kd.C_drop (m := ((ji30) : Int).toNat) (c := co18) ((Kd.R_reads' (Kd.R_after (ok := (fun _ => True)) (by (with_reducible repeat (first | apply Kd.R_alloc | apply Kd.R_drewN | apply Kd.R_drew)); exact HO_11.out) hg hat)).2.2) KL41.out ((Kd.R_reads' (Kd.R_after (ok := (fun _ => True)) (by (with_reducible repeat (first | apply Kd.R_alloc | apply Kd.R_drewN | apply Kd.R_drew)); exact HO_11.out) hg hat)).2.1))); have n7_ := Aside0.mk (ho); clear HO_11; clear HO_281002; clear BK271; clear BK280; clear HB; clear HR291; clear HR298; clear HO294; have HO_11 := n0_; have HO_281002 := n1_; have BK271 := n2_; have BK280 := n3_; have HB := n4_; have HR291 := n5_; have HR298 := n6_; have HO301 := n7_; clear n0_ n1_ n2_ n3_ n4_ n5_ n6_ n7_; clear ho hb hg hat; have hnb43 := NB280_271.out; have hnc43 := NB271_280.out; have hcz44_0 : w42.cell? ⟨gb280, 0, none⟩ = some (.int .i64 t272) := (blk_cell BK280.out 0).trans rfl; have hcz44_1 : w42.cell? ⟨gb280, 1, none⟩ = some (.bool t273) := (blk_cell BK280.out 1).trans rfl; have hcz44_2 : w42.cell? ⟨gb280, 2, none⟩ = some (.slice Ao15 t274.length co15) := (blk_cell BK280.out 2).trans rfl; have hfz44_0 := blk_frozen BK280.out 0; have hfz44_1 := blk_frozen BK280.out 1; have hfz44_2 := blk_frozen BK280.out 2; obtain ⟨Ao45, co45, eo45⟩ := Kd.R_slice HO301.out; subst eo45) | ((with_reducible refine gate_callee (f := 12) rfl ?_); refine goesL_ (some 87) rfl rfl Try.func12 (by kernel_rfl) rfl #[.agg #[.int .i64 t272, .bool t273, .slice Ao15 t274.length co15], .int .i64 t277, .int .i64 t278, .int .i64 t279, .slice Ao45 y299.length co45] rfl (by (try simp only [List.map_toArray, List.map_cons, List.map_nil]); first | done | rfl | (simp only [List.length_drop, List.length_take]; rfl)) ?_; (with_reducible refine (timecut_Check.calls kj7 t272 t273 _ _ t274 t277 t278 t279 _ _ y299 t302 t303 _ ?side1 ?side2 ?side3 ?side4 A34.out).mono ?_); (case side1 => repeat (first | exact (Kd.R_reads' HO_281002.out).2.2 | (with_reducible refine Kd.C_alloc ?_ _) | (with_reducible refine Kd.C_drewN ?_ _) | (with_reducible refine Kd.C_drew ?_))); (case side2 => exact (Kd.R_reads' HO_281002.out).2.1); (case side3 => repeat (first | exact (Kd.R_reads' HO301.out).2.2 | (with_reducible refine Kd.C_alloc ?_ _) | (with_reducible refine Kd.C_drewN ?_ _) | (with_reducible refine Kd.C_drew ?_))); (case side4 => exact (Kd.R_reads' HO301.out).2.1); rintro e w46 ⟨rfl, hb⟩; refine ⟨_, rfl, ?_⟩; have n0_ := Aside0.mk (Kd.R_below (by (with_reducible repeat (first | apply Kd.R_alloc | apply Kd.R_drewN | apply Kd.R_drew)); exact HO_11.out) hb); have n1_ := Aside0.mk (Kd.R_below (by (with_reducible repeat (first | apply Kd.R_alloc | apply Kd.R_drewN | apply Kd.R_drew)); exact HO_281002.out) hb); have n2_ := Aside0.mk (Kd.R_below (by (with_reducible repeat (first | apply Kd.R_alloc | apply Kd.R_drewN | apply Kd.R_drew)); exact HO301.out) hb); have n3_ := Aside0.mk (blk_below (g := gb271) (o := .cells #[.int .u8 a0_0, .bool a0_1, .slice A0_2 l0_2.length c0_2, .int .u8 a0_3, .int .u8 a0_4, .int .u8 a0_5] 38 (0, 0)) (by (with_reducible repeat (first | refine blk_drewN ?_ _ | refine blk_drew ?_ | refine blk_alloc ?_ _)); exact BK271.out) hb); have n4_ := Aside0.mk (blk_below (g := gb280) (o := .cells #[.int .i64 t272, .bool t273, .slice Ao15 t274.length co15] 24 (0, 0)) (by (with_reducible repeat (first | refine blk_drewN ?_ _ | refine blk_drew ?_ | refine blk_alloc ?_ _)); exact BK280.out) hb); have n5_ := Aside0.mk (Kd.C_below (by repeat (first | (with_reducible exact HR291.out) | (with_reducible refine Kd.C_alloc ?_ _) | (with_reducible refine Kd.C_drewN ?_ _) | (with_reducible refine Kd.C_drew ?_) | exact HR291.out)) hb); have n6_ := Aside0.mk (Kd.C_below (by repeat (first | (with_reducible exact HR298.out) | (with_reducible refine Kd.C_alloc ?_ _) | (with_reducible refine Kd.C_drewN ?_ _) | (with_reducible refine Kd.C_drew ?_) | exact HR298.out)) hb); have n7_ := Aside0.mk (below_step (by repeat (first | (with_reducible first | exact HB.out | apply below_alloc | apply pw_below_drewN | apply below_drew1 | refine below_set ?_ GE271.out | refine below_set ?_ GE280.out) | exact HB.out)) hb); clear HO_11; clear HO_281002; clear HO301; clear BK271; clear BK280; clear HR291; clear HR298; clear HB; have HO_11 := n0_; have HO_281002 := n1_; have HO301 := n2_; have BK271 := n3_; have BK280 := n4_; have HR291 := n5_; have HR298 := n6_; have HB := n7_; clear n0_ n1_ n2_ n3_ n4_ n5_ n6_ n7_; (try clear hb); (try clear hb2); (try clear hk); (try clear hi); have hcz47_0 : w46.cell? ⟨gb280, 0, none⟩ = some (.int .i64 t272) := (blk_cell BK280.out 0).trans rfl; have hcz47_1 : w46.cell? ⟨gb280, 1, none⟩ = some (.bool t273) := (blk_cell BK280.out 1).trans rfl; have hcz47_2 : w46.cell? ⟨gb280, 2, none⟩ = some (.slice Ao15 t274.length co15) := (blk_cell BK280.out 2).trans rfl; have hfz47_0 := blk_frozen BK280.out 0; have hfz47_1 := blk_frozen BK280.out 1; have hfz47_2 := blk_frozen BK280.out 2) | ((with_reducible refine gate_callee (f := 13) rfl ?_); refine goesL_ (some 96) rfl rfl Try.func13 (by kernel_rfl) rfl #[.agg #[.int .i64 t272, .bool t273, .slice Ao15 t274.length co15], .int .i64 t277, .int .i64 t278, .int .i64 t279, .slice Ao45 y299.length co45] rfl (by (try simp only [List.map_toArray, List.map_cons, List.map_nil]); first | done | rfl | (simp only [List.length_drop, List.length_take]; rfl)) ?_; (with_reducible refine (ebbtideref18_Check.calls kj7 t272 t273 _ _ t274 t277 t278 t279 _ _ y299 t304 t305 _ ?side1 ?side2 ?side3 ?side4 A35.out).mono ?_); (case side1 => repeat (first | exact (Kd.R_reads' HO_281002.out).2.2 | (with_reducible refine Kd.C_alloc ?_ _) | (with_reducible refine Kd.C_drewN ?_ _) | (with_reducible refine Kd.C_drew ?_))); (case side2 => exact (Kd.R_reads' HO_281002.out).2.1); (case side3 => repeat (first | exact (Kd.R_reads' HO301.out).2.2 | (with_reducible refine Kd.C_alloc ?_ _) | (with_reducible refine Kd.C_drewN ?_ _) | (with_reducible refine Kd.C_drew ?_))); (case side4 => exact (Kd.R_reads' HO301.out).2.1); rintro e w48 ⟨rfl, hb⟩; refine ⟨_, rfl, ?_⟩; have n0_ := Aside0.mk (Kd.R_below (by (with_reducible repeat (first | apply Kd.R_alloc | apply Kd.R_drewN | apply Kd.R_drew)); exact HO_11.out) hb); have n1_ := Aside0.mk (Kd.R_below (by (with_reducible repeat (first | apply Kd.R_alloc | apply Kd.R_drewN | apply Kd.R_drew)); exact HO_281002.out) hb); have n2_ := Aside0.mk (Kd.R_below (by (with_reducible repeat (first | apply Kd.R_alloc | apply Kd.R_drewN | apply Kd.R_drew)); exact HO301.out) hb); have n3_ := Aside0.mk (blk_below (g := gb271) (o := .cells #[.int .u8 a0_0, .bool a0_1, .slice A0_2 l0_2.length c0_2, .int .u8 a0_3, .int .u8 a0_4, .int .u8 a0_5] 38 (0, 0)) (by (with_reducible repeat (first | refine blk_drewN ?_ _ | refine blk_drew ?_ | refine blk_alloc ?_ _)); exact BK271.out) hb); have n4_ := Aside0.mk (blk_below (g := gb280) (o := .cells #[.int .i64 t272, .bool t273, .slice Ao15 t274.length co15] 24 (0, 0)) (by (with_reducible repeat (first | refine blk_drewN ?_ _ | refine blk_drew ?_ | refine blk_alloc ?_ _)); exact BK280.out) hb); have n5_ := Aside0.mk (Kd.C_below (by repeat (first | (with_reducible exact HR291.out) | (with_reducible refine Kd.C_alloc ?_ _) | (with_reducible refine Kd.C_drewN ?_ _) | (with_reducible refine Kd.C_drew ?_) | exact HR291.out)) hb); have n6_ := Aside0.mk (Kd.C_below (by repeat (first | (with_reducible exact HR298.out) | (with_reducible refine Kd.C_alloc ?_ _) | (with_reducible refine Kd.C_drewN ?_ _) | (with_reducible refine Kd.C_drew ?_) | exact HR298.out)) hb); have n7_ := Aside0.mk (below_step (by repeat (first | (with_reducible first | exact HB.out | apply below_alloc | apply pw_below_drewN | apply below_drew1 | refine below_set ?_ GE271.out | refine below_set ?_ GE280.out) | exact HB.out)) hb); clear HO_11; clear HO_281002; clear HO301; clear BK271; clear BK280; clear HR291; clear HR298; clear HB; have HO_11 := n0_; have HO_281002 := n1_; have HO301 := n2_; have BK271 := n3_; have BK280 := n4_; have HR291 := n5_; have HR298 := n6_; have HB := n7_; clear n0_ n1_ n2_ n3_ n4_ n5_ n6_ n7_; (try clear hb); (try clear hb2); (try clear hk); (try clear hi)) | ((with_reducible refine gate_callee (f := 11) rfl ?_); refine goesL_ (some 99) rfl rfl Try.func11 (by kernel_rfl) rfl #[] rfl (by (try simp only [List.map_toArray, List.map_cons, List.map_nil]); first | done | rfl | (simp only [List.length_drop, List.length_take]; rfl)) ?_; (with_reducible refine (ebbtidelaw18_awake.calls kj7  true _ A36.out).mono ?_); rintro e w49 ⟨rfl, hb⟩; refine ⟨_, rfl, ?_⟩; have n0_ := Aside0.mk (Kd.R_below (by (with_reducible repeat (first | apply Kd.R_alloc | apply Kd.R_drewN | apply Kd.R_drew)); exact HO_11.out) hb); have n1_ := Aside0.mk (Kd.R_below (by (with_reducible repeat (first | apply Kd.R_alloc | apply Kd.R_drewN | apply Kd.R_drew)); exact HO_281002.out) hb); have n2_ := Aside0.mk (Kd.R_below (by (with_reducible repeat (first | apply Kd.R_alloc | apply Kd.R_drewN | apply Kd.R_drew)); exact HO301.out) hb); have n3_ := Aside0.mk (blk_below (g := gb271) (o := .cells #[.int .u8 a0_0, .bool a0_1, .slice A0_2 l0_2.length c0_2, .int .u8 a0_3, .int .u8 a0_4, .int .u8 a0_5] 38 (0, 0)) (by (with_reducible repeat (first | refine blk_drewN ?_ _ | refine blk_drew ?_ | refine blk_alloc ?_ _)); exact BK271.out) hb); have n4_ := Aside0.mk (blk_below (g := gb280) (o := .cells #[.int .i64 t272, .bool t273, .slice Ao15 t274.length co15] 24 (0, 0)) (by (with_reducible repeat (first | refine blk_drewN ?_ _ | refine blk_drew ?_ | refine blk_alloc ?_ _)); exact BK280.out) hb); have n5_ := Aside0.mk (Kd.C_below (by repeat (first | (with_reducible exact HR291.out) | (with_reducible refine Kd.C_alloc ?_ _) | (with_reducible refine Kd.C_drewN ?_ _) | (with_reducible refine Kd.C_drew ?_) | exact HR291.out)) hb); have n6_ := Aside0.mk (Kd.C_below (by repeat (first | (with_reducible exact HR298.out) | (with_reducible refine Kd.C_alloc ?_ _) | (with_reducible refine Kd.C_drewN ?_ _) | (with_reducible refine Kd.C_drew ?_) | exact HR298.out)) hb); have n7_ := Aside0.mk (below_step (by repeat (first | (with_reducible first | exact HB.out | apply below_alloc | apply pw_below_drewN | apply below_drew1 | refine below_set ?_ GE271.out | refine below_set ?_ GE280.out) | exact HB.out)) hb); clear HO_11; clear HO_281002; clear HO301; clear BK271; clear BK280; clear HR291; clear HR298; clear HB; have HO_11 := n0_; have HO_281002 := n1_; have HO301 := n2_; have BK271 := n3_; have BK280 := n4_; have HR291 := n5_; have HR298 := n6_; have HB := n7_; clear n0_ n1_ n2_ n3_ n4_ n5_ n6_ n7_; (try clear hb); (try clear hb2); (try clear hk); (try clear hi)))
             go_ret
             exact ⟨by first | rfl | (simp [errW_none, errW_some] <;> rfl) | (simp only [← hji26, ← hji30]; first | rfl | (simp [errW_none, errW_some] <;> rfl)) | (simp [*, errW_none, errW_some] <;> rfl), by repeat (first | (with_reducible first | exact HB.out | apply below_alloc | apply pw_below_drewN | apply below_drew1 | refine below_set ?_ GE271.out | refine below_set ?_ GE280.out) | exact HB.out)⟩
            ·rw [if_neg c38] at H
             exact absurd (Option.some.inj H) (by rw [HRT.out]; decide)
           ·replace c37 := Bool.eq_false_iff.mpr c37
            subst c37
            have H1 : (some false) = some r := by rw [if_neg (show ¬ (false = true) by decide)] at H; exact H
            exact absurd (Option.some.inj H1) (by rw [HRT.out]; decide)
          ·rw [if_neg c33] at H
           exact absurd H (by simp)
         ·rw [if_neg c32] at H
          exact absurd H (by simp)
        ·rw [if_neg c31] at H
         exact absurd H (by simp)
       ·rw [if_neg c29] at H
        exact absurd H (by simp)
      ·rw [if_neg c28] at H
       exact absurd H (by simp)
     ·rw [if_neg c27] at H
      exact absurd H (by simp)

end Go.Proofs.Ytagppmdgmppmnaa.P
