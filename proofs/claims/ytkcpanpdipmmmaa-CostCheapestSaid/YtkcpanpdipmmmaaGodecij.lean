/- Joined by wip/tool/bundle.py out of: P42 P43 P44 P45 QFlowB QCheapLaw QLCostCheapest. -/
import Derived.Test.YtkcpanpdipmmmaaGapahkj
import Derived.Test.YtkcpanpdipmmmaaGocidaa
import Derived.Test.YtkcpanpdipmmmaaGampnig
import Derived.Test.YtkcpanpdipmmmaaProg
import Derived.Test.YtkcpanpdipmmmaaGccbofa
set_option linter.unusedVariables false
set_option linter.unusedSimpArgs false
namespace Go.Proofs.Ytkcpanpdipmmmaa.P
open Go.RowKit Go.Proofs.YtkcpanpdipmmmaaW.PrintWords Go.Proofs.YtkcpanpdipmmmaaW.PrintLast Go.Proofs.YtkcpanpdipmmmaaW.PrintMore
attribute [local go_sem] max2_int min2_int max_two min_two max_three min_three max_four min_four

/-! ### ebbtideref07_Leaves: function 103 -/
def ebbtideref07_Leaves.l0 : Nat → List Int → Int → Int → Int → Int → Bool → List (S74) → Option (Int)
 | 0, _, _, _, _, _, _, _ => none
 | k + 1, x1, x2, x7, x8, x341000, x341001, x341002 => if x8 < (x1.length : Int) then (if 0 ≤ x8 then (if x8 < (x341002.length : Int) then (if ((rd_T74 x341002 x8).f0) = x2 then (if ((rd_T74 x341002 x8).f1) = x2 then (ebbtideref07_Leaves.l0 k x1 x2 (wrap64 ((wrap64 (x7 + (rd x1 x8))) - (rd x1 x8))) (wrap64 (x8 + 1)) x341000 x341001 x341002) else (ebbtideref07_Leaves.l0 k x1 x2 (wrap64 (x7 + (rd x1 x8))) (wrap64 (x8 + 1)) x341000 x341001 x341002)) else (if ((rd_T74 x341002 x8).f1) = x2 then (ebbtideref07_Leaves.l0 k x1 x2 (wrap64 (x7 - (rd x1 x8))) (wrap64 (x8 + 1)) x341000 x341001 x341002) else (ebbtideref07_Leaves.l0 k x1 x2 x7 (wrap64 (x8 + 1)) x341000 x341001 x341002))) else (none)) else (none)) else (some x7)
def ebbtideref07_Leaves.f (k : Nat) (a0_0 : Int) (a0_1 : Bool) (l0_2 : List (S74)) (l1 : List Int) (a2 : Int) : Option (Int) := ebbtideref07_Leaves.l0 k l1 a2 0 0 a0_0 a0_1 l0_2
theorem ebbtideref07_Leaves.mono_l : ∀ k, (∀ y0 y1 y2 y3 y4 y5 y6, LeO (ebbtideref07_Leaves.l0 k y0 y1 y2 y3 y4 y5 y6) (ebbtideref07_Leaves.l0 (k + 1) y0 y1 y2 y3 y4 y5 y6))
 | 0 => fun _ _ _ _ _ _ _ r h => by simp [ebbtideref07_Leaves.l0] at h
 | k + 1 => by
  have ih0 := ebbtideref07_Leaves.mono_l k
  ·intro y0 y1 y2 y3 y4 y5 y6
   unfold ebbtideref07_Leaves.l0
   repeat' first
   | (with_reducible exact ih0 _ _ _ _ _ _ _)
   | (with_reducible exact LeO.refl _)
   | (with_reducible exact LeO.none _)
   | (with_reducible refine LeO.ite ?_ ?_)
   | (with_reducible refine LeO.bind ?_ (fun _ => ?_))
   | exact ih0 _ _ _ _ _ _ _
   | exact LeO.none _
   | refine LeO.ite ?_ ?_
   | refine LeO.bind ?_ (fun _ => ?_)
theorem ebbtideref07_Leaves.mono : ∀ a0 a1 a2 a3 a4 k, LeO (ebbtideref07_Leaves.f k a0 a1 a2 a3 a4) (ebbtideref07_Leaves.f (k + 1) a0 a1 a2 a3 a4) := by
 intro a0 a1 a2 a3 a4 k
 have ih0 := ebbtideref07_Leaves.mono_l k
 unfold ebbtideref07_Leaves.f
 repeat' first
   | (with_reducible exact ih0 _ _ _ _ _ _ _)
   | (with_reducible exact LeO.refl _)
   | (with_reducible exact LeO.none _)
   | (with_reducible refine LeO.ite ?_ ?_)
   | (with_reducible refine LeO.bind ?_ (fun _ => ?_))
   | exact ih0 _ _ _ _ _ _ _
   | exact LeO.none _
   | refine LeO.ite ?_ ?_
   | refine LeO.bind ?_ (fun _ => ?_)
set_option maxHeartbeats 8000000 in
set_option maxRecDepth 100000 in
theorem ebbtideref07_Leaves.calls (k : Nat) (a0_0 : Int) (a0_1 : Bool) (A0_2 : Option Addr) (c0_2 : Nat) (l0_2 : List (S74)) (A1 : Option Addr) (c1 : Nat) (l1 : List Int) (a2 : Int) (r : Int) (w : World) (hr0_2 : Kd.C k74 w A0_2 l0_2.length l0_2) (hc0_2 : l0_2.length ≤ c0_2) (hr1 : Kd.C (Kd.int .i64) w A1 l1.length l1) (hc1 : l1.length ≤ c1) (h : ebbtideref07_Leaves.f k a0_0 a0_1 l0_2 l1 a2 = some r) :
  Calls Try.prog 103 #[.agg #[.int .i64 a0_0, .bool a0_1, .slice A0_2 l0_2.length c0_2], .slice A1 l1.length c1, .int .i64 a2] w fun e w' => e = .returned (.int .i64 r) ∧ Below w.heap.size w w' := by
 have hu24 := Try.underlying24
 have HR0_2 := Aside0.mk hr0_2
 have HC0_2 := Aside0.mk hc0_2
 clear hr0_2 hc0_2
 have HR1 := Aside0.mk hr1
 have HC1 := Aside0.mk hc1
 clear hr1 hc1
 have HB := Aside0.mk (Below.refl w.heap.size w)
 have H : (ebbtideref07_Leaves.l0 k l1 a2 0 0 a0_0 a0_1 l0_2) = some r := h
 clear h
 have H' := Aside0.mk H
 clear H
 go_enter Try.func103, Try.ntmps103
 go_wp2_with (first | ((with_reducible refine gate_dst (N := 3) rfl ?_); refine box_event ?hg (N := 3) ?hd (cs := #[.int .i64 a0_0, .bool a0_1, .slice A0_2 l0_2.length c0_2]) (t := 24) ?hr ?_; (case hd => rfl); (case hg => rfl); (case hr => first | (go_simp; done) | (go_simp; rfl)); intro gb340 hg w4 hbox hb; have n0_ := Aside0.mk (below_step (by repeat (first | (with_reducible first | exact HB.out | apply below_alloc | apply pw_below_drewN | apply below_drew1) | exact HB.out)) hb); have n1_ := Aside0.mk (hbox); have n2_ := Aside0.mk ((by rw [hg]; exact (below_size (by repeat (first | (with_reducible first | exact HB.out | apply below_alloc | apply pw_below_drewN | apply below_drew1) | exact HB.out))) : w.heap.size ≤ gb340)); have n3_ := Aside0.mk ((by rw [hg]; exact (below_size (by repeat (first | (with_reducible first | exact HB.out | apply below_alloc | apply pw_below_drewN | apply below_drew1) | exact HB.out))) : w.heap.size ≤ gb340)); clear HB; have HB := n0_; have BK340 := n1_; have GW340 := n2_; have GE340 := n3_; clear n0_ n1_ n2_ n3_; clear hb hbox hg))
 go_loopg [7, 8] k (fun kq v7 v8 w' => ∃ (x7_1 : Int) (x8_1 : Int), v7 = .int .i64 x7_1 ∧ v8 = .int .i64 x8_1 ∧ Aside0 (ebbtideref07_Leaves.l0 kq l1 a2 x7_1 x8_1 a0_0 a0_1 l0_2 = some r) ∧ Aside0 (kq ≤ k) ∧ Aside0 (w'.heap[gb340]? = some (.cells #[.int .i64 a0_0, .bool a0_1, (.slice A0_2 l0_2.length c0_2)] 24 (0, 0))) ∧ Aside0 (Below w.heap.size w w'))
 case atStart => exact ⟨(0), (0), (by first | rfl | (simp; done) | (simp [*]; done)), (by first | rfl | (simp; done) | (simp [*]; done)), H', ⟨Nat.le_refl _⟩, ⟨by (with_reducible repeat (first | refine blk_drewN ?_ _ | refine blk_drew ?_ | refine blk_alloc ?_ _)); exact BK340.out⟩, ⟨by repeat (first | (with_reducible first | exact HB.out | apply below_alloc | apply pw_below_drewN | apply below_drew1 | refine below_set ?_ GE340.out) | exact HB.out)⟩⟩
 case round =>
  clear H'
  try clear c1
  try clear p2
  obtain ⟨x7_1, x8_1, rfl, rfl, HA, HK1, BK340, HB⟩ := hrel
  cases gk with
  | zero => exact absurd HA.out (by simp [ebbtideref07_Leaves.l0])
  | succ k1 =>
   have H := HA.out
   clear HA
   simp only [ebbtideref07_Leaves.l0] at H
   by_cases c5 : x8_1 < (l1.length : Int)
   rotate_left
   ·rw [if_neg c5] at H
    have c5b0 : decide (x8_1 < (l1.length : Int)) = false := decide_eq_false c5
    clear c5
    obtain rfl := Option.some.inj H
    go_wp2
    go_ret
    exact ⟨by first | rfl | (simp [errW_none, errW_some] <;> rfl) | (simp [*, errW_none, errW_some] <;> rfl), by repeat (first | (with_reducible first | exact HB.out | apply below_alloc | apply pw_below_drewN | apply below_drew1 | refine below_set ?_ GE340.out) | exact HB.out)⟩

   rw [if_pos c5] at H
   have c5b0 : decide (x8_1 < (l1.length : Int)) = true := decide_eq_true c5
   clear c5
   by_cases c6 : 0 ≤ x8_1
   rotate_left
   ·rw [if_neg c6] at H
    exact absurd H (by simp)
   rw [if_pos c6] at H
   have c6b0 : decide (0 ≤ x8_1) = true := decide_eq_true c6
   clear c6
   by_cases c7 : x8_1 < (l0_2.length : Int)
   rotate_left
   ·rw [if_neg c7] at H
    exact absurd H (by simp)
   rw [if_pos c7] at H
   have c7b0 : decide (x8_1 < (l0_2.length : Int)) = true := decide_eq_true c7
   clear c7
   by_cases c8 : ((rd_T74 l0_2 x8_1).f0) = a2
   rotate_left
   ·rw [if_neg c8] at H
    have c8b0 : (((rd_T74 l0_2 x8_1).f0) == a2) = false := beq_eq_false_iff_ne.mpr c8
    have c8b1 : (((rd_T74 l0_2 x8_1).f0) != a2) = true := bne_iff_ne.mpr c8
    by_cases c12 : ((rd_T74 l0_2 x8_1).f1) = a2
    rotate_left
    ·rw [if_neg c12] at H
     have c12b0 : (((rd_T74 l0_2 x8_1).f1) == a2) = false := beq_eq_false_iff_ne.mpr c12
     have c12b1 : (((rd_T74 l0_2 x8_1).f1) != a2) = true := bne_iff_ne.mpr c12
     have H' := Aside0.mk H
     clear H
     have hcz14_0 : wr.cell? ⟨gb340, 0, none⟩ = some (.int .i64 a0_0) := (blk_cell BK340.out 0).trans rfl
     have hcz14_1 : wr.cell? ⟨gb340, 1, none⟩ = some (.bool a0_1) := (blk_cell BK340.out 1).trans rfl
     have hcz14_2 : wr.cell? ⟨gb340, 2, none⟩ = some (.slice A0_2 l0_2.length c0_2) := (blk_cell BK340.out 2).trans rfl
     have hfz14_0 := blk_frozen BK340.out 0
     have hfz14_1 := blk_frozen BK340.out 1
     have hfz14_2 := blk_frozen BK340.out 2
     have p341 : 0 ≤ (x8_1 : Int) := of_decide_eq_true (by first | (with_reducible assumption) | assumption)
     have q341 : x8_1 < (l0_2.length : Int) := of_decide_eq_true (by first | (with_reducible assumption) | assumption)
     obtain ⟨ad341, e341, hx341_0, hx341_1, hx341_2, hx341_3⟩ := at_T74 HR0_2.out x8_1 p341 q341
     cases e341
     replace hx341_0 := (HB.out.cell (World.block_lt_of_cell? w _ hx341_0)).trans hx341_0
     replace hx341_1 := (HB.out.cell (World.block_lt_of_cell? w _ hx341_1)).trans hx341_1
     replace hx341_2 := (HB.out.cell (World.block_lt_of_cell? w _ hx341_2)).trans hx341_2
     replace hx341_3 := (HB.out.cell (World.block_lt_of_cell? w _ hx341_3)).trans hx341_3
     replace p341 := eq_true p341
     replace q341 := eq_true q341
     have p345 : 0 ≤ (x8_1 : Int) := of_decide_eq_true (by first | (with_reducible assumption) | assumption)
     have q345 : x8_1 < (l0_2.length : Int) := of_decide_eq_true (by first | (with_reducible assumption) | assumption)
     obtain ⟨ad345, e345, hx345_0, hx345_1, hx345_2, hx345_3⟩ := at_T74 HR0_2.out x8_1 p345 q345
     obtain rfl : ad341 = ad345 := (by injection e345)
     replace hx345_0 := (HB.out.cell (World.block_lt_of_cell? w _ hx345_0)).trans hx345_0
     replace hx345_1 := (HB.out.cell (World.block_lt_of_cell? w _ hx345_1)).trans hx345_1
     replace hx345_2 := (HB.out.cell (World.block_lt_of_cell? w _ hx345_2)).trans hx345_2
     replace hx345_3 := (HB.out.cell (World.block_lt_of_cell? w _ hx345_3)).trans hx345_3
     replace p345 := eq_true p345
     replace q345 := eq_true q345
     go_wp2
     go_roundg k1
     case measure => have := HK1.out; omega
     case rel => exact ⟨(x7_1), (wrap64 (x8_1 + 1)), (by first | rfl | (simp; done) | (simp [*]; done)), (by first | rfl | (simp; done) | (simp [*]; done)), H', ⟨by have := HK1.out; omega⟩, ⟨by (with_reducible repeat (first | refine blk_drewN ?_ _ | refine blk_drew ?_ | refine blk_alloc ?_ _)); exact BK340.out⟩, ⟨by repeat (first | (with_reducible first | exact HB.out | apply below_alloc | apply pw_below_drewN | apply below_drew1 | refine below_set ?_ GE340.out) | exact HB.out)⟩⟩
    rw [if_pos c12] at H
    have c12b0 : (((rd_T74 l0_2 x8_1).f1) == a2) = true := beq_iff_eq.mpr c12
    have c12b1 : (((rd_T74 l0_2 x8_1).f1) != a2) = false := bne_eq_false_iff_eq.mpr c12
    clear c12
    have H' := Aside0.mk H
    clear H
    have hcz13_0 : wr.cell? ⟨gb340, 0, none⟩ = some (.int .i64 a0_0) := (blk_cell BK340.out 0).trans rfl
    have hcz13_1 : wr.cell? ⟨gb340, 1, none⟩ = some (.bool a0_1) := (blk_cell BK340.out 1).trans rfl
    have hcz13_2 : wr.cell? ⟨gb340, 2, none⟩ = some (.slice A0_2 l0_2.length c0_2) := (blk_cell BK340.out 2).trans rfl
    have hfz13_0 := blk_frozen BK340.out 0
    have hfz13_1 := blk_frozen BK340.out 1
    have hfz13_2 := blk_frozen BK340.out 2
    have p341 : 0 ≤ (x8_1 : Int) := of_decide_eq_true (by first | (with_reducible assumption) | assumption)
    have q341 : x8_1 < (l0_2.length : Int) := of_decide_eq_true (by first | (with_reducible assumption) | assumption)
    obtain ⟨ad341, e341, hx341_0, hx341_1, hx341_2, hx341_3⟩ := at_T74 HR0_2.out x8_1 p341 q341
    cases e341
    replace hx341_0 := (HB.out.cell (World.block_lt_of_cell? w _ hx341_0)).trans hx341_0
    replace hx341_1 := (HB.out.cell (World.block_lt_of_cell? w _ hx341_1)).trans hx341_1
    replace hx341_2 := (HB.out.cell (World.block_lt_of_cell? w _ hx341_2)).trans hx341_2
    replace hx341_3 := (HB.out.cell (World.block_lt_of_cell? w _ hx341_3)).trans hx341_3
    replace p341 := eq_true p341
    replace q341 := eq_true q341
    have p345 : 0 ≤ (x8_1 : Int) := of_decide_eq_true (by first | (with_reducible assumption) | assumption)
    have q345 : x8_1 < (l0_2.length : Int) := of_decide_eq_true (by first | (with_reducible assumption) | assumption)
    obtain ⟨ad345, e345, hx345_0, hx345_1, hx345_2, hx345_3⟩ := at_T74 HR0_2.out x8_1 p345 q345
    obtain rfl : ad341 = ad345 := (by injection e345)
    replace hx345_0 := (HB.out.cell (World.block_lt_of_cell? w _ hx345_0)).trans hx345_0
    replace hx345_1 := (HB.out.cell (World.block_lt_of_cell? w _ hx345_1)).trans hx345_1
    replace hx345_2 := (HB.out.cell (World.block_lt_of_cell? w _ hx345_2)).trans hx345_2
    replace hx345_3 := (HB.out.cell (World.block_lt_of_cell? w _ hx345_3)).trans hx345_3
    replace p345 := eq_true p345
    replace q345 := eq_true q345
    have p346 : 0 ≤ (x8_1 : Int) := of_decide_eq_true (by first | (with_reducible assumption) | assumption)
    have q346 : x8_1 < (l1.length : Int) := of_decide_eq_true (by first | (with_reducible assumption) | assumption)
    obtain ⟨ad346, e346, hx346_0⟩ := Kd.at_int HR1.out x8_1 p346 q346
    cases e346
    replace hx346_0 := (HB.out.cell (World.block_lt_of_cell? w _ hx346_0)).trans hx346_0
    replace p346 := eq_true p346
    replace q346 := eq_true q346
    go_wp2
    go_roundg k1
    case measure => have := HK1.out; omega
    case rel => exact ⟨(wrap64 (x7_1 - (rd l1 x8_1))), (wrap64 (x8_1 + 1)), (by first | rfl | (simp; done) | (simp [*]; done)), (by first | rfl | (simp; done) | (simp [*]; done)), H', ⟨by have := HK1.out; omega⟩, ⟨by (with_reducible repeat (first | refine blk_drewN ?_ _ | refine blk_drew ?_ | refine blk_alloc ?_ _)); exact BK340.out⟩, ⟨by repeat (first | (with_reducible first | exact HB.out | apply below_alloc | apply pw_below_drewN | apply below_drew1 | refine below_set ?_ GE340.out) | exact HB.out)⟩⟩
   rw [if_pos c8] at H
   have c8b0 : (((rd_T74 l0_2 x8_1).f0) == a2) = true := beq_iff_eq.mpr c8
   have c8b1 : (((rd_T74 l0_2 x8_1).f0) != a2) = false := bne_eq_false_iff_eq.mpr c8
   clear c8
   by_cases c9 : ((rd_T74 l0_2 x8_1).f1) = a2
   rotate_left
   ·rw [if_neg c9] at H
    have c9b0 : (((rd_T74 l0_2 x8_1).f1) == a2) = false := beq_eq_false_iff_ne.mpr c9
    have c9b1 : (((rd_T74 l0_2 x8_1).f1) != a2) = true := bne_iff_ne.mpr c9
    have H' := Aside0.mk H
    clear H
    have hcz11_0 : wr.cell? ⟨gb340, 0, none⟩ = some (.int .i64 a0_0) := (blk_cell BK340.out 0).trans rfl
    have hcz11_1 : wr.cell? ⟨gb340, 1, none⟩ = some (.bool a0_1) := (blk_cell BK340.out 1).trans rfl
    have hcz11_2 : wr.cell? ⟨gb340, 2, none⟩ = some (.slice A0_2 l0_2.length c0_2) := (blk_cell BK340.out 2).trans rfl
    have hfz11_0 := blk_frozen BK340.out 0
    have hfz11_1 := blk_frozen BK340.out 1
    have hfz11_2 := blk_frozen BK340.out 2
    have p341 : 0 ≤ (x8_1 : Int) := of_decide_eq_true (by first | (with_reducible assumption) | assumption)
    have q341 : x8_1 < (l0_2.length : Int) := of_decide_eq_true (by first | (with_reducible assumption) | assumption)
    obtain ⟨ad341, e341, hx341_0, hx341_1, hx341_2, hx341_3⟩ := at_T74 HR0_2.out x8_1 p341 q341
    cases e341
    replace hx341_0 := (HB.out.cell (World.block_lt_of_cell? w _ hx341_0)).trans hx341_0
    replace hx341_1 := (HB.out.cell (World.block_lt_of_cell? w _ hx341_1)).trans hx341_1
    replace hx341_2 := (HB.out.cell (World.block_lt_of_cell? w _ hx341_2)).trans hx341_2
    replace hx341_3 := (HB.out.cell (World.block_lt_of_cell? w _ hx341_3)).trans hx341_3
    replace p341 := eq_true p341
    replace q341 := eq_true q341
    have p342 : 0 ≤ (x8_1 : Int) := of_decide_eq_true (by first | (with_reducible assumption) | assumption)
    have q342 : x8_1 < (l1.length : Int) := of_decide_eq_true (by first | (with_reducible assumption) | assumption)
    obtain ⟨ad342, e342, hx342_0⟩ := Kd.at_int HR1.out x8_1 p342 q342
    cases e342
    replace hx342_0 := (HB.out.cell (World.block_lt_of_cell? w _ hx342_0)).trans hx342_0
    replace p342 := eq_true p342
    replace q342 := eq_true q342
    have p343 : 0 ≤ (x8_1 : Int) := of_decide_eq_true (by first | (with_reducible assumption) | assumption)
    have q343 : x8_1 < (l0_2.length : Int) := of_decide_eq_true (by first | (with_reducible assumption) | assumption)
    obtain ⟨ad343, e343, hx343_0, hx343_1, hx343_2, hx343_3⟩ := at_T74 HR0_2.out x8_1 p343 q343
    obtain rfl : ad341 = ad343 := (by injection e343)
    replace hx343_0 := (HB.out.cell (World.block_lt_of_cell? w _ hx343_0)).trans hx343_0
    replace hx343_1 := (HB.out.cell (World.block_lt_of_cell? w _ hx343_1)).trans hx343_1
    replace hx343_2 := (HB.out.cell (World.block_lt_of_cell? w _ hx343_2)).trans hx343_2
    replace hx343_3 := (HB.out.cell (World.block_lt_of_cell? w _ hx343_3)).trans hx343_3
    replace p343 := eq_true p343
    replace q343 := eq_true q343
    go_wp2
    go_roundg k1
    case measure => have := HK1.out; omega
    case rel => exact ⟨(wrap64 (x7_1 + (rd l1 x8_1))), (wrap64 (x8_1 + 1)), (by first | rfl | (simp; done) | (simp [*]; done)), (by first | rfl | (simp; done) | (simp [*]; done)), H', ⟨by have := HK1.out; omega⟩, ⟨by (with_reducible repeat (first | refine blk_drewN ?_ _ | refine blk_drew ?_ | refine blk_alloc ?_ _)); exact BK340.out⟩, ⟨by repeat (first | (with_reducible first | exact HB.out | apply below_alloc | apply pw_below_drewN | apply below_drew1 | refine below_set ?_ GE340.out) | exact HB.out)⟩⟩
   rw [if_pos c9] at H
   have c9b0 : (((rd_T74 l0_2 x8_1).f1) == a2) = true := beq_iff_eq.mpr c9
   have c9b1 : (((rd_T74 l0_2 x8_1).f1) != a2) = false := bne_eq_false_iff_eq.mpr c9
   clear c9
   have H' := Aside0.mk H
   clear H
   have hcz10_0 : wr.cell? ⟨gb340, 0, none⟩ = some (.int .i64 a0_0) := (blk_cell BK340.out 0).trans rfl
   have hcz10_1 : wr.cell? ⟨gb340, 1, none⟩ = some (.bool a0_1) := (blk_cell BK340.out 1).trans rfl
   have hcz10_2 : wr.cell? ⟨gb340, 2, none⟩ = some (.slice A0_2 l0_2.length c0_2) := (blk_cell BK340.out 2).trans rfl
   have hfz10_0 := blk_frozen BK340.out 0
   have hfz10_1 := blk_frozen BK340.out 1
   have hfz10_2 := blk_frozen BK340.out 2
   have p341 : 0 ≤ (x8_1 : Int) := of_decide_eq_true (by first | (with_reducible assumption) | assumption)
   have q341 : x8_1 < (l0_2.length : Int) := of_decide_eq_true (by first | (with_reducible assumption) | assumption)
   obtain ⟨ad341, e341, hx341_0, hx341_1, hx341_2, hx341_3⟩ := at_T74 HR0_2.out x8_1 p341 q341
   cases e341
   replace hx341_0 := (HB.out.cell (World.block_lt_of_cell? w _ hx341_0)).trans hx341_0
   replace hx341_1 := (HB.out.cell (World.block_lt_of_cell? w _ hx341_1)).trans hx341_1
   replace hx341_2 := (HB.out.cell (World.block_lt_of_cell? w _ hx341_2)).trans hx341_2
   replace hx341_3 := (HB.out.cell (World.block_lt_of_cell? w _ hx341_3)).trans hx341_3
   replace p341 := eq_true p341
   replace q341 := eq_true q341
   have p342 : 0 ≤ (x8_1 : Int) := of_decide_eq_true (by first | (with_reducible assumption) | assumption)
   have q342 : x8_1 < (l1.length : Int) := of_decide_eq_true (by first | (with_reducible assumption) | assumption)
   obtain ⟨ad342, e342, hx342_0⟩ := Kd.at_int HR1.out x8_1 p342 q342
   cases e342
   replace hx342_0 := (HB.out.cell (World.block_lt_of_cell? w _ hx342_0)).trans hx342_0
   replace p342 := eq_true p342
   replace q342 := eq_true q342
   have p343 : 0 ≤ (x8_1 : Int) := of_decide_eq_true (by first | (with_reducible assumption) | assumption)
   have q343 : x8_1 < (l0_2.length : Int) := of_decide_eq_true (by first | (with_reducible assumption) | assumption)
   obtain ⟨ad343, e343, hx343_0, hx343_1, hx343_2, hx343_3⟩ := at_T74 HR0_2.out x8_1 p343 q343
   obtain rfl : ad341 = ad343 := (by injection e343)
   replace hx343_0 := (HB.out.cell (World.block_lt_of_cell? w _ hx343_0)).trans hx343_0
   replace hx343_1 := (HB.out.cell (World.block_lt_of_cell? w _ hx343_1)).trans hx343_1
   replace hx343_2 := (HB.out.cell (World.block_lt_of_cell? w _ hx343_2)).trans hx343_2
   replace hx343_3 := (HB.out.cell (World.block_lt_of_cell? w _ hx343_3)).trans hx343_3
   replace p343 := eq_true p343
   replace q343 := eq_true q343
   have p344 : 0 ≤ (x8_1 : Int) := of_decide_eq_true (by first | (with_reducible assumption) | assumption)
   have q344 : x8_1 < (l1.length : Int) := of_decide_eq_true (by first | (with_reducible assumption) | assumption)
   obtain ⟨ad344, e344, hx344_0⟩ := Kd.at_int HR1.out x8_1 p344 q344
   obtain rfl : ad342 = ad344 := (by injection e344)
   replace hx344_0 := (HB.out.cell (World.block_lt_of_cell? w _ hx344_0)).trans hx344_0
   replace p344 := eq_true p344
   replace q344 := eq_true q344
   go_wp2
   go_roundg k1
   case measure => have := HK1.out; omega
   case rel => exact ⟨(wrap64 ((wrap64 (x7_1 + (rd l1 x8_1))) - (rd l1 x8_1))), (wrap64 (x8_1 + 1)), (by first | rfl | (simp; done) | (simp [*]; done)), (by first | rfl | (simp; done) | (simp [*]; done)), H', ⟨by have := HK1.out; omega⟩, ⟨by (with_reducible repeat (first | refine blk_drewN ?_ _ | refine blk_drew ?_ | refine blk_alloc ?_ _)); exact BK340.out⟩, ⟨by repeat (first | (with_reducible first | exact HB.out | apply below_alloc | apply pw_below_drewN | apply below_drew1 | refine below_set ?_ GE340.out) | exact HB.out)⟩⟩
end Go.Proofs.Ytkcpanpdipmmmaa.P
namespace Go.Proofs.Ytkcpanpdipmmmaa.P
open Go.RowKit Go.Proofs.YtkcpanpdipmmmaaW.PrintWords Go.Proofs.YtkcpanpdipmmmaaW.PrintLast Go.Proofs.YtkcpanpdipmmmaaW.PrintMore
attribute [local go_sem] max2_int min2_int max_two min_two max_three min_three max_four min_four

/-! ### ebbtideref07_Balance: function 48 -/
def ebbtideref07_Balance.l0 : Nat → List Int → List Int → Int → Int → Bool → List (S74) → Option (List Int × Int)
 | 0, _, _, _, _, _, _ => none
 | k + 1, x1, x7, x8, x348000, x348001, x348002 => if x8 < x348000 then ((ebbtideref07_Leaves.f k x348000 x348001 x348002 x1 x8).bind fun t350 => (if x7.length < 17592186044416 then (ebbtideref07_Balance.l0 k x1 (x7 ++ [t350]) (wrap64 (x8 + 1)) x348000 x348001 x348002) else (none))) else (some (x7, 0))
def ebbtideref07_Balance.f (k : Nat) (a0_0 : Int) (a0_1 : Bool) (l0_2 : List (S74)) (l1 : List Int) : Option (List Int × Int) := (ebbtideref05_Check.f k a0_0 a0_1 l0_2).bind fun t348 => (if t348 = 0 then ((ebbtideref07_Within.f k a0_0 a0_1 l0_2 l1).bind fun t349 => (if t349 = true then (ebbtideref07_Balance.l0 k l1 ([] : List Int) 0 a0_0 a0_1 l0_2) else (some (([] : List Int), 71)))) else (some (([] : List Int), t348)))
theorem ebbtideref07_Balance.mono_l : ∀ k, (∀ y0 y1 y2 y3 y4 y5, LeO (ebbtideref07_Balance.l0 k y0 y1 y2 y3 y4 y5) (ebbtideref07_Balance.l0 (k + 1) y0 y1 y2 y3 y4 y5))
 | 0 => fun _ _ _ _ _ _ r h => by simp [ebbtideref07_Balance.l0] at h
 | k + 1 => by
  have ih0 := ebbtideref07_Balance.mono_l k
  ·intro y0 y1 y2 y3 y4 y5
   unfold ebbtideref07_Balance.l0
   repeat' first
   | (with_reducible exact ih0 _ _ _ _ _ _)
   | (with_reducible exact ebbtideref05_Check.mono _ _ _ _)
   | (with_reducible exact ebbtideref07_Leaves.mono _ _ _ _ _ _)
   | (with_reducible exact ebbtideref07_Within.mono _ _ _ _ _)
   | (with_reducible exact LeO.refl _)
   | (with_reducible exact LeO.none _)
   | (with_reducible refine LeO.ite ?_ ?_)
   | (with_reducible refine LeO.bind ?_ (fun _ => ?_))
   | exact ih0 _ _ _ _ _ _
   | exact ebbtideref05_Check.mono _ _ _ _
   | exact ebbtideref07_Leaves.mono _ _ _ _ _ _
   | exact ebbtideref07_Within.mono _ _ _ _ _
   | exact LeO.none _
   | refine LeO.ite ?_ ?_
   | refine LeO.bind ?_ (fun _ => ?_)
theorem ebbtideref07_Balance.mono : ∀ a0 a1 a2 a3 k, LeO (ebbtideref07_Balance.f k a0 a1 a2 a3) (ebbtideref07_Balance.f (k + 1) a0 a1 a2 a3) := by
 intro a0 a1 a2 a3 k
 have ih0 := ebbtideref07_Balance.mono_l k
 unfold ebbtideref07_Balance.f
 repeat' first
   | (with_reducible exact ih0 _ _ _ _ _ _)
   | (with_reducible exact ebbtideref05_Check.mono _ _ _ _)
   | (with_reducible exact ebbtideref07_Leaves.mono _ _ _ _ _ _)
   | (with_reducible exact ebbtideref07_Within.mono _ _ _ _ _)
   | (with_reducible exact LeO.refl _)
   | (with_reducible exact LeO.none _)
   | (with_reducible refine LeO.ite ?_ ?_)
   | (with_reducible refine LeO.bind ?_ (fun _ => ?_))
   | exact ih0 _ _ _ _ _ _
   | exact ebbtideref05_Check.mono _ _ _ _
   | exact ebbtideref07_Leaves.mono _ _ _ _ _ _
   | exact ebbtideref07_Within.mono _ _ _ _ _
   | exact LeO.none _
   | refine LeO.ite ?_ ?_
   | refine LeO.bind ?_ (fun _ => ?_)
set_option maxHeartbeats 8000000 in
set_option maxRecDepth 100000 in
theorem ebbtideref07_Balance.calls (k : Nat) (a0_0 : Int) (a0_1 : Bool) (A0_2 : Option Addr) (c0_2 : Nat) (l0_2 : List (S74)) (A1 : Option Addr) (c1 : Nat) (l1 : List Int) (r1 : List Int) (r2 : Int) (w : World) (hr0_2 : Kd.C k74 w A0_2 l0_2.length l0_2) (hc0_2 : l0_2.length ≤ c0_2) (hr1 : Kd.C (Kd.int .i64) w A1 l1.length l1) (hc1 : l1.length ≤ c1) (h : ebbtideref07_Balance.f k a0_0 a0_1 l0_2 l1 = some (r1, r2)) :
  Calls Try.prog 48 #[.agg #[.int .i64 a0_0, .bool a0_1, .slice A0_2 l0_2.length c0_2], .slice A1 l1.length c1] w fun e w' => ∃ v0_ : Value, e = .returned (.tuple #[v0_, .int .i64 r2]) ∧ Kd.R (Kd.int .i64) 3 w' w.heap.size (fun _ => True) v0_ r1 ∧ Below w.heap.size w w' := by
 have hu24 := Try.underlying24
 have HR0_2 := Aside0.mk hr0_2
 have HC0_2 := Aside0.mk hc0_2
 clear hr0_2 hc0_2
 have HR1 := Aside0.mk hr1
 have HC1 := Aside0.mk hc1
 clear hr1 hc1
 have HB := Aside0.mk (Below.refl w.heap.size w)
 have H : ((ebbtideref05_Check.f k a0_0 a0_1 l0_2).bind fun t348 => (if t348 = 0 then ((ebbtideref07_Within.f k a0_0 a0_1 l0_2 l1).bind fun t349 => (if t349 = true then (ebbtideref07_Balance.l0 k l1 ([] : List Int) 0 a0_0 a0_1 l0_2) else (some (([] : List Int), 71)))) else (some (([] : List Int), t348)))) = some (r1, r2) := h
 clear h
 replace H := Option.bind_eq_some_iff.mp H
 obtain ⟨t348, A30, H⟩ := H
 replace H : (if t348 = 0 then ((ebbtideref07_Within.f k a0_0 a0_1 l0_2 l1).bind fun t349 => (if t349 = true then (ebbtideref07_Balance.l0 k l1 ([] : List Int) 0 a0_0 a0_1 l0_2) else (some (([] : List Int), 71)))) else (some (([] : List Int), t348))) = some (r1, r2) := H
 have A3 := Aside0.mk A30
 clear A30
 by_cases c4 : t348 = 0
 rotate_left
 ·rw [if_neg c4] at H
  have c4b0 : (t348 == 0) = false := beq_eq_false_iff_ne.mpr c4
  have c4b1 : (t348 != 0) = true := bne_iff_ne.mpr c4
  simp only [Option.some.injEq, Prod.mk.injEq] at H
  obtain ⟨rfl, rfl⟩ := H
  go_enter Try.func48, Try.ntmps48
  go_wp2_with (first | ((with_reducible refine gate_dst (N := 2) rfl ?_); refine box_event ?hg (N := 2) ?hd (cs := #[.int .i64 a0_0, .bool a0_1, .slice A0_2 l0_2.length c0_2]) (t := 24) ?hr ?_; (case hd => rfl); (case hg => rfl); (case hr => first | (go_simp; done) | (go_simp; rfl)); intro gb347 hg w24 hbox hb; have n0_ := Aside0.mk (below_step (by repeat (first | (with_reducible first | exact HB.out | apply below_alloc | apply pw_below_drewN | apply below_drew1) | exact HB.out)) hb); have n1_ := Aside0.mk (hbox); have n2_ := Aside0.mk ((by rw [hg]; exact (below_size (by repeat (first | (with_reducible first | exact HB.out | apply below_alloc | apply pw_below_drewN | apply below_drew1) | exact HB.out))) : w.heap.size ≤ gb347)); have n3_ := Aside0.mk ((by rw [hg]; exact (below_size (by repeat (first | (with_reducible first | exact HB.out | apply below_alloc | apply pw_below_drewN | apply below_drew1) | exact HB.out))) : w.heap.size ≤ gb347)); clear HB; have HB := n0_; have BK347 := n1_; have GW347 := n2_; have GE347 := n3_; clear n0_ n1_ n2_ n3_; clear hb hbox hg; have hcz25_0 : w24.cell? ⟨gb347, 0, none⟩ = some (.int .i64 a0_0) := (blk_cell BK347.out 0).trans rfl; have hcz25_1 : w24.cell? ⟨gb347, 1, none⟩ = some (.bool a0_1) := (blk_cell BK347.out 1).trans rfl; have hcz25_2 : w24.cell? ⟨gb347, 2, none⟩ = some (.slice A0_2 l0_2.length c0_2) := (blk_cell BK347.out 2).trans rfl; have hfz25_0 := blk_frozen BK347.out 0; have hfz25_1 := blk_frozen BK347.out 1; have hfz25_2 := blk_frozen BK347.out 2) | ((with_reducible refine gate_callee (f := 78) rfl ?_); refine goesL_ (some 10) rfl rfl Try.func78 (by kernel_rfl) rfl #[.agg #[.int .i64 a0_0, .bool a0_1, .slice A0_2 l0_2.length c0_2]] rfl (by (try simp only [List.map_toArray, List.map_cons, List.map_nil]); first | done | rfl | (simp only [List.length_drop, List.length_take]; rfl)) ?_; (with_reducible refine (ebbtideref05_Check.calls k a0_0 a0_1 _ _ l0_2 t348 _ ?side1 ?side2 A3.out).mono ?_); (case side1 => repeat (first | exact (Kd.C_below HR0_2.out HB.out) | (with_reducible refine Kd.C_alloc ?_ _) | (with_reducible refine Kd.C_drewN ?_ _) | (with_reducible refine Kd.C_drew ?_))); (case side2 => exact HC0_2.out); rintro e w26 ⟨rfl, hb⟩; refine ⟨_, rfl, ?_⟩; have n0_ := Aside0.mk (blk_below (g := gb347) (o := .cells #[.int .i64 a0_0, .bool a0_1, .slice A0_2 l0_2.length c0_2] 24 (0, 0)) (by (with_reducible repeat (first | refine blk_drewN ?_ _ | refine blk_drew ?_ | refine blk_alloc ?_ _)); exact BK347.out) hb); have n1_ := Aside0.mk (below_step (by repeat (first | (with_reducible first | exact HB.out | apply below_alloc | apply pw_below_drewN | apply below_drew1 | refine below_set ?_ GE347.out) | exact HB.out)) hb); clear BK347; clear HB; have BK347 := n0_; have HB := n1_; clear n0_ n1_; (try clear hb); (try clear hb2); (try clear hk); (try clear hi)))
  go_ret2
  exact ⟨_, by first | rfl | (simp [errW_none, errW_some] <;> rfl) | (simp [*, errW_none, errW_some] <;> rfl), by first | exact Kd.R_nil _ _ _ _ _ | exact Kd.N_nil _ _ _ _ _ | exact Kd.V_nil _ _ _ _ _ | exact Kd.Q_nil _ _ _ _ _ | exact Kd.S_nil _ _ _ _ _, by repeat (first | (with_reducible first | exact HB.out | apply below_alloc | apply pw_below_drewN | apply below_drew1 | refine below_set ?_ GE347.out) | exact HB.out)⟩

 rw [if_pos c4] at H
 have c4b0 : (t348 == 0) = true := beq_iff_eq.mpr c4
 have c4b1 : (t348 != 0) = false := bne_eq_false_iff_eq.mpr c4
 clear c4
 replace H := Option.bind_eq_some_iff.mp H
 obtain ⟨t349, A50, H⟩ := H
 replace H : (if t349 = true then (ebbtideref07_Balance.l0 k l1 ([] : List Int) 0 a0_0 a0_1 l0_2) else (some (([] : List Int), 71))) = some (r1, r2) := H
 have A5 := Aside0.mk A50
 clear A50
 by_cases c6 : t349 = true
 rotate_left
 ·replace c6 := Bool.eq_false_iff.mpr c6
  subst c6
  have H1 : (some (([] : List Int), 71)) = some (r1, r2) := by rw [if_neg (show ¬ (false = true) by decide)] at H; exact H
  clear H
  have H := H1
  clear H1
  simp only [Option.some.injEq, Prod.mk.injEq] at H
  obtain ⟨rfl, rfl⟩ := H
  go_enter Try.func48, Try.ntmps48
  go_wp2_with (first | ((with_reducible refine gate_dst (N := 2) rfl ?_); refine box_event ?hg (N := 2) ?hd (cs := #[.int .i64 a0_0, .bool a0_1, .slice A0_2 l0_2.length c0_2]) (t := 24) ?hr ?_; (case hd => rfl); (case hg => rfl); (case hr => first | (go_simp; done) | (go_simp; rfl)); intro gb347 hg w19 hbox hb; have n0_ := Aside0.mk (below_step (by repeat (first | (with_reducible first | exact HB.out | apply below_alloc | apply pw_below_drewN | apply below_drew1) | exact HB.out)) hb); have n1_ := Aside0.mk (hbox); have n2_ := Aside0.mk ((by rw [hg]; exact (below_size (by repeat (first | (with_reducible first | exact HB.out | apply below_alloc | apply pw_below_drewN | apply below_drew1) | exact HB.out))) : w.heap.size ≤ gb347)); have n3_ := Aside0.mk ((by rw [hg]; exact (below_size (by repeat (first | (with_reducible first | exact HB.out | apply below_alloc | apply pw_below_drewN | apply below_drew1) | exact HB.out))) : w.heap.size ≤ gb347)); clear HB; have HB := n0_; have BK347 := n1_; have GW347 := n2_; have GE347 := n3_; clear n0_ n1_ n2_ n3_; clear hb hbox hg; have hcz20_0 : w19.cell? ⟨gb347, 0, none⟩ = some (.int .i64 a0_0) := (blk_cell BK347.out 0).trans rfl; have hcz20_1 : w19.cell? ⟨gb347, 1, none⟩ = some (.bool a0_1) := (blk_cell BK347.out 1).trans rfl; have hcz20_2 : w19.cell? ⟨gb347, 2, none⟩ = some (.slice A0_2 l0_2.length c0_2) := (blk_cell BK347.out 2).trans rfl; have hfz20_0 := blk_frozen BK347.out 0; have hfz20_1 := blk_frozen BK347.out 1; have hfz20_2 := blk_frozen BK347.out 2) | ((with_reducible refine gate_callee (f := 78) rfl ?_); refine goesL_ (some 10) rfl rfl Try.func78 (by kernel_rfl) rfl #[.agg #[.int .i64 a0_0, .bool a0_1, .slice A0_2 l0_2.length c0_2]] rfl (by (try simp only [List.map_toArray, List.map_cons, List.map_nil]); first | done | rfl | (simp only [List.length_drop, List.length_take]; rfl)) ?_; (with_reducible refine (ebbtideref05_Check.calls k a0_0 a0_1 _ _ l0_2 t348 _ ?side1 ?side2 A3.out).mono ?_); (case side1 => repeat (first | exact (Kd.C_below HR0_2.out HB.out) | (with_reducible refine Kd.C_alloc ?_ _) | (with_reducible refine Kd.C_drewN ?_ _) | (with_reducible refine Kd.C_drew ?_))); (case side2 => exact HC0_2.out); rintro e w21 ⟨rfl, hb⟩; refine ⟨_, rfl, ?_⟩; have n0_ := Aside0.mk (blk_below (g := gb347) (o := .cells #[.int .i64 a0_0, .bool a0_1, .slice A0_2 l0_2.length c0_2] 24 (0, 0)) (by (with_reducible repeat (first | refine blk_drewN ?_ _ | refine blk_drew ?_ | refine blk_alloc ?_ _)); exact BK347.out) hb); have n1_ := Aside0.mk (below_step (by repeat (first | (with_reducible first | exact HB.out | apply below_alloc | apply pw_below_drewN | apply below_drew1 | refine below_set ?_ GE347.out) | exact HB.out)) hb); clear BK347; clear HB; have BK347 := n0_; have HB := n1_; clear n0_ n1_; (try clear hb); (try clear hb2); (try clear hk); (try clear hi); have hcz22_0 : w21.cell? ⟨gb347, 0, none⟩ = some (.int .i64 a0_0) := (blk_cell BK347.out 0).trans rfl; have hcz22_1 : w21.cell? ⟨gb347, 1, none⟩ = some (.bool a0_1) := (blk_cell BK347.out 1).trans rfl; have hcz22_2 : w21.cell? ⟨gb347, 2, none⟩ = some (.slice A0_2 l0_2.length c0_2) := (blk_cell BK347.out 2).trans rfl; have hfz22_0 := blk_frozen BK347.out 0; have hfz22_1 := blk_frozen BK347.out 1; have hfz22_2 := blk_frozen BK347.out 2) | ((with_reducible refine gate_callee (f := 102) rfl ?_); refine goesL_ (some 16) rfl rfl Try.func102 (by kernel_rfl) rfl #[.agg #[.int .i64 a0_0, .bool a0_1, .slice A0_2 l0_2.length c0_2], .slice A1 l1.length c1] rfl (by (try simp only [List.map_toArray, List.map_cons, List.map_nil]); first | done | rfl | (simp only [List.length_drop, List.length_take]; rfl)) ?_; (with_reducible refine (ebbtideref07_Within.calls k a0_0 a0_1 _ _ l0_2 _ _ l1 false _ ?side1 ?side2 ?side3 ?side4 A5.out).mono ?_); (case side1 => repeat (first | exact (Kd.C_below HR0_2.out HB.out) | (with_reducible refine Kd.C_alloc ?_ _) | (with_reducible refine Kd.C_drewN ?_ _) | (with_reducible refine Kd.C_drew ?_))); (case side2 => exact HC0_2.out); (case side3 => repeat (first | exact (Kd.C_below HR1.out HB.out) | (with_reducible refine Kd.C_alloc ?_ _) | (with_reducible refine Kd.C_drewN ?_ _) | (with_reducible refine Kd.C_drew ?_))); (case side4 => exact HC1.out); rintro e w23 ⟨rfl, hb⟩; refine ⟨_, rfl, ?_⟩; have n0_ := Aside0.mk (blk_below (g := gb347) (o := .cells #[.int .i64 a0_0, .bool a0_1, .slice A0_2 l0_2.length c0_2] 24 (0, 0)) (by (with_reducible repeat (first | refine blk_drewN ?_ _ | refine blk_drew ?_ | refine blk_alloc ?_ _)); exact BK347.out) hb); have n1_ := Aside0.mk (below_step (by repeat (first | (with_reducible first | exact HB.out | apply below_alloc | apply pw_below_drewN | apply below_drew1 | refine below_set ?_ GE347.out) | exact HB.out)) hb); clear BK347; clear HB; have BK347 := n0_; have HB := n1_; clear n0_ n1_; (try clear hb); (try clear hb2); (try clear hk); (try clear hi)))
  go_ret2
  exact ⟨_, by first | rfl | (simp [errW_none, errW_some] <;> rfl) | (simp [*, errW_none, errW_some] <;> rfl), by first | exact Kd.R_nil _ _ _ _ _ | exact Kd.N_nil _ _ _ _ _ | exact Kd.V_nil _ _ _ _ _ | exact Kd.Q_nil _ _ _ _ _ | exact Kd.S_nil _ _ _ _ _, by repeat (first | (with_reducible first | exact HB.out | apply below_alloc | apply pw_below_drewN | apply below_drew1 | refine below_set ?_ GE347.out) | exact HB.out)⟩
 subst c6
 have H1 : (ebbtideref07_Balance.l0 k l1 ([] : List Int) 0 a0_0 a0_1 l0_2) = some (r1, r2) := by rw [if_pos rfl] at H; exact H
 clear H
 have H := H1
 clear H1
 have H' := Aside0.mk H
 clear H
 go_enter Try.func48, Try.ntmps48
 go_wp2_with (first | ((with_reducible refine gate_dst (N := 2) rfl ?_); refine box_event ?hg (N := 2) ?hd (cs := #[.int .i64 a0_0, .bool a0_1, .slice A0_2 l0_2.length c0_2]) (t := 24) ?hr ?_; (case hd => rfl); (case hg => rfl); (case hr => first | (go_simp; done) | (go_simp; rfl)); intro gb347 hg w7 hbox hb; have n0_ := Aside0.mk (below_step (by repeat (first | (with_reducible first | exact HB.out | apply below_alloc | apply pw_below_drewN | apply below_drew1) | exact HB.out)) hb); have n1_ := Aside0.mk (hbox); have n2_ := Aside0.mk ((by rw [hg]; exact (below_size (by repeat (first | (with_reducible first | exact HB.out | apply below_alloc | apply pw_below_drewN | apply below_drew1) | exact HB.out))) : w.heap.size ≤ gb347)); have n3_ := Aside0.mk ((by rw [hg]; exact (below_size (by repeat (first | (with_reducible first | exact HB.out | apply below_alloc | apply pw_below_drewN | apply below_drew1) | exact HB.out))) : w.heap.size ≤ gb347)); clear HB; have HB := n0_; have BK347 := n1_; have GW347 := n2_; have GE347 := n3_; clear n0_ n1_ n2_ n3_; clear hb hbox hg; have hcz8_0 : w7.cell? ⟨gb347, 0, none⟩ = some (.int .i64 a0_0) := (blk_cell BK347.out 0).trans rfl; have hcz8_1 : w7.cell? ⟨gb347, 1, none⟩ = some (.bool a0_1) := (blk_cell BK347.out 1).trans rfl; have hcz8_2 : w7.cell? ⟨gb347, 2, none⟩ = some (.slice A0_2 l0_2.length c0_2) := (blk_cell BK347.out 2).trans rfl; have hfz8_0 := blk_frozen BK347.out 0; have hfz8_1 := blk_frozen BK347.out 1; have hfz8_2 := blk_frozen BK347.out 2) | ((with_reducible refine gate_callee (f := 78) rfl ?_); refine goesL_ (some 10) rfl rfl Try.func78 (by kernel_rfl) rfl #[.agg #[.int .i64 a0_0, .bool a0_1, .slice A0_2 l0_2.length c0_2]] rfl (by (try simp only [List.map_toArray, List.map_cons, List.map_nil]); first | done | rfl | (simp only [List.length_drop, List.length_take]; rfl)) ?_; (with_reducible refine (ebbtideref05_Check.calls k a0_0 a0_1 _ _ l0_2 t348 _ ?side1 ?side2 A3.out).mono ?_); (case side1 => repeat (first | exact (Kd.C_below HR0_2.out HB.out) | (with_reducible refine Kd.C_alloc ?_ _) | (with_reducible refine Kd.C_drewN ?_ _) | (with_reducible refine Kd.C_drew ?_))); (case side2 => exact HC0_2.out); rintro e w9 ⟨rfl, hb⟩; refine ⟨_, rfl, ?_⟩; have n0_ := Aside0.mk (blk_below (g := gb347) (o := .cells #[.int .i64 a0_0, .bool a0_1, .slice A0_2 l0_2.length c0_2] 24 (0, 0)) (by (with_reducible repeat (first | refine blk_drewN ?_ _ | refine blk_drew ?_ | refine blk_alloc ?_ _)); exact BK347.out) hb); have n1_ := Aside0.mk (below_step (by repeat (first | (with_reducible first | exact HB.out | apply below_alloc | apply pw_below_drewN | apply below_drew1 | refine below_set ?_ GE347.out) | exact HB.out)) hb); clear BK347; clear HB; have BK347 := n0_; have HB := n1_; clear n0_ n1_; (try clear hb); (try clear hb2); (try clear hk); (try clear hi); have hcz10_0 : w9.cell? ⟨gb347, 0, none⟩ = some (.int .i64 a0_0) := (blk_cell BK347.out 0).trans rfl; have hcz10_1 : w9.cell? ⟨gb347, 1, none⟩ = some (.bool a0_1) := (blk_cell BK347.out 1).trans rfl; have hcz10_2 : w9.cell? ⟨gb347, 2, none⟩ = some (.slice A0_2 l0_2.length c0_2) := (blk_cell BK347.out 2).trans rfl; have hfz10_0 := blk_frozen BK347.out 0; have hfz10_1 := blk_frozen BK347.out 1; have hfz10_2 := blk_frozen BK347.out 2) | ((with_reducible refine gate_callee (f := 102) rfl ?_); refine goesL_ (some 16) rfl rfl Try.func102 (by kernel_rfl) rfl #[.agg #[.int .i64 a0_0, .bool a0_1, .slice A0_2 l0_2.length c0_2], .slice A1 l1.length c1] rfl (by (try simp only [List.map_toArray, List.map_cons, List.map_nil]); first | done | rfl | (simp only [List.length_drop, List.length_take]; rfl)) ?_; (with_reducible refine (ebbtideref07_Within.calls k a0_0 a0_1 _ _ l0_2 _ _ l1 true _ ?side1 ?side2 ?side3 ?side4 A5.out).mono ?_); (case side1 => repeat (first | exact (Kd.C_below HR0_2.out HB.out) | (with_reducible refine Kd.C_alloc ?_ _) | (with_reducible refine Kd.C_drewN ?_ _) | (with_reducible refine Kd.C_drew ?_))); (case side2 => exact HC0_2.out); (case side3 => repeat (first | exact (Kd.C_below HR1.out HB.out) | (with_reducible refine Kd.C_alloc ?_ _) | (with_reducible refine Kd.C_drewN ?_ _) | (with_reducible refine Kd.C_drew ?_))); (case side4 => exact HC1.out); rintro e w11 ⟨rfl, hb⟩; refine ⟨_, rfl, ?_⟩; have n0_ := Aside0.mk (blk_below (g := gb347) (o := .cells #[.int .i64 a0_0, .bool a0_1, .slice A0_2 l0_2.length c0_2] 24 (0, 0)) (by (with_reducible repeat (first | refine blk_drewN ?_ _ | refine blk_drew ?_ | refine blk_alloc ?_ _)); exact BK347.out) hb); have n1_ := Aside0.mk (below_step (by repeat (first | (with_reducible first | exact HB.out | apply below_alloc | apply pw_below_drewN | apply below_drew1 | refine below_set ?_ GE347.out) | exact HB.out)) hb); clear BK347; clear HB; have BK347 := n0_; have HB := n1_; clear n0_ n1_; (try clear hb); (try clear hb2); (try clear hk); (try clear hi)))
 go_loopg [7, 8] k (fun kq v7 v8 w' => ∃ (x7_1 : List Int) (x8_1 : Int), v8 = .int .i64 x8_1 ∧ Aside0 (ebbtideref07_Balance.l0 kq l1 x7_1 x8_1 a0_0 a0_1 l0_2 = some (r1, r2)) ∧ Aside0 (kq ≤ k) ∧ Aside0 (Kd.R (Kd.int .i64) 3 w' w.heap.size (fun _ => True) v7 x7_1) ∧ Aside0 (w'.heap[gb347]? = some (.cells #[.int .i64 a0_0, .bool a0_1, (.slice A0_2 l0_2.length c0_2)] 24 (0, 0))) ∧ Aside0 (Below w.heap.size w w'))
 case atStart => exact ⟨(([] : List Int)), (0), (by first | rfl | (simp; done) | (simp [*]; done)), H', ⟨Nat.le_refl _⟩, ⟨by first | exact Kd.R_nil _ _ _ _ _ | exact Kd.N_nil _ _ _ _ _ | exact Kd.V_nil _ _ _ _ _ | exact Kd.Q_nil _ _ _ _ _ | exact Kd.S_nil _ _ _ _ _⟩, ⟨by (with_reducible repeat (first | refine blk_drewN ?_ _ | refine blk_drew ?_ | refine blk_alloc ?_ _)); exact BK347.out⟩, ⟨by repeat (first | (with_reducible first | exact HB.out | apply below_alloc | apply pw_below_drewN | apply below_drew1 | refine below_set ?_ GE347.out) | exact HB.out)⟩⟩
 case round =>
  clear H'
  try clear c1
  try clear p2
  try clear c4
  try clear c4b0
  try clear c4b1
  try clear c6
  try clear c7
  try clear c10
  try clear hcz10_0
  try clear hcz10_1
  try clear hcz10_2
  try clear hcz8_0
  try clear hcz8_1
  try clear hcz8_2
  try clear hfz10_0
  try clear hfz10_1
  try clear hfz10_2
  try clear hfz8_0
  try clear hfz8_1
  try clear hfz8_2
  obtain ⟨x7_1, x8_1, rfl, HA, HK1, HO_7, BK347, HB⟩ := hrel
  cases gk with
  | zero => exact absurd HA.out (by simp [ebbtideref07_Balance.l0])
  | succ k1 =>
   have H := HA.out
   clear HA
   simp only [ebbtideref07_Balance.l0] at H
   by_cases c12 : x8_1 < a0_0
   rotate_left
   ·rw [if_neg c12] at H
    have c12b0 : decide (x8_1 < a0_0) = false := decide_eq_false c12
    clear c12
    simp only [Option.some.injEq, Prod.mk.injEq] at H
    obtain ⟨rfl, rfl⟩ := H
    have hcz18_0 : wr.cell? ⟨gb347, 0, none⟩ = some (.int .i64 a0_0) := (blk_cell BK347.out 0).trans rfl
    have hcz18_1 : wr.cell? ⟨gb347, 1, none⟩ = some (.bool a0_1) := (blk_cell BK347.out 1).trans rfl
    have hcz18_2 : wr.cell? ⟨gb347, 2, none⟩ = some (.slice A0_2 l0_2.length c0_2) := (blk_cell BK347.out 2).trans rfl
    have hfz18_0 := blk_frozen BK347.out 0
    have hfz18_1 := blk_frozen BK347.out 1
    have hfz18_2 := blk_frozen BK347.out 2
    go_wp2
    go_ret2
    exact ⟨_, by first | rfl | (simp [errW_none, errW_some] <;> rfl) | (simp [*, errW_none, errW_some] <;> rfl), by (with_reducible repeat (first | apply Kd.R_alloc | apply Kd.R_drewN | apply Kd.R_drew)); exact HO_7.out, by repeat (first | (with_reducible first | exact HB.out | apply below_alloc | apply pw_below_drewN | apply below_drew1 | refine below_set ?_ GE347.out) | exact HB.out)⟩
   rw [if_pos c12] at H
   have c12b0 : decide (x8_1 < a0_0) = true := decide_eq_true c12
   clear c12
   replace H := Option.bind_eq_some_iff.mp H
   obtain ⟨t350, A130, H⟩ := H
   replace H : (if x7_1.length < 17592186044416 then (ebbtideref07_Balance.l0 k1 l1 (x7_1 ++ [t350]) (wrap64 (x8_1 + 1)) a0_0 a0_1 l0_2) else (none)) = some (r1, r2) := H
   have A13 := Aside0.mk A130
   clear A130
   by_cases c14 : x7_1.length < 17592186044416
   rotate_left
   ·rw [if_neg c14] at H
    exact absurd H (by simp)
   rw [if_pos c14] at H
   have LMc14 := Aside0.mk c14
   clear c14
   obtain ⟨y351, hy351⟩ : ∃ y_ : List Int, y_ = (x7_1 ++ [t350]) := ⟨_, rfl⟩
   replace H : (ebbtideref07_Balance.l0 k1 l1 y351 (wrap64 (x8_1 + 1)) a0_0 a0_1 l0_2) = some (r1, r2) := by first | (rw [hy351]; with_reducible exact H) | (have H2_ := (Option.bind_some _ _).symm.trans H; rw [hy351]; with_reducible exact H2_) | (have H2_ := (Option.bind_some _ _).symm.trans H; with_reducible exact H2_) | with_reducible exact H | (rw [hy351]; exact H) | exact H
   have Ny351 := Aside0.mk hy351
   clear hy351
   have H' := Aside0.mk H
   clear H
   have hcz15_0 : wr.cell? ⟨gb347, 0, none⟩ = some (.int .i64 a0_0) := (blk_cell BK347.out 0).trans rfl
   have hcz15_1 : wr.cell? ⟨gb347, 1, none⟩ = some (.bool a0_1) := (blk_cell BK347.out 1).trans rfl
   have hcz15_2 : wr.cell? ⟨gb347, 2, none⟩ = some (.slice A0_2 l0_2.length c0_2) := (blk_cell BK347.out 2).trans rfl
   have hfz15_0 := blk_frozen BK347.out 0
   have hfz15_1 := blk_frozen BK347.out 1
   have hfz15_2 := blk_frozen BK347.out 2
   go_wp2_with (first | ((with_reducible refine gate_callee (f := 103) rfl ?_); refine goesL_ (some 28) rfl rfl Try.func103 (by kernel_rfl) rfl #[.agg #[.int .i64 a0_0, .bool a0_1, .slice A0_2 l0_2.length c0_2], .slice A1 l1.length c1, .int .i64 x8_1] rfl (by (try simp only [List.map_toArray, List.map_cons, List.map_nil]); first | done | rfl | (simp only [List.length_drop, List.length_take]; rfl)) ?_; (with_reducible refine (ebbtideref07_Leaves.calls k1 a0_0 a0_1 _ _ l0_2 _ _ l1 x8_1 t350 _ ?side1 ?side2 ?side3 ?side4 A13.out).mono ?_); (case side1 => repeat (first | exact (Kd.C_below HR0_2.out HB.out) | (with_reducible refine Kd.C_alloc ?_ _) | (with_reducible refine Kd.C_drewN ?_ _) | (with_reducible refine Kd.C_drew ?_))); (case side2 => exact HC0_2.out); (case side3 => repeat (first | exact (Kd.C_below HR1.out HB.out) | (with_reducible refine Kd.C_alloc ?_ _) | (with_reducible refine Kd.C_drewN ?_ _) | (with_reducible refine Kd.C_drew ?_))); (case side4 => exact HC1.out); rintro e w16 ⟨rfl, hb⟩; refine ⟨_, rfl, ?_⟩; have n0_ := Aside0.mk (Kd.R_below (by (with_reducible repeat (first | apply Kd.R_alloc | apply Kd.R_drewN | apply Kd.R_drew)); exact HO_7.out) hb); have n1_ := Aside0.mk (blk_below (g := gb347) (o := .cells #[.int .i64 a0_0, .bool a0_1, .slice A0_2 l0_2.length c0_2] 24 (0, 0)) (by (with_reducible repeat (first | refine blk_drewN ?_ _ | refine blk_drew ?_ | refine blk_alloc ?_ _)); exact BK347.out) hb); have n2_ := Aside0.mk (below_step (by repeat (first | (with_reducible first | exact HB.out | apply below_alloc | apply pw_below_drewN | apply below_drew1 | refine below_set ?_ GE347.out) | exact HB.out)) hb); clear HO_7; clear BK347; clear HB; have HO_7 := n0_; have BK347 := n1_; have HB := n2_; clear n0_ n1_ n2_; (try clear hb); (try clear hb2); (try clear hk); (try clear hi)) | ((with_reducible refine gate_builtin (b := .append) (xs := #[.tmp 24, .tmp 29]) rfl ?_); at_builtin; refine Kd.R_append (Kd.int .i64) (w0 := w) w.heap.size rfl (.tmp 24) (.tmp 29) 25 3 (.int .i64 0) 8 rfl Try.underlying25 info3 rfl (by decide) (by omega) u7 x7_1 t350 [.int .i64 t350] (fun _ => True) (fun _ => False) rfl rfl ?aP (fun _ hk => hk.elim) ?aF ?aO ?aB ?aS ?aL ?_; (case aP => exact rfl); (case aB => exact (by repeat (first | (with_reducible first | exact HB.out | apply below_alloc | apply pw_below_drewN | apply below_drew1 | refine below_set ?_ GE347.out) | exact HB.out))); (case aF => exact (fun _ _ => trivial)); (case aO => exact (by (with_reducible repeat (first | apply Kd.R_alloc | apply Kd.R_drewN | apply Kd.R_drew)); exact HO_7.out)); (case aS => exact (below_size (by repeat (first | (with_reducible first | exact HB.out | apply below_alloc | apply pw_below_drewN | apply below_drew1 | refine below_set ?_ GE347.out) | exact HB.out)))); (case aL => have := LMc14.out; omega); intro v352 w17 ho hb hg hat; rw [← Ny351.out] at ho; have n0_ := Aside0.mk (blk_grown (g := gb347) (o := .cells #[.int .i64 a0_0, .bool a0_1, .slice A0_2 l0_2.length c0_2] 24 (0, 0)) (by (with_reducible repeat (first | refine blk_drewN ?_ _ | refine blk_drew ?_ | refine blk_alloc ?_ _)); exact BK347.out) hg (Kd.R_ne HO_7.out BK347.out (by decide))); have n1_ := Aside0.mk (hb); have n2_ := Aside0.mk (ho); clear BK347; clear HB; clear HO_7; have BK347 := n0_; have HB := n1_; have HO353 := n2_; clear n0_ n1_ n2_; clear ho hb hg hat))
   go_roundg k1
   case measure => have := HK1.out; omega
   case rel => exact ⟨(y351), (wrap64 (x8_1 + 1)), (by first | rfl | (simp; done) | (simp [*]; done)), H', ⟨by have := HK1.out; omega⟩, ⟨by (with_reducible repeat (first | apply Kd.R_alloc | apply Kd.R_drewN | apply Kd.R_drew)); exact HO353.out⟩, ⟨by (with_reducible repeat (first | refine blk_drewN ?_ _ | refine blk_drew ?_ | refine blk_alloc ?_ _)); exact BK347.out⟩, ⟨by repeat (first | (with_reducible first | exact HB.out | apply below_alloc | apply pw_below_drewN | apply below_drew1 | refine below_set ?_ GE347.out) | exact HB.out)⟩⟩
end Go.Proofs.Ytkcpanpdipmmmaa.P
namespace Go.Proofs.Ytkcpanpdipmmmaa.P
open Go.RowKit Go.Proofs.YtkcpanpdipmmmaaW.PrintWords Go.Proofs.YtkcpanpdipmmmaaW.PrintLast Go.Proofs.YtkcpanpdipmmmaaW.PrintMore
attribute [local go_sem] max2_int min2_int max_two min_two max_three min_three max_four min_four

/-! ### ebbtideref07_Cost: function 49 -/
def ebbtideref07_Cost.l0 : Nat → List Int → Int → Int → Int → Bool → List (S74) → Option (Int × Int)
 | 0, _, _, _, _, _, _ => none
 | k + 1, x1, x7, x8, x355000, x355001, x355002 => if x8 < (x1.length : Int) then (if 0 ≤ x8 then (if x8 < (x355002.length : Int) then (ebbtideref07_Cost.l0 k x1 (wrap64 (x7 + (wrap64 ((rd x1 x8) * ((rd_T74 x355002 x8).f3))))) (wrap64 (x8 + 1)) x355000 x355001 x355002) else (none)) else (none)) else (some (x7, 0))
def ebbtideref07_Cost.f (k : Nat) (a0_0 : Int) (a0_1 : Bool) (l0_2 : List (S74)) (l1 : List Int) : Option (Int × Int) := (ebbtideref07_Asked.f k a0_0 a0_1 l0_2 l1).bind fun t355 => (if t355 = 0 then (ebbtideref07_Cost.l0 k l1 0 0 a0_0 a0_1 l0_2) else (some (0, t355)))
theorem ebbtideref07_Cost.mono_l : ∀ k, (∀ y0 y1 y2 y3 y4 y5, LeO (ebbtideref07_Cost.l0 k y0 y1 y2 y3 y4 y5) (ebbtideref07_Cost.l0 (k + 1) y0 y1 y2 y3 y4 y5))
 | 0 => fun _ _ _ _ _ _ r h => by simp [ebbtideref07_Cost.l0] at h
 | k + 1 => by
  have ih0 := ebbtideref07_Cost.mono_l k
  ·intro y0 y1 y2 y3 y4 y5
   unfold ebbtideref07_Cost.l0
   repeat' first
   | (with_reducible exact ih0 _ _ _ _ _ _)
   | (with_reducible exact ebbtideref07_Asked.mono _ _ _ _ _)
   | (with_reducible exact LeO.refl _)
   | (with_reducible exact LeO.none _)
   | (with_reducible refine LeO.ite ?_ ?_)
   | (with_reducible refine LeO.bind ?_ (fun _ => ?_))
   | exact ih0 _ _ _ _ _ _
   | exact ebbtideref07_Asked.mono _ _ _ _ _
   | exact LeO.none _
   | refine LeO.ite ?_ ?_
   | refine LeO.bind ?_ (fun _ => ?_)
theorem ebbtideref07_Cost.mono : ∀ a0 a1 a2 a3 k, LeO (ebbtideref07_Cost.f k a0 a1 a2 a3) (ebbtideref07_Cost.f (k + 1) a0 a1 a2 a3) := by
 intro a0 a1 a2 a3 k
 have ih0 := ebbtideref07_Cost.mono_l k
 unfold ebbtideref07_Cost.f
 repeat' first
   | (with_reducible exact ih0 _ _ _ _ _ _)
   | (with_reducible exact ebbtideref07_Asked.mono _ _ _ _ _)
   | (with_reducible exact LeO.refl _)
   | (with_reducible exact LeO.none _)
   | (with_reducible refine LeO.ite ?_ ?_)
   | (with_reducible refine LeO.bind ?_ (fun _ => ?_))
   | exact ih0 _ _ _ _ _ _
   | exact ebbtideref07_Asked.mono _ _ _ _ _
   | exact LeO.none _
   | refine LeO.ite ?_ ?_
   | refine LeO.bind ?_ (fun _ => ?_)
set_option maxHeartbeats 8000000 in
set_option maxRecDepth 100000 in
theorem ebbtideref07_Cost.calls (k : Nat) (a0_0 : Int) (a0_1 : Bool) (A0_2 : Option Addr) (c0_2 : Nat) (l0_2 : List (S74)) (A1 : Option Addr) (c1 : Nat) (l1 : List Int) (r1 : Int) (r2 : Int) (w : World) (hr0_2 : Kd.C k74 w A0_2 l0_2.length l0_2) (hc0_2 : l0_2.length ≤ c0_2) (hr1 : Kd.C (Kd.int .i64) w A1 l1.length l1) (hc1 : l1.length ≤ c1) (h : ebbtideref07_Cost.f k a0_0 a0_1 l0_2 l1 = some (r1, r2)) :
  Calls Try.prog 49 #[.agg #[.int .i64 a0_0, .bool a0_1, .slice A0_2 l0_2.length c0_2], .slice A1 l1.length c1] w fun e w' => e = .returned (.tuple #[.int .i64 r1, .int .i64 r2]) ∧ Below w.heap.size w w' := by
 have hu24 := Try.underlying24
 have HR0_2 := Aside0.mk hr0_2
 have HC0_2 := Aside0.mk hc0_2
 clear hr0_2 hc0_2
 have HR1 := Aside0.mk hr1
 have HC1 := Aside0.mk hc1
 clear hr1 hc1
 have HB := Aside0.mk (Below.refl w.heap.size w)
 have H : ((ebbtideref07_Asked.f k a0_0 a0_1 l0_2 l1).bind fun t355 => (if t355 = 0 then (ebbtideref07_Cost.l0 k l1 0 0 a0_0 a0_1 l0_2) else (some (0, t355)))) = some (r1, r2) := h
 clear h
 replace H := Option.bind_eq_some_iff.mp H
 obtain ⟨t355, A30, H⟩ := H
 replace H : (if t355 = 0 then (ebbtideref07_Cost.l0 k l1 0 0 a0_0 a0_1 l0_2) else (some (0, t355))) = some (r1, r2) := H
 have A3 := Aside0.mk A30
 clear A30
 by_cases c4 : t355 = 0
 rotate_left
 ·rw [if_neg c4] at H
  have c4b0 : (t355 == 0) = false := beq_eq_false_iff_ne.mpr c4
  have c4b1 : (t355 != 0) = true := bne_iff_ne.mpr c4
  simp only [Option.some.injEq, Prod.mk.injEq] at H
  obtain ⟨rfl, rfl⟩ := H
  go_enter Try.func49, Try.ntmps49
  go_wp2_with (first | ((with_reducible refine gate_dst (N := 2) rfl ?_); refine box_event ?hg (N := 2) ?hd (cs := #[.int .i64 a0_0, .bool a0_1, .slice A0_2 l0_2.length c0_2]) (t := 24) ?hr ?_; (case hd => rfl); (case hg => rfl); (case hr => first | (go_simp; done) | (go_simp; rfl)); intro gb354 hg w12 hbox hb; have n0_ := Aside0.mk (below_step (by repeat (first | (with_reducible first | exact HB.out | apply below_alloc | apply pw_below_drewN | apply below_drew1) | exact HB.out)) hb); have n1_ := Aside0.mk (hbox); have n2_ := Aside0.mk ((by rw [hg]; exact (below_size (by repeat (first | (with_reducible first | exact HB.out | apply below_alloc | apply pw_below_drewN | apply below_drew1) | exact HB.out))) : w.heap.size ≤ gb354)); have n3_ := Aside0.mk ((by rw [hg]; exact (below_size (by repeat (first | (with_reducible first | exact HB.out | apply below_alloc | apply pw_below_drewN | apply below_drew1) | exact HB.out))) : w.heap.size ≤ gb354)); clear HB; have HB := n0_; have BK354 := n1_; have GW354 := n2_; have GE354 := n3_; clear n0_ n1_ n2_ n3_; clear hb hbox hg; have hcz13_0 : w12.cell? ⟨gb354, 0, none⟩ = some (.int .i64 a0_0) := (blk_cell BK354.out 0).trans rfl; have hcz13_1 : w12.cell? ⟨gb354, 1, none⟩ = some (.bool a0_1) := (blk_cell BK354.out 1).trans rfl; have hcz13_2 : w12.cell? ⟨gb354, 2, none⟩ = some (.slice A0_2 l0_2.length c0_2) := (blk_cell BK354.out 2).trans rfl; have hfz13_0 := blk_frozen BK354.out 0; have hfz13_1 := blk_frozen BK354.out 1; have hfz13_2 := blk_frozen BK354.out 2) | (go_at_call 98; (with_reducible refine (ebbtideref07_Asked.calls k a0_0 a0_1 _ _ l0_2 _ _ l1 t355 _ ?side1 ?side2 ?side3 ?side4 A3.out).mono ?_); (case side1 => repeat (first | exact (Kd.C_below HR0_2.out HB.out) | (with_reducible refine Kd.C_alloc ?_ _) | (with_reducible refine Kd.C_drewN ?_ _) | (with_reducible refine Kd.C_drew ?_))); (case side2 => exact HC0_2.out); (case side3 => repeat (first | exact (Kd.C_below HR1.out HB.out) | (with_reducible refine Kd.C_alloc ?_ _) | (with_reducible refine Kd.C_drewN ?_ _) | (with_reducible refine Kd.C_drew ?_))); (case side4 => exact HC1.out); rintro e w14 ⟨rfl, hb⟩; have n0_ := Aside0.mk (blk_below (g := gb354) (o := .cells #[.int .i64 a0_0, .bool a0_1, .slice A0_2 l0_2.length c0_2] 24 (0, 0)) (by (with_reducible repeat (first | refine blk_drewN ?_ _ | refine blk_drew ?_ | refine blk_alloc ?_ _)); exact BK354.out) hb); have n1_ := Aside0.mk (below_step (by repeat (first | (with_reducible first | exact HB.out | apply below_alloc | apply pw_below_drewN | apply below_drew1 | refine below_set ?_ GE354.out) | exact HB.out)) hb); clear BK354; clear HB; have BK354 := n0_; have HB := n1_; clear n0_ n1_; (try clear hb); (try clear hb2); (try clear hk); (try clear hi)))
  go_ret2
  exact ⟨by first | rfl | (simp [errW_none, errW_some] <;> rfl) | (simp [*, errW_none, errW_some] <;> rfl), by repeat (first | (with_reducible first | exact HB.out | apply below_alloc | apply pw_below_drewN | apply below_drew1 | refine below_set ?_ GE354.out) | exact HB.out)⟩

 rw [if_pos c4] at H
 have c4b0 : (t355 == 0) = true := beq_iff_eq.mpr c4
 have c4b1 : (t355 != 0) = false := bne_eq_false_iff_eq.mpr c4
 clear c4
 have H' := Aside0.mk H
 clear H
 go_enter Try.func49, Try.ntmps49
 go_wp2_with (first | ((with_reducible refine gate_dst (N := 2) rfl ?_); refine box_event ?hg (N := 2) ?hd (cs := #[.int .i64 a0_0, .bool a0_1, .slice A0_2 l0_2.length c0_2]) (t := 24) ?hr ?_; (case hd => rfl); (case hg => rfl); (case hr => first | (go_simp; done) | (go_simp; rfl)); intro gb354 hg w5 hbox hb; have n0_ := Aside0.mk (below_step (by repeat (first | (with_reducible first | exact HB.out | apply below_alloc | apply pw_below_drewN | apply below_drew1) | exact HB.out)) hb); have n1_ := Aside0.mk (hbox); have n2_ := Aside0.mk ((by rw [hg]; exact (below_size (by repeat (first | (with_reducible first | exact HB.out | apply below_alloc | apply pw_below_drewN | apply below_drew1) | exact HB.out))) : w.heap.size ≤ gb354)); have n3_ := Aside0.mk ((by rw [hg]; exact (below_size (by repeat (first | (with_reducible first | exact HB.out | apply below_alloc | apply pw_below_drewN | apply below_drew1) | exact HB.out))) : w.heap.size ≤ gb354)); clear HB; have HB := n0_; have BK354 := n1_; have GW354 := n2_; have GE354 := n3_; clear n0_ n1_ n2_ n3_; clear hb hbox hg; have hcz6_0 : w5.cell? ⟨gb354, 0, none⟩ = some (.int .i64 a0_0) := (blk_cell BK354.out 0).trans rfl; have hcz6_1 : w5.cell? ⟨gb354, 1, none⟩ = some (.bool a0_1) := (blk_cell BK354.out 1).trans rfl; have hcz6_2 : w5.cell? ⟨gb354, 2, none⟩ = some (.slice A0_2 l0_2.length c0_2) := (blk_cell BK354.out 2).trans rfl; have hfz6_0 := blk_frozen BK354.out 0; have hfz6_1 := blk_frozen BK354.out 1; have hfz6_2 := blk_frozen BK354.out 2) | (go_at_call 98; (with_reducible refine (ebbtideref07_Asked.calls k a0_0 a0_1 _ _ l0_2 _ _ l1 t355 _ ?side1 ?side2 ?side3 ?side4 A3.out).mono ?_); (case side1 => repeat (first | exact (Kd.C_below HR0_2.out HB.out) | (with_reducible refine Kd.C_alloc ?_ _) | (with_reducible refine Kd.C_drewN ?_ _) | (with_reducible refine Kd.C_drew ?_))); (case side2 => exact HC0_2.out); (case side3 => repeat (first | exact (Kd.C_below HR1.out HB.out) | (with_reducible refine Kd.C_alloc ?_ _) | (with_reducible refine Kd.C_drewN ?_ _) | (with_reducible refine Kd.C_drew ?_))); (case side4 => exact HC1.out); rintro e w7 ⟨rfl, hb⟩; have n0_ := Aside0.mk (blk_below (g := gb354) (o := .cells #[.int .i64 a0_0, .bool a0_1, .slice A0_2 l0_2.length c0_2] 24 (0, 0)) (by (with_reducible repeat (first | refine blk_drewN ?_ _ | refine blk_drew ?_ | refine blk_alloc ?_ _)); exact BK354.out) hb); have n1_ := Aside0.mk (below_step (by repeat (first | (with_reducible first | exact HB.out | apply below_alloc | apply pw_below_drewN | apply below_drew1 | refine below_set ?_ GE354.out) | exact HB.out)) hb); clear BK354; clear HB; have BK354 := n0_; have HB := n1_; clear n0_ n1_; (try clear hb); (try clear hb2); (try clear hk); (try clear hi)))
 go_loopg [7, 8] k (fun kq v7 v8 w' => ∃ (x7_1 : Int) (x8_1 : Int), v7 = .int .i64 x7_1 ∧ v8 = .int .i64 x8_1 ∧ Aside0 (ebbtideref07_Cost.l0 kq l1 x7_1 x8_1 a0_0 a0_1 l0_2 = some (r1, r2)) ∧ Aside0 (kq ≤ k) ∧ Aside0 (w'.heap[gb354]? = some (.cells #[.int .i64 a0_0, .bool a0_1, (.slice A0_2 l0_2.length c0_2)] 24 (0, 0))) ∧ Aside0 (Below w.heap.size w w'))
 case atStart => exact ⟨(0), (0), (by first | rfl | (simp; done) | (simp [*]; done)), (by first | rfl | (simp; done) | (simp [*]; done)), H', ⟨Nat.le_refl _⟩, ⟨by (with_reducible repeat (first | refine blk_drewN ?_ _ | refine blk_drew ?_ | refine blk_alloc ?_ _)); exact BK354.out⟩, ⟨by repeat (first | (with_reducible first | exact HB.out | apply below_alloc | apply pw_below_drewN | apply below_drew1 | refine below_set ?_ GE354.out) | exact HB.out)⟩⟩
 case round =>
  clear H'
  try clear c1
  try clear p2
  try clear c4
  try clear c4b0
  try clear c4b1
  try clear hcz6_0
  try clear hcz6_1
  try clear hcz6_2
  try clear hfz6_0
  try clear hfz6_1
  try clear hfz6_2
  obtain ⟨x7_1, x8_1, rfl, rfl, HA, HK1, BK354, HB⟩ := hrel
  cases gk with
  | zero => exact absurd HA.out (by simp [ebbtideref07_Cost.l0])
  | succ k1 =>
   have H := HA.out
   clear HA
   simp only [ebbtideref07_Cost.l0] at H
   by_cases c8 : x8_1 < (l1.length : Int)
   rotate_left
   ·rw [if_neg c8] at H
    have c8b0 : decide (x8_1 < (l1.length : Int)) = false := decide_eq_false c8
    clear c8
    simp only [Option.some.injEq, Prod.mk.injEq] at H
    obtain ⟨rfl, rfl⟩ := H
    go_wp2
    repeat (go_quiet (fail); try go_wp2)
    go_ret2
    exact ⟨by first | rfl | (simp [errW_none, errW_some] <;> rfl) | (simp [*, errW_none, errW_some] <;> rfl), by repeat (first | (with_reducible first | exact HB.out | apply below_alloc | apply pw_below_drewN | apply below_drew1 | refine below_set ?_ GE354.out) | exact HB.out)⟩
   rw [if_pos c8] at H
   have c8b0 : decide (x8_1 < (l1.length : Int)) = true := decide_eq_true c8
   clear c8
   by_cases c9 : 0 ≤ x8_1
   rotate_left
   ·rw [if_neg c9] at H
    exact absurd H (by simp)
   rw [if_pos c9] at H
   have c9b0 : decide (0 ≤ x8_1) = true := decide_eq_true c9
   clear c9
   by_cases c10 : x8_1 < (l0_2.length : Int)
   rotate_left
   ·rw [if_neg c10] at H
    exact absurd H (by simp)
   rw [if_pos c10] at H
   have c10b0 : decide (x8_1 < (l0_2.length : Int)) = true := decide_eq_true c10
   clear c10
   have H' := Aside0.mk H
   clear H
   have p356 : 0 ≤ (x8_1 : Int) := of_decide_eq_true (by first | (with_reducible assumption) | assumption)
   have q356 : x8_1 < (l1.length : Int) := of_decide_eq_true (by first | (with_reducible assumption) | assumption)
   obtain ⟨ad356, e356, hx356_0⟩ := Kd.at_int HR1.out x8_1 p356 q356
   cases e356
   replace hx356_0 := (HB.out.cell (World.block_lt_of_cell? w _ hx356_0)).trans hx356_0
   replace p356 := eq_true p356
   replace q356 := eq_true q356
   have hcz11_0 : wr.cell? ⟨gb354, 0, none⟩ = some (.int .i64 a0_0) := (blk_cell BK354.out 0).trans rfl
   have hcz11_1 : wr.cell? ⟨gb354, 1, none⟩ = some (.bool a0_1) := (blk_cell BK354.out 1).trans rfl
   have hcz11_2 : wr.cell? ⟨gb354, 2, none⟩ = some (.slice A0_2 l0_2.length c0_2) := (blk_cell BK354.out 2).trans rfl
   have hfz11_0 := blk_frozen BK354.out 0
   have hfz11_1 := blk_frozen BK354.out 1
   have hfz11_2 := blk_frozen BK354.out 2
   have p357 : 0 ≤ (x8_1 : Int) := of_decide_eq_true (by first | (with_reducible assumption) | assumption)
   have q357 : x8_1 < (l0_2.length : Int) := of_decide_eq_true (by first | (with_reducible assumption) | assumption)
   obtain ⟨ad357, e357, hx357_0, hx357_1, hx357_2, hx357_3⟩ := at_T74 HR0_2.out x8_1 p357 q357
   cases e357
   replace hx357_0 := (HB.out.cell (World.block_lt_of_cell? w _ hx357_0)).trans hx357_0
   replace hx357_1 := (HB.out.cell (World.block_lt_of_cell? w _ hx357_1)).trans hx357_1
   replace hx357_2 := (HB.out.cell (World.block_lt_of_cell? w _ hx357_2)).trans hx357_2
   replace hx357_3 := (HB.out.cell (World.block_lt_of_cell? w _ hx357_3)).trans hx357_3
   replace p357 := eq_true p357
   replace q357 := eq_true q357
   go_wp2
   repeat (go_quiet (fail); try go_wp2)
   go_roundg k1
   case measure => have := HK1.out; omega
   case rel => exact ⟨(wrap64 (x7_1 + (wrap64 ((rd l1 x8_1) * ((rd_T74 l0_2 x8_1).f3))))), (wrap64 (x8_1 + 1)), (by first | rfl | (simp; done) | (simp [*]; done)), (by first | rfl | (simp; done) | (simp [*]; done)), H', ⟨by have := HK1.out; omega⟩, ⟨by (with_reducible repeat (first | refine blk_drewN ?_ _ | refine blk_drew ?_ | refine blk_alloc ?_ _)); exact BK354.out⟩, ⟨by repeat (first | (with_reducible first | exact HB.out | apply below_alloc | apply pw_below_drewN | apply below_drew1 | refine below_set ?_ GE354.out) | exact HB.out)⟩⟩
end Go.Proofs.Ytkcpanpdipmmmaa.P
namespace Go.Proofs.Ytkcpanpdipmmmaa.P
open Go.RowKit Go.Proofs.YtkcpanpdipmmmaaW.PrintWords Go.Proofs.YtkcpanpdipmmmaaW.PrintLast Go.Proofs.YtkcpanpdipmmmaaW.PrintMore
attribute [local go_sem] max2_int min2_int max_two min_two max_three min_three max_four min_four

/-! ### ebbtidelaw11_CostCheapest: function 6 -/
def ebbtidelaw11_CostCheapest.j0 : Nat → List Int → List Int → Bool → Bool → Int → Bool → List (S74) → Option (Bool)
 | 0, _, _, _, _, _, _, _ => none
 | k + 1, x1, x2, x7, x58, x359000, x359001, x359002 => if x58 = true then (some x7) else ((ebbtideref07_Cost.f k x359000 x359001 x359002 x1).bind fun bt371 => ((ebbtideref07_Cost.f k x359000 x359001 x359002 x2).bind fun bt373 => (if x7 = true then (some (decide (bt371.1 ≤ bt373.1))) else (some false))))
def ebbtidelaw11_CostCheapest.f (k : Nat) (a0_0 : Int) (a0_1 : Bool) (l0_2 : List (S74)) (l1 : List Int) (l2 : List Int) : Option (Bool) := (ebbtidelaw11_awake.f k).bind fun t359 => (if t359 = true then ((cost_Free.f k a0_0 a0_1 l0_2 l1).bind fun bt360 => ((ebbtideref07_Balance.f k a0_0 a0_1 l0_2 l1).bind fun bt362 => ((ebbtideref07_Balance.f k a0_0 a0_1 l0_2 l2).bind fun bt366 => (if bt360.2 = 0 then (if bt362.2 = 0 then (if bt366.2 = 0 then (if bt360.1 = true then ((ebbtideref03_SameInts.f k bt362.1 bt366.1).bind fun t370 => (ebbtidelaw11_CostCheapest.j0 k l1 l2 t359 (!t370) a0_0 a0_1 l0_2)) else (ebbtidelaw11_CostCheapest.j0 k l1 l2 t359 true a0_0 a0_1 l0_2)) else (ebbtidelaw11_CostCheapest.j0 k l1 l2 t359 true a0_0 a0_1 l0_2)) else (ebbtidelaw11_CostCheapest.j0 k l1 l2 t359 true a0_0 a0_1 l0_2)) else (ebbtidelaw11_CostCheapest.j0 k l1 l2 t359 true a0_0 a0_1 l0_2))))) else (some false))
theorem ebbtidelaw11_CostCheapest.mono_l : ∀ k, (∀ y0 y1 y2 y3 y4 y5 y6, LeO (ebbtidelaw11_CostCheapest.j0 k y0 y1 y2 y3 y4 y5 y6) (ebbtidelaw11_CostCheapest.j0 (k + 1) y0 y1 y2 y3 y4 y5 y6))
 | 0 => fun _ _ _ _ _ _ _ r h => by simp [ebbtidelaw11_CostCheapest.j0] at h
 | k + 1 => by
  have ih0 := ebbtidelaw11_CostCheapest.mono_l k
  ·intro y0 y1 y2 y3 y4 y5 y6
   unfold ebbtidelaw11_CostCheapest.j0
   repeat' first
   | (with_reducible exact ih0 _ _ _ _ _ _ _)
   | (with_reducible exact cost_Free.mono _ _ _ _ _)
   | (with_reducible exact ebbtidelaw11_awake.mono _)
   | (with_reducible exact ebbtideref03_SameInts.mono _ _ _)
   | (with_reducible exact ebbtideref07_Balance.mono _ _ _ _ _)
   | (with_reducible exact ebbtideref07_Cost.mono _ _ _ _ _)
   | (with_reducible exact LeO.refl _)
   | (with_reducible exact LeO.none _)
   | (with_reducible refine LeO.ite ?_ ?_)
   | (with_reducible refine LeO.bind ?_ (fun _ => ?_))
   | exact ih0 _ _ _ _ _ _ _
   | exact cost_Free.mono _ _ _ _ _
   | exact ebbtidelaw11_awake.mono _
   | exact ebbtideref03_SameInts.mono _ _ _
   | exact ebbtideref07_Balance.mono _ _ _ _ _
   | exact ebbtideref07_Cost.mono _ _ _ _ _
   | exact LeO.none _
   | refine LeO.ite ?_ ?_
   | refine LeO.bind ?_ (fun _ => ?_)
theorem ebbtidelaw11_CostCheapest.mono : ∀ a0 a1 a2 a3 a4 k, LeO (ebbtidelaw11_CostCheapest.f k a0 a1 a2 a3 a4) (ebbtidelaw11_CostCheapest.f (k + 1) a0 a1 a2 a3 a4) := by
 intro a0 a1 a2 a3 a4 k
 have ih0 := ebbtidelaw11_CostCheapest.mono_l k
 unfold ebbtidelaw11_CostCheapest.f
 repeat' first
   | (with_reducible exact ih0 _ _ _ _ _ _ _)
   | (with_reducible exact cost_Free.mono _ _ _ _ _)
   | (with_reducible exact ebbtidelaw11_awake.mono _)
   | (with_reducible exact ebbtideref03_SameInts.mono _ _ _)
   | (with_reducible exact ebbtideref07_Balance.mono _ _ _ _ _)
   | (with_reducible exact ebbtideref07_Cost.mono _ _ _ _ _)
   | (with_reducible exact LeO.refl _)
   | (with_reducible exact LeO.none _)
   | (with_reducible refine LeO.ite ?_ ?_)
   | (with_reducible refine LeO.bind ?_ (fun _ => ?_))
   | exact ih0 _ _ _ _ _ _ _
   | exact cost_Free.mono _ _ _ _ _
   | exact ebbtidelaw11_awake.mono _
   | exact ebbtideref03_SameInts.mono _ _ _
   | exact ebbtideref07_Balance.mono _ _ _ _ _
   | exact ebbtideref07_Cost.mono _ _ _ _ _
   | exact LeO.none _
   | refine LeO.ite ?_ ?_
   | refine LeO.bind ?_ (fun _ => ?_)
set_option maxHeartbeats 8000000 in
set_option maxRecDepth 100000 in
theorem ebbtidelaw11_CostCheapest.calls (k : Nat) (a0_0 : Int) (a0_1 : Bool) (A0_2 : Option Addr) (c0_2 : Nat) (l0_2 : List (S74)) (A1 : Option Addr) (c1 : Nat) (l1 : List Int) (A2 : Option Addr) (c2 : Nat) (l2 : List Int) (r : Bool) (w : World) (hr0_2 : Kd.C k74 w A0_2 l0_2.length l0_2) (hc0_2 : l0_2.length ≤ c0_2) (hr1 : Kd.C (Kd.int .i64) w A1 l1.length l1) (hc1 : l1.length ≤ c1) (hr2 : Kd.C (Kd.int .i64) w A2 l2.length l2) (hc2 : l2.length ≤ c2) (h : ebbtidelaw11_CostCheapest.f k a0_0 a0_1 l0_2 l1 l2 = some r) (hrT_ : r = true := by first | rfl | exact Aside0.out (by assumption)) :
  Calls Try.prog 6 #[.agg #[.int .i64 a0_0, .bool a0_1, .slice A0_2 l0_2.length c0_2], .slice A1 l1.length c1, .slice A2 l2.length c2] w fun e w' => e = .returned (.bool r) ∧ Below w.heap.size w w' := by
 have HRT := Aside0.mk hrT_
 clear hrT_
 have hu24 := Try.underlying24
 have HR0_2 := Aside0.mk hr0_2
 have HC0_2 := Aside0.mk hc0_2
 clear hr0_2 hc0_2
 have HR1 := Aside0.mk hr1
 have HC1 := Aside0.mk hc1
 clear hr1 hc1
 have HR2 := Aside0.mk hr2
 have HC2 := Aside0.mk hc2
 clear hr2 hc2
 have HB := Aside0.mk (Below.refl w.heap.size w)
 have H : ((ebbtidelaw11_awake.f k).bind fun t359 => (if t359 = true then ((cost_Free.f k a0_0 a0_1 l0_2 l1).bind fun bt360 => ((ebbtideref07_Balance.f k a0_0 a0_1 l0_2 l1).bind fun bt362 => ((ebbtideref07_Balance.f k a0_0 a0_1 l0_2 l2).bind fun bt366 => (if bt360.2 = 0 then (if bt362.2 = 0 then (if bt366.2 = 0 then (if bt360.1 = true then ((ebbtideref03_SameInts.f k bt362.1 bt366.1).bind fun t370 => (ebbtidelaw11_CostCheapest.j0 k l1 l2 t359 (!t370) a0_0 a0_1 l0_2)) else (ebbtidelaw11_CostCheapest.j0 k l1 l2 t359 true a0_0 a0_1 l0_2)) else (ebbtidelaw11_CostCheapest.j0 k l1 l2 t359 true a0_0 a0_1 l0_2)) else (ebbtidelaw11_CostCheapest.j0 k l1 l2 t359 true a0_0 a0_1 l0_2)) else (ebbtidelaw11_CostCheapest.j0 k l1 l2 t359 true a0_0 a0_1 l0_2))))) else (some false))) = some r := h
 clear h
 replace H := Option.bind_eq_some_iff.mp H
 obtain ⟨t359, A40, H⟩ := H
 replace H : (if t359 = true then ((cost_Free.f k a0_0 a0_1 l0_2 l1).bind fun bt360 => ((ebbtideref07_Balance.f k a0_0 a0_1 l0_2 l1).bind fun bt362 => ((ebbtideref07_Balance.f k a0_0 a0_1 l0_2 l2).bind fun bt366 => (if bt360.2 = 0 then (if bt362.2 = 0 then (if bt366.2 = 0 then (if bt360.1 = true then ((ebbtideref03_SameInts.f k bt362.1 bt366.1).bind fun t370 => (ebbtidelaw11_CostCheapest.j0 k l1 l2 t359 (!t370) a0_0 a0_1 l0_2)) else (ebbtidelaw11_CostCheapest.j0 k l1 l2 t359 true a0_0 a0_1 l0_2)) else (ebbtidelaw11_CostCheapest.j0 k l1 l2 t359 true a0_0 a0_1 l0_2)) else (ebbtidelaw11_CostCheapest.j0 k l1 l2 t359 true a0_0 a0_1 l0_2)) else (ebbtidelaw11_CostCheapest.j0 k l1 l2 t359 true a0_0 a0_1 l0_2))))) else (some false)) = some r := H
 have A4 := Aside0.mk A40
 clear A40
 by_cases c5 : t359 = true
 rotate_left
 ·replace c5 := Bool.eq_false_iff.mpr c5
  subst c5
  have H1 : (some false) = some r := by rw [if_neg (show ¬ (false = true) by decide)] at H; exact H
  exact absurd (Option.some.inj H1) (by rw [HRT.out]; decide)
 subst c5
 have H1 : ((cost_Free.f k a0_0 a0_1 l0_2 l1).bind fun bt360 => ((ebbtideref07_Balance.f k a0_0 a0_1 l0_2 l1).bind fun bt362 => ((ebbtideref07_Balance.f k a0_0 a0_1 l0_2 l2).bind fun bt366 => (if bt360.2 = 0 then (if bt362.2 = 0 then (if bt366.2 = 0 then (if bt360.1 = true then ((ebbtideref03_SameInts.f k bt362.1 bt366.1).bind fun t370 => (ebbtidelaw11_CostCheapest.j0 k l1 l2 true (!t370) a0_0 a0_1 l0_2)) else (ebbtidelaw11_CostCheapest.j0 k l1 l2 true true a0_0 a0_1 l0_2)) else (ebbtidelaw11_CostCheapest.j0 k l1 l2 true true a0_0 a0_1 l0_2)) else (ebbtidelaw11_CostCheapest.j0 k l1 l2 true true a0_0 a0_1 l0_2)) else (ebbtidelaw11_CostCheapest.j0 k l1 l2 true true a0_0 a0_1 l0_2))))) = some r := by rw [if_pos rfl] at H; exact H
 clear H
 have H := H1
 clear H1
 replace H := Option.bind_eq_some_iff.mp H
 obtain ⟨⟨t360, t361⟩, A60, H⟩ := H
 replace H : ((ebbtideref07_Balance.f k a0_0 a0_1 l0_2 l1).bind fun bt362 => ((ebbtideref07_Balance.f k a0_0 a0_1 l0_2 l2).bind fun bt366 => (if t361 = 0 then (if bt362.2 = 0 then (if bt366.2 = 0 then (if t360 = true then ((ebbtideref03_SameInts.f k bt362.1 bt366.1).bind fun t370 => (ebbtidelaw11_CostCheapest.j0 k l1 l2 true (!t370) a0_0 a0_1 l0_2)) else (ebbtidelaw11_CostCheapest.j0 k l1 l2 true true a0_0 a0_1 l0_2)) else (ebbtidelaw11_CostCheapest.j0 k l1 l2 true true a0_0 a0_1 l0_2)) else (ebbtidelaw11_CostCheapest.j0 k l1 l2 true true a0_0 a0_1 l0_2)) else (ebbtidelaw11_CostCheapest.j0 k l1 l2 true true a0_0 a0_1 l0_2)))) = some r := H
 have A6 := Aside0.mk A60
 clear A60
 replace H := Option.bind_eq_some_iff.mp H
 obtain ⟨⟨t362, t365⟩, A70, H⟩ := H
 replace H : ((ebbtideref07_Balance.f k a0_0 a0_1 l0_2 l2).bind fun bt366 => (if t361 = 0 then (if t365 = 0 then (if bt366.2 = 0 then (if t360 = true then ((ebbtideref03_SameInts.f k t362 bt366.1).bind fun t370 => (ebbtidelaw11_CostCheapest.j0 k l1 l2 true (!t370) a0_0 a0_1 l0_2)) else (ebbtidelaw11_CostCheapest.j0 k l1 l2 true true a0_0 a0_1 l0_2)) else (ebbtidelaw11_CostCheapest.j0 k l1 l2 true true a0_0 a0_1 l0_2)) else (ebbtidelaw11_CostCheapest.j0 k l1 l2 true true a0_0 a0_1 l0_2)) else (ebbtidelaw11_CostCheapest.j0 k l1 l2 true true a0_0 a0_1 l0_2))) = some r := H
 have A7 := Aside0.mk A70
 clear A70
 replace H := Option.bind_eq_some_iff.mp H
 obtain ⟨⟨t366, t369⟩, A80, H⟩ := H
 replace H : (if t361 = 0 then (if t365 = 0 then (if t369 = 0 then (if t360 = true then ((ebbtideref03_SameInts.f k t362 t366).bind fun t370 => (ebbtidelaw11_CostCheapest.j0 k l1 l2 true (!t370) a0_0 a0_1 l0_2)) else (ebbtidelaw11_CostCheapest.j0 k l1 l2 true true a0_0 a0_1 l0_2)) else (ebbtidelaw11_CostCheapest.j0 k l1 l2 true true a0_0 a0_1 l0_2)) else (ebbtidelaw11_CostCheapest.j0 k l1 l2 true true a0_0 a0_1 l0_2)) else (ebbtidelaw11_CostCheapest.j0 k l1 l2 true true a0_0 a0_1 l0_2)) = some r := H
 have A8 := Aside0.mk A80
 clear A80
 have HC9 := Aside0.mk H
 clear H
 go_enter Try.func6, Try.ntmps6
 go_upto_region 7 with (first | ((with_reducible refine gate_dst (N := 3) rfl ?_); refine box_event ?hg (N := 3) ?hd (cs := #[.int .i64 a0_0, .bool a0_1, .slice A0_2 l0_2.length c0_2]) (t := 24) ?hr ?_; (case hd => rfl); (case hg => rfl); (case hr => first | (go_simp; done) | (go_simp; rfl)); intro gb358 hg w10 hbox hb; have n0_ := Aside0.mk (below_step (by repeat (first | (with_reducible first | exact HB.out | apply below_alloc | apply pw_below_drewN | apply below_drew1) | exact HB.out)) hb); have n1_ := Aside0.mk (hbox); have n2_ := Aside0.mk ((by rw [hg]; exact (below_size (by repeat (first | (with_reducible first | exact HB.out | apply below_alloc | apply pw_below_drewN | apply below_drew1) | exact HB.out))) : w.heap.size ≤ gb358)); have n3_ := Aside0.mk ((by rw [hg]; exact (below_size (by repeat (first | (with_reducible first | exact HB.out | apply below_alloc | apply pw_below_drewN | apply below_drew1) | exact HB.out))) : w.heap.size ≤ gb358)); clear HB; have HB := n0_; have BK358 := n1_; have GW358 := n2_; have GE358 := n3_; clear n0_ n1_ n2_ n3_; clear hb hbox hg) | ((with_reducible refine gate_callee (f := 40) rfl ?_); refine goesL_ (some 18) rfl rfl Try.func40 (by kernel_rfl) rfl #[] rfl (by (try simp only [List.map_toArray, List.map_cons, List.map_nil]); first | done | rfl | (simp only [List.length_drop, List.length_take]; rfl)) ?_; (with_reducible refine (ebbtidelaw11_awake.calls k  true _ A4.out).mono ?_); rintro e w11 ⟨rfl, hb⟩; refine ⟨_, rfl, ?_⟩; have n0_ := Aside0.mk (blk_below (g := gb358) (o := .cells #[.int .i64 a0_0, .bool a0_1, .slice A0_2 l0_2.length c0_2] 24 (0, 0)) (by (with_reducible repeat (first | refine blk_drewN ?_ _ | refine blk_drew ?_ | refine blk_alloc ?_ _)); exact BK358.out) hb); have n1_ := Aside0.mk (below_step (by repeat (first | (with_reducible first | exact HB.out | apply below_alloc | apply pw_below_drewN | apply below_drew1 | refine below_set ?_ GE358.out) | exact HB.out)) hb); clear BK358; clear HB; have BK358 := n0_; have HB := n1_; clear n0_ n1_; (try clear hb); (try clear hb2); (try clear hk); (try clear hi); have hcz12_0 : w11.cell? ⟨gb358, 0, none⟩ = some (.int .i64 a0_0) := (blk_cell BK358.out 0).trans rfl; have hcz12_1 : w11.cell? ⟨gb358, 1, none⟩ = some (.bool a0_1) := (blk_cell BK358.out 1).trans rfl; have hcz12_2 : w11.cell? ⟨gb358, 2, none⟩ = some (.slice A0_2 l0_2.length c0_2) := (blk_cell BK358.out 2).trans rfl; have hfz12_0 := blk_frozen BK358.out 0; have hfz12_1 := blk_frozen BK358.out 1; have hfz12_2 := blk_frozen BK358.out 2) | ((with_reducible refine gate_callee (f := 47) rfl ?_); refine goesL_ (some 24) rfl rfl Try.func47 (by kernel_rfl) rfl #[.agg #[.int .i64 a0_0, .bool a0_1, .slice A0_2 l0_2.length c0_2], .slice A1 l1.length c1] rfl (by (try simp only [List.map_toArray, List.map_cons, List.map_nil]); first | done | rfl | (simp only [List.length_drop, List.length_take]; rfl)) ?_; (with_reducible refine (cost_Free.calls k a0_0 a0_1 _ _ l0_2 _ _ l1 t360 t361 _ ?side1 ?side2 ?side3 ?side4 A6.out).mono ?_); (case side1 => repeat (first | exact (Kd.C_below HR0_2.out HB.out) | (with_reducible refine Kd.C_alloc ?_ _) | (with_reducible refine Kd.C_drewN ?_ _) | (with_reducible refine Kd.C_drew ?_))); (case side2 => exact HC0_2.out); (case side3 => repeat (first | exact (Kd.C_below HR1.out HB.out) | (with_reducible refine Kd.C_alloc ?_ _) | (with_reducible refine Kd.C_drewN ?_ _) | (with_reducible refine Kd.C_drew ?_))); (case side4 => exact HC1.out); rintro e w13 ⟨rfl, hb⟩; refine ⟨_, rfl, ?_⟩; have n0_ := Aside0.mk (blk_below (g := gb358) (o := .cells #[.int .i64 a0_0, .bool a0_1, .slice A0_2 l0_2.length c0_2] 24 (0, 0)) (by (with_reducible repeat (first | refine blk_drewN ?_ _ | refine blk_drew ?_ | refine blk_alloc ?_ _)); exact BK358.out) hb); have n1_ := Aside0.mk (below_step (by repeat (first | (with_reducible first | exact HB.out | apply below_alloc | apply pw_below_drewN | apply below_drew1 | refine below_set ?_ GE358.out) | exact HB.out)) hb); clear BK358; clear HB; have BK358 := n0_; have HB := n1_; clear n0_ n1_; (try clear hb); (try clear hb2); (try clear hk); (try clear hi); have hcz14_0 : w13.cell? ⟨gb358, 0, none⟩ = some (.int .i64 a0_0) := (blk_cell BK358.out 0).trans rfl; have hcz14_1 : w13.cell? ⟨gb358, 1, none⟩ = some (.bool a0_1) := (blk_cell BK358.out 1).trans rfl; have hcz14_2 : w13.cell? ⟨gb358, 2, none⟩ = some (.slice A0_2 l0_2.length c0_2) := (blk_cell BK358.out 2).trans rfl; have hfz14_0 := blk_frozen BK358.out 0; have hfz14_1 := blk_frozen BK358.out 1; have hfz14_2 := blk_frozen BK358.out 2) | ((with_reducible refine gate_callee (f := 48) rfl ?_); refine goesL_ (some 30) rfl rfl Try.func48 (by kernel_rfl) rfl #[.agg #[.int .i64 a0_0, .bool a0_1, .slice A0_2 l0_2.length c0_2], .slice A1 l1.length c1] rfl (by (try simp only [List.map_toArray, List.map_cons, List.map_nil]); first | done | rfl | (simp only [List.length_drop, List.length_take]; rfl)) ?_; (with_reducible refine (ebbtideref07_Balance.calls k a0_0 a0_1 _ _ l0_2 _ _ l1 t362 t365 _ ?side1 ?side2 ?side3 ?side4 A7.out).mono ?_); (case side1 => repeat (first | exact (Kd.C_below HR0_2.out HB.out) | (with_reducible refine Kd.C_alloc ?_ _) | (with_reducible refine Kd.C_drewN ?_ _) | (with_reducible refine Kd.C_drew ?_))); (case side2 => exact HC0_2.out); (case side3 => repeat (first | exact (Kd.C_below HR1.out HB.out) | (with_reducible refine Kd.C_alloc ?_ _) | (with_reducible refine Kd.C_drewN ?_ _) | (with_reducible refine Kd.C_drew ?_))); (case side4 => exact HC1.out); rintro e w15 ⟨v363, rfl, ho0, hb⟩; refine ⟨_, rfl, ?_⟩; have n0_ := Aside0.mk (Kd.R_lower ho0 (below_size (by repeat (first | (with_reducible first | exact HB.out | apply below_alloc | apply pw_below_drewN | apply below_drew1 | refine below_set ?_ GE358.out) | exact HB.out)))); have n1_ := Aside0.mk (blk_below (g := gb358) (o := .cells #[.int .i64 a0_0, .bool a0_1, .slice A0_2 l0_2.length c0_2] 24 (0, 0)) (by (with_reducible repeat (first | refine blk_drewN ?_ _ | refine blk_drew ?_ | refine blk_alloc ?_ _)); exact BK358.out) hb); have n2_ := Aside0.mk (below_step (by repeat (first | (with_reducible first | exact HB.out | apply below_alloc | apply pw_below_drewN | apply below_drew1 | refine below_set ?_ GE358.out) | exact HB.out)) hb); clear BK358; clear HB; have HO364 := n0_; have BK358 := n1_; have HB := n2_; clear n0_ n1_ n2_; (try clear hb); (try clear hb2); (try clear hk); (try clear hi); (try clear ho0); have hcz16_0 : w15.cell? ⟨gb358, 0, none⟩ = some (.int .i64 a0_0) := (blk_cell BK358.out 0).trans rfl; have hcz16_1 : w15.cell? ⟨gb358, 1, none⟩ = some (.bool a0_1) := (blk_cell BK358.out 1).trans rfl; have hcz16_2 : w15.cell? ⟨gb358, 2, none⟩ = some (.slice A0_2 l0_2.length c0_2) := (blk_cell BK358.out 2).trans rfl; have hfz16_0 := blk_frozen BK358.out 0; have hfz16_1 := blk_frozen BK358.out 1; have hfz16_2 := blk_frozen BK358.out 2) | ((with_reducible refine gate_callee (f := 48) rfl ?_); refine goesL_ (some 36) rfl rfl Try.func48 (by kernel_rfl) rfl #[.agg #[.int .i64 a0_0, .bool a0_1, .slice A0_2 l0_2.length c0_2], .slice A2 l2.length c2] rfl (by (try simp only [List.map_toArray, List.map_cons, List.map_nil]); first | done | rfl | (simp only [List.length_drop, List.length_take]; rfl)) ?_; (with_reducible refine (ebbtideref07_Balance.calls k a0_0 a0_1 _ _ l0_2 _ _ l2 t366 t369 _ ?side1 ?side2 ?side3 ?side4 A8.out).mono ?_); (case side1 => repeat (first | exact (Kd.C_below HR0_2.out HB.out) | (with_reducible refine Kd.C_alloc ?_ _) | (with_reducible refine Kd.C_drewN ?_ _) | (with_reducible refine Kd.C_drew ?_))); (case side2 => exact HC0_2.out); (case side3 => repeat (first | exact (Kd.C_below HR2.out HB.out) | (with_reducible refine Kd.C_alloc ?_ _) | (with_reducible refine Kd.C_drewN ?_ _) | (with_reducible refine Kd.C_drew ?_))); (case side4 => exact HC2.out); rintro e w17 ⟨v367, rfl, ho0, hb⟩; refine ⟨_, rfl, ?_⟩; have n0_ := Aside0.mk (Kd.R_elder' (by (with_reducible repeat (first | apply Kd.R_alloc | apply Kd.R_drewN | apply Kd.R_drew)); exact HO364.out) (Kd.R_base ho0) hb); have n1_ := Aside0.mk (Kd.R_lower (Kd.R_new' ho0 (Kd.R_lt (by (with_reducible repeat (first | apply Kd.R_alloc | apply Kd.R_drewN | apply Kd.R_drew)); exact HO364.out))) (below_size (by repeat (first | (with_reducible first | exact HB.out | apply below_alloc | apply pw_below_drewN | apply below_drew1 | refine below_set ?_ GE358.out) | exact HB.out)))); have n2_ := Aside0.mk (blk_below (g := gb358) (o := .cells #[.int .i64 a0_0, .bool a0_1, .slice A0_2 l0_2.length c0_2] 24 (0, 0)) (by (with_reducible repeat (first | refine blk_drewN ?_ _ | refine blk_drew ?_ | refine blk_alloc ?_ _)); exact BK358.out) hb); have n3_ := Aside0.mk (below_step (by repeat (first | (with_reducible first | exact HB.out | apply below_alloc | apply pw_below_drewN | apply below_drew1 | refine below_set ?_ GE358.out) | exact HB.out)) hb); clear HO364; clear BK358; clear HB; have HO364 := n0_; have HO368 := n1_; have BK358 := n2_; have HB := n3_; clear n0_ n1_ n2_ n3_; (try clear hb); (try clear hb2); (try clear hk); (try clear hi); (try clear ho0)))
 (try simp only [Act.put, List.setIfInBounds_toArray, List.set_cons_zero, List.set_cons_succ])
 go_cut [58] (fun v58 wc => ∃ (kq : Nat) (x58_8 : Bool), v58 = .bool x58_8 ∧ Aside0 (ebbtidelaw11_CostCheapest.j0 kq l1 l2 true x58_8 a0_0 a0_1 l0_2 = some r) ∧ Aside0 (kq ≤ k) ∧ Aside0 (wc.heap[gb358]? = some (.cells #[.int .i64 a0_0, .bool a0_1, (.slice A0_2 l0_2.length c0_2)] 24 (0, 0))) ∧ Aside0 (Below w.heap.size w wc))
 case first =>
  have H := HC9.out
  clear HC9
  by_cases c18 : t361 = 0
  rotate_left
  ·rw [if_neg c18] at H
   have c18b0 : (t361 == 0) = false := beq_eq_false_iff_ne.mpr c18
   have c18b1 : (t361 != 0) = true := bne_iff_ne.mpr c18
   (first | rw [c18b0] | (simp only [i64_w, i32_w]; rw [c18b0]) | skip)
   have H' := Aside0.mk H
   clear H
   go_wp2
   go_meet
   case rel => exact ⟨_, (true), (by first | rfl | (simp; done) | (simp [*]; done)), H', ⟨by first | omega | exact Nat.le_refl _⟩, ⟨by (with_reducible repeat (first | refine blk_drewN ?_ _ | refine blk_drew ?_ | refine blk_alloc ?_ _)); exact BK358.out⟩, ⟨by repeat (first | (with_reducible first | exact HB.out | apply below_alloc | apply pw_below_drewN | apply below_drew1 | refine below_set ?_ GE358.out) | exact HB.out)⟩⟩
  rw [if_pos c18] at H
  have c18b0 : (t361 == 0) = true := beq_iff_eq.mpr c18
  have c18b1 : (t361 != 0) = false := bne_eq_false_iff_eq.mpr c18
  clear c18
  (first | rw [c18b0] | (simp only [i64_w, i32_w]; rw [c18b0]) | skip)
  by_cases c19 : t365 = 0
  rotate_left
  ·rw [if_neg c19] at H
   have c19b0 : (t365 == 0) = false := beq_eq_false_iff_ne.mpr c19
   have c19b1 : (t365 != 0) = true := bne_iff_ne.mpr c19
   have H' := Aside0.mk H
   clear H
   go_wp2
   go_meet
   case rel => exact ⟨_, (true), (by first | rfl | (simp; done) | (simp [*]; done)), H', ⟨by first | omega | exact Nat.le_refl _⟩, ⟨by (with_reducible repeat (first | refine blk_drewN ?_ _ | refine blk_drew ?_ | refine blk_alloc ?_ _)); exact BK358.out⟩, ⟨by repeat (first | (with_reducible first | exact HB.out | apply below_alloc | apply pw_below_drewN | apply below_drew1 | refine below_set ?_ GE358.out) | exact HB.out)⟩⟩
  rw [if_pos c19] at H
  have c19b0 : (t365 == 0) = true := beq_iff_eq.mpr c19
  have c19b1 : (t365 != 0) = false := bne_eq_false_iff_eq.mpr c19
  clear c19
  by_cases c20 : t369 = 0
  rotate_left
  ·rw [if_neg c20] at H
   have c20b0 : (t369 == 0) = false := beq_eq_false_iff_ne.mpr c20
   have c20b1 : (t369 != 0) = true := bne_iff_ne.mpr c20
   have H' := Aside0.mk H
   clear H
   go_wp2
   go_meet
   case rel => exact ⟨_, (true), (by first | rfl | (simp; done) | (simp [*]; done)), H', ⟨by first | omega | exact Nat.le_refl _⟩, ⟨by (with_reducible repeat (first | refine blk_drewN ?_ _ | refine blk_drew ?_ | refine blk_alloc ?_ _)); exact BK358.out⟩, ⟨by repeat (first | (with_reducible first | exact HB.out | apply below_alloc | apply pw_below_drewN | apply below_drew1 | refine below_set ?_ GE358.out) | exact HB.out)⟩⟩
  rw [if_pos c20] at H
  have c20b0 : (t369 == 0) = true := beq_iff_eq.mpr c20
  have c20b1 : (t369 != 0) = false := bne_eq_false_iff_eq.mpr c20
  clear c20
  by_cases c21 : t360 = true
  rotate_left
  ·replace c21 := Bool.eq_false_iff.mpr c21
   subst c21
   have H1 : (ebbtidelaw11_CostCheapest.j0 k l1 l2 true true a0_0 a0_1 l0_2) = some r := by rw [if_neg (show ¬ (false = true) by decide)] at H; exact H
   clear H
   have H := H1
   clear H1
   have H' := Aside0.mk H
   clear H
   go_wp2
   go_meet
   case rel => exact ⟨_, (true), (by first | rfl | (simp; done) | (simp [*]; done)), H', ⟨by first | omega | exact Nat.le_refl _⟩, ⟨by (with_reducible repeat (first | refine blk_drewN ?_ _ | refine blk_drew ?_ | refine blk_alloc ?_ _)); exact BK358.out⟩, ⟨by repeat (first | (with_reducible first | exact HB.out | apply below_alloc | apply pw_below_drewN | apply below_drew1 | refine below_set ?_ GE358.out) | exact HB.out)⟩⟩
  subst c21
  have H1 : ((ebbtideref03_SameInts.f k t362 t366).bind fun t370 => (ebbtidelaw11_CostCheapest.j0 k l1 l2 true (!t370) a0_0 a0_1 l0_2)) = some r := by rw [if_pos rfl] at H; exact H
  clear H
  have H := H1
  clear H1
  replace H := Option.bind_eq_some_iff.mp H
  obtain ⟨t370, A220, H⟩ := H
  replace H : (ebbtidelaw11_CostCheapest.j0 k l1 l2 true (!t370) a0_0 a0_1 l0_2) = some r := H
  have A22 := Aside0.mk A220
  clear A220
  have H' := Aside0.mk H
  clear H
  obtain ⟨Ao23, co23, eo23⟩ := Kd.R_slice HO364.out
  subst eo23
  obtain ⟨Ao24, co24, eo24⟩ := Kd.R_slice HO368.out
  subst eo24
  go_wp2_with (first | (go_at_call 41; (with_reducible refine (ebbtideref03_SameInts.calls k _ _ t362 _ _ t366 t370 _ ?side1 ?side2 ?side3 ?side4 A22.out).mono ?_); (case side1 => repeat (first | exact (Kd.R_reads' HO364.out).2.2 | (with_reducible refine Kd.C_alloc ?_ _) | (with_reducible refine Kd.C_drewN ?_ _) | (with_reducible refine Kd.C_drew ?_))); (case side2 => exact (Kd.R_reads' HO364.out).2.1); (case side3 => repeat (first | exact (Kd.R_reads' HO368.out).2.2 | (with_reducible refine Kd.C_alloc ?_ _) | (with_reducible refine Kd.C_drewN ?_ _) | (with_reducible refine Kd.C_drew ?_))); (case side4 => exact (Kd.R_reads' HO368.out).2.1); rintro e w' ⟨rfl, ⟨nd, rfl⟩⟩))
  go_meet
  case rel => exact ⟨_, (!t370), (by first | rfl | (simp; done) | (simp [*]; done)), H', ⟨by first | omega | exact Nat.le_refl _⟩, ⟨by (with_reducible repeat (first | refine blk_drewN ?_ _ | refine blk_drew ?_ | refine blk_alloc ?_ _)); exact BK358.out⟩, ⟨by repeat (first | (with_reducible first | exact HB.out | apply below_alloc | apply pw_below_drewN | apply below_drew1 | refine below_set ?_ GE358.out) | exact HB.out)⟩⟩
 case rest =>
  clear HC9
  try clear c1
  try clear c2
  try clear p2
  try clear c4
  try clear c5
  try clear c6
  try clear c18
  try clear c18b0
  try clear c18b1
  try clear c19
  try clear c19b0
  try clear c19b1
  try clear c20
  try clear c20b0
  try clear c20b1
  try clear c21
  try clear hcz12_0
  try clear hcz12_1
  try clear hcz12_2
  try clear hcz14_0
  try clear hcz14_1
  try clear hcz14_2
  try clear hcz16_0
  try clear hcz16_1
  try clear hcz16_2
  try clear hfz12_0
  try clear hfz12_1
  try clear hfz12_2
  try clear hfz14_0
  try clear hfz14_1
  try clear hfz14_2
  try clear hfz16_0
  try clear hfz16_1
  try clear hfz16_2
  obtain ⟨kq, x58_8, rfl, HA, HJ8, BK358, HB⟩ := hcut
  cases kq with
  | zero => exact absurd HA.out (by simp [ebbtidelaw11_CostCheapest.j0])
  | succ kj8 =>
   have H := HA.out
   clear HA
   simp only [ebbtidelaw11_CostCheapest.j0] at H
   by_cases c25 : x58_8 = true
   ·subst c25
    have H1 : (some true) = some r := by rw [if_pos rfl] at H; exact H
    clear H
    have H := H1
    clear H1
    obtain rfl := Option.some.inj H
    go_wp2
    go_ret
    exact ⟨by first | rfl | (simp [errW_none, errW_some] <;> rfl) | (simp [*, errW_none, errW_some] <;> rfl), by repeat (first | (with_reducible first | exact HB.out | apply below_alloc | apply pw_below_drewN | apply below_drew1 | refine below_set ?_ GE358.out) | exact HB.out)⟩
   replace c25 := Bool.eq_false_iff.mpr c25
   subst c25
   have H1 : ((ebbtideref07_Cost.f kj8 a0_0 a0_1 l0_2 l1).bind fun bt371 => ((ebbtideref07_Cost.f kj8 a0_0 a0_1 l0_2 l2).bind fun bt373 => (if true = true then (some (decide (bt371.1 ≤ bt373.1))) else (some false)))) = some r := by rw [if_neg (show ¬ (false = true) by decide)] at H; exact H
   clear H
   have H := H1
   clear H1
   replace H := Option.bind_eq_some_iff.mp H
   obtain ⟨⟨t371, t372⟩, A260, H⟩ := H
   replace H : ((ebbtideref07_Cost.f kj8 a0_0 a0_1 l0_2 l2).bind fun bt373 => (if true = true then (some (decide (t371 ≤ bt373.1))) else (some false))) = some r := H
   have A26 := Aside0.mk A260
   clear A260
   replace H := Option.bind_eq_some_iff.mp H
   obtain ⟨⟨t373, t374⟩, A270, H⟩ := H
   replace H : (if true = true then (some (decide (t371 ≤ t373))) else (some false)) = some r := H
   have A27 := Aside0.mk A270
   clear A270
   by_cases c28 : true = true
   rotate_left
   ·exact absurd rfl c28
   clear c28
   have H1 : (some (decide (t371 ≤ t373))) = some r := by rw [if_pos rfl] at H; exact H
   clear H
   have H := H1
   clear H1
   obtain rfl := Option.some.inj H
   have hcz29_0 : wc.cell? ⟨gb358, 0, none⟩ = some (.int .i64 a0_0) := (blk_cell BK358.out 0).trans rfl
   have hcz29_1 : wc.cell? ⟨gb358, 1, none⟩ = some (.bool a0_1) := (blk_cell BK358.out 1).trans rfl
   have hcz29_2 : wc.cell? ⟨gb358, 2, none⟩ = some (.slice A0_2 l0_2.length c0_2) := (blk_cell BK358.out 2).trans rfl
   have hfz29_0 := blk_frozen BK358.out 0
   have hfz29_1 := blk_frozen BK358.out 1
   have hfz29_2 := blk_frozen BK358.out 2
   go_wp2_with (first | ((with_reducible refine gate_callee (f := 49) rfl ?_); refine goesL_ (some 63) rfl rfl Try.func49 (by kernel_rfl) rfl #[.agg #[.int .i64 a0_0, .bool a0_1, .slice A0_2 l0_2.length c0_2], .slice A1 l1.length c1] rfl (by (try simp only [List.map_toArray, List.map_cons, List.map_nil]); first | done | rfl | (simp only [List.length_drop, List.length_take]; rfl)) ?_; (with_reducible refine (ebbtideref07_Cost.calls kj8 a0_0 a0_1 _ _ l0_2 _ _ l1 t371 t372 _ ?side1 ?side2 ?side3 ?side4 A26.out).mono ?_); (case side1 => repeat (first | exact (Kd.C_below HR0_2.out HB.out) | (with_reducible refine Kd.C_alloc ?_ _) | (with_reducible refine Kd.C_drewN ?_ _) | (with_reducible refine Kd.C_drew ?_))); (case side2 => exact HC0_2.out); (case side3 => repeat (first | exact (Kd.C_below HR1.out HB.out) | (with_reducible refine Kd.C_alloc ?_ _) | (with_reducible refine Kd.C_drewN ?_ _) | (with_reducible refine Kd.C_drew ?_))); (case side4 => exact HC1.out); rintro e w30 ⟨rfl, hb⟩; refine ⟨_, rfl, ?_⟩; have n0_ := Aside0.mk (blk_below (g := gb358) (o := .cells #[.int .i64 a0_0, .bool a0_1, .slice A0_2 l0_2.length c0_2] 24 (0, 0)) (by (with_reducible repeat (first | refine blk_drewN ?_ _ | refine blk_drew ?_ | refine blk_alloc ?_ _)); exact BK358.out) hb); have n1_ := Aside0.mk (below_step (by repeat (first | (with_reducible first | exact HB.out | apply below_alloc | apply pw_below_drewN | apply below_drew1 | refine below_set ?_ GE358.out) | exact HB.out)) hb); clear BK358; clear HB; have BK358 := n0_; have HB := n1_; clear n0_ n1_; (try clear hb); (try clear hb2); (try clear hk); (try clear hi); have hcz31_0 : w30.cell? ⟨gb358, 0, none⟩ = some (.int .i64 a0_0) := (blk_cell BK358.out 0).trans rfl; have hcz31_1 : w30.cell? ⟨gb358, 1, none⟩ = some (.bool a0_1) := (blk_cell BK358.out 1).trans rfl; have hcz31_2 : w30.cell? ⟨gb358, 2, none⟩ = some (.slice A0_2 l0_2.length c0_2) := (blk_cell BK358.out 2).trans rfl; have hfz31_0 := blk_frozen BK358.out 0; have hfz31_1 := blk_frozen BK358.out 1; have hfz31_2 := blk_frozen BK358.out 2) | ((with_reducible refine gate_callee (f := 49) rfl ?_); refine goesL_ (some 69) rfl rfl Try.func49 (by kernel_rfl) rfl #[.agg #[.int .i64 a0_0, .bool a0_1, .slice A0_2 l0_2.length c0_2], .slice A2 l2.length c2] rfl (by (try simp only [List.map_toArray, List.map_cons, List.map_nil]); first | done | rfl | (simp only [List.length_drop, List.length_take]; rfl)) ?_; (with_reducible refine (ebbtideref07_Cost.calls kj8 a0_0 a0_1 _ _ l0_2 _ _ l2 t373 t374 _ ?side1 ?side2 ?side3 ?side4 A27.out).mono ?_); (case side1 => repeat (first | exact (Kd.C_below HR0_2.out HB.out) | (with_reducible refine Kd.C_alloc ?_ _) | (with_reducible refine Kd.C_drewN ?_ _) | (with_reducible refine Kd.C_drew ?_))); (case side2 => exact HC0_2.out); (case side3 => repeat (first | exact (Kd.C_below HR2.out HB.out) | (with_reducible refine Kd.C_alloc ?_ _) | (with_reducible refine Kd.C_drewN ?_ _) | (with_reducible refine Kd.C_drew ?_))); (case side4 => exact HC2.out); rintro e w32 ⟨rfl, hb⟩; refine ⟨_, rfl, ?_⟩; have n0_ := Aside0.mk (blk_below (g := gb358) (o := .cells #[.int .i64 a0_0, .bool a0_1, .slice A0_2 l0_2.length c0_2] 24 (0, 0)) (by (with_reducible repeat (first | refine blk_drewN ?_ _ | refine blk_drew ?_ | refine blk_alloc ?_ _)); exact BK358.out) hb); have n1_ := Aside0.mk (below_step (by repeat (first | (with_reducible first | exact HB.out | apply below_alloc | apply pw_below_drewN | apply below_drew1 | refine below_set ?_ GE358.out) | exact HB.out)) hb); clear BK358; clear HB; have BK358 := n0_; have HB := n1_; clear n0_ n1_; (try clear hb); (try clear hb2); (try clear hk); (try clear hi)))
   go_ret
   exact ⟨by first | rfl | (simp [errW_none, errW_some] <;> rfl) | (simp [*, errW_none, errW_some] <;> rfl), by repeat (first | (with_reducible first | exact HB.out | apply below_alloc | apply pw_below_drewN | apply below_drew1 | refine below_set ?_ GE358.out) | exact HB.out)⟩
end Go.Proofs.Ytkcpanpdipmmmaa.P
/- Balances: the document's answer is a plain function. -/
namespace Go.Proofs.Ytkcpanpdipmmmaa.Q
open Go.RowKit Go.Proofs.YtkcpanpdipmmmaaW.PrintWords Go.Proofs.YtkcpanpdipmmmaaW.PrintLast Go.Proofs.YtkcpanpdipmmmaaW.PrintMore Go.Proofs.Ytkcpanpdipmmmaa.P
def bal : List S74 → List Int → Int → Int
 | a :: l, x :: f, v => (if a.f0 = v then x else 0) - (if a.f1 = v then x else 0) + bal l f v
 | _, _, _ => 0
theorem bal_cons (a : S74) (l : List S74) (x : Int) (f : List Int) (v : Int) : bal (a :: l) (x :: f) v = (if a.f0 = v then x else 0) - (if a.f1 = v then x else 0) + bal l f v := rfl
theorem bal_nil (f : List Int) (v : Int) : bal [] f v = 0 := by cases f <;> rfl
def balOf (n : Int) (l : List S74) (f : List Int) : List Int := (List.range n.toNat).map fun v : Nat => bal l f v
theorem balOf_len (n : Int) (l : List S74) (f : List Int) : (balOf n l f).length = n.toNat := by simp [balOf]
theorem rd_balOf {n : Int} {l : List S74} {f : List Int} {v : Int} (h0 : 0 ≤ v) (h1 : v < n) : rd (balOf n l f) v = bal l f v := by
 obtain ⟨j, rfl⟩ := Int.eq_ofNat_of_zero_le h0
 have hj : j < n.toNat := by omega
 rw [rd_nat, balOf, List.getD_eq_getElem?_getD]
 simp [hj]
def balRes (n : Int) (l : List S74) (f : List Int) : List Int × Int := if askErr n l f = 0 then (balOf n l f, 0) else ([], askErr n l f)
theorem leaves_l0 (n m : Int) (b : Bool) (l : List S74) (f : List Int) (hn : NetOk m l) (hf : FlowOk l f) (v : Int) (d : Nat) : ∀ (i : Nat) (acc : Int), i + d = l.length → -(i * 2097152) ≤ acc → acc ≤ i * 2097152 →
  Ev (fun k => ebbtideref07_Leaves.l0 k f v acc (i : Int) n b l) (acc + bal (l.drop i) (f.drop i) v) := by
 have hlen := hf.len
 have hl := hn.len
 induction d with
 | zero =>
  intro i acc hi h0 h1
  refine Ev.succ ?_; simp only [ebbtideref07_Leaves.l0]
  repeat (first | exact Ev.now _ | with_reducible refine Ev.pos (by first | assumption | omega) ?_ | with_reducible refine Ev.neg (by first | assumption | omega) ?_ | with_reducible refine Ev.let_ ?_)
  rw [List.drop_of_length_le (by omega)]
  exact Ev.done (by simp [bal])
 | succ d ih =>
  intro i acc hi h0 h1
  have hs := hf.small hn (i := (i : Int)) (by omega) (by omega)
  refine Ev.succ ?_; simp only [ebbtideref07_Leaves.l0]
  repeat (first | exact Ev.now _ | with_reducible refine Ev.pos (by first | assumption | omega) ?_ | with_reducible refine Ev.neg (by first | assumption | omega) ?_ | with_reducible refine Ev.let_ ?_)
  rw [wrap_succ (n := l.length) (by omega) (by omega), drop_getD l i z74 (by omega), drop_getD f i 0 (by omega), ← rdArc_nat, ← rd_nat, bal_cons]
  refine Ev.ite (fun g => ?_) (fun g => ?_)
  ·rw [if_pos g]
   refine Ev.ite (fun g2 => ?_) (fun g2 => ?_)
   ·rw [if_pos g2, wrap_id (x := acc + rd f (i : Int)) (by omega) (by omega), wrap_id (by omega) (by omega)]
    exact Ev.eq (ih (i + 1) _ (by omega) (by omega) (by omega)) (by omega)
   ·rw [if_neg g2, wrap_id (x := acc + rd f (i : Int)) (by omega) (by omega)]
    exact Ev.eq (ih (i + 1) _ (by omega) (by omega) (by omega)) (by omega)
  ·rw [if_neg g]
   refine Ev.ite (fun g2 => ?_) (fun g2 => ?_)
   ·rw [if_pos g2, wrap_id (x := acc - rd f (i : Int)) (by omega) (by omega)]
    exact Ev.eq (ih (i + 1) _ (by omega) (by omega) (by omega)) (by omega)
   ·rw [if_neg g2]
    exact Ev.eq (ih (i + 1) _ (by omega) (by omega) (by omega)) (by omega)
theorem leaves_ev (n m : Int) (b : Bool) (l : List S74) (f : List Int) (hn : NetOk m l) (hf : FlowOk l f) (v : Int) : Ev (fun k => ebbtideref07_Leaves.f k n b l f v) (bal l f v) := by
 unfold ebbtideref07_Leaves.f
 exact Ev.eq (leaves_l0 n m b l f hn hf v l.length 0 0 (by omega) (by omega) (by omega)) (by rw [List.drop_zero, List.drop_zero]; omega)
theorem ref_balance_l0 (n : Int) (b : Bool) (l : List S74) (f : List Int) (hn : NetOk n l) (hf : FlowOk l f) (d : Nat) : ∀ (i : Nat), i + d = n.toNat →
  Ev (fun k => ebbtideref07_Balance.l0 k f ((List.range i).map fun v : Nat => bal l f v) (i : Int) n b l) (balOf n l f, 0) := by
 have := hn.lo
 have := hn.hi
 induction d with
 | zero =>
  intro i hi
  refine Ev.succ ?_; simp only [ebbtideref07_Balance.l0]
  repeat (first | exact Ev.now _ | with_reducible refine Ev.pos (by first | assumption | omega) ?_ | with_reducible refine Ev.neg (by first | assumption | omega) ?_ | with_reducible refine Ev.let_ ?_)
  exact Ev.done (by unfold balOf; rw [show i = n.toNat by omega])
 | succ d ih =>
  intro i hi
  refine Ev.succ ?_; simp only [ebbtideref07_Balance.l0]
  repeat (first | exact Ev.now _ | with_reducible refine Ev.pos (by first | assumption | omega) ?_ | with_reducible refine Ev.neg (by first | assumption | omega) ?_ | with_reducible refine Ev.let_ ?_)
  refine Ev.bind (leaves_ev n n b l f hn hf i) ?_
  refine Ev.pos (by simp; omega) ?_
  rw [wrap_succ (n := n.toNat) (by omega) (by omega)]
  have e : ((List.range i).map fun v : Nat => bal l f v) ++ [bal l f (i : Int)] = (List.range (i + 1)).map fun v : Nat => bal l f v := by simp [List.range_succ]
  rw [e]
  exact ih (i + 1) (by omega)
theorem ref_balance_ev (n : Int) (b : Bool) (l : List S74) (f : List Int) : Ev (fun k => ebbtideref07_Balance.f k n b l f) (balRes n l f) := by
 unfold ebbtideref07_Balance.f balRes askErr
 refine Ev.bind (ref_check_ev n b l) ?_
 refine Ev.ite (fun h => ?_) (fun h => ?_)
 ·rw [if_pos h]
  have hn := netErr_ok h
  refine Ev.bind (within_ev n b l f hn.len) ?_
  refine Ev.ite (fun g => ?_) (fun g => ?_)
  ·rw [if_pos g, if_pos rfl]
   exact ref_balance_l0 n b l f hn (flow_ok g) n.toNat 0 (by omega)
  ·rw [if_neg g, if_neg (by decide)]
   exact Ev.now _
 ·rw [if_neg h, if_neg h]
  exact Ev.now _

theorem balRes_ok {n : Int} {l : List S74} {f : List Int} (h : askErr n l f = 0) : balRes n l f = (balOf n l f, 0) := by unfold balRes; rw [if_pos h]
theorem balRes_no {n : Int} {l : List S74} {f : List Int} (h : ¬ askErr n l f = 0) : balRes n l f = ([], askErr n l f) := by unfold balRes; rw [if_neg h]
end Go.Proofs.Ytkcpanpdipmmmaa.Q
/- A flow with tight numbers has no cheaper one with the same balances. No program in sight. -/
namespace Go.Proofs.Ytkcpanpdipmmmaa.H
def sumN (f : Nat → Int) : Nat → Int
 | 0 => 0
 | n + 1 => sumN f n + f n
theorem sumN_add (f g : Nat → Int) (n : Nat) : sumN (fun v => f v + g v) n = sumN f n + sumN g n := by
 induction n with
 | zero => rfl
 | succ n ih => simp only [sumN, ih]; omega
theorem sumN_congr {f g : Nat → Int} {n : Nat} (h : ∀ v, v < n → f v = g v) : sumN f n = sumN g n := by
 induction n with
 | zero => rfl
 | succ n ih => simp only [sumN]; rw [ih (fun v hv => h v (by omega)), h n (by omega)]
theorem sumN_zero (n : Nat) : sumN (fun _ => 0) n = 0 := by
 induction n with
 | zero => rfl
 | succ n ih => simp only [sumN, ih]; rfl
theorem sumN_single (p : Nat → Int) (x : Int) (u n : Nat) (hu : u < n) : sumN (fun v => p v * (if u = v then x else 0)) n = p u * x := by
 induction n with
 | zero => omega
 | succ n ih =>
  simp only [sumN]
  by_cases h : u = n
  ·subst h
   rw [if_pos rfl, sumN_congr (g := fun _ => 0) (fun v hv => by rw [if_neg (by omega)]; exact Int.mul_zero _), sumN_zero]
   omega
  ·rw [ih (by omega), if_neg h, Int.mul_zero, Int.add_zero]
structure Two where
 a : Nat
 b : Nat
 t : Int
 f : Int
 g : Int
def balT (L : List Two) (x : Two → Int) (v : Nat) : Int :=
 match L with
 | [] => 0
 | e :: L => ((if e.a = v then x e else 0) - (if e.b = v then x e else 0)) + balT L x v
def costT (L : List Two) (x : Two → Int) : Int :=
 match L with
 | [] => 0
 | e :: L => x e * e.t + costT L x
def potT (L : List Two) (x : Two → Int) (p : Nat → Int) : Int :=
 match L with
 | [] => 0
 | e :: L => (p e.a * x e - p e.b * x e) + potT L x p
theorem potT_bal (L : List Two) (x : Two → Int) (p : Nat → Int) (n : Nat) (h : ∀ e, e ∈ L → e.a < n ∧ e.b < n) : potT L x p = sumN (fun v => p v * balT L x v) n := by
 induction L with
 | nil =>
  simp only [potT, balT]
  rw [sumN_congr (g := fun _ => 0) (fun v _ => Int.mul_zero _), sumN_zero]
 | cons e L ih =>
  have h1 := h e List.mem_cons_self
  simp only [potT, balT]
  rw [ih (fun e he => h e (List.mem_cons_of_mem _ he))]
  rw [sumN_congr (f := fun v => p v * (((if e.a = v then x e else 0) - (if e.b = v then x e else 0)) + balT L x v)) (g := fun v => (p v * (if e.a = v then x e else 0) + p v * -(if e.b = v then x e else 0)) + p v * balT L x v) (fun v _ => by rw [Int.mul_add, Int.mul_sub, Int.mul_neg]; omega)]
  rw [sumN_add (fun v => p v * (if e.a = v then x e else 0) + p v * -(if e.b = v then x e else 0)), sumN_add, sumN_single p (x e) e.a n h1.1]
  rw [sumN_congr (f := fun v => p v * -(if e.b = v then x e else 0)) (g := fun v => p v * (if e.b = v then -(x e) else 0)) (fun v _ => by split <;> simp), sumN_single p (-(x e)) e.b n h1.2, Int.mul_neg]
  omega
theorem term_nonneg {t pa pb f g : Int} (h1 : f < g → pb ≤ pa + t) (h2 : g < f → pa ≤ pb - t) : f * t + (pa * f - pb * f) ≤ g * t + (pa * g - pb * g) := by
 have key : 0 ≤ (g - f) * (t + pa - pb) := by
  rcases Int.lt_trichotomy f g with h | h | h
  ·exact Int.mul_nonneg (by omega) (by have := h1 h; omega)
  ·rw [h, Int.sub_self, Int.zero_mul]; exact Int.le_refl _
  ·have := h2 h
   have h3 : 0 ≤ (f - g) * (pb - pa - t) := Int.mul_nonneg (by omega) (by omega)
   have h4 : (f - g) * (pb - pa - t) = (g - f) * (t + pa - pb) := by
    rw [show f - g = -(g - f) by omega, show pb - pa - t = -(t + pa - pb) by omega, Int.neg_mul_neg]
   rw [h4] at h3
   exact h3
 have h5 : (g - f) * (t + pa - pb) = (g * t + g * pa - g * pb) - (f * t + f * pa - f * pb) := by
  rw [Int.sub_mul, Int.mul_sub, Int.mul_add, Int.mul_sub, Int.mul_add]
 rw [h5] at key
 rw [Int.mul_comm pa f, Int.mul_comm pb f, Int.mul_comm pa g, Int.mul_comm pb g]
 omega
theorem cheapest (L : List Two) (n : Nat) (p : Nat → Int) (h : ∀ e, e ∈ L → e.a < n ∧ e.b < n) (hp : ∀ e, e ∈ L → (e.f < e.g → p e.b ≤ p e.a + e.t) ∧ (e.g < e.f → p e.a ≤ p e.b - e.t))
  (hb : ∀ v, v < n → balT L Two.f v = balT L Two.g v) : costT L Two.f ≤ costT L Two.g := by
 have h1 : ∀ L : List Two, (∀ e, e ∈ L → (e.f < e.g → p e.b ≤ p e.a + e.t) ∧ (e.g < e.f → p e.a ≤ p e.b - e.t)) → costT L Two.f + potT L Two.f p ≤ costT L Two.g + potT L Two.g p := by
  intro L
  induction L with
  | nil => intro _; exact Int.le_refl _
  | cons e L ih =>
   intro hp
   have h2 := ih (fun e he => hp e (List.mem_cons_of_mem _ he))
   have h3 := hp e List.mem_cons_self
   have h4 := term_nonneg h3.1 h3.2
   simp only [costT, potT]
   omega
 have h2 := h1 L hp
 rw [potT_bal L Two.f p n h, potT_bal L Two.g p n h, sumN_congr (g := fun v => p v * balT L Two.g v) (fun v hv => by rw [hb v hv])] at h2
 omega
end Go.Proofs.Ytkcpanpdipmmmaa.H
/- CostCheapest: a flow that is free has no cheaper one with the same balances. -/
namespace Go.Proofs.Ytkcpanpdipmmmaa.Q
open Go.RowKit Go.Proofs.YtkcpanpdipmmmaaW.PrintWords Go.Proofs.YtkcpanpdipmmmaaW.PrintLast Go.Proofs.YtkcpanpdipmmmaaW.PrintMore Go.Proofs.Ytkcpanpdipmmmaa.P
open Go.Proofs.Ytkcpanpdipmmmaa.H (freeRes freeB freeB_iff refF Right right_of stFrom stTo stTime stRoom stepsR mem_stepsR NoGain refE Two balT costT)
def costS : List S74 → List Int → Int
 | a :: l, x :: f => x * a.f3 + costS l f
 | _, _ => 0
theorem mul_bd {x t : Int} (h0 : 0 ≤ x) (h1 : x ≤ 1048576) (h2 : 0 ≤ t) (h3 : t ≤ 1048576) : 0 ≤ x * t ∧ x * t ≤ 1099511627776 := by
 refine ⟨Int.mul_nonneg h0 h2, ?_⟩
 have := Int.mul_le_mul h1 h3 h2 (show (0 : Int) ≤ 1048576 by decide)
 omega
theorem ref_costS_l0 {l : List S74} {F : List Int} {n : Nat} (hr : Right l F n) (b : Bool) (d : Nat) : ∀ (i : Nat) (k : Int), i + d = l.length → 0 ≤ k → k ≤ 1099511627776 * (i : Int) →
  Ev (fun m => ebbtideref07_Cost.l0 m F k (i : Int) n b l) (k + costS (l.drop i) (F.drop i), 0) := by
 have hl := hr.len
 have hl2 := hr.arcs
 induction d with
 | zero =>
  intro i k hi h0 h1
  refine Ev.succ ?_; simp only [ebbtideref07_Cost.l0]
  refine Ev.neg (by omega) ?_
  rw [List.drop_of_length_le (show l.length ≤ i by omega), List.drop_of_length_le (show F.length ≤ i by omega)]
  exact Ev.done (by simp [costS])
 | succ d ih =>
  intro i k hi h0 h1
  have hn := hr.nums i (by omega)
  have hb := mul_bd hn.2.2.1 (by omega) hn.1 hn.2.1
  have e1 : rd F (i : Int) = F.getD i 0 := rd_nat F i
  refine Ev.succ ?_; simp only [ebbtideref07_Cost.l0]
  refine Ev.pos (by omega) ?_
  refine Ev.pos (by omega) ?_
  refine Ev.pos (by omega) ?_
  rw [e1, wrap_succ (n := 200) (by omega) (by omega), wrap_id (x := F.getD i 0 * (rd_T74 l i).f3) (by omega) (by omega), wrap_id (x := k + F.getD i 0 * (rd_T74 l i).f3) (by omega) (by omega)]
  refine Ev.eq (ih (i + 1) _ (by omega) (by omega) (by omega)) ?_
  rw [drop_getD l i z74 (by omega), drop_getD F i 0 (by omega)]
  show (_, _) = (k + (F.getD i 0 * (l.getD i z74).f3 + costS (l.drop (i + 1)) (F.drop (i + 1))), 0)
  rw [← rdArc_nat]
  congr 1
  omega
theorem ref_costS_ev (n : Int) (b : Bool) (l : List S74) (F : List Int) (h : askErr n l F = 0) : Ev (fun m => ebbtideref07_Cost.f m n b l F) (costS l F, 0) := by
 unfold ebbtideref07_Cost.f
 refine Ev.bind (ref_asked_ev n b l F) ?_
 refine Ev.pos h ?_
 obtain ⟨n0, rfl, hr⟩ := right_of h
 have := ref_costS_l0 hr b l.length 0 0 (by omega) (by omega) (by omega)
 exact Ev.eq this (by rw [List.drop_zero, List.drop_zero, Int.zero_add])
def twos : List S74 → List Int → List Int → List Two
 | a :: l, x :: f, y :: g => ⟨a.f0.toNat, a.f1.toNat, a.f3, x, y⟩ :: twos l f g
 | _, _, _ => []
theorem twos_mem : ∀ (l : List S74) (f g : List Int) (e : Two), e ∈ twos l f g → ∃ i : Nat, i < l.length ∧ i < f.length ∧ i < g.length ∧ e = ⟨(rd_T74 l i).f0.toNat, (rd_T74 l i).f1.toNat, (rd_T74 l i).f3, f.getD i 0, g.getD i 0⟩
 | [], _, _, e, h => by simp [twos] at h
 | _ :: _, [], _, e, h => by simp [twos] at h
 | _ :: _, _ :: _, [], e, h => by simp [twos] at h
 | a :: l, x :: f, y :: g, e, h => by
  unfold twos at h
  rcases List.mem_cons.1 h with rfl | h
  ·exact ⟨0, by simp, by simp, by simp, by rw [rdArc_nat]; rfl⟩
  ·obtain ⟨i, h1, h2, h3, h4⟩ := twos_mem l f g e h
   refine ⟨i + 1, by simp; omega, by simp; omega, by simp; omega, ?_⟩
   rw [h4, rdArc_nat, rdArc_nat]
   rfl
theorem twos_cost : ∀ (l : List S74) (f g : List Int), f.length = l.length → g.length = l.length → costT (twos l f g) Two.f = costS l f ∧ costT (twos l f g) Two.g = costS l g
 | [], [], [], _, _ => ⟨rfl, rfl⟩
 | [], _ :: _, _, h, _ => by simp at h
 | [], [], _ :: _, _, h => by simp at h
 | _ :: _, [], _, h, _ => by simp at h
 | _ :: _, _ :: _, [], _, h => by simp at h
 | a :: l, x :: f, y :: g, h1, h2 => by
  obtain ⟨e1, e2⟩ := twos_cost l f g (by simpa using h1) (by simpa using h2)
  constructor
  ·show x * a.f3 + costT (twos l f g) Two.f = x * a.f3 + costS l f
   rw [e1]
  ·show y * a.f3 + costT (twos l f g) Two.g = y * a.f3 + costS l g
   rw [e2]
theorem twos_bal : ∀ (l : List S74) (f g : List Int) (v : Nat), (∀ a, a ∈ l → 0 ≤ a.f0 ∧ 0 ≤ a.f1) → f.length = l.length → g.length = l.length → balT (twos l f g) Two.f v = bal l f v ∧ balT (twos l f g) Two.g v = bal l g v
 | [], [], [], _, _, _, _ => ⟨rfl, rfl⟩
 | [], _ :: _, _, _, _, h, _ => by simp at h
 | [], [], _ :: _, _, _, _, h => by simp at h
 | _ :: _, [], _, _, _, h, _ => by simp at h
 | _ :: _, _ :: _, [], _, _, _, h => by simp at h
 | a :: l, x :: f, y :: g, v, ha, h1, h2 => by
  obtain ⟨e1, e2⟩ := twos_bal l f g v (fun a h => ha a (List.mem_cons_of_mem _ h)) (by simpa using h1) (by simpa using h2)
  have hp := ha a List.mem_cons_self
  have c0 : (a.f0.toNat = v) ↔ (a.f0 = (v : Int)) := by omega
  have c1 : (a.f1.toNat = v) ↔ (a.f1 = (v : Int)) := by omega
  constructor
  ·show ((if a.f0.toNat = v then x else 0) - (if a.f1.toNat = v then x else 0)) + balT (twos l f g) Two.f v = (if a.f0 = (v : Int) then x else 0) - (if a.f1 = (v : Int) then x else 0) + bal l f v
   rw [e1]
   simp only [c0, c1]
  ·show ((if a.f0.toNat = v then y else 0) - (if a.f1.toNat = v then y else 0)) + balT (twos l f g) Two.g v = (if a.f0 = (v : Int) then y else 0) - (if a.f1 = (v : Int) then y else 0) + bal l g v
   rw [e2]
   simp only [c0, c1]
theorem noGain_tight {l : List S74} {F : List Int} {n : Nat} (hr : Right l F n) (h : NoGain (refE l F) (fun v => v < n)) : ∃ p : Nat → Int, ∀ e, e ∈ refE l F → p e.2.1 ≤ p e.1 + e.2.2 := by
 have h0 : ∀ v c, (fun v => if v < n then some (0 : Int) else none) v = some c → v < n ∧ v < n := by
  intro v c hc
  by_cases e : v < n
  ·exact ⟨e, e⟩
  ·simp [e] at hc
 have hp := H.settles (H.refE_in hr) h h0 n (by omega)
 have ht := H.still_tight (H.pass_fix hp)
 refine ⟨fun v => (H.its (refE l F) n (fun v => if v < n then some (0 : Int) else none) v).getD 0, fun e he => ?_⟩
 refine (ht e he ?_).2
 have hb := H.its_bet (refE l F) 0 n (fun v => if v < n then some (0 : Int) else none)
 rw [Nat.zero_add] at hb
 obtain ⟨x, hx, _⟩ := hb e.1 0 (by show (if e.1 < n then some (0 : Int) else none) = some 0; rw [if_pos (H.refE_in hr e he).1])
 exact ⟨x, hx⟩
theorem cheapest_le {l : List S74} {f g : List Int} {n : Nat} (hr : Right l f n) (hg : Right l g n) (hfree : freeB l f n = true) (hb : ∀ v : Nat, v < n → bal l f v = bal l g v) : costS l f ≤ costS l g := by
 obtain ⟨p, hp⟩ := noGain_tight hr (H.refs_noGain hr ((freeB_iff l f n).1 hfree))
 obtain ⟨e1, e2⟩ := twos_cost l f g hr.len hg.len
 rw [← e1, ← e2]
 have hpos : ∀ a, a ∈ l → 0 ≤ a.f0 ∧ 0 ≤ a.f1 := by
  intro a ha
  obtain ⟨i, hi, rfl⟩ := List.mem_iff_getElem.1 ha
  have := hr.ends i hi
  have e : rd_T74 l (i : Int) = l[i] := by rw [rdArc_nat, List.getD_eq_getElem?_getD, List.getElem?_eq_getElem hi]; rfl
  rw [e] at this
  exact ⟨this.1.1, this.2.1⟩
 refine H.cheapest _ n p ?_ ?_ ?_
 ·intro e he
  obtain ⟨i, h1, h2, h3, rfl⟩ := twos_mem l f g e he
  have := hr.ends i h1
  exact ⟨by have := this.1; show (rd_T74 l i).f0.toNat < n; have h := this.2; have h0 := this.1; unfold H.eFrom at h h0; omega, by have := this.2; show (rd_T74 l i).f1.toNat < n; have h := this.2; have h0 := this.1; unfold H.eTo at h h0; omega⟩
 ·intro e he
  obtain ⟨i, h1, h2, h3, rfl⟩ := twos_mem l f g e he
  have nf := hr.nums i h1
  have ng := hg.nums i h1
  constructor
  ·intro hlt
   have hlt' : f.getD i 0 < g.getD i 0 := hlt
   have hm : (⟨(i : Int), false⟩ : S38) ∈ stepsR l f f.length := (mem_stepsR l f f.length _).2 ⟨⟨i, h2, rfl⟩, by unfold H.stRoom; simp only [Bool.false_eq_true, if_false, Int.toNat_natCast]; omega⟩
   exact hp _ (List.mem_map_of_mem hm)
  ·intro hlt
   have hlt' : g.getD i 0 < f.getD i 0 := hlt
   have hm : (⟨(i : Int), true⟩ : S38) ∈ stepsR l f f.length := (mem_stepsR l f f.length _).2 ⟨⟨i, h2, rfl⟩, by unfold H.stRoom; simp only [if_true, Int.toNat_natCast]; omega⟩
   have := hp _ (List.mem_map_of_mem hm)
   have this2 : p (rd_T74 l i).f0.toNat ≤ p (rd_T74 l i).f1.toNat + -(rd_T74 l i).f3 := this
   show p (rd_T74 l i).f0.toNat ≤ p (rd_T74 l i).f1.toNat - (rd_T74 l i).f3
   omega
 ·intro v hv
  obtain ⟨b1, b2⟩ := twos_bal l f g v hpos hr.len hg.len
  rw [b1, b2]
  exact hb v hv
theorem costCheapest_ev (n : Int) (b : Bool) (l : List S74) (f g : List Int) : Ev (fun k => ebbtidelaw11_CostCheapest.f k n b l f g) true := by
 have hno : Ev (fun k => ebbtidelaw11_CostCheapest.j0 k f g true true n b l) true := by
  refine Ev.succ ?_; simp only [ebbtidelaw11_CostCheapest.j0]
  refine Ev.pos (by first | rfl | trivial) ?_
  exact Ev.now _
 unfold ebbtidelaw11_CostCheapest.f
 refine Ev.bind awake11_ev ?_
 refine Ev.pos (by first | rfl | trivial) ?_
 refine Ev.bind (cost_free_ev n b l f) ?_
 refine Ev.bind (ref_balance_ev n b l f) ?_
 refine Ev.bind (ref_balance_ev n b l g) ?_
 refine Ev.ite (fun g1 => ?_) (fun _ => hno)
 refine Ev.ite (fun g2 => ?_) (fun _ => hno)
 refine Ev.ite (fun g3 => ?_) (fun _ => hno)
 have ef : askErr n l f = 0 := by
  by_cases h : askErr n l f = 0
  ·exact h
  ·rw [balRes_no h] at g2; exact absurd g2 h
 have eg : askErr n l g = 0 := by
  by_cases h : askErr n l g = 0
  ·exact h
  ·rw [balRes_no h] at g3; exact absurd g3 h
 refine Ev.ite (fun g4 => ?_) (fun _ => hno)
 rw [balRes_ok ef, balRes_ok eg]
 have hl : (balOf n l f).length ≤ 9223372036854775807 := by
  rw [balOf_len]
  have := (askErr_ok ef).1.hi
  omega
 refine Ev.bind (same_ev _ _ hl) ?_
 by_cases hs : balOf n l f = balOf n l g
 ·rw [decide_eq_true hs]
  refine Ev.succ ?_; simp only [ebbtidelaw11_CostCheapest.j0]
  refine Ev.neg (by simp) ?_
  refine Ev.bind (ref_costS_ev n b l f ef) ?_
  refine Ev.bind (ref_costS_ev n b l g eg) ?_
  refine Ev.pos (by first | rfl | trivial) ?_
  refine Ev.done ?_
  unfold freeRes at g4
  rw [if_pos ef] at g4
  obtain ⟨n0, rfl, hr⟩ := right_of ef
  obtain ⟨n1, e1, hg⟩ := right_of eg
  have : n1 = n0 := by omega
  subst this
  refine decide_eq_true (cheapest_le hr hg (by simpa using g4) ?_)
  intro v hv
  have h1 := rd_balOf (n := (n1 : Int)) (l := l) (f := f) (v := (v : Int)) (by omega) (by omega)
  have h2 := rd_balOf (n := (n1 : Int)) (l := l) (f := g) (v := (v : Int)) (by omega) (by omega)
  rw [← h1, ← h2, hs]
 ·rw [decide_eq_false hs]
  exact hno
end Go.Proofs.Ytkcpanpdipmmmaa.Q
