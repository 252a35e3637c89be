/- What the law's row needs of these texts, taken out of them by wip/tool/mini.py: P82 P87 P88 P185 QOpen QLevelLaw QRoomRef QLLevelWays QCheckRef. -/
import Derived.Test.YtkcpanpdipmmmaaMohgnmh
import Derived.Test.YtkcpanpdipmmmaaMgdmdlc
import Derived.Test.YtkcpanpdipmmmaaMkdjlpi
import Derived.Test.YtkcpanpdipmmmaaVcafpna
import Derived.Deep.Slices
import Derived.Deep.Fields
import Derived.ChangeSame
import Derived.ChangeArms
import Derived.OpenShut
import Derived.Test.YtkcpanpdipmmmaaMediggh
import Derived.Deep.RegionHeld3
import Derived.Deep.DeepCutAuto
set_option linter.unusedVariables false
set_option linter.unusedSimpArgs false
namespace Go.Proofs.Ytkcpanpdipmmmaa.P
open Go.RowKit Go.Proofs.YtkcpanpdipmmmaaW.PrintWords Go.Proofs.YtkcpanpdipmmmaaW.PrintLast Go.Proofs.YtkcpanpdipmmmaaW.PrintMore
attribute [local go_sem] max2_int min2_int max_two min_two max_three min_three max_four min_four
def ebbtideref07_Left.f (a0_0 : Int) (a0_1 : Bool) (l0_2 : List (S74)) (l1 : List Int) (a2_0 : Int) (a2_1 : Bool) : Option (Int) := if a2_1 = true then (if 0 ≤ a2_0 then (if a2_0 < (l1.length : Int) then (some (rd l1 a2_0)) else (none)) else (none)) else (if 0 ≤ a2_0 then (if a2_0 < (l0_2.length : Int) then (if a2_0 < (l1.length : Int) then (some (wrap64 (((rd_T74 l0_2 a2_0).f2) - (rd l1 a2_0)))) else (none)) else (none)) else (none))
set_option maxHeartbeats 8000000 in
set_option maxRecDepth 100000 in
theorem ebbtideref07_Left.calls (a0_0 : Int) (a0_1 : Bool) (A0_2 : Option Addr) (c0_2 : Nat) (l0_2 : List (S74)) (A1 : Option Addr) (c1 : Nat) (l1 : List Int) (a2_0 : Int) (a2_1 : Bool) (r : Int) (w : World) (hr0_2 : Kd.C k74 w A0_2 l0_2.length l0_2) (hc0_2 : l0_2.length ≤ c0_2) (hr1 : Kd.C (Kd.int .i64) w A1 l1.length l1) (hc1 : l1.length ≤ c1) (h : ebbtideref07_Left.f a0_0 a0_1 l0_2 l1 a2_0 a2_1 = some r) :
  Calls Try.prog 113 #[.agg #[.int .i64 a0_0, .bool a0_1, .slice A0_2 l0_2.length c0_2], .slice A1 l1.length c1, .agg #[.int .i64 a2_0, .bool a2_1]] w fun e w' => e = .returned (.int .i64 r) ∧ Below w.heap.size w w' := by
 have hu24 := Try.underlying24
 have hu38 := Try.underlying38
 have HR0_2 := Aside0.mk hr0_2
 have HC0_2 := Aside0.mk hc0_2
 clear hr0_2 hc0_2
 have HR1 := Aside0.mk hr1
 have HC1 := Aside0.mk hc1
 clear hr1 hc1
 have HB := Aside0.mk (Below.refl w.heap.size w)
 have H : (if a2_1 = true then (if 0 ≤ a2_0 then (if a2_0 < (l1.length : Int) then (some (rd l1 a2_0)) else (none)) else (none)) else (if 0 ≤ a2_0 then (if a2_0 < (l0_2.length : Int) then (if a2_0 < (l1.length : Int) then (some (wrap64 (((rd_T74 l0_2 a2_0).f2) - (rd l1 a2_0)))) else (none)) else (none)) else (none))) = some r := h
 clear h
 by_cases c4 : a2_1 = true
 ·subst c4
  have H1 : (if 0 ≤ a2_0 then (if a2_0 < (l1.length : Int) then (some (rd l1 a2_0)) else (none)) else (none)) = some r := by rw [if_pos rfl] at H; exact H
  clear H
  have H := H1
  clear H1
  by_cases c5 : 0 ≤ a2_0
  rotate_left
  ·rw [if_neg c5] at H
   exact absurd H (by simp)
  rw [if_pos c5] at H
  have c5b0 : decide (0 ≤ a2_0) = true := decide_eq_true c5
  clear c5
  by_cases c6 : a2_0 < (l1.length : Int)
  rotate_left
  ·rw [if_neg c6] at H
   exact absurd H (by simp)
  rw [if_pos c6] at H
  have c6b0 : decide (a2_0 < (l1.length : Int)) = true := decide_eq_true c6
  clear c6
  obtain rfl := Option.some.inj H
  go_enter Try.func113, Try.ntmps113
  go_wp2_with (first | ((with_reducible refine gate_dst (N := 3) rfl ?_); refine box_event ?hg (N := 3) ?hd (cs := #[.int .i64 a0_0, .bool a0_1, .slice A0_2 l0_2.length c0_2]) (t := 24) ?hr ?_; (case hd => rfl); (case hg => rfl); (case hr => first | (go_simp; done) | (go_simp; rfl)); intro gb588 hg w7 hbox hb; have n0_ := Aside0.mk (below_step (by repeat (first | (with_reducible first | exact HB.out | apply below_alloc | apply pw_below_drewN | apply below_drew1) | exact HB.out)) hb); have n1_ := Aside0.mk (hbox); have n2_ := Aside0.mk ((by rw [hg]; exact (below_size (by repeat (first | (with_reducible first | exact HB.out | apply below_alloc | apply pw_below_drewN | apply below_drew1) | exact HB.out))) : w.heap.size ≤ gb588)); have n3_ := Aside0.mk ((by rw [hg]; exact (below_size (by repeat (first | (with_reducible first | exact HB.out | apply below_alloc | apply pw_below_drewN | apply below_drew1) | exact HB.out))) : w.heap.size ≤ gb588)); clear HB; have HB := n0_; have BK588 := n1_; have GW588 := n2_; have GE588 := n3_; clear n0_ n1_ n2_ n3_; clear hb hbox hg) | ((with_reducible refine gate_dst (N := 5) rfl ?_); refine box_event ?hg (N := 5) ?hd (cs := #[.int .i64 a2_0, .bool true]) (t := 38) ?hr ?_; (case hd => rfl); (case hg => rfl); (case hr => first | (go_simp; done) | (go_simp; rfl)); intro gb589 hg w8 hbox hb; have n0_ := Aside0.mk (blk_below (g := gb588) (o := .cells #[.int .i64 a0_0, .bool a0_1, .slice A0_2 l0_2.length c0_2] 24 (0, 0)) (by (with_reducible repeat (first | refine blk_drewN ?_ _ | refine blk_drew ?_ | refine blk_alloc ?_ _)); exact BK588.out) hb); have n1_ := Aside0.mk (below_step (by repeat (first | (with_reducible first | exact HB.out | apply below_alloc | apply pw_below_drewN | apply below_drew1 | refine below_set ?_ GE588.out) | exact HB.out)) hb); have n2_ := Aside0.mk (hbox); have n3_ := Aside0.mk ((by rw [hg]; exact (below_size (by repeat (first | (with_reducible first | exact HB.out | apply below_alloc | apply pw_below_drewN | apply below_drew1 | refine below_set ?_ GE588.out) | exact HB.out))) : w.heap.size ≤ gb589)); have n4_ := Aside0.mk ((by rw [hg]; exact (below_size (by repeat (first | (with_reducible first | exact HB.out | apply below_alloc | apply pw_below_drewN | apply below_drew1 | refine below_set ?_ GE588.out) | exact HB.out))) : w.heap.size ≤ gb589)); have n5_ := Aside0.mk ((by rw [hg]; exact Nat.ne_of_lt (blk_lt (g := gb588) (o := .cells #[.int .i64 a0_0, .bool a0_1, .slice A0_2 l0_2.length c0_2] 24 (0, 0)) (by (with_reducible repeat (first | refine blk_drewN ?_ _ | refine blk_drew ?_ | refine blk_alloc ?_ _)); exact BK588.out)) : gb588 ≠ gb589)); have n6_ := Aside0.mk ((by rw [hg]; exact Nat.ne_of_gt (blk_lt (g := gb588) (o := .cells #[.int .i64 a0_0, .bool a0_1, .slice A0_2 l0_2.length c0_2] 24 (0, 0)) (by (with_reducible repeat (first | refine blk_drewN ?_ _ | refine blk_drew ?_ | refine blk_alloc ?_ _)); exact BK588.out)) : gb589 ≠ gb588)); clear BK588; clear HB; have BK588 := n0_; have HB := n1_; have BK589 := n2_; have GW589 := n3_; have GE589 := n4_; have NB588_589 := n5_; have NB589_588 := n6_; clear n0_ n1_ n2_ n3_ n4_ n5_ n6_; clear hb hbox hg; have hnb9 := NB589_588.out; have hnc9 := NB588_589.out; have hcz10_0 : w8.cell? ⟨gb589, 0, none⟩ = some (.int .i64 a2_0) := (blk_cell BK589.out 0).trans rfl; have hcz10_1 : w8.cell? ⟨gb589, 1, none⟩ = some (.bool true) := (blk_cell BK589.out 1).trans rfl; have hfz10_0 := blk_frozen BK589.out 0; have hfz10_1 := blk_frozen BK589.out 1; have p590 : 0 ≤ (a2_0 : Int) := of_decide_eq_true (by first | (with_reducible assumption) | assumption); have q590 : a2_0 < (l1.length : Int) := of_decide_eq_true (by first | (with_reducible assumption) | assumption); obtain ⟨ad590, e590, hx590_0⟩ := Kd.at_int HR1.out a2_0 p590 q590; cases e590; replace hx590_0 := (HB.out.cell (World.block_lt_of_cell? w _ hx590_0)).trans hx590_0; replace p590 := eq_true p590; replace q590 := eq_true q590))
  repeat (go_quiet (first | ((with_reducible refine gate_dst (N := 3) rfl ?_); refine box_event ?hg (N := 3) ?hd (cs := #[.int .i64 a0_0, .bool a0_1, .slice A0_2 l0_2.length c0_2]) (t := 24) ?hr ?_; (case hd => rfl); (case hg => rfl); (case hr => first | (go_simp; done) | (go_simp; rfl)); intro gb588 hg w7 hbox hb; have n0_ := Aside0.mk (below_step (by repeat (first | (with_reducible first | exact HB.out | apply below_alloc | apply pw_below_drewN | apply below_drew1) | exact HB.out)) hb); have n1_ := Aside0.mk (hbox); have n2_ := Aside0.mk ((by rw [hg]; exact (below_size (by repeat (first | (with_reducible first | exact HB.out | apply below_alloc | apply pw_below_drewN | apply below_drew1) | exact HB.out))) : w.heap.size ≤ gb588)); have n3_ := Aside0.mk ((by rw [hg]; exact (below_size (by repeat (first | (with_reducible first | exact HB.out | apply below_alloc | apply pw_below_drewN | apply below_drew1) | exact HB.out))) : w.heap.size ≤ gb588)); clear HB; have HB := n0_; have BK588 := n1_; have GW588 := n2_; have GE588 := n3_; clear n0_ n1_ n2_ n3_; clear hb hbox hg) | ((with_reducible refine gate_dst (N := 5) rfl ?_); refine box_event ?hg (N := 5) ?hd (cs := #[.int .i64 a2_0, .bool true]) (t := 38) ?hr ?_; (case hd => rfl); (case hg => rfl); (case hr => first | (go_simp; done) | (go_simp; rfl)); intro gb589 hg w8 hbox hb; have n0_ := Aside0.mk (blk_below (g := gb588) (o := .cells #[.int .i64 a0_0, .bool a0_1, .slice A0_2 l0_2.length c0_2] 24 (0, 0)) (by (with_reducible repeat (first | refine blk_drewN ?_ _ | refine blk_drew ?_ | refine blk_alloc ?_ _)); exact BK588.out) hb); have n1_ := Aside0.mk (below_step (by repeat (first | (with_reducible first | exact HB.out | apply below_alloc | apply pw_below_drewN | apply below_drew1 | refine below_set ?_ GE588.out) | exact HB.out)) hb); have n2_ := Aside0.mk (hbox); have n3_ := Aside0.mk ((by rw [hg]; exact (below_size (by repeat (first | (with_reducible first | exact HB.out | apply below_alloc | apply pw_below_drewN | apply below_drew1 | refine below_set ?_ GE588.out) | exact HB.out))) : w.heap.size ≤ gb589)); have n4_ := Aside0.mk ((by rw [hg]; exact (below_size (by repeat (first | (with_reducible first | exact HB.out | apply below_alloc | apply pw_below_drewN | apply below_drew1 | refine below_set ?_ GE588.out) | exact HB.out))) : w.heap.size ≤ gb589)); have n5_ := Aside0.mk ((by rw [hg]; exact Nat.ne_of_lt (blk_lt (g := gb588) (o := .cells #[.int .i64 a0_0, .bool a0_1, .slice A0_2 l0_2.length c0_2] 24 (0, 0)) (by (with_reducible repeat (first | refine blk_drewN ?_ _ | refine blk_drew ?_ | refine blk_alloc ?_ _)); exact BK588.out)) : gb588 ≠ gb589)); have n6_ := Aside0.mk ((by rw [hg]; exact Nat.ne_of_gt (blk_lt (g := gb588) (o := .cells #[.int .i64 a0_0, .bool a0_1, .slice A0_2 l0_2.length c0_2] 24 (0, 0)) (by (with_reducible repeat (first | refine blk_drewN ?_ _ | refine blk_drew ?_ | refine blk_alloc ?_ _)); exact BK588.out)) : gb589 ≠ gb588)); clear BK588; clear HB; have BK588 := n0_; have HB := n1_; have BK589 := n2_; have GW589 := n3_; have GE589 := n4_; have NB588_589 := n5_; have NB589_588 := n6_; clear n0_ n1_ n2_ n3_ n4_ n5_ n6_; clear hb hbox hg; have hnb9 := NB589_588.out; have hnc9 := NB588_589.out; have hcz10_0 : w8.cell? ⟨gb589, 0, none⟩ = some (.int .i64 a2_0) := (blk_cell BK589.out 0).trans rfl; have hcz10_1 : w8.cell? ⟨gb589, 1, none⟩ = some (.bool true) := (blk_cell BK589.out 1).trans rfl; have hfz10_0 := blk_frozen BK589.out 0; have hfz10_1 := blk_frozen BK589.out 1; have p590 : 0 ≤ (a2_0 : Int) := of_decide_eq_true (by first | (with_reducible assumption) | assumption); have q590 : a2_0 < (l1.length : Int) := of_decide_eq_true (by first | (with_reducible assumption) | assumption); obtain ⟨ad590, e590, hx590_0⟩ := Kd.at_int HR1.out a2_0 p590 q590; cases e590; replace hx590_0 := (HB.out.cell (World.block_lt_of_cell? w _ hx590_0)).trans hx590_0; replace p590 := eq_true p590; replace q590 := eq_true q590)); try go_wp2_with (first | ((with_reducible refine gate_dst (N := 3) rfl ?_); refine box_event ?hg (N := 3) ?hd (cs := #[.int .i64 a0_0, .bool a0_1, .slice A0_2 l0_2.length c0_2]) (t := 24) ?hr ?_; (case hd => rfl); (case hg => rfl); (case hr => first | (go_simp; done) | (go_simp; rfl)); intro gb588 hg w7 hbox hb; have n0_ := Aside0.mk (below_step (by repeat (first | (with_reducible first | exact HB.out | apply below_alloc | apply pw_below_drewN | apply below_drew1) | exact HB.out)) hb); have n1_ := Aside0.mk (hbox); have n2_ := Aside0.mk ((by rw [hg]; exact (below_size (by repeat (first | (with_reducible first | exact HB.out | apply below_alloc | apply pw_below_drewN | apply below_drew1) | exact HB.out))) : w.heap.size ≤ gb588)); have n3_ := Aside0.mk ((by rw [hg]; exact (below_size (by repeat (first | (with_reducible first | exact HB.out | apply below_alloc | apply pw_below_drewN | apply below_drew1) | exact HB.out))) : w.heap.size ≤ gb588)); clear HB; have HB := n0_; have BK588 := n1_; have GW588 := n2_; have GE588 := n3_; clear n0_ n1_ n2_ n3_; clear hb hbox hg) | ((with_reducible refine gate_dst (N := 5) rfl ?_); refine box_event ?hg (N := 5) ?hd (cs := #[.int .i64 a2_0, .bool true]) (t := 38) ?hr ?_; (case hd => rfl); (case hg => rfl); (case hr => first | (go_simp; done) | (go_simp; rfl)); intro gb589 hg w8 hbox hb; have n0_ := Aside0.mk (blk_below (g := gb588) (o := .cells #[.int .i64 a0_0, .bool a0_1, .slice A0_2 l0_2.length c0_2] 24 (0, 0)) (by (with_reducible repeat (first | refine blk_drewN ?_ _ | refine blk_drew ?_ | refine blk_alloc ?_ _)); exact BK588.out) hb); have n1_ := Aside0.mk (below_step (by repeat (first | (with_reducible first | exact HB.out | apply below_alloc | apply pw_below_drewN | apply below_drew1 | refine below_set ?_ GE588.out) | exact HB.out)) hb); have n2_ := Aside0.mk (hbox); have n3_ := Aside0.mk ((by rw [hg]; exact (below_size (by repeat (first | (with_reducible first | exact HB.out | apply below_alloc | apply pw_below_drewN | apply below_drew1 | refine below_set ?_ GE588.out) | exact HB.out))) : w.heap.size ≤ gb589)); have n4_ := Aside0.mk ((by rw [hg]; exact (below_size (by repeat (first | (with_reducible first | exact HB.out | apply below_alloc | apply pw_below_drewN | apply below_drew1 | refine below_set ?_ GE588.out) | exact HB.out))) : w.heap.size ≤ gb589)); have n5_ := Aside0.mk ((by rw [hg]; exact Nat.ne_of_lt (blk_lt (g := gb588) (o := .cells #[.int .i64 a0_0, .bool a0_1, .slice A0_2 l0_2.length c0_2] 24 (0, 0)) (by (with_reducible repeat (first | refine blk_drewN ?_ _ | refine blk_drew ?_ | refine blk_alloc ?_ _)); exact BK588.out)) : gb588 ≠ gb589)); have n6_ := Aside0.mk ((by rw [hg]; exact Nat.ne_of_gt (blk_lt (g := gb588) (o := .cells #[.int .i64 a0_0, .bool a0_1, .slice A0_2 l0_2.length c0_2] 24 (0, 0)) (by (with_reducible repeat (first | refine blk_drewN ?_ _ | refine blk_drew ?_ | refine blk_alloc ?_ _)); exact BK588.out)) : gb589 ≠ gb588)); clear BK588; clear HB; have BK588 := n0_; have HB := n1_; have BK589 := n2_; have GW589 := n3_; have GE589 := n4_; have NB588_589 := n5_; have NB589_588 := n6_; clear n0_ n1_ n2_ n3_ n4_ n5_ n6_; clear hb hbox hg; have hnb9 := NB589_588.out; have hnc9 := NB588_589.out; have hcz10_0 : w8.cell? ⟨gb589, 0, none⟩ = some (.int .i64 a2_0) := (blk_cell BK589.out 0).trans rfl; have hcz10_1 : w8.cell? ⟨gb589, 1, none⟩ = some (.bool true) := (blk_cell BK589.out 1).trans rfl; have hfz10_0 := blk_frozen BK589.out 0; have hfz10_1 := blk_frozen BK589.out 1; have p590 : 0 ≤ (a2_0 : Int) := of_decide_eq_true (by first | (with_reducible assumption) | assumption); have q590 : a2_0 < (l1.length : Int) := of_decide_eq_true (by first | (with_reducible assumption) | assumption); obtain ⟨ad590, e590, hx590_0⟩ := Kd.at_int HR1.out a2_0 p590 q590; cases e590; replace hx590_0 := (HB.out.cell (World.block_lt_of_cell? w _ hx590_0)).trans hx590_0; replace p590 := eq_true p590; replace q590 := eq_true q590)))
  go_ret
  exact ⟨by first | rfl | (simp [errW_none, errW_some] <;> rfl) | (simp [*, errW_none, errW_some] <;> rfl), by repeat (first | (with_reducible first | exact HB.out | apply below_alloc | apply pw_below_drewN | apply below_drew1 | refine below_set ?_ GE588.out | refine below_set ?_ GE589.out) | exact HB.out)⟩
 replace c4 := Bool.eq_false_iff.mpr c4
 subst c4
 have H1 : (if 0 ≤ a2_0 then (if a2_0 < (l0_2.length : Int) then (if a2_0 < (l1.length : Int) then (some (wrap64 (((rd_T74 l0_2 a2_0).f2) - (rd l1 a2_0)))) else (none)) else (none)) else (none)) = some r := by rw [if_neg (show ¬ (false = true) by decide)] at H; exact H
 clear H
 have H := H1
 clear H1
 by_cases c11 : 0 ≤ a2_0
 rotate_left
 ·rw [if_neg c11] at H
  exact absurd H (by simp)
 rw [if_pos c11] at H
 have c11b0 : decide (0 ≤ a2_0) = true := decide_eq_true c11
 clear c11
 by_cases c12 : a2_0 < (l0_2.length : Int)
 rotate_left
 ·rw [if_neg c12] at H
  exact absurd H (by simp)
 rw [if_pos c12] at H
 have c12b0 : decide (a2_0 < (l0_2.length : Int)) = true := decide_eq_true c12
 clear c12
 by_cases c13 : a2_0 < (l1.length : Int)
 rotate_left
 ·rw [if_neg c13] at H
  exact absurd H (by simp)
 rw [if_pos c13] at H
 have c13b0 : decide (a2_0 < (l1.length : Int)) = true := decide_eq_true c13
 clear c13
 obtain rfl := Option.some.inj H
 go_enter Try.func113, Try.ntmps113
 go_wp2_with (first | ((with_reducible refine gate_dst (N := 3) rfl ?_); refine box_event ?hg (N := 3) ?hd (cs := #[.int .i64 a0_0, .bool a0_1, .slice A0_2 l0_2.length c0_2]) (t := 24) ?hr ?_; (case hd => rfl); (case hg => rfl); (case hr => first | (go_simp; done) | (go_simp; rfl)); intro gb588 hg w14 hbox hb; have n0_ := Aside0.mk (below_step (by repeat (first | (with_reducible first | exact HB.out | apply below_alloc | apply pw_below_drewN | apply below_drew1) | exact HB.out)) hb); have n1_ := Aside0.mk (hbox); have n2_ := Aside0.mk ((by rw [hg]; exact (below_size (by repeat (first | (with_reducible first | exact HB.out | apply below_alloc | apply pw_below_drewN | apply below_drew1) | exact HB.out))) : w.heap.size ≤ gb588)); have n3_ := Aside0.mk ((by rw [hg]; exact (below_size (by repeat (first | (with_reducible first | exact HB.out | apply below_alloc | apply pw_below_drewN | apply below_drew1) | exact HB.out))) : w.heap.size ≤ gb588)); clear HB; have HB := n0_; have BK588 := n1_; have GW588 := n2_; have GE588 := n3_; clear n0_ n1_ n2_ n3_; clear hb hbox hg) | ((with_reducible refine gate_dst (N := 5) rfl ?_); refine box_event ?hg (N := 5) ?hd (cs := #[.int .i64 a2_0, .bool false]) (t := 38) ?hr ?_; (case hd => rfl); (case hg => rfl); (case hr => first | (go_simp; done) | (go_simp; rfl)); intro gb589 hg w15 hbox hb; have n0_ := Aside0.mk (blk_below (g := gb588) (o := .cells #[.int .i64 a0_0, .bool a0_1, .slice A0_2 l0_2.length c0_2] 24 (0, 0)) (by (with_reducible repeat (first | refine blk_drewN ?_ _ | refine blk_drew ?_ | refine blk_alloc ?_ _)); exact BK588.out) hb); have n1_ := Aside0.mk (below_step (by repeat (first | (with_reducible first | exact HB.out | apply below_alloc | apply pw_below_drewN | apply below_drew1 | refine below_set ?_ GE588.out) | exact HB.out)) hb); have n2_ := Aside0.mk (hbox); have n3_ := Aside0.mk ((by rw [hg]; exact (below_size (by repeat (first | (with_reducible first | exact HB.out | apply below_alloc | apply pw_below_drewN | apply below_drew1 | refine below_set ?_ GE588.out) | exact HB.out))) : w.heap.size ≤ gb589)); have n4_ := Aside0.mk ((by rw [hg]; exact (below_size (by repeat (first | (with_reducible first | exact HB.out | apply below_alloc | apply pw_below_drewN | apply below_drew1 | refine below_set ?_ GE588.out) | exact HB.out))) : w.heap.size ≤ gb589)); have n5_ := Aside0.mk ((by rw [hg]; exact Nat.ne_of_lt (blk_lt (g := gb588) (o := .cells #[.int .i64 a0_0, .bool a0_1, .slice A0_2 l0_2.length c0_2] 24 (0, 0)) (by (with_reducible repeat (first | refine blk_drewN ?_ _ | refine blk_drew ?_ | refine blk_alloc ?_ _)); exact BK588.out)) : gb588 ≠ gb589)); have n6_ := Aside0.mk ((by rw [hg]; exact Nat.ne_of_gt (blk_lt (g := gb588) (o := .cells #[.int .i64 a0_0, .bool a0_1, .slice A0_2 l0_2.length c0_2] 24 (0, 0)) (by (with_reducible repeat (first | refine blk_drewN ?_ _ | refine blk_drew ?_ | refine blk_alloc ?_ _)); exact BK588.out)) : gb589 ≠ gb588)); clear BK588; clear HB; have BK588 := n0_; have HB := n1_; have BK589 := n2_; have GW589 := n3_; have GE589 := n4_; have NB588_589 := n5_; have NB589_588 := n6_; clear n0_ n1_ n2_ n3_ n4_ n5_ n6_; clear hb hbox hg; have hnb16 := NB589_588.out; have hnc16 := NB588_589.out; have hcz17_0 : w15.cell? ⟨gb589, 0, none⟩ = some (.int .i64 a2_0) := (blk_cell BK589.out 0).trans rfl; have hcz17_1 : w15.cell? ⟨gb589, 1, none⟩ = some (.bool false) := (blk_cell BK589.out 1).trans rfl; have hfz17_0 := blk_frozen BK589.out 0; have hfz17_1 := blk_frozen BK589.out 1; have hcz18_0 : w15.cell? ⟨gb588, 0, none⟩ = some (.int .i64 a0_0) := (blk_cell BK588.out 0).trans rfl; have hcz18_1 : w15.cell? ⟨gb588, 1, none⟩ = some (.bool a0_1) := (blk_cell BK588.out 1).trans rfl; have hcz18_2 : w15.cell? ⟨gb588, 2, none⟩ = some (.slice A0_2 l0_2.length c0_2) := (blk_cell BK588.out 2).trans rfl; have hfz18_0 := blk_frozen BK588.out 0; have hfz18_1 := blk_frozen BK588.out 1; have hfz18_2 := blk_frozen BK588.out 2; have p591 : 0 ≤ (a2_0 : Int) := of_decide_eq_true (by first | (with_reducible assumption) | assumption); have q591 : a2_0 < (l0_2.length : Int) := of_decide_eq_true (by first | (with_reducible assumption) | assumption); obtain ⟨ad591, e591, hx591_0, hx591_1, hx591_2, hx591_3⟩ := at_T74 HR0_2.out a2_0 p591 q591; cases e591; replace hx591_0 := (HB.out.cell (World.block_lt_of_cell? w _ hx591_0)).trans hx591_0; replace hx591_1 := (HB.out.cell (World.block_lt_of_cell? w _ hx591_1)).trans hx591_1; replace hx591_2 := (HB.out.cell (World.block_lt_of_cell? w _ hx591_2)).trans hx591_2; replace hx591_3 := (HB.out.cell (World.block_lt_of_cell? w _ hx591_3)).trans hx591_3; replace p591 := eq_true p591; replace q591 := eq_true q591; have p592 : 0 ≤ (a2_0 : Int) := of_decide_eq_true (by first | (with_reducible assumption) | assumption); have q592 : a2_0 < (l1.length : Int) := of_decide_eq_true (by first | (with_reducible assumption) | assumption); obtain ⟨ad592, e592, hx592_0⟩ := Kd.at_int HR1.out a2_0 p592 q592; cases e592; replace hx592_0 := (HB.out.cell (World.block_lt_of_cell? w _ hx592_0)).trans hx592_0; replace p592 := eq_true p592; replace q592 := eq_true q592))
 repeat (go_quiet (first | ((with_reducible refine gate_dst (N := 3) rfl ?_); refine box_event ?hg (N := 3) ?hd (cs := #[.int .i64 a0_0, .bool a0_1, .slice A0_2 l0_2.length c0_2]) (t := 24) ?hr ?_; (case hd => rfl); (case hg => rfl); (case hr => first | (go_simp; done) | (go_simp; rfl)); intro gb588 hg w14 hbox hb; have n0_ := Aside0.mk (below_step (by repeat (first | (with_reducible first | exact HB.out | apply below_alloc | apply pw_below_drewN | apply below_drew1) | exact HB.out)) hb); have n1_ := Aside0.mk (hbox); have n2_ := Aside0.mk ((by rw [hg]; exact (below_size (by repeat (first | (with_reducible first | exact HB.out | apply below_alloc | apply pw_below_drewN | apply below_drew1) | exact HB.out))) : w.heap.size ≤ gb588)); have n3_ := Aside0.mk ((by rw [hg]; exact (below_size (by repeat (first | (with_reducible first | exact HB.out | apply below_alloc | apply pw_below_drewN | apply below_drew1) | exact HB.out))) : w.heap.size ≤ gb588)); clear HB; have HB := n0_; have BK588 := n1_; have GW588 := n2_; have GE588 := n3_; clear n0_ n1_ n2_ n3_; clear hb hbox hg) | ((with_reducible refine gate_dst (N := 5) rfl ?_); refine box_event ?hg (N := 5) ?hd (cs := #[.int .i64 a2_0, .bool false]) (t := 38) ?hr ?_; (case hd => rfl); (case hg => rfl); (case hr => first | (go_simp; done) | (go_simp; rfl)); intro gb589 hg w15 hbox hb; have n0_ := Aside0.mk (blk_below (g := gb588) (o := .cells #[.int .i64 a0_0, .bool a0_1, .slice A0_2 l0_2.length c0_2] 24 (0, 0)) (by (with_reducible repeat (first | refine blk_drewN ?_ _ | refine blk_drew ?_ | refine blk_alloc ?_ _)); exact BK588.out) hb); have n1_ := Aside0.mk (below_step (by repeat (first | (with_reducible first | exact HB.out | apply below_alloc | apply pw_below_drewN | apply below_drew1 | refine below_set ?_ GE588.out) | exact HB.out)) hb); have n2_ := Aside0.mk (hbox); have n3_ := Aside0.mk ((by rw [hg]; exact (below_size (by repeat (first | (with_reducible first | exact HB.out | apply below_alloc | apply pw_below_drewN | apply below_drew1 | refine below_set ?_ GE588.out) | exact HB.out))) : w.heap.size ≤ gb589)); have n4_ := Aside0.mk ((by rw [hg]; exact (below_size (by repeat (first | (with_reducible first | exact HB.out | apply below_alloc | apply pw_below_drewN | apply below_drew1 | refine below_set ?_ GE588.out) | exact HB.out))) : w.heap.size ≤ gb589)); have n5_ := Aside0.mk ((by rw [hg]; exact Nat.ne_of_lt (blk_lt (g := gb588) (o := .cells #[.int .i64 a0_0, .bool a0_1, .slice A0_2 l0_2.length c0_2] 24 (0, 0)) (by (with_reducible repeat (first | refine blk_drewN ?_ _ | refine blk_drew ?_ | refine blk_alloc ?_ _)); exact BK588.out)) : gb588 ≠ gb589)); have n6_ := Aside0.mk ((by rw [hg]; exact Nat.ne_of_gt (blk_lt (g := gb588) (o := .cells #[.int .i64 a0_0, .bool a0_1, .slice A0_2 l0_2.length c0_2] 24 (0, 0)) (by (with_reducible repeat (first | refine blk_drewN ?_ _ | refine blk_drew ?_ | refine blk_alloc ?_ _)); exact BK588.out)) : gb589 ≠ gb588)); clear BK588; clear HB; have BK588 := n0_; have HB := n1_; have BK589 := n2_; have GW589 := n3_; have GE589 := n4_; have NB588_589 := n5_; have NB589_588 := n6_; clear n0_ n1_ n2_ n3_ n4_ n5_ n6_; clear hb hbox hg; have hnb16 := NB589_588.out; have hnc16 := NB588_589.out; have hcz17_0 : w15.cell? ⟨gb589, 0, none⟩ = some (.int .i64 a2_0) := (blk_cell BK589.out 0).trans rfl; have hcz17_1 : w15.cell? ⟨gb589, 1, none⟩ = some (.bool false) := (blk_cell BK589.out 1).trans rfl; have hfz17_0 := blk_frozen BK589.out 0; have hfz17_1 := blk_frozen BK589.out 1; have hcz18_0 : w15.cell? ⟨gb588, 0, none⟩ = some (.int .i64 a0_0) := (blk_cell BK588.out 0).trans rfl; have hcz18_1 : w15.cell? ⟨gb588, 1, none⟩ = some (.bool a0_1) := (blk_cell BK588.out 1).trans rfl; have hcz18_2 : w15.cell? ⟨gb588, 2, none⟩ = some (.slice A0_2 l0_2.length c0_2) := (blk_cell BK588.out 2).trans rfl; have hfz18_0 := blk_frozen BK588.out 0; have hfz18_1 := blk_frozen BK588.out 1; have hfz18_2 := blk_frozen BK588.out 2; have p591 : 0 ≤ (a2_0 : Int) := of_decide_eq_true (by first | (with_reducible assumption) | assumption); have q591 : a2_0 < (l0_2.length : Int) := of_decide_eq_true (by first | (with_reducible assumption) | assumption); obtain ⟨ad591, e591, hx591_0, hx591_1, hx591_2, hx591_3⟩ := at_T74 HR0_2.out a2_0 p591 q591; cases e591; replace hx591_0 := (HB.out.cell (World.block_lt_of_cell? w _ hx591_0)).trans hx591_0; replace hx591_1 := (HB.out.cell (World.block_lt_of_cell? w _ hx591_1)).trans hx591_1; replace hx591_2 := (HB.out.cell (World.block_lt_of_cell? w _ hx591_2)).trans hx591_2; replace hx591_3 := (HB.out.cell (World.block_lt_of_cell? w _ hx591_3)).trans hx591_3; replace p591 := eq_true p591; replace q591 := eq_true q591; have p592 : 0 ≤ (a2_0 : Int) := of_decide_eq_true (by first | (with_reducible assumption) | assumption); have q592 : a2_0 < (l1.length : Int) := of_decide_eq_true (by first | (with_reducible assumption) | assumption); obtain ⟨ad592, e592, hx592_0⟩ := Kd.at_int HR1.out a2_0 p592 q592; cases e592; replace hx592_0 := (HB.out.cell (World.block_lt_of_cell? w _ hx592_0)).trans hx592_0; replace p592 := eq_true p592; replace q592 := eq_true q592)); try go_wp2_with (first | ((with_reducible refine gate_dst (N := 3) rfl ?_); refine box_event ?hg (N := 3) ?hd (cs := #[.int .i64 a0_0, .bool a0_1, .slice A0_2 l0_2.length c0_2]) (t := 24) ?hr ?_; (case hd => rfl); (case hg => rfl); (case hr => first | (go_simp; done) | (go_simp; rfl)); intro gb588 hg w14 hbox hb; have n0_ := Aside0.mk (below_step (by repeat (first | (with_reducible first | exact HB.out | apply below_alloc | apply pw_below_drewN | apply below_drew1) | exact HB.out)) hb); have n1_ := Aside0.mk (hbox); have n2_ := Aside0.mk ((by rw [hg]; exact (below_size (by repeat (first | (with_reducible first | exact HB.out | apply below_alloc | apply pw_below_drewN | apply below_drew1) | exact HB.out))) : w.heap.size ≤ gb588)); have n3_ := Aside0.mk ((by rw [hg]; exact (below_size (by repeat (first | (with_reducible first | exact HB.out | apply below_alloc | apply pw_below_drewN | apply below_drew1) | exact HB.out))) : w.heap.size ≤ gb588)); clear HB; have HB := n0_; have BK588 := n1_; have GW588 := n2_; have GE588 := n3_; clear n0_ n1_ n2_ n3_; clear hb hbox hg) | ((with_reducible refine gate_dst (N := 5) rfl ?_); refine box_event ?hg (N := 5) ?hd (cs := #[.int .i64 a2_0, .bool false]) (t := 38) ?hr ?_; (case hd => rfl); (case hg => rfl); (case hr => first | (go_simp; done) | (go_simp; rfl)); intro gb589 hg w15 hbox hb; have n0_ := Aside0.mk (blk_below (g := gb588) (o := .cells #[.int .i64 a0_0, .bool a0_1, .slice A0_2 l0_2.length c0_2] 24 (0, 0)) (by (with_reducible repeat (first | refine blk_drewN ?_ _ | refine blk_drew ?_ | refine blk_alloc ?_ _)); exact BK588.out) hb); have n1_ := Aside0.mk (below_step (by repeat (first | (with_reducible first | exact HB.out | apply below_alloc | apply pw_below_drewN | apply below_drew1 | refine below_set ?_ GE588.out) | exact HB.out)) hb); have n2_ := Aside0.mk (hbox); have n3_ := Aside0.mk ((by rw [hg]; exact (below_size (by repeat (first | (with_reducible first | exact HB.out | apply below_alloc | apply pw_below_drewN | apply below_drew1 | refine below_set ?_ GE588.out) | exact HB.out))) : w.heap.size ≤ gb589)); have n4_ := Aside0.mk ((by rw [hg]; exact (below_size (by repeat (first | (with_reducible first | exact HB.out | apply below_alloc | apply pw_below_drewN | apply below_drew1 | refine below_set ?_ GE588.out) | exact HB.out))) : w.heap.size ≤ gb589)); have n5_ := Aside0.mk ((by rw [hg]; exact Nat.ne_of_lt (blk_lt (g := gb588) (o := .cells #[.int .i64 a0_0, .bool a0_1, .slice A0_2 l0_2.length c0_2] 24 (0, 0)) (by (with_reducible repeat (first | refine blk_drewN ?_ _ | refine blk_drew ?_ | refine blk_alloc ?_ _)); exact BK588.out)) : gb588 ≠ gb589)); have n6_ := Aside0.mk ((by rw [hg]; exact Nat.ne_of_gt (blk_lt (g := gb588) (o := .cells #[.int .i64 a0_0, .bool a0_1, .slice A0_2 l0_2.length c0_2] 24 (0, 0)) (by (with_reducible repeat (first | refine blk_drewN ?_ _ | refine blk_drew ?_ | refine blk_alloc ?_ _)); exact BK588.out)) : gb589 ≠ gb588)); clear BK588; clear HB; have BK588 := n0_; have HB := n1_; have BK589 := n2_; have GW589 := n3_; have GE589 := n4_; have NB588_589 := n5_; have NB589_588 := n6_; clear n0_ n1_ n2_ n3_ n4_ n5_ n6_; clear hb hbox hg; have hnb16 := NB589_588.out; have hnc16 := NB588_589.out; have hcz17_0 : w15.cell? ⟨gb589, 0, none⟩ = some (.int .i64 a2_0) := (blk_cell BK589.out 0).trans rfl; have hcz17_1 : w15.cell? ⟨gb589, 1, none⟩ = some (.bool false) := (blk_cell BK589.out 1).trans rfl; have hfz17_0 := blk_frozen BK589.out 0; have hfz17_1 := blk_frozen BK589.out 1; have hcz18_0 : w15.cell? ⟨gb588, 0, none⟩ = some (.int .i64 a0_0) := (blk_cell BK588.out 0).trans rfl; have hcz18_1 : w15.cell? ⟨gb588, 1, none⟩ = some (.bool a0_1) := (blk_cell BK588.out 1).trans rfl; have hcz18_2 : w15.cell? ⟨gb588, 2, none⟩ = some (.slice A0_2 l0_2.length c0_2) := (blk_cell BK588.out 2).trans rfl; have hfz18_0 := blk_frozen BK588.out 0; have hfz18_1 := blk_frozen BK588.out 1; have hfz18_2 := blk_frozen BK588.out 2; have p591 : 0 ≤ (a2_0 : Int) := of_decide_eq_true (by first | (with_reducible assumption) | assumption); have q591 : a2_0 < (l0_2.length : Int) := of_decide_eq_true (by first | (with_reducible assumption) | assumption); obtain ⟨ad591, e591, hx591_0, hx591_1, hx591_2, hx591_3⟩ := at_T74 HR0_2.out a2_0 p591 q591; cases e591; replace hx591_0 := (HB.out.cell (World.block_lt_of_cell? w _ hx591_0)).trans hx591_0; replace hx591_1 := (HB.out.cell (World.block_lt_of_cell? w _ hx591_1)).trans hx591_1; replace hx591_2 := (HB.out.cell (World.block_lt_of_cell? w _ hx591_2)).trans hx591_2; replace hx591_3 := (HB.out.cell (World.block_lt_of_cell? w _ hx591_3)).trans hx591_3; replace p591 := eq_true p591; replace q591 := eq_true q591; have p592 : 0 ≤ (a2_0 : Int) := of_decide_eq_true (by first | (with_reducible assumption) | assumption); have q592 : a2_0 < (l1.length : Int) := of_decide_eq_true (by first | (with_reducible assumption) | assumption); obtain ⟨ad592, e592, hx592_0⟩ := Kd.at_int HR1.out a2_0 p592 q592; cases e592; replace hx592_0 := (HB.out.cell (World.block_lt_of_cell? w _ hx592_0)).trans hx592_0; replace p592 := eq_true p592; replace q592 := eq_true q592)))
 go_ret
 exact ⟨by first | rfl | (simp [errW_none, errW_some] <;> rfl) | (simp [*, errW_none, errW_some] <;> rfl), by repeat (first | (with_reducible first | exact HB.out | apply below_alloc | apply pw_below_drewN | apply below_drew1 | refine below_set ?_ GE588.out | refine below_set ?_ GE589.out) | exact HB.out)⟩
end Go.Proofs.Ytkcpanpdipmmmaa.P
namespace Go.Proofs.Ytkcpanpdipmmmaa.P
open Go.RowKit Go.Proofs.YtkcpanpdipmmmaaW.PrintWords Go.Proofs.YtkcpanpdipmmmaaW.PrintLast Go.Proofs.YtkcpanpdipmmmaaW.PrintMore
attribute [local go_sem] max2_int min2_int max_two min_two max_three min_three max_four min_four
def ebbtideref08_Bottle.l0 : Nat → List Int → List (S38) → Int → Int → Int → Bool → List (S74) → Option (Int)
 | 0, _, _, _, _, _, _, _ => none
 | k + 1, x1, x2, x7, x8, x662000, x662001, x662002 => if x8 < (x2.length : Int) then (if 0 ≤ x8 then ((ebbtideref07_Left.f x662000 x662001 x662002 x1 ((rd_T38 x2 x8).f0) ((rd_T38 x2 x8).f1)).bind fun t665 => (ebbtideref08_Bottle.l0 k x1 x2 (mn x7 t665) (wrap64 (x8 + 1)) x662000 x662001 x662002)) else (none)) else (some x7)
def ebbtideref08_Bottle.f (k : Nat) (a0_0 : Int) (a0_1 : Bool) (l0_2 : List (S74)) (l1 : List Int) (l2 : List (S38)) : Option (Int) := if 0 < (l2.length : Int) then ((ebbtideref07_Left.f a0_0 a0_1 l0_2 l1 ((rd_T38 l2 0).f0) ((rd_T38 l2 0).f1)).bind fun t663 => (ebbtideref08_Bottle.l0 k l1 l2 t663 1 a0_0 a0_1 l0_2)) else (none)
def ebbtideref08_Bottle.T5 : Bool × List (List Nat × List Nat) := (true, [([], []), ([], []), ([], []), ([], []), ([], []), ([3, 4], [3, 4]), ([5], [5]), ([1, 2, 6], [1, 2, 6]), ([0, 7], [0, 7]), ([8, 7, 0, 1, 2, 3, 4, 5, 6, 7, 8], [0, 8])])
def ebbtideref08_Bottle.B5 : List Nat := [0, 0, 0, 0, 0, 24, 56, 126, 255, 511]
theorem ebbtideref08_Bottle.tab5 : rtab .any (opsOf Try.f61 5) = ebbtideref08_Bottle.T5 := by kernel_rfl
theorem ebbtideref08_Bottle.bits5 : waitsOk ebbtideref08_Bottle.T5.2 ebbtideref08_Bottle.B5 = true := by kernel_rfl
set_option maxHeartbeats 8000000 in
set_option maxRecDepth 100000 in
theorem ebbtideref08_Bottle.calls (k : Nat) (a0_0 : Int) (a0_1 : Bool) (A0_2 : Option Addr) (c0_2 : Nat) (l0_2 : List (S74)) (A1 : Option Addr) (c1 : Nat) (l1 : List Int) (A2 : Option Addr) (c2 : Nat) (l2 : List (S38)) (r : Int) (w : World) (hr0_2 : Kd.C k74 w A0_2 l0_2.length l0_2) (hc0_2 : l0_2.length ≤ c0_2) (hr1 : Kd.C (Kd.int .i64) w A1 l1.length l1) (hc1 : l1.length ≤ c1) (hr2 : Kd.C k38 w A2 l2.length l2) (hc2 : l2.length ≤ c2) (h : ebbtideref08_Bottle.f k a0_0 a0_1 l0_2 l1 l2 = some r) :
  Calls Try.prog 61 #[.agg #[.int .i64 a0_0, .bool a0_1, .slice A0_2 l0_2.length c0_2], .slice A1 l1.length c1, .slice A2 l2.length c2] w fun e w' => e = .returned (.int .i64 r) ∧ Below w.heap.size w w' := by
 have hu24 := Try.underlying24
 have hu38 := Try.underlying38
 have HR0_2 := Aside0.mk hr0_2
 have HC0_2 := Aside0.mk hc0_2
 clear hr0_2 hc0_2
 have HR1 := Aside0.mk hr1
 have HC1 := Aside0.mk hc1
 clear hr1 hc1
 have HR2 := Aside0.mk hr2
 have HC2 := Aside0.mk hc2
 clear hr2 hc2
 have HB := Aside0.mk (Below.refl w.heap.size w)
 have H : (if 0 < (l2.length : Int) then ((ebbtideref07_Left.f a0_0 a0_1 l0_2 l1 ((rd_T38 l2 0).f0) ((rd_T38 l2 0).f1)).bind fun t663 => (ebbtideref08_Bottle.l0 k l1 l2 t663 1 a0_0 a0_1 l0_2)) else (none)) = some r := h
 clear h
 by_cases c4 : 0 < (l2.length : Int)
 rotate_left
 ·rw [if_neg c4] at H
  exact absurd H (by simp)
 rw [if_pos c4] at H
 have c4b0 : decide (0 < (l2.length : Int)) = true := decide_eq_true c4
 have c4b1 : decide (0 < l2.length) = true := decide_eq_true (by omega)
 clear c4
 replace H := Option.bind_eq_some_iff.mp H
 obtain ⟨t663, A50, H⟩ := H
 replace H : (ebbtideref08_Bottle.l0 k l1 l2 t663 1 a0_0 a0_1 l0_2) = some r := H
 have A5 := Aside0.mk A50
 clear A50
 have H' := Aside0.mk H
 clear H
 go_enter Try.func61, Try.ntmps61
 try go_wp2_with (first | ((with_reducible refine gate_dst (N := 3) rfl ?_); refine box_event ?hg (N := 3) ?hd (cs := #[.int .i64 a0_0, .bool a0_1, .slice A0_2 l0_2.length c0_2]) (t := 24) ?hr ?_; (case hd => rfl); (case hg => rfl); (case hr => first | (go_simp; done) | (go_simp; rfl)); intro gb661 hg w6 hbox hb; have n0_ := Aside0.mk (below_step (by repeat (first | (with_reducible first | exact HB.out | apply below_alloc | apply pw_below_drewN | apply below_drew1) | exact HB.out)) hb); have n1_ := Aside0.mk (hbox); have n2_ := Aside0.mk ((by rw [hg]; exact (below_size (by repeat (first | (with_reducible first | exact HB.out | apply below_alloc | apply pw_below_drewN | apply below_drew1) | exact HB.out))) : w.heap.size ≤ gb661)); have n3_ := Aside0.mk ((by rw [hg]; exact (below_size (by repeat (first | (with_reducible first | exact HB.out | apply below_alloc | apply pw_below_drewN | apply below_drew1) | exact HB.out))) : w.heap.size ≤ gb661)); clear HB; have HB := n0_; have BK661 := n1_; have GW661 := n2_; have GE661 := n3_; clear n0_ n1_ n2_ n3_; clear hb hbox hg))
 have n0_ := Aside0.mk (blk_drew BK661.out)
 have n1_ := Aside0.mk (below_drew1 HB.out)
 clear BK661
 clear HB
 have BK661 := n0_
 have HB := n1_
 clear n0_ n1_
 have p662 : 0 ≤ (0 : Int) := (by omega)
 have q662 : 0 < (l2.length : Int) := of_decide_eq_true (by first | (with_reducible assumption) | assumption)
 obtain ⟨ad662, e662, hx662_0, hx662_1⟩ := at_T38 HR2.out 0 p662 q662
 have hw662_1 := hx662_1
 (try rw [show ((0 : Int)).toNat = 0 from rfl] at hw662_1)
 (try rw [show 0 * 2 = 0 from rfl] at hw662_1)
 (try rw [Addr.add_zero'] at hw662_1)
 have hw662_0 := hx662_0
 (try rw [show ((0 : Int)).toNat = 0 from rfl] at hw662_0)
 (try rw [show 0 * 2 = 0 from rfl] at hw662_0)
 (try rw [Addr.add_zero'] at hw662_0)
 cases e662
 have qi662 : (0 < l2.length) = True := eq_true (by omega)
 (try rw [show ((0 : Int)).toNat = 0 from rfl] at hx662_0)
 (try rw [show 0 * 2 = 0 from rfl] at hx662_0)
 (try rw [Addr.add_zero'] at hx662_0)
 (try rw [show ((0 : Int)).toNat = 0 from rfl] at hx662_1)
 (try rw [show 0 * 2 = 0 from rfl] at hx662_1)
 (try rw [Addr.add_zero'] at hx662_1)
 replace hx662_0 := (HB.out.cell (World.block_lt_of_cell? w _ hx662_0)).trans hx662_0
 replace hx662_1 := (HB.out.cell (World.block_lt_of_cell? w _ hx662_1)).trans hx662_1
 replace p662 := eq_true p662
 replace q662 := eq_true q662
 refine start_ (n := 7) (S := fun w' => w'.cell? ⟨gb661, 0, none⟩ = some (.int .i64 a0_0) ∧ w'.cell? ⟨gb661, 1, none⟩ = some (.bool a0_1) ∧ w'.cell? ⟨gb661, 2, none⟩ = some (.slice A0_2 l0_2.length c0_2) ∧ w'.cell? ad662 = some (.int .i64 ((rd_T38 l2 0).f0)) ∧ w'.cell? ⟨ad662.block, ad662.off + 1, none⟩ = some (.bool ((rd_T38 l2 0).f1))) (ds := []) #[false, false, false, false, false, false, false] (by kernel_rfl) rfl rfl ⟨(blk_cell BK661.out 0).trans rfl, (blk_cell BK661.out 1).trans rfl, (blk_cell BK661.out 2).trans rfl, ((HB.out.cell (World.block_lt_of_cell? w _ hw662_0)).trans hw662_0), ((HB.out.cell (World.block_lt_of_cell? w _ hw662_1)).trans hw662_1)⟩ (fun hHeld => ?_)
 generalize w6.drew = w7 at BK661 HB hx662_0 hx662_1 hHeld ⊢
 refine pure_ (i := 1) (N := some 10) (v := ?_) (a' := ?_) #[false, true, false, false, false, false, false] rfl rfl (by kernel_rfl) (fun _ _ _ h => h) (Or.inl ⟨by rfl, ?_⟩) ?_ ?_
 rotate_left
 ·intro w'
  go_simp
  with_reducible rfl
 rotate_left
 ·simp only [Act.put, List.setIfInBounds_toArray, List.set_cons_zero, List.set_cons_succ, i64_w, i32_w]
  rfl
 refine pure_ (i := 2) (N := some 11) (v := ?_) (a' := ?_) #[false, true, true, false, false, false, false] rfl rfl (by kernel_rfl) (fun _ _ _ h => h) (Or.inl ⟨by rfl, ?_⟩) ?_ ?_
 rotate_left
 ·intro w'
  go_simp
  with_reducible rfl
 rotate_left
 ·simp only [Act.put, List.setIfInBounds_toArray, List.set_cons_zero, List.set_cons_succ, i64_w, i32_w]
  rfl
 refine pure_ (i := 3) (N := some 12) (v := ?_) (a' := ?_) #[false, true, true, true, false, false, false] rfl rfl (by kernel_rfl) (fun _ _ _ h => h) (Or.inl ⟨by rfl, ?_⟩) ?_ ?_
 rotate_left
 ·intro w'
  go_simp
  with_reducible rfl
 rotate_left
 ·simp only [Act.put, List.setIfInBounds_toArray, List.set_cons_zero, List.set_cons_succ, i64_w, i32_w]
  rfl
 refine take_ (i := 0) (N := some 9) (v := ?_) (a' := ?_) #[true, true, true, true, false, false, false] rfl rfl (by kernel_rfl) (fun _ _ _ h => h) (Or.inl ⟨by rfl, ?_⟩) hHeld ?_ ?_
 rotate_left
 ·rintro w' ⟨s0, s1, s2, s3, s4⟩
  go_simp
  with_reducible rfl
 rotate_left
 ·simp only [Act.put, List.setIfInBounds_toArray, List.set_cons_zero, List.set_cons_succ, i64_w, i32_w]
  rfl
 refine take_ (i := 4) (N := some 13) (v := ?_) (a' := ?_) #[true, true, true, true, true, false, false] rfl rfl (by kernel_rfl) (fun _ _ _ h => h) (Or.inl ⟨by rfl, ?_⟩) hHeld ?_ ?_
 rotate_left
 ·rintro w' ⟨s0, s1, s2, s3, s4⟩
  go_simp
  with_reducible rfl
 rotate_left
 ·simp only [Act.put, List.setIfInBounds_toArray, List.set_cons_zero, List.set_cons_succ, i64_w, i32_w]
  rfl
 refine one_ (i := 5) (N := some 14) #[true, true, true, true, true, true, false] rfl rfl (by kernel_rfl) (by decide) (fun K hK => ?_)
 refine goes_ Try.func113 (by kernel_rfl) rfl #[.agg #[.int .i64 a0_0, .bool a0_1, .slice A0_2 l0_2.length c0_2], .slice A1 l1.length c1, .agg #[.int .i64 ((rd_T38 l2 0).f0), .bool ((rd_T38 l2 0).f1)]] (by rfl) rfl rfl (by (try simp only [List.map_toArray, List.map_cons, List.map_nil]); first | done | rfl | (simp only [List.length_drop, List.length_take]; rfl)) ?_
 with_reducible refine (ebbtideref07_Left.calls a0_0 a0_1 _ _ l0_2 _ _ l1 ((rd_T38 l2 0).f0) ((rd_T38 l2 0).f1) t663 _ ?side1 ?side2 ?side3 ?side4 A5.out).mono ?_
 (case side1 => repeat (first | exact (Kd.C_below HR0_2.out HB.out) | (with_reducible refine Kd.C_alloc ?_ _) | (with_reducible refine Kd.C_drewN ?_ _) | (with_reducible refine Kd.C_drew ?_)))
 (case side2 => exact HC0_2.out)
 (case side3 => repeat (first | exact (Kd.C_below HR1.out HB.out) | (with_reducible refine Kd.C_alloc ?_ _) | (with_reducible refine Kd.C_drewN ?_ _) | (with_reducible refine Kd.C_drew ?_)))
 (case side4 => exact HC1.out)
 rintro e w8 ⟨rfl, hb⟩
 refine ⟨_, rfl, ?_⟩
 have n0_ := Aside0.mk (blk_below (g := gb661) (o := .cells #[.int .i64 a0_0, .bool a0_1, .slice A0_2 l0_2.length c0_2] 24 (0, 0)) (by (with_reducible repeat (first | refine blk_drewN ?_ _ | refine blk_drew ?_ | refine blk_alloc ?_ _)); exact BK661.out) hb)
 have n1_ := Aside0.mk (below_step (by repeat (first | (with_reducible first | exact HB.out | apply below_alloc | apply pw_below_drewN | apply below_drew1 | refine below_set ?_ GE661.out) | exact HB.out)) hb)
 clear BK661
 clear HB
 have BK661 := n0_
 have HB := n1_
 clear n0_ n1_
 (try clear hb)
 (try clear hb2)
 (try clear hk)
 (try clear hi)
 refine hK.out _ _ ⟨(blk_cell BK661.out 0).trans rfl, (blk_cell BK661.out 1).trans rfl, (blk_cell BK661.out 2).trans rfl, ((HB.out.cell (World.block_lt_of_cell? w _ hw662_0)).trans hw662_0), ((HB.out.cell (World.block_lt_of_cell? w _ hw662_1)).trans hw662_1)⟩ (fun hHeld => ?_)
 clear hK K
 refine norm_ (a' := ?_) ?_ ?_
 rotate_left
 ·show Act.put _ (some 14) _ = _
  simp only [Act.put, List.setIfInBounds_toArray, List.set_cons_zero, List.set_cons_succ, i64_w, i32_w]
  rfl
 refine pure_ (i := 6) (N := some 7) (v := ?_) (a' := ?_) #[true, true, true, true, true, true, true] rfl rfl (by kernel_rfl) (fun _ _ _ h => h) (Or.inl ⟨by rfl, ?_⟩) ?_ ?_
 rotate_left
 ·intro w'
  go_simp
  with_reducible rfl
 rotate_left
 ·simp only [Act.put, List.setIfInBounds_toArray, List.set_cons_zero, List.set_cons_succ, i64_w, i32_w]
  rfl
 refine done_ (by kernel_rfl) ?_
 try go_wp2
 go_loopg [7, 8] k (fun kq v7 v8 w' => ∃ (x7_1 : Int) (x8_1 : Int), v7 = .int .i64 x7_1 ∧ v8 = .int .i64 x8_1 ∧ Aside0 (ebbtideref08_Bottle.l0 kq l1 l2 x7_1 x8_1 a0_0 a0_1 l0_2 = some r) ∧ Aside0 (kq ≤ k) ∧ Aside0 (w'.heap[gb661]? = some (.cells #[.int .i64 a0_0, .bool a0_1, (.slice A0_2 l0_2.length c0_2)] 24 (0, 0))) ∧ Aside0 (Below w.heap.size w w'))
 case atStart => exact ⟨(t663), (1), (by first | rfl | (simp; done) | (simp [*]; done)), (by first | rfl | (simp; done) | (simp [*]; done)), H', ⟨Nat.le_refl _⟩, ⟨by (with_reducible repeat (first | refine blk_drewN ?_ _ | refine blk_drew ?_ | refine blk_alloc ?_ _)); exact BK661.out⟩, ⟨by repeat (first | (with_reducible first | exact HB.out | apply below_alloc | apply pw_below_drewN | apply below_drew1 | refine below_set ?_ GE661.out) | exact HB.out)⟩⟩
 case round =>
  clear H'
  try clear c1
  try clear c2
  try clear p2
  try clear c4
  try clear c4b0
  try clear c4b1
  try clear c6
  try clear p6
  try clear q6
  try clear hx6
  try clear qi6
  try clear hx662_0
  try clear hx662_1
  try clear p662
  try clear q662
  obtain ⟨x7_1, x8_1, rfl, rfl, HA, HK1, BK661, HB⟩ := hrel
  cases gk with
  | zero => exact absurd HA.out (by simp [ebbtideref08_Bottle.l0])
  | succ k1 =>
   have H := HA.out
   clear HA
   simp only [ebbtideref08_Bottle.l0] at H
   by_cases c9 : x8_1 < (l2.length : Int)
   rotate_left
   ·rw [if_neg c9] at H
    have c9b0 : decide (x8_1 < (l2.length : Int)) = false := decide_eq_false c9
    clear c9
    obtain rfl := Option.some.inj H
    go_wp2
    go_ret
    exact ⟨by first | rfl | (simp [errW_none, errW_some] <;> rfl) | (simp [*, errW_none, errW_some] <;> rfl), by repeat (first | (with_reducible first | exact HB.out | apply below_alloc | apply pw_below_drewN | apply below_drew1 | refine below_set ?_ GE661.out) | exact HB.out)⟩
   rw [if_pos c9] at H
   have c9b0 : decide (x8_1 < (l2.length : Int)) = true := decide_eq_true c9
   clear c9
   by_cases c10 : 0 ≤ x8_1
   rotate_left
   ·rw [if_neg c10] at H
    exact absurd H (by simp)
   rw [if_pos c10] at H
   have c10b0 : decide (0 ≤ x8_1) = true := decide_eq_true c10
   clear c10
   replace H := Option.bind_eq_some_iff.mp H
   obtain ⟨t665, A110, H⟩ := H
   replace H : (ebbtideref08_Bottle.l0 k1 l1 l2 (mn x7_1 t665) (wrap64 (x8_1 + 1)) a0_0 a0_1 l0_2) = some r := H
   have A11 := Aside0.mk A110
   clear A110
   obtain ⟨ji12, hji12⟩ : ∃ j_ : Int, (mn x7_1 t665) = j_ := ⟨_, rfl⟩
   replace H : (ebbtideref08_Bottle.l0 k1 l1 l2 ji12 (wrap64 (x8_1 + 1)) a0_0 a0_1 l0_2) = some r := by first | (rw [hji12] at H; exact H) | (simp only [hji12] at H ⊢; exact H)
   (try rw [hji12] at A11)
   have hji12_ : (if t665 < x7_1 then t665 else x7_1) = ji12 := hji12
   have H' := Aside0.mk H
   clear H
   try go_wp2
   have n0_ := Aside0.mk (blk_drew BK661.out)
   have n1_ := Aside0.mk (below_drew1 HB.out)
   clear BK661
   clear HB
   have BK661 := n0_
   have HB := n1_
   clear n0_ n1_
   have p664 : 0 ≤ (x8_1 : Int) := of_decide_eq_true (by first | (with_reducible assumption) | assumption)
   have q664 : x8_1 < (l2.length : Int) := of_decide_eq_true (by first | (with_reducible assumption) | assumption)
   obtain ⟨ad664, e664, hx664_0, hx664_1⟩ := at_T38 HR2.out x8_1 p664 q664
   have hw664_1 := hx664_1
   have hw664_0 := hx664_0
   obtain rfl : ad662 = ad664 := (by injection e664)
   replace hx664_0 := (HB.out.cell (World.block_lt_of_cell? w _ hx664_0)).trans hx664_0
   replace hx664_1 := (HB.out.cell (World.block_lt_of_cell? w _ hx664_1)).trans hx664_1
   replace p664 := eq_true p664
   replace q664 := eq_true q664
   refine start_ (n := 10) (S := fun w' => w'.cell? ⟨gb661, 0, none⟩ = some (.int .i64 a0_0) ∧ w'.cell? ⟨gb661, 1, none⟩ = some (.bool a0_1) ∧ w'.cell? ⟨gb661, 2, none⟩ = some (.slice A0_2 l0_2.length c0_2) ∧ w'.cell? (ad662.add ((x8_1).toNat * 2)) = some (.int .i64 ((rd_T38 l2 x8_1).f0)) ∧ w'.cell? ⟨(ad662.add ((x8_1).toNat * 2)).block, (ad662.add ((x8_1).toNat * 2)).off + 1, none⟩ = some (.bool ((rd_T38 l2 x8_1).f1))) (ds := []) #[false, false, false, false, false, false, false, false, false, false] (by kernel_rfl) rfl rfl ⟨(blk_cell BK661.out 0).trans rfl, (blk_cell BK661.out 1).trans rfl, (blk_cell BK661.out 2).trans rfl, ((HB.out.cell (World.block_lt_of_cell? w _ hw664_0)).trans hw664_0), ((HB.out.cell (World.block_lt_of_cell? w _ hw664_1)).trans hw664_1)⟩ (fun hHeld => ?_); refine with_tabW ebbtideref08_Bottle.tab5 ebbtideref08_Bottle.bits5 (fun HT_ HW_ => ?_)
   generalize wr.drew = w13 at BK661 HB hx664_0 hx664_1 hHeld ⊢
   refine pure_ (i := 0) (N := some 21) (v := ?_) (a' := ?_) #[true, false, false, false, false, false, false, false, false, false] rfl rfl (any_of HT_.out (by kernel_rfl)) (fun _ _ _ h => h) (Or.inl ⟨by rfl, ?_⟩) ?_ ?_
   rotate_left
   ·intro w'
    go_simp
    with_reducible rfl
   rotate_left
   ·simp only [Act.put, List.setIfInBounds_toArray, List.set_cons_zero, List.set_cons_succ, i64_w, i32_w]
    rfl
   refine pure_ (i := 2) (N := some 23) (v := ?_) (a' := ?_) #[true, false, true, false, false, false, false, false, false, false] rfl rfl (any_of HT_.out (by kernel_rfl)) (fun _ _ _ h => h) (Or.inl ⟨by rfl, ?_⟩) ?_ ?_
   rotate_left
   ·intro w'
    go_simp
    with_reducible rfl
   rotate_left
   ·simp only [Act.put, List.setIfInBounds_toArray, List.set_cons_zero, List.set_cons_succ, i64_w, i32_w]
    rfl
   refine pure_ (i := 3) (N := some 24) (v := ?_) (a' := ?_) #[true, false, true, true, false, false, false, false, false, false] rfl rfl (any_of HT_.out (by kernel_rfl)) (fun _ _ _ h => h) (Or.inl ⟨by rfl, ?_⟩) ?_ ?_
   rotate_left
   ·intro w'
    go_simp
    with_reducible rfl
   rotate_left
   ·simp only [Act.put, List.setIfInBounds_toArray, List.set_cons_zero, List.set_cons_succ, i64_w, i32_w]
    rfl
   refine pure_ (i := 4) (N := some 25) (v := ?_) (a' := ?_) #[true, false, true, true, true, false, false, false, false, false] rfl rfl (any_of HT_.out (by kernel_rfl)) (fun _ _ _ h => h) (Or.inl ⟨by rfl, ?_⟩) ?_ ?_
   rotate_left
   ·intro w'
    go_simp
    with_reducible rfl
   rotate_left
   ·simp only [Act.put, List.setIfInBounds_toArray, List.set_cons_zero, List.set_cons_succ, i64_w, i32_w]
    rfl
   refine pure_ (i := 5) (N := some 26) (v := ?_) (a' := ?_) #[true, false, true, true, true, true, false, false, false, false] rfl rfl (any_of HT_.out (by kernel_rfl)) (fun _ _ _ h => h) (Or.inl ⟨by rfl, ?_⟩) ?_ ?_
   rotate_left
   ·intro w'
    go_simp
    with_reducible rfl
   rotate_left
   ·simp only [Act.put, List.setIfInBounds_toArray, List.set_cons_zero, List.set_cons_succ, i64_w, i32_w]
    rfl
   refine take_ (i := 1) (N := some 22) (v := ?_) (a' := ?_) #[true, true, true, true, true, true, false, false, false, false] rfl rfl (take_ofW HT_.out HW_.out (by kernel_rfl)) (fun _ _ _ h => h) (Or.inl ⟨by rfl, ?_⟩) hHeld ?_ ?_
   rotate_left
   ·rintro w' ⟨s0, s1, s2, s3, s4⟩
    go_simp
    with_reducible rfl
   rotate_left
   ·simp only [Act.put, List.setIfInBounds_toArray, List.set_cons_zero, List.set_cons_succ, i64_w, i32_w]
    rfl
   refine take_ (i := 6) (N := some 27) (v := ?_) (a' := ?_) #[true, true, true, true, true, true, true, false, false, false] rfl rfl (take_ofW HT_.out HW_.out (by kernel_rfl)) (fun _ _ _ h => h) (Or.inl ⟨by rfl, ?_⟩) hHeld ?_ ?_
   rotate_left
   ·rintro w' ⟨s0, s1, s2, s3, s4⟩
    go_simp
    with_reducible rfl
   rotate_left
   ·simp only [Act.put, List.setIfInBounds_toArray, List.set_cons_zero, List.set_cons_succ, i64_w, i32_w]
    rfl
   refine one_ (i := 7) (N := some 28) #[true, true, true, true, true, true, true, true, false, false] rfl rfl (one_of HT_.out (by kernel_rfl)) (by decide) (fun K hK => ?_)
   refine goes_ Try.func113 (by kernel_rfl) rfl #[.agg #[.int .i64 a0_0, .bool a0_1, .slice A0_2 l0_2.length c0_2], .slice A1 l1.length c1, .agg #[.int .i64 ((rd_T38 l2 x8_1).f0), .bool ((rd_T38 l2 x8_1).f1)]] (by rfl) rfl rfl (by (try simp only [List.map_toArray, List.map_cons, List.map_nil]); first | done | rfl | (simp only [List.length_drop, List.length_take]; rfl)) ?_
   with_reducible refine (ebbtideref07_Left.calls a0_0 a0_1 _ _ l0_2 _ _ l1 ((rd_T38 l2 x8_1).f0) ((rd_T38 l2 x8_1).f1) t665 _ ?side1 ?side2 ?side3 ?side4 A11.out).mono ?_
   (case side1 => repeat (first | exact (Kd.C_below HR0_2.out HB.out) | (with_reducible refine Kd.C_alloc ?_ _) | (with_reducible refine Kd.C_drewN ?_ _) | (with_reducible refine Kd.C_drew ?_)))
   (case side2 => exact HC0_2.out)
   (case side3 => repeat (first | exact (Kd.C_below HR1.out HB.out) | (with_reducible refine Kd.C_alloc ?_ _) | (with_reducible refine Kd.C_drewN ?_ _) | (with_reducible refine Kd.C_drew ?_)))
   (case side4 => exact HC1.out)
   rintro e w14 ⟨rfl, hb⟩
   refine ⟨_, rfl, ?_⟩
   have n0_ := Aside0.mk (blk_below (g := gb661) (o := .cells #[.int .i64 a0_0, .bool a0_1, .slice A0_2 l0_2.length c0_2] 24 (0, 0)) (by (with_reducible repeat (first | refine blk_drewN ?_ _ | refine blk_drew ?_ | refine blk_alloc ?_ _)); exact BK661.out) hb)
   have n1_ := Aside0.mk (below_step (by repeat (first | (with_reducible first | exact HB.out | apply below_alloc | apply pw_below_drewN | apply below_drew1 | refine below_set ?_ GE661.out) | exact HB.out)) hb)
   clear BK661
   clear HB
   have BK661 := n0_
   have HB := n1_
   clear n0_ n1_
   (try clear hb)
   (try clear hb2)
   (try clear hk)
   (try clear hi)
   refine hK.out _ _ ⟨(blk_cell BK661.out 0).trans rfl, (blk_cell BK661.out 1).trans rfl, (blk_cell BK661.out 2).trans rfl, ((HB.out.cell (World.block_lt_of_cell? w _ hw664_0)).trans hw664_0), ((HB.out.cell (World.block_lt_of_cell? w _ hw664_1)).trans hw664_1)⟩ (fun hHeld => ?_)
   clear hK K
   refine norm_ (a' := ?_) ?_ ?_
   rotate_left
   ·show Act.put _ (some 28) _ = _
    simp only [Act.put, List.setIfInBounds_toArray, List.set_cons_zero, List.set_cons_succ, i64_w, i32_w]
    rfl
   refine pure_ (i := 8) (N := some 29) (v := ?_) (a' := ?_) #[true, true, true, true, true, true, true, true, true, false] rfl rfl (any_of HT_.out (by kernel_rfl)) (fun _ _ _ h => h) (Or.inl ⟨by rfl, ?_⟩) ?_ ?_
   rotate_left
   ·intro w'
    go_simp
    with_reducible rfl
   rotate_left
   ·simp only [Act.put, List.setIfInBounds_toArray, List.set_cons_zero, List.set_cons_succ, i64_w, i32_w]
    rfl
   refine pure_ (i := 9) (N := some 7) (v := ?_) (a' := ?_) #[true, true, true, true, true, true, true, true, true, true] rfl rfl (any_of HT_.out (by kernel_rfl)) (fun _ _ _ h => h) (Or.inl ⟨by rfl, ?_⟩) ?_ ?_
   rotate_left
   ·intro w'
    go_simp
    with_reducible rfl
   rotate_left
   ·simp only [Act.put, List.setIfInBounds_toArray, List.set_cons_zero, List.set_cons_succ, i64_w, i32_w]
    rfl
   refine done_ (done_of HT_.out (by kernel_rfl)) ?_
   try go_wp2
   go_roundg k1
   case measure => have := HK1.out; omega
   case rel => exact ⟨(ji12), (wrap64 (x8_1 + 1)), (by first | rfl | (simp; done) | (simp only [← hji12] <;> (first | rfl | simp)) | (simp [*]; done)), (by first | rfl | (simp; done) | (simp [*]; done)), H', ⟨by have := HK1.out; omega⟩, ⟨by (with_reducible repeat (first | refine blk_drewN ?_ _ | refine blk_drew ?_ | refine blk_alloc ?_ _)); exact BK661.out⟩, ⟨by repeat (first | (with_reducible first | exact HB.out | apply below_alloc | apply pw_below_drewN | apply below_drew1 | refine below_set ?_ GE661.out) | exact HB.out)⟩⟩
end Go.Proofs.Ytkcpanpdipmmmaa.P
namespace Go.Proofs.Ytkcpanpdipmmmaa.P
open Go.RowKit Go.Proofs.YtkcpanpdipmmmaaW.PrintWords Go.Proofs.YtkcpanpdipmmmaaW.PrintLast Go.Proofs.YtkcpanpdipmmmaaW.PrintMore
attribute [local go_sem] max2_int min2_int max_two min_two max_three min_three max_four min_four
mutual
def ebbtideref07_Push.l0 : Nat → List Int → List (S38) → Int → List Int → Int → Int → Bool → List (S74) → Option (List Int × Int)
 | 0, _, _, _, _, _, _, _, _ => none
 | k + 1, x1, x2, x3, x11, x12, x667000, x667001, x667002 => if x12 < (x2.length : Int) then (if 0 ≤ x12 then (if ((rd_T38 x2 x12).f0) < 0 then (ebbtideref07_Push.j1 k x1 x2 x3 x11 x12 true x667000 x667001 x667002) else (ebbtideref07_Push.j1 k x1 x2 x3 x11 x12 (decide (((rd_T38 x2 x12).f0) ≥ (x1.length : Int))) x667000 x667001 x667002)) else (none)) else (some (x11, 0))
def ebbtideref07_Push.j1 : Nat → List Int → List (S38) → Int → List Int → Int → Bool → Int → Bool → List (S74) → Option (List Int × Int)
 | 0, _, _, _, _, _, _, _, _, _ => none
 | k + 1, x1, x2, x3, x11, x12, x45, x667000, x667001, x667002 => if x45 = true then (some (([] : List Int), 1)) else (if 0 ≤ x12 then (if x12 < (x2.length : Int) then ((ebbtideref07_Left.f x667000 x667001 x667002 x11 ((rd_T38 x2 x12).f0) ((rd_T38 x2 x12).f1)).bind fun t674 => (if t674 < x3 then (some (([] : List Int), 71)) else (if (rd_T38 x2 x12).f1 = true then (if 0 ≤ ((rd_T38 x2 x12).f0) then (if ((rd_T38 x2 x12).f0) < (x11.length : Int) then (ebbtideref07_Push.l0 k x1 x2 x3 (x11.set (((rd_T38 x2 x12).f0) : Int).toNat (wrap64 ((rd x11 ((rd_T38 x2 x12).f0)) - x3))) (wrap64 (x12 + 1)) x667000 x667001 x667002) else (none)) else (none)) else (if 0 ≤ ((rd_T38 x2 x12).f0) then (if ((rd_T38 x2 x12).f0) < (x11.length : Int) then (ebbtideref07_Push.l0 k x1 x2 x3 (x11.set (((rd_T38 x2 x12).f0) : Int).toNat (wrap64 ((rd x11 ((rd_T38 x2 x12).f0)) + x3))) (wrap64 (x12 + 1)) x667000 x667001 x667002) else (none)) else (none))))) else (none)) else (none))
end
def ebbtideref07_Push.f (k : Nat) (a0_0 : Int) (a0_1 : Bool) (l0_2 : List (S74)) (l1 : List Int) (l2 : List (S38)) (a3 : Int) : Option (List Int × Int) := (ebbtideref07_Asked.f k a0_0 a0_1 l0_2 l1).bind fun t667 => (if t667 = 0 then (if a3 < 0 then (some (([] : List Int), 1)) else (if ([] : List Int).length + l1.length < 17592186044416 then (ebbtideref07_Push.l0 k l1 l2 a3 (([] : List Int) ++ l1) 0 a0_0 a0_1 l0_2) else (none))) else (some (([] : List Int), t667)))
def ebbtideref07_Push.T13 : Bool × List (List Nat × List Nat) := (true, [([], []), ([], []), ([], []), ([], []), ([2, 3], [2, 3]), ([4], [4]), ([0, 1, 5], [0, 1, 5]), ([], []), ([6, 7], [6, 7])])
def ebbtideref07_Push.B13 : List Nat := [0, 0, 0, 0, 12, 28, 63, 0, 255]
theorem ebbtideref07_Push.tab13 : rtab .any (opsOf Try.f62 13) = ebbtideref07_Push.T13 := by kernel_rfl
theorem ebbtideref07_Push.bits13 : waitsOk ebbtideref07_Push.T13.2 ebbtideref07_Push.B13 = true := by kernel_rfl
def ebbtideref07_Push.T16 : Bool × List (List Nat × List Nat) := (true, [([], []), ([], []), ([], []), ([1, 2], [1, 2]), ([3], [3]), ([4], [4]), ([], []), ([], []), ([], []), ([7, 8], [7, 8]), ([9], [9]), ([10], [10]), ([6, 11], [6, 11]), ([12], [12]), ([], []), ([13, 14], [13, 14]), ([0, 5, 0, 1, 2, 3, 4, 5, 6, 7, 8, 9, 10, 11, 12, 13, 14, 15], [0, 5]), ([16, 15, 0, 1, 2, 3, 4, 5, 6, 7, 8, 9, 10, 11, 12, 13, 14, 15], [15, 16])])
def ebbtideref07_Push.B16 : List Nat := [0, 0, 0, 6, 14, 30, 0, 0, 0, 384, 896, 1920, 4032, 8128, 0, 32704, 65535, 131071]
theorem ebbtideref07_Push.tab16 : rtab .any (opsOf Try.f62 16) = ebbtideref07_Push.T16 := by kernel_rfl
theorem ebbtideref07_Push.bits16 : waitsOk ebbtideref07_Push.T16.2 ebbtideref07_Push.B16 = true := by kernel_rfl
def ebbtideref07_Push.T17 : Bool × List (List Nat × List Nat) := (true, [([], []), ([], []), ([], []), ([1, 2], [1, 2]), ([3], [3]), ([4], [4]), ([], []), ([], []), ([], []), ([7, 8], [7, 8]), ([9], [9]), ([10], [10]), ([6, 11], [6, 11]), ([12], [12]), ([], []), ([13, 14], [13, 14]), ([0, 5, 0, 1, 2, 3, 4, 5, 6, 7, 8, 9, 10, 11, 12, 13, 14, 15], [0, 5]), ([16, 15, 0, 1, 2, 3, 4, 5, 6, 7, 8, 9, 10, 11, 12, 13, 14, 15], [15, 16])])
def ebbtideref07_Push.B17 : List Nat := [0, 0, 0, 6, 14, 30, 0, 0, 0, 384, 896, 1920, 4032, 8128, 0, 32704, 65535, 131071]
theorem ebbtideref07_Push.tab17 : rtab .any (opsOf Try.f62 17) = ebbtideref07_Push.T17 := by kernel_rfl
theorem ebbtideref07_Push.bits17 : waitsOk ebbtideref07_Push.T17.2 ebbtideref07_Push.B17 = true := by kernel_rfl
set_option maxHeartbeats 8000000 in
set_option maxRecDepth 100000 in
theorem ebbtideref07_Push.calls (k : Nat) (a0_0 : Int) (a0_1 : Bool) (A0_2 : Option Addr) (c0_2 : Nat) (l0_2 : List (S74)) (A1 : Option Addr) (c1 : Nat) (l1 : List Int) (A2 : Option Addr) (c2 : Nat) (l2 : List (S38)) (a3 : Int) (r1 : List Int) (r2 : Int) (w : World) (hr0_2 : Kd.C k74 w A0_2 l0_2.length l0_2) (hc0_2 : l0_2.length ≤ c0_2) (hr1 : Kd.C (Kd.int .i64) w A1 l1.length l1) (hc1 : l1.length ≤ c1) (hr2 : Kd.C k38 w A2 l2.length l2) (hc2 : l2.length ≤ c2) (h : ebbtideref07_Push.f k a0_0 a0_1 l0_2 l1 l2 a3 = some (r1, r2)) :
  Calls Try.prog 62 #[.agg #[.int .i64 a0_0, .bool a0_1, .slice A0_2 l0_2.length c0_2], .slice A1 l1.length c1, .slice A2 l2.length c2, .int .i64 a3] w fun e w' => ∃ v0_ : Value, e = .returned (.tuple #[v0_, .int .i64 r2]) ∧ Kd.R (Kd.int .i64) 3 w' w.heap.size (fun _ => True) v0_ r1 ∧ Below w.heap.size w w' := by
 have hu24 := Try.underlying24
 have hu38 := Try.underlying38
 have HR0_2 := Aside0.mk hr0_2
 have HC0_2 := Aside0.mk hc0_2
 clear hr0_2 hc0_2
 have HR1 := Aside0.mk hr1
 have HC1 := Aside0.mk hc1
 clear hr1 hc1
 have HR2 := Aside0.mk hr2
 have HC2 := Aside0.mk hc2
 clear hr2 hc2
 have HB := Aside0.mk (Below.refl w.heap.size w)
 have H : ((ebbtideref07_Asked.f k a0_0 a0_1 l0_2 l1).bind fun t667 => (if t667 = 0 then (if a3 < 0 then (some (([] : List Int), 1)) else (if ([] : List Int).length + l1.length < 17592186044416 then (ebbtideref07_Push.l0 k l1 l2 a3 (([] : List Int) ++ l1) 0 a0_0 a0_1 l0_2) else (none))) else (some (([] : List Int), t667)))) = some (r1, r2) := h
 clear h
 replace H := Option.bind_eq_some_iff.mp H
 obtain ⟨t667, A50, H⟩ := H
 replace H : (if t667 = 0 then (if a3 < 0 then (some (([] : List Int), 1)) else (if ([] : List Int).length + l1.length < 17592186044416 then (ebbtideref07_Push.l0 k l1 l2 a3 (([] : List Int) ++ l1) 0 a0_0 a0_1 l0_2) else (none))) else (some (([] : List Int), t667))) = some (r1, r2) := H
 have A5 := Aside0.mk A50
 clear A50
 by_cases c6 : t667 = 0
 rotate_left
 ·rw [if_neg c6] at H
  have c6b0 : (t667 == 0) = false := beq_eq_false_iff_ne.mpr c6
  have c6b1 : (t667 != 0) = true := bne_iff_ne.mpr c6
  simp only [Option.some.injEq, Prod.mk.injEq] at H
  obtain ⟨rfl, rfl⟩ := H
  go_enter Try.func62, Try.ntmps62
  go_wp2_with (first | ((with_reducible refine gate_dst (N := 4) rfl ?_); (try (refine gate_guard (by rfl) ?_; dsimp only)); refine box_event ?hg (N := 4) ?hd (cs := #[.int .i64 a0_0, .bool a0_1, .slice A0_2 l0_2.length c0_2]) (t := 24) ?hr ?_; (case hd => rfl); (case hg => rfl); (case hr => first | (go_simp; done) | (go_simp; rfl)); intro gb666 hg w46 hbox hb; have n0_ := Aside0.mk (below_step (by repeat (first | (with_reducible first | exact HB.out | apply below_alloc | apply pw_below_drewN | apply below_drew1) | exact HB.out)) hb); have n1_ := Aside0.mk (hbox); have n2_ := Aside0.mk ((by rw [hg]; exact (below_size (by repeat (first | (with_reducible first | exact HB.out | apply below_alloc | apply pw_below_drewN | apply below_drew1) | exact HB.out))) : w.heap.size ≤ gb666)); have n3_ := Aside0.mk ((by rw [hg]; exact (below_size (by repeat (first | (with_reducible first | exact HB.out | apply below_alloc | apply pw_below_drewN | apply below_drew1) | exact HB.out))) : w.heap.size ≤ gb666)); clear HB; have HB := n0_; have BK666 := n1_; have GW666 := n2_; have GE666 := n3_; clear n0_ n1_ n2_ n3_; clear hb hbox hg; have hcz47_0 : w46.cell? ⟨gb666, 0, none⟩ = some (.int .i64 a0_0) := (blk_cell BK666.out 0).trans rfl; have hcz47_1 : w46.cell? ⟨gb666, 1, none⟩ = some (.bool a0_1) := (blk_cell BK666.out 1).trans rfl; have hcz47_2 : w46.cell? ⟨gb666, 2, none⟩ = some (.slice A0_2 l0_2.length c0_2) := (blk_cell BK666.out 2).trans rfl; have hfz47_0 := blk_frozen BK666.out 0; have hfz47_1 := blk_frozen BK666.out 1; have hfz47_2 := blk_frozen BK666.out 2) | ((with_reducible refine gate_callee (f := 98) rfl ?_); refine goesL_ (some 15) rfl rfl Try.func98 (by kernel_rfl) rfl #[.agg #[.int .i64 a0_0, .bool a0_1, .slice A0_2 l0_2.length c0_2], .slice A1 l1.length c1] rfl (by (try simp only [List.map_toArray, List.map_cons, List.map_nil]); first | done | rfl | (simp only [List.length_drop, List.length_take]; rfl)) ?_; (with_reducible refine (ebbtideref07_Asked.calls k a0_0 a0_1 _ _ l0_2 _ _ l1 t667 _ ?side1 ?side2 ?side3 ?side4 (by first | exact A5.out | (have h_ := A5.out; rw [← Nbq28.out] at h_; exact h_))).mono ?_); (case side1 => repeat (first | exact (Kd.C_below HR0_2.out HB.out) | (with_reducible refine Kd.C_alloc ?_ _) | (with_reducible refine Kd.C_drewN ?_ _) | (with_reducible refine Kd.C_drew ?_))); (case side2 => exact HC0_2.out); (case side3 => repeat (first | exact (Kd.C_below HR1.out HB.out) | (with_reducible refine Kd.C_alloc ?_ _) | (with_reducible refine Kd.C_drewN ?_ _) | (with_reducible refine Kd.C_drew ?_))); (case side4 => exact HC1.out); rintro e w48 ⟨rfl, hb⟩; refine ⟨_, rfl, ?_⟩; have n0_ := Aside0.mk (blk_below (g := gb666) (o := .cells #[.int .i64 a0_0, .bool a0_1, .slice A0_2 l0_2.length c0_2] 24 (0, 0)) (by (with_reducible repeat (first | refine blk_drewN ?_ _ | refine blk_drew ?_ | refine blk_alloc ?_ _)); exact BK666.out) hb); have n1_ := Aside0.mk (below_step (by repeat (first | (with_reducible first | exact HB.out | apply below_alloc | apply pw_below_drewN | apply below_drew1 | refine below_set ?_ GE666.out) | exact HB.out)) hb); clear BK666; clear HB; have BK666 := n0_; have HB := n1_; clear n0_ n1_; (try clear hb); (try clear hb2); (try clear hk); (try clear hi)))
  go_ret2
  exact ⟨_, by first | rfl | (simp [errW_none, errW_some] <;> rfl) | (simp [*, errW_none, errW_some] <;> rfl), by first | exact Kd.R_nil _ _ _ _ _ | exact Kd.N_nil _ _ _ _ _ | exact Kd.V_nil _ _ _ _ _ | exact Kd.Q_nil _ _ _ _ _ | exact Kd.S_nil _ _ _ _ _, by repeat (first | (with_reducible first | exact HB.out | apply below_alloc | apply pw_below_drewN | apply below_drew1 | refine below_set ?_ GE666.out) | exact HB.out)⟩
 rw [if_pos c6] at H
 have c6b0 : (t667 == 0) = true := beq_iff_eq.mpr c6
 have c6b1 : (t667 != 0) = false := bne_eq_false_iff_eq.mpr c6
 clear c6
 by_cases c7 : a3 < 0
 ·rw [if_pos c7] at H
  have c7b0 : decide (a3 < 0) = true := decide_eq_true c7
  clear c7
  simp only [Option.some.injEq, Prod.mk.injEq] at H
  obtain ⟨rfl, rfl⟩ := H
  go_enter Try.func62, Try.ntmps62
  go_wp2_with (first | ((with_reducible refine gate_dst (N := 4) rfl ?_); (try (refine gate_guard (by rfl) ?_; dsimp only)); refine box_event ?hg (N := 4) ?hd (cs := #[.int .i64 a0_0, .bool a0_1, .slice A0_2 l0_2.length c0_2]) (t := 24) ?hr ?_; (case hd => rfl); (case hg => rfl); (case hr => first | (go_simp; done) | (go_simp; rfl)); intro gb666 hg w8 hbox hb; have n0_ := Aside0.mk (below_step (by repeat (first | (with_reducible first | exact HB.out | apply below_alloc | apply pw_below_drewN | apply below_drew1) | exact HB.out)) hb); have n1_ := Aside0.mk (hbox); have n2_ := Aside0.mk ((by rw [hg]; exact (below_size (by repeat (first | (with_reducible first | exact HB.out | apply below_alloc | apply pw_below_drewN | apply below_drew1) | exact HB.out))) : w.heap.size ≤ gb666)); have n3_ := Aside0.mk ((by rw [hg]; exact (below_size (by repeat (first | (with_reducible first | exact HB.out | apply below_alloc | apply pw_below_drewN | apply below_drew1) | exact HB.out))) : w.heap.size ≤ gb666)); clear HB; have HB := n0_; have BK666 := n1_; have GW666 := n2_; have GE666 := n3_; clear n0_ n1_ n2_ n3_; clear hb hbox hg; have hcz9_0 : w8.cell? ⟨gb666, 0, none⟩ = some (.int .i64 a0_0) := (blk_cell BK666.out 0).trans rfl; have hcz9_1 : w8.cell? ⟨gb666, 1, none⟩ = some (.bool a0_1) := (blk_cell BK666.out 1).trans rfl; have hcz9_2 : w8.cell? ⟨gb666, 2, none⟩ = some (.slice A0_2 l0_2.length c0_2) := (blk_cell BK666.out 2).trans rfl; have hfz9_0 := blk_frozen BK666.out 0; have hfz9_1 := blk_frozen BK666.out 1; have hfz9_2 := blk_frozen BK666.out 2) | ((with_reducible refine gate_callee (f := 98) rfl ?_); refine goesL_ (some 15) rfl rfl Try.func98 (by kernel_rfl) rfl #[.agg #[.int .i64 a0_0, .bool a0_1, .slice A0_2 l0_2.length c0_2], .slice A1 l1.length c1] rfl (by (try simp only [List.map_toArray, List.map_cons, List.map_nil]); first | done | rfl | (simp only [List.length_drop, List.length_take]; rfl)) ?_; (with_reducible refine (ebbtideref07_Asked.calls k a0_0 a0_1 _ _ l0_2 _ _ l1 t667 _ ?side1 ?side2 ?side3 ?side4 A5.out).mono ?_); (case side1 => repeat (first | exact (Kd.C_below HR0_2.out HB.out) | (with_reducible refine Kd.C_alloc ?_ _) | (with_reducible refine Kd.C_drewN ?_ _) | (with_reducible refine Kd.C_drew ?_))); (case side2 => exact HC0_2.out); (case side3 => repeat (first | exact (Kd.C_below HR1.out HB.out) | (with_reducible refine Kd.C_alloc ?_ _) | (with_reducible refine Kd.C_drewN ?_ _) | (with_reducible refine Kd.C_drew ?_))); (case side4 => exact HC1.out); rintro e w10 ⟨rfl, hb⟩; refine ⟨_, rfl, ?_⟩; have n0_ := Aside0.mk (blk_below (g := gb666) (o := .cells #[.int .i64 a0_0, .bool a0_1, .slice A0_2 l0_2.length c0_2] 24 (0, 0)) (by (with_reducible repeat (first | refine blk_drewN ?_ _ | refine blk_drew ?_ | refine blk_alloc ?_ _)); exact BK666.out) hb); have n1_ := Aside0.mk (below_step (by repeat (first | (with_reducible first | exact HB.out | apply below_alloc | apply pw_below_drewN | apply below_drew1 | refine below_set ?_ GE666.out) | exact HB.out)) hb); clear BK666; clear HB; have BK666 := n0_; have HB := n1_; clear n0_ n1_; (try clear hb); (try clear hb2); (try clear hk); (try clear hi)))
  go_ret2
  exact ⟨_, by first | rfl | (simp [errW_none, errW_some] <;> rfl) | (simp [*, errW_none, errW_some] <;> rfl), by first | exact Kd.R_nil _ _ _ _ _ | exact Kd.N_nil _ _ _ _ _ | exact Kd.V_nil _ _ _ _ _ | exact Kd.Q_nil _ _ _ _ _ | exact Kd.S_nil _ _ _ _ _, by repeat (first | (with_reducible first | exact HB.out | apply below_alloc | apply pw_below_drewN | apply below_drew1 | refine below_set ?_ GE666.out) | exact HB.out)⟩
 rw [if_neg c7] at H
 have c7b0 : decide (a3 < 0) = false := decide_eq_false c7
 clear c7
 by_cases c11 : ([] : List Int).length + l1.length < 17592186044416
 rotate_left
 ·rw [if_neg c11] at H
  exact absurd H (by simp)
 rw [if_pos c11] at H
 have LMc11 := Aside0.mk c11
 clear c11
 obtain ⟨y668, hy668⟩ : ∃ y_ : List Int, y_ = (([] : List Int) ++ l1) := ⟨_, rfl⟩
 replace H : (ebbtideref07_Push.l0 k l1 l2 a3 y668 0 a0_0 a0_1 l0_2) = some (r1, r2) := by first | (rw [hy668]; with_reducible exact H) | (have H2_ := (Option.bind_some _ _).symm.trans H; rw [hy668]; with_reducible exact H2_) | (have H2_ := (Option.bind_some _ _).symm.trans H; with_reducible exact H2_) | with_reducible exact H | (rw [hy668]; exact H) | exact H
 have Ny668 := Aside0.mk hy668
 clear hy668
 have H' := Aside0.mk H
 clear H
 go_enter Try.func62, Try.ntmps62
 go_wp2_with (first | ((with_reducible refine gate_dst (N := 4) rfl ?_); (try (refine gate_guard (by rfl) ?_; dsimp only)); refine box_event ?hg (N := 4) ?hd (cs := #[.int .i64 a0_0, .bool a0_1, .slice A0_2 l0_2.length c0_2]) (t := 24) ?hr ?_; (case hd => rfl); (case hg => rfl); (case hr => first | (go_simp; done) | (go_simp; rfl)); intro gb666 hg w12 hbox hb; have n0_ := Aside0.mk (below_step (by repeat (first | (with_reducible first | exact HB.out | apply below_alloc | apply pw_below_drewN | apply below_drew1) | exact HB.out)) hb); have n1_ := Aside0.mk (hbox); have n2_ := Aside0.mk ((by rw [hg]; exact (below_size (by repeat (first | (with_reducible first | exact HB.out | apply below_alloc | apply pw_below_drewN | apply below_drew1) | exact HB.out))) : w.heap.size ≤ gb666)); have n3_ := Aside0.mk ((by rw [hg]; exact (below_size (by repeat (first | (with_reducible first | exact HB.out | apply below_alloc | apply pw_below_drewN | apply below_drew1) | exact HB.out))) : w.heap.size ≤ gb666)); clear HB; have HB := n0_; have BK666 := n1_; have GW666 := n2_; have GE666 := n3_; clear n0_ n1_ n2_ n3_; clear hb hbox hg; have hcz13_0 : w12.cell? ⟨gb666, 0, none⟩ = some (.int .i64 a0_0) := (blk_cell BK666.out 0).trans rfl; have hcz13_1 : w12.cell? ⟨gb666, 1, none⟩ = some (.bool a0_1) := (blk_cell BK666.out 1).trans rfl; have hcz13_2 : w12.cell? ⟨gb666, 2, none⟩ = some (.slice A0_2 l0_2.length c0_2) := (blk_cell BK666.out 2).trans rfl; have hfz13_0 := blk_frozen BK666.out 0; have hfz13_1 := blk_frozen BK666.out 1; have hfz13_2 := blk_frozen BK666.out 2) | ((with_reducible refine gate_callee (f := 98) rfl ?_); refine goesL_ (some 15) rfl rfl Try.func98 (by kernel_rfl) rfl #[.agg #[.int .i64 a0_0, .bool a0_1, .slice A0_2 l0_2.length c0_2], .slice A1 l1.length c1] rfl (by (try simp only [List.map_toArray, List.map_cons, List.map_nil]); first | done | rfl | (simp only [List.length_drop, List.length_take]; rfl)) ?_; (with_reducible refine (ebbtideref07_Asked.calls k a0_0 a0_1 _ _ l0_2 _ _ l1 t667 _ ?side1 ?side2 ?side3 ?side4 A5.out).mono ?_); (case side1 => repeat (first | exact (Kd.C_below HR0_2.out HB.out) | (with_reducible refine Kd.C_alloc ?_ _) | (with_reducible refine Kd.C_drewN ?_ _) | (with_reducible refine Kd.C_drew ?_))); (case side2 => exact HC0_2.out); (case side3 => repeat (first | exact (Kd.C_below HR1.out HB.out) | (with_reducible refine Kd.C_alloc ?_ _) | (with_reducible refine Kd.C_drewN ?_ _) | (with_reducible refine Kd.C_drew ?_))); (case side4 => exact HC1.out); rintro e w14 ⟨rfl, hb⟩; refine ⟨_, rfl, ?_⟩; have n0_ := Aside0.mk (blk_below (g := gb666) (o := .cells #[.int .i64 a0_0, .bool a0_1, .slice A0_2 l0_2.length c0_2] 24 (0, 0)) (by (with_reducible repeat (first | refine blk_drewN ?_ _ | refine blk_drew ?_ | refine blk_alloc ?_ _)); exact BK666.out) hb); have n1_ := Aside0.mk (below_step (by repeat (first | (with_reducible first | exact HB.out | apply below_alloc | apply pw_below_drewN | apply below_drew1 | refine below_set ?_ GE666.out) | exact HB.out)) hb); clear BK666; clear HB; have BK666 := n0_; have HB := n1_; clear n0_ n1_; (try clear hb); (try clear hb2); (try clear hk); (try clear hi)) | ((with_reducible refine gate_builtin (b := .append) (xs := #[.tmp 21, .tmp 22]) rfl ?_); (try (refine gate_guard (by rfl) ?_; dsimp only)); at_builtin; refine Kd.R_append_rows (Kd.int .i64) (w0 := w) w.heap.size rfl (.tmp 21) (.tmp 22) 25 3 (.int .i64 0) 8 rfl Try.underlying25 info3 rfl (by decide) (by omega) (.slice none 0 0) ([] : List Int) l1 _ _ _ (fun _ => True) (fun _ => False) rfl rfl ?aO ?aR (fun _ _ h => h) (fun _ h => h.elim) ?aF ?aB ?aS ?aL ?_; (case aR => repeat (first | exact (Kd.C_below HR1.out HB.out) | (with_reducible refine Kd.C_alloc ?_ _) | (with_reducible refine Kd.C_drewN ?_ _) | (with_reducible refine Kd.C_drew ?_))); (case aB => exact (by repeat (first | (with_reducible first | exact HB.out | apply below_alloc | apply pw_below_drewN | apply below_drew1 | refine below_set ?_ GE666.out) | exact HB.out))); (case aF => exact (fun _ _ => trivial)); (case aO => exact ((Kd.R_nil _ _ _ _ (fun _ => True)))); (case aS => exact (below_size (by repeat (first | (with_reducible first | exact HB.out | apply below_alloc | apply pw_below_drewN | apply below_drew1 | refine below_set ?_ GE666.out) | exact HB.out)))); (case aL => have := LMc11.out; omega); intro v669 w15 ho hb hg hat; rw [← Ny668.out] at ho; have n0_ := Aside0.mk (blk_grown (g := gb666) (o := .cells #[.int .i64 a0_0, .bool a0_1, .slice A0_2 l0_2.length c0_2] 24 (0, 0)) (by (with_reducible repeat (first | refine blk_drewN ?_ _ | refine blk_drew ?_ | refine blk_alloc ?_ _)); exact BK666.out) hg (by simp [Value.ownBlock])); have n1_ := Aside0.mk (hb); have n2_ := Aside0.mk (ho); clear BK666; clear HB; have BK666 := n0_; have HB := n1_; have HO670 := n2_; clear n0_ n1_ n2_; clear ho hb hg hat))
 go_loopg [12] k (fun kq v12 w' => ∃ (x11_1 : List Int) (x12_1 : Int), v12 = .int .i64 x12_1 ∧ Aside0 (ebbtideref07_Push.l0 kq l1 l2 a3 x11_1 x12_1 a0_0 a0_1 l0_2 = some (r1, r2)) ∧ Aside0 (kq ≤ k) ∧ Aside0 (Kd.R (Kd.int .i64) 3 w' w.heap.size (fun _ => True) v669 x11_1) ∧ Aside0 (w'.heap[gb666]? = some (.cells #[.int .i64 a0_0, .bool a0_1, (.slice A0_2 l0_2.length c0_2)] 24 (0, 0))) ∧ Aside0 (Below w.heap.size w w'))
 case atStart => exact ⟨(y668), (0), (by first | rfl | (simp; done) | (simp [*]; done)), H', ⟨Nat.le_refl _⟩, ⟨by (with_reducible repeat (first | apply Kd.R_alloc | apply Kd.R_drewN | apply Kd.R_drew)); exact HO670.out⟩, ⟨by (with_reducible repeat (first | refine blk_drewN ?_ _ | refine blk_drew ?_ | refine blk_alloc ?_ _)); exact BK666.out⟩, ⟨by repeat (first | (with_reducible first | exact HB.out | apply below_alloc | apply pw_below_drewN | apply below_drew1 | refine below_set ?_ GE666.out) | exact HB.out)⟩⟩
 case round =>
  clear H'
  try clear c1
  try clear c2
  try clear p2
  try clear c6
  try clear c6b0
  try clear c6b1
  try clear c7
  try clear c7b0
  try clear c9
  try clear c11
  try clear hcz13_0
  try clear hcz13_1
  try clear hcz13_2
  try clear hcz9_0
  try clear hcz9_1
  try clear hcz9_2
  try clear hfz13_0
  try clear hfz13_1
  try clear hfz13_2
  try clear hfz9_0
  try clear hfz9_1
  try clear hfz9_2
  obtain ⟨x11_1, x12_1, rfl, HA, HK1, HO_11, BK666, HB⟩ := hrel
  cases gk with
  | zero => exact absurd HA.out (by simp [ebbtideref07_Push.l0])
  | succ k1 =>
   have H := HA.out
   clear HA
   simp only [ebbtideref07_Push.l0] at H
   by_cases c16 : x12_1 < (l2.length : Int)
   rotate_left
   ·rw [if_neg c16] at H
    have c16b0 : decide (x12_1 < (l2.length : Int)) = false := decide_eq_false c16
    clear c16
    simp only [Option.some.injEq, Prod.mk.injEq] at H
    obtain ⟨rfl, rfl⟩ := H
    go_wp2
    go_ret2
    exact ⟨_, by first | rfl | (simp [errW_none, errW_some] <;> rfl) | (simp [*, errW_none, errW_some] <;> rfl), by (with_reducible repeat (first | apply Kd.R_alloc | apply Kd.R_drewN | apply Kd.R_drew)); exact HO_11.out, by repeat (first | (with_reducible first | exact HB.out | apply below_alloc | apply pw_below_drewN | apply below_drew1 | refine below_set ?_ GE666.out) | exact HB.out)⟩
   rw [if_pos c16] at H
   have c16b0 : decide (x12_1 < (l2.length : Int)) = true := decide_eq_true c16
   clear c16
   have HC17 := Aside0.mk H
   clear H
   go_upto_region 11 with (fail)
   go_cut [45] (fun v45 wc => ∃ (kq : Nat) (x45_16 : Bool), v45 = .bool x45_16 ∧ Aside0 (ebbtideref07_Push.j1 kq l1 l2 a3 x11_1 x12_1 x45_16 a0_0 a0_1 l0_2 = some (r1, r2)) ∧ Aside0 (kq ≤ k1) ∧ Aside0 (Kd.R (Kd.int .i64) 3 wc w.heap.size (fun _ => True) v669 x11_1) ∧ Aside0 (wc.heap[gb666]? = some (.cells #[.int .i64 a0_0, .bool a0_1, (.slice A0_2 l0_2.length c0_2)] 24 (0, 0))) ∧ Aside0 (Below w.heap.size w wc))
   case first =>
    have H := HC17.out
    clear HC17
    by_cases c18 : 0 ≤ x12_1
    rotate_left
    ·rw [if_neg c18] at H
     exact absurd H (by simp)
    rw [if_pos c18] at H
    have c18b0 : decide (0 ≤ x12_1) = true := decide_eq_true c18
    clear c18
    (first | rw [c18b0] | (simp only [i64_w, i32_w]; rw [c18b0]) | skip)
    by_cases c19 : ((rd_T38 l2 x12_1).f0) < 0
    ·rw [if_pos c19] at H
     have c19b0 : decide (((rd_T38 l2 x12_1).f0) < 0) = true := decide_eq_true c19
     clear c19
     have H' := Aside0.mk H
     clear H
     have p671 : 0 ≤ (x12_1 : Int) := of_decide_eq_true (by first | (with_reducible assumption) | assumption)
     have q671 : x12_1 < (l2.length : Int) := of_decide_eq_true (by first | (with_reducible assumption) | assumption)
     obtain ⟨ad671, e671, hx671_0, hx671_1⟩ := at_T38 HR2.out x12_1 p671 q671
     cases e671
     replace hx671_0 := (HB.out.cell (World.block_lt_of_cell? w _ hx671_0)).trans hx671_0
     replace hx671_1 := (HB.out.cell (World.block_lt_of_cell? w _ hx671_1)).trans hx671_1
     replace p671 := eq_true p671
     replace q671 := eq_true q671
     go_wp2
     go_meet
     case rel => exact ⟨_, (true), (by first | rfl | (simp; done) | (simp [*]; done)), H', ⟨by have := HK1.out; first | omega | exact Nat.le_refl _⟩, ⟨by (with_reducible repeat (first | apply Kd.R_alloc | apply Kd.R_drewN | apply Kd.R_drew)); exact HO_11.out⟩, ⟨by (with_reducible repeat (first | refine blk_drewN ?_ _ | refine blk_drew ?_ | refine blk_alloc ?_ _)); exact BK666.out⟩, ⟨by repeat (first | (with_reducible first | exact HB.out | apply below_alloc | apply pw_below_drewN | apply below_drew1 | refine below_set ?_ GE666.out) | exact HB.out)⟩⟩
    rw [if_neg c19] at H
    have c19b0 : decide (((rd_T38 l2 x12_1).f0) < 0) = false := decide_eq_false c19
    clear c19
    have H' := Aside0.mk H
    clear H
    have p671 : 0 ≤ (x12_1 : Int) := of_decide_eq_true (by first | (with_reducible assumption) | assumption)
    have q671 : x12_1 < (l2.length : Int) := of_decide_eq_true (by first | (with_reducible assumption) | assumption)
    obtain ⟨ad671, e671, hx671_0, hx671_1⟩ := at_T38 HR2.out x12_1 p671 q671
    cases e671
    replace hx671_0 := (HB.out.cell (World.block_lt_of_cell? w _ hx671_0)).trans hx671_0
    replace hx671_1 := (HB.out.cell (World.block_lt_of_cell? w _ hx671_1)).trans hx671_1
    replace p671 := eq_true p671
    replace q671 := eq_true q671
    have p672 : 0 ≤ (x12_1 : Int) := of_decide_eq_true (by first | (with_reducible assumption) | assumption)
    have q672 : x12_1 < (l2.length : Int) := of_decide_eq_true (by first | (with_reducible assumption) | assumption)
    obtain ⟨ad672, e672, hx672_0, hx672_1⟩ := at_T38 HR2.out x12_1 p672 q672
    obtain rfl : ad671 = ad672 := (by injection e672)
    replace hx672_0 := (HB.out.cell (World.block_lt_of_cell? w _ hx672_0)).trans hx672_0
    replace hx672_1 := (HB.out.cell (World.block_lt_of_cell? w _ hx672_1)).trans hx672_1
    replace p672 := eq_true p672
    replace q672 := eq_true q672
    go_wp2
    go_meet
    case rel => exact ⟨_, (decide (((rd_T38 l2 x12_1).f0) ≥ (l1.length : Int))), (by first | rfl | (simp; done) | (simp [*]; done)), H', ⟨by have := HK1.out; first | omega | exact Nat.le_refl _⟩, ⟨by (with_reducible repeat (first | apply Kd.R_alloc | apply Kd.R_drewN | apply Kd.R_drew)); exact HO_11.out⟩, ⟨by (with_reducible repeat (first | refine blk_drewN ?_ _ | refine blk_drew ?_ | refine blk_alloc ?_ _)); exact BK666.out⟩, ⟨by repeat (first | (with_reducible first | exact HB.out | apply below_alloc | apply pw_below_drewN | apply below_drew1 | refine below_set ?_ GE666.out) | exact HB.out)⟩⟩
   case rest =>
    clear HC17
    try clear c1
    try clear c2
    try clear p2
    try clear c6
    try clear c6b0
    try clear c6b1
    try clear p6
    try clear q6
    try clear hx6
    try clear c7
    try clear c7b0
    try clear c9
    try clear c11
    try clear c16
    try clear c16b0
    try clear c18
    try clear c18b0
    try clear c19
    try clear c19b0
    try clear hcz13_0
    try clear hcz13_1
    try clear hcz13_2
    try clear hcz9_0
    try clear hcz9_1
    try clear hcz9_2
    try clear hfz13_0
    try clear hfz13_1
    try clear hfz13_2
    try clear hfz9_0
    try clear hfz9_1
    try clear hfz9_2
    try clear hx671_0
    try clear hx671_1
    try clear hx672_0
    try clear hx672_1
    try clear p2
    try clear p671
    try clear p672
    try clear q671
    try clear q672
    obtain ⟨kq, x45_16, rfl, HA, HJ16, HO_11, BK666, HB⟩ := hcut
    cases kq with
    | zero => exact absurd HA.out (by simp [ebbtideref07_Push.j1])
    | succ kj16 =>
     have H := HA.out
     clear HA
     simp only [ebbtideref07_Push.j1] at H
     by_cases c20 : x45_16 = true
     ·subst c20
      have H1 : (some (([] : List Int), 1)) = some (r1, r2) := by rw [if_pos rfl] at H; exact H
      clear H
      have H := H1
      clear H1
      simp only [Option.some.injEq, Prod.mk.injEq] at H
      obtain ⟨rfl, rfl⟩ := H
      go_wp2
      go_ret2
      exact ⟨_, by first | rfl | (simp [errW_none, errW_some] <;> rfl) | (simp [*, errW_none, errW_some] <;> rfl), by first | exact Kd.R_nil _ _ _ _ _ | exact Kd.N_nil _ _ _ _ _ | exact Kd.V_nil _ _ _ _ _ | exact Kd.Q_nil _ _ _ _ _ | exact Kd.S_nil _ _ _ _ _, by repeat (first | (with_reducible first | exact HB.out | apply below_alloc | apply pw_below_drewN | apply below_drew1 | refine below_set ?_ GE666.out) | exact HB.out)⟩
     replace c20 := Bool.eq_false_iff.mpr c20
     subst c20
     have H1 : (if 0 ≤ x12_1 then (if x12_1 < (l2.length : Int) then ((ebbtideref07_Left.f a0_0 a0_1 l0_2 x11_1 ((rd_T38 l2 x12_1).f0) ((rd_T38 l2 x12_1).f1)).bind fun t674 => (if t674 < a3 then (some (([] : List Int), 71)) else (if (rd_T38 l2 x12_1).f1 = true then (if 0 ≤ ((rd_T38 l2 x12_1).f0) then (if ((rd_T38 l2 x12_1).f0) < (x11_1.length : Int) then (ebbtideref07_Push.l0 kj16 l1 l2 a3 (x11_1.set (((rd_T38 l2 x12_1).f0) : Int).toNat (wrap64 ((rd x11_1 ((rd_T38 l2 x12_1).f0)) - a3))) (wrap64 (x12_1 + 1)) a0_0 a0_1 l0_2) else (none)) else (none)) else (if 0 ≤ ((rd_T38 l2 x12_1).f0) then (if ((rd_T38 l2 x12_1).f0) < (x11_1.length : Int) then (ebbtideref07_Push.l0 kj16 l1 l2 a3 (x11_1.set (((rd_T38 l2 x12_1).f0) : Int).toNat (wrap64 ((rd x11_1 ((rd_T38 l2 x12_1).f0)) + a3))) (wrap64 (x12_1 + 1)) a0_0 a0_1 l0_2) else (none)) else (none))))) else (none)) else (none)) = some (r1, r2) := by rw [if_neg (show ¬ (false = true) by decide)] at H; exact H
     clear H
     have H := H1
     clear H1
     by_cases c21 : 0 ≤ x12_1
     rotate_left
     ·rw [if_neg c21] at H
      exact absurd H (by simp)
     rw [if_pos c21] at H
     have c21b0 : decide (0 ≤ x12_1) = true := decide_eq_true c21
     clear c21
     by_cases c22 : x12_1 < (l2.length : Int)
     rotate_left
     ·rw [if_neg c22] at H
      exact absurd H (by simp)
     rw [if_pos c22] at H
     have c22b0 : decide (x12_1 < (l2.length : Int)) = true := decide_eq_true c22
     clear c22
     replace H := Option.bind_eq_some_iff.mp H
     obtain ⟨t674, A230, H⟩ := H
     replace H : (if t674 < a3 then (some (([] : List Int), 71)) else (if (rd_T38 l2 x12_1).f1 = true then (if 0 ≤ ((rd_T38 l2 x12_1).f0) then (if ((rd_T38 l2 x12_1).f0) < (x11_1.length : Int) then (ebbtideref07_Push.l0 kj16 l1 l2 a3 (x11_1.set (((rd_T38 l2 x12_1).f0) : Int).toNat (wrap64 ((rd x11_1 ((rd_T38 l2 x12_1).f0)) - a3))) (wrap64 (x12_1 + 1)) a0_0 a0_1 l0_2) else (none)) else (none)) else (if 0 ≤ ((rd_T38 l2 x12_1).f0) then (if ((rd_T38 l2 x12_1).f0) < (x11_1.length : Int) then (ebbtideref07_Push.l0 kj16 l1 l2 a3 (x11_1.set (((rd_T38 l2 x12_1).f0) : Int).toNat (wrap64 ((rd x11_1 ((rd_T38 l2 x12_1).f0)) + a3))) (wrap64 (x12_1 + 1)) a0_0 a0_1 l0_2) else (none)) else (none)))) = some (r1, r2) := H
     have A23 := Aside0.mk A230
     clear A230
     by_cases c24 : t674 < a3
     ·rw [if_pos c24] at H
      have c24b0 : decide (t674 < a3) = true := decide_eq_true c24
      clear c24
      simp only [Option.some.injEq, Prod.mk.injEq] at H
      obtain ⟨rfl, rfl⟩ := H
      try go_wp2
      have n0_ := Aside0.mk (Kd.R_drew HO_11.out)
      have n1_ := Aside0.mk (blk_drew BK666.out)
      have n2_ := Aside0.mk (below_drew1 HB.out)
      clear HO_11
      clear BK666
      clear HB
      have HO_11 := n0_
      have BK666 := n1_
      have HB := n2_
      clear n0_ n1_ n2_
      have p673 : 0 ≤ (x12_1 : Int) := of_decide_eq_true (by first | (with_reducible assumption) | assumption)
      have q673 : x12_1 < (l2.length : Int) := of_decide_eq_true (by first | (with_reducible assumption) | assumption)
      obtain ⟨ad673, e673, hx673_0, hx673_1⟩ := at_T38 HR2.out x12_1 p673 q673
      have hw673_1 := hx673_1
      have hw673_0 := hx673_0
      cases e673
      replace hx673_0 := (HB.out.cell (World.block_lt_of_cell? w _ hx673_0)).trans hx673_0
      replace hx673_1 := (HB.out.cell (World.block_lt_of_cell? w _ hx673_1)).trans hx673_1
      replace p673 := eq_true p673
      replace q673 := eq_true q673
      obtain ⟨Ao26, co26, eo26⟩ := Kd.R_slice HO_11.out
      (first | subst eo26 | (injection eo26 with f1_ f2_ f3_; have f4_ := f1_.symm; have f5_ := f3_.symm; clear f1_ f2_ f3_; subst f4_; subst f5_))
      refine start_ (n := 9) (S := fun w' => w'.cell? ⟨gb666, 0, none⟩ = some (.int .i64 a0_0) ∧ w'.cell? ⟨gb666, 1, none⟩ = some (.bool a0_1) ∧ w'.cell? ⟨gb666, 2, none⟩ = some (.slice A0_2 l0_2.length c0_2) ∧ w'.cell? (ad673.add ((x12_1).toNat * 2)) = some (.int .i64 ((rd_T38 l2 x12_1).f0)) ∧ w'.cell? ⟨(ad673.add ((x12_1).toNat * 2)).block, (ad673.add ((x12_1).toNat * 2)).off + 1, none⟩ = some (.bool ((rd_T38 l2 x12_1).f1))) (ds := []) #[false, false, false, false, false, false, false, false, false] (by kernel_rfl) rfl rfl ⟨(blk_cell BK666.out 0).trans rfl, (blk_cell BK666.out 1).trans rfl, (blk_cell BK666.out 2).trans rfl, ((HB.out.cell (World.block_lt_of_cell? w _ hw673_0)).trans hw673_0), ((HB.out.cell (World.block_lt_of_cell? w _ hw673_1)).trans hw673_1)⟩ (fun hHeld => ?_); refine with_tabW ebbtideref07_Push.tab13 ebbtideref07_Push.bits13 (fun HT_ HW_ => ?_)
      generalize wc.drew = w25 at HO_11 BK666 HB hx673_0 hx673_1 hHeld ⊢
      refine pure_ (i := 1) (N := some 47) (v := ?_) (a' := ?_) #[false, true, false, false, false, false, false, false, false] rfl rfl (any_of HT_.out (by kernel_rfl)) (fun _ _ _ h => h) (Or.inl ⟨by rfl, ?_⟩) ?_ ?_
      rotate_left
      ·intro w'
       go_simp
       with_reducible rfl
      rotate_left
      ·simp only [Act.put, List.setIfInBounds_toArray, List.set_cons_zero, List.set_cons_succ, i64_w, i32_w]
       rfl
      refine pure_ (i := 2) (N := some 48) (v := ?_) (a' := ?_) #[false, true, true, false, false, false, false, false, false] rfl rfl (any_of HT_.out (by kernel_rfl)) (fun _ _ _ h => h) (Or.inl ⟨by rfl, ?_⟩) ?_ ?_
      rotate_left
      ·intro w'
       go_simp
       with_reducible rfl
      rotate_left
      ·simp only [Act.put, List.setIfInBounds_toArray, List.set_cons_zero, List.set_cons_succ, i64_w, i32_w]
       rfl
      refine pure_ (i := 3) (N := some 49) (v := ?_) (a' := ?_) #[false, true, true, true, false, false, false, false, false] rfl rfl (any_of HT_.out (by kernel_rfl)) (fun _ _ _ h => h) (Or.inl ⟨by rfl, ?_⟩) ?_ ?_
      rotate_left
      ·intro w'
       go_simp
       with_reducible rfl
      rotate_left
      ·simp only [Act.put, List.setIfInBounds_toArray, List.set_cons_zero, List.set_cons_succ, i64_w, i32_w]
       rfl
      refine pure_ (i := 4) (N := some 50) (v := ?_) (a' := ?_) #[false, true, true, true, true, false, false, false, false] rfl rfl (any_of HT_.out (by kernel_rfl)) (fun _ _ _ h => h) (Or.inl ⟨by rfl, ?_⟩) ?_ ?_
      rotate_left
      ·intro w'
       go_simp
       with_reducible rfl
      rotate_left
      ·simp only [Act.put, List.setIfInBounds_toArray, List.set_cons_zero, List.set_cons_succ, i64_w, i32_w]
       rfl
      refine pure_ (i := 7) (N := some 53) (v := ?_) (a' := ?_) #[false, true, true, true, true, false, false, true, false] rfl rfl (any_of HT_.out (by kernel_rfl)) (fun _ _ _ h => h) (Or.inl ⟨by rfl, ?_⟩) ?_ ?_
      rotate_left
      ·intro w'
       go_simp
       with_reducible rfl
      rotate_left
      ·simp only [Act.put, List.setIfInBounds_toArray, List.set_cons_zero, List.set_cons_succ, i64_w, i32_w]
       rfl
      refine take_ (i := 0) (N := some 46) (v := ?_) (a' := ?_) #[true, true, true, true, true, false, false, true, false] rfl rfl (take_ofW HT_.out HW_.out (by kernel_rfl)) (fun _ _ _ h => h) (Or.inl ⟨by rfl, ?_⟩) hHeld ?_ ?_
      rotate_left
      ·rintro w' ⟨s0, s1, s2, s3, s4⟩
       go_simp
       with_reducible rfl
      rotate_left
      ·simp only [Act.put, List.setIfInBounds_toArray, List.set_cons_zero, List.set_cons_succ, i64_w, i32_w]
       rfl
      refine take_ (i := 5) (N := some 51) (v := ?_) (a' := ?_) #[true, true, true, true, true, true, false, true, false] rfl rfl (take_ofW HT_.out HW_.out (by kernel_rfl)) (fun _ _ _ h => h) (Or.inl ⟨by rfl, ?_⟩) hHeld ?_ ?_
      rotate_left
      ·rintro w' ⟨s0, s1, s2, s3, s4⟩
       go_simp
       with_reducible rfl
      rotate_left
      ·simp only [Act.put, List.setIfInBounds_toArray, List.set_cons_zero, List.set_cons_succ, i64_w, i32_w]
       rfl
      refine one_ (i := 6) (N := some 52) #[true, true, true, true, true, true, true, true, false] rfl rfl (one_of HT_.out (by kernel_rfl)) (by decide) (fun K hK => ?_)
      refine goes_ Try.func113 (by kernel_rfl) rfl #[.agg #[.int .i64 a0_0, .bool a0_1, .slice A0_2 l0_2.length c0_2], .slice Ao26 x11_1.length co26, .agg #[.int .i64 ((rd_T38 l2 x12_1).f0), .bool ((rd_T38 l2 x12_1).f1)]] (by rfl) rfl rfl (by (try simp only [List.map_toArray, List.map_cons, List.map_nil]); first | done | rfl | (simp only [List.length_drop, List.length_take]; rfl)) ?_
      with_reducible refine (ebbtideref07_Left.calls a0_0 a0_1 _ _ l0_2 _ _ x11_1 ((rd_T38 l2 x12_1).f0) ((rd_T38 l2 x12_1).f1) t674 _ ?side1 ?side2 ?side3 ?side4 A23.out).mono ?_
      (case side1 => repeat (first | exact (Kd.C_below HR0_2.out HB.out) | (with_reducible refine Kd.C_alloc ?_ _) | (with_reducible refine Kd.C_drewN ?_ _) | (with_reducible refine Kd.C_drew ?_)))
      (case side2 => exact HC0_2.out)
      (case side3 => repeat (first | exact (Kd.R_reads' HO_11.out).2.2 | (with_reducible refine Kd.C_alloc ?_ _) | (with_reducible refine Kd.C_drewN ?_ _) | (with_reducible refine Kd.C_drew ?_)))
      (case side4 => exact (Kd.R_reads' HO_11.out).2.1)
      rintro e w27 ⟨rfl, hb⟩
      refine ⟨_, rfl, ?_⟩
      have n0_ := Aside0.mk (Kd.R_below (by (with_reducible repeat (first | apply Kd.R_alloc | apply Kd.R_drewN | apply Kd.R_drew)); exact HO_11.out) hb)
      have n1_ := Aside0.mk (blk_below (g := gb666) (o := .cells #[.int .i64 a0_0, .bool a0_1, .slice A0_2 l0_2.length c0_2] 24 (0, 0)) (by (with_reducible repeat (first | refine blk_drewN ?_ _ | refine blk_drew ?_ | refine blk_alloc ?_ _)); exact BK666.out) hb)
      have n2_ := Aside0.mk (below_step (by repeat (first | (with_reducible first | exact HB.out | apply below_alloc | apply pw_below_drewN | apply below_drew1 | refine below_set ?_ GE666.out) | exact HB.out)) hb)
      clear HO_11
      clear BK666
      clear HB
      have HO_11 := n0_
      have BK666 := n1_
      have HB := n2_
      clear n0_ n1_ n2_
      (try clear hb)
      (try clear hb2)
      (try clear hk)
      (try clear hi)
      refine hK.out _ _ ⟨(blk_cell BK666.out 0).trans rfl, (blk_cell BK666.out 1).trans rfl, (blk_cell BK666.out 2).trans rfl, ((HB.out.cell (World.block_lt_of_cell? w _ hw673_0)).trans hw673_0), ((HB.out.cell (World.block_lt_of_cell? w _ hw673_1)).trans hw673_1)⟩ (fun hHeld => ?_)
      clear hK K
      refine norm_ (a' := ?_) ?_ ?_
      rotate_left
      ·show Act.put _ (some 52) _ = _
       simp only [Act.put, List.setIfInBounds_toArray, List.set_cons_zero, List.set_cons_succ, i64_w, i32_w]
       rfl
      refine pure_ (i := 8) (N := some 54) (v := ?_) (a' := ?_) #[true, true, true, true, true, true, true, true, true] rfl rfl (any_of HT_.out (by kernel_rfl)) (fun _ _ _ h => h) (Or.inl ⟨by rfl, ?_⟩) ?_ ?_
      rotate_left
      ·intro w'
       go_simp
       with_reducible rfl
      rotate_left
      ·simp only [Act.put, List.setIfInBounds_toArray, List.set_cons_zero, List.set_cons_succ, i64_w, i32_w]
       rfl
      refine done_ (done_of HT_.out (by kernel_rfl)) ?_
      try go_wp2
      go_ret2
      exact ⟨_, by first | rfl | (simp [errW_none, errW_some] <;> rfl) | (simp [*, errW_none, errW_some] <;> rfl), by first | exact Kd.R_nil _ _ _ _ _ | exact Kd.N_nil _ _ _ _ _ | exact Kd.V_nil _ _ _ _ _ | exact Kd.Q_nil _ _ _ _ _ | exact Kd.S_nil _ _ _ _ _, by repeat (first | (with_reducible first | exact HB.out | apply below_alloc | apply pw_below_drewN | apply below_drew1 | refine below_set ?_ GE666.out) | exact HB.out)⟩
     rw [if_neg c24] at H
     have c24b0 : decide (t674 < a3) = false := decide_eq_false c24
     clear c24
     obtain ⟨bq28, hbq28⟩ : ∃ b_ : Bool, b_ = ((rd_T38 l2 x12_1).f1) := ⟨_, rfl⟩
     replace H : (if bq28 = true then (if 0 ≤ ((rd_T38 l2 x12_1).f0) then (if ((rd_T38 l2 x12_1).f0) < (x11_1.length : Int) then (ebbtideref07_Push.l0 kj16 l1 l2 a3 (x11_1.set (((rd_T38 l2 x12_1).f0) : Int).toNat (wrap64 ((rd x11_1 ((rd_T38 l2 x12_1).f0)) - a3))) (wrap64 (x12_1 + 1)) a0_0 a0_1 l0_2) else (none)) else (none)) else (if 0 ≤ ((rd_T38 l2 x12_1).f0) then (if ((rd_T38 l2 x12_1).f0) < (x11_1.length : Int) then (ebbtideref07_Push.l0 kj16 l1 l2 a3 (x11_1.set (((rd_T38 l2 x12_1).f0) : Int).toNat (wrap64 ((rd x11_1 ((rd_T38 l2 x12_1).f0)) + a3))) (wrap64 (x12_1 + 1)) a0_0 a0_1 l0_2) else (none)) else (none))) = some (r1, r2) := by rw [← hbq28] at H; exact H
     have Nbq28 := Aside0.mk hbq28
     clear hbq28
     by_cases c29 : bq28 = true
     ·subst c29
      have H1 : (if 0 ≤ ((rd_T38 l2 x12_1).f0) then (if ((rd_T38 l2 x12_1).f0) < (x11_1.length : Int) then (ebbtideref07_Push.l0 kj16 l1 l2 a3 (x11_1.set (((rd_T38 l2 x12_1).f0) : Int).toNat (wrap64 ((rd x11_1 ((rd_T38 l2 x12_1).f0)) - a3))) (wrap64 (x12_1 + 1)) a0_0 a0_1 l0_2) else (none)) else (none)) = some (r1, r2) := by rw [if_pos rfl] at H; exact H
      clear H
      have H := H1
      clear H1
      by_cases c30 : 0 ≤ ((rd_T38 l2 x12_1).f0)
      rotate_left
      ·rw [if_neg c30] at H
       exact absurd H (by simp)
      rw [if_pos c30] at H
      have c30b0 : decide (0 ≤ ((rd_T38 l2 x12_1).f0)) = true := decide_eq_true c30
      clear c30
      by_cases c31 : ((rd_T38 l2 x12_1).f0) < (x11_1.length : Int)
      rotate_left
      ·rw [if_neg c31] at H
       exact absurd H (by simp)
      rw [if_pos c31] at H
      have c31b0 : decide (((rd_T38 l2 x12_1).f0) < (x11_1.length : Int)) = true := decide_eq_true c31
      clear c31
      obtain ⟨y679, hy679⟩ : ∃ y_ : List Int, y_ = (x11_1.set (((rd_T38 l2 x12_1).f0) : Int).toNat (wrap64 ((rd x11_1 ((rd_T38 l2 x12_1).f0)) - a3))) := ⟨_, rfl⟩
      replace H : (ebbtideref07_Push.l0 kj16 l1 l2 a3 y679 (wrap64 (x12_1 + 1)) a0_0 a0_1 l0_2) = some (r1, r2) := by first | (rw [hy679]; with_reducible exact H) | (have H2_ := (Option.bind_some _ _).symm.trans H; rw [hy679]; with_reducible exact H2_) | (have H2_ := (Option.bind_some _ _).symm.trans H; with_reducible exact H2_) | with_reducible exact H | (rw [hy679]; exact H) | exact H
      have Ny679 := Aside0.mk hy679
      clear hy679
      have H' := Aside0.mk H
      clear H
      try go_wp2
      have n0_ := Aside0.mk (Kd.R_drew HO_11.out)
      have n1_ := Aside0.mk (blk_drew BK666.out)
      have n2_ := Aside0.mk (below_drew1 HB.out)
      clear HO_11
      clear BK666
      clear HB
      have HO_11 := n0_
      have BK666 := n1_
      have HB := n2_
      clear n0_ n1_ n2_
      have p673 : 0 ≤ (x12_1 : Int) := of_decide_eq_true (by first | (with_reducible assumption) | assumption)
      have q673 : x12_1 < (l2.length : Int) := of_decide_eq_true (by first | (with_reducible assumption) | assumption)
      obtain ⟨ad673, e673, hx673_0, hx673_1⟩ := at_T38 HR2.out x12_1 p673 q673
      have hw673_1 := hx673_1
      have hw673_0 := hx673_0
      (try rw [← Nbq28.out] at hx673_1)
      (try rw [← Nbq28.out] at hw673_1)
      cases e673
      replace hx673_0 := (HB.out.cell (World.block_lt_of_cell? w _ hx673_0)).trans hx673_0
      replace hx673_1 := (HB.out.cell (World.block_lt_of_cell? w _ hx673_1)).trans hx673_1
      replace p673 := eq_true p673
      replace q673 := eq_true q673
      obtain ⟨Ao34, co34, eo34⟩ := Kd.R_slice HO_11.out
      (first | subst eo34 | (injection eo34 with f1_ f2_ f3_; have f4_ := f1_.symm; have f5_ := f3_.symm; clear f1_ f2_ f3_; subst f4_; subst f5_))
      refine start_ (n := 9) (S := fun w' => w'.cell? ⟨gb666, 0, none⟩ = some (.int .i64 a0_0) ∧ w'.cell? ⟨gb666, 1, none⟩ = some (.bool a0_1) ∧ w'.cell? ⟨gb666, 2, none⟩ = some (.slice A0_2 l0_2.length c0_2) ∧ w'.cell? (ad673.add ((x12_1).toNat * 2)) = some (.int .i64 ((rd_T38 l2 x12_1).f0)) ∧ w'.cell? ⟨(ad673.add ((x12_1).toNat * 2)).block, (ad673.add ((x12_1).toNat * 2)).off + 1, none⟩ = some (.bool true)) (ds := []) #[false, false, false, false, false, false, false, false, false] (by kernel_rfl) rfl rfl ⟨(blk_cell BK666.out 0).trans rfl, (blk_cell BK666.out 1).trans rfl, (blk_cell BK666.out 2).trans rfl, ((HB.out.cell (World.block_lt_of_cell? w _ hw673_0)).trans hw673_0), ((HB.out.cell (World.block_lt_of_cell? w _ hw673_1)).trans hw673_1)⟩ (fun hHeld => ?_); refine with_tabW ebbtideref07_Push.tab13 ebbtideref07_Push.bits13 (fun HT_ HW_ => ?_)
      generalize wc.drew = w33 at HO_11 BK666 HB hx673_0 hx673_1 hHeld ⊢
      refine pure_ (i := 1) (N := some 47) (v := ?_) (a' := ?_) #[false, true, false, false, false, false, false, false, false] rfl rfl (any_of HT_.out (by kernel_rfl)) (fun _ _ _ h => h) (Or.inl ⟨by rfl, ?_⟩) ?_ ?_
      rotate_left
      ·intro w'
       go_simp
       with_reducible rfl
      rotate_left
      ·simp only [Act.put, List.setIfInBounds_toArray, List.set_cons_zero, List.set_cons_succ, i64_w, i32_w]
       rfl
      refine pure_ (i := 2) (N := some 48) (v := ?_) (a' := ?_) #[false, true, true, false, false, false, false, false, false] rfl rfl (any_of HT_.out (by kernel_rfl)) (fun _ _ _ h => h) (Or.inl ⟨by rfl, ?_⟩) ?_ ?_
      rotate_left
      ·intro w'
       go_simp
       with_reducible rfl
      rotate_left
      ·simp only [Act.put, List.setIfInBounds_toArray, List.set_cons_zero, List.set_cons_succ, i64_w, i32_w]
       rfl
      refine pure_ (i := 3) (N := some 49) (v := ?_) (a' := ?_) #[false, true, true, true, false, false, false, false, false] rfl rfl (any_of HT_.out (by kernel_rfl)) (fun _ _ _ h => h) (Or.inl ⟨by rfl, ?_⟩) ?_ ?_
      rotate_left
      ·intro w'
       go_simp
       with_reducible rfl
      rotate_left
      ·simp only [Act.put, List.setIfInBounds_toArray, List.set_cons_zero, List.set_cons_succ, i64_w, i32_w]
       rfl
      refine pure_ (i := 4) (N := some 50) (v := ?_) (a' := ?_) #[false, true, true, true, true, false, false, false, false] rfl rfl (any_of HT_.out (by kernel_rfl)) (fun _ _ _ h => h) (Or.inl ⟨by rfl, ?_⟩) ?_ ?_
      rotate_left
      ·intro w'
       go_simp
       with_reducible rfl
      rotate_left
      ·simp only [Act.put, List.setIfInBounds_toArray, List.set_cons_zero, List.set_cons_succ, i64_w, i32_w]
       rfl
      refine pure_ (i := 7) (N := some 53) (v := ?_) (a' := ?_) #[false, true, true, true, true, false, false, true, false] rfl rfl (any_of HT_.out (by kernel_rfl)) (fun _ _ _ h => h) (Or.inl ⟨by rfl, ?_⟩) ?_ ?_
      rotate_left
      ·intro w'
       go_simp
       with_reducible rfl
      rotate_left
      ·simp only [Act.put, List.setIfInBounds_toArray, List.set_cons_zero, List.set_cons_succ, i64_w, i32_w]
       rfl
      refine take_ (i := 0) (N := some 46) (v := ?_) (a' := ?_) #[true, true, true, true, true, false, false, true, false] rfl rfl (take_ofW HT_.out HW_.out (by kernel_rfl)) (fun _ _ _ h => h) (Or.inl ⟨by rfl, ?_⟩) hHeld ?_ ?_
      rotate_left
      ·rintro w' ⟨s0, s1, s2, s3, s4⟩
       go_simp
       with_reducible rfl
      rotate_left
      ·simp only [Act.put, List.setIfInBounds_toArray, List.set_cons_zero, List.set_cons_succ, i64_w, i32_w]
       rfl
      refine take_ (i := 5) (N := some 51) (v := ?_) (a' := ?_) #[true, true, true, true, true, true, false, true, false] rfl rfl (take_ofW HT_.out HW_.out (by kernel_rfl)) (fun _ _ _ h => h) (Or.inl ⟨by rfl, ?_⟩) hHeld ?_ ?_
      rotate_left
      ·rintro w' ⟨s0, s1, s2, s3, s4⟩
       go_simp
       with_reducible rfl
      rotate_left
      ·simp only [Act.put, List.setIfInBounds_toArray, List.set_cons_zero, List.set_cons_succ, i64_w, i32_w]
       rfl
      refine one_ (i := 6) (N := some 52) #[true, true, true, true, true, true, true, true, false] rfl rfl (one_of HT_.out (by kernel_rfl)) (by decide) (fun K hK => ?_)
      refine goes_ Try.func113 (by kernel_rfl) rfl #[.agg #[.int .i64 a0_0, .bool a0_1, .slice A0_2 l0_2.length c0_2], .slice Ao34 x11_1.length co34, .agg #[.int .i64 ((rd_T38 l2 x12_1).f0), .bool true]] (by rfl) rfl rfl (by (try simp only [List.map_toArray, List.map_cons, List.map_nil]); first | done | rfl | (simp only [List.length_drop, List.length_take]; rfl)) ?_
      with_reducible refine (ebbtideref07_Left.calls a0_0 a0_1 _ _ l0_2 _ _ x11_1 ((rd_T38 l2 x12_1).f0) true t674 _ ?side1 ?side2 ?side3 ?side4 (by first | exact A23.out | (have h_ := A23.out; rw [← Nbq28.out] at h_; exact h_))).mono ?_
      (case side1 => repeat (first | exact (Kd.C_below HR0_2.out HB.out) | (with_reducible refine Kd.C_alloc ?_ _) | (with_reducible refine Kd.C_drewN ?_ _) | (with_reducible refine Kd.C_drew ?_)))
      (case side2 => exact HC0_2.out)
      (case side3 => repeat (first | exact (Kd.R_reads' HO_11.out).2.2 | (with_reducible refine Kd.C_alloc ?_ _) | (with_reducible refine Kd.C_drewN ?_ _) | (with_reducible refine Kd.C_drew ?_)))
      (case side4 => exact (Kd.R_reads' HO_11.out).2.1)
      rintro e w35 ⟨rfl, hb⟩
      refine ⟨_, rfl, ?_⟩
      have n0_ := Aside0.mk (Kd.R_below (by (with_reducible repeat (first | apply Kd.R_alloc | apply Kd.R_drewN | apply Kd.R_drew)); exact HO_11.out) hb)
      have n1_ := Aside0.mk (blk_below (g := gb666) (o := .cells #[.int .i64 a0_0, .bool a0_1, .slice A0_2 l0_2.length c0_2] 24 (0, 0)) (by (with_reducible repeat (first | refine blk_drewN ?_ _ | refine blk_drew ?_ | refine blk_alloc ?_ _)); exact BK666.out) hb)
      have n2_ := Aside0.mk (below_step (by repeat (first | (with_reducible first | exact HB.out | apply below_alloc | apply pw_below_drewN | apply below_drew1 | refine below_set ?_ GE666.out) | exact HB.out)) hb)
      clear HO_11
      clear BK666
      clear HB
      have HO_11 := n0_
      have BK666 := n1_
      have HB := n2_
      clear n0_ n1_ n2_
      (try clear hb)
      (try clear hb2)
      (try clear hk)
      (try clear hi)
      refine hK.out _ _ ⟨(blk_cell BK666.out 0).trans rfl, (blk_cell BK666.out 1).trans rfl, (blk_cell BK666.out 2).trans rfl, ((HB.out.cell (World.block_lt_of_cell? w _ hw673_0)).trans hw673_0), ((HB.out.cell (World.block_lt_of_cell? w _ hw673_1)).trans hw673_1)⟩ (fun hHeld => ?_)
      clear hK K
      refine norm_ (a' := ?_) ?_ ?_
      rotate_left
      ·show Act.put _ (some 52) _ = _
       simp only [Act.put, List.setIfInBounds_toArray, List.set_cons_zero, List.set_cons_succ, i64_w, i32_w]
       rfl
      refine pure_ (i := 8) (N := some 54) (v := ?_) (a' := ?_) #[true, true, true, true, true, true, true, true, true] rfl rfl (any_of HT_.out (by kernel_rfl)) (fun _ _ _ h => h) (Or.inl ⟨by rfl, ?_⟩) ?_ ?_
      rotate_left
      ·intro w'
       go_simp
       with_reducible rfl
      rotate_left
      ·simp only [Act.put, List.setIfInBounds_toArray, List.set_cons_zero, List.set_cons_succ, i64_w, i32_w]
       rfl
      refine done_ (done_of HT_.out (by kernel_rfl)) ?_
      have p675 : 0 ≤ (x12_1 : Int) := of_decide_eq_true (by first | (with_reducible assumption) | assumption)
      have q675 : x12_1 < (l2.length : Int) := of_decide_eq_true (by first | (with_reducible assumption) | assumption)
      obtain ⟨ad675, e675, hx675_0, hx675_1⟩ := at_T38 HR2.out x12_1 p675 q675
      (try rw [← Nbq28.out] at hx675_1)
      obtain rfl : ad673 = ad675 := (by injection e675)
      replace hx675_0 := (HB.out.cell (World.block_lt_of_cell? w _ hx675_0)).trans hx675_0
      replace hx675_1 := (HB.out.cell (World.block_lt_of_cell? w _ hx675_1)).trans hx675_1
      replace p675 := eq_true p675
      replace q675 := eq_true q675
      try go_wp2
      have n0_ := Aside0.mk (Kd.R_drew HO_11.out)
      have n1_ := Aside0.mk (blk_drew BK666.out)
      have n2_ := Aside0.mk (below_drew1 HB.out)
      clear HO_11
      clear BK666
      clear HB
      have HO_11 := n0_
      have BK666 := n1_
      have HB := n2_
      clear n0_ n1_ n2_
      have p676 : 0 ≤ (x12_1 : Int) := of_decide_eq_true (by first | (with_reducible assumption) | assumption)
      have q676 : x12_1 < (l2.length : Int) := of_decide_eq_true (by first | (with_reducible assumption) | assumption)
      obtain ⟨ad676, e676, hx676_0, hx676_1⟩ := at_T38 HR2.out x12_1 p676 q676
      have hw676_1 := hx676_1
      have hw676_0 := hx676_0
      (try rw [← Nbq28.out] at hx676_1)
      (try rw [← Nbq28.out] at hw676_1)
      obtain rfl : ad673 = ad676 := (by injection e676)
      replace hx676_0 := (HB.out.cell (World.block_lt_of_cell? w _ hx676_0)).trans hx676_0
      replace hx676_1 := (HB.out.cell (World.block_lt_of_cell? w _ hx676_1)).trans hx676_1
      replace p676 := eq_true p676
      replace q676 := eq_true q676
      have p677 : 0 ≤ (x12_1 : Int) := of_decide_eq_true (by first | (with_reducible assumption) | assumption)
      have q677 : x12_1 < (l2.length : Int) := of_decide_eq_true (by first | (with_reducible assumption) | assumption)
      obtain ⟨ad677, e677, hx677_0, hx677_1⟩ := at_T38 HR2.out x12_1 p677 q677
      have hw677_1 := hx677_1
      have hw677_0 := hx677_0
      (try rw [← Nbq28.out] at hx677_1)
      (try rw [← Nbq28.out] at hw677_1)
      obtain rfl : ad673 = ad677 := (by injection e677)
      replace hx677_0 := (HB.out.cell (World.block_lt_of_cell? w _ hx677_0)).trans hx677_0
      replace hx677_1 := (HB.out.cell (World.block_lt_of_cell? w _ hx677_1)).trans hx677_1
      replace p677 := eq_true p677
      replace q677 := eq_true q677
      have p678 : 0 ≤ (((rd_T38 l2 x12_1).f0) : Int) := of_decide_eq_true (by first | (with_reducible assumption) | assumption)
      have q678 : ((rd_T38 l2 x12_1).f0) < (x11_1.length : Int) := of_decide_eq_true (by first | (with_reducible assumption) | assumption)
      obtain ⟨ad678, e678, hx678_0⟩ := Kd.at_int (Kd.R_reads' HO_11.out).2.2 ((rd_T38 l2 x12_1).f0) p678 q678
      cases e678
      replace p678 := eq_true p678
      replace q678 := eq_true q678
      have p32 : 0 ≤ (((rd_T38 l2 x12_1).f0) : Int) := of_decide_eq_true (by first | (with_reducible assumption) | assumption)
      have q32 : (((rd_T38 l2 x12_1).f0) : Int) < ((x11_1.length : Int) : Int) := of_decide_eq_true (by first | (with_reducible assumption) | assumption)
      obtain ⟨go32, co32, eo32, gb32, gl32, cl32, HG32⟩ := Kd.R_form HO_11.out (by omega)
      (first | cases eo32 | (injection eo32 with ea_ en_ ec_; (first | subst ea_ | (injection ea_ with ea_; subst ea_)); subst ec_; clear en_))
      have GB32 := Aside0.mk gb32
      have GG32 := Aside0.mk HG32
      clear gb32 gl32 HG32
      (first | simp only [add_plain] at hx678_0 | skip)
      obtain ⟨hx32_0, hf32_0⟩ := Kd.R_celln 0 HO_11.out (((rd_T38 l2 x12_1).f0) : Int) p32 q32
      replace p32 := eq_true p32
      replace q32 := eq_true q32
      have HP37 := Kd.R_putn HO_11.out (((rd_T38 l2 x12_1).f0) : Int) (wrap64 ((rd x11_1 ((rd_T38 l2 x12_1).f0)) - a3))
      rw [← Ny679.out] at HP37
      have HQ37 := Aside0.mk HP37
      clear HP37
      refine start_ (n := 18) (S := fun w' => w'.cell? (ad673.add ((x12_1).toNat * 2)) = some (.int .i64 ((rd_T38 l2 x12_1).f0)) ∧ w'.cell? ⟨(ad673.add ((x12_1).toNat * 2)).block, (ad673.add ((x12_1).toNat * 2)).off + 1, none⟩ = some (.bool (true)) ∧ w'.cell? (ad673.add ((x12_1).toNat * 2)) = some (.int .i64 ((rd_T38 l2 x12_1).f0)) ∧ w'.cell? ⟨(ad673.add ((x12_1).toNat * 2)).block, (ad673.add ((x12_1).toNat * 2)).off + 1, none⟩ = some (.bool (true)) ∧ w'.cell? ⟨go32, (((rd_T38 l2 x12_1).f0)).toNat, none⟩ = some (.int .i64 (rd x11_1 ((rd_T38 l2 x12_1).f0)))) (ds := [17]) #[false, false, false, false, false, false, false, false, false, false, false, false, false, false, false, false, false, false] (by kernel_rfl) rfl rfl ⟨((HB.out.cell (World.block_lt_of_cell? w _ hw676_0)).trans hw676_0), ((HB.out.cell (World.block_lt_of_cell? w _ hw676_1)).trans hw676_1), ((HB.out.cell (World.block_lt_of_cell? w _ hw677_0)).trans hw677_0), ((HB.out.cell (World.block_lt_of_cell? w _ hw677_1)).trans hw677_1), hx678_0⟩ (fun hHeld => ?_); refine with_tabW ebbtideref07_Push.tab16 ebbtideref07_Push.bits16 (fun HT_ HW_ => ?_)
      generalize w35.drew = w36 at HO_11 BK666 HB GG32 HQ37 hf32_0 hx32_0 hx676_0 hx676_1 hx677_0 hx677_1 hx678_0 hHeld ⊢
      refine pure_ (i := 0) (N := some 60) (v := ?_) (a' := ?_) #[true, false, false, false, false, false, false, false, false, false, false, false, false, false, false, false, false, false] rfl rfl (any_of HT_.out (by kernel_rfl)) (fun _ _ _ h => h) (Or.inl ⟨by rfl, ?_⟩) ?_ ?_
      rotate_left
      ·intro w'
       go_simp
       with_reducible rfl
      rotate_left
      ·simp only [Act.put, List.setIfInBounds_toArray, List.set_cons_zero, List.set_cons_succ, i64_w, i32_w]
       rfl
      refine pure_ (i := 1) (N := some 61) (v := ?_) (a' := ?_) #[true, true, false, false, false, false, false, false, false, false, false, false, false, false, false, false, false, false] rfl rfl (any_of HT_.out (by kernel_rfl)) (fun _ _ _ h => h) (Or.inl ⟨by rfl, ?_⟩) ?_ ?_
      rotate_left
      ·intro w'
       go_simp
       with_reducible rfl
      rotate_left
      ·simp only [Act.put, List.setIfInBounds_toArray, List.set_cons_zero, List.set_cons_succ, i64_w, i32_w]
       rfl
      refine pure_ (i := 2) (N := some 62) (v := ?_) (a' := ?_) #[true, true, true, false, false, false, false, false, false, false, false, false, false, false, false, false, false, false] rfl rfl (any_of HT_.out (by kernel_rfl)) (fun _ _ _ h => h) (Or.inl ⟨by rfl, ?_⟩) ?_ ?_
      rotate_left
      ·intro w'
       go_simp
       with_reducible rfl
      rotate_left
      ·simp only [Act.put, List.setIfInBounds_toArray, List.set_cons_zero, List.set_cons_succ, i64_w, i32_w]
       rfl
      refine pure_ (i := 3) (N := some 63) (v := ?_) (a' := ?_) #[true, true, true, true, false, false, false, false, false, false, false, false, false, false, false, false, false, false] rfl rfl (any_of HT_.out (by kernel_rfl)) (fun _ _ _ h => h) (Or.inl ⟨by rfl, ?_⟩) ?_ ?_
      rotate_left
      ·intro w'
       go_simp
       with_reducible rfl
      rotate_left
      ·simp only [Act.put, List.setIfInBounds_toArray, List.set_cons_zero, List.set_cons_succ, i64_w, i32_w]
       rfl
      refine pure_ (i := 4) (N := some 64) (v := ?_) (a' := ?_) #[true, true, true, true, true, false, false, false, false, false, false, false, false, false, false, false, false, false] rfl rfl (any_of HT_.out (by kernel_rfl)) (fun _ _ _ h => h) (Or.inl ⟨by rfl, ?_⟩) ?_ ?_
      rotate_left
      ·intro w'
       go_simp
       with_reducible rfl
      rotate_left
      ·simp only [Act.put, List.setIfInBounds_toArray, List.set_cons_zero, List.set_cons_succ, i64_w, i32_w]
       rfl
      refine pure_ (i := 6) (N := some 66) (v := ?_) (a' := ?_) #[true, true, true, true, true, false, true, false, false, false, false, false, false, false, false, false, false, false] rfl rfl (any_of HT_.out (by kernel_rfl)) (fun _ _ _ h => h) (Or.inl ⟨by rfl, ?_⟩) ?_ ?_
      rotate_left
      ·intro w'
       go_simp
       with_reducible rfl
      rotate_left
      ·simp only [Act.put, List.setIfInBounds_toArray, List.set_cons_zero, List.set_cons_succ, i64_w, i32_w]
       rfl
      refine pure_ (i := 7) (N := some 67) (v := ?_) (a' := ?_) #[true, true, true, true, true, false, true, true, false, false, false, false, false, false, false, false, false, false] rfl rfl (any_of HT_.out (by kernel_rfl)) (fun _ _ _ h => h) (Or.inl ⟨by rfl, ?_⟩) ?_ ?_
      rotate_left
      ·intro w'
       go_simp
       with_reducible rfl
      rotate_left
      ·simp only [Act.put, List.setIfInBounds_toArray, List.set_cons_zero, List.set_cons_succ, i64_w, i32_w]
       rfl
      refine pure_ (i := 8) (N := some 68) (v := ?_) (a' := ?_) #[true, true, true, true, true, false, true, true, true, false, false, false, false, false, false, false, false, false] rfl rfl (any_of HT_.out (by kernel_rfl)) (fun _ _ _ h => h) (Or.inl ⟨by rfl, ?_⟩) ?_ ?_
      rotate_left
      ·intro w'
       go_simp
       with_reducible rfl
      rotate_left
      ·simp only [Act.put, List.setIfInBounds_toArray, List.set_cons_zero, List.set_cons_succ, i64_w, i32_w]
       rfl
      refine pure_ (i := 9) (N := some 69) (v := ?_) (a' := ?_) #[true, true, true, true, true, false, true, true, true, true, false, false, false, false, false, false, false, false] rfl rfl (any_of HT_.out (by kernel_rfl)) (fun _ _ _ h => h) (Or.inl ⟨by rfl, ?_⟩) ?_ ?_
      rotate_left
      ·intro w'
       go_simp
       with_reducible rfl
      rotate_left
      ·simp only [Act.put, List.setIfInBounds_toArray, List.set_cons_zero, List.set_cons_succ, i64_w, i32_w]
       rfl
      refine pure_ (i := 10) (N := some 70) (v := ?_) (a' := ?_) #[true, true, true, true, true, false, true, true, true, true, true, false, false, false, false, false, false, false] rfl rfl (any_of HT_.out (by kernel_rfl)) (fun _ _ _ h => h) (Or.inl ⟨by rfl, ?_⟩) ?_ ?_
      rotate_left
      ·intro w'
       go_simp
       with_reducible rfl
      rotate_left
      ·simp only [Act.put, List.setIfInBounds_toArray, List.set_cons_zero, List.set_cons_succ, i64_w, i32_w]
       rfl
      refine pure_ (i := 14) (N := some 74) (v := ?_) (a' := ?_) #[true, true, true, true, true, false, true, true, true, true, true, false, false, false, true, false, false, false] rfl rfl (any_of HT_.out (by kernel_rfl)) (fun _ _ _ h => h) (Or.inl ⟨by rfl, ?_⟩) ?_ ?_
      rotate_left
      ·intro w'
       go_simp
       with_reducible rfl
      rotate_left
      ·simp only [Act.put, List.setIfInBounds_toArray, List.set_cons_zero, List.set_cons_succ, i64_w, i32_w]
       rfl
      refine take_ (i := 5) (N := some 65) (v := ?_) (a' := ?_) #[true, true, true, true, true, true, true, true, true, true, true, false, false, false, true, false, false, false] rfl rfl (take_ofW HT_.out HW_.out (by kernel_rfl)) (fun _ _ _ h => h) (Or.inl ⟨by rfl, ?_⟩) hHeld ?_ ?_
      rotate_left
      ·rintro w' ⟨s0, s1, s2, s3, s4⟩
       go_simp
       with_reducible rfl
      rotate_left
      ·simp only [Act.put, List.setIfInBounds_toArray, List.set_cons_zero, List.set_cons_succ, i64_w, i32_w]
       rfl
      refine take_ (i := 11) (N := some 71) (v := ?_) (a' := ?_) #[true, true, true, true, true, true, true, true, true, true, true, true, false, false, true, false, false, false] rfl rfl (take_ofW HT_.out HW_.out (by kernel_rfl)) (fun _ _ _ h => h) (Or.inl ⟨by rfl, ?_⟩) hHeld ?_ ?_
      rotate_left
      ·rintro w' ⟨s0, s1, s2, s3, s4⟩
       go_simp
       with_reducible rfl
      rotate_left
      ·simp only [Act.put, List.setIfInBounds_toArray, List.set_cons_zero, List.set_cons_succ, i64_w, i32_w]
       rfl
      refine pure_ (i := 12) (N := some 72) (v := ?_) (a' := ?_) #[true, true, true, true, true, true, true, true, true, true, true, true, true, false, true, false, false, false] rfl rfl (any_of HT_.out (by kernel_rfl)) (fun _ _ _ h => h) (Or.inl ⟨by rfl, ?_⟩) ?_ ?_
      rotate_left
      ·intro w'
       go_simp
       with_reducible rfl
      rotate_left
      ·simp only [Act.put, List.setIfInBounds_toArray, List.set_cons_zero, List.set_cons_succ, i64_w, i32_w]
       rfl
      refine take_ (i := 13) (N := some 73) (v := ?_) (a' := ?_) #[true, true, true, true, true, true, true, true, true, true, true, true, true, true, true, false, false, false] rfl rfl (take_ofW HT_.out HW_.out (by kernel_rfl)) (fun _ _ _ h => h) (Or.inl ⟨by rfl, ?_⟩) hHeld ?_ ?_
      rotate_left
      ·rintro w' ⟨s0, s1, s2, s3, s4⟩
       go_simp
       with_reducible rfl
      rotate_left
      ·simp only [Act.put, List.setIfInBounds_toArray, List.set_cons_zero, List.set_cons_succ, i64_w, i32_w]
       rfl
      refine pure_ (i := 15) (N := some 75) (v := ?_) (a' := ?_) #[true, true, true, true, true, true, true, true, true, true, true, true, true, true, true, true, false, false] rfl rfl (any_of HT_.out (by kernel_rfl)) (fun _ _ _ h => h) (Or.inl ⟨by rfl, ?_⟩) ?_ ?_
      rotate_left
      ·intro w'
       go_simp
       with_reducible rfl
      rotate_left
      ·simp only [Act.put, List.setIfInBounds_toArray, List.set_cons_zero, List.set_cons_succ, i64_w, i32_w]
       rfl
      refine pure_ (i := 16) (N := some 76) (v := ?_) (a' := ?_) #[true, true, true, true, true, true, true, true, true, true, true, true, true, true, true, true, true, false] rfl rfl (any_of HT_.out (by kernel_rfl)) (fun _ _ _ h => h) (Or.inl ⟨by rfl, ?_⟩) ?_ ?_
      rotate_left
      ·intro w'
       go_simp
       with_reducible rfl
      rotate_left
      ·simp only [Act.put, List.setIfInBounds_toArray, List.set_cons_zero, List.set_cons_succ, i64_w, i32_w]
       rfl
      refine last_ (i := 17) (N := none) #[true, true, true, true, true, true, true, true, true, true, true, true, true, true, true, true, true, true] rfl rfl (one_of HT_.out (by kernel_rfl)) (by decide) (fun K hK => ?_)
      refine skip_ (w1 := ?_) (by rfl) rfl ?_ ?_
      rotate_left
      ·go_simp
       rfl
      refine hK.out _ _ ?_
      clear hK K
      refine done_ (done_of HT_.out (by kernel_rfl)) ?_
      try go_wp2
      go_roundg kj16
      case measure => have := HK1.out; have := HJ16.out; omega
      case rel => exact ⟨(y679), (wrap64 (x12_1 + 1)), (by first | rfl | (simp; done) | (simp [*]; done)), H', ⟨by have := HK1.out; have := HJ16.out; omega⟩, ⟨by (with_reducible repeat (first | apply Kd.R_alloc | apply Kd.R_drewN | apply Kd.R_drew)); exact HQ37.out⟩, ⟨by (with_reducible repeat (first | refine blk_drewN ?_ _ | refine blk_drew ?_ | refine blk_alloc ?_ _)); refine blk_far ?_ (by have h_ := Kd.R_ne HO_11.out BK666.out (by decide); intro e_; exact h_ (by rw [e_]; rfl)) _; (with_reducible repeat (first | refine blk_drewN ?_ _ | refine blk_drew ?_ | refine blk_alloc ?_ _)); exact BK666.out⟩, ⟨by repeat (first | (with_reducible first | exact HB.out | apply below_alloc | apply pw_below_drewN | apply below_drew1 | refine below_set ?_ GB32.out | refine below_set ?_ GE666.out) | exact HB.out)⟩⟩
     replace c29 := Bool.eq_false_iff.mpr c29
     subst c29
     have H1 : (if 0 ≤ ((rd_T38 l2 x12_1).f0) then (if ((rd_T38 l2 x12_1).f0) < (x11_1.length : Int) then (ebbtideref07_Push.l0 kj16 l1 l2 a3 (x11_1.set (((rd_T38 l2 x12_1).f0) : Int).toNat (wrap64 ((rd x11_1 ((rd_T38 l2 x12_1).f0)) + a3))) (wrap64 (x12_1 + 1)) a0_0 a0_1 l0_2) else (none)) else (none)) = some (r1, r2) := by rw [if_neg (show ¬ (false = true) by decide)] at H; exact H
     clear H
     have H := H1
     clear H1
     by_cases c38 : 0 ≤ ((rd_T38 l2 x12_1).f0)
     rotate_left
     ·rw [if_neg c38] at H
      exact absurd H (by simp)
     rw [if_pos c38] at H
     have c38b0 : decide (0 ≤ ((rd_T38 l2 x12_1).f0)) = true := decide_eq_true c38
     clear c38
     by_cases c39 : ((rd_T38 l2 x12_1).f0) < (x11_1.length : Int)
     rotate_left
     ·rw [if_neg c39] at H
      exact absurd H (by simp)
     rw [if_pos c39] at H
     have c39b0 : decide (((rd_T38 l2 x12_1).f0) < (x11_1.length : Int)) = true := decide_eq_true c39
     clear c39
     obtain ⟨y683, hy683⟩ : ∃ y_ : List Int, y_ = (x11_1.set (((rd_T38 l2 x12_1).f0) : Int).toNat (wrap64 ((rd x11_1 ((rd_T38 l2 x12_1).f0)) + a3))) := ⟨_, rfl⟩
     replace H : (ebbtideref07_Push.l0 kj16 l1 l2 a3 y683 (wrap64 (x12_1 + 1)) a0_0 a0_1 l0_2) = some (r1, r2) := by first | (rw [hy683]; with_reducible exact H) | (have H2_ := (Option.bind_some _ _).symm.trans H; rw [hy683]; with_reducible exact H2_) | (have H2_ := (Option.bind_some _ _).symm.trans H; with_reducible exact H2_) | with_reducible exact H | (rw [hy683]; exact H) | exact H
     have Ny683 := Aside0.mk hy683
     clear hy683
     have H' := Aside0.mk H
     clear H
     try go_wp2
     have n0_ := Aside0.mk (Kd.R_drew HO_11.out)
     have n1_ := Aside0.mk (blk_drew BK666.out)
     have n2_ := Aside0.mk (below_drew1 HB.out)
     clear HO_11
     clear BK666
     clear HB
     have HO_11 := n0_
     have BK666 := n1_
     have HB := n2_
     clear n0_ n1_ n2_
     have p673 : 0 ≤ (x12_1 : Int) := of_decide_eq_true (by first | (with_reducible assumption) | assumption)
     have q673 : x12_1 < (l2.length : Int) := of_decide_eq_true (by first | (with_reducible assumption) | assumption)
     obtain ⟨ad673, e673, hx673_0, hx673_1⟩ := at_T38 HR2.out x12_1 p673 q673
     have hw673_1 := hx673_1
     have hw673_0 := hx673_0
     (try rw [← Nbq28.out] at hx673_1)
     (try rw [← Nbq28.out] at hw673_1)
     cases e673
     replace hx673_0 := (HB.out.cell (World.block_lt_of_cell? w _ hx673_0)).trans hx673_0
     replace hx673_1 := (HB.out.cell (World.block_lt_of_cell? w _ hx673_1)).trans hx673_1
     replace p673 := eq_true p673
     replace q673 := eq_true q673
     obtain ⟨Ao42, co42, eo42⟩ := Kd.R_slice HO_11.out
     (first | subst eo42 | (injection eo42 with f1_ f2_ f3_; have f4_ := f1_.symm; have f5_ := f3_.symm; clear f1_ f2_ f3_; subst f4_; subst f5_))
     refine start_ (n := 9) (S := fun w' => w'.cell? ⟨gb666, 0, none⟩ = some (.int .i64 a0_0) ∧ w'.cell? ⟨gb666, 1, none⟩ = some (.bool a0_1) ∧ w'.cell? ⟨gb666, 2, none⟩ = some (.slice A0_2 l0_2.length c0_2) ∧ w'.cell? (ad673.add ((x12_1).toNat * 2)) = some (.int .i64 ((rd_T38 l2 x12_1).f0)) ∧ w'.cell? ⟨(ad673.add ((x12_1).toNat * 2)).block, (ad673.add ((x12_1).toNat * 2)).off + 1, none⟩ = some (.bool false)) (ds := []) #[false, false, false, false, false, false, false, false, false] (by kernel_rfl) rfl rfl ⟨(blk_cell BK666.out 0).trans rfl, (blk_cell BK666.out 1).trans rfl, (blk_cell BK666.out 2).trans rfl, ((HB.out.cell (World.block_lt_of_cell? w _ hw673_0)).trans hw673_0), ((HB.out.cell (World.block_lt_of_cell? w _ hw673_1)).trans hw673_1)⟩ (fun hHeld => ?_); refine with_tabW ebbtideref07_Push.tab13 ebbtideref07_Push.bits13 (fun HT_ HW_ => ?_)
     generalize wc.drew = w41 at HO_11 BK666 HB hx673_0 hx673_1 hHeld ⊢
     refine pure_ (i := 1) (N := some 47) (v := ?_) (a' := ?_) #[false, true, false, false, false, false, false, false, false] rfl rfl (any_of HT_.out (by kernel_rfl)) (fun _ _ _ h => h) (Or.inl ⟨by rfl, ?_⟩) ?_ ?_
     rotate_left
     ·intro w'
      go_simp
      with_reducible rfl
     rotate_left
     ·simp only [Act.put, List.setIfInBounds_toArray, List.set_cons_zero, List.set_cons_succ, i64_w, i32_w]
      rfl
     refine pure_ (i := 2) (N := some 48) (v := ?_) (a' := ?_) #[false, true, true, false, false, false, false, false, false] rfl rfl (any_of HT_.out (by kernel_rfl)) (fun _ _ _ h => h) (Or.inl ⟨by rfl, ?_⟩) ?_ ?_
     rotate_left
     ·intro w'
      go_simp
      with_reducible rfl
     rotate_left
     ·simp only [Act.put, List.setIfInBounds_toArray, List.set_cons_zero, List.set_cons_succ, i64_w, i32_w]
      rfl
     refine pure_ (i := 3) (N := some 49) (v := ?_) (a' := ?_) #[false, true, true, true, false, false, false, false, false] rfl rfl (any_of HT_.out (by kernel_rfl)) (fun _ _ _ h => h) (Or.inl ⟨by rfl, ?_⟩) ?_ ?_
     rotate_left
     ·intro w'
      go_simp
      with_reducible rfl
     rotate_left
     ·simp only [Act.put, List.setIfInBounds_toArray, List.set_cons_zero, List.set_cons_succ, i64_w, i32_w]
      rfl
     refine pure_ (i := 4) (N := some 50) (v := ?_) (a' := ?_) #[false, true, true, true, true, false, false, false, false] rfl rfl (any_of HT_.out (by kernel_rfl)) (fun _ _ _ h => h) (Or.inl ⟨by rfl, ?_⟩) ?_ ?_
     rotate_left
     ·intro w'
      go_simp
      with_reducible rfl
     rotate_left
     ·simp only [Act.put, List.setIfInBounds_toArray, List.set_cons_zero, List.set_cons_succ, i64_w, i32_w]
      rfl
     refine pure_ (i := 7) (N := some 53) (v := ?_) (a' := ?_) #[false, true, true, true, true, false, false, true, false] rfl rfl (any_of HT_.out (by kernel_rfl)) (fun _ _ _ h => h) (Or.inl ⟨by rfl, ?_⟩) ?_ ?_
     rotate_left
     ·intro w'
      go_simp
      with_reducible rfl
     rotate_left
     ·simp only [Act.put, List.setIfInBounds_toArray, List.set_cons_zero, List.set_cons_succ, i64_w, i32_w]
      rfl
     refine take_ (i := 0) (N := some 46) (v := ?_) (a' := ?_) #[true, true, true, true, true, false, false, true, false] rfl rfl (take_ofW HT_.out HW_.out (by kernel_rfl)) (fun _ _ _ h => h) (Or.inl ⟨by rfl, ?_⟩) hHeld ?_ ?_
     rotate_left
     ·rintro w' ⟨s0, s1, s2, s3, s4⟩
      go_simp
      with_reducible rfl
     rotate_left
     ·simp only [Act.put, List.setIfInBounds_toArray, List.set_cons_zero, List.set_cons_succ, i64_w, i32_w]
      rfl
     refine take_ (i := 5) (N := some 51) (v := ?_) (a' := ?_) #[true, true, true, true, true, true, false, true, false] rfl rfl (take_ofW HT_.out HW_.out (by kernel_rfl)) (fun _ _ _ h => h) (Or.inl ⟨by rfl, ?_⟩) hHeld ?_ ?_
     rotate_left
     ·rintro w' ⟨s0, s1, s2, s3, s4⟩
      go_simp
      with_reducible rfl
     rotate_left
     ·simp only [Act.put, List.setIfInBounds_toArray, List.set_cons_zero, List.set_cons_succ, i64_w, i32_w]
      rfl
     refine one_ (i := 6) (N := some 52) #[true, true, true, true, true, true, true, true, false] rfl rfl (one_of HT_.out (by kernel_rfl)) (by decide) (fun K hK => ?_)
     refine goes_ Try.func113 (by kernel_rfl) rfl #[.agg #[.int .i64 a0_0, .bool a0_1, .slice A0_2 l0_2.length c0_2], .slice Ao42 x11_1.length co42, .agg #[.int .i64 ((rd_T38 l2 x12_1).f0), .bool false]] (by rfl) rfl rfl (by (try simp only [List.map_toArray, List.map_cons, List.map_nil]); first | done | rfl | (simp only [List.length_drop, List.length_take]; rfl)) ?_
     with_reducible refine (ebbtideref07_Left.calls a0_0 a0_1 _ _ l0_2 _ _ x11_1 ((rd_T38 l2 x12_1).f0) false t674 _ ?side1 ?side2 ?side3 ?side4 (by first | exact A23.out | (have h_ := A23.out; rw [← Nbq28.out] at h_; exact h_))).mono ?_
     (case side1 => repeat (first | exact (Kd.C_below HR0_2.out HB.out) | (with_reducible refine Kd.C_alloc ?_ _) | (with_reducible refine Kd.C_drewN ?_ _) | (with_reducible refine Kd.C_drew ?_)))
     (case side2 => exact HC0_2.out)
     (case side3 => repeat (first | exact (Kd.R_reads' HO_11.out).2.2 | (with_reducible refine Kd.C_alloc ?_ _) | (with_reducible refine Kd.C_drewN ?_ _) | (with_reducible refine Kd.C_drew ?_)))
     (case side4 => exact (Kd.R_reads' HO_11.out).2.1)
     rintro e w43 ⟨rfl, hb⟩
     refine ⟨_, rfl, ?_⟩
     have n0_ := Aside0.mk (Kd.R_below (by (with_reducible repeat (first | apply Kd.R_alloc | apply Kd.R_drewN | apply Kd.R_drew)); exact HO_11.out) hb)
     have n1_ := Aside0.mk (blk_below (g := gb666) (o := .cells #[.int .i64 a0_0, .bool a0_1, .slice A0_2 l0_2.length c0_2] 24 (0, 0)) (by (with_reducible repeat (first | refine blk_drewN ?_ _ | refine blk_drew ?_ | refine blk_alloc ?_ _)); exact BK666.out) hb)
     have n2_ := Aside0.mk (below_step (by repeat (first | (with_reducible first | exact HB.out | apply below_alloc | apply pw_below_drewN | apply below_drew1 | refine below_set ?_ GE666.out) | exact HB.out)) hb)
     clear HO_11
     clear BK666
     clear HB
     have HO_11 := n0_
     have BK666 := n1_
     have HB := n2_
     clear n0_ n1_ n2_
     (try clear hb)
     (try clear hb2)
     (try clear hk)
     (try clear hi)
     refine hK.out _ _ ⟨(blk_cell BK666.out 0).trans rfl, (blk_cell BK666.out 1).trans rfl, (blk_cell BK666.out 2).trans rfl, ((HB.out.cell (World.block_lt_of_cell? w _ hw673_0)).trans hw673_0), ((HB.out.cell (World.block_lt_of_cell? w _ hw673_1)).trans hw673_1)⟩ (fun hHeld => ?_)
     clear hK K
     refine norm_ (a' := ?_) ?_ ?_
     rotate_left
     ·show Act.put _ (some 52) _ = _
      simp only [Act.put, List.setIfInBounds_toArray, List.set_cons_zero, List.set_cons_succ, i64_w, i32_w]
      rfl
     refine pure_ (i := 8) (N := some 54) (v := ?_) (a' := ?_) #[true, true, true, true, true, true, true, true, true] rfl rfl (any_of HT_.out (by kernel_rfl)) (fun _ _ _ h => h) (Or.inl ⟨by rfl, ?_⟩) ?_ ?_
     rotate_left
     ·intro w'
      go_simp
      with_reducible rfl
     rotate_left
     ·simp only [Act.put, List.setIfInBounds_toArray, List.set_cons_zero, List.set_cons_succ, i64_w, i32_w]
      rfl
     refine done_ (done_of HT_.out (by kernel_rfl)) ?_
     have p675 : 0 ≤ (x12_1 : Int) := of_decide_eq_true (by first | (with_reducible assumption) | assumption)
     have q675 : x12_1 < (l2.length : Int) := of_decide_eq_true (by first | (with_reducible assumption) | assumption)
     obtain ⟨ad675, e675, hx675_0, hx675_1⟩ := at_T38 HR2.out x12_1 p675 q675
     (try rw [← Nbq28.out] at hx675_1)
     obtain rfl : ad673 = ad675 := (by injection e675)
     replace hx675_0 := (HB.out.cell (World.block_lt_of_cell? w _ hx675_0)).trans hx675_0
     replace hx675_1 := (HB.out.cell (World.block_lt_of_cell? w _ hx675_1)).trans hx675_1
     replace p675 := eq_true p675
     replace q675 := eq_true q675
     try go_wp2
     have n0_ := Aside0.mk (Kd.R_drew HO_11.out)
     have n1_ := Aside0.mk (blk_drew BK666.out)
     have n2_ := Aside0.mk (below_drew1 HB.out)
     clear HO_11
     clear BK666
     clear HB
     have HO_11 := n0_
     have BK666 := n1_
     have HB := n2_
     clear n0_ n1_ n2_
     have p680 : 0 ≤ (x12_1 : Int) := of_decide_eq_true (by first | (with_reducible assumption) | assumption)
     have q680 : x12_1 < (l2.length : Int) := of_decide_eq_true (by first | (with_reducible assumption) | assumption)
     obtain ⟨ad680, e680, hx680_0, hx680_1⟩ := at_T38 HR2.out x12_1 p680 q680
     have hw680_1 := hx680_1
     have hw680_0 := hx680_0
     (try rw [← Nbq28.out] at hx680_1)
     (try rw [← Nbq28.out] at hw680_1)
     obtain rfl : ad673 = ad680 := (by injection e680)
     replace hx680_0 := (HB.out.cell (World.block_lt_of_cell? w _ hx680_0)).trans hx680_0
     replace hx680_1 := (HB.out.cell (World.block_lt_of_cell? w _ hx680_1)).trans hx680_1
     replace p680 := eq_true p680
     replace q680 := eq_true q680
     have p681 : 0 ≤ (x12_1 : Int) := of_decide_eq_true (by first | (with_reducible assumption) | assumption)
     have q681 : x12_1 < (l2.length : Int) := of_decide_eq_true (by first | (with_reducible assumption) | assumption)
     obtain ⟨ad681, e681, hx681_0, hx681_1⟩ := at_T38 HR2.out x12_1 p681 q681
     have hw681_1 := hx681_1
     have hw681_0 := hx681_0
     (try rw [← Nbq28.out] at hx681_1)
     (try rw [← Nbq28.out] at hw681_1)
     obtain rfl : ad673 = ad681 := (by injection e681)
     replace hx681_0 := (HB.out.cell (World.block_lt_of_cell? w _ hx681_0)).trans hx681_0
     replace hx681_1 := (HB.out.cell (World.block_lt_of_cell? w _ hx681_1)).trans hx681_1
     replace p681 := eq_true p681
     replace q681 := eq_true q681
     have p682 : 0 ≤ (((rd_T38 l2 x12_1).f0) : Int) := of_decide_eq_true (by first | (with_reducible assumption) | assumption)
     have q682 : ((rd_T38 l2 x12_1).f0) < (x11_1.length : Int) := of_decide_eq_true (by first | (with_reducible assumption) | assumption)
     obtain ⟨ad682, e682, hx682_0⟩ := Kd.at_int (Kd.R_reads' HO_11.out).2.2 ((rd_T38 l2 x12_1).f0) p682 q682
     cases e682
     replace p682 := eq_true p682
     replace q682 := eq_true q682
     have p40 : 0 ≤ (((rd_T38 l2 x12_1).f0) : Int) := of_decide_eq_true (by first | (with_reducible assumption) | assumption)
     have q40 : (((rd_T38 l2 x12_1).f0) : Int) < ((x11_1.length : Int) : Int) := of_decide_eq_true (by first | (with_reducible assumption) | assumption)
     obtain ⟨go40, co40, eo40, gb40, gl40, cl40, HG40⟩ := Kd.R_form HO_11.out (by omega)
     (first | cases eo40 | (injection eo40 with ea_ en_ ec_; (first | subst ea_ | (injection ea_ with ea_; subst ea_)); subst ec_; clear en_))
     have GB40 := Aside0.mk gb40
     have GG40 := Aside0.mk HG40
     clear gb40 gl40 HG40
     (first | simp only [add_plain] at hx682_0 | skip)
     obtain ⟨hx40_0, hf40_0⟩ := Kd.R_celln 0 HO_11.out (((rd_T38 l2 x12_1).f0) : Int) p40 q40
     replace p40 := eq_true p40
     replace q40 := eq_true q40
     have HP45 := Kd.R_putn HO_11.out (((rd_T38 l2 x12_1).f0) : Int) (wrap64 ((rd x11_1 ((rd_T38 l2 x12_1).f0)) + a3))
     rw [← Ny683.out] at HP45
     have HQ45 := Aside0.mk HP45
     clear HP45
     refine start_ (n := 18) (S := fun w' => w'.cell? (ad673.add ((x12_1).toNat * 2)) = some (.int .i64 ((rd_T38 l2 x12_1).f0)) ∧ w'.cell? ⟨(ad673.add ((x12_1).toNat * 2)).block, (ad673.add ((x12_1).toNat * 2)).off + 1, none⟩ = some (.bool (false)) ∧ w'.cell? (ad673.add ((x12_1).toNat * 2)) = some (.int .i64 ((rd_T38 l2 x12_1).f0)) ∧ w'.cell? ⟨(ad673.add ((x12_1).toNat * 2)).block, (ad673.add ((x12_1).toNat * 2)).off + 1, none⟩ = some (.bool (false)) ∧ w'.cell? ⟨go40, (((rd_T38 l2 x12_1).f0)).toNat, none⟩ = some (.int .i64 (rd x11_1 ((rd_T38 l2 x12_1).f0)))) (ds := [17]) #[false, false, false, false, false, false, false, false, false, false, false, false, false, false, false, false, false, false] (by kernel_rfl) rfl rfl ⟨((HB.out.cell (World.block_lt_of_cell? w _ hw680_0)).trans hw680_0), ((HB.out.cell (World.block_lt_of_cell? w _ hw680_1)).trans hw680_1), ((HB.out.cell (World.block_lt_of_cell? w _ hw681_0)).trans hw681_0), ((HB.out.cell (World.block_lt_of_cell? w _ hw681_1)).trans hw681_1), hx682_0⟩ (fun hHeld => ?_); refine with_tabW ebbtideref07_Push.tab17 ebbtideref07_Push.bits17 (fun HT_ HW_ => ?_)
     generalize w43.drew = w44 at HO_11 BK666 HB GG40 HQ45 hf40_0 hx40_0 hx680_0 hx680_1 hx681_0 hx681_1 hx682_0 hHeld ⊢
     refine pure_ (i := 0) (N := some 77) (v := ?_) (a' := ?_) #[true, false, false, false, false, false, false, false, false, false, false, false, false, false, false, false, false, false] rfl rfl (any_of HT_.out (by kernel_rfl)) (fun _ _ _ h => h) (Or.inl ⟨by rfl, ?_⟩) ?_ ?_
     rotate_left
     ·intro w'
      go_simp
      with_reducible rfl
     rotate_left
     ·simp only [Act.put, List.setIfInBounds_toArray, List.set_cons_zero, List.set_cons_succ, i64_w, i32_w]
      rfl
     refine pure_ (i := 1) (N := some 78) (v := ?_) (a' := ?_) #[true, true, false, false, false, false, false, false, false, false, false, false, false, false, false, false, false, false] rfl rfl (any_of HT_.out (by kernel_rfl)) (fun _ _ _ h => h) (Or.inl ⟨by rfl, ?_⟩) ?_ ?_
     rotate_left
     ·intro w'
      go_simp
      with_reducible rfl
     rotate_left
     ·simp only [Act.put, List.setIfInBounds_toArray, List.set_cons_zero, List.set_cons_succ, i64_w, i32_w]
      rfl
     refine pure_ (i := 2) (N := some 79) (v := ?_) (a' := ?_) #[true, true, true, false, false, false, false, false, false, false, false, false, false, false, false, false, false, false] rfl rfl (any_of HT_.out (by kernel_rfl)) (fun _ _ _ h => h) (Or.inl ⟨by rfl, ?_⟩) ?_ ?_
     rotate_left
     ·intro w'
      go_simp
      with_reducible rfl
     rotate_left
     ·simp only [Act.put, List.setIfInBounds_toArray, List.set_cons_zero, List.set_cons_succ, i64_w, i32_w]
      rfl
     refine pure_ (i := 3) (N := some 80) (v := ?_) (a' := ?_) #[true, true, true, true, false, false, false, false, false, false, false, false, false, false, false, false, false, false] rfl rfl (any_of HT_.out (by kernel_rfl)) (fun _ _ _ h => h) (Or.inl ⟨by rfl, ?_⟩) ?_ ?_
     rotate_left
     ·intro w'
      go_simp
      with_reducible rfl
     rotate_left
     ·simp only [Act.put, List.setIfInBounds_toArray, List.set_cons_zero, List.set_cons_succ, i64_w, i32_w]
      rfl
     refine pure_ (i := 4) (N := some 81) (v := ?_) (a' := ?_) #[true, true, true, true, true, false, false, false, false, false, false, false, false, false, false, false, false, false] rfl rfl (any_of HT_.out (by kernel_rfl)) (fun _ _ _ h => h) (Or.inl ⟨by rfl, ?_⟩) ?_ ?_
     rotate_left
     ·intro w'
      go_simp
      with_reducible rfl
     rotate_left
     ·simp only [Act.put, List.setIfInBounds_toArray, List.set_cons_zero, List.set_cons_succ, i64_w, i32_w]
      rfl
     refine pure_ (i := 6) (N := some 83) (v := ?_) (a' := ?_) #[true, true, true, true, true, false, true, false, false, false, false, false, false, false, false, false, false, false] rfl rfl (any_of HT_.out (by kernel_rfl)) (fun _ _ _ h => h) (Or.inl ⟨by rfl, ?_⟩) ?_ ?_
     rotate_left
     ·intro w'
      go_simp
      with_reducible rfl
     rotate_left
     ·simp only [Act.put, List.setIfInBounds_toArray, List.set_cons_zero, List.set_cons_succ, i64_w, i32_w]
      rfl
     refine pure_ (i := 7) (N := some 84) (v := ?_) (a' := ?_) #[true, true, true, true, true, false, true, true, false, false, false, false, false, false, false, false, false, false] rfl rfl (any_of HT_.out (by kernel_rfl)) (fun _ _ _ h => h) (Or.inl ⟨by rfl, ?_⟩) ?_ ?_
     rotate_left
     ·intro w'
      go_simp
      with_reducible rfl
     rotate_left
     ·simp only [Act.put, List.setIfInBounds_toArray, List.set_cons_zero, List.set_cons_succ, i64_w, i32_w]
      rfl
     refine pure_ (i := 8) (N := some 85) (v := ?_) (a' := ?_) #[true, true, true, true, true, false, true, true, true, false, false, false, false, false, false, false, false, false] rfl rfl (any_of HT_.out (by kernel_rfl)) (fun _ _ _ h => h) (Or.inl ⟨by rfl, ?_⟩) ?_ ?_
     rotate_left
     ·intro w'
      go_simp
      with_reducible rfl
     rotate_left
     ·simp only [Act.put, List.setIfInBounds_toArray, List.set_cons_zero, List.set_cons_succ, i64_w, i32_w]
      rfl
     refine pure_ (i := 9) (N := some 86) (v := ?_) (a' := ?_) #[true, true, true, true, true, false, true, true, true, true, false, false, false, false, false, false, false, false] rfl rfl (any_of HT_.out (by kernel_rfl)) (fun _ _ _ h => h) (Or.inl ⟨by rfl, ?_⟩) ?_ ?_
     rotate_left
     ·intro w'
      go_simp
      with_reducible rfl
     rotate_left
     ·simp only [Act.put, List.setIfInBounds_toArray, List.set_cons_zero, List.set_cons_succ, i64_w, i32_w]
      rfl
     refine pure_ (i := 10) (N := some 87) (v := ?_) (a' := ?_) #[true, true, true, true, true, false, true, true, true, true, true, false, false, false, false, false, false, false] rfl rfl (any_of HT_.out (by kernel_rfl)) (fun _ _ _ h => h) (Or.inl ⟨by rfl, ?_⟩) ?_ ?_
     rotate_left
     ·intro w'
      go_simp
      with_reducible rfl
     rotate_left
     ·simp only [Act.put, List.setIfInBounds_toArray, List.set_cons_zero, List.set_cons_succ, i64_w, i32_w]
      rfl
     refine pure_ (i := 14) (N := some 91) (v := ?_) (a' := ?_) #[true, true, true, true, true, false, true, true, true, true, true, false, false, false, true, false, false, false] rfl rfl (any_of HT_.out (by kernel_rfl)) (fun _ _ _ h => h) (Or.inl ⟨by rfl, ?_⟩) ?_ ?_
     rotate_left
     ·intro w'
      go_simp
      with_reducible rfl
     rotate_left
     ·simp only [Act.put, List.setIfInBounds_toArray, List.set_cons_zero, List.set_cons_succ, i64_w, i32_w]
      rfl
     refine take_ (i := 5) (N := some 82) (v := ?_) (a' := ?_) #[true, true, true, true, true, true, true, true, true, true, true, false, false, false, true, false, false, false] rfl rfl (take_ofW HT_.out HW_.out (by kernel_rfl)) (fun _ _ _ h => h) (Or.inl ⟨by rfl, ?_⟩) hHeld ?_ ?_
     rotate_left
     ·rintro w' ⟨s0, s1, s2, s3, s4⟩
      go_simp
      with_reducible rfl
     rotate_left
     ·simp only [Act.put, List.setIfInBounds_toArray, List.set_cons_zero, List.set_cons_succ, i64_w, i32_w]
      rfl
     refine take_ (i := 11) (N := some 88) (v := ?_) (a' := ?_) #[true, true, true, true, true, true, true, true, true, true, true, true, false, false, true, false, false, false] rfl rfl (take_ofW HT_.out HW_.out (by kernel_rfl)) (fun _ _ _ h => h) (Or.inl ⟨by rfl, ?_⟩) hHeld ?_ ?_
     rotate_left
     ·rintro w' ⟨s0, s1, s2, s3, s4⟩
      go_simp
      with_reducible rfl
     rotate_left
     ·simp only [Act.put, List.setIfInBounds_toArray, List.set_cons_zero, List.set_cons_succ, i64_w, i32_w]
      rfl
     refine pure_ (i := 12) (N := some 89) (v := ?_) (a' := ?_) #[true, true, true, true, true, true, true, true, true, true, true, true, true, false, true, false, false, false] rfl rfl (any_of HT_.out (by kernel_rfl)) (fun _ _ _ h => h) (Or.inl ⟨by rfl, ?_⟩) ?_ ?_
     rotate_left
     ·intro w'
      go_simp
      with_reducible rfl
     rotate_left
     ·simp only [Act.put, List.setIfInBounds_toArray, List.set_cons_zero, List.set_cons_succ, i64_w, i32_w]
      rfl
     refine take_ (i := 13) (N := some 90) (v := ?_) (a' := ?_) #[true, true, true, true, true, true, true, true, true, true, true, true, true, true, true, false, false, false] rfl rfl (take_ofW HT_.out HW_.out (by kernel_rfl)) (fun _ _ _ h => h) (Or.inl ⟨by rfl, ?_⟩) hHeld ?_ ?_
     rotate_left
     ·rintro w' ⟨s0, s1, s2, s3, s4⟩
      go_simp
      with_reducible rfl
     rotate_left
     ·simp only [Act.put, List.setIfInBounds_toArray, List.set_cons_zero, List.set_cons_succ, i64_w, i32_w]
      rfl
     refine pure_ (i := 15) (N := some 92) (v := ?_) (a' := ?_) #[true, true, true, true, true, true, true, true, true, true, true, true, true, true, true, true, false, false] rfl rfl (any_of HT_.out (by kernel_rfl)) (fun _ _ _ h => h) (Or.inl ⟨by rfl, ?_⟩) ?_ ?_
     rotate_left
     ·intro w'
      go_simp
      with_reducible rfl
     rotate_left
     ·simp only [Act.put, List.setIfInBounds_toArray, List.set_cons_zero, List.set_cons_succ, i64_w, i32_w]
      rfl
     refine pure_ (i := 16) (N := some 93) (v := ?_) (a' := ?_) #[true, true, true, true, true, true, true, true, true, true, true, true, true, true, true, true, true, false] rfl rfl (any_of HT_.out (by kernel_rfl)) (fun _ _ _ h => h) (Or.inl ⟨by rfl, ?_⟩) ?_ ?_
     rotate_left
     ·intro w'
      go_simp
      with_reducible rfl
     rotate_left
     ·simp only [Act.put, List.setIfInBounds_toArray, List.set_cons_zero, List.set_cons_succ, i64_w, i32_w]
      rfl
     refine last_ (i := 17) (N := none) #[true, true, true, true, true, true, true, true, true, true, true, true, true, true, true, true, true, true] rfl rfl (one_of HT_.out (by kernel_rfl)) (by decide) (fun K hK => ?_)
     refine skip_ (w1 := ?_) (by rfl) rfl ?_ ?_
     rotate_left
     ·go_simp
      rfl
     refine hK.out _ _ ?_
     clear hK K
     refine done_ (done_of HT_.out (by kernel_rfl)) ?_
     try go_wp2
     go_roundg kj16
     case measure => have := HK1.out; have := HJ16.out; omega
     case rel => exact ⟨(y683), (wrap64 (x12_1 + 1)), (by first | rfl | (simp; done) | (simp [*]; done)), H', ⟨by have := HK1.out; have := HJ16.out; omega⟩, ⟨by (with_reducible repeat (first | apply Kd.R_alloc | apply Kd.R_drewN | apply Kd.R_drew)); exact HQ45.out⟩, ⟨by (with_reducible repeat (first | refine blk_drewN ?_ _ | refine blk_drew ?_ | refine blk_alloc ?_ _)); refine blk_far ?_ (by have h_ := Kd.R_ne HO_11.out BK666.out (by decide); intro e_; exact h_ (by rw [e_]; rfl)) _; (with_reducible repeat (first | refine blk_drewN ?_ _ | refine blk_drew ?_ | refine blk_alloc ?_ _)); exact BK666.out⟩, ⟨by repeat (first | (with_reducible first | exact HB.out | apply below_alloc | apply pw_below_drewN | apply below_drew1 | refine below_set ?_ GB40.out | refine below_set ?_ GE666.out) | exact HB.out)⟩⟩
end Go.Proofs.Ytkcpanpdipmmmaa.P
namespace Go.Proofs.Ytkcpanpdipmmmaa.P
open Go.RowKit Go.Proofs.YtkcpanpdipmmmaaW.PrintWords Go.Proofs.YtkcpanpdipmmmaaW.PrintLast Go.Proofs.YtkcpanpdipmmmaaW.PrintMore
attribute [local go_sem] max2_int min2_int max_two min_two max_three min_three max_four min_four
mutual
def ebbtidelaw08_LevelMore.j0 : Nat → List Int → Int → Int → Bool → List (S38) → Bool → Int → Int → Int → Bool → Int → Bool → List (S74) → Option (Bool)
 | 0, _, _, _, _, _, _, _, _, _, _, _, _, _ => none
 | k + 1, x1, x2, x3, x9, x10, x11, x12, x13, x14, x55, x685000, x685001, x685002 => if x55 = true then (if x9 = true then (if x12 = 0 then (if x14 = 0 then (some (!x11)) else (some true)) else (some true)) else (some false)) else (ebbtidelaw08_LevelMore.l0 k x1 x2 x3 x9 x10 x13 0 x685000 x685001 x685002)
def ebbtidelaw08_LevelMore.l0 : Nat → List Int → Int → Int → Bool → List (S38) → Int → Int → Int → Bool → List (S74) → Option (Bool)
 | 0, _, _, _, _, _, _, _, _, _, _ => none
 | k + 1, x1, x2, x3, x9, x10, x13, x15, x685000, x685001, x685002 => if x15 < (x10.length : Int) then (if 0 ≤ x15 then (if ((rd_T38 x10 x15).f0) < 0 then (some false) else (if ((rd_T38 x10 x15).f0) ≥ (x685002.length : Int) then (some false) else (ebbtidelaw08_LevelMore.l0 k x1 x2 x3 x9 x10 x13 (wrap64 (x15 + 1)) x685000 x685001 x685002))) else (none)) else ((ebbtideref08_Bottle.f k x685000 x685001 x685002 x1 x10).bind fun t695 => ((ebbtideref07_Push.f k x685000 x685001 x685002 x1 x10 t695).bind fun bt696 => ((ebbtideref07_Check.f k x685000 x685001 x685002 x2 x3 bt696.1).bind fun bt700 => (if x9 = true then (if t695 > 0 then (if bt696.2 = 0 then (if bt700.2 = 0 then (some (bt700.1 == (wrap64 (x13 + t695)))) else (some false)) else (some false)) else (some false)) else (some false)))))
end
def ebbtidelaw08_LevelMore.f (k : Nat) (a0_0 : Int) (a0_1 : Bool) (l0_2 : List (S74)) (l1 : List Int) (a2 : Int) (a3 : Int) : Option (Bool) := (ebbtidelaw08_awake.f k).bind fun t685 => (if t685 = true then ((level_Path.f a0_0 a0_1 l0_2 l1 a2 a3).bind fun bt686 => ((ebbtideref07_Check.f k a0_0 a0_1 l0_2 a2 a3 l1).bind fun bt691 => (if bt686.2.2 = 0 then (if bt691.2 = 0 then (if bt686.2.1 = true then (ebbtidelaw08_LevelMore.j0 k l1 a2 a3 t685 bt686.1 bt686.2.1 bt686.2.2 bt691.1 bt691.2 ((bt686.1.length : Int) == 0) a0_0 a0_1 l0_2) else (ebbtidelaw08_LevelMore.j0 k l1 a2 a3 t685 bt686.1 bt686.2.1 bt686.2.2 bt691.1 bt691.2 true a0_0 a0_1 l0_2)) else (ebbtidelaw08_LevelMore.j0 k l1 a2 a3 t685 bt686.1 bt686.2.1 bt686.2.2 bt691.1 bt691.2 true a0_0 a0_1 l0_2)) else (ebbtidelaw08_LevelMore.j0 k l1 a2 a3 t685 bt686.1 bt686.2.1 bt686.2.2 bt691.1 bt691.2 true a0_0 a0_1 l0_2)))) else (some false))
set_option maxHeartbeats 8000000 in
set_option maxRecDepth 100000 in
theorem ebbtidelaw08_LevelMore.calls (k : Nat) (a0_0 : Int) (a0_1 : Bool) (A0_2 : Option Addr) (c0_2 : Nat) (l0_2 : List (S74)) (A1 : Option Addr) (c1 : Nat) (l1 : List Int) (a2 : Int) (a3 : Int) (r : Bool) (w : World) (hr0_2 : Kd.C k74 w A0_2 l0_2.length l0_2) (hc0_2 : l0_2.length ≤ c0_2) (hr1 : Kd.C (Kd.int .i64) w A1 l1.length l1) (hc1 : l1.length ≤ c1) (h : ebbtidelaw08_LevelMore.f k a0_0 a0_1 l0_2 l1 a2 a3 = some r) (hrT_ : r = true := by first | rfl | exact Aside0.out (by assumption)) :
  Calls Try.prog 13 #[.agg #[.int .i64 a0_0, .bool a0_1, .slice A0_2 l0_2.length c0_2], .slice A1 l1.length c1, .int .i64 a2, .int .i64 a3] w fun e w' => e = .returned (.bool r) ∧ Below w.heap.size w w' := by
 have HRT := Aside0.mk hrT_
 clear hrT_
 have hu24 := Try.underlying24
 have HR0_2 := Aside0.mk hr0_2
 have HC0_2 := Aside0.mk hc0_2
 clear hr0_2 hc0_2
 have HR1 := Aside0.mk hr1
 have HC1 := Aside0.mk hc1
 clear hr1 hc1
 have HB := Aside0.mk (Below.refl w.heap.size w)
 have H : ((ebbtidelaw08_awake.f k).bind fun t685 => (if t685 = true then ((level_Path.f a0_0 a0_1 l0_2 l1 a2 a3).bind fun bt686 => ((ebbtideref07_Check.f k a0_0 a0_1 l0_2 a2 a3 l1).bind fun bt691 => (if bt686.2.2 = 0 then (if bt691.2 = 0 then (if bt686.2.1 = true then (ebbtidelaw08_LevelMore.j0 k l1 a2 a3 t685 bt686.1 bt686.2.1 bt686.2.2 bt691.1 bt691.2 ((bt686.1.length : Int) == 0) a0_0 a0_1 l0_2) else (ebbtidelaw08_LevelMore.j0 k l1 a2 a3 t685 bt686.1 bt686.2.1 bt686.2.2 bt691.1 bt691.2 true a0_0 a0_1 l0_2)) else (ebbtidelaw08_LevelMore.j0 k l1 a2 a3 t685 bt686.1 bt686.2.1 bt686.2.2 bt691.1 bt691.2 true a0_0 a0_1 l0_2)) else (ebbtidelaw08_LevelMore.j0 k l1 a2 a3 t685 bt686.1 bt686.2.1 bt686.2.2 bt691.1 bt691.2 true a0_0 a0_1 l0_2)))) else (some false))) = some r := h
 clear h
 replace H := Option.bind_eq_some_iff.mp H
 obtain ⟨t685, A50, H⟩ := H
 replace H : (if t685 = true then ((level_Path.f a0_0 a0_1 l0_2 l1 a2 a3).bind fun bt686 => ((ebbtideref07_Check.f k a0_0 a0_1 l0_2 a2 a3 l1).bind fun bt691 => (if bt686.2.2 = 0 then (if bt691.2 = 0 then (if bt686.2.1 = true then (ebbtidelaw08_LevelMore.j0 k l1 a2 a3 t685 bt686.1 bt686.2.1 bt686.2.2 bt691.1 bt691.2 ((bt686.1.length : Int) == 0) a0_0 a0_1 l0_2) else (ebbtidelaw08_LevelMore.j0 k l1 a2 a3 t685 bt686.1 bt686.2.1 bt686.2.2 bt691.1 bt691.2 true a0_0 a0_1 l0_2)) else (ebbtidelaw08_LevelMore.j0 k l1 a2 a3 t685 bt686.1 bt686.2.1 bt686.2.2 bt691.1 bt691.2 true a0_0 a0_1 l0_2)) else (ebbtidelaw08_LevelMore.j0 k l1 a2 a3 t685 bt686.1 bt686.2.1 bt686.2.2 bt691.1 bt691.2 true a0_0 a0_1 l0_2)))) else (some false)) = some r := H
 have A5 := Aside0.mk A50
 clear A50
 by_cases c6 : t685 = true
 rotate_left
 ·replace c6 := Bool.eq_false_iff.mpr c6
  subst c6
  have H1 : (some false) = some r := by rw [if_neg (show ¬ (false = true) by decide)] at H; exact H
  exact absurd (Option.some.inj H1) (by rw [HRT.out]; decide)
 subst c6
 have H1 : ((level_Path.f a0_0 a0_1 l0_2 l1 a2 a3).bind fun bt686 => ((ebbtideref07_Check.f k a0_0 a0_1 l0_2 a2 a3 l1).bind fun bt691 => (if bt686.2.2 = 0 then (if bt691.2 = 0 then (if bt686.2.1 = true then (ebbtidelaw08_LevelMore.j0 k l1 a2 a3 true bt686.1 bt686.2.1 bt686.2.2 bt691.1 bt691.2 ((bt686.1.length : Int) == 0) a0_0 a0_1 l0_2) else (ebbtidelaw08_LevelMore.j0 k l1 a2 a3 true bt686.1 bt686.2.1 bt686.2.2 bt691.1 bt691.2 true a0_0 a0_1 l0_2)) else (ebbtidelaw08_LevelMore.j0 k l1 a2 a3 true bt686.1 bt686.2.1 bt686.2.2 bt691.1 bt691.2 true a0_0 a0_1 l0_2)) else (ebbtidelaw08_LevelMore.j0 k l1 a2 a3 true bt686.1 bt686.2.1 bt686.2.2 bt691.1 bt691.2 true a0_0 a0_1 l0_2)))) = some r := by rw [if_pos rfl] at H; exact H
 clear H
 have H := H1
 clear H1
 replace H := Option.bind_eq_some_iff.mp H
 obtain ⟨⟨t686, t689, t690⟩, A70, H⟩ := H
 replace H : ((ebbtideref07_Check.f k a0_0 a0_1 l0_2 a2 a3 l1).bind fun bt691 => (if t690 = 0 then (if bt691.2 = 0 then (if t689 = true then (ebbtidelaw08_LevelMore.j0 k l1 a2 a3 true t686 t689 t690 bt691.1 bt691.2 ((t686.length : Int) == 0) a0_0 a0_1 l0_2) else (ebbtidelaw08_LevelMore.j0 k l1 a2 a3 true t686 t689 t690 bt691.1 bt691.2 true a0_0 a0_1 l0_2)) else (ebbtidelaw08_LevelMore.j0 k l1 a2 a3 true t686 t689 t690 bt691.1 bt691.2 true a0_0 a0_1 l0_2)) else (ebbtidelaw08_LevelMore.j0 k l1 a2 a3 true t686 t689 t690 bt691.1 bt691.2 true a0_0 a0_1 l0_2))) = some r := H
 have A7 := Aside0.mk A70
 clear A70
 replace H := Option.bind_eq_some_iff.mp H
 obtain ⟨⟨t691, t692⟩, A80, H⟩ := H
 replace H : (if t690 = 0 then (if t692 = 0 then (if t689 = true then (ebbtidelaw08_LevelMore.j0 k l1 a2 a3 true t686 t689 t690 t691 t692 ((t686.length : Int) == 0) a0_0 a0_1 l0_2) else (ebbtidelaw08_LevelMore.j0 k l1 a2 a3 true t686 t689 t690 t691 t692 true a0_0 a0_1 l0_2)) else (ebbtidelaw08_LevelMore.j0 k l1 a2 a3 true t686 t689 t690 t691 t692 true a0_0 a0_1 l0_2)) else (ebbtidelaw08_LevelMore.j0 k l1 a2 a3 true t686 t689 t690 t691 t692 true a0_0 a0_1 l0_2)) = some r := H
 have A8 := Aside0.mk A80
 clear A80
 have HC9 := Aside0.mk H
 clear H
 go_enter Try.func13, Try.ntmps13
 go_upto_region 6 with (first | ((with_reducible refine gate_dst (N := 4) rfl ?_); (try (refine gate_guard (by rfl) ?_; dsimp only)); refine box_event ?hg (N := 4) ?hd (cs := #[.int .i64 a0_0, .bool a0_1, .slice A0_2 l0_2.length c0_2]) (t := 24) ?hr ?_; (case hd => rfl); (case hg => rfl); (case hr => first | (go_simp; done) | (go_simp; rfl)); intro gb684 hg w10 hbox hb; have n0_ := Aside0.mk (below_step (by repeat (first | (with_reducible first | exact HB.out | apply below_alloc | apply pw_below_drewN | apply below_drew1) | exact HB.out)) hb); have n1_ := Aside0.mk (hbox); have n2_ := Aside0.mk ((by rw [hg]; exact (below_size (by repeat (first | (with_reducible first | exact HB.out | apply below_alloc | apply pw_below_drewN | apply below_drew1) | exact HB.out))) : w.heap.size ≤ gb684)); have n3_ := Aside0.mk ((by rw [hg]; exact (below_size (by repeat (first | (with_reducible first | exact HB.out | apply below_alloc | apply pw_below_drewN | apply below_drew1) | exact HB.out))) : w.heap.size ≤ gb684)); clear HB; have HB := n0_; have BK684 := n1_; have GW684 := n2_; have GE684 := n3_; clear n0_ n1_ n2_ n3_; clear hb hbox hg) | (go_at_call 55; (with_reducible refine (ebbtidelaw08_awake.calls k  true _ A5.out).mono ?_); rintro e w11 ⟨rfl, hb⟩; have n0_ := Aside0.mk (blk_below (g := gb684) (o := .cells #[.int .i64 a0_0, .bool a0_1, .slice A0_2 l0_2.length c0_2] 24 (0, 0)) (by (with_reducible repeat (first | refine blk_drewN ?_ _ | refine blk_drew ?_ | refine blk_alloc ?_ _)); exact BK684.out) hb); have n1_ := Aside0.mk (below_step (by repeat (first | (with_reducible first | exact HB.out | apply below_alloc | apply pw_below_drewN | apply below_drew1 | refine below_set ?_ GE684.out) | exact HB.out)) hb); clear BK684; clear HB; have BK684 := n0_; have HB := n1_; clear n0_ n1_; (try clear hb); (try clear hb2); (try clear hk); (try clear hi); have hcz12_0 : w11.cell? ⟨gb684, 0, none⟩ = some (.int .i64 a0_0) := (blk_cell BK684.out 0).trans rfl; have hcz12_1 : w11.cell? ⟨gb684, 1, none⟩ = some (.bool a0_1) := (blk_cell BK684.out 1).trans rfl; have hcz12_2 : w11.cell? ⟨gb684, 2, none⟩ = some (.slice A0_2 l0_2.length c0_2) := (blk_cell BK684.out 2).trans rfl; have hfz12_0 := blk_frozen BK684.out 0; have hfz12_1 := blk_frozen BK684.out 1; have hfz12_2 := blk_frozen BK684.out 2) | (go_at_call 56; (with_reducible refine (level_Path.calls a0_0 a0_1 _ _ l0_2 _ _ l1 a2 a3 t686 t689 t690 _ ?side1 ?side2 ?side3 ?side4 A7.out).mono ?_); (case side1 => repeat (first | exact (Kd.C_below HR0_2.out HB.out) | (with_reducible refine Kd.C_alloc ?_ _) | (with_reducible refine Kd.C_drewN ?_ _) | (with_reducible refine Kd.C_drew ?_))); (case side2 => exact HC0_2.out); (case side3 => repeat (first | exact (Kd.C_below HR1.out HB.out) | (with_reducible refine Kd.C_alloc ?_ _) | (with_reducible refine Kd.C_drewN ?_ _) | (with_reducible refine Kd.C_drew ?_))); (case side4 => exact HC1.out); rintro e w13 ⟨v687, rfl, ho0, hb⟩; have n0_ := Aside0.mk (Kd.R_lower ho0 (below_size (by repeat (first | (with_reducible first | exact HB.out | apply below_alloc | apply pw_below_drewN | apply below_drew1 | refine below_set ?_ GE684.out) | exact HB.out)))); have n1_ := Aside0.mk (blk_below (g := gb684) (o := .cells #[.int .i64 a0_0, .bool a0_1, .slice A0_2 l0_2.length c0_2] 24 (0, 0)) (by (with_reducible repeat (first | refine blk_drewN ?_ _ | refine blk_drew ?_ | refine blk_alloc ?_ _)); exact BK684.out) hb); have n2_ := Aside0.mk (below_step (by repeat (first | (with_reducible first | exact HB.out | apply below_alloc | apply pw_below_drewN | apply below_drew1 | refine below_set ?_ GE684.out) | exact HB.out)) hb); clear BK684; clear HB; have HO688 := n0_; have BK684 := n1_; have HB := n2_; clear n0_ n1_ n2_; (try clear hb); (try clear hb2); (try clear hk); (try clear hi); (try clear ho0); have hcz14_0 : w13.cell? ⟨gb684, 0, none⟩ = some (.int .i64 a0_0) := (blk_cell BK684.out 0).trans rfl; have hcz14_1 : w13.cell? ⟨gb684, 1, none⟩ = some (.bool a0_1) := (blk_cell BK684.out 1).trans rfl; have hcz14_2 : w13.cell? ⟨gb684, 2, none⟩ = some (.slice A0_2 l0_2.length c0_2) := (blk_cell BK684.out 2).trans rfl; have hfz14_0 := blk_frozen BK684.out 0; have hfz14_1 := blk_frozen BK684.out 1; have hfz14_2 := blk_frozen BK684.out 2) | (go_at_call 60; (with_reducible refine (ebbtideref07_Check.calls k a0_0 a0_1 _ _ l0_2 a2 a3 _ _ l1 t691 t692 _ ?side1 ?side2 ?side3 ?side4 A8.out).mono ?_); (case side1 => repeat (first | exact (Kd.C_below HR0_2.out HB.out) | (with_reducible refine Kd.C_alloc ?_ _) | (with_reducible refine Kd.C_drewN ?_ _) | (with_reducible refine Kd.C_drew ?_))); (case side2 => exact HC0_2.out); (case side3 => repeat (first | exact (Kd.C_below HR1.out HB.out) | (with_reducible refine Kd.C_alloc ?_ _) | (with_reducible refine Kd.C_drewN ?_ _) | (with_reducible refine Kd.C_drew ?_))); (case side4 => exact HC1.out); rintro e w15 ⟨rfl, hb⟩; have n0_ := Aside0.mk (Kd.R_below (by (with_reducible repeat (first | apply Kd.R_alloc | apply Kd.R_drewN | apply Kd.R_drew)); exact HO688.out) hb); have n1_ := Aside0.mk (blk_below (g := gb684) (o := .cells #[.int .i64 a0_0, .bool a0_1, .slice A0_2 l0_2.length c0_2] 24 (0, 0)) (by (with_reducible repeat (first | refine blk_drewN ?_ _ | refine blk_drew ?_ | refine blk_alloc ?_ _)); exact BK684.out) hb); have n2_ := Aside0.mk (below_step (by repeat (first | (with_reducible first | exact HB.out | apply below_alloc | apply pw_below_drewN | apply below_drew1 | refine below_set ?_ GE684.out) | exact HB.out)) hb); clear HO688; clear BK684; clear HB; have HO688 := n0_; have BK684 := n1_; have HB := n2_; clear n0_ n1_ n2_; (try clear hb); (try clear hb2); (try clear hk); (try clear hi)))
 repeat (go_quiet (first | ((with_reducible refine gate_dst (N := 4) rfl ?_); (try (refine gate_guard (by rfl) ?_; dsimp only)); refine box_event ?hg (N := 4) ?hd (cs := #[.int .i64 a0_0, .bool a0_1, .slice A0_2 l0_2.length c0_2]) (t := 24) ?hr ?_; (case hd => rfl); (case hg => rfl); (case hr => first | (go_simp; done) | (go_simp; rfl)); intro gb684 hg w10 hbox hb; have n0_ := Aside0.mk (below_step (by repeat (first | (with_reducible first | exact HB.out | apply below_alloc | apply pw_below_drewN | apply below_drew1) | exact HB.out)) hb); have n1_ := Aside0.mk (hbox); have n2_ := Aside0.mk ((by rw [hg]; exact (below_size (by repeat (first | (with_reducible first | exact HB.out | apply below_alloc | apply pw_below_drewN | apply below_drew1) | exact HB.out))) : w.heap.size ≤ gb684)); have n3_ := Aside0.mk ((by rw [hg]; exact (below_size (by repeat (first | (with_reducible first | exact HB.out | apply below_alloc | apply pw_below_drewN | apply below_drew1) | exact HB.out))) : w.heap.size ≤ gb684)); clear HB; have HB := n0_; have BK684 := n1_; have GW684 := n2_; have GE684 := n3_; clear n0_ n1_ n2_ n3_; clear hb hbox hg) | (go_at_call 55; (with_reducible refine (ebbtidelaw08_awake.calls k  true _ A5.out).mono ?_); rintro e w11 ⟨rfl, hb⟩; have n0_ := Aside0.mk (blk_below (g := gb684) (o := .cells #[.int .i64 a0_0, .bool a0_1, .slice A0_2 l0_2.length c0_2] 24 (0, 0)) (by (with_reducible repeat (first | refine blk_drewN ?_ _ | refine blk_drew ?_ | refine blk_alloc ?_ _)); exact BK684.out) hb); have n1_ := Aside0.mk (below_step (by repeat (first | (with_reducible first | exact HB.out | apply below_alloc | apply pw_below_drewN | apply below_drew1 | refine below_set ?_ GE684.out) | exact HB.out)) hb); clear BK684; clear HB; have BK684 := n0_; have HB := n1_; clear n0_ n1_; (try clear hb); (try clear hb2); (try clear hk); (try clear hi); have hcz12_0 : w11.cell? ⟨gb684, 0, none⟩ = some (.int .i64 a0_0) := (blk_cell BK684.out 0).trans rfl; have hcz12_1 : w11.cell? ⟨gb684, 1, none⟩ = some (.bool a0_1) := (blk_cell BK684.out 1).trans rfl; have hcz12_2 : w11.cell? ⟨gb684, 2, none⟩ = some (.slice A0_2 l0_2.length c0_2) := (blk_cell BK684.out 2).trans rfl; have hfz12_0 := blk_frozen BK684.out 0; have hfz12_1 := blk_frozen BK684.out 1; have hfz12_2 := blk_frozen BK684.out 2) | (go_at_call 56; (with_reducible refine (level_Path.calls a0_0 a0_1 _ _ l0_2 _ _ l1 a2 a3 t686 t689 t690 _ ?side1 ?side2 ?side3 ?side4 A7.out).mono ?_); (case side1 => repeat (first | exact (Kd.C_below HR0_2.out HB.out) | (with_reducible refine Kd.C_alloc ?_ _) | (with_reducible refine Kd.C_drewN ?_ _) | (with_reducible refine Kd.C_drew ?_))); (case side2 => exact HC0_2.out); (case side3 => repeat (first | exact (Kd.C_below HR1.out HB.out) | (with_reducible refine Kd.C_alloc ?_ _) | (with_reducible refine Kd.C_drewN ?_ _) | (with_reducible refine Kd.C_drew ?_))); (case side4 => exact HC1.out); rintro e w13 ⟨v687, rfl, ho0, hb⟩; have n0_ := Aside0.mk (Kd.R_lower ho0 (below_size (by repeat (first | (with_reducible first | exact HB.out | apply below_alloc | apply pw_below_drewN | apply below_drew1 | refine below_set ?_ GE684.out) | exact HB.out)))); have n1_ := Aside0.mk (blk_below (g := gb684) (o := .cells #[.int .i64 a0_0, .bool a0_1, .slice A0_2 l0_2.length c0_2] 24 (0, 0)) (by (with_reducible repeat (first | refine blk_drewN ?_ _ | refine blk_drew ?_ | refine blk_alloc ?_ _)); exact BK684.out) hb); have n2_ := Aside0.mk (below_step (by repeat (first | (with_reducible first | exact HB.out | apply below_alloc | apply pw_below_drewN | apply below_drew1 | refine below_set ?_ GE684.out) | exact HB.out)) hb); clear BK684; clear HB; have HO688 := n0_; have BK684 := n1_; have HB := n2_; clear n0_ n1_ n2_; (try clear hb); (try clear hb2); (try clear hk); (try clear hi); (try clear ho0); have hcz14_0 : w13.cell? ⟨gb684, 0, none⟩ = some (.int .i64 a0_0) := (blk_cell BK684.out 0).trans rfl; have hcz14_1 : w13.cell? ⟨gb684, 1, none⟩ = some (.bool a0_1) := (blk_cell BK684.out 1).trans rfl; have hcz14_2 : w13.cell? ⟨gb684, 2, none⟩ = some (.slice A0_2 l0_2.length c0_2) := (blk_cell BK684.out 2).trans rfl; have hfz14_0 := blk_frozen BK684.out 0; have hfz14_1 := blk_frozen BK684.out 1; have hfz14_2 := blk_frozen BK684.out 2) | (go_at_call 60; (with_reducible refine (ebbtideref07_Check.calls k a0_0 a0_1 _ _ l0_2 a2 a3 _ _ l1 t691 t692 _ ?side1 ?side2 ?side3 ?side4 A8.out).mono ?_); (case side1 => repeat (first | exact (Kd.C_below HR0_2.out HB.out) | (with_reducible refine Kd.C_alloc ?_ _) | (with_reducible refine Kd.C_drewN ?_ _) | (with_reducible refine Kd.C_drew ?_))); (case side2 => exact HC0_2.out); (case side3 => repeat (first | exact (Kd.C_below HR1.out HB.out) | (with_reducible refine Kd.C_alloc ?_ _) | (with_reducible refine Kd.C_drewN ?_ _) | (with_reducible refine Kd.C_drew ?_))); (case side4 => exact HC1.out); rintro e w15 ⟨rfl, hb⟩; have n0_ := Aside0.mk (Kd.R_below (by (with_reducible repeat (first | apply Kd.R_alloc | apply Kd.R_drewN | apply Kd.R_drew)); exact HO688.out) hb); have n1_ := Aside0.mk (blk_below (g := gb684) (o := .cells #[.int .i64 a0_0, .bool a0_1, .slice A0_2 l0_2.length c0_2] 24 (0, 0)) (by (with_reducible repeat (first | refine blk_drewN ?_ _ | refine blk_drew ?_ | refine blk_alloc ?_ _)); exact BK684.out) hb); have n2_ := Aside0.mk (below_step (by repeat (first | (with_reducible first | exact HB.out | apply below_alloc | apply pw_below_drewN | apply below_drew1 | refine below_set ?_ GE684.out) | exact HB.out)) hb); clear HO688; clear BK684; clear HB; have HO688 := n0_; have BK684 := n1_; have HB := n2_; clear n0_ n1_ n2_; (try clear hb); (try clear hb2); (try clear hk); (try clear hi))); go_upto_region 6 with (first | ((with_reducible refine gate_dst (N := 4) rfl ?_); (try (refine gate_guard (by rfl) ?_; dsimp only)); refine box_event ?hg (N := 4) ?hd (cs := #[.int .i64 a0_0, .bool a0_1, .slice A0_2 l0_2.length c0_2]) (t := 24) ?hr ?_; (case hd => rfl); (case hg => rfl); (case hr => first | (go_simp; done) | (go_simp; rfl)); intro gb684 hg w10 hbox hb; have n0_ := Aside0.mk (below_step (by repeat (first | (with_reducible first | exact HB.out | apply below_alloc | apply pw_below_drewN | apply below_drew1) | exact HB.out)) hb); have n1_ := Aside0.mk (hbox); have n2_ := Aside0.mk ((by rw [hg]; exact (below_size (by repeat (first | (with_reducible first | exact HB.out | apply below_alloc | apply pw_below_drewN | apply below_drew1) | exact HB.out))) : w.heap.size ≤ gb684)); have n3_ := Aside0.mk ((by rw [hg]; exact (below_size (by repeat (first | (with_reducible first | exact HB.out | apply below_alloc | apply pw_below_drewN | apply below_drew1) | exact HB.out))) : w.heap.size ≤ gb684)); clear HB; have HB := n0_; have BK684 := n1_; have GW684 := n2_; have GE684 := n3_; clear n0_ n1_ n2_ n3_; clear hb hbox hg) | (go_at_call 55; (with_reducible refine (ebbtidelaw08_awake.calls k  true _ A5.out).mono ?_); rintro e w11 ⟨rfl, hb⟩; have n0_ := Aside0.mk (blk_below (g := gb684) (o := .cells #[.int .i64 a0_0, .bool a0_1, .slice A0_2 l0_2.length c0_2] 24 (0, 0)) (by (with_reducible repeat (first | refine blk_drewN ?_ _ | refine blk_drew ?_ | refine blk_alloc ?_ _)); exact BK684.out) hb); have n1_ := Aside0.mk (below_step (by repeat (first | (with_reducible first | exact HB.out | apply below_alloc | apply pw_below_drewN | apply below_drew1 | refine below_set ?_ GE684.out) | exact HB.out)) hb); clear BK684; clear HB; have BK684 := n0_; have HB := n1_; clear n0_ n1_; (try clear hb); (try clear hb2); (try clear hk); (try clear hi); have hcz12_0 : w11.cell? ⟨gb684, 0, none⟩ = some (.int .i64 a0_0) := (blk_cell BK684.out 0).trans rfl; have hcz12_1 : w11.cell? ⟨gb684, 1, none⟩ = some (.bool a0_1) := (blk_cell BK684.out 1).trans rfl; have hcz12_2 : w11.cell? ⟨gb684, 2, none⟩ = some (.slice A0_2 l0_2.length c0_2) := (blk_cell BK684.out 2).trans rfl; have hfz12_0 := blk_frozen BK684.out 0; have hfz12_1 := blk_frozen BK684.out 1; have hfz12_2 := blk_frozen BK684.out 2) | (go_at_call 56; (with_reducible refine (level_Path.calls a0_0 a0_1 _ _ l0_2 _ _ l1 a2 a3 t686 t689 t690 _ ?side1 ?side2 ?side3 ?side4 A7.out).mono ?_); (case side1 => repeat (first | exact (Kd.C_below HR0_2.out HB.out) | (with_reducible refine Kd.C_alloc ?_ _) | (with_reducible refine Kd.C_drewN ?_ _) | (with_reducible refine Kd.C_drew ?_))); (case side2 => exact HC0_2.out); (case side3 => repeat (first | exact (Kd.C_below HR1.out HB.out) | (with_reducible refine Kd.C_alloc ?_ _) | (with_reducible refine Kd.C_drewN ?_ _) | (with_reducible refine Kd.C_drew ?_))); (case side4 => exact HC1.out); rintro e w13 ⟨v687, rfl, ho0, hb⟩; have n0_ := Aside0.mk (Kd.R_lower ho0 (below_size (by repeat (first | (with_reducible first | exact HB.out | apply below_alloc | apply pw_below_drewN | apply below_drew1 | refine below_set ?_ GE684.out) | exact HB.out)))); have n1_ := Aside0.mk (blk_below (g := gb684) (o := .cells #[.int .i64 a0_0, .bool a0_1, .slice A0_2 l0_2.length c0_2] 24 (0, 0)) (by (with_reducible repeat (first | refine blk_drewN ?_ _ | refine blk_drew ?_ | refine blk_alloc ?_ _)); exact BK684.out) hb); have n2_ := Aside0.mk (below_step (by repeat (first | (with_reducible first | exact HB.out | apply below_alloc | apply pw_below_drewN | apply below_drew1 | refine below_set ?_ GE684.out) | exact HB.out)) hb); clear BK684; clear HB; have HO688 := n0_; have BK684 := n1_; have HB := n2_; clear n0_ n1_ n2_; (try clear hb); (try clear hb2); (try clear hk); (try clear hi); (try clear ho0); have hcz14_0 : w13.cell? ⟨gb684, 0, none⟩ = some (.int .i64 a0_0) := (blk_cell BK684.out 0).trans rfl; have hcz14_1 : w13.cell? ⟨gb684, 1, none⟩ = some (.bool a0_1) := (blk_cell BK684.out 1).trans rfl; have hcz14_2 : w13.cell? ⟨gb684, 2, none⟩ = some (.slice A0_2 l0_2.length c0_2) := (blk_cell BK684.out 2).trans rfl; have hfz14_0 := blk_frozen BK684.out 0; have hfz14_1 := blk_frozen BK684.out 1; have hfz14_2 := blk_frozen BK684.out 2) | (go_at_call 60; (with_reducible refine (ebbtideref07_Check.calls k a0_0 a0_1 _ _ l0_2 a2 a3 _ _ l1 t691 t692 _ ?side1 ?side2 ?side3 ?side4 A8.out).mono ?_); (case side1 => repeat (first | exact (Kd.C_below HR0_2.out HB.out) | (with_reducible refine Kd.C_alloc ?_ _) | (with_reducible refine Kd.C_drewN ?_ _) | (with_reducible refine Kd.C_drew ?_))); (case side2 => exact HC0_2.out); (case side3 => repeat (first | exact (Kd.C_below HR1.out HB.out) | (with_reducible refine Kd.C_alloc ?_ _) | (with_reducible refine Kd.C_drewN ?_ _) | (with_reducible refine Kd.C_drew ?_))); (case side4 => exact HC1.out); rintro e w15 ⟨rfl, hb⟩; have n0_ := Aside0.mk (Kd.R_below (by (with_reducible repeat (first | apply Kd.R_alloc | apply Kd.R_drewN | apply Kd.R_drew)); exact HO688.out) hb); have n1_ := Aside0.mk (blk_below (g := gb684) (o := .cells #[.int .i64 a0_0, .bool a0_1, .slice A0_2 l0_2.length c0_2] 24 (0, 0)) (by (with_reducible repeat (first | refine blk_drewN ?_ _ | refine blk_drew ?_ | refine blk_alloc ?_ _)); exact BK684.out) hb); have n2_ := Aside0.mk (below_step (by repeat (first | (with_reducible first | exact HB.out | apply below_alloc | apply pw_below_drewN | apply below_drew1 | refine below_set ?_ GE684.out) | exact HB.out)) hb); clear HO688; clear BK684; clear HB; have HO688 := n0_; have BK684 := n1_; have HB := n2_; clear n0_ n1_ n2_; (try clear hb); (try clear hb2); (try clear hk); (try clear hi))))
 (try simp only [Act.put, List.setIfInBounds_toArray, List.set_cons_zero, List.set_cons_succ])
 go_cut [55] (fun v55 wc => ∃ (kq : Nat) (x55_8 : Bool), v55 = .bool x55_8 ∧ Aside0 (ebbtidelaw08_LevelMore.j0 kq l1 a2 a3 true t686 t689 t690 t691 t692 x55_8 a0_0 a0_1 l0_2 = some r) ∧ Aside0 (kq ≤ k) ∧ Aside0 (Kd.R k38 38 wc w.heap.size (fun _ => True) v687 t686) ∧ Aside0 (wc.heap[gb684]? = some (.cells #[.int .i64 a0_0, .bool a0_1, (.slice A0_2 l0_2.length c0_2)] 24 (0, 0))) ∧ Aside0 (Below w.heap.size w wc))
 case first =>
  have H := HC9.out
  clear HC9
  by_cases c16 : t690 = 0
  rotate_left
  ·rw [if_neg c16] at H
   have c16b0 : (t690 == 0) = false := beq_eq_false_iff_ne.mpr c16
   have c16b1 : (t690 != 0) = true := bne_iff_ne.mpr c16
   (first | rw [c16b0] | (simp only [i64_w, i32_w]; rw [c16b0]) | skip)
   have H' := Aside0.mk H
   clear H
   go_wp2
   repeat (go_quiet (fail); try go_wp2)
   go_meet
   case rel => exact ⟨_, (true), (by first | rfl | (simp; done) | (simp [*]; done)), H', ⟨by first | omega | exact Nat.le_refl _⟩, ⟨by (with_reducible repeat (first | apply Kd.R_alloc | apply Kd.R_drewN | apply Kd.R_drew)); exact HO688.out⟩, ⟨by (with_reducible repeat (first | refine blk_drewN ?_ _ | refine blk_drew ?_ | refine blk_alloc ?_ _)); exact BK684.out⟩, ⟨by repeat (first | (with_reducible first | exact HB.out | apply below_alloc | apply pw_below_drewN | apply below_drew1 | refine below_set ?_ GE684.out) | exact HB.out)⟩⟩
  rw [if_pos c16] at H
  have c16b0 : (t690 == 0) = true := beq_iff_eq.mpr c16
  have c16b1 : (t690 != 0) = false := bne_eq_false_iff_eq.mpr c16
  clear c16
  (first | rw [c16b0] | (simp only [i64_w, i32_w]; rw [c16b0]) | skip)
  by_cases c17 : t692 = 0
  rotate_left
  ·rw [if_neg c17] at H
   have c17b0 : (t692 == 0) = false := beq_eq_false_iff_ne.mpr c17
   have c17b1 : (t692 != 0) = true := bne_iff_ne.mpr c17
   have H' := Aside0.mk H
   clear H
   go_wp2
   repeat (go_quiet (fail); try go_wp2)
   go_meet
   case rel => exact ⟨_, (true), (by first | rfl | (simp; done) | (simp [*]; done)), H', ⟨by first | omega | exact Nat.le_refl _⟩, ⟨by (with_reducible repeat (first | apply Kd.R_alloc | apply Kd.R_drewN | apply Kd.R_drew)); exact HO688.out⟩, ⟨by (with_reducible repeat (first | refine blk_drewN ?_ _ | refine blk_drew ?_ | refine blk_alloc ?_ _)); exact BK684.out⟩, ⟨by repeat (first | (with_reducible first | exact HB.out | apply below_alloc | apply pw_below_drewN | apply below_drew1 | refine below_set ?_ GE684.out) | exact HB.out)⟩⟩
  rw [if_pos c17] at H
  have c17b0 : (t692 == 0) = true := beq_iff_eq.mpr c17
  have c17b1 : (t692 != 0) = false := bne_eq_false_iff_eq.mpr c17
  clear c17
  by_cases c18 : t689 = true
  rotate_left
  ·replace c18 := Bool.eq_false_iff.mpr c18
   subst c18
   have H1 : (ebbtidelaw08_LevelMore.j0 k l1 a2 a3 true t686 false t690 t691 t692 true a0_0 a0_1 l0_2) = some r := by rw [if_neg (show ¬ (false = true) by decide)] at H; exact H
   clear H
   have H := H1
   clear H1
   have H' := Aside0.mk H
   clear H
   go_wp2
   repeat (go_quiet (fail); try go_wp2)
   go_meet
   case rel => exact ⟨_, (true), (by first | rfl | (simp; done) | (simp [*]; done)), H', ⟨by first | omega | exact Nat.le_refl _⟩, ⟨by (with_reducible repeat (first | apply Kd.R_alloc | apply Kd.R_drewN | apply Kd.R_drew)); exact HO688.out⟩, ⟨by (with_reducible repeat (first | refine blk_drewN ?_ _ | refine blk_drew ?_ | refine blk_alloc ?_ _)); exact BK684.out⟩, ⟨by repeat (first | (with_reducible first | exact HB.out | apply below_alloc | apply pw_below_drewN | apply below_drew1 | refine below_set ?_ GE684.out) | exact HB.out)⟩⟩
  subst c18
  have H1 : (ebbtidelaw08_LevelMore.j0 k l1 a2 a3 true t686 true t690 t691 t692 ((t686.length : Int) == 0) a0_0 a0_1 l0_2) = some r := by rw [if_pos rfl] at H; exact H
  clear H
  have H := H1
  clear H1
  have H' := Aside0.mk H
  clear H
  obtain ⟨Ao19, co19, eo19⟩ := Kd.R_slice HO688.out
  subst eo19
  go_wp2
  repeat (go_quiet (fail); try go_wp2)
  go_meet
  case rel => exact ⟨_, (((t686.length : Int) == 0)), (by first | rfl | (simp; done) | (simp [*]; done)), H', ⟨by first | omega | exact Nat.le_refl _⟩, ⟨by (with_reducible repeat (first | apply Kd.R_alloc | apply Kd.R_drewN | apply Kd.R_drew)); exact HO688.out⟩, ⟨by (with_reducible repeat (first | refine blk_drewN ?_ _ | refine blk_drew ?_ | refine blk_alloc ?_ _)); exact BK684.out⟩, ⟨by repeat (first | (with_reducible first | exact HB.out | apply below_alloc | apply pw_below_drewN | apply below_drew1 | refine below_set ?_ GE684.out) | exact HB.out)⟩⟩
 case rest =>
  clear HC9
  try clear c1
  try clear p2
  try clear c6
  try clear c13
  try clear c16
  try clear c16b0
  try clear c16b1
  try clear c17
  try clear c17b0
  try clear c17b1
  try clear c18
  try clear hcz12_0
  try clear hcz12_1
  try clear hcz12_2
  try clear hcz14_0
  try clear hcz14_1
  try clear hcz14_2
  try clear hfz12_0
  try clear hfz12_1
  try clear hfz12_2
  try clear hfz14_0
  try clear hfz14_1
  try clear hfz14_2
  obtain ⟨kq, x55_8, rfl, HA, HJ8, HO_10, BK684, HB⟩ := hcut
  cases kq with
  | zero => exact absurd HA.out (by simp [ebbtidelaw08_LevelMore.j0])
  | succ kj8 =>
   have H := HA.out
   clear HA
   simp only [ebbtidelaw08_LevelMore.j0] at H
   by_cases c20 : x55_8 = true
   ·subst c20
    have H1 : (if true = true then (if t690 = 0 then (if t692 = 0 then (some (!t689)) else (some true)) else (some true)) else (some false)) = some r := by rw [if_pos rfl] at H; exact H
    clear H
    have H := H1
    clear H1
    by_cases c21 : true = true
    rotate_left
    ·exact absurd rfl c21
    clear c21
    have H1 : (if t690 = 0 then (if t692 = 0 then (some (!t689)) else (some true)) else (some true)) = some r := by rw [if_pos rfl] at H; exact H
    clear H
    have H := H1
    clear H1
    by_cases c22 : t690 = 0
    rotate_left
    ·rw [if_neg c22] at H
     have c22b0 : (t690 == 0) = false := beq_eq_false_iff_ne.mpr c22
     have c22b1 : (t690 != 0) = true := bne_iff_ne.mpr c22
     obtain rfl := Option.some.inj H
     go_wp2
     repeat (go_quiet (fail); try go_wp2)
     go_ret
     exact ⟨by first | rfl | (simp [errW_none, errW_some] <;> rfl) | (simp [*, errW_none, errW_some] <;> rfl), by repeat (first | (with_reducible first | exact HB.out | apply below_alloc | apply pw_below_drewN | apply below_drew1 | refine below_set ?_ GE684.out) | exact HB.out)⟩
    rw [if_pos c22] at H
    have c22b0 : (t690 == 0) = true := beq_iff_eq.mpr c22
    have c22b1 : (t690 != 0) = false := bne_eq_false_iff_eq.mpr c22
    clear c22
    by_cases c23 : t692 = 0
    rotate_left
    ·rw [if_neg c23] at H
     have c23b0 : (t692 == 0) = false := beq_eq_false_iff_ne.mpr c23
     have c23b1 : (t692 != 0) = true := bne_iff_ne.mpr c23
     obtain rfl := Option.some.inj H
     go_wp2
     repeat (go_quiet (fail); try go_wp2)
     go_ret
     exact ⟨by first | rfl | (simp [errW_none, errW_some] <;> rfl) | (simp [*, errW_none, errW_some] <;> rfl), by repeat (first | (with_reducible first | exact HB.out | apply below_alloc | apply pw_below_drewN | apply below_drew1 | refine below_set ?_ GE684.out) | exact HB.out)⟩
    rw [if_pos c23] at H
    have c23b0 : (t692 == 0) = true := beq_iff_eq.mpr c23
    have c23b1 : (t692 != 0) = false := bne_eq_false_iff_eq.mpr c23
    clear c23
    obtain rfl := Option.some.inj H
    go_wp2
    repeat (go_quiet (fail); try go_wp2)
    go_ret
    exact ⟨by first | rfl | (simp [errW_none, errW_some] <;> rfl) | (simp [*, errW_none, errW_some] <;> rfl), by repeat (first | (with_reducible first | exact HB.out | apply below_alloc | apply pw_below_drewN | apply below_drew1 | refine below_set ?_ GE684.out) | exact HB.out)⟩
   replace c20 := Bool.eq_false_iff.mpr c20
   subst c20
   have H1 : (ebbtidelaw08_LevelMore.l0 kj8 l1 a2 a3 true t686 t691 0 a0_0 a0_1 l0_2) = some r := by rw [if_neg (show ¬ (false = true) by decide)] at H; exact H
   clear H
   have H := H1
   clear H1
   have H' := Aside0.mk H
   clear H
   go_wp2
   repeat (go_quiet (fail); try go_wp2)
   go_loopg [15] kj8 (fun kq v15 w' => ∃ (x15_2 : Int), v15 = .int .i64 x15_2 ∧ Aside0 (ebbtidelaw08_LevelMore.l0 kq l1 a2 a3 true t686 t691 x15_2 a0_0 a0_1 l0_2 = some r) ∧ Aside0 (kq ≤ kj8) ∧ Aside0 (Kd.R k38 38 w' w.heap.size (fun _ => True) v687 t686) ∧ Aside0 (w'.heap[gb684]? = some (.cells #[.int .i64 a0_0, .bool a0_1, (.slice A0_2 l0_2.length c0_2)] 24 (0, 0))) ∧ Aside0 (Below w.heap.size w w'))
   case atStart => exact ⟨(0), (by first | rfl | (simp; done) | (simp [*]; done)), H', ⟨Nat.le_refl _⟩, ⟨by (with_reducible repeat (first | apply Kd.R_alloc | apply Kd.R_drewN | apply Kd.R_drew)); exact HO_10.out⟩, ⟨by (with_reducible repeat (first | refine blk_drewN ?_ _ | refine blk_drew ?_ | refine blk_alloc ?_ _)); exact BK684.out⟩, ⟨by repeat (first | (with_reducible first | exact HB.out | apply below_alloc | apply pw_below_drewN | apply below_drew1 | refine below_set ?_ GE684.out) | exact HB.out)⟩⟩
   case round =>
    clear H'
    try clear c1
    try clear c2
    try clear p2
    try clear c6
    try clear c13
    try clear c16
    try clear c16b0
    try clear c16b1
    try clear c17
    try clear c17b0
    try clear c17b1
    try clear c18
    try clear c20
    try clear c21
    try clear c22
    try clear c22b0
    try clear c22b1
    try clear c23
    try clear c23b0
    try clear c23b1
    try clear hcz12_0
    try clear hcz12_1
    try clear hcz12_2
    try clear hcz14_0
    try clear hcz14_1
    try clear hcz14_2
    try clear hfz12_0
    try clear hfz12_1
    try clear hfz12_2
    try clear hfz14_0
    try clear hfz14_1
    try clear hfz14_2
    try clear p2
    obtain ⟨x15_2, rfl, HA, HK2, HO_10, BK684, HB⟩ := hrel
    cases gk with
    | zero => exact absurd HA.out (by simp [ebbtidelaw08_LevelMore.l0])
    | succ k2 =>
     have H := HA.out
     clear HA
     simp only [ebbtidelaw08_LevelMore.l0] at H
     by_cases c24 : x15_2 < (t686.length : Int)
     rotate_left
     ·rw [if_neg c24] at H
      have c24b0 : decide (x15_2 < (t686.length : Int)) = false := decide_eq_false c24
      clear c24
      replace H := Option.bind_eq_some_iff.mp H
      obtain ⟨t695, A330, H⟩ := H
      replace H : ((ebbtideref07_Push.f k2 a0_0 a0_1 l0_2 l1 t686 t695).bind fun bt696 => ((ebbtideref07_Check.f k2 a0_0 a0_1 l0_2 a2 a3 bt696.1).bind fun bt700 => (if true = true then (if t695 > 0 then (if bt696.2 = 0 then (if bt700.2 = 0 then (some (bt700.1 == (wrap64 (t691 + t695)))) else (some false)) else (some false)) else (some false)) else (some false)))) = some r := H
      have A33 := Aside0.mk A330
      clear A330
      replace H := Option.bind_eq_some_iff.mp H
      obtain ⟨⟨t696, t699⟩, A340, H⟩ := H
      replace H : ((ebbtideref07_Check.f k2 a0_0 a0_1 l0_2 a2 a3 t696).bind fun bt700 => (if true = true then (if t695 > 0 then (if t699 = 0 then (if bt700.2 = 0 then (some (bt700.1 == (wrap64 (t691 + t695)))) else (some false)) else (some false)) else (some false)) else (some false))) = some r := H
      have A34 := Aside0.mk A340
      clear A340
      replace H := Option.bind_eq_some_iff.mp H
      obtain ⟨⟨t700, t701⟩, A350, H⟩ := H
      replace H : (if true = true then (if t695 > 0 then (if t699 = 0 then (if t701 = 0 then (some (t700 == (wrap64 (t691 + t695)))) else (some false)) else (some false)) else (some false)) else (some false)) = some r := H
      have A35 := Aside0.mk A350
      clear A350
      by_cases c36 : true = true
      rotate_left
      ·exact absurd rfl c36
      clear c36
      have H1 : (if t695 > 0 then (if t699 = 0 then (if t701 = 0 then (some (t700 == (wrap64 (t691 + t695)))) else (some false)) else (some false)) else (some false)) = some r := by rw [if_pos rfl] at H; exact H
      clear H
      have H := H1
      clear H1
      by_cases c37 : t695 > 0
      rotate_left
      ·rw [if_neg c37] at H
       exact absurd (Option.some.inj H) (by rw [HRT.out]; decide)
      rw [if_pos c37] at H
      have c37b0 : decide (0 < t695) = true := decide_eq_true c37
      clear c37
      by_cases c38 : t699 = 0
      rotate_left
      ·rw [if_neg c38] at H
       exact absurd (Option.some.inj H) (by rw [HRT.out]; decide)
      rw [if_pos c38] at H
      have c38b0 : (t699 == 0) = true := beq_iff_eq.mpr c38
      have c38b1 : (t699 != 0) = false := bne_eq_false_iff_eq.mpr c38
      clear c38
      by_cases c39 : t701 = 0
      rotate_left
      ·rw [if_neg c39] at H
       exact absurd (Option.some.inj H) (by rw [HRT.out]; decide)
      rw [if_pos c39] at H
      have c39b0 : (t701 == 0) = true := beq_iff_eq.mpr c39
      have c39b1 : (t701 != 0) = false := bne_eq_false_iff_eq.mpr c39
      clear c39
      obtain rfl := Option.some.inj H
      obtain ⟨Ao40, co40, eo40⟩ := Kd.R_slice HO_10.out
      subst eo40
      have hcz41_0 : wr.cell? ⟨gb684, 0, none⟩ = some (.int .i64 a0_0) := (blk_cell BK684.out 0).trans rfl
      have hcz41_1 : wr.cell? ⟨gb684, 1, none⟩ = some (.bool a0_1) := (blk_cell BK684.out 1).trans rfl
      have hcz41_2 : wr.cell? ⟨gb684, 2, none⟩ = some (.slice A0_2 l0_2.length c0_2) := (blk_cell BK684.out 2).trans rfl
      have hfz41_0 := blk_frozen BK684.out 0
      have hfz41_1 := blk_frozen BK684.out 1
      have hfz41_2 := blk_frozen BK684.out 2
      go_wp2_with (first | (go_at_call 61; (with_reducible refine (ebbtideref08_Bottle.calls k2 a0_0 a0_1 _ _ l0_2 _ _ l1 _ _ t686 t695 _ ?side1 ?side2 ?side3 ?side4 ?side5 ?side6 A33.out).mono ?_); (case side1 => repeat (first | exact (Kd.C_below HR0_2.out HB.out) | (with_reducible refine Kd.C_alloc ?_ _) | (with_reducible refine Kd.C_drewN ?_ _) | (with_reducible refine Kd.C_drew ?_))); (case side2 => exact HC0_2.out); (case side3 => repeat (first | exact (Kd.C_below HR1.out HB.out) | (with_reducible refine Kd.C_alloc ?_ _) | (with_reducible refine Kd.C_drewN ?_ _) | (with_reducible refine Kd.C_drew ?_))); (case side4 => exact HC1.out); (case side5 => repeat (first | exact (Kd.R_reads' HO_10.out).2.2 | (with_reducible refine Kd.C_alloc ?_ _) | (with_reducible refine Kd.C_drewN ?_ _) | (with_reducible refine Kd.C_drew ?_))); (case side6 => exact (Kd.R_reads' HO_10.out).2.1); rintro e w42 ⟨rfl, hb⟩; have n0_ := Aside0.mk (Kd.R_below (by (with_reducible repeat (first | apply Kd.R_alloc | apply Kd.R_drewN | apply Kd.R_drew)); exact HO_10.out) hb); have n1_ := Aside0.mk (blk_below (g := gb684) (o := .cells #[.int .i64 a0_0, .bool a0_1, .slice A0_2 l0_2.length c0_2] 24 (0, 0)) (by (with_reducible repeat (first | refine blk_drewN ?_ _ | refine blk_drew ?_ | refine blk_alloc ?_ _)); exact BK684.out) hb); have n2_ := Aside0.mk (below_step (by repeat (first | (with_reducible first | exact HB.out | apply below_alloc | apply pw_below_drewN | apply below_drew1 | refine below_set ?_ GE684.out) | exact HB.out)) hb); clear HO_10; clear BK684; clear HB; have HO_10 := n0_; have BK684 := n1_; have HB := n2_; clear n0_ n1_ n2_; (try clear hb); (try clear hb2); (try clear hk); (try clear hi); have hcz43_0 : w42.cell? ⟨gb684, 0, none⟩ = some (.int .i64 a0_0) := (blk_cell BK684.out 0).trans rfl; have hcz43_1 : w42.cell? ⟨gb684, 1, none⟩ = some (.bool a0_1) := (blk_cell BK684.out 1).trans rfl; have hcz43_2 : w42.cell? ⟨gb684, 2, none⟩ = some (.slice A0_2 l0_2.length c0_2) := (blk_cell BK684.out 2).trans rfl; have hfz43_0 := blk_frozen BK684.out 0; have hfz43_1 := blk_frozen BK684.out 1; have hfz43_2 := blk_frozen BK684.out 2) | (go_at_call 62; (with_reducible refine (ebbtideref07_Push.calls k2 a0_0 a0_1 _ _ l0_2 _ _ l1 _ _ t686 t695 t696 t699 _ ?side1 ?side2 ?side3 ?side4 ?side5 ?side6 A34.out).mono ?_); (case side1 => repeat (first | exact (Kd.C_below HR0_2.out HB.out) | (with_reducible refine Kd.C_alloc ?_ _) | (with_reducible refine Kd.C_drewN ?_ _) | (with_reducible refine Kd.C_drew ?_))); (case side2 => exact HC0_2.out); (case side3 => repeat (first | exact (Kd.C_below HR1.out HB.out) | (with_reducible refine Kd.C_alloc ?_ _) | (with_reducible refine Kd.C_drewN ?_ _) | (with_reducible refine Kd.C_drew ?_))); (case side4 => exact HC1.out); (case side5 => repeat (first | exact (Kd.R_reads' HO_10.out).2.2 | (with_reducible refine Kd.C_alloc ?_ _) | (with_reducible refine Kd.C_drewN ?_ _) | (with_reducible refine Kd.C_drew ?_))); (case side6 => exact (Kd.R_reads' HO_10.out).2.1); rintro e w44 ⟨v697, rfl, ho0, hb⟩; have n0_ := Aside0.mk (Kd.R_below (by (with_reducible repeat (first | apply Kd.R_alloc | apply Kd.R_drewN | apply Kd.R_drew)); exact HO_10.out) hb); have n1_ := Aside0.mk (Kd.R_lower ho0 (below_size (by repeat (first | (with_reducible first | exact HB.out | apply below_alloc | apply pw_below_drewN | apply below_drew1 | refine below_set ?_ GE684.out) | exact HB.out)))); have n2_ := Aside0.mk (blk_below (g := gb684) (o := .cells #[.int .i64 a0_0, .bool a0_1, .slice A0_2 l0_2.length c0_2] 24 (0, 0)) (by (with_reducible repeat (first | refine blk_drewN ?_ _ | refine blk_drew ?_ | refine blk_alloc ?_ _)); exact BK684.out) hb); have n3_ := Aside0.mk (below_step (by repeat (first | (with_reducible first | exact HB.out | apply below_alloc | apply pw_below_drewN | apply below_drew1 | refine below_set ?_ GE684.out) | exact HB.out)) hb); clear HO_10; clear BK684; clear HB; have HO_10 := n0_; have HO698 := n1_; have BK684 := n2_; have HB := n3_; clear n0_ n1_ n2_ n3_; (try clear hb); (try clear hb2); (try clear hk); (try clear hi); (try clear ho0); have hcz45_0 : w44.cell? ⟨gb684, 0, none⟩ = some (.int .i64 a0_0) := (blk_cell BK684.out 0).trans rfl; have hcz45_1 : w44.cell? ⟨gb684, 1, none⟩ = some (.bool a0_1) := (blk_cell BK684.out 1).trans rfl; have hcz45_2 : w44.cell? ⟨gb684, 2, none⟩ = some (.slice A0_2 l0_2.length c0_2) := (blk_cell BK684.out 2).trans rfl; have hfz45_0 := blk_frozen BK684.out 0; have hfz45_1 := blk_frozen BK684.out 1; have hfz45_2 := blk_frozen BK684.out 2; obtain ⟨Ao46, co46, eo46⟩ := Kd.R_slice HO698.out; subst eo46) | (go_at_call 60; (with_reducible refine (ebbtideref07_Check.calls k2 a0_0 a0_1 _ _ l0_2 a2 a3 _ _ t696 t700 t701 _ ?side1 ?side2 ?side3 ?side4 A35.out).mono ?_); (case side1 => repeat (first | exact (Kd.C_below HR0_2.out HB.out) | (with_reducible refine Kd.C_alloc ?_ _) | (with_reducible refine Kd.C_drewN ?_ _) | (with_reducible refine Kd.C_drew ?_))); (case side2 => exact HC0_2.out); (case side3 => repeat (first | exact (Kd.R_reads' HO698.out).2.2 | (with_reducible refine Kd.C_alloc ?_ _) | (with_reducible refine Kd.C_drewN ?_ _) | (with_reducible refine Kd.C_drew ?_))); (case side4 => exact (Kd.R_reads' HO698.out).2.1); rintro e w47 ⟨rfl, hb⟩; have n0_ := Aside0.mk (Kd.R_below (by (with_reducible repeat (first | apply Kd.R_alloc | apply Kd.R_drewN | apply Kd.R_drew)); exact HO_10.out) hb); have n1_ := Aside0.mk (Kd.R_below (by (with_reducible repeat (first | apply Kd.R_alloc | apply Kd.R_drewN | apply Kd.R_drew)); exact HO698.out) hb); have n2_ := Aside0.mk (blk_below (g := gb684) (o := .cells #[.int .i64 a0_0, .bool a0_1, .slice A0_2 l0_2.length c0_2] 24 (0, 0)) (by (with_reducible repeat (first | refine blk_drewN ?_ _ | refine blk_drew ?_ | refine blk_alloc ?_ _)); exact BK684.out) hb); have n3_ := Aside0.mk (below_step (by repeat (first | (with_reducible first | exact HB.out | apply below_alloc | apply pw_below_drewN | apply below_drew1 | refine below_set ?_ GE684.out) | exact HB.out)) hb); clear HO_10; clear HO698; clear BK684; clear HB; have HO_10 := n0_; have HO698 := n1_; have BK684 := n2_; have HB := n3_; clear n0_ n1_ n2_ n3_; (try clear hb); (try clear hb2); (try clear hk); (try clear hi)))
      repeat (go_quiet (first | (go_at_call 61; (with_reducible refine (ebbtideref08_Bottle.calls k2 a0_0 a0_1 _ _ l0_2 _ _ l1 _ _ t686 t695 _ ?side1 ?side2 ?side3 ?side4 ?side5 ?side6 A33.out).mono ?_); (case side1 => repeat (first | exact (Kd.C_below HR0_2.out HB.out) | (with_reducible refine Kd.C_alloc ?_ _) | (with_reducible refine Kd.C_drewN ?_ _) | (with_reducible refine Kd.C_drew ?_))); (case side2 => exact HC0_2.out); (case side3 => repeat (first | exact (Kd.C_below HR1.out HB.out) | (with_reducible refine Kd.C_alloc ?_ _) | (with_reducible refine Kd.C_drewN ?_ _) | (with_reducible refine Kd.C_drew ?_))); (case side4 => exact HC1.out); (case side5 => repeat (first | exact (Kd.R_reads' HO_10.out).2.2 | (with_reducible refine Kd.C_alloc ?_ _) | (with_reducible refine Kd.C_drewN ?_ _) | (with_reducible refine Kd.C_drew ?_))); (case side6 => exact (Kd.R_reads' HO_10.out).2.1); rintro e w42 ⟨rfl, hb⟩; have n0_ := Aside0.mk (Kd.R_below (by (with_reducible repeat (first | apply Kd.R_alloc | apply Kd.R_drewN | apply Kd.R_drew)); exact HO_10.out) hb); have n1_ := Aside0.mk (blk_below (g := gb684) (o := .cells #[.int .i64 a0_0, .bool a0_1, .slice A0_2 l0_2.length c0_2] 24 (0, 0)) (by (with_reducible repeat (first | refine blk_drewN ?_ _ | refine blk_drew ?_ | refine blk_alloc ?_ _)); exact BK684.out) hb); have n2_ := Aside0.mk (below_step (by repeat (first | (with_reducible first | exact HB.out | apply below_alloc | apply pw_below_drewN | apply below_drew1 | refine below_set ?_ GE684.out) | exact HB.out)) hb); clear HO_10; clear BK684; clear HB; have HO_10 := n0_; have BK684 := n1_; have HB := n2_; clear n0_ n1_ n2_; (try clear hb); (try clear hb2); (try clear hk); (try clear hi); have hcz43_0 : w42.cell? ⟨gb684, 0, none⟩ = some (.int .i64 a0_0) := (blk_cell BK684.out 0).trans rfl; have hcz43_1 : w42.cell? ⟨gb684, 1, none⟩ = some (.bool a0_1) := (blk_cell BK684.out 1).trans rfl; have hcz43_2 : w42.cell? ⟨gb684, 2, none⟩ = some (.slice A0_2 l0_2.length c0_2) := (blk_cell BK684.out 2).trans rfl; have hfz43_0 := blk_frozen BK684.out 0; have hfz43_1 := blk_frozen BK684.out 1; have hfz43_2 := blk_frozen BK684.out 2) | (go_at_call 62; (with_reducible refine (ebbtideref07_Push.calls k2 a0_0 a0_1 _ _ l0_2 _ _ l1 _ _ t686 t695 t696 t699 _ ?side1 ?side2 ?side3 ?side4 ?side5 ?side6 A34.out).mono ?_); (case side1 => repeat (first | exact (Kd.C_below HR0_2.out HB.out) | (with_reducible refine Kd.C_alloc ?_ _) | (with_reducible refine Kd.C_drewN ?_ _) | (with_reducible refine Kd.C_drew ?_))); (case side2 => exact HC0_2.out); (case side3 => repeat (first | exact (Kd.C_below HR1.out HB.out) | (with_reducible refine Kd.C_alloc ?_ _) | (with_reducible refine Kd.C_drewN ?_ _) | (with_reducible refine Kd.C_drew ?_))); (case side4 => exact HC1.out); (case side5 => repeat (first | exact (Kd.R_reads' HO_10.out).2.2 | (with_reducible refine Kd.C_alloc ?_ _) | (with_reducible refine Kd.C_drewN ?_ _) | (with_reducible refine Kd.C_drew ?_))); (case side6 => exact (Kd.R_reads' HO_10.out).2.1); rintro e w44 ⟨v697, rfl, ho0, hb⟩; have n0_ := Aside0.mk (Kd.R_below (by (with_reducible repeat (first | apply Kd.R_alloc | apply Kd.R_drewN | apply Kd.R_drew)); exact HO_10.out) hb); have n1_ := Aside0.mk (Kd.R_lower ho0 (below_size (by repeat (first | (with_reducible first | exact HB.out | apply below_alloc | apply pw_below_drewN | apply below_drew1 | refine below_set ?_ GE684.out) | exact HB.out)))); have n2_ := Aside0.mk (blk_below (g := gb684) (o := .cells #[.int .i64 a0_0, .bool a0_1, .slice A0_2 l0_2.length c0_2] 24 (0, 0)) (by (with_reducible repeat (first | refine blk_drewN ?_ _ | refine blk_drew ?_ | refine blk_alloc ?_ _)); exact BK684.out) hb); have n3_ := Aside0.mk (below_step (by repeat (first | (with_reducible first | exact HB.out | apply below_alloc | apply pw_below_drewN | apply below_drew1 | refine below_set ?_ GE684.out) | exact HB.out)) hb); clear HO_10; clear BK684; clear HB; have HO_10 := n0_; have HO698 := n1_; have BK684 := n2_; have HB := n3_; clear n0_ n1_ n2_ n3_; (try clear hb); (try clear hb2); (try clear hk); (try clear hi); (try clear ho0); have hcz45_0 : w44.cell? ⟨gb684, 0, none⟩ = some (.int .i64 a0_0) := (blk_cell BK684.out 0).trans rfl; have hcz45_1 : w44.cell? ⟨gb684, 1, none⟩ = some (.bool a0_1) := (blk_cell BK684.out 1).trans rfl; have hcz45_2 : w44.cell? ⟨gb684, 2, none⟩ = some (.slice A0_2 l0_2.length c0_2) := (blk_cell BK684.out 2).trans rfl; have hfz45_0 := blk_frozen BK684.out 0; have hfz45_1 := blk_frozen BK684.out 1; have hfz45_2 := blk_frozen BK684.out 2; obtain ⟨Ao46, co46, eo46⟩ := Kd.R_slice HO698.out; subst eo46) | (go_at_call 60; (with_reducible refine (ebbtideref07_Check.calls k2 a0_0 a0_1 _ _ l0_2 a2 a3 _ _ t696 t700 t701 _ ?side1 ?side2 ?side3 ?side4 A35.out).mono ?_); (case side1 => repeat (first | exact (Kd.C_below HR0_2.out HB.out) | (with_reducible refine Kd.C_alloc ?_ _) | (with_reducible refine Kd.C_drewN ?_ _) | (with_reducible refine Kd.C_drew ?_))); (case side2 => exact HC0_2.out); (case side3 => repeat (first | exact (Kd.R_reads' HO698.out).2.2 | (with_reducible refine Kd.C_alloc ?_ _) | (with_reducible refine Kd.C_drewN ?_ _) | (with_reducible refine Kd.C_drew ?_))); (case side4 => exact (Kd.R_reads' HO698.out).2.1); rintro e w47 ⟨rfl, hb⟩; have n0_ := Aside0.mk (Kd.R_below (by (with_reducible repeat (first | apply Kd.R_alloc | apply Kd.R_drewN | apply Kd.R_drew)); exact HO_10.out) hb); have n1_ := Aside0.mk (Kd.R_below (by (with_reducible repeat (first | apply Kd.R_alloc | apply Kd.R_drewN | apply Kd.R_drew)); exact HO698.out) hb); have n2_ := Aside0.mk (blk_below (g := gb684) (o := .cells #[.int .i64 a0_0, .bool a0_1, .slice A0_2 l0_2.length c0_2] 24 (0, 0)) (by (with_reducible repeat (first | refine blk_drewN ?_ _ | refine blk_drew ?_ | refine blk_alloc ?_ _)); exact BK684.out) hb); have n3_ := Aside0.mk (below_step (by repeat (first | (with_reducible first | exact HB.out | apply below_alloc | apply pw_below_drewN | apply below_drew1 | refine below_set ?_ GE684.out) | exact HB.out)) hb); clear HO_10; clear HO698; clear BK684; clear HB; have HO_10 := n0_; have HO698 := n1_; have BK684 := n2_; have HB := n3_; clear n0_ n1_ n2_ n3_; (try clear hb); (try clear hb2); (try clear hk); (try clear hi))); try go_wp2_with (first | (go_at_call 61; (with_reducible refine (ebbtideref08_Bottle.calls k2 a0_0 a0_1 _ _ l0_2 _ _ l1 _ _ t686 t695 _ ?side1 ?side2 ?side3 ?side4 ?side5 ?side6 A33.out).mono ?_); (case side1 => repeat (first | exact (Kd.C_below HR0_2.out HB.out) | (with_reducible refine Kd.C_alloc ?_ _) | (with_reducible refine Kd.C_drewN ?_ _) | (with_reducible refine Kd.C_drew ?_))); (case side2 => exact HC0_2.out); (case side3 => repeat (first | exact (Kd.C_below HR1.out HB.out) | (with_reducible refine Kd.C_alloc ?_ _) | (with_reducible refine Kd.C_drewN ?_ _) | (with_reducible refine Kd.C_drew ?_))); (case side4 => exact HC1.out); (case side5 => repeat (first | exact (Kd.R_reads' HO_10.out).2.2 | (with_reducible refine Kd.C_alloc ?_ _) | (with_reducible refine Kd.C_drewN ?_ _) | (with_reducible refine Kd.C_drew ?_))); (case side6 => exact (Kd.R_reads' HO_10.out).2.1); rintro e w42 ⟨rfl, hb⟩; have n0_ := Aside0.mk (Kd.R_below (by (with_reducible repeat (first | apply Kd.R_alloc | apply Kd.R_drewN | apply Kd.R_drew)); exact HO_10.out) hb); have n1_ := Aside0.mk (blk_below (g := gb684) (o := .cells #[.int .i64 a0_0, .bool a0_1, .slice A0_2 l0_2.length c0_2] 24 (0, 0)) (by (with_reducible repeat (first | refine blk_drewN ?_ _ | refine blk_drew ?_ | refine blk_alloc ?_ _)); exact BK684.out) hb); have n2_ := Aside0.mk (below_step (by repeat (first | (with_reducible first | exact HB.out | apply below_alloc | apply pw_below_drewN | apply below_drew1 | refine below_set ?_ GE684.out) | exact HB.out)) hb); clear HO_10; clear BK684; clear HB; have HO_10 := n0_; have BK684 := n1_; have HB := n2_; clear n0_ n1_ n2_; (try clear hb); (try clear hb2); (try clear hk); (try clear hi); have hcz43_0 : w42.cell? ⟨gb684, 0, none⟩ = some (.int .i64 a0_0) := (blk_cell BK684.out 0).trans rfl; have hcz43_1 : w42.cell? ⟨gb684, 1, none⟩ = some (.bool a0_1) := (blk_cell BK684.out 1).trans rfl; have hcz43_2 : w42.cell? ⟨gb684, 2, none⟩ = some (.slice A0_2 l0_2.length c0_2) := (blk_cell BK684.out 2).trans rfl; have hfz43_0 := blk_frozen BK684.out 0; have hfz43_1 := blk_frozen BK684.out 1; have hfz43_2 := blk_frozen BK684.out 2) | (go_at_call 62; (with_reducible refine (ebbtideref07_Push.calls k2 a0_0 a0_1 _ _ l0_2 _ _ l1 _ _ t686 t695 t696 t699 _ ?side1 ?side2 ?side3 ?side4 ?side5 ?side6 A34.out).mono ?_); (case side1 => repeat (first | exact (Kd.C_below HR0_2.out HB.out) | (with_reducible refine Kd.C_alloc ?_ _) | (with_reducible refine Kd.C_drewN ?_ _) | (with_reducible refine Kd.C_drew ?_))); (case side2 => exact HC0_2.out); (case side3 => repeat (first | exact (Kd.C_below HR1.out HB.out) | (with_reducible refine Kd.C_alloc ?_ _) | (with_reducible refine Kd.C_drewN ?_ _) | (with_reducible refine Kd.C_drew ?_))); (case side4 => exact HC1.out); (case side5 => repeat (first | exact (Kd.R_reads' HO_10.out).2.2 | (with_reducible refine Kd.C_alloc ?_ _) | (with_reducible refine Kd.C_drewN ?_ _) | (with_reducible refine Kd.C_drew ?_))); (case side6 => exact (Kd.R_reads' HO_10.out).2.1); rintro e w44 ⟨v697, rfl, ho0, hb⟩; have n0_ := Aside0.mk (Kd.R_below (by (with_reducible repeat (first | apply Kd.R_alloc | apply Kd.R_drewN | apply Kd.R_drew)); exact HO_10.out) hb); have n1_ := Aside0.mk (Kd.R_lower ho0 (below_size (by repeat (first | (with_reducible first | exact HB.out | apply below_alloc | apply pw_below_drewN | apply below_drew1 | refine below_set ?_ GE684.out) | exact HB.out)))); have n2_ := Aside0.mk (blk_below (g := gb684) (o := .cells #[.int .i64 a0_0, .bool a0_1, .slice A0_2 l0_2.length c0_2] 24 (0, 0)) (by (with_reducible repeat (first | refine blk_drewN ?_ _ | refine blk_drew ?_ | refine blk_alloc ?_ _)); exact BK684.out) hb); have n3_ := Aside0.mk (below_step (by repeat (first | (with_reducible first | exact HB.out | apply below_alloc | apply pw_below_drewN | apply below_drew1 | refine below_set ?_ GE684.out) | exact HB.out)) hb); clear HO_10; clear BK684; clear HB; have HO_10 := n0_; have HO698 := n1_; have BK684 := n2_; have HB := n3_; clear n0_ n1_ n2_ n3_; (try clear hb); (try clear hb2); (try clear hk); (try clear hi); (try clear ho0); have hcz45_0 : w44.cell? ⟨gb684, 0, none⟩ = some (.int .i64 a0_0) := (blk_cell BK684.out 0).trans rfl; have hcz45_1 : w44.cell? ⟨gb684, 1, none⟩ = some (.bool a0_1) := (blk_cell BK684.out 1).trans rfl; have hcz45_2 : w44.cell? ⟨gb684, 2, none⟩ = some (.slice A0_2 l0_2.length c0_2) := (blk_cell BK684.out 2).trans rfl; have hfz45_0 := blk_frozen BK684.out 0; have hfz45_1 := blk_frozen BK684.out 1; have hfz45_2 := blk_frozen BK684.out 2; obtain ⟨Ao46, co46, eo46⟩ := Kd.R_slice HO698.out; subst eo46) | (go_at_call 60; (with_reducible refine (ebbtideref07_Check.calls k2 a0_0 a0_1 _ _ l0_2 a2 a3 _ _ t696 t700 t701 _ ?side1 ?side2 ?side3 ?side4 A35.out).mono ?_); (case side1 => repeat (first | exact (Kd.C_below HR0_2.out HB.out) | (with_reducible refine Kd.C_alloc ?_ _) | (with_reducible refine Kd.C_drewN ?_ _) | (with_reducible refine Kd.C_drew ?_))); (case side2 => exact HC0_2.out); (case side3 => repeat (first | exact (Kd.R_reads' HO698.out).2.2 | (with_reducible refine Kd.C_alloc ?_ _) | (with_reducible refine Kd.C_drewN ?_ _) | (with_reducible refine Kd.C_drew ?_))); (case side4 => exact (Kd.R_reads' HO698.out).2.1); rintro e w47 ⟨rfl, hb⟩; have n0_ := Aside0.mk (Kd.R_below (by (with_reducible repeat (first | apply Kd.R_alloc | apply Kd.R_drewN | apply Kd.R_drew)); exact HO_10.out) hb); have n1_ := Aside0.mk (Kd.R_below (by (with_reducible repeat (first | apply Kd.R_alloc | apply Kd.R_drewN | apply Kd.R_drew)); exact HO698.out) hb); have n2_ := Aside0.mk (blk_below (g := gb684) (o := .cells #[.int .i64 a0_0, .bool a0_1, .slice A0_2 l0_2.length c0_2] 24 (0, 0)) (by (with_reducible repeat (first | refine blk_drewN ?_ _ | refine blk_drew ?_ | refine blk_alloc ?_ _)); exact BK684.out) hb); have n3_ := Aside0.mk (below_step (by repeat (first | (with_reducible first | exact HB.out | apply below_alloc | apply pw_below_drewN | apply below_drew1 | refine below_set ?_ GE684.out) | exact HB.out)) hb); clear HO_10; clear HO698; clear BK684; clear HB; have HO_10 := n0_; have HO698 := n1_; have BK684 := n2_; have HB := n3_; clear n0_ n1_ n2_ n3_; (try clear hb); (try clear hb2); (try clear hk); (try clear hi))))
      go_ret
      exact ⟨by first | rfl | (simp [errW_none, errW_some] <;> rfl) | (simp [*, errW_none, errW_some] <;> rfl), by repeat (first | (with_reducible first | exact HB.out | apply below_alloc | apply pw_below_drewN | apply below_drew1 | refine below_set ?_ GE684.out) | exact HB.out)⟩
     rw [if_pos c24] at H
     have c24b0 : decide (x15_2 < (t686.length : Int)) = true := decide_eq_true c24
     clear c24
     by_cases c25 : 0 ≤ x15_2
     rotate_left
     ·rw [if_neg c25] at H
      exact absurd H (by simp)
     rw [if_pos c25] at H
     have c25b0 : decide (0 ≤ x15_2) = true := decide_eq_true c25
     clear c25
     by_cases c26 : ((rd_T38 t686 x15_2).f0) < 0
     ·rw [if_pos c26] at H
      have c26b0 : decide (((rd_T38 t686 x15_2).f0) < 0) = true := decide_eq_true c26
      clear c26
      obtain rfl := Option.some.inj H
      obtain ⟨Ao27, co27, eo27⟩ := Kd.R_slice HO_10.out
      subst eo27
      have p693 : 0 ≤ (x15_2 : Int) := of_decide_eq_true (by first | (with_reducible assumption) | assumption)
      have q693 : x15_2 < (t686.length : Int) := of_decide_eq_true (by first | (with_reducible assumption) | assumption)
      obtain ⟨ad693, e693, hx693_0, hx693_1⟩ := at_T38 (Kd.R_reads' HO_10.out).2.2 x15_2 p693 q693
      cases e693
      replace p693 := eq_true p693
      replace q693 := eq_true q693
      go_wp2
      repeat (go_quiet (fail); try go_wp2)
      go_ret
      exact ⟨by first | rfl | (simp [errW_none, errW_some] <;> rfl) | (simp [*, errW_none, errW_some] <;> rfl), by repeat (first | (with_reducible first | exact HB.out | apply below_alloc | apply pw_below_drewN | apply below_drew1 | refine below_set ?_ GE684.out) | exact HB.out)⟩
     rw [if_neg c26] at H
     have c26b0 : decide (((rd_T38 t686 x15_2).f0) < 0) = false := decide_eq_false c26
     clear c26
     by_cases c28 : ((rd_T38 t686 x15_2).f0) ≥ (l0_2.length : Int)
     ·rw [if_pos c28] at H
      have c28b0 : decide ((l0_2.length : Int) ≤ ((rd_T38 t686 x15_2).f0)) = true := decide_eq_true c28
      clear c28
      obtain rfl := Option.some.inj H
      obtain ⟨Ao29, co29, eo29⟩ := Kd.R_slice HO_10.out
      subst eo29
      have p693 : 0 ≤ (x15_2 : Int) := of_decide_eq_true (by first | (with_reducible assumption) | assumption)
      have q693 : x15_2 < (t686.length : Int) := of_decide_eq_true (by first | (with_reducible assumption) | assumption)
      obtain ⟨ad693, e693, hx693_0, hx693_1⟩ := at_T38 (Kd.R_reads' HO_10.out).2.2 x15_2 p693 q693
      cases e693
      replace p693 := eq_true p693
      replace q693 := eq_true q693
      have p694 : 0 ≤ (x15_2 : Int) := of_decide_eq_true (by first | (with_reducible assumption) | assumption)
      have q694 : x15_2 < (t686.length : Int) := of_decide_eq_true (by first | (with_reducible assumption) | assumption)
      obtain ⟨ad694, e694, hx694_0, hx694_1⟩ := at_T38 (Kd.R_reads' HO_10.out).2.2 x15_2 p694 q694
      obtain rfl : ad693 = ad694 := (by injection e694)
      replace p694 := eq_true p694
      replace q694 := eq_true q694
      have hcz30_0 : wr.cell? ⟨gb684, 0, none⟩ = some (.int .i64 a0_0) := (blk_cell BK684.out 0).trans rfl
      have hcz30_1 : wr.cell? ⟨gb684, 1, none⟩ = some (.bool a0_1) := (blk_cell BK684.out 1).trans rfl
      have hcz30_2 : wr.cell? ⟨gb684, 2, none⟩ = some (.slice A0_2 l0_2.length c0_2) := (blk_cell BK684.out 2).trans rfl
      have hfz30_0 := blk_frozen BK684.out 0
      have hfz30_1 := blk_frozen BK684.out 1
      have hfz30_2 := blk_frozen BK684.out 2
      go_wp2
      repeat (go_quiet (fail); try go_wp2)
      go_ret
      exact ⟨by first | rfl | (simp [errW_none, errW_some] <;> rfl) | (simp [*, errW_none, errW_some] <;> rfl), by repeat (first | (with_reducible first | exact HB.out | apply below_alloc | apply pw_below_drewN | apply below_drew1 | refine below_set ?_ GE684.out) | exact HB.out)⟩
     rw [if_neg c28] at H
     have c28b0 : decide ((l0_2.length : Int) ≤ ((rd_T38 t686 x15_2).f0)) = false := decide_eq_false c28
     clear c28
     have H' := Aside0.mk H
     clear H
     obtain ⟨Ao31, co31, eo31⟩ := Kd.R_slice HO_10.out
     subst eo31
     have p693 : 0 ≤ (x15_2 : Int) := of_decide_eq_true (by first | (with_reducible assumption) | assumption)
     have q693 : x15_2 < (t686.length : Int) := of_decide_eq_true (by first | (with_reducible assumption) | assumption)
     obtain ⟨ad693, e693, hx693_0, hx693_1⟩ := at_T38 (Kd.R_reads' HO_10.out).2.2 x15_2 p693 q693
     cases e693
     replace p693 := eq_true p693
     replace q693 := eq_true q693
     have p694 : 0 ≤ (x15_2 : Int) := of_decide_eq_true (by first | (with_reducible assumption) | assumption)
     have q694 : x15_2 < (t686.length : Int) := of_decide_eq_true (by first | (with_reducible assumption) | assumption)
     obtain ⟨ad694, e694, hx694_0, hx694_1⟩ := at_T38 (Kd.R_reads' HO_10.out).2.2 x15_2 p694 q694
     obtain rfl : ad693 = ad694 := (by injection e694)
     replace p694 := eq_true p694
     replace q694 := eq_true q694
     have hcz32_0 : wr.cell? ⟨gb684, 0, none⟩ = some (.int .i64 a0_0) := (blk_cell BK684.out 0).trans rfl
     have hcz32_1 : wr.cell? ⟨gb684, 1, none⟩ = some (.bool a0_1) := (blk_cell BK684.out 1).trans rfl
     have hcz32_2 : wr.cell? ⟨gb684, 2, none⟩ = some (.slice A0_2 l0_2.length c0_2) := (blk_cell BK684.out 2).trans rfl
     have hfz32_0 := blk_frozen BK684.out 0
     have hfz32_1 := blk_frozen BK684.out 1
     have hfz32_2 := blk_frozen BK684.out 2
     go_wp2
     repeat (go_quiet (fail); try go_wp2)
     go_roundg k2
     case measure => have := HJ8.out; have := HK2.out; omega
     case rel => exact ⟨(wrap64 (x15_2 + 1)), (by first | rfl | (simp; done) | (simp [*]; done)), H', ⟨by have := HJ8.out; have := HK2.out; omega⟩, ⟨by (with_reducible repeat (first | apply Kd.R_alloc | apply Kd.R_drewN | apply Kd.R_drew)); exact HO_10.out⟩, ⟨by (with_reducible repeat (first | refine blk_drewN ?_ _ | refine blk_drew ?_ | refine blk_alloc ?_ _)); exact BK684.out⟩, ⟨by repeat (first | (with_reducible first | exact HB.out | apply below_alloc | apply pw_below_drewN | apply below_drew1 | refine below_set ?_ GE684.out) | exact HB.out)⟩⟩
end Go.Proofs.Ytkcpanpdipmmmaa.P
namespace Go.Proofs.Ytkcpanpdipmmmaa.Opn
open Go.RowKit Go.ChangeShapes Go.WideShapes Go.Deep Go.Proofs.YtkcpanpdipmmmaaW.PrintWords
def Opens (P : Program) (t : TypeId) {α : Type} (d : Kd α) (ok : α → Prop) : Prop :=
 ∀ (H : Type) (enc : TypeId × Value → H) (w : World) (base : Nat) (spare : Nat → Bool) (held : Bool) (fuel : Nat) (cs : List Value) (x : DataW H × List MemPlace),
  DataW.trod enc P w base spare held fuel t cs = some x → ∃ a : α, d.K w a cs ∧ ok a
theorem opens_int {P : Program} {t : TypeId} {k : IntKind} (ht : P.underlying t = some (.int k)) : Opens P t (Kd.int k) (fun n => (Lit.int k n).wf = true) := by
 intro H enc w base spare held fuel cs x h
 obtain ⟨n, rfl, _, hw⟩ := DataW.trod_int ht h
 exact ⟨n, rfl, hw⟩
theorem opens_bool {P : Program} {t : TypeId} (ht : P.underlying t = some .bool) : Opens P t Kd.bool (fun _ => True) := by
 intro H enc w base spare held fuel cs x h
 obtain ⟨b, rfl, _⟩ := DataW.trod_bool ht h
 exact ⟨b, rfl, trivial⟩
theorem opens_slice {P : Program} {t e : TypeId} {α : Type} {d : Kd α} {ok : α → Prop} (ht : P.underlying t = some (.slice e)) (hc : P.cellsOf e = d.sz) (h : Opens P e d ok) :
  Opens P t (Kd.slice e d) (fun l => l.length ≤ 9223372036854775807 ∧ ∀ x ∈ l, ok x) := by
 intro H enc w base spare held fuel cs x hx
 rcases open_slice ht hx with ⟨rfl, _⟩ | ⟨a, len, cap, m, n, D, Pl, rfl, hb, hl, hm, hmm, _, hi⟩
 ·exact ⟨[], ⟨none, 0, rfl, Nat.le_refl _, rfl, by simp, fun h => absurd h (by simp)⟩, by simp, by simp⟩
 ·have hlm : len ≤ m := by rw [hmm]; split <;> omega
  have hel : ∀ i : Nat, i < len → ∃ a' : α, ok a' ∧ ∃ c, c.length = d.sz ∧ d.K w a' c ∧ ∀ j u, c[j]? = some u → w.cell? (a.add (i * d.sz + j)) = some u := by
   intro i hil
   obtain ⟨cs', hcs, htr⟩ := hi i (by omega)
   obtain ⟨a', hK, hok⟩ := h H enc w base spare held n cs' _ htr
   rw [hc] at hcs
   obtain ⟨_, hcl, hat⟩ := World.cells?_some hcs
   refine ⟨a', hok, cs', hcl, hK, fun j u hu => ?_⟩
   have hj : j < d.sz := by have := (List.getElem?_eq_some_iff.1 hu).1; omega
   have := hat j hj
   rw [← Go.Deep.add_add, this, hu]
  have hrow : ∀ k : Nat, k ≤ len → ∃ xs : List α, xs.length = k ∧ (∀ x ∈ xs, ok x) ∧ ∀ j p, xs[j]? = some p → ∃ c, c.length = d.sz ∧ d.K w p c ∧ ∀ i u, c[i]? = some u → w.cell? (a.add (j * d.sz + i)) = some u := by
   intro k
   induction k with
   | zero => exact fun _ => ⟨[], rfl, by simp, by simp⟩
   | succ k ih =>
    intro hk
    obtain ⟨xs, h1, h2, h3⟩ := ih (by omega)
    obtain ⟨a', ho, c, hcl, hK, hcell⟩ := hel k (by omega)
    refine ⟨xs ++ [a'], by simp [h1], fun x hx => ?_, fun j p hj => ?_⟩
    ·rcases List.mem_append.1 hx with h | h
     ·exact h2 x h
     ·rw [List.mem_singleton.1 h]; exact ho
    ·by_cases hjk : j < xs.length
     ·rw [List.getElem?_append_left hjk] at hj
      exact h3 j p hj
     ·have hjl := (List.getElem?_eq_some_iff.1 hj).1
      simp at hjl
      have hje : j = k := by omega
      subst hje
      rw [← h1, List.getElem?_concat_length] at hj
      obtain rfl := Option.some.inj hj
      exact ⟨c, hcl, hK, hcell⟩
  obtain ⟨xs, h1, h2, h3⟩ := hrow len (Nat.le_refl _)
  have hmx : len ≤ 9223372036854775807 := by unfold maxLen at hm; omega
  subst h1
  exact ⟨xs, ⟨some a, cap, rfl, hl, rfl, hmx, fun _ => ⟨a, rfl, h3⟩⟩, hmx, h2⟩
theorem opens_iso {P : Program} {t : TypeId} {α β : Type} {d : Kd α} {ok : α → Prop} (h : Opens P t d ok) (f : β → α) (g : α → β) (hfg : ∀ x, f (g x) = x) : Opens P t (Kd.iso d f) (fun y => ok (f y)) := by
 intro H enc w base spare held fuel cs x hx
 obtain ⟨a, hK, hok⟩ := h H enc w base spare held fuel cs x hx
 exact ⟨g a, by show d.K w (f (g a)) cs; rw [hfg]; exact hK, by show ok (f (g a)); rw [hfg]; exact hok⟩
def OpensFs (P : Program) (fs : List Field) (off : Nat) {α : Type} (d : Kd α) (ok : α → Prop) : Prop :=
 ∀ (H : Type) (enc : TypeId × Value → H) (w : World) (base : Nat) (spare : Nat → Bool) (held : Bool) (n : Nat) (cs : List Value), cs.length = off + d.sz →
  (∀ f ∈ fs, ∃ y, DataW.trod enc P w base spare held n f.type ((cs.drop f.offset).take (P.cellsOf f.type)) = some y) → ∃ a : α, d.K w a (cs.drop off) ∧ ok a
theorem fs_one {P : Program} {f : Field} {off : Nat} {α : Type} {d : Kd α} {ok : α → Prop} (ho : f.offset = off) (hc : P.cellsOf f.type = d.sz) (h : Opens P f.type d ok) : OpensFs P [f] off d ok := by
 intro H enc w base spare held n cs hl hf
 obtain ⟨y, hy⟩ := hf f (by simp)
 rw [ho, hc, List.take_of_length_le (by simp; omega)] at hy
 exact h H enc w base spare held n _ y hy
theorem fs_cons {P : Program} {f : Field} {fs : List Field} {off : Nat} {α β : Type} {d : Kd α} {d' : Kd β} {ok : α → Prop} {ok' : β → Prop} (ho : f.offset = off) (hc : P.cellsOf f.type = d.sz) (h : Opens P f.type d ok)
  (hr : OpensFs P fs (off + d.sz) d' ok') : OpensFs P (f :: fs) off (Kd.pair d d') (fun x => ok x.1 ∧ ok' x.2) := by
 intro H enc w base spare held n cs hl hf
 have hsz : (Kd.pair d d').sz = d.sz + d'.sz := rfl
 rw [hsz] at hl
 obtain ⟨y, hy⟩ := hf f (by simp)
 rw [ho, hc] at hy
 obtain ⟨a, hK, hok⟩ := h H enc w base spare held n _ y hy
 obtain ⟨b, hKb, hokb⟩ := hr H enc w base spare held n cs (by omega) (fun f' hf' => hf f' (List.mem_cons_of_mem _ hf'))
 refine ⟨(a, b), ⟨_, _, ?_, hK, hKb⟩, hok, hokb⟩
 rw [← List.drop_drop]
 exact (List.take_append_drop _ _).symm
theorem opens_struct {P : Program} {t : TypeId} {fs : Array Field} {α : Type} {d : Kd α} {ok : α → Prop} (hs : P.underlying t = some (.struct fs)) (hC : P.cellsOf t = d.sz) (h : OpensFs P fs.toList 0 d ok) : Opens P t d ok := by
 intro H enc w base spare held fuel cs x hx
 obtain ⟨xs, n, _, _, hl, hlen, hf⟩ := DataW.trod_struct hs hx
 obtain ⟨a, hK, hok⟩ := h H enc w base spare held n cs (by rw [hl, hC, Nat.zero_add]) (fun f hfm => by
  obtain ⟨j, hj⟩ := List.getElem?_of_mem hfm
  have hj' : fs[j]? = some f := by rw [← hj]; simp
  have hjl : j < xs.length := by rw [hlen]; exact (Array.getElem?_eq_some_iff.1 hj').1
  have h1 := hf j f hj'
  rw [List.getElem?_eq_getElem hjl] at h1
  exact ⟨_, h1⟩)
 exact ⟨a, hK, hok⟩
theorem arg_struct {H : Type} {enc : TypeId × Value → H} {P : Program} {w : World} {base b0 : Nat} {spare : Nat → Bool} {held : Bool} {r : Reach} {t : TypeId} {fs : Array Field} {v : Value} {dd : DataW H} {p : List MemPlace} {α : Type} {d : Kd α} {ok : α → Prop}
  (hs : P.underlying t = some (.struct fs)) (ho : Opens P t d ok) (hv : Value.okWide P w r b0 t v) (h : DataW.Trod enc P w base spare held t v dd p) : ∃ a cs, v = .agg cs ∧ d.K w a cs.toList ∧ ok a := by
 obtain ⟨cs, rfl, hsz⟩ := okWide_struct hs hv
 obtain ⟨fuel, hf⟩ := h
 obtain ⟨a, hK, hok⟩ := ho H enc w base spare held fuel _ _ hf
 exact ⟨a, cs, rfl, by simpa [Value.cells] using hK, hok⟩
theorem arg_slice {H : Type} {enc : TypeId × Value → H} {P : Program} {w : World} {base b0 : Nat} {spare : Nat → Bool} {held : Bool} {r : Reach} {t e : TypeId} {v : Value} {dd : DataW H} {p : List MemPlace} {α : Type} {d : Kd α} {ok : List α → Prop}
  (hs : P.underlying t = some (.slice e)) (ho : Opens P t (Kd.slice e d) ok) (hv : Value.okWide P w r b0 t v) (h : DataW.Trod enc P w base spare held t v dd p) : ∃ A c l, v = .slice A l.length c ∧ l.length ≤ c ∧ d.C w A l.length l ∧ ok l := by
 obtain ⟨A, len, cap, rfl⟩ := okWide_slice hs hv
 obtain ⟨fuel, hf⟩ := h
 obtain ⟨l, ⟨A', c, he, hlc, hC⟩, hok⟩ := ho H enc w base spare held fuel _ _ hf
 simp [Value.cells] at he
 obtain ⟨rfl, rfl, rfl⟩ := he
 exact ⟨A, cap, l, rfl, hlc, hC, hok⟩
end Go.Proofs.Ytkcpanpdipmmmaa.Opn
namespace Go.Proofs.Ytkcpanpdipmmmaa.Q
open Go.RowKit Go.Proofs.YtkcpanpdipmmmaaW.PrintWords Go.Proofs.YtkcpanpdipmmmaaW.PrintLast Go.Proofs.YtkcpanpdipmmmaaW.PrintMore Go.Proofs.Ytkcpanpdipmmmaa.P
open Go.Proofs.Ytkcpanpdipmmmaa.H (levelsRes pathRes wayP endsErr Right right_of bfP dOf nodes wayL frP toP esP Fd bfP_upto dOf_len dOf_get fnd fnd_some fnd_none fnd_of backL_spec lv_lt esP_fr esP_to)
theorem awake08_at : ebbtidelaw08_awake.f 100 = some true := by decide +kernel
theorem awake08_ev : Ev (fun k => ebbtidelaw08_awake.f k) true := Ev.of ebbtidelaw08_awake.mono awake08_at
theorem path_eq (n : Int) (b : Bool) (l : List S74) (F : List Int) (s t : Int) : level_Path.f n b l F s t = some (pathRes n l F s t) := rfl
theorem pathRes_len (n : Int) (l : List S74) (F : List Int) (s t : Int) : (pathRes n l F s t).1.length ≤ 50 := by
 unfold pathRes
 split
 ·rename_i h0
  split
  ·rename_i h1
   obtain ⟨n0, rfl, hr⟩ := right_of h0
   have := hr.fifty
   have he : 0 ≤ s ∧ s < (n0 : Int) ∧ 0 ≤ t ∧ t < (n0 : Int) ∧ s ≠ t := by
    unfold endsErr at h1
    by_cases hn : netErr n0 l = 0
    ·rw [if_pos hn] at h1
     split at h1
     ·assumption
     ·cases h1
    ·rw [if_neg hn] at h1; exact absurd h1 hn
   obtain ⟨s0, rfl⟩ : ∃ s0 : Nat, s = s0 := ⟨s.toNat, by omega⟩
   obtain ⟨t0, rfl⟩ : ∃ t0 : Nat, t = t0 := ⟨t.toNat, by omega⟩
   simp only [Int.toNat_natCast]
   by_cases hm : t0 ∈ nodes (bfP l F n0 s0)
   ·obtain ⟨x, hx, rfl⟩ := List.mem_map.1 hm
    have hu := (bfP_upto hr (show s0 < n0 by omega)).fds
    have h3 := lv_lt hu hx
    have h4 := H.fds_len hu (esP_to hr) (show s0 < n0 by omega)
    unfold wayP
    rw [if_pos hm]
    unfold wayL
    rw [List.length_reverse, (backL_spec hu esP_fr _ hx (Nat.le_of_lt h3)).1]
    omega
   ·unfold wayP
    rw [if_neg hm]
    simp
  ·simp
 ·simp
end Go.Proofs.Ytkcpanpdipmmmaa.Q
namespace Go.Proofs.Ytkcpanpdipmmmaa.Q
open Go.RowKit Go.Proofs.YtkcpanpdipmmmaaW.PrintWords Go.Proofs.YtkcpanpdipmmmaaW.PrintLast Go.Proofs.YtkcpanpdipmmmaaW.PrintMore Go.Proofs.Ytkcpanpdipmmmaa.P
open Go.Proofs.Ytkcpanpdipmmmaa.H (stRoom)
theorem rdStep_nat (l : List S38) (i : Nat) : rd_T38 l (i : Int) = l.getD i z38 := by unfold rd_T38; rw [Int.toNat_natCast]
end Go.Proofs.Ytkcpanpdipmmmaa.Q
namespace Go.Proofs.Ytkcpanpdipmmmaa.Q
open Go.RowKit Go.Proofs.YtkcpanpdipmmmaaW.PrintWords Go.Proofs.YtkcpanpdipmmmaaW.PrintLast Go.Proofs.YtkcpanpdipmmmaaW.PrintMore Go.Proofs.Ytkcpanpdipmmmaa.P
open Go.Proofs.Ytkcpanpdipmmmaa.H (levelsRes pathRes wayP endsErr Right right_of bfP dOf nodes wayL frP toP esP Fd bfP_upto dOf_len dOf_get fnd fnd_none fnd_of backL backL_spec backL_more lv_lt esP_fr esP_to stFrom stTo stRoom Fds mem_esP stL_of stTo_in)
theorem path_yes {n : Int} {l : List S74} {F : List Int} {s t : Int} (h0 : askErr n l F = 0) (h1 : endsErr n l s t = 0) : ∃ n0 s0 t0 : Nat, n = n0 ∧ s = s0 ∧ t = t0 ∧ Right l F n0 ∧ s0 < n0 ∧ t0 < n0 ∧ s0 ≠ t0 ∧
  pathRes n l F s t = (wayP l F n0 s0 t0, decide (t0 ∈ nodes (bfP l F n0 s0)), 0) ∧ levelsRes n l F s = (dOf n0 (bfP l F n0 s0), 0) := by
 obtain ⟨n0, rfl, hr⟩ := right_of h0
 have h1' := h1
 have he : 0 ≤ s ∧ s < (n0 : Int) ∧ 0 ≤ t ∧ t < (n0 : Int) ∧ s ≠ t := by
  unfold endsErr at h1
  by_cases hn : netErr n0 l = 0
  ·rw [if_pos hn] at h1
   split at h1
   ·assumption
   ·cases h1
  ·rw [if_neg hn] at h1; exact absurd h1 hn
 obtain ⟨s0, rfl⟩ : ∃ s0 : Nat, s = s0 := ⟨s.toNat, by omega⟩
 obtain ⟨t0, rfl⟩ : ∃ t0 : Nat, t = t0 := ⟨t.toNat, by omega⟩
 refine ⟨n0, s0, t0, rfl, rfl, rfl, hr, by omega, by omega, by omega, ?_, ?_⟩
 ·unfold pathRes
  rw [if_pos h0, if_pos h1']
  simp only [Int.toNat_natCast]
 ·unfold levelsRes
  rw [if_pos h0, if_pos ⟨by omega, by omega⟩]
  simp only [Int.toNat_natCast]
end Go.Proofs.Ytkcpanpdipmmmaa.Q
namespace Go.Proofs.Ytkcpanpdipmmmaa.Q
open Go.RowKit Go.Proofs.YtkcpanpdipmmmaaW.PrintWords Go.Proofs.YtkcpanpdipmmmaaW.PrintLast Go.Proofs.YtkcpanpdipmmmaaW.PrintMore Go.Proofs.Ytkcpanpdipmmmaa.P
open Go.Proofs.Ytkcpanpdipmmmaa.H (endsErr Right right_of StepOf stRoom IsFlow leastR pushW stRoom_in)
theorem endsE_ok {n : Int} {l : List S74} {s t : Int} (h : endsErr n l s t = 0) : NetOk n l ∧ 0 ≤ s ∧ s < n ∧ 0 ≤ t ∧ t < n ∧ s ≠ t := by
 unfold endsErr at h
 by_cases hn : netErr n l = 0
 ·rw [if_pos hn] at h
  split at h
  ·rename_i he
   exact ⟨netErr_ok hn, he⟩
  ·cases h
 ·rw [if_neg hn] at h; exact absurd h hn
theorem endsE_of {n : Int} {l : List S74} {s t : Int} (hn : NetOk n l) (h : 0 ≤ s ∧ s < n ∧ 0 ≤ t ∧ t < n ∧ s ≠ t) : endsErr n l s t = 0 := by
 unfold endsErr
 rw [if_pos (netOk_err hn), if_pos h]
def evenB (s t : Int) : List Int → Int → Bool
 | [], _ => true
 | x :: l, i => if i = s then evenB s t l (i + 1) else if i = t then evenB s t l (i + 1) else if x = 0 then evenB s t l (i + 1) else false
def valRes (n : Int) (l : List S74) (s t : Int) (f : List Int) : Int × Int :=
 if endsErr n l s t = 0 then (if askErr n l f = 0 then (if evenB s t (balOf n l f) 0 = true then (bal l f s, 0) else (0, 71)) else (0, askErr n l f)) else (0, endsErr n l s t)
theorem evenB_iff (s t : Int) (X : List Int) : ∀ i : Int, evenB s t X i = true ↔ ∀ j : Nat, j < X.length → i + j ≠ s → i + j ≠ t → X.getD j 0 = 0 := by
 induction X with
 | nil => intro i; simp [evenB]
 | cons x X ih =>
  intro i
  have key : evenB s t X (i + 1) = true ↔ ∀ j : Nat, j + 1 < (x :: X).length → i + (j + 1 : Nat) ≠ s → i + (j + 1 : Nat) ≠ t → (x :: X).getD (j + 1) 0 = 0 := by
   rw [ih (i + 1)]
   constructor
   ·intro h j h1 h2 h3
    rw [List.getD_cons_succ]
    exact h j (by simpa using h1) (by omega) (by omega)
   ·intro h j h1 h2 h3
    have := h j (by simpa using h1) (by omega) (by omega)
    rwa [List.getD_cons_succ] at this
  have all : (i ≠ s → i ≠ t → x = 0) → (evenB s t X (i + 1) = true ↔ ∀ j : Nat, j < (x :: X).length → i + j ≠ s → i + j ≠ t → (x :: X).getD j 0 = 0) := by
   intro hx
   rw [key]
   constructor
   ·intro h j h1 h2 h3
    cases j with
    | zero => exact hx (by simpa using h2) (by simpa using h3)
    | succ j => exact h j h1 h2 h3
   ·intro h j h1 h2 h3
    exact h (j + 1) h1 h2 h3
  unfold evenB
  by_cases h1 : i = s
  ·rw [if_pos h1]; exact all (fun h => absurd h1 h)
  rw [if_neg h1]
  by_cases h2 : i = t
  ·rw [if_pos h2]; exact all (fun _ h => absurd h2 h)
  rw [if_neg h2]
  by_cases h3 : x = 0
  ·rw [if_pos h3]; exact all (fun _ _ => h3)
  ·rw [if_neg h3]
   constructor
   ·intro h; cases h
   ·intro h
    exact absurd (h 0 (by simp) (by simpa using h1) (by simpa using h2)) h3
theorem ref_check2_l0 (n : Int) (p : Bool) (l : List S74) (s t : Int) (b : List Int) (hb : b.length ≤ 50) (hbn : n = b.length) (hs : 0 ≤ s) (hsn : s < b.length) (d : Nat) : ∀ i : Nat, i + d = b.length →
  Ev (fun k => ebbtideref07_Check.l0 k s t b (i : Int) n p l) (if evenB s t (b.drop i) i = true then (rd b s, 0) else (0, 71)) := by
 induction d with
 | zero =>
  intro i hi
  refine Ev.succ ?_; simp only [ebbtideref07_Check.l0]
  refine Ev.neg (by omega) ?_
  refine Ev.pos (by omega) ?_
  refine Ev.pos (by omega) ?_
  rw [List.drop_of_length_le (by omega)]
  exact Ev.now _
 | succ d ih =>
  intro i hi
  refine Ev.succ ?_; simp only [ebbtideref07_Check.l0]
  refine Ev.pos (by omega) ?_
  rw [drop_getD b i 0 (by omega), rd_nat, wrap_succ (n := b.length) (by omega) (by omega)]
  unfold evenB
  have := ih (i + 1) (by omega)
  rw [show ((i + 1 : Nat) : Int) = (i : Int) + 1 by omega] at this ⊢
  refine Ev.ite (fun g1 => ?_) (fun g1 => ?_)
  ·rw [if_pos g1]; exact this
  rw [if_neg g1]
  refine Ev.ite (fun g2 => ?_) (fun g2 => ?_)
  ·rw [if_pos g2]; exact this
  rw [if_neg g2]
  refine Ev.pos (by omega) ?_
  refine Ev.pos (by omega) ?_
  refine Ev.ite (fun g => ?_) (fun g => ?_)
  ·rw [if_pos g]; exact this
  rw [if_neg g]
  exact Ev.now _
theorem ref_value_ev (n : Int) (b : Bool) (l : List S74) (s t : Int) (f : List Int) : Ev (fun k => ebbtideref07_Check.f k n b l s t f) (valRes n l s t f) := by
 unfold ebbtideref07_Check.f valRes
 refine Ev.bind (ref_ends_ev n b l s t) ?_
 refine Ev.ite (fun h => ?_) (fun h => ?_)
 ·rw [if_pos h]
  obtain ⟨hn, he⟩ := endsE_ok h
  have := hn.lo; have := hn.hi
  refine Ev.bind (ref_balance_ev n b l f) ?_
  by_cases g : askErr n l f = 0
  ·rw [if_pos g, balRes_ok g]
   refine Ev.pos rfl ?_
   refine Ev.eq (ref_check2_l0 n b l s t (balOf n l f) (by rw [balOf_len]; omega) (by rw [balOf_len]; omega) (by omega) (by rw [balOf_len]; omega) _ 0 (Nat.zero_add _)) ?_
   rw [rd_balOf (by omega) (by omega), List.drop_zero]
   rfl
  ·rw [if_neg g, balRes_no g]
   exact Ev.neg g (Ev.now _)
 ·rw [if_neg h]
  exact Ev.now _
theorem flowOk_of {l : List S74} {F : List Int} {n : Nat} (hr : Right l F n) : FlowOk l F := by
 refine ⟨hr.len, fun i hi => ?_⟩
 have := hr.nums i (by rw [← hr.len]; exact hi)
 rw [rd_nat]
 exact ⟨this.2.2.1, this.2.2.2.1⟩
theorem even_flow {n : Nat} {l : List S74} {F : List Int} {s t : Int} (hr : Right l F n) : evenB s t (balOf n l F) 0 = true ↔ IsFlow l F n s t := by
 rw [evenB_iff]
 have hlen := balOf_len (n : Int) l F
 rw [Int.toNat_natCast] at hlen
 have hg : ∀ v : Nat, v < n → (balOf n l F).getD v 0 = bal l F v := fun v hv => by
  have h_ := rd_balOf (n := (n : Int)) (l := l) (f := F) (v := (v : Int)) (by omega) (by omega)
  rw [rd_nat] at h_
  exact h_
 constructor
 ·intro h
  refine ⟨hr, fun v h0 h1 h2 h3 => ?_⟩
  obtain ⟨v, rfl⟩ : ∃ v' : Nat, v = v' := ⟨v.toNat, by omega⟩
  rw [← hg v (by omega)]
  exact h v (by omega) (by omega) (by omega)
 ·intro h v hv h2 h3
  rw [hg v (by omega)]
  exact h.keeps v (by omega) (by omega) (by omega) (by omega)
theorem val_flow {n : Nat} {l : List S74} {F : List Int} {s t : Int} (hn : NetOk n l) (he : 0 ≤ s ∧ s < n ∧ 0 ≤ t ∧ t < n ∧ s ≠ t) (hf : IsFlow l F n s t) : valRes n l s t F = (bal l F s, 0) := by
 unfold valRes
 rw [if_pos (endsE_of hn he), if_pos (ask_of hn (flowOk_of hf.right)), if_pos ((even_flow hf.right).2 hf)]
theorem flow_val {n : Int} {l : List S74} {F : List Int} {s t : Int} (h : (valRes n l s t F).2 = 0) : endsErr n l s t = 0 ∧ askErr n l F = 0 ∧ ∃ n0 : Nat, n = n0 ∧ IsFlow l F n0 s t ∧ valRes n l s t F = (bal l F s, 0) := by
 unfold valRes at h ⊢
 by_cases h1 : endsErr n l s t = 0
 ·rw [if_pos h1] at h ⊢
  by_cases h2 : askErr n l F = 0
  ·rw [if_pos h2] at h ⊢
   obtain ⟨n0, rfl, hr⟩ := right_of h2
   by_cases h3 : evenB s t (balOf n0 l F) 0 = true
   ·rw [if_pos h3]
    exact ⟨h1, h2, n0, rfl, (even_flow hr).1 h3, rfl⟩
   ·rw [if_neg h3] at h; cases h
  ·rw [if_neg h2] at h; exact absurd h h2
 ·rw [if_neg h1] at h; exact absurd h h1
section
variable {l : List S74} {F : List Int} {n : Nat}
theorem left_rt (hr : Right l F n) {s : S38} (hs : StepOf l s) (m : Int) (b : Bool) : ebbtideref07_Left.f m b l F s.f0 s.f1 = some (stRoom l F s) := by
 have h0 := stRoom_in hr hs
 have hl := hr.len
 obtain ⟨i, h1, h2⟩ := hs
 unfold ebbtideref07_Left.f
 unfold stRoom at *
 by_cases g : s.f1 = true
 ·simp only [if_pos g] at h0 ⊢
  rw [if_pos (by omega), if_pos (by omega)]
  rfl
 ·simp only [if_neg g] at h0 ⊢
  rw [if_pos (by omega), if_pos (by omega), if_pos (by omega)]
  have e : rd F s.f0 = F.getD s.f0.toNat 0 := rfl
  rw [e, wrap_id (by omega) (by omega)]
def minR (l : List S74) (F : List Int) : Int → List S38 → Int
 | a, [] => a
 | a, s :: L => minR l F (min a (stRoom l F s)) L
theorem minR_least (l : List S74) (F : List Int) : ∀ (L : List S38) (a : Int), L ≠ [] → minR l F a L = min a (leastR l F L)
 | [], a, h => absurd rfl h
 | [s], a, _ => rfl
 | s :: t :: L, a, _ => by
  show minR l F (min a (stRoom l F s)) (t :: L) = _
  rw [minR_least l F (t :: L) _ (by simp)]
  show _ = min a (min (stRoom l F s) (leastR l F (t :: L)))
  omega
theorem bottle_l0 (hr : Right l F n) (b : Bool) (m : Int) {W : List S38} (hW : ∀ s, s ∈ W → StepOf l s) (hl : W.length ≤ 1000000) (d : Nat) : ∀ (i : Nat) (a : Int), i + d = W.length →
  Ev (fun k => ebbtideref08_Bottle.l0 k F W a (i : Int) m b l) (minR l F a (W.drop i)) := by
 induction d with
 | zero =>
  intro i a hi
  refine Ev.succ ?_; simp only [ebbtideref08_Bottle.l0]
  refine Ev.neg (by omega) ?_
  exact Ev.done (by rw [List.drop_of_length_le (by omega)]; rfl)
 | succ d ih =>
  intro i a hi
  refine Ev.succ ?_; simp only [ebbtideref08_Bottle.l0]
  refine Ev.pos (by omega) ?_
  refine Ev.pos (by omega) ?_
  rw [rdStep_nat]
  have hm : W.getD i z38 ∈ W := by rw [List.getD_eq_getElem?_getD, List.getElem?_eq_getElem (by omega)]; exact List.getElem_mem _
  refine Ev.call (left_rt hr (hW _ hm) m b) ?_
  rw [wrap_succ (n := W.length) (by omega) (by omega), drop_getD W i z38 (by omega)]
  have e : mn a (stRoom l F (W.getD i z38)) = min a (stRoom l F (W.getD i z38)) := by unfold mn; split <;> omega
  rw [e]
  exact ih (i + 1) _ (by omega)
theorem bottle_ev (hr : Right l F n) (b : Bool) (m : Int) {W : List S38} (hW : ∀ s, s ∈ W → StepOf l s) (hl : W.length ≤ 1000000) (hne : W ≠ []) : Ev (fun k => ebbtideref08_Bottle.f k m b l F W) (leastR l F W) := by
 cases W with
 | nil => exact absurd rfl hne
 | cons s W =>
  unfold ebbtideref08_Bottle.f
  refine Ev.pos (by simp) ?_
  have e0 : rd_T38 (s :: W) 0 = s := rfl
  rw [e0]
  refine Ev.call (left_rt hr (hW s List.mem_cons_self) m b) ?_
  refine Ev.eq (bottle_l0 hr b m hW hl W.length 1 (stRoom l F s) (by simp; omega)) ?_
  show minR l F (stRoom l F s) W = _
  cases W with
  | nil => rfl
  | cons t W =>
   rw [minR_least l F (t :: W) _ (by simp)]
   rfl
theorem ref_pushw_l0 (b : Bool) (m : Int) {F0 : List Int} (h0l : F0.length = l.length) {c : Int} (h0 : 0 ≤ c) {W : List S38} (hl : W.length ≤ 1000000) (d : Nat) : ∀ (i : Nat) (X : List Int), i + d = W.length → Right l X n → (∀ s, s ∈ W.drop i → StepOf l s ∧ c ≤ stRoom l X s) → (W.drop i).Pairwise (fun a b => a.f0 ≠ b.f0) →
  Ev (fun k => ebbtideref07_Push.l0 k F0 W c X (i : Int) m b l) (pushW X c (W.drop i), 0) := by
 induction d with
 | zero =>
  intro i X hi _ _ _
  refine Ev.succ ?_; simp only [ebbtideref07_Push.l0]
  refine Ev.neg (by omega) ?_
  exact Ev.done (by rw [List.drop_of_length_le (by omega)]; rfl)
 | succ d ih =>
  intro i X hi hr hst hp
  have hd := drop_getD W i z38 (by omega)
  obtain ⟨e, hee⟩ : ∃ e, e = W.getD i z38 := ⟨_, rfl⟩
  rw [← hee] at hd
  rw [hd] at hst hp ⊢
  rw [List.pairwise_cons] at hp
  obtain ⟨hso, hrm⟩ := hst e List.mem_cons_self
  have hgo := hr.go hso h0 hrm
  have hXl := hr.len
  have hnx := ih (i + 1) (H.goS X e c) (by omega) hgo (fun x hx => by
   have hx2 := hst x (List.mem_cons_of_mem _ hx)
   exact ⟨hx2.1, by rw [H.room_other hso hx2.1 c (hp.1 x hx)]; exact hx2.2⟩) hp.2
  obtain ⟨j, hj, hje⟩ := hso
  have hgn := hgo.nums j hj
  have hin := hr.nums j hj
  have hroom := stRoom_in hr ⟨j, hj, hje⟩
  refine Ev.succ ?_; simp only [ebbtideref07_Push.l0]
  refine Ev.pos (by omega) ?_
  refine Ev.pos (by omega) ?_
  rw [rdStep_nat, ← hee]
  refine Ev.neg (by omega) ?_
  rw [decide_eq_false (by omega)]
  refine Ev.succ ?_; simp only [ebbtideref07_Push.j1]
  refine Ev.neg (by simp) ?_
  refine Ev.pos (by omega) ?_
  refine Ev.pos (by omega) ?_
  rw [rdStep_nat, ← hee]
  refine Ev.call (left_rt hr ⟨j, hj, hje⟩ m b) ?_
  refine Ev.neg (by omega) ?_
  have e1 : rd X e.f0 = X.getD j 0 := by rw [hje, rd_nat]
  have e2 : X.getD e.f0.toNat 0 = X.getD j 0 := by rw [hje, Int.toNat_natCast]
  rw [wrap_succ (n := W.length) (by omega) (by omega)]
  unfold stRoom at hrm
  unfold H.goS at hnx
  refine Ev.ite (fun g => ?_) (fun g => ?_)
  ·rw [if_pos g] at hrm hnx
   refine Ev.pos (by omega) ?_
   refine Ev.pos (by omega) ?_
   rw [e1, wrap_id (by omega) (by omega), ← e2]
   show Ev _ (pushW (H.goS X e c) c (W.drop (i + 1)), 0)
   unfold H.goS
   rw [if_pos g]
   exact hnx
  ·rw [if_neg g] at hrm hnx
   have hf2 := hin.2.2.2.2
   rw [hje] at hrm
   rw [Int.toNat_natCast] at hrm
   refine Ev.pos (by omega) ?_
   refine Ev.pos (by omega) ?_
   rw [e1, wrap_id (by omega) (by omega), ← e2]
   show Ev _ (pushW (H.goS X e c) c (W.drop (i + 1)), 0)
   unfold H.goS
   rw [if_neg g]
   exact hnx
theorem ref_pushw_ev {m : Int} (ha : askErr m l F = 0) (hr : Right l F n) (b : Bool) {c : Int} (h0 : 0 ≤ c) {W : List S38} (hl : W.length ≤ 1000000) (hst : ∀ s, s ∈ W → StepOf l s ∧ c ≤ stRoom l F s) (hp : W.Pairwise (fun a b => a.f0 ≠ b.f0)) :
  Ev (fun k => ebbtideref07_Push.f k m b l F W c) (pushW F c W, 0) := by
 have hF := hr.len
 have har := hr.arcs
 unfold ebbtideref07_Push.f
 refine Ev.bind (ref_asked_ev m b l F) ?_
 refine Ev.pos ha ?_
 refine Ev.neg (by omega) ?_
 refine Ev.pos (by simp; omega) ?_
 rw [List.nil_append]
 exact ref_pushw_l0 b m hF h0 hl W.length 0 F (by omega) hr hst hp
end
end Go.Proofs.Ytkcpanpdipmmmaa.Q
