/- Joined by wip/tool/bundle.py out of: P15 P16 P17 P18 P19 P20 P21 QBase QNet P65 QFlow QSums QTcSet QTcRises QTcOf QTcTakes QTcPure. -/
import Derived.Test.YtagppmdgmppmnaaGhhiiib
import Derived.Test.YtagppmdgmppmnaaV
import Derived.Test.YtagppmdgmppmnaaProg
import Derived.Maps.OwnSet
import Derived.DeepKeys4
import Derived.WalkKit
import Derived.KernelRfl
import Derived.LoopTactic
import Derived.Carry
import Derived.Maps.AppendAt
-- Laid by wip/tool/mk.py, by the kit's print.py, for all laws of this seat in one namespace; a function told as by hand has a proof of this session's own.
namespace Go.Proofs.Ytagppmdgmppmnaa.P
open Go.RowKit Go.Proofs.YtagppmdgmppmnaaW.PrintWords Go.Proofs.YtagppmdgmppmnaaW.PrintLast Go.Proofs.YtagppmdgmppmnaaW.PrintMore
attribute [local go_sem] max2_int min2_int max_two min_two max_three min_three max_four min_four   -- for this text's walks alone
set_option linter.unusedVariables false
set_option linter.unusedSimpArgs false

/-! ### ebbtideref18_Check: function 13 -/
mutual
def ebbtideref18_Check.l0 : Nat → Int → Int → Int → List (S59) → Int → Int → Bool → List (S69) → Option (Int × Int)
 | 0, _, _, _, _, _, _, _, _ => none
 | k + 1, x1, x2, x3, x4, x14, x134000, x134001, x134002 => if x14 ≤ x3 then ((ebbtideref18_Has.f k x4 x1 x14).bind fun t136 => (if t136 = true then ((ebbtideref18_Has.f k x4 x2 x14).bind fun t137 => (if t137 = true then (some (0, 181)) else (ebbtideref18_Check.l0 k x1 x2 x3 x4 (wrap64 (x14 + 1)) x134000 x134001 x134002))) else (some (0, 181)))) else (ebbtideref18_Check.l1 k x3 x4 0 x134000 x134001 x134002)
def ebbtideref18_Check.l1 : Nat → Int → List (S59) → Int → Int → Bool → List (S69) → Option (Int × Int)
 | 0, _, _, _, _, _, _ => none
 | k + 1, x3, x4, x15, x134000, x134001, x134002 => if x15 < x134000 then (ebbtideref18_Check.j2 k x3 x4 x15 x134001 x134000 x134001 x134002) else (ebbtideref18_Check.j2 k x3 x4 x15 false x134000 x134001 x134002)
def ebbtideref18_Check.j2 : Nat → Int → List (S59) → Int → Bool → Int → Bool → List (S69) → Option (Int × Int)
 | 0, _, _, _, _, _, _, _ => none
 | k + 1, x3, x4, x15, x54, x134000, x134001, x134002 => if x54 = true then ((ebbtideref18_Rises.f k x4 x15 x3).bind fun t138 => (if t138 = true then (ebbtideref18_Check.l1 k x3 x4 (wrap64 (x15 + 1)) x134000 x134001 x134002) else (some (0, 181)))) else ((ebbtideref18_all.f k x134000 x134001 x134002).bind fun t139 => ((ebbtideref18_Takes.f k x134000 x134001 x134002 x3 x4 t139).bind fun t142 => (some (t142, 0))))
end
def ebbtideref18_Check.f (k : Nat) (a0_0 : Int) (a0_1 : Bool) (l0_2 : List (S69)) (a1 : Int) (a2 : Int) (a3 : Int) (l4 : List (S59)) : Option (Int × Int) := (ebbtideref12_Asked.f k a0_0 a0_1 l0_2 a1 a2 a3).bind fun t134 => (if t134 = 0 then ((ebbtideref18_Slots.f k a0_0 a0_1 l0_2 a3 l4).bind fun t135 => (if t135 = 0 then (ebbtideref18_Check.l0 k a1 a2 a3 l4 0 a0_0 a0_1 l0_2) else (some (0, t135)))) else (some (0, t134)))
theorem ebbtideref18_Check.mono_l : ∀ k, (∀ y0 y1 y2 y3 y4 y5 y6 y7, LeO (ebbtideref18_Check.l0 k y0 y1 y2 y3 y4 y5 y6 y7) (ebbtideref18_Check.l0 (k + 1) y0 y1 y2 y3 y4 y5 y6 y7)) ∧ (∀ y0 y1 y2 y3 y4 y5, LeO (ebbtideref18_Check.l1 k y0 y1 y2 y3 y4 y5) (ebbtideref18_Check.l1 (k + 1) y0 y1 y2 y3 y4 y5)) ∧ (∀ y0 y1 y2 y3 y4 y5 y6, LeO (ebbtideref18_Check.j2 k y0 y1 y2 y3 y4 y5 y6) (ebbtideref18_Check.j2 (k + 1) y0 y1 y2 y3 y4 y5 y6))
 | 0 => ⟨fun _ _ _ _ _ _ _ _ r h => by simp [ebbtideref18_Check.l0] at h, fun _ _ _ _ _ _ r h => by simp [ebbtideref18_Check.l1] at h, fun _ _ _ _ _ _ _ r h => by simp [ebbtideref18_Check.j2] at h⟩
 | k + 1 => by
  obtain ⟨ih0, ih1, ih2⟩ := ebbtideref18_Check.mono_l k
  refine ⟨?_, ?_, ?_⟩
  ·intro y0 y1 y2 y3 y4 y5 y6 y7
   unfold ebbtideref18_Check.l0
   repeat' first
   | (with_reducible exact ih0 _ _ _ _ _ _ _ _)
   | (with_reducible exact ih1 _ _ _ _ _ _)
   | (with_reducible exact ih2 _ _ _ _ _ _ _)
   | (with_reducible exact ebbtideref12_Asked.mono _ _ _ _ _ _ _)
   | (with_reducible exact ebbtideref18_Has.mono _ _ _ _)
   | (with_reducible exact ebbtideref18_Rises.mono _ _ _ _)
   | (with_reducible exact ebbtideref18_Slots.mono _ _ _ _ _ _)
   | (with_reducible exact ebbtideref18_Takes.mono _ _ _ _ _ _ _)
   | (with_reducible exact ebbtideref18_all.mono _ _ _ _)
   | (with_reducible exact LeO.refl _)
   | (with_reducible exact LeO.none _)
   | (with_reducible refine LeO.ite ?_ ?_)
   | (with_reducible refine LeO.bind ?_ (fun _ => ?_))
   | exact ih0 _ _ _ _ _ _ _ _
   | exact ih1 _ _ _ _ _ _
   | exact ih2 _ _ _ _ _ _ _
   | exact ebbtideref12_Asked.mono _ _ _ _ _ _ _
   | exact ebbtideref18_Has.mono _ _ _ _
   | exact ebbtideref18_Rises.mono _ _ _ _
   | exact ebbtideref18_Slots.mono _ _ _ _ _ _
   | exact ebbtideref18_Takes.mono _ _ _ _ _ _ _
   | exact ebbtideref18_all.mono _ _ _ _
   | exact LeO.none _
   | refine LeO.ite ?_ ?_
   | refine LeO.bind ?_ (fun _ => ?_)
  ·intro y0 y1 y2 y3 y4 y5
   unfold ebbtideref18_Check.l1
   repeat' first
   | (with_reducible exact ih0 _ _ _ _ _ _ _ _)
   | (with_reducible exact ih1 _ _ _ _ _ _)
   | (with_reducible exact ih2 _ _ _ _ _ _ _)
   | (with_reducible exact ebbtideref12_Asked.mono _ _ _ _ _ _ _)
   | (with_reducible exact ebbtideref18_Has.mono _ _ _ _)
   | (with_reducible exact ebbtideref18_Rises.mono _ _ _ _)
   | (with_reducible exact ebbtideref18_Slots.mono _ _ _ _ _ _)
   | (with_reducible exact ebbtideref18_Takes.mono _ _ _ _ _ _ _)
   | (with_reducible exact ebbtideref18_all.mono _ _ _ _)
   | (with_reducible exact LeO.refl _)
   | (with_reducible exact LeO.none _)
   | (with_reducible refine LeO.ite ?_ ?_)
   | (with_reducible refine LeO.bind ?_ (fun _ => ?_))
   | exact ih0 _ _ _ _ _ _ _ _
   | exact ih1 _ _ _ _ _ _
   | exact ih2 _ _ _ _ _ _ _
   | exact ebbtideref12_Asked.mono _ _ _ _ _ _ _
   | exact ebbtideref18_Has.mono _ _ _ _
   | exact ebbtideref18_Rises.mono _ _ _ _
   | exact ebbtideref18_Slots.mono _ _ _ _ _ _
   | exact ebbtideref18_Takes.mono _ _ _ _ _ _ _
   | exact ebbtideref18_all.mono _ _ _ _
   | exact LeO.none _
   | refine LeO.ite ?_ ?_
   | refine LeO.bind ?_ (fun _ => ?_)
  ·intro y0 y1 y2 y3 y4 y5 y6
   unfold ebbtideref18_Check.j2
   repeat' first
   | (with_reducible exact ih0 _ _ _ _ _ _ _ _)
   | (with_reducible exact ih1 _ _ _ _ _ _)
   | (with_reducible exact ih2 _ _ _ _ _ _ _)
   | (with_reducible exact ebbtideref12_Asked.mono _ _ _ _ _ _ _)
   | (with_reducible exact ebbtideref18_Has.mono _ _ _ _)
   | (with_reducible exact ebbtideref18_Rises.mono _ _ _ _)
   | (with_reducible exact ebbtideref18_Slots.mono _ _ _ _ _ _)
   | (with_reducible exact ebbtideref18_Takes.mono _ _ _ _ _ _ _)
   | (with_reducible exact ebbtideref18_all.mono _ _ _ _)
   | (with_reducible exact LeO.refl _)
   | (with_reducible exact LeO.none _)
   | (with_reducible refine LeO.ite ?_ ?_)
   | (with_reducible refine LeO.bind ?_ (fun _ => ?_))
   | exact ih0 _ _ _ _ _ _ _ _
   | exact ih1 _ _ _ _ _ _
   | exact ih2 _ _ _ _ _ _ _
   | exact ebbtideref12_Asked.mono _ _ _ _ _ _ _
   | exact ebbtideref18_Has.mono _ _ _ _
   | exact ebbtideref18_Rises.mono _ _ _ _
   | exact ebbtideref18_Slots.mono _ _ _ _ _ _
   | exact ebbtideref18_Takes.mono _ _ _ _ _ _ _
   | exact ebbtideref18_all.mono _ _ _ _
   | exact LeO.none _
   | refine LeO.ite ?_ ?_
   | refine LeO.bind ?_ (fun _ => ?_)
theorem ebbtideref18_Check.mono : ∀ a0 a1 a2 a3 a4 a5 a6 k, LeO (ebbtideref18_Check.f k a0 a1 a2 a3 a4 a5 a6) (ebbtideref18_Check.f (k + 1) a0 a1 a2 a3 a4 a5 a6) := by
 intro a0 a1 a2 a3 a4 a5 a6 k
 obtain ⟨ih0, ih1, ih2⟩ := ebbtideref18_Check.mono_l k
 unfold ebbtideref18_Check.f
 repeat' first
   | (with_reducible exact ih0 _ _ _ _ _ _ _ _)
   | (with_reducible exact ih1 _ _ _ _ _ _)
   | (with_reducible exact ih2 _ _ _ _ _ _ _)
   | (with_reducible exact ebbtideref12_Asked.mono _ _ _ _ _ _ _)
   | (with_reducible exact ebbtideref18_Has.mono _ _ _ _)
   | (with_reducible exact ebbtideref18_Rises.mono _ _ _ _)
   | (with_reducible exact ebbtideref18_Slots.mono _ _ _ _ _ _)
   | (with_reducible exact ebbtideref18_Takes.mono _ _ _ _ _ _ _)
   | (with_reducible exact ebbtideref18_all.mono _ _ _ _)
   | (with_reducible exact LeO.refl _)
   | (with_reducible exact LeO.none _)
   | (with_reducible refine LeO.ite ?_ ?_)
   | (with_reducible refine LeO.bind ?_ (fun _ => ?_))
   | exact ih0 _ _ _ _ _ _ _ _
   | exact ih1 _ _ _ _ _ _
   | exact ih2 _ _ _ _ _ _ _
   | exact ebbtideref12_Asked.mono _ _ _ _ _ _ _
   | exact ebbtideref18_Has.mono _ _ _ _
   | exact ebbtideref18_Rises.mono _ _ _ _
   | exact ebbtideref18_Slots.mono _ _ _ _ _ _
   | exact ebbtideref18_Takes.mono _ _ _ _ _ _ _
   | exact ebbtideref18_all.mono _ _ _ _
   | exact LeO.none _
   | refine LeO.ite ?_ ?_
   | refine LeO.bind ?_ (fun _ => ?_)
def ebbtideref18_Check.T17 : Bool × List (List Nat × List Nat) := (true, [([], []), ([], []), ([], []), ([], []), ([3], [3]), ([0, 1, 2, 4, 4], [0, 1, 2, 4]), ([5, 5, 0, 1, 2, 3, 4, 5], [5]), ([6, 0, 1, 2, 3, 4, 5, 6], [])])
def ebbtideref18_Check.B17 : List Nat := [0, 0, 0, 0, 8, 31, 63, 127]
theorem ebbtideref18_Check.tab17 : rtab .any (opsOf Try.f13 17) = ebbtideref18_Check.T17 := by kernel_rfl
theorem ebbtideref18_Check.bits17 : waitsOk ebbtideref18_Check.T17.2 ebbtideref18_Check.B17 = true := by kernel_rfl
set_option maxHeartbeats 8000000 in
set_option maxRecDepth 100000 in
theorem ebbtideref18_Check.calls (k : Nat) (a0_0 : Int) (a0_1 : Bool) (A0_2 : Option Addr) (c0_2 : Nat) (l0_2 : List (S69)) (a1 : Int) (a2 : Int) (a3 : Int) (A4 : Option Addr) (c4 : Nat) (l4 : List (S59)) (r1 : Int) (r2 : Int) (w : World) (hr0_2 : Kd.C k69 w A0_2 l0_2.length l0_2) (hc0_2 : l0_2.length ≤ c0_2) (hr4 : Kd.C k59 w A4 l4.length l4) (hc4 : l4.length ≤ c4) (h : ebbtideref18_Check.f k a0_0 a0_1 l0_2 a1 a2 a3 l4 = some (r1, r2)) :
  Calls Try.prog 13 #[.agg #[.int .i64 a0_0, .bool a0_1, .slice A0_2 l0_2.length c0_2], .int .i64 a1, .int .i64 a2, .int .i64 a3, .slice A4 l4.length c4] w fun e w' => e = .returned (.tuple #[.int .i64 r1, .int .i64 r2]) ∧ Below w.heap.size w w' := by
 have hu24 := Try.underlying24
 have HR0_2 := Aside0.mk hr0_2
 have HC0_2 := Aside0.mk hc0_2
 clear hr0_2 hc0_2
 have HR4 := Aside0.mk hr4
 have HC4 := Aside0.mk hc4
 clear hr4 hc4
 have HB := Aside0.mk (Below.refl w.heap.size w)
 have H : ((ebbtideref12_Asked.f k a0_0 a0_1 l0_2 a1 a2 a3).bind fun t134 => (if t134 = 0 then ((ebbtideref18_Slots.f k a0_0 a0_1 l0_2 a3 l4).bind fun t135 => (if t135 = 0 then (ebbtideref18_Check.l0 k a1 a2 a3 l4 0 a0_0 a0_1 l0_2) else (some (0, t135)))) else (some (0, t134)))) = some (r1, r2) := h
 clear h
 replace H := Option.bind_eq_some_iff.mp H
 obtain ⟨t134, A60, H⟩ := H
 replace H : (if t134 = 0 then ((ebbtideref18_Slots.f k a0_0 a0_1 l0_2 a3 l4).bind fun t135 => (if t135 = 0 then (ebbtideref18_Check.l0 k a1 a2 a3 l4 0 a0_0 a0_1 l0_2) else (some (0, t135)))) else (some (0, t134))) = some (r1, r2) := H
 have A6 := Aside0.mk A60
 clear A60
 by_cases c7 : t134 = 0
 ·rw [if_pos c7] at H
  have c7b0 : (t134 == 0) = true := beq_iff_eq.mpr c7
  have c7b1 : (t134 != 0) = false := bne_eq_false_iff_eq.mpr c7
  clear c7
  replace H := Option.bind_eq_some_iff.mp H
  obtain ⟨t135, A80, H⟩ := H
  replace H : (if t135 = 0 then (ebbtideref18_Check.l0 k a1 a2 a3 l4 0 a0_0 a0_1 l0_2) else (some (0, t135))) = some (r1, r2) := H
  have A8 := Aside0.mk A80
  clear A80
  by_cases c9 : t135 = 0
  ·rw [if_pos c9] at H
   have c9b0 : (t135 == 0) = true := beq_iff_eq.mpr c9
   have c9b1 : (t135 != 0) = false := bne_eq_false_iff_eq.mpr c9
   clear c9
   have H' := Aside0.mk H
   clear H
   go_enter Try.func13, Try.ntmps13
   go_wp2_with (first | ((with_reducible refine gate_dst (N := 5) rfl ?_); refine box_event ?hg (N := 5) ?hd (cs := #[.int .i64 a0_0, .bool a0_1, .slice A0_2 l0_2.length c0_2]) (t := 24) ?hr ?_; (case hd => rfl); (case hg => rfl); (case hr => first | (go_simp; done) | (go_simp; rfl)); intro gb133 hg w10 hbox hb; have n0_ := Aside0.mk (below_step (by repeat (first | (with_reducible first | exact HB.out | apply below_alloc | apply pw_below_drewN | apply below_drew1) | exact HB.out)) hb); have n1_ := Aside0.mk (hbox); have n2_ := Aside0.mk ((by rw [hg]; exact (below_size (by repeat (first | (with_reducible first | exact HB.out | apply below_alloc | apply pw_below_drewN | apply below_drew1) | exact HB.out))) : w.heap.size ≤ gb133)); have n3_ := Aside0.mk ((by rw [hg]; exact (below_size (by repeat (first | (with_reducible first | exact HB.out | apply below_alloc | apply pw_below_drewN | apply below_drew1) | exact HB.out))) : w.heap.size ≤ gb133)); clear HB; have HB := n0_; have BK133 := n1_; have GW133 := n2_; have GE133 := n3_; clear n0_ n1_ n2_ n3_; clear hb hbox hg; have hcz11_0 : w10.cell? ⟨gb133, 0, none⟩ = some (.int .i64 a0_0) := (blk_cell BK133.out 0).trans rfl; have hcz11_1 : w10.cell? ⟨gb133, 1, none⟩ = some (.bool a0_1) := (blk_cell BK133.out 1).trans rfl; have hcz11_2 : w10.cell? ⟨gb133, 2, none⟩ = some (.slice A0_2 l0_2.length c0_2) := (blk_cell BK133.out 2).trans rfl; have hfz11_0 := blk_frozen BK133.out 0; have hfz11_1 := blk_frozen BK133.out 1; have hfz11_2 := blk_frozen BK133.out 2) | ((with_reducible refine gate_callee (f := 32) rfl ?_); refine goesL_ (some 20) rfl rfl Try.func32 (by kernel_rfl) rfl #[.agg #[.int .i64 a0_0, .bool a0_1, .slice A0_2 l0_2.length c0_2], .int .i64 a1, .int .i64 a2, .int .i64 a3] rfl (by (try simp only [List.map_toArray, List.map_cons, List.map_nil]); first | done | rfl | (simp only [List.length_drop, List.length_take]; rfl)) ?_; (with_reducible refine (ebbtideref12_Asked.calls k a0_0 a0_1 _ _ l0_2 a1 a2 a3 t134 _ ?side1 ?side2 A6.out).mono ?_); (case side1 => repeat (first | exact (Kd.C_below HR0_2.out HB.out) | (with_reducible refine Kd.C_alloc ?_ _) | (with_reducible refine Kd.C_drewN ?_ _) | (with_reducible refine Kd.C_drew ?_))); (case side2 => exact HC0_2.out); rintro e w12 ⟨rfl, hb⟩; refine ⟨_, rfl, ?_⟩; have n0_ := Aside0.mk (blk_below (g := gb133) (o := .cells #[.int .i64 a0_0, .bool a0_1, .slice A0_2 l0_2.length c0_2] 24 (0, 0)) (by (with_reducible repeat (first | refine blk_drewN ?_ _ | refine blk_drew ?_ | refine blk_alloc ?_ _)); exact BK133.out) hb); have n1_ := Aside0.mk (below_step (by repeat (first | (with_reducible first | exact HB.out | apply below_alloc | apply pw_below_drewN | apply below_drew1 | refine below_set ?_ GE133.out) | exact HB.out)) hb); clear BK133; clear HB; have BK133 := n0_; have HB := n1_; clear n0_ n1_; (try clear hb); (try clear hb2); (try clear hk); (try clear hi); have hcz13_0 : w12.cell? ⟨gb133, 0, none⟩ = some (.int .i64 a0_0) := (blk_cell BK133.out 0).trans rfl; have hcz13_1 : w12.cell? ⟨gb133, 1, none⟩ = some (.bool a0_1) := (blk_cell BK133.out 1).trans rfl; have hcz13_2 : w12.cell? ⟨gb133, 2, none⟩ = some (.slice A0_2 l0_2.length c0_2) := (blk_cell BK133.out 2).trans rfl; have hfz13_0 := blk_frozen BK133.out 0; have hfz13_1 := blk_frozen BK133.out 1; have hfz13_2 := blk_frozen BK133.out 2) | ((with_reducible refine gate_callee (f := 33) rfl ?_); refine goesL_ (some 27) rfl rfl Try.func33 (by kernel_rfl) rfl #[.agg #[.int .i64 a0_0, .bool a0_1, .slice A0_2 l0_2.length c0_2], .int .i64 a3, .slice A4 l4.length c4] rfl (by (try simp only [List.map_toArray, List.map_cons, List.map_nil]); first | done | rfl | (simp only [List.length_drop, List.length_take]; rfl)) ?_; (with_reducible refine (ebbtideref18_Slots.calls k a0_0 a0_1 _ _ l0_2 a3 _ _ l4 t135 _ ?side1 ?side2 ?side3 ?side4 A8.out).mono ?_); (case side1 => repeat (first | exact (Kd.C_below HR0_2.out HB.out) | (with_reducible refine Kd.C_alloc ?_ _) | (with_reducible refine Kd.C_drewN ?_ _) | (with_reducible refine Kd.C_drew ?_))); (case side2 => exact HC0_2.out); (case side3 => repeat (first | exact (Kd.C_below HR4.out HB.out) | (with_reducible refine Kd.C_alloc ?_ _) | (with_reducible refine Kd.C_drewN ?_ _) | (with_reducible refine Kd.C_drew ?_))); (case side4 => exact HC4.out); rintro e w14 ⟨rfl, hb⟩; refine ⟨_, rfl, ?_⟩; have n0_ := Aside0.mk (blk_below (g := gb133) (o := .cells #[.int .i64 a0_0, .bool a0_1, .slice A0_2 l0_2.length c0_2] 24 (0, 0)) (by (with_reducible repeat (first | refine blk_drewN ?_ _ | refine blk_drew ?_ | refine blk_alloc ?_ _)); exact BK133.out) hb); have n1_ := Aside0.mk (below_step (by repeat (first | (with_reducible first | exact HB.out | apply below_alloc | apply pw_below_drewN | apply below_drew1 | refine below_set ?_ GE133.out) | exact HB.out)) hb); clear BK133; clear HB; have BK133 := n0_; have HB := n1_; clear n0_ n1_; (try clear hb); (try clear hb2); (try clear hk); (try clear hi)))
   go_loopg [14] k (fun kq v14 w' => ∃ (x14_1 : Int), v14 = .int .i64 x14_1 ∧ Aside0 (ebbtideref18_Check.l0 kq a1 a2 a3 l4 x14_1 a0_0 a0_1 l0_2 = some (r1, r2)) ∧ Aside0 (kq ≤ k) ∧ Aside0 (w'.heap[gb133]? = some (.cells #[.int .i64 a0_0, .bool a0_1, (.slice A0_2 l0_2.length c0_2)] 24 (0, 0))) ∧ Aside0 (Below w.heap.size w w'))
   case atStart => exact ⟨(0), (by first | rfl | (simp; done) | (simp [*]; done)), H', ⟨Nat.le_refl _⟩, ⟨by (with_reducible repeat (first | refine blk_drewN ?_ _ | refine blk_drew ?_ | refine blk_alloc ?_ _)); exact BK133.out⟩, ⟨by repeat (first | (with_reducible first | exact HB.out | apply below_alloc | apply pw_below_drewN | apply below_drew1 | refine below_set ?_ GE133.out) | exact HB.out)⟩⟩
   case round =>
    clear H'
    try clear c1
    try clear p2
    try clear c3
    try clear c4
    try clear c7
    try clear c7b0
    try clear c7b1
    try clear c9
    try clear c9b0
    try clear c9b1
    try clear c13
    try clear hcz11_0
    try clear hcz11_1
    try clear hcz11_2
    try clear hcz13_0
    try clear hcz13_1
    try clear hcz13_2
    try clear hfz11_0
    try clear hfz11_1
    try clear hfz11_2
    try clear hfz13_0
    try clear hfz13_1
    try clear hfz13_2
    obtain ⟨x14_1, rfl, HA, HK1, BK133, HB⟩ := hrel
    cases gk with
    | zero => exact absurd HA.out (by simp [ebbtideref18_Check.l0])
    | succ k1 =>
     have H := HA.out
     clear HA
     simp only [ebbtideref18_Check.l0] at H
     by_cases c15 : x14_1 ≤ a3
     ·rw [if_pos c15] at H
      have c15b0 : decide (x14_1 ≤ a3) = true := decide_eq_true c15
      clear c15
      replace H := Option.bind_eq_some_iff.mp H
      obtain ⟨t136, A160, H⟩ := H
      replace H : (if t136 = true then ((ebbtideref18_Has.f k1 l4 a2 x14_1).bind fun t137 => (if t137 = true then (some (0, 181)) else (ebbtideref18_Check.l0 k1 a1 a2 a3 l4 (wrap64 (x14_1 + 1)) a0_0 a0_1 l0_2))) else (some (0, 181))) = some (r1, r2) := H
      have A16 := Aside0.mk A160
      clear A160
      by_cases c17 : t136 = true
      ·subst c17
       have H1 : ((ebbtideref18_Has.f k1 l4 a2 x14_1).bind fun t137 => (if t137 = true then (some (0, 181)) else (ebbtideref18_Check.l0 k1 a1 a2 a3 l4 (wrap64 (x14_1 + 1)) a0_0 a0_1 l0_2))) = some (r1, r2) := by rw [if_pos rfl] at H; exact H
       clear H
       have H := H1
       clear H1
       replace H := Option.bind_eq_some_iff.mp H
       obtain ⟨t137, A180, H⟩ := H
       replace H : (if t137 = true then (some (0, 181)) else (ebbtideref18_Check.l0 k1 a1 a2 a3 l4 (wrap64 (x14_1 + 1)) a0_0 a0_1 l0_2)) = some (r1, r2) := H
       have A18 := Aside0.mk A180
       clear A180
       by_cases c19 : t137 = true
       ·subst c19
        have H1 : (some (0, 181)) = some (r1, r2) := by rw [if_pos rfl] at H; exact H
        clear H
        have H := H1
        clear H1
        simp only [Option.some.injEq, Prod.mk.injEq] at H
        obtain ⟨rfl, rfl⟩ := H
        go_wp2_with (first | ((with_reducible refine gate_callee (f := 34) rfl ?_); refine goesL_ (some 39) rfl rfl Try.func34 (by kernel_rfl) rfl #[.slice A4 l4.length c4, .int .i64 a1, .int .i64 x14_1] rfl (by (try simp only [List.map_toArray, List.map_cons, List.map_nil]); first | done | rfl | (simp only [List.length_drop, List.length_take]; rfl)) ?_; (with_reducible refine (ebbtideref18_Has.calls k1 _ _ l4 a1 x14_1 true _ ?side1 ?side2 A16.out).mono ?_); (case side1 => repeat (first | exact (Kd.C_below HR4.out HB.out) | (with_reducible refine Kd.C_alloc ?_ _) | (with_reducible refine Kd.C_drewN ?_ _) | (with_reducible refine Kd.C_drew ?_))); (case side2 => exact HC4.out); rintro e w' ⟨rfl, ⟨nd, rfl⟩⟩; refine ⟨_, rfl, ?_⟩) | (go_at_call 34; (with_reducible refine (ebbtideref18_Has.calls k1 _ _ l4 a2 x14_1 true _ ?side1 ?side2 A18.out).mono ?_); (case side1 => repeat (first | exact (Kd.C_below HR4.out (by repeat (first | (with_reducible first | exact HB.out | apply below_alloc | apply pw_below_drewN | apply below_drew1 | refine below_set ?_ GE133.out) | exact HB.out))) | (with_reducible refine Kd.C_alloc ?_ _) | (with_reducible refine Kd.C_drewN ?_ _) | (with_reducible refine Kd.C_drew ?_))); (case side2 => exact HC4.out); rintro e w' ⟨rfl, ⟨nd, rfl⟩⟩))
        go_ret2
        exact ⟨by first | rfl | (simp [errW_none, errW_some] <;> rfl) | (simp [*, errW_none, errW_some] <;> rfl), by repeat (first | (with_reducible first | exact HB.out | apply below_alloc | apply pw_below_drewN | apply below_drew1 | refine below_set ?_ GE133.out) | exact HB.out)⟩
       ·replace c19 := Bool.eq_false_iff.mpr c19
        subst c19
        have H1 : (ebbtideref18_Check.l0 k1 a1 a2 a3 l4 (wrap64 (x14_1 + 1)) a0_0 a0_1 l0_2) = some (r1, r2) := by rw [if_neg (show ¬ (false = true) by decide)] at H; exact H
        clear H
        have H := H1
        clear H1
        have H' := Aside0.mk H
        clear H
        go_wp2_with (first | ((with_reducible refine gate_callee (f := 34) rfl ?_); refine goesL_ (some 39) rfl rfl Try.func34 (by kernel_rfl) rfl #[.slice A4 l4.length c4, .int .i64 a1, .int .i64 x14_1] rfl (by (try simp only [List.map_toArray, List.map_cons, List.map_nil]); first | done | rfl | (simp only [List.length_drop, List.length_take]; rfl)) ?_; (with_reducible refine (ebbtideref18_Has.calls k1 _ _ l4 a1 x14_1 true _ ?side1 ?side2 A16.out).mono ?_); (case side1 => repeat (first | exact (Kd.C_below HR4.out HB.out) | (with_reducible refine Kd.C_alloc ?_ _) | (with_reducible refine Kd.C_drewN ?_ _) | (with_reducible refine Kd.C_drew ?_))); (case side2 => exact HC4.out); rintro e w' ⟨rfl, ⟨nd, rfl⟩⟩; refine ⟨_, rfl, ?_⟩) | (go_at_call 34; (with_reducible refine (ebbtideref18_Has.calls k1 _ _ l4 a2 x14_1 false _ ?side1 ?side2 A18.out).mono ?_); (case side1 => repeat (first | exact (Kd.C_below HR4.out (by repeat (first | (with_reducible first | exact HB.out | apply below_alloc | apply pw_below_drewN | apply below_drew1 | refine below_set ?_ GE133.out) | exact HB.out))) | (with_reducible refine Kd.C_alloc ?_ _) | (with_reducible refine Kd.C_drewN ?_ _) | (with_reducible refine Kd.C_drew ?_))); (case side2 => exact HC4.out); rintro e w' ⟨rfl, ⟨nd, rfl⟩⟩))
        go_roundg k1
        case measure => have := HK1.out; omega
        case rel => exact ⟨(wrap64 (x14_1 + 1)), (by first | rfl | (simp; done) | (simp [*]; done)), H', ⟨by have := HK1.out; omega⟩, ⟨by (with_reducible repeat (first | refine blk_drewN ?_ _ | refine blk_drew ?_ | refine blk_alloc ?_ _)); exact BK133.out⟩, ⟨by repeat (first | (with_reducible first | exact HB.out | apply below_alloc | apply pw_below_drewN | apply below_drew1 | refine below_set ?_ GE133.out) | exact HB.out)⟩⟩
      ·replace c17 := Bool.eq_false_iff.mpr c17
       subst c17
       have H1 : (some (0, 181)) = some (r1, r2) := by rw [if_neg (show ¬ (false = true) by decide)] at H; exact H
       clear H
       have H := H1
       clear H1
       simp only [Option.some.injEq, Prod.mk.injEq] at H
       obtain ⟨rfl, rfl⟩ := H
       go_wp2_with (first | ((with_reducible refine gate_callee (f := 34) rfl ?_); refine goesL_ (some 39) rfl rfl Try.func34 (by kernel_rfl) rfl #[.slice A4 l4.length c4, .int .i64 a1, .int .i64 x14_1] rfl (by (try simp only [List.map_toArray, List.map_cons, List.map_nil]); first | done | rfl | (simp only [List.length_drop, List.length_take]; rfl)) ?_; (with_reducible refine (ebbtideref18_Has.calls k1 _ _ l4 a1 x14_1 false _ ?side1 ?side2 A16.out).mono ?_); (case side1 => repeat (first | exact (Kd.C_below HR4.out HB.out) | (with_reducible refine Kd.C_alloc ?_ _) | (with_reducible refine Kd.C_drewN ?_ _) | (with_reducible refine Kd.C_drew ?_))); (case side2 => exact HC4.out); rintro e w' ⟨rfl, ⟨nd, rfl⟩⟩; refine ⟨_, rfl, ?_⟩))
       go_ret2
       exact ⟨by first | rfl | (simp [errW_none, errW_some] <;> rfl) | (simp [*, errW_none, errW_some] <;> rfl), by repeat (first | (with_reducible first | exact HB.out | apply below_alloc | apply pw_below_drewN | apply below_drew1 | refine below_set ?_ GE133.out) | exact HB.out)⟩
     ·rw [if_neg c15] at H
      have c15b0 : decide (x14_1 ≤ a3) = false := decide_eq_false c15
      clear c15
      have H' := Aside0.mk H
      clear H
      go_wp2
      go_loopg [15] k1 (fun kq v15 w' => ∃ (x15_2 : Int), v15 = .int .i64 x15_2 ∧ Aside0 (ebbtideref18_Check.l1 kq a3 l4 x15_2 a0_0 a0_1 l0_2 = some (r1, r2)) ∧ Aside0 (kq ≤ k1) ∧ Aside0 (w'.heap[gb133]? = some (.cells #[.int .i64 a0_0, .bool a0_1, (.slice A0_2 l0_2.length c0_2)] 24 (0, 0))) ∧ Aside0 (Below w.heap.size w w'))
      case atStart => exact ⟨(0), (by first | rfl | (simp; done) | (simp [*]; done)), H', ⟨Nat.le_refl _⟩, ⟨by (with_reducible repeat (first | refine blk_drewN ?_ _ | refine blk_drew ?_ | refine blk_alloc ?_ _)); exact BK133.out⟩, ⟨by repeat (first | (with_reducible first | exact HB.out | apply below_alloc | apply pw_below_drewN | apply below_drew1 | refine below_set ?_ GE133.out) | exact HB.out)⟩⟩
      case round =>
       clear H'
       try clear c1
       try clear p2
       try clear c3
       try clear c4
       try clear p6
       try clear c7
       try clear c7b0
       try clear c7b1
       try clear c9
       try clear c9b0
       try clear c9b1
       try clear c13
       try clear c15
       try clear c15b0
       try clear c17
       try clear c19
       try clear hcz11_0
       try clear hcz11_1
       try clear hcz11_2
       try clear hcz13_0
       try clear hcz13_1
       try clear hcz13_2
       try clear hfz11_0
       try clear hfz11_1
       try clear hfz11_2
       try clear hfz13_0
       try clear hfz13_1
       try clear hfz13_2
       try clear p2
       obtain ⟨x15_2, rfl, HA, HK2, BK133, HB⟩ := hrel
       cases gk with
       | zero => exact absurd HA.out (by simp [ebbtideref18_Check.l1])
       | succ k2 =>
        have H := HA.out
        clear HA
        simp only [ebbtideref18_Check.l1] at H
        have HC20 := Aside0.mk H
        clear H
        go_upto_region 13 with (fail)
        go_cut [54] (fun v54 wc => ∃ (kq : Nat) (x54_19 : Bool), v54 = .bool x54_19 ∧ Aside0 (ebbtideref18_Check.j2 kq a3 l4 x15_2 x54_19 a0_0 a0_1 l0_2 = some (r1, r2)) ∧ Aside0 (kq ≤ k2) ∧ Aside0 (wc.heap[gb133]? = some (.cells #[.int .i64 a0_0, .bool a0_1, (.slice A0_2 l0_2.length c0_2)] 24 (0, 0))) ∧ Aside0 (Below w.heap.size w wc))
        case first =>
         have H := HC20.out
         clear HC20
         by_cases c21 : x15_2 < a0_0
         ·rw [if_pos c21] at H
          have c21b0 : decide (x15_2 < a0_0) = true := decide_eq_true c21
          clear c21
          (first | rw [c21b0] | (simp only [i64_w, i32_w]; rw [c21b0]) | skip)
          have H' := Aside0.mk H
          clear H
          have hcz22_0 : wr.cell? ⟨gb133, 0, none⟩ = some (.int .i64 a0_0) := (blk_cell BK133.out 0).trans rfl
          have hcz22_1 : wr.cell? ⟨gb133, 1, none⟩ = some (.bool a0_1) := (blk_cell BK133.out 1).trans rfl
          have hcz22_2 : wr.cell? ⟨gb133, 2, none⟩ = some (.slice A0_2 l0_2.length c0_2) := (blk_cell BK133.out 2).trans rfl
          have hfz22_0 := blk_frozen BK133.out 0
          have hfz22_1 := blk_frozen BK133.out 1
          have hfz22_2 := blk_frozen BK133.out 2
          go_wp2
          go_meet
          case rel => exact ⟨_, (a0_1), (by first | rfl | (simp; done) | (simp [*]; done)), H', ⟨by have := HK1.out; have := HK2.out; first | omega | exact Nat.le_refl _⟩, ⟨by (with_reducible repeat (first | refine blk_drewN ?_ _ | refine blk_drew ?_ | refine blk_alloc ?_ _)); exact BK133.out⟩, ⟨by repeat (first | (with_reducible first | exact HB.out | apply below_alloc | apply pw_below_drewN | apply below_drew1 | refine below_set ?_ GE133.out) | exact HB.out)⟩⟩
         ·rw [if_neg c21] at H
          have c21b0 : decide (x15_2 < a0_0) = false := decide_eq_false c21
          clear c21
          (first | rw [c21b0] | (simp only [i64_w, i32_w]; rw [c21b0]) | skip)
          have H' := Aside0.mk H
          clear H
          have hcz23_0 : wr.cell? ⟨gb133, 0, none⟩ = some (.int .i64 a0_0) := (blk_cell BK133.out 0).trans rfl
          have hcz23_1 : wr.cell? ⟨gb133, 1, none⟩ = some (.bool a0_1) := (blk_cell BK133.out 1).trans rfl
          have hcz23_2 : wr.cell? ⟨gb133, 2, none⟩ = some (.slice A0_2 l0_2.length c0_2) := (blk_cell BK133.out 2).trans rfl
          have hfz23_0 := blk_frozen BK133.out 0
          have hfz23_1 := blk_frozen BK133.out 1
          have hfz23_2 := blk_frozen BK133.out 2
          go_wp2
          go_meet
          case rel => exact ⟨_, (false), (by first | rfl | (simp; done) | (simp [*]; done)), H', ⟨by have := HK1.out; have := HK2.out; first | omega | exact Nat.le_refl _⟩, ⟨by (with_reducible repeat (first | refine blk_drewN ?_ _ | refine blk_drew ?_ | refine blk_alloc ?_ _)); exact BK133.out⟩, ⟨by repeat (first | (with_reducible first | exact HB.out | apply below_alloc | apply pw_below_drewN | apply below_drew1 | refine below_set ?_ GE133.out) | exact HB.out)⟩⟩
        case rest =>
         clear HC20
         try clear c1
         try clear c2
         try clear p2
         try clear c3
         try clear c4
         try clear p6
         try clear c7
         try clear c7b0
         try clear c7b1
         try clear c9
         try clear c9b0
         try clear c9b1
         try clear c13
         try clear c15
         try clear c15b0
         try clear c17
         try clear c19
         try clear c21
         try clear c21b0
         try clear hcz11_0
         try clear hcz11_1
         try clear hcz11_2
         try clear hcz13_0
         try clear hcz13_1
         try clear hcz13_2
         try clear hcz22_0
         try clear hcz22_1
         try clear hcz22_2
         try clear hcz23_0
         try clear hcz23_1
         try clear hcz23_2
         try clear hfz11_0
         try clear hfz11_1
         try clear hfz11_2
         try clear hfz13_0
         try clear hfz13_1
         try clear hfz13_2
         try clear hfz22_0
         try clear hfz22_1
         try clear hfz22_2
         try clear hfz23_0
         try clear hfz23_1
         try clear hfz23_2
         try clear p2
         try clear p6
         obtain ⟨kq, x54_19, rfl, HA, HJ19, BK133, HB⟩ := hcut
         cases kq with
         | zero => exact absurd HA.out (by simp [ebbtideref18_Check.j2])
         | succ kj19 =>
          have H := HA.out
          clear HA
          simp only [ebbtideref18_Check.j2] at H
          by_cases c24 : x54_19 = true
          ·subst c24
           have H1 : ((ebbtideref18_Rises.f kj19 l4 x15_2 a3).bind fun t138 => (if t138 = true then (ebbtideref18_Check.l1 kj19 a3 l4 (wrap64 (x15_2 + 1)) a0_0 a0_1 l0_2) else (some (0, 181)))) = some (r1, r2) := by rw [if_pos rfl] at H; exact H
           clear H
           have H := H1
           clear H1
           replace H := Option.bind_eq_some_iff.mp H
           obtain ⟨t138, A250, H⟩ := H
           replace H : (if t138 = true then (ebbtideref18_Check.l1 kj19 a3 l4 (wrap64 (x15_2 + 1)) a0_0 a0_1 l0_2) else (some (0, 181))) = some (r1, r2) := H
           have A25 := Aside0.mk A250
           clear A250
           by_cases c26 : t138 = true
           ·subst c26
            have H1 : (ebbtideref18_Check.l1 kj19 a3 l4 (wrap64 (x15_2 + 1)) a0_0 a0_1 l0_2) = some (r1, r2) := by rw [if_pos rfl] at H; exact H
            clear H
            have H := H1
            clear H1
            have H' := Aside0.mk H
            clear H
            go_wp2_with (first | ((with_reducible refine gate_callee (f := 35) rfl ?_); refine goesL_ (some 60) rfl rfl Try.func35 (by kernel_rfl) rfl #[.slice A4 l4.length c4, .int .i64 x15_2, .int .i64 a3] rfl (by (try simp only [List.map_toArray, List.map_cons, List.map_nil]); first | done | rfl | (simp only [List.length_drop, List.length_take]; rfl)) ?_; (with_reducible refine (ebbtideref18_Rises.calls kj19 _ _ l4 x15_2 a3 true _ ?side1 ?side2 A25.out).mono ?_); (case side1 => repeat (first | exact (Kd.C_below HR4.out HB.out) | (with_reducible refine Kd.C_alloc ?_ _) | (with_reducible refine Kd.C_drewN ?_ _) | (with_reducible refine Kd.C_drew ?_))); (case side2 => exact HC4.out); rintro e w' ⟨rfl, ⟨nd, rfl⟩⟩; refine ⟨_, rfl, ?_⟩))
            go_roundg kj19
            case measure => have := HK1.out; have := HK2.out; have := HJ19.out; omega
            case rel => exact ⟨(wrap64 (x15_2 + 1)), (by first | rfl | (simp; done) | (simp [*]; done)), H', ⟨by have := HK1.out; have := HK2.out; have := HJ19.out; omega⟩, ⟨by (with_reducible repeat (first | refine blk_drewN ?_ _ | refine blk_drew ?_ | refine blk_alloc ?_ _)); exact BK133.out⟩, ⟨by repeat (first | (with_reducible first | exact HB.out | apply below_alloc | apply pw_below_drewN | apply below_drew1 | refine below_set ?_ GE133.out) | exact HB.out)⟩⟩
           ·replace c26 := Bool.eq_false_iff.mpr c26
            subst c26
            have H1 : (some (0, 181)) = some (r1, r2) := by rw [if_neg (show ¬ (false = true) by decide)] at H; exact H
            clear H
            have H := H1
            clear H1
            simp only [Option.some.injEq, Prod.mk.injEq] at H
            obtain ⟨rfl, rfl⟩ := H
            go_wp2_with (first | ((with_reducible refine gate_callee (f := 35) rfl ?_); refine goesL_ (some 60) rfl rfl Try.func35 (by kernel_rfl) rfl #[.slice A4 l4.length c4, .int .i64 x15_2, .int .i64 a3] rfl (by (try simp only [List.map_toArray, List.map_cons, List.map_nil]); first | done | rfl | (simp only [List.length_drop, List.length_take]; rfl)) ?_; (with_reducible refine (ebbtideref18_Rises.calls kj19 _ _ l4 x15_2 a3 false _ ?side1 ?side2 A25.out).mono ?_); (case side1 => repeat (first | exact (Kd.C_below HR4.out HB.out) | (with_reducible refine Kd.C_alloc ?_ _) | (with_reducible refine Kd.C_drewN ?_ _) | (with_reducible refine Kd.C_drew ?_))); (case side2 => exact HC4.out); rintro e w' ⟨rfl, ⟨nd, rfl⟩⟩; refine ⟨_, rfl, ?_⟩))
            go_ret2
            exact ⟨by first | rfl | (simp [errW_none, errW_some] <;> rfl) | (simp [*, errW_none, errW_some] <;> rfl), by repeat (first | (with_reducible first | exact HB.out | apply below_alloc | apply pw_below_drewN | apply below_drew1 | refine below_set ?_ GE133.out) | exact HB.out)⟩
          ·replace c24 := Bool.eq_false_iff.mpr c24
           subst c24
           have H1 : ((ebbtideref18_all.f kj19 a0_0 a0_1 l0_2).bind fun t139 => ((ebbtideref18_Takes.f kj19 a0_0 a0_1 l0_2 a3 l4 t139).bind fun t142 => (some (t142, 0)))) = some (r1, r2) := by rw [if_neg (show ¬ (false = true) by decide)] at H; exact H
           clear H
           have H := H1
           clear H1
           replace H := Option.bind_eq_some_iff.mp H
           obtain ⟨t139, A270, H⟩ := H
           replace H : ((ebbtideref18_Takes.f kj19 a0_0 a0_1 l0_2 a3 l4 t139).bind fun t142 => (some (t142, 0))) = some (r1, r2) := H
           have A27 := Aside0.mk A270
           clear A270
           replace H := Option.bind_eq_some_iff.mp H
           obtain ⟨t142, A280, H⟩ := H
           replace H : (some (t142, 0)) = some (r1, r2) := H
           have A28 := Aside0.mk A280
           clear A280
           simp only [Option.some.injEq, Prod.mk.injEq] at H
           obtain ⟨rfl, rfl⟩ := H
           try go_wp2
           have n0_ := Aside0.mk (blk_drew BK133.out)
           have n1_ := Aside0.mk (below_drew1 HB.out)
           clear BK133
           clear HB
           have BK133 := n0_
           have HB := n1_
           clear n0_ n1_
           refine start_ (n := 8) (S := fun w' => w'.cell? ⟨gb133, 0, none⟩ = some (.int .i64 a0_0) ∧ w'.cell? ⟨gb133, 1, none⟩ = some (.bool a0_1) ∧ w'.cell? ⟨gb133, 2, none⟩ = some (.slice A0_2 l0_2.length c0_2)) (ds := []) #[false, false, false, false, false, false, false, false] (by kernel_rfl) rfl rfl ⟨(blk_cell BK133.out 0).trans rfl, (blk_cell BK133.out 1).trans rfl, (blk_cell BK133.out 2).trans rfl⟩ (fun hHeld => ?_); refine with_tabW ebbtideref18_Check.tab17 ebbtideref18_Check.bits17 (fun HT_ HW_ => ?_)
           generalize wc.drew = w29 at BK133 HB hHeld ⊢
           refine pure_ (i := 1) (N := some 63) (v := ?_) (a' := ?_) #[false, true, false, false, false, false, false, false] rfl rfl (any_of HT_.out (by kernel_rfl)) (fun _ _ _ h => h) (Or.inl ⟨by rfl, ?_⟩) ?_ ?_
           rotate_left
           ·intro w'
            go_simp
            with_reducible rfl
           rotate_left
           ·simp only [Act.put, List.setIfInBounds_toArray, List.set_cons_zero, List.set_cons_succ, i64_w, i32_w]
            rfl
           refine pure_ (i := 2) (N := some 64) (v := ?_) (a' := ?_) #[false, true, true, false, false, false, false, false] rfl rfl (any_of HT_.out (by kernel_rfl)) (fun _ _ _ h => h) (Or.inl ⟨by rfl, ?_⟩) ?_ ?_
           rotate_left
           ·intro w'
            go_simp
            with_reducible rfl
           rotate_left
           ·simp only [Act.put, List.setIfInBounds_toArray, List.set_cons_zero, List.set_cons_succ, i64_w, i32_w]
            rfl
           refine take_ (i := 0) (N := some 62) (v := ?_) (a' := ?_) #[true, true, true, false, false, false, false, false] rfl rfl (take_ofW HT_.out HW_.out (by kernel_rfl)) (fun _ _ _ h => h) (Or.inl ⟨by rfl, ?_⟩) hHeld ?_ ?_
           rotate_left
           ·rintro w' ⟨s0, s1, s2⟩
            go_simp
            with_reducible rfl
           rotate_left
           ·simp only [Act.put, List.setIfInBounds_toArray, List.set_cons_zero, List.set_cons_succ, i64_w, i32_w]
            rfl
           refine take_ (i := 3) (N := some 65) (v := ?_) (a' := ?_) #[true, true, true, true, false, false, false, false] rfl rfl (take_ofW HT_.out HW_.out (by kernel_rfl)) (fun _ _ _ h => h) (Or.inl ⟨by rfl, ?_⟩) hHeld ?_ ?_
           rotate_left
           ·rintro w' ⟨s0, s1, s2⟩
            go_simp
            with_reducible rfl
           rotate_left
           ·simp only [Act.put, List.setIfInBounds_toArray, List.set_cons_zero, List.set_cons_succ, i64_w, i32_w]
            rfl
           refine one_ (i := 4) (N := some 66) #[true, true, true, true, true, false, false, false] rfl rfl (one_of HT_.out (by kernel_rfl)) (by decide) (fun K hK => ?_)
           refine goes_ Try.func37 (by kernel_rfl) rfl #[.agg #[.int .i64 a0_0, .bool a0_1, .slice A0_2 l0_2.length c0_2]] (by rfl) rfl rfl (by (try simp only [List.map_toArray, List.map_cons, List.map_nil]); first | done | rfl | (simp only [List.length_drop, List.length_take]; rfl)) ?_
           with_reducible refine (ebbtideref18_all.calls kj19 a0_0 a0_1 _ _ l0_2 t139 _ ?side1 ?side2 A27.out).mono ?_
           (case side1 => repeat (first | exact (Kd.C_below HR0_2.out HB.out) | (with_reducible refine Kd.C_alloc ?_ _) | (with_reducible refine Kd.C_drewN ?_ _) | (with_reducible refine Kd.C_drew ?_)))
           (case side2 => exact HC0_2.out)
           rintro e w30 ⟨v140, rfl, ho0, hb⟩
           refine ⟨_, rfl, ?_⟩
           have n0_ := Aside0.mk (Kd.R_lower ho0 (below_size (by repeat (first | (with_reducible first | exact HB.out | apply below_alloc | apply pw_below_drewN | apply below_drew1 | refine below_set ?_ GE133.out) | exact HB.out))))
           have n1_ := Aside0.mk (blk_below (g := gb133) (o := .cells #[.int .i64 a0_0, .bool a0_1, .slice A0_2 l0_2.length c0_2] 24 (0, 0)) (by (with_reducible repeat (first | refine blk_drewN ?_ _ | refine blk_drew ?_ | refine blk_alloc ?_ _)); exact BK133.out) hb)
           have n2_ := Aside0.mk (below_step (by repeat (first | (with_reducible first | exact HB.out | apply below_alloc | apply pw_below_drewN | apply below_drew1 | refine below_set ?_ GE133.out) | exact HB.out)) hb)
           clear BK133
           clear HB
           have HO141 := n0_
           have BK133 := n1_
           have HB := n2_
           clear n0_ n1_ n2_
           (try clear hb)
           (try clear hb2)
           (try clear hk)
           (try clear hi)
           (try clear ho0)
           obtain ⟨Ao31, co31, eo31⟩ := Kd.R_slice HO141.out
           (first | subst eo31 | (injection eo31 with f1_ f2_ f3_; have f4_ := f1_.symm; have f5_ := f3_.symm; clear f1_ f2_ f3_; subst f4_; subst f5_))
           refine hK.out _ _ ⟨(blk_cell BK133.out 0).trans rfl, (blk_cell BK133.out 1).trans rfl, (blk_cell BK133.out 2).trans rfl⟩ (fun hHeld => ?_)
           clear hK K
           refine norm_ (a' := ?_) ?_ ?_
           rotate_left
           ·show Act.put _ (some 66) _ = _
            simp only [Act.put, List.setIfInBounds_toArray, List.set_cons_zero, List.set_cons_succ, i64_w, i32_w]
            rfl
           refine one_ (i := 5) (N := some 67) #[true, true, true, true, true, true, false, false] rfl rfl (one_of HT_.out (by kernel_rfl)) (by decide) (fun K hK => ?_)
           refine goes_ Try.func36 (by kernel_rfl) rfl #[.agg #[.int .i64 a0_0, .bool a0_1, .slice A0_2 l0_2.length c0_2], .int .i64 a3, .slice A4 l4.length c4, .slice Ao31 t139.length co31] (by rfl) rfl rfl (by (try simp only [List.map_toArray, List.map_cons, List.map_nil]); first | done | rfl | (simp only [List.length_drop, List.length_take]; rfl)) ?_
           with_reducible refine (ebbtideref18_Takes.calls kj19 a0_0 a0_1 _ _ l0_2 a3 _ _ l4 _ _ t139 t142 _ ?side1 ?side2 ?side3 ?side4 ?side5 ?side6 A28.out).mono ?_
           (case side1 => repeat (first | exact (Kd.C_below HR0_2.out HB.out) | (with_reducible refine Kd.C_alloc ?_ _) | (with_reducible refine Kd.C_drewN ?_ _) | (with_reducible refine Kd.C_drew ?_)))
           (case side2 => exact HC0_2.out)
           (case side3 => repeat (first | exact (Kd.C_below HR4.out HB.out) | (with_reducible refine Kd.C_alloc ?_ _) | (with_reducible refine Kd.C_drewN ?_ _) | (with_reducible refine Kd.C_drew ?_)))
           (case side4 => exact HC4.out)
           (case side5 => repeat (first | exact (Kd.R_reads' HO141.out).2.2 | (with_reducible refine Kd.C_alloc ?_ _) | (with_reducible refine Kd.C_drewN ?_ _) | (with_reducible refine Kd.C_drew ?_)))
           (case side6 => exact (Kd.R_reads' HO141.out).2.1)
           rintro e w32 ⟨rfl, hb⟩
           refine ⟨_, rfl, ?_⟩
           have n0_ := Aside0.mk (Kd.R_below (by (with_reducible repeat (first | apply Kd.R_alloc | apply Kd.R_drewN | apply Kd.R_drew)); exact HO141.out) hb)
           have n1_ := Aside0.mk (blk_below (g := gb133) (o := .cells #[.int .i64 a0_0, .bool a0_1, .slice A0_2 l0_2.length c0_2] 24 (0, 0)) (by (with_reducible repeat (first | refine blk_drewN ?_ _ | refine blk_drew ?_ | refine blk_alloc ?_ _)); exact BK133.out) hb)
           have n2_ := Aside0.mk (below_step (by repeat (first | (with_reducible first | exact HB.out | apply below_alloc | apply pw_below_drewN | apply below_drew1 | refine below_set ?_ GE133.out) | exact HB.out)) hb)
           clear HO141
           clear BK133
           clear HB
           have HO141 := n0_
           have BK133 := n1_
           have HB := n2_
           clear n0_ n1_ n2_
           (try clear hb)
           (try clear hb2)
           (try clear hk)
           (try clear hi)
           refine hK.out _ _ ⟨(blk_cell BK133.out 0).trans rfl, (blk_cell BK133.out 1).trans rfl, (blk_cell BK133.out 2).trans rfl⟩ (fun hHeld => ?_)
           clear hK K
           refine norm_ (a' := ?_) ?_ ?_
           rotate_left
           ·show Act.put _ (some 67) _ = _
            simp only [Act.put, List.setIfInBounds_toArray, List.set_cons_zero, List.set_cons_succ, i64_w, i32_w]
            rfl
           refine pure_ (i := 6) (N := some 10) (v := ?_) (a' := ?_) #[true, true, true, true, true, true, true, false] rfl rfl (any_of HT_.out (by kernel_rfl)) (fun _ _ _ h => h) (Or.inl ⟨by rfl, ?_⟩) ?_ ?_
           rotate_left
           ·intro w'
            go_simp
            with_reducible rfl
           rotate_left
           ·simp only [Act.put, List.setIfInBounds_toArray, List.set_cons_zero, List.set_cons_succ, i64_w, i32_w]
            rfl
           refine pure_ (i := 7) (N := some 11) (v := ?_) (a' := ?_) #[true, true, true, true, true, true, true, true] rfl rfl (any_of HT_.out (by kernel_rfl)) (fun _ _ _ h => h) (Or.inl ⟨by rfl, ?_⟩) ?_ ?_
           rotate_left
           ·intro w'
            go_simp
            with_reducible rfl
           rotate_left
           ·simp only [Act.put, List.setIfInBounds_toArray, List.set_cons_zero, List.set_cons_succ, i64_w, i32_w]
            rfl
           refine done_ (done_of HT_.out (by kernel_rfl)) ?_
           try go_wp2
           go_ret2
           exact ⟨by first | rfl | (simp [errW_none, errW_some] <;> rfl) | (simp [*, errW_none, errW_some] <;> rfl), by repeat (first | (with_reducible first | exact HB.out | apply below_alloc | apply pw_below_drewN | apply below_drew1 | refine below_set ?_ GE133.out) | exact HB.out)⟩
  ·rw [if_neg c9] at H
   have c9b0 : (t135 == 0) = false := beq_eq_false_iff_ne.mpr c9
   have c9b1 : (t135 != 0) = true := bne_iff_ne.mpr c9
   simp only [Option.some.injEq, Prod.mk.injEq] at H
   obtain ⟨rfl, rfl⟩ := H
   go_enter Try.func13, Try.ntmps13
   go_wp2_with (first | ((with_reducible refine gate_dst (N := 5) rfl ?_); refine box_event ?hg (N := 5) ?hd (cs := #[.int .i64 a0_0, .bool a0_1, .slice A0_2 l0_2.length c0_2]) (t := 24) ?hr ?_; (case hd => rfl); (case hg => rfl); (case hr => first | (go_simp; done) | (go_simp; rfl)); intro gb133 hg w33 hbox hb; have n0_ := Aside0.mk (below_step (by repeat (first | (with_reducible first | exact HB.out | apply below_alloc | apply pw_below_drewN | apply below_drew1) | exact HB.out)) hb); have n1_ := Aside0.mk (hbox); have n2_ := Aside0.mk ((by rw [hg]; exact (below_size (by repeat (first | (with_reducible first | exact HB.out | apply below_alloc | apply pw_below_drewN | apply below_drew1) | exact HB.out))) : w.heap.size ≤ gb133)); have n3_ := Aside0.mk ((by rw [hg]; exact (below_size (by repeat (first | (with_reducible first | exact HB.out | apply below_alloc | apply pw_below_drewN | apply below_drew1) | exact HB.out))) : w.heap.size ≤ gb133)); clear HB; have HB := n0_; have BK133 := n1_; have GW133 := n2_; have GE133 := n3_; clear n0_ n1_ n2_ n3_; clear hb hbox hg; have hcz34_0 : w33.cell? ⟨gb133, 0, none⟩ = some (.int .i64 a0_0) := (blk_cell BK133.out 0).trans rfl; have hcz34_1 : w33.cell? ⟨gb133, 1, none⟩ = some (.bool a0_1) := (blk_cell BK133.out 1).trans rfl; have hcz34_2 : w33.cell? ⟨gb133, 2, none⟩ = some (.slice A0_2 l0_2.length c0_2) := (blk_cell BK133.out 2).trans rfl; have hfz34_0 := blk_frozen BK133.out 0; have hfz34_1 := blk_frozen BK133.out 1; have hfz34_2 := blk_frozen BK133.out 2) | ((with_reducible refine gate_callee (f := 32) rfl ?_); refine goesL_ (some 20) rfl rfl Try.func32 (by kernel_rfl) rfl #[.agg #[.int .i64 a0_0, .bool a0_1, .slice A0_2 l0_2.length c0_2], .int .i64 a1, .int .i64 a2, .int .i64 a3] rfl (by (try simp only [List.map_toArray, List.map_cons, List.map_nil]); first | done | rfl | (simp only [List.length_drop, List.length_take]; rfl)) ?_; (with_reducible refine (ebbtideref12_Asked.calls k a0_0 a0_1 _ _ l0_2 a1 a2 a3 t134 _ ?side1 ?side2 A6.out).mono ?_); (case side1 => repeat (first | exact (Kd.C_below HR0_2.out HB.out) | (with_reducible refine Kd.C_alloc ?_ _) | (with_reducible refine Kd.C_drewN ?_ _) | (with_reducible refine Kd.C_drew ?_))); (case side2 => exact HC0_2.out); rintro e w35 ⟨rfl, hb⟩; refine ⟨_, rfl, ?_⟩; have n0_ := Aside0.mk (blk_below (g := gb133) (o := .cells #[.int .i64 a0_0, .bool a0_1, .slice A0_2 l0_2.length c0_2] 24 (0, 0)) (by (with_reducible repeat (first | refine blk_drewN ?_ _ | refine blk_drew ?_ | refine blk_alloc ?_ _)); exact BK133.out) hb); have n1_ := Aside0.mk (below_step (by repeat (first | (with_reducible first | exact HB.out | apply below_alloc | apply pw_below_drewN | apply below_drew1 | refine below_set ?_ GE133.out) | exact HB.out)) hb); clear BK133; clear HB; have BK133 := n0_; have HB := n1_; clear n0_ n1_; (try clear hb); (try clear hb2); (try clear hk); (try clear hi); have hcz36_0 : w35.cell? ⟨gb133, 0, none⟩ = some (.int .i64 a0_0) := (blk_cell BK133.out 0).trans rfl; have hcz36_1 : w35.cell? ⟨gb133, 1, none⟩ = some (.bool a0_1) := (blk_cell BK133.out 1).trans rfl; have hcz36_2 : w35.cell? ⟨gb133, 2, none⟩ = some (.slice A0_2 l0_2.length c0_2) := (blk_cell BK133.out 2).trans rfl; have hfz36_0 := blk_frozen BK133.out 0; have hfz36_1 := blk_frozen BK133.out 1; have hfz36_2 := blk_frozen BK133.out 2) | ((with_reducible refine gate_callee (f := 33) rfl ?_); refine goesL_ (some 27) rfl rfl Try.func33 (by kernel_rfl) rfl #[.agg #[.int .i64 a0_0, .bool a0_1, .slice A0_2 l0_2.length c0_2], .int .i64 a3, .slice A4 l4.length c4] rfl (by (try simp only [List.map_toArray, List.map_cons, List.map_nil]); first | done | rfl | (simp only [List.length_drop, List.length_take]; rfl)) ?_; (with_reducible refine (ebbtideref18_Slots.calls k a0_0 a0_1 _ _ l0_2 a3 _ _ l4 t135 _ ?side1 ?side2 ?side3 ?side4 A8.out).mono ?_); (case side1 => repeat (first | exact (Kd.C_below HR0_2.out HB.out) | (with_reducible refine Kd.C_alloc ?_ _) | (with_reducible refine Kd.C_drewN ?_ _) | (with_reducible refine Kd.C_drew ?_))); (case side2 => exact HC0_2.out); (case side3 => repeat (first | exact (Kd.C_below HR4.out HB.out) | (with_reducible refine Kd.C_alloc ?_ _) | (with_reducible refine Kd.C_drewN ?_ _) | (with_reducible refine Kd.C_drew ?_))); (case side4 => exact HC4.out); rintro e w37 ⟨rfl, hb⟩; refine ⟨_, rfl, ?_⟩; have n0_ := Aside0.mk (blk_below (g := gb133) (o := .cells #[.int .i64 a0_0, .bool a0_1, .slice A0_2 l0_2.length c0_2] 24 (0, 0)) (by (with_reducible repeat (first | refine blk_drewN ?_ _ | refine blk_drew ?_ | refine blk_alloc ?_ _)); exact BK133.out) hb); have n1_ := Aside0.mk (below_step (by repeat (first | (with_reducible first | exact HB.out | apply below_alloc | apply pw_below_drewN | apply below_drew1 | refine below_set ?_ GE133.out) | exact HB.out)) hb); clear BK133; clear HB; have BK133 := n0_; have HB := n1_; clear n0_ n1_; (try clear hb); (try clear hb2); (try clear hk); (try clear hi)))
   go_ret2
   exact ⟨by first | rfl | (simp [errW_none, errW_some] <;> rfl) | (simp [*, errW_none, errW_some] <;> rfl), by repeat (first | (with_reducible first | exact HB.out | apply below_alloc | apply pw_below_drewN | apply below_drew1 | refine below_set ?_ GE133.out) | exact HB.out)⟩
 ·rw [if_neg c7] at H
  have c7b0 : (t134 == 0) = false := beq_eq_false_iff_ne.mpr c7
  have c7b1 : (t134 != 0) = true := bne_iff_ne.mpr c7
  simp only [Option.some.injEq, Prod.mk.injEq] at H
  obtain ⟨rfl, rfl⟩ := H
  go_enter Try.func13, Try.ntmps13
  go_wp2_with (first | ((with_reducible refine gate_dst (N := 5) rfl ?_); refine box_event ?hg (N := 5) ?hd (cs := #[.int .i64 a0_0, .bool a0_1, .slice A0_2 l0_2.length c0_2]) (t := 24) ?hr ?_; (case hd => rfl); (case hg => rfl); (case hr => first | (go_simp; done) | (go_simp; rfl)); intro gb133 hg w38 hbox hb; have n0_ := Aside0.mk (below_step (by repeat (first | (with_reducible first | exact HB.out | apply below_alloc | apply pw_below_drewN | apply below_drew1) | exact HB.out)) hb); have n1_ := Aside0.mk (hbox); have n2_ := Aside0.mk ((by rw [hg]; exact (below_size (by repeat (first | (with_reducible first | exact HB.out | apply below_alloc | apply pw_below_drewN | apply below_drew1) | exact HB.out))) : w.heap.size ≤ gb133)); have n3_ := Aside0.mk ((by rw [hg]; exact (below_size (by repeat (first | (with_reducible first | exact HB.out | apply below_alloc | apply pw_below_drewN | apply below_drew1) | exact HB.out))) : w.heap.size ≤ gb133)); clear HB; have HB := n0_; have BK133 := n1_; have GW133 := n2_; have GE133 := n3_; clear n0_ n1_ n2_ n3_; clear hb hbox hg; have hcz39_0 : w38.cell? ⟨gb133, 0, none⟩ = some (.int .i64 a0_0) := (blk_cell BK133.out 0).trans rfl; have hcz39_1 : w38.cell? ⟨gb133, 1, none⟩ = some (.bool a0_1) := (blk_cell BK133.out 1).trans rfl; have hcz39_2 : w38.cell? ⟨gb133, 2, none⟩ = some (.slice A0_2 l0_2.length c0_2) := (blk_cell BK133.out 2).trans rfl; have hfz39_0 := blk_frozen BK133.out 0; have hfz39_1 := blk_frozen BK133.out 1; have hfz39_2 := blk_frozen BK133.out 2) | ((with_reducible refine gate_callee (f := 32) rfl ?_); refine goesL_ (some 20) rfl rfl Try.func32 (by kernel_rfl) rfl #[.agg #[.int .i64 a0_0, .bool a0_1, .slice A0_2 l0_2.length c0_2], .int .i64 a1, .int .i64 a2, .int .i64 a3] rfl (by (try simp only [List.map_toArray, List.map_cons, List.map_nil]); first | done | rfl | (simp only [List.length_drop, List.length_take]; rfl)) ?_; (with_reducible refine (ebbtideref12_Asked.calls k a0_0 a0_1 _ _ l0_2 a1 a2 a3 t134 _ ?side1 ?side2 A6.out).mono ?_); (case side1 => repeat (first | exact (Kd.C_below HR0_2.out HB.out) | (with_reducible refine Kd.C_alloc ?_ _) | (with_reducible refine Kd.C_drewN ?_ _) | (with_reducible refine Kd.C_drew ?_))); (case side2 => exact HC0_2.out); rintro e w40 ⟨rfl, hb⟩; refine ⟨_, rfl, ?_⟩; have n0_ := Aside0.mk (blk_below (g := gb133) (o := .cells #[.int .i64 a0_0, .bool a0_1, .slice A0_2 l0_2.length c0_2] 24 (0, 0)) (by (with_reducible repeat (first | refine blk_drewN ?_ _ | refine blk_drew ?_ | refine blk_alloc ?_ _)); exact BK133.out) hb); have n1_ := Aside0.mk (below_step (by repeat (first | (with_reducible first | exact HB.out | apply below_alloc | apply pw_below_drewN | apply below_drew1 | refine below_set ?_ GE133.out) | exact HB.out)) hb); clear BK133; clear HB; have BK133 := n0_; have HB := n1_; clear n0_ n1_; (try clear hb); (try clear hb2); (try clear hk); (try clear hi)))
  go_ret2
  exact ⟨by first | rfl | (simp [errW_none, errW_some] <;> rfl) | (simp [*, errW_none, errW_some] <;> rfl), by repeat (first | (with_reducible first | exact HB.out | apply below_alloc | apply pw_below_drewN | apply below_drew1 | refine below_set ?_ GE133.out) | exact HB.out)⟩

end Go.Proofs.Ytagppmdgmppmnaa.P

-- Laid by wip/tool/mk.py, by the kit's print.py, for all laws of this seat in one namespace; a function told as by hand has a proof of this session's own.
namespace Go.Proofs.Ytagppmdgmppmnaa.P
open Go.RowKit Go.Proofs.YtagppmdgmppmnaaW.PrintWords Go.Proofs.YtagppmdgmppmnaaW.PrintLast Go.Proofs.YtagppmdgmppmnaaW.PrintMore
attribute [local go_sem] max2_int min2_int max_two min_two max_three min_three max_four min_four   -- for this text's walks alone
set_option linter.unusedVariables false
set_option linter.unusedSimpArgs false

/-! ### span_Horizon: function 39 -/
def span_Horizon.f (a0 : Int) : Option (Int) := if a0 < 0 then (some 1) else (if a0 > 1024 then (some 2) else (some 0))
set_option maxHeartbeats 8000000 in
set_option maxRecDepth 100000 in
theorem span_Horizon.calls (a0 : Int) (r : Int) (w : World) (h : span_Horizon.f a0 = some r) :
  Calls Try.prog 39 #[.int .i64 a0] w fun e w' => e = .returned (.int .i64 r) ∧ Drawn0 w w' := by
 have H : (if a0 < 0 then (some 1) else (if a0 > 1024 then (some 2) else (some 0))) = some r := h
 clear h
 by_cases c2 : a0 < 0
 ·rw [if_pos c2] at H
  have c2b0 : decide (a0 < 0) = true := decide_eq_true c2
  clear c2
  obtain rfl := Option.some.inj H
  go_enter Try.func39, Try.ntmps39
  go_wp2
  go_ret
  exact ⟨by first | rfl | (simp; done) | (simp [*]; done), by repeat (first | exact Drawn0.refl _ | apply Drawn0.step)⟩
 ·rw [if_neg c2] at H
  have c2b0 : decide (a0 < 0) = false := decide_eq_false c2
  clear c2
  by_cases c3 : a0 > 1024
  ·rw [if_pos c3] at H
   have c3b0 : decide (1024 < a0) = true := decide_eq_true c3
   clear c3
   obtain rfl := Option.some.inj H
   go_enter Try.func39, Try.ntmps39
   go_wp2
   go_ret
   exact ⟨by first | rfl | (simp; done) | (simp [*]; done), by repeat (first | exact Drawn0.refl _ | apply Drawn0.step)⟩
  ·rw [if_neg c3] at H
   have c3b0 : decide (1024 < a0) = false := decide_eq_false c3
   clear c3
   obtain rfl := Option.some.inj H
   go_enter Try.func39, Try.ntmps39
   go_wp2
   go_ret
   exact ⟨by first | rfl | (simp; done) | (simp [*]; done), by repeat (first | exact Drawn0.refl _ | apply Drawn0.step)⟩

end Go.Proofs.Ytagppmdgmppmnaa.P

-- Laid by wip/tool/mk.py, by the kit's print.py, for all laws of this seat in one namespace; a function told as by hand has a proof of this session's own.
namespace Go.Proofs.Ytagppmdgmppmnaa.P
open Go.RowKit Go.Proofs.YtagppmdgmppmnaaW.PrintWords Go.Proofs.YtagppmdgmppmnaaW.PrintLast Go.Proofs.YtagppmdgmppmnaaW.PrintMore
attribute [local go_sem] max2_int min2_int max_two min_two max_three min_three max_four min_four   -- for this text's walks alone
set_option linter.unusedVariables false
set_option linter.unusedSimpArgs false

/-! ### netfmt_nodes: function 51 -/
def netfmt_nodes.f (a0 : Int) : Option (Int) := if a0 < 1 then (some 51) else (if a0 > 50 then (some 2) else (some 0))
set_option maxHeartbeats 8000000 in
set_option maxRecDepth 100000 in
theorem netfmt_nodes.calls (a0 : Int) (r : Int) (w : World) (h : netfmt_nodes.f a0 = some r) :
  Calls Try.prog 51 #[.int .i64 a0] w fun e w' => e = .returned (.int .i64 r) ∧ Drawn0 w w' := by
 have H : (if a0 < 1 then (some 51) else (if a0 > 50 then (some 2) else (some 0))) = some r := h
 clear h
 by_cases c2 : a0 < 1
 ·rw [if_pos c2] at H
  have c2b0 : decide (a0 < 1) = true := decide_eq_true c2
  clear c2
  obtain rfl := Option.some.inj H
  go_enter Try.func51, Try.ntmps51
  go_wp2
  go_ret
  exact ⟨by first | rfl | (simp; done) | (simp [*]; done), by repeat (first | exact Drawn0.refl _ | apply Drawn0.step)⟩
 ·rw [if_neg c2] at H
  have c2b0 : decide (a0 < 1) = false := decide_eq_false c2
  clear c2
  by_cases c3 : a0 > 50
  ·rw [if_pos c3] at H
   have c3b0 : decide (50 < a0) = true := decide_eq_true c3
   clear c3
   obtain rfl := Option.some.inj H
   go_enter Try.func51, Try.ntmps51
   go_wp2
   go_ret
   exact ⟨by first | rfl | (simp; done) | (simp [*]; done), by repeat (first | exact Drawn0.refl _ | apply Drawn0.step)⟩
  ·rw [if_neg c3] at H
   have c3b0 : decide (50 < a0) = false := decide_eq_false c3
   clear c3
   obtain rfl := Option.some.inj H
   go_enter Try.func51, Try.ntmps51
   go_wp2
   go_ret
   exact ⟨by first | rfl | (simp; done) | (simp [*]; done), by repeat (first | exact Drawn0.refl _ | apply Drawn0.step)⟩

end Go.Proofs.Ytagppmdgmppmnaa.P

-- Laid by wip/tool/mk.py, by the kit's print.py, for all laws of this seat in one namespace; a function told as by hand has a proof of this session's own.
namespace Go.Proofs.Ytagppmdgmppmnaa.P
open Go.RowKit Go.Proofs.YtagppmdgmppmnaaW.PrintWords Go.Proofs.YtagppmdgmppmnaaW.PrintLast Go.Proofs.YtagppmdgmppmnaaW.PrintMore
attribute [local go_sem] max2_int min2_int max_two min_two max_three min_three max_four min_four   -- for this text's walks alone
set_option linter.unusedVariables false
set_option linter.unusedSimpArgs false

/-! ### netfmt_arc: function 52 -/
def netfmt_arc.j0 : Nat → Bool → Int → Int → Int → Int → Option (Int)
 | 0, _, _, _, _, _ => none
 | k + 1, x5, x144000, x144001, x144002, x144003 => if x5 = true then (some 51) else (if x144002 > 1048576 then (some 2) else (if x144003 > 1048576 then (some 2) else (some 0)))
def netfmt_arc.f (k : Nat) (a0 : Int) (a1_0 : Int) (a1_1 : Int) (a1_2 : Int) (a1_3 : Int) : Option (Int) := if (mn (mn (mn a1_0 a1_1) a1_2) a1_3) < 0 then (netfmt_arc.j0 k true a1_0 a1_1 a1_2 a1_3) else (netfmt_arc.j0 k (decide ((mx a1_0 a1_1) ≥ a0)) a1_0 a1_1 a1_2 a1_3)
theorem netfmt_arc.mono_l : ∀ k, (∀ y0 y1 y2 y3 y4, LeO (netfmt_arc.j0 k y0 y1 y2 y3 y4) (netfmt_arc.j0 (k + 1) y0 y1 y2 y3 y4))
 | 0 => fun _ _ _ _ _ r h => by simp [netfmt_arc.j0] at h
 | k + 1 => by
  have ih0 := netfmt_arc.mono_l k
  ·intro y0 y1 y2 y3 y4
   unfold netfmt_arc.j0
   repeat' first
   | (with_reducible exact ih0 _ _ _ _ _)
   | (with_reducible exact LeO.refl _)
   | (with_reducible exact LeO.none _)
   | (with_reducible refine LeO.ite ?_ ?_)
   | (with_reducible refine LeO.bind ?_ (fun _ => ?_))
   | exact ih0 _ _ _ _ _
   | exact LeO.none _
   | refine LeO.ite ?_ ?_
   | refine LeO.bind ?_ (fun _ => ?_)
theorem netfmt_arc.mono : ∀ a0 a1 a2 a3 a4 k, LeO (netfmt_arc.f k a0 a1 a2 a3 a4) (netfmt_arc.f (k + 1) a0 a1 a2 a3 a4) := by
 intro a0 a1 a2 a3 a4 k
 have ih0 := netfmt_arc.mono_l k
 unfold netfmt_arc.f
 repeat' first
   | (with_reducible exact ih0 _ _ _ _ _)
   | (with_reducible exact LeO.refl _)
   | (with_reducible exact LeO.none _)
   | (with_reducible refine LeO.ite ?_ ?_)
   | (with_reducible refine LeO.bind ?_ (fun _ => ?_))
   | exact ih0 _ _ _ _ _
   | exact LeO.none _
   | refine LeO.ite ?_ ?_
   | refine LeO.bind ?_ (fun _ => ?_)
set_option maxHeartbeats 8000000 in
set_option maxRecDepth 100000 in
theorem netfmt_arc.calls (k : Nat) (a0 : Int) (a1_0 : Int) (a1_1 : Int) (a1_2 : Int) (a1_3 : Int) (r : Int) (w : World) (h : netfmt_arc.f k a0 a1_0 a1_1 a1_2 a1_3 = some r) :
  Calls Try.prog 52 #[.int .i64 a0, .agg #[.int .i64 a1_0, .int .i64 a1_1, .int .i64 a1_2, .int .i64 a1_3]] w fun e w' => e = .returned (.int .i64 r) ∧ Below w.heap.size w w' := by
 have hu69 := Try.underlying69
 have HB := Aside0.mk (Below.refl w.heap.size w)
 have H : (if (mn (mn (mn a1_0 a1_1) a1_2) a1_3) < 0 then (netfmt_arc.j0 k true a1_0 a1_1 a1_2 a1_3) else (netfmt_arc.j0 k (decide ((mx a1_0 a1_1) ≥ a0)) a1_0 a1_1 a1_2 a1_3)) = some r := h
 clear h
 have HC3 := Aside0.mk H
 clear H
 go_enter Try.func52, Try.ntmps52
 go_upto_region 1 with (first | ((with_reducible refine gate_dst (N := 3) rfl ?_); (try (refine gate_guard (by rfl) ?_; dsimp only)); refine box_event ?hg (N := 3) ?hd (cs := #[.int .i64 a1_0, .int .i64 a1_1, .int .i64 a1_2, .int .i64 a1_3]) (t := 69) ?hr ?_; (case hd => rfl); (case hg => rfl); (case hr => first | (go_simp; done) | (go_simp; rfl)); intro gb143 hg w4 hbox hb; have n0_ := Aside0.mk (below_step (by repeat (first | (with_reducible first | exact HB.out | apply below_alloc | apply pw_below_drewN | apply below_drew1) | exact HB.out)) hb); have n1_ := Aside0.mk (hbox); have n2_ := Aside0.mk ((by rw [hg]; exact (below_size (by repeat (first | (with_reducible first | exact HB.out | apply below_alloc | apply pw_below_drewN | apply below_drew1) | exact HB.out))) : w.heap.size ≤ gb143)); have n3_ := Aside0.mk ((by rw [hg]; exact (below_size (by repeat (first | (with_reducible first | exact HB.out | apply below_alloc | apply pw_below_drewN | apply below_drew1) | exact HB.out))) : w.heap.size ≤ gb143)); clear HB; have HB := n0_; have BK143 := n1_; have GW143 := n2_; have GE143 := n3_; clear n0_ n1_ n2_ n3_; clear hb hbox hg))
 (try simp only [Act.put, List.setIfInBounds_toArray, List.set_cons_zero, List.set_cons_succ])
 go_cut [5] (fun v5 wc => ∃ (kq : Nat) (x5_2 : Bool), v5 = .bool x5_2 ∧ Aside0 (netfmt_arc.j0 kq x5_2 a1_0 a1_1 a1_2 a1_3 = some r) ∧ Aside0 (kq ≤ k) ∧ Aside0 (wc.heap[gb143]? = some (.cells #[.int .i64 a1_0, .int .i64 a1_1, .int .i64 a1_2, .int .i64 a1_3] 69 (0, 0))) ∧ Aside0 (Below w.heap.size w wc))
 case first =>
  have H := HC3.out
  clear HC3
  obtain ⟨ji5, hji5⟩ : ∃ j_ : Int, (mn a1_0 a1_1) = j_ := ⟨_, rfl⟩
  replace H : (if (mn (mn (ji5) a1_2) a1_3) < 0 then (netfmt_arc.j0 k true a1_0 a1_1 a1_2 a1_3) else (netfmt_arc.j0 k (decide ((mx a1_0 a1_1) ≥ a0)) a1_0 a1_1 a1_2 a1_3)) = some r := by first | (rw [hji5] at H; exact H) | (simp only [hji5] at H ⊢; exact H)
  have hji5_ : (if a1_1 < a1_0 then a1_1 else a1_0) = ji5 := hji5
  obtain ⟨ji6, hji6⟩ : ∃ j_ : Int, (mn (ji5) a1_2) = j_ := ⟨_, rfl⟩
  replace H : (if (mn (ji6) a1_3) < 0 then (netfmt_arc.j0 k true a1_0 a1_1 a1_2 a1_3) else (netfmt_arc.j0 k (decide ((mx a1_0 a1_1) ≥ a0)) a1_0 a1_1 a1_2 a1_3)) = some r := by first | (rw [hji6] at H; exact H) | (simp only [hji6] at H ⊢; exact H)
  have hji6_ : (if a1_2 < (ji5) then a1_2 else (ji5)) = ji6 := hji6
  obtain ⟨ji7, hji7⟩ : ∃ j_ : Int, (mn (ji6) a1_3) = j_ := ⟨_, rfl⟩
  replace H : (if (ji7) < 0 then (netfmt_arc.j0 k true a1_0 a1_1 a1_2 a1_3) else (netfmt_arc.j0 k (decide ((mx a1_0 a1_1) ≥ a0)) a1_0 a1_1 a1_2 a1_3)) = some r := by first | (rw [hji7] at H; exact H) | (simp only [hji7] at H ⊢; exact H)
  have hji7_ : (if a1_3 < (ji6) then a1_3 else (ji6)) = ji7 := hji7
  by_cases c8 : (ji7) < 0
  ·rw [if_pos c8] at H
   have c8b0 : decide ((ji7) < 0) = true := decide_eq_true c8
   clear c8
   (first | rw [c8b0] | (simp only [i64_w, i32_w]; rw [c8b0]) | skip)
   have H' := Aside0.mk H
   clear H
   have hcz9_0 : w4.cell? ⟨gb143, 0, none⟩ = some (.int .i64 a1_0) := (blk_cell BK143.out 0).trans rfl
   have hcz9_1 : w4.cell? ⟨gb143, 1, none⟩ = some (.int .i64 a1_1) := (blk_cell BK143.out 1).trans rfl
   have hcz9_2 : w4.cell? ⟨gb143, 2, none⟩ = some (.int .i64 a1_2) := (blk_cell BK143.out 2).trans rfl
   have hcz9_3 : w4.cell? ⟨gb143, 3, none⟩ = some (.int .i64 a1_3) := (blk_cell BK143.out 3).trans rfl
   have hfz9_0 := blk_frozen BK143.out 0
   have hfz9_1 := blk_frozen BK143.out 1
   have hfz9_2 := blk_frozen BK143.out 2
   have hfz9_3 := blk_frozen BK143.out 3
   go_wp2
   go_meet
   case rel => exact ⟨_, (true), (by first | rfl | (simp; done) | (simp [*]; done)), H', ⟨by first | omega | exact Nat.le_refl _⟩, ⟨by (with_reducible repeat (first | refine blk_drewN ?_ _ | refine blk_drew ?_ | refine blk_alloc ?_ _)); exact BK143.out⟩, ⟨by repeat (first | (with_reducible first | exact HB.out | apply below_alloc | apply pw_below_drewN | apply below_drew1 | refine below_set ?_ GE143.out) | exact HB.out)⟩⟩
  ·rw [if_neg c8] at H
   have c8b0 : decide ((ji7) < 0) = false := decide_eq_false c8
   clear c8
   (first | rw [c8b0] | (simp only [i64_w, i32_w]; rw [c8b0]) | skip)
   obtain ⟨ji10, hji10⟩ : ∃ j_ : Int, (mx a1_0 a1_1) = j_ := ⟨_, rfl⟩
   replace H : (netfmt_arc.j0 k (decide ((ji10) ≥ a0)) a1_0 a1_1 a1_2 a1_3) = some r := by first | (rw [hji10] at H; exact H) | (simp only [hji10] at H ⊢; exact H)
   have hji10_ : (if a1_0 < a1_1 then a1_1 else a1_0) = ji10 := hji10
   have H' := Aside0.mk H
   clear H
   have hcz11_0 : w4.cell? ⟨gb143, 0, none⟩ = some (.int .i64 a1_0) := (blk_cell BK143.out 0).trans rfl
   have hcz11_1 : w4.cell? ⟨gb143, 1, none⟩ = some (.int .i64 a1_1) := (blk_cell BK143.out 1).trans rfl
   have hcz11_2 : w4.cell? ⟨gb143, 2, none⟩ = some (.int .i64 a1_2) := (blk_cell BK143.out 2).trans rfl
   have hcz11_3 : w4.cell? ⟨gb143, 3, none⟩ = some (.int .i64 a1_3) := (blk_cell BK143.out 3).trans rfl
   have hfz11_0 := blk_frozen BK143.out 0
   have hfz11_1 := blk_frozen BK143.out 1
   have hfz11_2 := blk_frozen BK143.out 2
   have hfz11_3 := blk_frozen BK143.out 3
   go_wp2
   go_meet
   case rel => exact ⟨_, (decide ((ji10) ≥ a0)), (by first | rfl | (simp; done) | (simp only [← hji10] <;> (first | rfl | simp)) | (simp [*]; done)), H', ⟨by first | omega | exact Nat.le_refl _⟩, ⟨by (with_reducible repeat (first | refine blk_drewN ?_ _ | refine blk_drew ?_ | refine blk_alloc ?_ _)); exact BK143.out⟩, ⟨by repeat (first | (with_reducible first | exact HB.out | apply below_alloc | apply pw_below_drewN | apply below_drew1 | refine below_set ?_ GE143.out) | exact HB.out)⟩⟩
 case rest =>
  clear HC3
  try clear p2
  try clear c5
  try clear c8
  try clear c8b0
  try clear hcz11_0
  try clear hcz11_1
  try clear hcz11_2
  try clear hcz11_3
  try clear hcz9_0
  try clear hcz9_1
  try clear hcz9_2
  try clear hcz9_3
  try clear hfz11_0
  try clear hfz11_1
  try clear hfz11_2
  try clear hfz11_3
  try clear hfz9_0
  try clear hfz9_1
  try clear hfz9_2
  try clear hfz9_3
  obtain ⟨kq, x5_2, rfl, HA, HJ2, BK143, HB⟩ := hcut
  cases kq with
  | zero => exact absurd HA.out (by simp [netfmt_arc.j0])
  | succ kj2 =>
   have H := HA.out
   clear HA
   simp only [netfmt_arc.j0] at H
   by_cases c12 : x5_2 = true
   ·subst c12
    have H1 : (some 51) = some r := by rw [if_pos rfl] at H; exact H
    clear H
    have H := H1
    clear H1
    obtain rfl := Option.some.inj H
    go_wp2
    go_ret
    exact ⟨by first | rfl | (simp [errW_none, errW_some] <;> rfl) | (simp [*, errW_none, errW_some] <;> rfl), by repeat (first | (with_reducible first | exact HB.out | apply below_alloc | apply pw_below_drewN | apply below_drew1 | refine below_set ?_ GE143.out) | exact HB.out)⟩
   ·replace c12 := Bool.eq_false_iff.mpr c12
    subst c12
    have H1 : (if a1_2 > 1048576 then (some 2) else (if a1_3 > 1048576 then (some 2) else (some 0))) = some r := by rw [if_neg (show ¬ (false = true) by decide)] at H; exact H
    clear H
    have H := H1
    clear H1
    by_cases c13 : a1_2 > 1048576
    ·rw [if_pos c13] at H
     have c13b0 : decide (1048576 < a1_2) = true := decide_eq_true c13
     clear c13
     obtain rfl := Option.some.inj H
     have hcz14_0 : wc.cell? ⟨gb143, 0, none⟩ = some (.int .i64 a1_0) := (blk_cell BK143.out 0).trans rfl
     have hcz14_1 : wc.cell? ⟨gb143, 1, none⟩ = some (.int .i64 a1_1) := (blk_cell BK143.out 1).trans rfl
     have hcz14_2 : wc.cell? ⟨gb143, 2, none⟩ = some (.int .i64 a1_2) := (blk_cell BK143.out 2).trans rfl
     have hcz14_3 : wc.cell? ⟨gb143, 3, none⟩ = some (.int .i64 a1_3) := (blk_cell BK143.out 3).trans rfl
     have hfz14_0 := blk_frozen BK143.out 0
     have hfz14_1 := blk_frozen BK143.out 1
     have hfz14_2 := blk_frozen BK143.out 2
     have hfz14_3 := blk_frozen BK143.out 3
     go_wp2
     go_ret
     exact ⟨by first | rfl | (simp [errW_none, errW_some] <;> rfl) | (simp [*, errW_none, errW_some] <;> rfl), by repeat (first | (with_reducible first | exact HB.out | apply below_alloc | apply pw_below_drewN | apply below_drew1 | refine below_set ?_ GE143.out) | exact HB.out)⟩
    ·rw [if_neg c13] at H
     have c13b0 : decide (1048576 < a1_2) = false := decide_eq_false c13
     clear c13
     by_cases c15 : a1_3 > 1048576
     ·rw [if_pos c15] at H
      have c15b0 : decide (1048576 < a1_3) = true := decide_eq_true c15
      clear c15
      obtain rfl := Option.some.inj H
      have hcz16_0 : wc.cell? ⟨gb143, 0, none⟩ = some (.int .i64 a1_0) := (blk_cell BK143.out 0).trans rfl
      have hcz16_1 : wc.cell? ⟨gb143, 1, none⟩ = some (.int .i64 a1_1) := (blk_cell BK143.out 1).trans rfl
      have hcz16_2 : wc.cell? ⟨gb143, 2, none⟩ = some (.int .i64 a1_2) := (blk_cell BK143.out 2).trans rfl
      have hcz16_3 : wc.cell? ⟨gb143, 3, none⟩ = some (.int .i64 a1_3) := (blk_cell BK143.out 3).trans rfl
      have hfz16_0 := blk_frozen BK143.out 0
      have hfz16_1 := blk_frozen BK143.out 1
      have hfz16_2 := blk_frozen BK143.out 2
      have hfz16_3 := blk_frozen BK143.out 3
      go_wp2
      go_ret
      exact ⟨by first | rfl | (simp [errW_none, errW_some] <;> rfl) | (simp [*, errW_none, errW_some] <;> rfl), by repeat (first | (with_reducible first | exact HB.out | apply below_alloc | apply pw_below_drewN | apply below_drew1 | refine below_set ?_ GE143.out) | exact HB.out)⟩
     ·rw [if_neg c15] at H
      have c15b0 : decide (1048576 < a1_3) = false := decide_eq_false c15
      clear c15
      obtain rfl := Option.some.inj H
      have hcz17_0 : wc.cell? ⟨gb143, 0, none⟩ = some (.int .i64 a1_0) := (blk_cell BK143.out 0).trans rfl
      have hcz17_1 : wc.cell? ⟨gb143, 1, none⟩ = some (.int .i64 a1_1) := (blk_cell BK143.out 1).trans rfl
      have hcz17_2 : wc.cell? ⟨gb143, 2, none⟩ = some (.int .i64 a1_2) := (blk_cell BK143.out 2).trans rfl
      have hcz17_3 : wc.cell? ⟨gb143, 3, none⟩ = some (.int .i64 a1_3) := (blk_cell BK143.out 3).trans rfl
      have hfz17_0 := blk_frozen BK143.out 0
      have hfz17_1 := blk_frozen BK143.out 1
      have hfz17_2 := blk_frozen BK143.out 2
      have hfz17_3 := blk_frozen BK143.out 3
      go_wp2
      go_ret
      exact ⟨by first | rfl | (simp [errW_none, errW_some] <;> rfl) | (simp [*, errW_none, errW_some] <;> rfl), by repeat (first | (with_reducible first | exact HB.out | apply below_alloc | apply pw_below_drewN | apply below_drew1 | refine below_set ?_ GE143.out) | exact HB.out)⟩

end Go.Proofs.Ytagppmdgmppmnaa.P

-- Laid by wip/tool/mk.py, by the kit's print.py, for all laws of this seat in one namespace; a function told as by hand has a proof of this session's own.
namespace Go.Proofs.Ytagppmdgmppmnaa.P
open Go.RowKit Go.Proofs.YtagppmdgmppmnaaW.PrintWords Go.Proofs.YtagppmdgmppmnaaW.PrintLast Go.Proofs.YtagppmdgmppmnaaW.PrintMore
attribute [local go_sem] max2_int min2_int max_two min_two max_three min_three max_four min_four   -- for this text's walks alone
set_option linter.unusedVariables false
set_option linter.unusedSimpArgs false

/-! ### netfmt_Check: function 38 -/
def netfmt_Check.l0 : Nat → List (S69) → Int → Int → Int → Bool → List (S69) → Option (Int)
 | 0, _, _, _, _, _, _ => none
 | k + 1, x18, x19, x20, x145000, x145001, x145002 => if x20 < x19 then (if 0 ≤ x20 then (if x20 < (x18.length : Int) then ((netfmt_arc.f k x145000 ((rd_T69 x18 x20).f0) ((rd_T69 x18 x20).f1) ((rd_T69 x18 x20).f2) ((rd_T69 x18 x20).f3)).bind fun t148 => (if t148 = 0 then (netfmt_Check.l0 k x18 x19 (wrap64 (x20 + 1)) x145000 x145001 x145002) else (some t148))) else (none)) else (none)) else (some 0)
def netfmt_Check.f (k : Nat) (a0_0 : Int) (a0_1 : Bool) (l0_2 : List (S69)) : Option (Int) := (netfmt_nodes.f a0_0).bind fun t145 => (if t145 = 0 then (if (l0_2.length : Int) > 200 then (some 2) else (netfmt_Check.l0 k l0_2 (l0_2.length : Int) 0 a0_0 a0_1 l0_2)) else (some t145))
theorem netfmt_Check.mono_l : ∀ k, (∀ y0 y1 y2 y3 y4 y5, LeO (netfmt_Check.l0 k y0 y1 y2 y3 y4 y5) (netfmt_Check.l0 (k + 1) y0 y1 y2 y3 y4 y5))
 | 0 => fun _ _ _ _ _ _ r h => by simp [netfmt_Check.l0] at h
 | k + 1 => by
  have ih0 := netfmt_Check.mono_l k
  ·intro y0 y1 y2 y3 y4 y5
   unfold netfmt_Check.l0
   repeat' first
   | (with_reducible exact ih0 _ _ _ _ _ _)
   | (with_reducible exact netfmt_arc.mono _ _ _ _ _ _)
   | (with_reducible exact LeO.refl _)
   | (with_reducible exact LeO.none _)
   | (with_reducible refine LeO.ite ?_ ?_)
   | (with_reducible refine LeO.bind ?_ (fun _ => ?_))
   | exact ih0 _ _ _ _ _ _
   | exact netfmt_arc.mono _ _ _ _ _ _
   | exact LeO.none _
   | refine LeO.ite ?_ ?_
   | refine LeO.bind ?_ (fun _ => ?_)
theorem netfmt_Check.mono : ∀ a0 a1 a2 k, LeO (netfmt_Check.f k a0 a1 a2) (netfmt_Check.f (k + 1) a0 a1 a2) := by
 intro a0 a1 a2 k
 have ih0 := netfmt_Check.mono_l k
 unfold netfmt_Check.f
 repeat' first
   | (with_reducible exact ih0 _ _ _ _ _ _)
   | (with_reducible exact netfmt_arc.mono _ _ _ _ _ _)
   | (with_reducible exact LeO.refl _)
   | (with_reducible exact LeO.none _)
   | (with_reducible refine LeO.ite ?_ ?_)
   | (with_reducible refine LeO.bind ?_ (fun _ => ?_))
   | exact ih0 _ _ _ _ _ _
   | exact netfmt_arc.mono _ _ _ _ _ _
   | exact LeO.none _
   | refine LeO.ite ?_ ?_
   | refine LeO.bind ?_ (fun _ => ?_)
set_option maxHeartbeats 8000000 in
set_option maxRecDepth 100000 in
theorem netfmt_Check.calls (k : Nat) (a0_0 : Int) (a0_1 : Bool) (A0_2 : Option Addr) (c0_2 : Nat) (l0_2 : List (S69)) (r : Int) (w : World) (hr0_2 : Kd.C k69 w A0_2 l0_2.length l0_2) (hc0_2 : l0_2.length ≤ c0_2) (h : netfmt_Check.f k a0_0 a0_1 l0_2 = some r) :
  Calls Try.prog 38 #[.agg #[.int .i64 a0_0, .bool a0_1, .slice A0_2 l0_2.length c0_2]] w fun e w' => e = .returned (.int .i64 r) ∧ Below w.heap.size w w' := by
 have hu24 := Try.underlying24
 have hu69 := Try.underlying69
 have HR0_2 := Aside0.mk hr0_2
 have HC0_2 := Aside0.mk hc0_2
 clear hr0_2 hc0_2
 have HB := Aside0.mk (Below.refl w.heap.size w)
 have H : ((netfmt_nodes.f a0_0).bind fun t145 => (if t145 = 0 then (if (l0_2.length : Int) > 200 then (some 2) else (netfmt_Check.l0 k l0_2 (l0_2.length : Int) 0 a0_0 a0_1 l0_2)) else (some t145))) = some r := h
 clear h
 replace H := Option.bind_eq_some_iff.mp H
 obtain ⟨t145, A20, H⟩ := H
 replace H : (if t145 = 0 then (if (l0_2.length : Int) > 200 then (some 2) else (netfmt_Check.l0 k l0_2 (l0_2.length : Int) 0 a0_0 a0_1 l0_2)) else (some t145)) = some r := H
 have A2 := Aside0.mk A20
 clear A20
 by_cases c3 : t145 = 0
 ·rw [if_pos c3] at H
  have c3b0 : (t145 == 0) = true := beq_iff_eq.mpr c3
  have c3b1 : (t145 != 0) = false := bne_eq_false_iff_eq.mpr c3
  clear c3
  by_cases c4 : (l0_2.length : Int) > 200
  ·rw [if_pos c4] at H
   have c4b0 : decide (200 < (l0_2.length : Int)) = true := decide_eq_true c4
   have c4b1 : decide (200 < l0_2.length) = true := decide_eq_true (by omega)
   clear c4
   obtain rfl := Option.some.inj H
   go_enter Try.func38, Try.ntmps38
   go_wp2_with (first | ((with_reducible refine gate_dst (N := 1) rfl ?_); refine box_event ?hg (N := 1) ?hd (cs := #[.int .i64 a0_0, .bool a0_1, .slice A0_2 l0_2.length c0_2]) (t := 24) ?hr ?_; (case hd => rfl); (case hg => rfl); (case hr => first | (go_simp; done) | (go_simp; rfl)); intro gb144 hg w5 hbox hb; have n0_ := Aside0.mk (below_step (by repeat (first | (with_reducible first | exact HB.out | apply below_alloc | apply pw_below_drewN | apply below_drew1) | exact HB.out)) hb); have n1_ := Aside0.mk (hbox); have n2_ := Aside0.mk ((by rw [hg]; exact (below_size (by repeat (first | (with_reducible first | exact HB.out | apply below_alloc | apply pw_below_drewN | apply below_drew1) | exact HB.out))) : w.heap.size ≤ gb144)); have n3_ := Aside0.mk ((by rw [hg]; exact (below_size (by repeat (first | (with_reducible first | exact HB.out | apply below_alloc | apply pw_below_drewN | apply below_drew1) | exact HB.out))) : w.heap.size ≤ gb144)); clear HB; have HB := n0_; have BK144 := n1_; have GW144 := n2_; have GE144 := n3_; clear n0_ n1_ n2_ n3_; clear hb hbox hg; have hcz6_0 : w5.cell? ⟨gb144, 0, none⟩ = some (.int .i64 a0_0) := (blk_cell BK144.out 0).trans rfl; have hcz6_1 : w5.cell? ⟨gb144, 1, none⟩ = some (.bool a0_1) := (blk_cell BK144.out 1).trans rfl; have hcz6_2 : w5.cell? ⟨gb144, 2, none⟩ = some (.slice A0_2 l0_2.length c0_2) := (blk_cell BK144.out 2).trans rfl; have hfz6_0 := blk_frozen BK144.out 0; have hfz6_1 := blk_frozen BK144.out 1; have hfz6_2 := blk_frozen BK144.out 2) | ((with_reducible refine gate_callee (f := 51) rfl ?_); refine goesL_ (some 9) rfl rfl Try.func51 (by kernel_rfl) rfl #[.int .i64 a0_0] rfl (by (try simp only [List.map_toArray, List.map_cons, List.map_nil]); first | done | rfl | (simp only [List.length_drop, List.length_take]; rfl)) ?_; (with_reducible refine (netfmt_nodes.calls a0_0 t145 _ A2.out).mono ?_); rintro e w' ⟨rfl, ⟨nd, rfl⟩⟩; refine ⟨_, rfl, ?_⟩))
   go_ret
   exact ⟨by first | rfl | (simp [errW_none, errW_some] <;> rfl) | (simp [*, errW_none, errW_some] <;> rfl), by repeat (first | (with_reducible first | exact HB.out | apply below_alloc | apply pw_below_drewN | apply below_drew1 | refine below_set ?_ GE144.out) | exact HB.out)⟩
  ·rw [if_neg c4] at H
   have c4b0 : decide (200 < (l0_2.length : Int)) = false := decide_eq_false c4
   have c4b1 : decide (200 < l0_2.length) = false := decide_eq_false (by omega)
   clear c4
   have H' := Aside0.mk H
   clear H
   go_enter Try.func38, Try.ntmps38
   go_wp2_with (first | ((with_reducible refine gate_dst (N := 1) rfl ?_); refine box_event ?hg (N := 1) ?hd (cs := #[.int .i64 a0_0, .bool a0_1, .slice A0_2 l0_2.length c0_2]) (t := 24) ?hr ?_; (case hd => rfl); (case hg => rfl); (case hr => first | (go_simp; done) | (go_simp; rfl)); intro gb144 hg w7 hbox hb; have n0_ := Aside0.mk (below_step (by repeat (first | (with_reducible first | exact HB.out | apply below_alloc | apply pw_below_drewN | apply below_drew1) | exact HB.out)) hb); have n1_ := Aside0.mk (hbox); have n2_ := Aside0.mk ((by rw [hg]; exact (below_size (by repeat (first | (with_reducible first | exact HB.out | apply below_alloc | apply pw_below_drewN | apply below_drew1) | exact HB.out))) : w.heap.size ≤ gb144)); have n3_ := Aside0.mk ((by rw [hg]; exact (below_size (by repeat (first | (with_reducible first | exact HB.out | apply below_alloc | apply pw_below_drewN | apply below_drew1) | exact HB.out))) : w.heap.size ≤ gb144)); clear HB; have HB := n0_; have BK144 := n1_; have GW144 := n2_; have GE144 := n3_; clear n0_ n1_ n2_ n3_; clear hb hbox hg; have hcz8_0 : w7.cell? ⟨gb144, 0, none⟩ = some (.int .i64 a0_0) := (blk_cell BK144.out 0).trans rfl; have hcz8_1 : w7.cell? ⟨gb144, 1, none⟩ = some (.bool a0_1) := (blk_cell BK144.out 1).trans rfl; have hcz8_2 : w7.cell? ⟨gb144, 2, none⟩ = some (.slice A0_2 l0_2.length c0_2) := (blk_cell BK144.out 2).trans rfl; have hfz8_0 := blk_frozen BK144.out 0; have hfz8_1 := blk_frozen BK144.out 1; have hfz8_2 := blk_frozen BK144.out 2) | ((with_reducible refine gate_callee (f := 51) rfl ?_); refine goesL_ (some 9) rfl rfl Try.func51 (by kernel_rfl) rfl #[.int .i64 a0_0] rfl (by (try simp only [List.map_toArray, List.map_cons, List.map_nil]); first | done | rfl | (simp only [List.length_drop, List.length_take]; rfl)) ?_; (with_reducible refine (netfmt_nodes.calls a0_0 t145 _ A2.out).mono ?_); rintro e w' ⟨rfl, ⟨nd, rfl⟩⟩; refine ⟨_, rfl, ?_⟩))
   go_loopg [20] k (fun kq v20 w' => ∃ (x20_1 : Int), v20 = .int .i64 x20_1 ∧ Aside0 (netfmt_Check.l0 kq l0_2 (l0_2.length : Int) x20_1 a0_0 a0_1 l0_2 = some r) ∧ Aside0 (kq ≤ k) ∧ Aside0 (w'.heap[gb144]? = some (.cells #[.int .i64 a0_0, .bool a0_1, (.slice A0_2 l0_2.length c0_2)] 24 (0, 0))) ∧ Aside0 (Below w.heap.size w w'))
   case atStart => exact ⟨(0), (by first | rfl | (simp; done) | (simp [*]; done)), H', ⟨Nat.le_refl _⟩, ⟨by (with_reducible repeat (first | refine blk_drewN ?_ _ | refine blk_drew ?_ | refine blk_alloc ?_ _)); exact BK144.out⟩, ⟨by repeat (first | (with_reducible first | exact HB.out | apply below_alloc | apply pw_below_drewN | apply below_drew1 | refine below_set ?_ GE144.out) | exact HB.out)⟩⟩
   case round =>
    clear H'
    try clear p2
    try clear c3
    try clear c3b0
    try clear c3b1
    try clear c4
    try clear c4b0
    try clear c4b1
    try clear c5
    try clear hcz6_0
    try clear hcz6_1
    try clear hcz6_2
    try clear hcz8_0
    try clear hcz8_1
    try clear hcz8_2
    try clear hfz6_0
    try clear hfz6_1
    try clear hfz6_2
    try clear hfz8_0
    try clear hfz8_1
    try clear hfz8_2
    obtain ⟨x20_1, rfl, HA, HK1, BK144, HB⟩ := hrel
    cases gk with
    | zero => exact absurd HA.out (by simp [netfmt_Check.l0])
    | succ k1 =>
     have H := HA.out
     clear HA
     simp only [netfmt_Check.l0] at H
     by_cases c9 : x20_1 < (l0_2.length : Int)
     ·rw [if_pos c9] at H
      have c9b0 : decide (x20_1 < (l0_2.length : Int)) = true := decide_eq_true c9
      clear c9
      by_cases c10 : 0 ≤ x20_1
      ·rw [if_pos c10] at H
       have c10b0 : decide (0 ≤ x20_1) = true := decide_eq_true c10
       clear c10
       by_cases c11 : x20_1 < (l0_2.length : Int)
       ·rw [if_pos c11] at H
        have c11b0 : decide (x20_1 < (l0_2.length : Int)) = true := decide_eq_true c11
        clear c11
        replace H := Option.bind_eq_some_iff.mp H
        obtain ⟨t148, A120, H⟩ := H
        replace H : (if t148 = 0 then (netfmt_Check.l0 k1 l0_2 (l0_2.length : Int) (wrap64 (x20_1 + 1)) a0_0 a0_1 l0_2) else (some t148)) = some r := H
        have A12 := Aside0.mk A120
        clear A120
        by_cases c13 : t148 = 0
        ·rw [if_pos c13] at H
         have c13b0 : (t148 == 0) = true := beq_iff_eq.mpr c13
         have c13b1 : (t148 != 0) = false := bne_eq_false_iff_eq.mpr c13
         clear c13
         have H' := Aside0.mk H
         clear H
         have p146 : 0 ≤ (x20_1 : Int) := of_decide_eq_true (by first | (with_reducible assumption) | assumption)
         have q146 : x20_1 < (l0_2.length : Int) := of_decide_eq_true (by first | (with_reducible assumption) | assumption)
         obtain ⟨ad146, e146, hx146_0, hx146_1, hx146_2, hx146_3⟩ := at_T69 HR0_2.out x20_1 p146 q146
         cases e146
         replace hx146_0 := (HB.out.cell (World.block_lt_of_cell? w _ hx146_0)).trans hx146_0
         replace hx146_1 := (HB.out.cell (World.block_lt_of_cell? w _ hx146_1)).trans hx146_1
         replace hx146_2 := (HB.out.cell (World.block_lt_of_cell? w _ hx146_2)).trans hx146_2
         replace hx146_3 := (HB.out.cell (World.block_lt_of_cell? w _ hx146_3)).trans hx146_3
         replace p146 := eq_true p146
         replace q146 := eq_true q146
         go_wp2_with (first | ((with_reducible refine gate_dst (N := 5) rfl ?_); refine box_event ?hg (N := 5) ?hd (cs := #[.int .i64 0, .int .i64 0, .int .i64 0, .int .i64 0]) (t := 69) ?hr ?_; (case hd => rfl); (case hg => rfl); (case hr => first | (go_simp; done) | (go_simp; rfl)); intro gb147 hg w14 hbox hb; have n0_ := Aside0.mk (blk_below (g := gb144) (o := .cells #[.int .i64 a0_0, .bool a0_1, .slice (some ad146) l0_2.length c0_2] 24 (0, 0)) (by (with_reducible repeat (first | refine blk_drewN ?_ _ | refine blk_drew ?_ | refine blk_alloc ?_ _)); exact BK144.out) hb); have n1_ := Aside0.mk (below_step (by repeat (first | (with_reducible first | exact HB.out | apply below_alloc | apply pw_below_drewN | apply below_drew1 | refine below_set ?_ GE144.out) | exact HB.out)) hb); have n2_ := Aside0.mk (hbox); have n3_ := Aside0.mk ((by rw [hg]; exact (below_size (by repeat (first | (with_reducible first | exact HB.out | apply below_alloc | apply pw_below_drewN | apply below_drew1 | refine below_set ?_ GE144.out) | exact HB.out))) : w.heap.size ≤ gb147)); have n4_ := Aside0.mk ((by rw [hg]; exact (below_size (by repeat (first | (with_reducible first | exact HB.out | apply below_alloc | apply pw_below_drewN | apply below_drew1 | refine below_set ?_ GE144.out) | exact HB.out))) : w.heap.size ≤ gb147)); have n5_ := Aside0.mk ((by rw [hg]; exact Nat.ne_of_lt (blk_lt (g := gb144) (o := .cells #[.int .i64 a0_0, .bool a0_1, .slice (some ad146) l0_2.length c0_2] 24 (0, 0)) (by (with_reducible repeat (first | refine blk_drewN ?_ _ | refine blk_drew ?_ | refine blk_alloc ?_ _)); exact BK144.out)) : gb144 ≠ gb147)); have n6_ := Aside0.mk ((by rw [hg]; exact Nat.ne_of_gt (blk_lt (g := gb144) (o := .cells #[.int .i64 a0_0, .bool a0_1, .slice (some ad146) l0_2.length c0_2] 24 (0, 0)) (by (with_reducible repeat (first | refine blk_drewN ?_ _ | refine blk_drew ?_ | refine blk_alloc ?_ _)); exact BK144.out)) : gb147 ≠ gb144)); clear BK144; clear HB; have BK144 := n0_; have HB := n1_; have BK147 := n2_; have GW147 := n3_; have GE147 := n4_; have NB144_147 := n5_; have NB147_144 := n6_; clear n0_ n1_ n2_ n3_ n4_ n5_ n6_; clear hb hbox hg; have hnb15 := NB147_144.out; have hnc15 := NB144_147.out; have hcz16_0 : w14.cell? ⟨gb147, 0, none⟩ = some (.int .i64 0) := (blk_cell BK147.out 0).trans rfl; have hcz16_1 : w14.cell? ⟨gb147, 1, none⟩ = some (.int .i64 0) := (blk_cell BK147.out 1).trans rfl; have hcz16_2 : w14.cell? ⟨gb147, 2, none⟩ = some (.int .i64 0) := (blk_cell BK147.out 2).trans rfl; have hcz16_3 : w14.cell? ⟨gb147, 3, none⟩ = some (.int .i64 0) := (blk_cell BK147.out 3).trans rfl; have hfz16_0 := blk_frozen BK147.out 0; have hfz16_1 := blk_frozen BK147.out 1; have hfz16_2 := blk_frozen BK147.out 2; have hfz16_3 := blk_frozen BK147.out 3; have hcz17_0 : w14.cell? ⟨gb144, 0, none⟩ = some (.int .i64 a0_0) := (blk_cell BK144.out 0).trans rfl; have hcz17_1 : w14.cell? ⟨gb144, 1, none⟩ = some (.bool a0_1) := (blk_cell BK144.out 1).trans rfl; have hcz17_2 : w14.cell? ⟨gb144, 2, none⟩ = some (.slice (some ad146) l0_2.length c0_2) := (blk_cell BK144.out 2).trans rfl; have hfz17_0 := blk_frozen BK144.out 0; have hfz17_1 := blk_frozen BK144.out 1; have hfz17_2 := blk_frozen BK144.out 2) | ((with_reducible refine gate_callee (f := 52) rfl ?_); refine goesL_ (some 27) rfl rfl Try.func52 (by kernel_rfl) rfl #[.int .i64 a0_0, .agg #[.int .i64 ((rd_T69 l0_2 x20_1).f0), .int .i64 ((rd_T69 l0_2 x20_1).f1), .int .i64 ((rd_T69 l0_2 x20_1).f2), .int .i64 ((rd_T69 l0_2 x20_1).f3)]] rfl (by (try simp only [List.map_toArray, List.map_cons, List.map_nil]); first | done | rfl | (simp only [List.length_drop, List.length_take]; rfl)) ?_; (with_reducible refine (netfmt_arc.calls k1 a0_0 ((rd_T69 l0_2 x20_1).f0) ((rd_T69 l0_2 x20_1).f1) ((rd_T69 l0_2 x20_1).f2) ((rd_T69 l0_2 x20_1).f3) t148 _ A12.out).mono ?_); rintro e w18 ⟨rfl, hb⟩; refine ⟨_, rfl, ?_⟩; have n0_ := Aside0.mk (blk_below (g := gb144) (o := .cells #[.int .i64 a0_0, .bool a0_1, .slice (some ad146) l0_2.length c0_2] 24 (0, 0)) (by (with_reducible repeat (first | refine blk_drewN ?_ _ | refine blk_drew ?_ | refine blk_alloc ?_ _)); refine blk_far ?_ NB144_147.out _; (with_reducible repeat (first | refine blk_drewN ?_ _ | refine blk_drew ?_ | refine blk_alloc ?_ _)); refine blk_far ?_ NB144_147.out _; (with_reducible repeat (first | refine blk_drewN ?_ _ | refine blk_drew ?_ | refine blk_alloc ?_ _)); refine blk_far ?_ NB144_147.out _; (with_reducible repeat (first | refine blk_drewN ?_ _ | refine blk_drew ?_ | refine blk_alloc ?_ _)); refine blk_far ?_ NB144_147.out _; (with_reducible repeat (first | refine blk_drewN ?_ _ | refine blk_drew ?_ | refine blk_alloc ?_ _)); exact BK144.out) hb); have n1_ := Aside0.mk (blk_below (g := gb147) (o := .cells #[.int .i64 ((rd_T69 l0_2 x20_1).f0), .int .i64 ((rd_T69 l0_2 x20_1).f1), .int .i64 ((rd_T69 l0_2 x20_1).f2), .int .i64 ((rd_T69 l0_2 x20_1).f3)] 69 (0, 0)) (by (with_reducible repeat (first | refine blk_drewN ?_ _ | refine blk_drew ?_ | refine blk_alloc ?_ _)); refine blk_put (cs := #[.int .i64 ((rd_T69 l0_2 x20_1).f0), .int .i64 ((rd_T69 l0_2 x20_1).f1), .int .i64 ((rd_T69 l0_2 x20_1).f2), .int .i64 0]) ?_ 3 _ rfl; (with_reducible repeat (first | refine blk_drewN ?_ _ | refine blk_drew ?_ | refine blk_alloc ?_ _)); refine blk_put (cs := #[.int .i64 ((rd_T69 l0_2 x20_1).f0), .int .i64 ((rd_T69 l0_2 x20_1).f1), .int .i64 0, .int .i64 0]) ?_ 2 _ rfl; (with_reducible repeat (first | refine blk_drewN ?_ _ | refine blk_drew ?_ | refine blk_alloc ?_ _)); refine blk_put (cs := #[.int .i64 ((rd_T69 l0_2 x20_1).f0), .int .i64 0, .int .i64 0, .int .i64 0]) ?_ 1 _ rfl; (with_reducible repeat (first | refine blk_drewN ?_ _ | refine blk_drew ?_ | refine blk_alloc ?_ _)); refine blk_put (cs := #[.int .i64 0, .int .i64 0, .int .i64 0, .int .i64 0]) ?_ 0 _ rfl; (with_reducible repeat (first | refine blk_drewN ?_ _ | refine blk_drew ?_ | refine blk_alloc ?_ _)); exact BK147.out) hb); have n2_ := Aside0.mk (below_step (by repeat (first | (with_reducible first | exact HB.out | apply below_alloc | apply pw_below_drewN | apply below_drew1 | refine below_set ?_ GE144.out | refine below_set ?_ GE147.out) | exact HB.out)) hb); clear BK144; clear BK147; clear HB; have BK144 := n0_; have BK147 := n1_; have HB := n2_; clear n0_ n1_ n2_; (try clear hb); (try clear hb2); (try clear hk); (try clear hi)))
         go_roundg k1
         case measure => have := HK1.out; omega
         case rel => exact ⟨(wrap64 (x20_1 + 1)), (by first | rfl | (simp; done) | (simp [*]; done)), H', ⟨by have := HK1.out; omega⟩, ⟨by (with_reducible repeat (first | refine blk_drewN ?_ _ | refine blk_drew ?_ | refine blk_alloc ?_ _)); exact BK144.out⟩, ⟨by repeat (first | (with_reducible first | exact HB.out | apply below_alloc | apply pw_below_drewN | apply below_drew1 | refine below_set ?_ GE144.out | refine below_set ?_ GE147.out) | exact HB.out)⟩⟩
        ·rw [if_neg c13] at H
         have c13b0 : (t148 == 0) = false := beq_eq_false_iff_ne.mpr c13
         have c13b1 : (t148 != 0) = true := bne_iff_ne.mpr c13
         obtain rfl := Option.some.inj H
         have p146 : 0 ≤ (x20_1 : Int) := of_decide_eq_true (by first | (with_reducible assumption) | assumption)
         have q146 : x20_1 < (l0_2.length : Int) := of_decide_eq_true (by first | (with_reducible assumption) | assumption)
         obtain ⟨ad146, e146, hx146_0, hx146_1, hx146_2, hx146_3⟩ := at_T69 HR0_2.out x20_1 p146 q146
         cases e146
         replace hx146_0 := (HB.out.cell (World.block_lt_of_cell? w _ hx146_0)).trans hx146_0
         replace hx146_1 := (HB.out.cell (World.block_lt_of_cell? w _ hx146_1)).trans hx146_1
         replace hx146_2 := (HB.out.cell (World.block_lt_of_cell? w _ hx146_2)).trans hx146_2
         replace hx146_3 := (HB.out.cell (World.block_lt_of_cell? w _ hx146_3)).trans hx146_3
         replace p146 := eq_true p146
         replace q146 := eq_true q146
         go_wp2_with (first | ((with_reducible refine gate_dst (N := 5) rfl ?_); refine box_event ?hg (N := 5) ?hd (cs := #[.int .i64 0, .int .i64 0, .int .i64 0, .int .i64 0]) (t := 69) ?hr ?_; (case hd => rfl); (case hg => rfl); (case hr => first | (go_simp; done) | (go_simp; rfl)); intro gb147 hg w19 hbox hb; have n0_ := Aside0.mk (blk_below (g := gb144) (o := .cells #[.int .i64 a0_0, .bool a0_1, .slice (some ad146) l0_2.length c0_2] 24 (0, 0)) (by (with_reducible repeat (first | refine blk_drewN ?_ _ | refine blk_drew ?_ | refine blk_alloc ?_ _)); exact BK144.out) hb); have n1_ := Aside0.mk (below_step (by repeat (first | (with_reducible first | exact HB.out | apply below_alloc | apply pw_below_drewN | apply below_drew1 | refine below_set ?_ GE144.out) | exact HB.out)) hb); have n2_ := Aside0.mk (hbox); have n3_ := Aside0.mk ((by rw [hg]; exact (below_size (by repeat (first | (with_reducible first | exact HB.out | apply below_alloc | apply pw_below_drewN | apply below_drew1 | refine below_set ?_ GE144.out) | exact HB.out))) : w.heap.size ≤ gb147)); have n4_ := Aside0.mk ((by rw [hg]; exact (below_size (by repeat (first | (with_reducible first | exact HB.out | apply below_alloc | apply pw_below_drewN | apply below_drew1 | refine below_set ?_ GE144.out) | exact HB.out))) : w.heap.size ≤ gb147)); have n5_ := Aside0.mk ((by rw [hg]; exact Nat.ne_of_lt (blk_lt (g := gb144) (o := .cells #[.int .i64 a0_0, .bool a0_1, .slice (some ad146) l0_2.length c0_2] 24 (0, 0)) (by (with_reducible repeat (first | refine blk_drewN ?_ _ | refine blk_drew ?_ | refine blk_alloc ?_ _)); exact BK144.out)) : gb144 ≠ gb147)); have n6_ := Aside0.mk ((by rw [hg]; exact Nat.ne_of_gt (blk_lt (g := gb144) (o := .cells #[.int .i64 a0_0, .bool a0_1, .slice (some ad146) l0_2.length c0_2] 24 (0, 0)) (by (with_reducible repeat (first | refine blk_drewN ?_ _ | refine blk_drew ?_ | refine blk_alloc ?_ _)); exact BK144.out)) : gb147 ≠ gb144)); clear BK144; clear HB; have BK144 := n0_; have HB := n1_; have BK147 := n2_; have GW147 := n3_; have GE147 := n4_; have NB144_147 := n5_; have NB147_144 := n6_; clear n0_ n1_ n2_ n3_ n4_ n5_ n6_; clear hb hbox hg; have hnb20 := NB147_144.out; have hnc20 := NB144_147.out; have hcz21_0 : w19.cell? ⟨gb147, 0, none⟩ = some (.int .i64 0) := (blk_cell BK147.out 0).trans rfl; have hcz21_1 : w19.cell? ⟨gb147, 1, none⟩ = some (.int .i64 0) := (blk_cell BK147.out 1).trans rfl; have hcz21_2 : w19.cell? ⟨gb147, 2, none⟩ = some (.int .i64 0) := (blk_cell BK147.out 2).trans rfl; have hcz21_3 : w19.cell? ⟨gb147, 3, none⟩ = some (.int .i64 0) := (blk_cell BK147.out 3).trans rfl; have hfz21_0 := blk_frozen BK147.out 0; have hfz21_1 := blk_frozen BK147.out 1; have hfz21_2 := blk_frozen BK147.out 2; have hfz21_3 := blk_frozen BK147.out 3; have hcz22_0 : w19.cell? ⟨gb144, 0, none⟩ = some (.int .i64 a0_0) := (blk_cell BK144.out 0).trans rfl; have hcz22_1 : w19.cell? ⟨gb144, 1, none⟩ = some (.bool a0_1) := (blk_cell BK144.out 1).trans rfl; have hcz22_2 : w19.cell? ⟨gb144, 2, none⟩ = some (.slice (some ad146) l0_2.length c0_2) := (blk_cell BK144.out 2).trans rfl; have hfz22_0 := blk_frozen BK144.out 0; have hfz22_1 := blk_frozen BK144.out 1; have hfz22_2 := blk_frozen BK144.out 2) | ((with_reducible refine gate_callee (f := 52) rfl ?_); refine goesL_ (some 27) rfl rfl Try.func52 (by kernel_rfl) rfl #[.int .i64 a0_0, .agg #[.int .i64 ((rd_T69 l0_2 x20_1).f0), .int .i64 ((rd_T69 l0_2 x20_1).f1), .int .i64 ((rd_T69 l0_2 x20_1).f2), .int .i64 ((rd_T69 l0_2 x20_1).f3)]] rfl (by (try simp only [List.map_toArray, List.map_cons, List.map_nil]); first | done | rfl | (simp only [List.length_drop, List.length_take]; rfl)) ?_; (with_reducible refine (netfmt_arc.calls k1 a0_0 ((rd_T69 l0_2 x20_1).f0) ((rd_T69 l0_2 x20_1).f1) ((rd_T69 l0_2 x20_1).f2) ((rd_T69 l0_2 x20_1).f3) t148 _ A12.out).mono ?_); rintro e w23 ⟨rfl, hb⟩; refine ⟨_, rfl, ?_⟩; have n0_ := Aside0.mk (blk_below (g := gb144) (o := .cells #[.int .i64 a0_0, .bool a0_1, .slice (some ad146) l0_2.length c0_2] 24 (0, 0)) (by (with_reducible repeat (first | refine blk_drewN ?_ _ | refine blk_drew ?_ | refine blk_alloc ?_ _)); refine blk_far ?_ NB144_147.out _; (with_reducible repeat (first | refine blk_drewN ?_ _ | refine blk_drew ?_ | refine blk_alloc ?_ _)); refine blk_far ?_ NB144_147.out _; (with_reducible repeat (first | refine blk_drewN ?_ _ | refine blk_drew ?_ | refine blk_alloc ?_ _)); refine blk_far ?_ NB144_147.out _; (with_reducible repeat (first | refine blk_drewN ?_ _ | refine blk_drew ?_ | refine blk_alloc ?_ _)); refine blk_far ?_ NB144_147.out _; (with_reducible repeat (first | refine blk_drewN ?_ _ | refine blk_drew ?_ | refine blk_alloc ?_ _)); exact BK144.out) hb); have n1_ := Aside0.mk (blk_below (g := gb147) (o := .cells #[.int .i64 ((rd_T69 l0_2 x20_1).f0), .int .i64 ((rd_T69 l0_2 x20_1).f1), .int .i64 ((rd_T69 l0_2 x20_1).f2), .int .i64 ((rd_T69 l0_2 x20_1).f3)] 69 (0, 0)) (by (with_reducible repeat (first | refine blk_drewN ?_ _ | refine blk_drew ?_ | refine blk_alloc ?_ _)); refine blk_put (cs := #[.int .i64 ((rd_T69 l0_2 x20_1).f0), .int .i64 ((rd_T69 l0_2 x20_1).f1), .int .i64 ((rd_T69 l0_2 x20_1).f2), .int .i64 0]) ?_ 3 _ rfl; (with_reducible repeat (first | refine blk_drewN ?_ _ | refine blk_drew ?_ | refine blk_alloc ?_ _)); refine blk_put (cs := #[.int .i64 ((rd_T69 l0_2 x20_1).f0), .int .i64 ((rd_T69 l0_2 x20_1).f1), .int .i64 0, .int .i64 0]) ?_ 2 _ rfl; (with_reducible repeat (first | refine blk_drewN ?_ _ | refine blk_drew ?_ | refine blk_alloc ?_ _)); refine blk_put (cs := #[.int .i64 ((rd_T69 l0_2 x20_1).f0), .int .i64 0, .int .i64 0, .int .i64 0]) ?_ 1 _ rfl; (with_reducible repeat (first | refine blk_drewN ?_ _ | refine blk_drew ?_ | refine blk_alloc ?_ _)); refine blk_put (cs := #[.int .i64 0, .int .i64 0, .int .i64 0, .int .i64 0]) ?_ 0 _ rfl; (with_reducible repeat (first | refine blk_drewN ?_ _ | refine blk_drew ?_ | refine blk_alloc ?_ _)); exact BK147.out) hb); have n2_ := Aside0.mk (below_step (by repeat (first | (with_reducible first | exact HB.out | apply below_alloc | apply pw_below_drewN | apply below_drew1 | refine below_set ?_ GE144.out | refine below_set ?_ GE147.out) | exact HB.out)) hb); clear BK144; clear BK147; clear HB; have BK144 := n0_; have BK147 := n1_; have HB := n2_; clear n0_ n1_ n2_; (try clear hb); (try clear hb2); (try clear hk); (try clear hi)))
         go_ret
         exact ⟨by first | rfl | (simp [errW_none, errW_some] <;> rfl) | (simp [*, errW_none, errW_some] <;> rfl), by repeat (first | (with_reducible first | exact HB.out | apply below_alloc | apply pw_below_drewN | apply below_drew1 | refine below_set ?_ GE144.out | refine below_set ?_ GE147.out) | exact HB.out)⟩
       ·rw [if_neg c11] at H
        exact absurd H (by simp)
      ·rw [if_neg c10] at H
       exact absurd H (by simp)
     ·rw [if_neg c9] at H
      have c9b0 : decide (x20_1 < (l0_2.length : Int)) = false := decide_eq_false c9
      clear c9
      obtain rfl := Option.some.inj H
      go_wp2
      go_ret
      exact ⟨by first | rfl | (simp [errW_none, errW_some] <;> rfl) | (simp [*, errW_none, errW_some] <;> rfl), by repeat (first | (with_reducible first | exact HB.out | apply below_alloc | apply pw_below_drewN | apply below_drew1 | refine below_set ?_ GE144.out) | exact HB.out)⟩
 ·rw [if_neg c3] at H
  have c3b0 : (t145 == 0) = false := beq_eq_false_iff_ne.mpr c3
  have c3b1 : (t145 != 0) = true := bne_iff_ne.mpr c3
  obtain rfl := Option.some.inj H
  go_enter Try.func38, Try.ntmps38
  go_wp2_with (first | ((with_reducible refine gate_dst (N := 1) rfl ?_); refine box_event ?hg (N := 1) ?hd (cs := #[.int .i64 a0_0, .bool a0_1, .slice A0_2 l0_2.length c0_2]) (t := 24) ?hr ?_; (case hd => rfl); (case hg => rfl); (case hr => first | (go_simp; done) | (go_simp; rfl)); intro gb144 hg w24 hbox hb; have n0_ := Aside0.mk (below_step (by repeat (first | (with_reducible first | exact HB.out | apply below_alloc | apply pw_below_drewN | apply below_drew1) | exact HB.out)) hb); have n1_ := Aside0.mk (hbox); have n2_ := Aside0.mk ((by rw [hg]; exact (below_size (by repeat (first | (with_reducible first | exact HB.out | apply below_alloc | apply pw_below_drewN | apply below_drew1) | exact HB.out))) : w.heap.size ≤ gb144)); have n3_ := Aside0.mk ((by rw [hg]; exact (below_size (by repeat (first | (with_reducible first | exact HB.out | apply below_alloc | apply pw_below_drewN | apply below_drew1) | exact HB.out))) : w.heap.size ≤ gb144)); clear HB; have HB := n0_; have BK144 := n1_; have GW144 := n2_; have GE144 := n3_; clear n0_ n1_ n2_ n3_; clear hb hbox hg; have hcz25_0 : w24.cell? ⟨gb144, 0, none⟩ = some (.int .i64 a0_0) := (blk_cell BK144.out 0).trans rfl; have hcz25_1 : w24.cell? ⟨gb144, 1, none⟩ = some (.bool a0_1) := (blk_cell BK144.out 1).trans rfl; have hcz25_2 : w24.cell? ⟨gb144, 2, none⟩ = some (.slice A0_2 l0_2.length c0_2) := (blk_cell BK144.out 2).trans rfl; have hfz25_0 := blk_frozen BK144.out 0; have hfz25_1 := blk_frozen BK144.out 1; have hfz25_2 := blk_frozen BK144.out 2) | ((with_reducible refine gate_callee (f := 51) rfl ?_); refine goesL_ (some 9) rfl rfl Try.func51 (by kernel_rfl) rfl #[.int .i64 a0_0] rfl (by (try simp only [List.map_toArray, List.map_cons, List.map_nil]); first | done | rfl | (simp only [List.length_drop, List.length_take]; rfl)) ?_; (with_reducible refine (netfmt_nodes.calls a0_0 t145 _ A2.out).mono ?_); rintro e w' ⟨rfl, ⟨nd, rfl⟩⟩; refine ⟨_, rfl, ?_⟩))
  go_ret
  exact ⟨by first | rfl | (simp [errW_none, errW_some] <;> rfl) | (simp [*, errW_none, errW_some] <;> rfl), by repeat (first | (with_reducible first | exact HB.out | apply below_alloc | apply pw_below_drewN | apply below_drew1 | refine below_set ?_ GE144.out) | exact HB.out)⟩

end Go.Proofs.Ytagppmdgmppmnaa.P

-- Laid by wip/tool/mk.py, by the kit's print.py, for all laws of this seat in one namespace; a function told as by hand has a proof of this session's own.
namespace Go.Proofs.Ytagppmdgmppmnaa.P
open Go.RowKit Go.Proofs.YtagppmdgmppmnaaW.PrintWords Go.Proofs.YtagppmdgmppmnaaW.PrintLast Go.Proofs.YtagppmdgmppmnaaW.PrintMore
attribute [local go_sem] max2_int min2_int max_two min_two max_three min_three max_four min_four   -- for this text's walks alone
set_option linter.unusedVariables false
set_option linter.unusedSimpArgs false

/-! ### static_Ends: function 48 -/
def static_Ends.f (k : Nat) (a0_0 : Int) (a0_1 : Bool) (l0_2 : List (S69)) (a1 : Int) (a2 : Int) : Option (Int) := (netfmt_Check.f k a0_0 a0_1 l0_2).bind fun t150 => (if t150 = 0 then (if (mn a1 a2) < 0 then (some 70) else (if (mx a1 a2) ≥ a0_0 then (some 70) else (if a1 = a2 then (some 70) else (some 0)))) else (some t150))
theorem static_Ends.mono : ∀ a0 a1 a2 a3 a4 k, LeO (static_Ends.f k a0 a1 a2 a3 a4) (static_Ends.f (k + 1) a0 a1 a2 a3 a4) := by
 intro a0 a1 a2 a3 a4 k
 unfold static_Ends.f
 repeat' first
   | (with_reducible exact netfmt_Check.mono _ _ _ _)
   | (with_reducible exact LeO.refl _)
   | (with_reducible exact LeO.none _)
   | (with_reducible refine LeO.ite ?_ ?_)
   | (with_reducible refine LeO.bind ?_ (fun _ => ?_))
   | exact netfmt_Check.mono _ _ _ _
   | exact LeO.none _
   | refine LeO.ite ?_ ?_
   | refine LeO.bind ?_ (fun _ => ?_)
set_option maxHeartbeats 8000000 in
set_option maxRecDepth 100000 in
theorem static_Ends.calls (k : Nat) (a0_0 : Int) (a0_1 : Bool) (A0_2 : Option Addr) (c0_2 : Nat) (l0_2 : List (S69)) (a1 : Int) (a2 : Int) (r : Int) (w : World) (hr0_2 : Kd.C k69 w A0_2 l0_2.length l0_2) (hc0_2 : l0_2.length ≤ c0_2) (h : static_Ends.f k a0_0 a0_1 l0_2 a1 a2 = some r) :
  Calls Try.prog 48 #[.agg #[.int .i64 a0_0, .bool a0_1, .slice A0_2 l0_2.length c0_2], .int .i64 a1, .int .i64 a2] w fun e w' => e = .returned (.int .i64 r) ∧ Below w.heap.size w w' := by
 have hu24 := Try.underlying24
 have HR0_2 := Aside0.mk hr0_2
 have HC0_2 := Aside0.mk hc0_2
 clear hr0_2 hc0_2
 have HB := Aside0.mk (Below.refl w.heap.size w)
 have H : ((netfmt_Check.f k a0_0 a0_1 l0_2).bind fun t150 => (if t150 = 0 then (if (mn a1 a2) < 0 then (some 70) else (if (mx a1 a2) ≥ a0_0 then (some 70) else (if a1 = a2 then (some 70) else (some 0)))) else (some t150))) = some r := h
 clear h
 replace H := Option.bind_eq_some_iff.mp H
 obtain ⟨t150, A40, H⟩ := H
 replace H : (if t150 = 0 then (if (mn a1 a2) < 0 then (some 70) else (if (mx a1 a2) ≥ a0_0 then (some 70) else (if a1 = a2 then (some 70) else (some 0)))) else (some t150)) = some r := H
 have A4 := Aside0.mk A40
 clear A40
 by_cases c5 : t150 = 0
 ·rw [if_pos c5] at H
  have c5b0 : (t150 == 0) = true := beq_iff_eq.mpr c5
  have c5b1 : (t150 != 0) = false := bne_eq_false_iff_eq.mpr c5
  clear c5
  obtain ⟨ji6, hji6⟩ : ∃ j_ : Int, (mn a1 a2) = j_ := ⟨_, rfl⟩
  replace H : (if (ji6) < 0 then (some 70) else (if (mx a1 a2) ≥ a0_0 then (some 70) else (if a1 = a2 then (some 70) else (some 0)))) = some r := by first | (rw [hji6] at H; exact H) | (simp only [hji6] at H ⊢; exact H)
  (try rw [hji6] at A4)
  have hji6_ : (if a2 < a1 then a2 else a1) = ji6 := hji6
  by_cases c7 : (ji6) < 0
  ·rw [if_pos c7] at H
   have c7b0 : decide ((ji6) < 0) = true := decide_eq_true c7
   clear c7
   obtain rfl := Option.some.inj H
   go_enter Try.func48, Try.ntmps48
   go_wp2_with (first | ((with_reducible refine gate_dst (N := 3) rfl ?_); (try (refine gate_guard (by rfl) ?_; dsimp only)); refine box_event ?hg (N := 3) ?hd (cs := #[.int .i64 a0_0, .bool a0_1, .slice A0_2 l0_2.length c0_2]) (t := 24) ?hr ?_; (case hd => rfl); (case hg => rfl); (case hr => first | (go_simp; done) | (go_simp; rfl)); intro gb149 hg w8 hbox hb; have n0_ := Aside0.mk (below_step (by repeat (first | (with_reducible first | exact HB.out | apply below_alloc | apply pw_below_drewN | apply below_drew1) | exact HB.out)) hb); have n1_ := Aside0.mk (hbox); have n2_ := Aside0.mk ((by rw [hg]; exact (below_size (by repeat (first | (with_reducible first | exact HB.out | apply below_alloc | apply pw_below_drewN | apply below_drew1) | exact HB.out))) : w.heap.size ≤ gb149)); have n3_ := Aside0.mk ((by rw [hg]; exact (below_size (by repeat (first | (with_reducible first | exact HB.out | apply below_alloc | apply pw_below_drewN | apply below_drew1) | exact HB.out))) : w.heap.size ≤ gb149)); clear HB; have HB := n0_; have BK149 := n1_; have GW149 := n2_; have GE149 := n3_; clear n0_ n1_ n2_ n3_; clear hb hbox hg; have hcz9_0 : w8.cell? ⟨gb149, 0, none⟩ = some (.int .i64 a0_0) := (blk_cell BK149.out 0).trans rfl; have hcz9_1 : w8.cell? ⟨gb149, 1, none⟩ = some (.bool a0_1) := (blk_cell BK149.out 1).trans rfl; have hcz9_2 : w8.cell? ⟨gb149, 2, none⟩ = some (.slice A0_2 l0_2.length c0_2) := (blk_cell BK149.out 2).trans rfl; have hfz9_0 := blk_frozen BK149.out 0; have hfz9_1 := blk_frozen BK149.out 1; have hfz9_2 := blk_frozen BK149.out 2) | ((with_reducible refine gate_callee (f := 38) rfl ?_); refine goesL_ (some 9) rfl rfl Try.func38 (by kernel_rfl) rfl #[.agg #[.int .i64 a0_0, .bool a0_1, .slice A0_2 l0_2.length c0_2]] rfl (by (try simp only [List.map_toArray, List.map_cons, List.map_nil]); first | done | rfl | (simp only [List.length_drop, List.length_take]; rfl)) ?_; (with_reducible refine (netfmt_Check.calls k a0_0 a0_1 _ _ l0_2 t150 _ ?side1 ?side2 A4.out).mono ?_); (case side1 => repeat (first | exact (Kd.C_below HR0_2.out HB.out) | (with_reducible refine Kd.C_alloc ?_ _) | (with_reducible refine Kd.C_drewN ?_ _) | (with_reducible refine Kd.C_drew ?_))); (case side2 => exact HC0_2.out); rintro e w10 ⟨rfl, hb⟩; refine ⟨_, rfl, ?_⟩; have n0_ := Aside0.mk (blk_below (g := gb149) (o := .cells #[.int .i64 a0_0, .bool a0_1, .slice A0_2 l0_2.length c0_2] 24 (0, 0)) (by (with_reducible repeat (first | refine blk_drewN ?_ _ | refine blk_drew ?_ | refine blk_alloc ?_ _)); exact BK149.out) hb); have n1_ := Aside0.mk (below_step (by repeat (first | (with_reducible first | exact HB.out | apply below_alloc | apply pw_below_drewN | apply below_drew1 | refine below_set ?_ GE149.out) | exact HB.out)) hb); clear BK149; clear HB; have BK149 := n0_; have HB := n1_; clear n0_ n1_; (try clear hb); (try clear hb2); (try clear hk); (try clear hi)))
   go_ret
   exact ⟨by first | rfl | (simp [errW_none, errW_some] <;> rfl) | (simp only [← hji6]; first | rfl | (simp [errW_none, errW_some] <;> rfl)) | (simp [*, errW_none, errW_some] <;> rfl), by repeat (first | (with_reducible first | exact HB.out | apply below_alloc | apply pw_below_drewN | apply below_drew1 | refine below_set ?_ GE149.out) | exact HB.out)⟩
  ·rw [if_neg c7] at H
   have c7b0 : decide ((ji6) < 0) = false := decide_eq_false c7
   clear c7
   obtain ⟨ji11, hji11⟩ : ∃ j_ : Int, (mx a1 a2) = j_ := ⟨_, rfl⟩
   replace H : (if (ji11) ≥ a0_0 then (some 70) else (if a1 = a2 then (some 70) else (some 0))) = some r := by first | (rw [hji11] at H; exact H) | (simp only [hji11] at H ⊢; exact H)
   (try rw [hji11] at A4)
   have hji11_ : (if a1 < a2 then a2 else a1) = ji11 := hji11
   by_cases c12 : (ji11) ≥ a0_0
   ·rw [if_pos c12] at H
    have c12b0 : decide (a0_0 ≤ (ji11)) = true := decide_eq_true c12
    clear c12
    obtain rfl := Option.some.inj H
    go_enter Try.func48, Try.ntmps48
    go_wp2_with (first | ((with_reducible refine gate_dst (N := 3) rfl ?_); (try (refine gate_guard (by rfl) ?_; dsimp only)); refine box_event ?hg (N := 3) ?hd (cs := #[.int .i64 a0_0, .bool a0_1, .slice A0_2 l0_2.length c0_2]) (t := 24) ?hr ?_; (case hd => rfl); (case hg => rfl); (case hr => first | (go_simp; done) | (go_simp; rfl)); intro gb149 hg w13 hbox hb; have n0_ := Aside0.mk (below_step (by repeat (first | (with_reducible first | exact HB.out | apply below_alloc | apply pw_below_drewN | apply below_drew1) | exact HB.out)) hb); have n1_ := Aside0.mk (hbox); have n2_ := Aside0.mk ((by rw [hg]; exact (below_size (by repeat (first | (with_reducible first | exact HB.out | apply below_alloc | apply pw_below_drewN | apply below_drew1) | exact HB.out))) : w.heap.size ≤ gb149)); have n3_ := Aside0.mk ((by rw [hg]; exact (below_size (by repeat (first | (with_reducible first | exact HB.out | apply below_alloc | apply pw_below_drewN | apply below_drew1) | exact HB.out))) : w.heap.size ≤ gb149)); clear HB; have HB := n0_; have BK149 := n1_; have GW149 := n2_; have GE149 := n3_; clear n0_ n1_ n2_ n3_; clear hb hbox hg; have hcz14_0 : w13.cell? ⟨gb149, 0, none⟩ = some (.int .i64 a0_0) := (blk_cell BK149.out 0).trans rfl; have hcz14_1 : w13.cell? ⟨gb149, 1, none⟩ = some (.bool a0_1) := (blk_cell BK149.out 1).trans rfl; have hcz14_2 : w13.cell? ⟨gb149, 2, none⟩ = some (.slice A0_2 l0_2.length c0_2) := (blk_cell BK149.out 2).trans rfl; have hfz14_0 := blk_frozen BK149.out 0; have hfz14_1 := blk_frozen BK149.out 1; have hfz14_2 := blk_frozen BK149.out 2) | ((with_reducible refine gate_callee (f := 38) rfl ?_); refine goesL_ (some 9) rfl rfl Try.func38 (by kernel_rfl) rfl #[.agg #[.int .i64 a0_0, .bool a0_1, .slice A0_2 l0_2.length c0_2]] rfl (by (try simp only [List.map_toArray, List.map_cons, List.map_nil]); first | done | rfl | (simp only [List.length_drop, List.length_take]; rfl)) ?_; (with_reducible refine (netfmt_Check.calls k a0_0 a0_1 _ _ l0_2 t150 _ ?side1 ?side2 A4.out).mono ?_); (case side1 => repeat (first | exact (Kd.C_below HR0_2.out HB.out) | (with_reducible refine Kd.C_alloc ?_ _) | (with_reducible refine Kd.C_drewN ?_ _) | (with_reducible refine Kd.C_drew ?_))); (case side2 => exact HC0_2.out); rintro e w15 ⟨rfl, hb⟩; refine ⟨_, rfl, ?_⟩; have n0_ := Aside0.mk (blk_below (g := gb149) (o := .cells #[.int .i64 a0_0, .bool a0_1, .slice A0_2 l0_2.length c0_2] 24 (0, 0)) (by (with_reducible repeat (first | refine blk_drewN ?_ _ | refine blk_drew ?_ | refine blk_alloc ?_ _)); exact BK149.out) hb); have n1_ := Aside0.mk (below_step (by repeat (first | (with_reducible first | exact HB.out | apply below_alloc | apply pw_below_drewN | apply below_drew1 | refine below_set ?_ GE149.out) | exact HB.out)) hb); clear BK149; clear HB; have BK149 := n0_; have HB := n1_; clear n0_ n1_; (try clear hb); (try clear hb2); (try clear hk); (try clear hi); have hcz16_0 : w15.cell? ⟨gb149, 0, none⟩ = some (.int .i64 a0_0) := (blk_cell BK149.out 0).trans rfl; have hcz16_1 : w15.cell? ⟨gb149, 1, none⟩ = some (.bool a0_1) := (blk_cell BK149.out 1).trans rfl; have hcz16_2 : w15.cell? ⟨gb149, 2, none⟩ = some (.slice A0_2 l0_2.length c0_2) := (blk_cell BK149.out 2).trans rfl; have hfz16_0 := blk_frozen BK149.out 0; have hfz16_1 := blk_frozen BK149.out 1; have hfz16_2 := blk_frozen BK149.out 2))
    go_ret
    exact ⟨by first | rfl | (simp [errW_none, errW_some] <;> rfl) | (simp only [← hji6, ← hji11]; first | rfl | (simp [errW_none, errW_some] <;> rfl)) | (simp [*, errW_none, errW_some] <;> rfl), by repeat (first | (with_reducible first | exact HB.out | apply below_alloc | apply pw_below_drewN | apply below_drew1 | refine below_set ?_ GE149.out) | exact HB.out)⟩
   ·rw [if_neg c12] at H
    have c12b0 : decide (a0_0 ≤ (ji11)) = false := decide_eq_false c12
    clear c12
    by_cases c17 : a1 = a2
    ·rw [if_pos c17] at H
     have c17b0 : (a1 == a2) = true := beq_iff_eq.mpr c17
     have c17b1 : (a1 != a2) = false := bne_eq_false_iff_eq.mpr c17
     clear c17
     obtain rfl := Option.some.inj H
     go_enter Try.func48, Try.ntmps48
     go_wp2_with (first | ((with_reducible refine gate_dst (N := 3) rfl ?_); (try (refine gate_guard (by rfl) ?_; dsimp only)); refine box_event ?hg (N := 3) ?hd (cs := #[.int .i64 a0_0, .bool a0_1, .slice A0_2 l0_2.length c0_2]) (t := 24) ?hr ?_; (case hd => rfl); (case hg => rfl); (case hr => first | (go_simp; done) | (go_simp; rfl)); intro gb149 hg w18 hbox hb; have n0_ := Aside0.mk (below_step (by repeat (first | (with_reducible first | exact HB.out | apply below_alloc | apply pw_below_drewN | apply below_drew1) | exact HB.out)) hb); have n1_ := Aside0.mk (hbox); have n2_ := Aside0.mk ((by rw [hg]; exact (below_size (by repeat (first | (with_reducible first | exact HB.out | apply below_alloc | apply pw_below_drewN | apply below_drew1) | exact HB.out))) : w.heap.size ≤ gb149)); have n3_ := Aside0.mk ((by rw [hg]; exact (below_size (by repeat (first | (with_reducible first | exact HB.out | apply below_alloc | apply pw_below_drewN | apply below_drew1) | exact HB.out))) : w.heap.size ≤ gb149)); clear HB; have HB := n0_; have BK149 := n1_; have GW149 := n2_; have GE149 := n3_; clear n0_ n1_ n2_ n3_; clear hb hbox hg; have hcz19_0 : w18.cell? ⟨gb149, 0, none⟩ = some (.int .i64 a0_0) := (blk_cell BK149.out 0).trans rfl; have hcz19_1 : w18.cell? ⟨gb149, 1, none⟩ = some (.bool a0_1) := (blk_cell BK149.out 1).trans rfl; have hcz19_2 : w18.cell? ⟨gb149, 2, none⟩ = some (.slice A0_2 l0_2.length c0_2) := (blk_cell BK149.out 2).trans rfl; have hfz19_0 := blk_frozen BK149.out 0; have hfz19_1 := blk_frozen BK149.out 1; have hfz19_2 := blk_frozen BK149.out 2) | ((with_reducible refine gate_callee (f := 38) rfl ?_); refine goesL_ (some 9) rfl rfl Try.func38 (by kernel_rfl) rfl #[.agg #[.int .i64 a0_0, .bool a0_1, .slice A0_2 l0_2.length c0_2]] rfl (by (try simp only [List.map_toArray, List.map_cons, List.map_nil]); first | done | rfl | (simp only [List.length_drop, List.length_take]; rfl)) ?_; (with_reducible refine (netfmt_Check.calls k a0_0 a0_1 _ _ l0_2 t150 _ ?side1 ?side2 A4.out).mono ?_); (case side1 => repeat (first | exact (Kd.C_below HR0_2.out HB.out) | (with_reducible refine Kd.C_alloc ?_ _) | (with_reducible refine Kd.C_drewN ?_ _) | (with_reducible refine Kd.C_drew ?_))); (case side2 => exact HC0_2.out); rintro e w20 ⟨rfl, hb⟩; refine ⟨_, rfl, ?_⟩; have n0_ := Aside0.mk (blk_below (g := gb149) (o := .cells #[.int .i64 a0_0, .bool a0_1, .slice A0_2 l0_2.length c0_2] 24 (0, 0)) (by (with_reducible repeat (first | refine blk_drewN ?_ _ | refine blk_drew ?_ | refine blk_alloc ?_ _)); exact BK149.out) hb); have n1_ := Aside0.mk (below_step (by repeat (first | (with_reducible first | exact HB.out | apply below_alloc | apply pw_below_drewN | apply below_drew1 | refine below_set ?_ GE149.out) | exact HB.out)) hb); clear BK149; clear HB; have BK149 := n0_; have HB := n1_; clear n0_ n1_; (try clear hb); (try clear hb2); (try clear hk); (try clear hi); have hcz21_0 : w20.cell? ⟨gb149, 0, none⟩ = some (.int .i64 a0_0) := (blk_cell BK149.out 0).trans rfl; have hcz21_1 : w20.cell? ⟨gb149, 1, none⟩ = some (.bool a0_1) := (blk_cell BK149.out 1).trans rfl; have hcz21_2 : w20.cell? ⟨gb149, 2, none⟩ = some (.slice A0_2 l0_2.length c0_2) := (blk_cell BK149.out 2).trans rfl; have hfz21_0 := blk_frozen BK149.out 0; have hfz21_1 := blk_frozen BK149.out 1; have hfz21_2 := blk_frozen BK149.out 2))
     go_ret
     exact ⟨by first | rfl | (simp [errW_none, errW_some] <;> rfl) | (simp only [← hji6, ← hji11]; first | rfl | (simp [errW_none, errW_some] <;> rfl)) | (simp [*, errW_none, errW_some] <;> rfl), by repeat (first | (with_reducible first | exact HB.out | apply below_alloc | apply pw_below_drewN | apply below_drew1 | refine below_set ?_ GE149.out) | exact HB.out)⟩
    ·rw [if_neg c17] at H
     have c17b0 : (a1 == a2) = false := beq_eq_false_iff_ne.mpr c17
     have c17b1 : (a1 != a2) = true := bne_iff_ne.mpr c17
     obtain rfl := Option.some.inj H
     go_enter Try.func48, Try.ntmps48
     go_wp2_with (first | ((with_reducible refine gate_dst (N := 3) rfl ?_); (try (refine gate_guard (by rfl) ?_; dsimp only)); refine box_event ?hg (N := 3) ?hd (cs := #[.int .i64 a0_0, .bool a0_1, .slice A0_2 l0_2.length c0_2]) (t := 24) ?hr ?_; (case hd => rfl); (case hg => rfl); (case hr => first | (go_simp; done) | (go_simp; rfl)); intro gb149 hg w22 hbox hb; have n0_ := Aside0.mk (below_step (by repeat (first | (with_reducible first | exact HB.out | apply below_alloc | apply pw_below_drewN | apply below_drew1) | exact HB.out)) hb); have n1_ := Aside0.mk (hbox); have n2_ := Aside0.mk ((by rw [hg]; exact (below_size (by repeat (first | (with_reducible first | exact HB.out | apply below_alloc | apply pw_below_drewN | apply below_drew1) | exact HB.out))) : w.heap.size ≤ gb149)); have n3_ := Aside0.mk ((by rw [hg]; exact (below_size (by repeat (first | (with_reducible first | exact HB.out | apply below_alloc | apply pw_below_drewN | apply below_drew1) | exact HB.out))) : w.heap.size ≤ gb149)); clear HB; have HB := n0_; have BK149 := n1_; have GW149 := n2_; have GE149 := n3_; clear n0_ n1_ n2_ n3_; clear hb hbox hg; have hcz23_0 : w22.cell? ⟨gb149, 0, none⟩ = some (.int .i64 a0_0) := (blk_cell BK149.out 0).trans rfl; have hcz23_1 : w22.cell? ⟨gb149, 1, none⟩ = some (.bool a0_1) := (blk_cell BK149.out 1).trans rfl; have hcz23_2 : w22.cell? ⟨gb149, 2, none⟩ = some (.slice A0_2 l0_2.length c0_2) := (blk_cell BK149.out 2).trans rfl; have hfz23_0 := blk_frozen BK149.out 0; have hfz23_1 := blk_frozen BK149.out 1; have hfz23_2 := blk_frozen BK149.out 2) | ((with_reducible refine gate_callee (f := 38) rfl ?_); refine goesL_ (some 9) rfl rfl Try.func38 (by kernel_rfl) rfl #[.agg #[.int .i64 a0_0, .bool a0_1, .slice A0_2 l0_2.length c0_2]] rfl (by (try simp only [List.map_toArray, List.map_cons, List.map_nil]); first | done | rfl | (simp only [List.length_drop, List.length_take]; rfl)) ?_; (with_reducible refine (netfmt_Check.calls k a0_0 a0_1 _ _ l0_2 t150 _ ?side1 ?side2 A4.out).mono ?_); (case side1 => repeat (first | exact (Kd.C_below HR0_2.out HB.out) | (with_reducible refine Kd.C_alloc ?_ _) | (with_reducible refine Kd.C_drewN ?_ _) | (with_reducible refine Kd.C_drew ?_))); (case side2 => exact HC0_2.out); rintro e w24 ⟨rfl, hb⟩; refine ⟨_, rfl, ?_⟩; have n0_ := Aside0.mk (blk_below (g := gb149) (o := .cells #[.int .i64 a0_0, .bool a0_1, .slice A0_2 l0_2.length c0_2] 24 (0, 0)) (by (with_reducible repeat (first | refine blk_drewN ?_ _ | refine blk_drew ?_ | refine blk_alloc ?_ _)); exact BK149.out) hb); have n1_ := Aside0.mk (below_step (by repeat (first | (with_reducible first | exact HB.out | apply below_alloc | apply pw_below_drewN | apply below_drew1 | refine below_set ?_ GE149.out) | exact HB.out)) hb); clear BK149; clear HB; have BK149 := n0_; have HB := n1_; clear n0_ n1_; (try clear hb); (try clear hb2); (try clear hk); (try clear hi); have hcz25_0 : w24.cell? ⟨gb149, 0, none⟩ = some (.int .i64 a0_0) := (blk_cell BK149.out 0).trans rfl; have hcz25_1 : w24.cell? ⟨gb149, 1, none⟩ = some (.bool a0_1) := (blk_cell BK149.out 1).trans rfl; have hcz25_2 : w24.cell? ⟨gb149, 2, none⟩ = some (.slice A0_2 l0_2.length c0_2) := (blk_cell BK149.out 2).trans rfl; have hfz25_0 := blk_frozen BK149.out 0; have hfz25_1 := blk_frozen BK149.out 1; have hfz25_2 := blk_frozen BK149.out 2))
     go_ret
     exact ⟨by first | rfl | (simp [errW_none, errW_some] <;> rfl) | (simp only [← hji6, ← hji11]; first | rfl | (simp [errW_none, errW_some] <;> rfl)) | (simp [*, errW_none, errW_some] <;> rfl), by repeat (first | (with_reducible first | exact HB.out | apply below_alloc | apply pw_below_drewN | apply below_drew1 | refine below_set ?_ GE149.out) | exact HB.out)⟩
 ·rw [if_neg c5] at H
  have c5b0 : (t150 == 0) = false := beq_eq_false_iff_ne.mpr c5
  have c5b1 : (t150 != 0) = true := bne_iff_ne.mpr c5
  obtain rfl := Option.some.inj H
  go_enter Try.func48, Try.ntmps48
  go_wp2_with (first | ((with_reducible refine gate_dst (N := 3) rfl ?_); (try (refine gate_guard (by rfl) ?_; dsimp only)); refine box_event ?hg (N := 3) ?hd (cs := #[.int .i64 a0_0, .bool a0_1, .slice A0_2 l0_2.length c0_2]) (t := 24) ?hr ?_; (case hd => rfl); (case hg => rfl); (case hr => first | (go_simp; done) | (go_simp; rfl)); intro gb149 hg w26 hbox hb; have n0_ := Aside0.mk (below_step (by repeat (first | (with_reducible first | exact HB.out | apply below_alloc | apply pw_below_drewN | apply below_drew1) | exact HB.out)) hb); have n1_ := Aside0.mk (hbox); have n2_ := Aside0.mk ((by rw [hg]; exact (below_size (by repeat (first | (with_reducible first | exact HB.out | apply below_alloc | apply pw_below_drewN | apply below_drew1) | exact HB.out))) : w.heap.size ≤ gb149)); have n3_ := Aside0.mk ((by rw [hg]; exact (below_size (by repeat (first | (with_reducible first | exact HB.out | apply below_alloc | apply pw_below_drewN | apply below_drew1) | exact HB.out))) : w.heap.size ≤ gb149)); clear HB; have HB := n0_; have BK149 := n1_; have GW149 := n2_; have GE149 := n3_; clear n0_ n1_ n2_ n3_; clear hb hbox hg; have hcz27_0 : w26.cell? ⟨gb149, 0, none⟩ = some (.int .i64 a0_0) := (blk_cell BK149.out 0).trans rfl; have hcz27_1 : w26.cell? ⟨gb149, 1, none⟩ = some (.bool a0_1) := (blk_cell BK149.out 1).trans rfl; have hcz27_2 : w26.cell? ⟨gb149, 2, none⟩ = some (.slice A0_2 l0_2.length c0_2) := (blk_cell BK149.out 2).trans rfl; have hfz27_0 := blk_frozen BK149.out 0; have hfz27_1 := blk_frozen BK149.out 1; have hfz27_2 := blk_frozen BK149.out 2) | ((with_reducible refine gate_callee (f := 38) rfl ?_); refine goesL_ (some 9) rfl rfl Try.func38 (by kernel_rfl) rfl #[.agg #[.int .i64 a0_0, .bool a0_1, .slice A0_2 l0_2.length c0_2]] rfl (by (try simp only [List.map_toArray, List.map_cons, List.map_nil]); first | done | rfl | (simp only [List.length_drop, List.length_take]; rfl)) ?_; (with_reducible refine (netfmt_Check.calls k a0_0 a0_1 _ _ l0_2 t150 _ ?side1 ?side2 A4.out).mono ?_); (case side1 => repeat (first | exact (Kd.C_below HR0_2.out HB.out) | (with_reducible refine Kd.C_alloc ?_ _) | (with_reducible refine Kd.C_drewN ?_ _) | (with_reducible refine Kd.C_drew ?_))); (case side2 => exact HC0_2.out); rintro e w28 ⟨rfl, hb⟩; refine ⟨_, rfl, ?_⟩; have n0_ := Aside0.mk (blk_below (g := gb149) (o := .cells #[.int .i64 a0_0, .bool a0_1, .slice A0_2 l0_2.length c0_2] 24 (0, 0)) (by (with_reducible repeat (first | refine blk_drewN ?_ _ | refine blk_drew ?_ | refine blk_alloc ?_ _)); exact BK149.out) hb); have n1_ := Aside0.mk (below_step (by repeat (first | (with_reducible first | exact HB.out | apply below_alloc | apply pw_below_drewN | apply below_drew1 | refine below_set ?_ GE149.out) | exact HB.out)) hb); clear BK149; clear HB; have BK149 := n0_; have HB := n1_; clear n0_ n1_; (try clear hb); (try clear hb2); (try clear hk); (try clear hi)))
  go_ret
  exact ⟨by first | rfl | (simp [errW_none, errW_some] <;> rfl) | (simp [*, errW_none, errW_some] <;> rfl), by repeat (first | (with_reducible first | exact HB.out | apply below_alloc | apply pw_below_drewN | apply below_drew1 | refine below_set ?_ GE149.out) | exact HB.out)⟩

end Go.Proofs.Ytagppmdgmppmnaa.P

-- Laid by wip/tool/mk.py, by the kit's print.py, for all laws of this seat in one namespace; a function told as by hand has a proof of this session's own.
namespace Go.Proofs.Ytagppmdgmppmnaa.P
open Go.RowKit Go.Proofs.YtagppmdgmppmnaaW.PrintWords Go.Proofs.YtagppmdgmppmnaaW.PrintLast Go.Proofs.YtagppmdgmppmnaaW.PrintMore
attribute [local go_sem] max2_int min2_int max_two min_two max_three min_three max_four min_four   -- for this text's walks alone
set_option linter.unusedVariables false
set_option linter.unusedSimpArgs false

/-! ### span_Asked: function 26 -/
def span_Asked.f (k : Nat) (a0_0 : Int) (a0_1 : Bool) (l0_2 : List (S69)) (a1 : Int) (a2 : Int) (a3 : Int) : Option (Int) := (static_Ends.f k a0_0 a0_1 l0_2 a1 a2).bind fun t152 => (if t152 = 0 then ((span_Horizon.f a3).bind fun t153 => (some t153)) else (some t152))
theorem span_Asked.mono : ∀ a0 a1 a2 a3 a4 a5 k, LeO (span_Asked.f k a0 a1 a2 a3 a4 a5) (span_Asked.f (k + 1) a0 a1 a2 a3 a4 a5) := by
 intro a0 a1 a2 a3 a4 a5 k
 unfold span_Asked.f
 repeat' first
   | (with_reducible exact static_Ends.mono _ _ _ _ _ _)
   | (with_reducible exact LeO.refl _)
   | (with_reducible exact LeO.none _)
   | (with_reducible refine LeO.ite ?_ ?_)
   | (with_reducible refine LeO.bind ?_ (fun _ => ?_))
   | exact static_Ends.mono _ _ _ _ _ _
   | exact LeO.none _
   | refine LeO.ite ?_ ?_
   | refine LeO.bind ?_ (fun _ => ?_)
set_option maxHeartbeats 8000000 in
set_option maxRecDepth 100000 in
theorem span_Asked.calls (k : Nat) (a0_0 : Int) (a0_1 : Bool) (A0_2 : Option Addr) (c0_2 : Nat) (l0_2 : List (S69)) (a1 : Int) (a2 : Int) (a3 : Int) (r : Int) (w : World) (hr0_2 : Kd.C k69 w A0_2 l0_2.length l0_2) (hc0_2 : l0_2.length ≤ c0_2) (h : span_Asked.f k a0_0 a0_1 l0_2 a1 a2 a3 = some r) :
  Calls Try.prog 26 #[.agg #[.int .i64 a0_0, .bool a0_1, .slice A0_2 l0_2.length c0_2], .int .i64 a1, .int .i64 a2, .int .i64 a3] w fun e w' => e = .returned (.int .i64 r) ∧ Below w.heap.size w w' := by
 have hu24 := Try.underlying24
 have HR0_2 := Aside0.mk hr0_2
 have HC0_2 := Aside0.mk hc0_2
 clear hr0_2 hc0_2
 have HB := Aside0.mk (Below.refl w.heap.size w)
 have H : ((static_Ends.f k a0_0 a0_1 l0_2 a1 a2).bind fun t152 => (if t152 = 0 then ((span_Horizon.f a3).bind fun t153 => (some t153)) else (some t152))) = some r := h
 clear h
 replace H := Option.bind_eq_some_iff.mp H
 obtain ⟨t152, A50, H⟩ := H
 replace H : (if t152 = 0 then ((span_Horizon.f a3).bind fun t153 => (some t153)) else (some t152)) = some r := H
 have A5 := Aside0.mk A50
 clear A50
 by_cases c6 : t152 = 0
 ·rw [if_pos c6] at H
  have c6b0 : (t152 == 0) = true := beq_iff_eq.mpr c6
  have c6b1 : (t152 != 0) = false := bne_eq_false_iff_eq.mpr c6
  clear c6
  replace H := Option.bind_eq_some_iff.mp H
  obtain ⟨t153, A70, H⟩ := H
  replace H : (some t153) = some r := H
  have A7 := Aside0.mk A70
  clear A70
  obtain rfl := Option.some.inj H
  go_enter Try.func26, Try.ntmps26
  go_wp2_with (first | ((with_reducible refine gate_dst (N := 4) rfl ?_); refine box_event ?hg (N := 4) ?hd (cs := #[.int .i64 a0_0, .bool a0_1, .slice A0_2 l0_2.length c0_2]) (t := 24) ?hr ?_; (case hd => rfl); (case hg => rfl); (case hr => first | (go_simp; done) | (go_simp; rfl)); intro gb151 hg w8 hbox hb; have n0_ := Aside0.mk (below_step (by repeat (first | (with_reducible first | exact HB.out | apply below_alloc | apply pw_below_drewN | apply below_drew1) | exact HB.out)) hb); have n1_ := Aside0.mk (hbox); have n2_ := Aside0.mk ((by rw [hg]; exact (below_size (by repeat (first | (with_reducible first | exact HB.out | apply below_alloc | apply pw_below_drewN | apply below_drew1) | exact HB.out))) : w.heap.size ≤ gb151)); have n3_ := Aside0.mk ((by rw [hg]; exact (below_size (by repeat (first | (with_reducible first | exact HB.out | apply below_alloc | apply pw_below_drewN | apply below_drew1) | exact HB.out))) : w.heap.size ≤ gb151)); clear HB; have HB := n0_; have BK151 := n1_; have GW151 := n2_; have GE151 := n3_; clear n0_ n1_ n2_ n3_; clear hb hbox hg; have hcz9_0 : w8.cell? ⟨gb151, 0, none⟩ = some (.int .i64 a0_0) := (blk_cell BK151.out 0).trans rfl; have hcz9_1 : w8.cell? ⟨gb151, 1, none⟩ = some (.bool a0_1) := (blk_cell BK151.out 1).trans rfl; have hcz9_2 : w8.cell? ⟨gb151, 2, none⟩ = some (.slice A0_2 l0_2.length c0_2) := (blk_cell BK151.out 2).trans rfl; have hfz9_0 := blk_frozen BK151.out 0; have hfz9_1 := blk_frozen BK151.out 1; have hfz9_2 := blk_frozen BK151.out 2) | ((with_reducible refine gate_callee (f := 48) rfl ?_); refine goesL_ (some 13) rfl rfl Try.func48 (by kernel_rfl) rfl #[.agg #[.int .i64 a0_0, .bool a0_1, .slice A0_2 l0_2.length c0_2], .int .i64 a1, .int .i64 a2] rfl (by (try simp only [List.map_toArray, List.map_cons, List.map_nil]); first | done | rfl | (simp only [List.length_drop, List.length_take]; rfl)) ?_; (with_reducible refine (static_Ends.calls k a0_0 a0_1 _ _ l0_2 a1 a2 t152 _ ?side1 ?side2 A5.out).mono ?_); (case side1 => repeat (first | exact (Kd.C_below HR0_2.out HB.out) | (with_reducible refine Kd.C_alloc ?_ _) | (with_reducible refine Kd.C_drewN ?_ _) | (with_reducible refine Kd.C_drew ?_))); (case side2 => exact HC0_2.out); rintro e w10 ⟨rfl, hb⟩; refine ⟨_, rfl, ?_⟩; have n0_ := Aside0.mk (blk_below (g := gb151) (o := .cells #[.int .i64 a0_0, .bool a0_1, .slice A0_2 l0_2.length c0_2] 24 (0, 0)) (by (with_reducible repeat (first | refine blk_drewN ?_ _ | refine blk_drew ?_ | refine blk_alloc ?_ _)); exact BK151.out) hb); have n1_ := Aside0.mk (below_step (by repeat (first | (with_reducible first | exact HB.out | apply below_alloc | apply pw_below_drewN | apply below_drew1 | refine below_set ?_ GE151.out) | exact HB.out)) hb); clear BK151; clear HB; have BK151 := n0_; have HB := n1_; clear n0_ n1_; (try clear hb); (try clear hb2); (try clear hk); (try clear hi)) | ((with_reducible refine gate_callee (f := 39) rfl ?_); refine goesL_ (some 18) rfl rfl Try.func39 (by kernel_rfl) rfl #[.int .i64 a3] rfl (by (try simp only [List.map_toArray, List.map_cons, List.map_nil]); first | done | rfl | (simp only [List.length_drop, List.length_take]; rfl)) ?_; (with_reducible refine (span_Horizon.calls a3 t153 _ A7.out).mono ?_); rintro e w' ⟨rfl, ⟨nd, rfl⟩⟩; refine ⟨_, rfl, ?_⟩))
  go_ret
  exact ⟨by first | rfl | (simp [errW_none, errW_some] <;> rfl) | (simp [*, errW_none, errW_some] <;> rfl), by repeat (first | (with_reducible first | exact HB.out | apply below_alloc | apply pw_below_drewN | apply below_drew1 | refine below_set ?_ GE151.out) | exact HB.out)⟩
 ·rw [if_neg c6] at H
  have c6b0 : (t152 == 0) = false := beq_eq_false_iff_ne.mpr c6
  have c6b1 : (t152 != 0) = true := bne_iff_ne.mpr c6
  obtain rfl := Option.some.inj H
  go_enter Try.func26, Try.ntmps26
  go_wp2_with (first | ((with_reducible refine gate_dst (N := 4) rfl ?_); refine box_event ?hg (N := 4) ?hd (cs := #[.int .i64 a0_0, .bool a0_1, .slice A0_2 l0_2.length c0_2]) (t := 24) ?hr ?_; (case hd => rfl); (case hg => rfl); (case hr => first | (go_simp; done) | (go_simp; rfl)); intro gb151 hg w11 hbox hb; have n0_ := Aside0.mk (below_step (by repeat (first | (with_reducible first | exact HB.out | apply below_alloc | apply pw_below_drewN | apply below_drew1) | exact HB.out)) hb); have n1_ := Aside0.mk (hbox); have n2_ := Aside0.mk ((by rw [hg]; exact (below_size (by repeat (first | (with_reducible first | exact HB.out | apply below_alloc | apply pw_below_drewN | apply below_drew1) | exact HB.out))) : w.heap.size ≤ gb151)); have n3_ := Aside0.mk ((by rw [hg]; exact (below_size (by repeat (first | (with_reducible first | exact HB.out | apply below_alloc | apply pw_below_drewN | apply below_drew1) | exact HB.out))) : w.heap.size ≤ gb151)); clear HB; have HB := n0_; have BK151 := n1_; have GW151 := n2_; have GE151 := n3_; clear n0_ n1_ n2_ n3_; clear hb hbox hg; have hcz12_0 : w11.cell? ⟨gb151, 0, none⟩ = some (.int .i64 a0_0) := (blk_cell BK151.out 0).trans rfl; have hcz12_1 : w11.cell? ⟨gb151, 1, none⟩ = some (.bool a0_1) := (blk_cell BK151.out 1).trans rfl; have hcz12_2 : w11.cell? ⟨gb151, 2, none⟩ = some (.slice A0_2 l0_2.length c0_2) := (blk_cell BK151.out 2).trans rfl; have hfz12_0 := blk_frozen BK151.out 0; have hfz12_1 := blk_frozen BK151.out 1; have hfz12_2 := blk_frozen BK151.out 2) | ((with_reducible refine gate_callee (f := 48) rfl ?_); refine goesL_ (some 13) rfl rfl Try.func48 (by kernel_rfl) rfl #[.agg #[.int .i64 a0_0, .bool a0_1, .slice A0_2 l0_2.length c0_2], .int .i64 a1, .int .i64 a2] rfl (by (try simp only [List.map_toArray, List.map_cons, List.map_nil]); first | done | rfl | (simp only [List.length_drop, List.length_take]; rfl)) ?_; (with_reducible refine (static_Ends.calls k a0_0 a0_1 _ _ l0_2 a1 a2 t152 _ ?side1 ?side2 A5.out).mono ?_); (case side1 => repeat (first | exact (Kd.C_below HR0_2.out HB.out) | (with_reducible refine Kd.C_alloc ?_ _) | (with_reducible refine Kd.C_drewN ?_ _) | (with_reducible refine Kd.C_drew ?_))); (case side2 => exact HC0_2.out); rintro e w13 ⟨rfl, hb⟩; refine ⟨_, rfl, ?_⟩; have n0_ := Aside0.mk (blk_below (g := gb151) (o := .cells #[.int .i64 a0_0, .bool a0_1, .slice A0_2 l0_2.length c0_2] 24 (0, 0)) (by (with_reducible repeat (first | refine blk_drewN ?_ _ | refine blk_drew ?_ | refine blk_alloc ?_ _)); exact BK151.out) hb); have n1_ := Aside0.mk (below_step (by repeat (first | (with_reducible first | exact HB.out | apply below_alloc | apply pw_below_drewN | apply below_drew1 | refine below_set ?_ GE151.out) | exact HB.out)) hb); clear BK151; clear HB; have BK151 := n0_; have HB := n1_; clear n0_ n1_; (try clear hb); (try clear hb2); (try clear hk); (try clear hi)))
  go_ret
  exact ⟨by first | rfl | (simp [errW_none, errW_some] <;> rfl) | (simp [*, errW_none, errW_some] <;> rfl), by repeat (first | (with_reducible first | exact HB.out | apply below_alloc | apply pw_below_drewN | apply below_drew1 | refine below_set ?_ GE151.out) | exact HB.out)⟩

end Go.Proofs.Ytagppmdgmppmnaa.P

/- Plain lemmas on answers with rounds (Ev), on counters and on lists. -/
set_option linter.unusedVariables false
namespace Go.Proofs.Ytagppmdgmppmnaa.Q
open Go.RowKit Go.Proofs.YtagppmdgmppmnaaW.PrintWords Go.Proofs.YtagppmdgmppmnaaW.PrintLast Go.Proofs.YtagppmdgmppmnaaW.PrintMore

theorem Ev.pos {α : Type} {c : Prop} [Decidable c] {f g : Nat → Option α} {r : α} (h : c) (e : Ev f r) : Ev (fun k => if c then f k else g k) r :=
  Ev.congr (fun _ => if_pos h) e
theorem Ev.neg {α : Type} {c : Prop} [Decidable c] {f g : Nat → Option α} {r : α} (h : ¬ c) (e : Ev g r) : Ev (fun k => if c then f k else g k) r :=
  Ev.congr (fun _ => if_neg h) e
theorem Ev.ite {α : Type} {c : Prop} [Decidable c] {f g : Nat → Option α} {r : α} (e : c → Ev f r) (e' : ¬ c → Ev g r) : Ev (fun k => if c then f k else g k) r := by
  by_cases h : c
  · exact Ev.pos h (e h)
  · exact Ev.neg h (e' h)
theorem Ev.succ {α : Type} {g : Nat → Option α} {r : α} (e : Ev (fun k => g (k + 1)) r) : Ev g r := Ev.step (fun _ => rfl) e
theorem Ev.let_ {α β : Type} {a : α} {f : Nat → α → Option β} {r : β} (e : Ev (fun k => f k a) r) : Ev (fun k => (some a).bind (f k)) r := e
theorem Ev.call {α β : Type} {g : Option α} {a : α} {f : Nat → α → Option β} {r : β} (h : g = some a) (e : Ev (fun k => f k a) r) : Ev (fun k => g.bind (f k)) r := by
  subst h; exact e
theorem Ev.done {α : Type} {a r : α} (h : a = r) : Ev (fun _ => some a) r := h ▸ Ev.now a
theorem Ev.just {α : Type} {g : Option α} {r : α} (h : g = some r) : Ev (fun _ => g) r := ⟨0, fun _ _ => h⟩
theorem Ev.eq {α : Type} {g : Nat → Option α} {a r : α} (h : Ev g a) (e : a = r) : Ev g r := e ▸ h
theorem Ev.uniq {α : Type} {g : Nat → Option α} {a r : α} (h : Ev g a) (h' : Ev g r) : a = r := by
  obtain ⟨K, h⟩ := h
  obtain ⟨K', h'⟩ := h'
  have h1 := h (max K K') (Nat.le_max_left _ _)
  rw [h' (max K K') (Nat.le_max_right _ _)] at h1
  injection h1 with h1
  exact h1.symm

theorem wrap_id {x : Int} (h0 : -9223372036854775808 ≤ x) (h1 : x ≤ 9223372036854775807) : wrap64 x = x := by
  unfold wrap64
  omega
theorem wrap_succ {i n : Nat} (h : i < n) (hn : n ≤ 9223372036854775807) : wrap64 ((i : Int) + 1) = ((i + 1 : Nat) : Int) := by
  unfold wrap64
  omega
theorem drop_getD {α : Type} (l : List α) (i : Nat) (d : α) (h : i < l.length) : l.drop i = l.getD i d :: l.drop (i + 1) := by
  rw [List.drop_eq_getElem_cons h, List.getD_eq_getElem?_getD, List.getElem?_eq_getElem h]
  rfl
theorem rd_nat (xs : List Int) (i : Nat) : rd xs (i : Int) = xs.getD i 0 := by
  unfold rd
  rw [Int.toNat_natCast]
theorem getD_mem {α : Type} {l : List α} {i : Nat} {d : α} (h : i < l.length) : l.getD i d ∈ l := by
  rw [List.getD_eq_getElem?_getD, List.getElem?_eq_getElem h]
  exact List.getElem_mem h
theorem getD_set {α : Type} (l : List α) (i j : Nat) (a d : α) (h : i < l.length) : (l.set i a).getD j d = if i = j then a else l.getD j d := by
  rw [List.getD_eq_getElem?_getD, List.getD_eq_getElem?_getD, List.getElem?_set]
  by_cases e : i = j
  · subst e; simp [h]
  · simp [e]
theorem rd_set (l : List Int) (i j a : Int) (h0 : 0 ≤ i) (h1 : i < l.length) (h2 : 0 ≤ j) : rd (l.set i.toNat a) j = if i = j then a else rd l j := by
  unfold rd
  rw [getD_set _ _ _ _ _ (by omega)]
  by_cases e : i = j
  · rw [if_pos e, if_pos (by omega)]
  · rw [if_neg e, if_neg (by omega)]
theorem ext_rd {a b : List Int} (hl : a.length = b.length) (h : ∀ i : Nat, i < a.length → rd a i = rd b i) : a = b := by
  apply List.ext_getElem hl
  intro i h1 h2
  have := h i h1
  rw [rd_nat, rd_nat, List.getD_eq_getElem?_getD, List.getD_eq_getElem?_getD, List.getElem?_eq_getElem h1, List.getElem?_eq_getElem h2] at this
  exact this
end Go.Proofs.Ytagppmdgmppmnaa.Q

/- Networks, ends and flows: what is wrong with them, as plain functions; the program's answer and the document's are these. -/
set_option linter.unusedVariables false
namespace Go.Proofs.Ytagppmdgmppmnaa.Q
open Go.RowKit Go.Proofs.YtagppmdgmppmnaaW.PrintWords Go.Proofs.YtagppmdgmppmnaaW.PrintLast Go.Proofs.YtagppmdgmppmnaaW.PrintMore Go.Proofs.Ytagppmdgmppmnaa.P

def arcErr (n : Int) (a : S69) : Int :=
  if a.f0 < 0 ∨ a.f1 < 0 ∨ a.f2 < 0 ∨ a.f3 < 0 ∨ n ≤ a.f0 ∨ n ≤ a.f1 then 51 else if 1048576 < a.f2 ∨ 1048576 < a.f3 then 2 else 0
def arcsErr (n : Int) : List S69 → Int
  | [] => 0
  | a :: l => if arcErr n a = 0 then arcsErr n l else arcErr n a
def netErr (n : Int) (l : List S69) : Int := if n < 1 then 51 else if n > 50 then 2 else if (l.length : Int) > 200 then 2 else arcsErr n l
structure ArcOk (n : Int) (a : S69) : Prop where
  f0 : 0 ≤ a.f0
  f1 : 0 ≤ a.f1
  f2 : 0 ≤ a.f2
  f3 : 0 ≤ a.f3
  h0 : a.f0 < n
  h1 : a.f1 < n
  h2 : a.f2 ≤ 1048576
  h3 : a.f3 ≤ 1048576
structure NetOk (n : Int) (l : List S69) : Prop where
  lo : 1 ≤ n
  hi : n ≤ 50
  len : l.length ≤ 200
  arcs : ∀ a ∈ l, ArcOk n a
theorem arcErr_ok {n : Int} {a : S69} (h : arcErr n a = 0) : ArcOk n a := by
  unfold arcErr at h
  split at h
  · omega
  · split at h
    · omega
    · constructor <;> omega
theorem arcsErr_ok {n : Int} : ∀ {l : List S69}, arcsErr n l = 0 → ∀ a ∈ l, ArcOk n a
  | [], _, a, ha => by cases ha
  | b :: l, h, a, ha => by
    unfold arcsErr at h
    split at h
    · rename_i hb
      rcases List.mem_cons.1 ha with rfl | ha
      · exact arcErr_ok hb
      · exact arcsErr_ok h a ha
    · exact absurd h (by assumption)
theorem netErr_ok {n : Int} {l : List S69} (h : netErr n l = 0) : NetOk n l := by
  unfold netErr at h
  split at h
  · omega
  · split at h
    · omega
    · split at h
      · omega
      · exact ⟨by omega, by omega, by omega, arcsErr_ok h⟩
theorem arcOk_err {n : Int} {a : S69} (h : ArcOk n a) : arcErr n a = 0 := by
  have := h.f0; have := h.f1; have := h.f2; have := h.f3; have := h.h0; have := h.h1; have := h.h2; have := h.h3
  unfold arcErr
  rw [if_neg (by omega), if_neg (by omega)]
theorem arcsOk_err {n : Int} : ∀ {l : List S69}, (∀ a ∈ l, ArcOk n a) → arcsErr n l = 0
  | [], _ => rfl
  | b :: l, h => by
    unfold arcsErr
    rw [if_pos (arcOk_err (h b (List.mem_cons_self ..)))]
    exact arcsOk_err fun a ha => h a (List.mem_cons_of_mem _ ha)
theorem netOk_err {n : Int} {l : List S69} (h : NetOk n l) : netErr n l = 0 := by
  have := h.lo; have := h.hi; have := h.len
  unfold netErr
  rw [if_neg (by omega), if_neg (by omega), if_neg (by omega), arcsOk_err h.arcs]
theorem NetOk.at_ {n : Int} {l : List S69} (h : NetOk n l) {i : Int} (h0 : 0 ≤ i) (h1 : i < l.length) : ArcOk n (rd_T69 l i) := h.arcs _ (getD_mem (by omega))

theorem nodes_eq (n : Int) : netfmt_nodes.f n = some (if n < 1 then 51 else if n > 50 then 2 else 0) := by
  unfold netfmt_nodes.f
  split
  · rfl
  · split <;> rfl
theorem arc_ev (n : Int) (a : S69) : Ev (fun k => netfmt_arc.f k n a.f0 a.f1 a.f2 a.f3) (arcErr n a) := by
  unfold netfmt_arc.f arcErr
  refine Ev.ite (fun h => ?_) (fun h => ?_)
  · refine Ev.succ ?_; simp only [netfmt_arc.j0]
    repeat (first | exact Ev.now _ | with_reducible refine Ev.pos (by first | assumption | omega) ?_ | with_reducible refine Ev.neg (by first | assumption | omega) ?_ | with_reducible refine Ev.let_ ?_)
    exact Ev.done (by unfold mn at h; rw [if_pos (by omega)])
  · refine Ev.succ ?_; simp only [netfmt_arc.j0]
    unfold mn at h
    unfold mx
    refine Ev.ite (fun g => ?_) (fun g => ?_)
    · have g := of_decide_eq_true g
      exact Ev.done (by rw [if_pos (by omega)])
    · have g := of_decide_eq_false (Bool.eq_false_iff.2 g)
      refine Ev.ite (fun g1 => ?_) (fun g1 => ?_)
      · exact Ev.done (by rw [if_neg (by omega), if_pos (by omega)])
      · refine Ev.ite (fun g2 => ?_) (fun g2 => ?_)
        · exact Ev.done (by rw [if_neg (by omega), if_pos (by omega)])
        · exact Ev.done (by rw [if_neg (by omega), if_neg (by omega)])
theorem check_l0 (l : List S69) (n : Int) (b : Bool) (hl : l.length ≤ 9223372036854775807) (d : Nat) : ∀ i : Nat, i + d = l.length →
    Ev (fun k => netfmt_Check.l0 k l (l.length : Int) (i : Int) n b l) (arcsErr n (l.drop i)) := by
  induction d with
  | zero =>
    intro i hi
    refine Ev.succ ?_; simp only [netfmt_Check.l0]
    repeat (first | exact Ev.now _ | with_reducible refine Ev.pos (by first | assumption | omega) ?_ | with_reducible refine Ev.neg (by first | assumption | omega) ?_ | with_reducible refine Ev.let_ ?_)
    rw [List.drop_of_length_le (by omega)]
    exact Ev.now _
  | succ d ih =>
    intro i hi
    refine Ev.succ ?_; simp only [netfmt_Check.l0]
    repeat (first | exact Ev.now _ | with_reducible refine Ev.pos (by first | assumption | omega) ?_ | with_reducible refine Ev.neg (by first | assumption | omega) ?_ | with_reducible refine Ev.let_ ?_)
    refine Ev.bind (arc_ev n (rd_T69 l i)) ?_
    rw [drop_getD l i z69 (by omega)]
    have hr : rd_T69 l (i : Int) = l.getD i z69 := by unfold rd_T69; rw [Int.toNat_natCast]
    rw [hr]
    unfold arcsErr
    refine Ev.ite (fun h => ?_) (fun h => ?_)
    · rw [if_pos h, wrap_succ (n := l.length) (by omega) hl]
      exact ih (i + 1) (by omega)
    · rw [if_neg h]
      exact Ev.now _
theorem check_ev (n : Int) (b : Bool) (l : List S69) : Ev (fun k => netfmt_Check.f k n b l) (netErr n l) := by
  unfold netfmt_Check.f netErr
  refine Ev.call (nodes_eq n) ?_
  by_cases h : n < 1
  · rw [if_pos h, if_pos h]
    repeat (first | exact Ev.now _ | with_reducible refine Ev.pos (by first | assumption | omega) ?_ | with_reducible refine Ev.neg (by first | assumption | omega) ?_ | with_reducible refine Ev.let_ ?_)
  · rw [if_neg h, if_neg h]
    by_cases h2 : n > 50
    · rw [if_pos h2, if_pos h2]
      repeat (first | exact Ev.now _ | with_reducible refine Ev.pos (by first | assumption | omega) ?_ | with_reducible refine Ev.neg (by first | assumption | omega) ?_ | with_reducible refine Ev.let_ ?_)
    · rw [if_neg h2, if_neg h2]
      repeat (first | exact Ev.now _ | with_reducible refine Ev.pos (by first | assumption | omega) ?_ | with_reducible refine Ev.neg (by first | assumption | omega) ?_ | with_reducible refine Ev.let_ ?_)
      refine Ev.ite (fun g => ?_) (fun g => ?_)
      · rw [if_pos g]
        exact Ev.now _
      · rw [if_neg g]
        exact check_l0 l n b (by omega) l.length 0 (by omega)

theorem ref_nodes_eq (n : Int) : ebbtideref05_nodes.f n = some (if n < 1 then 51 else if n > 50 then 2 else 0) := by
  unfold ebbtideref05_nodes.f
  split
  · rfl
  · split <;> rfl
theorem ref_arc_j0 (x : Bool) (n : Int) (a : S69) (hx : x = true ↔ a.f0 < 0 ∨ a.f1 < 0 ∨ a.f2 < 0 ∨ a.f3 < 0 ∨ n ≤ a.f0 ∨ n ≤ a.f1) : Ev (fun k => ebbtideref05_Arc.j0 k x a.f0 a.f1 a.f2 a.f3) (arcErr n a) := by
  unfold arcErr
  refine Ev.succ ?_; simp only [ebbtideref05_Arc.j0]
  refine Ev.ite (fun g => ?_) (fun g => ?_)
  · exact Ev.done (by rw [if_pos (hx.1 g)])
  · have g' := fun h => g (hx.2 h)
    refine Ev.ite (fun g1 => ?_) (fun g1 => ?_)
    · exact Ev.done (by rw [if_neg g', if_pos (by omega)])
    · refine Ev.ite (fun g2 => ?_) (fun g2 => ?_)
      · exact Ev.done (by rw [if_neg g', if_pos (by omega)])
      · exact Ev.done (by rw [if_neg g', if_neg (by omega)])
theorem ref_arc_ev (n : Int) (a : S69) : Ev (fun k => ebbtideref05_Arc.f k n a.f0 a.f1 a.f2 a.f3) (arcErr n a) := by
  unfold ebbtideref05_Arc.f
  refine Ev.ite (fun h => ?_) (fun h => ?_)
  · exact ref_arc_j0 _ _ _ ⟨fun _ => by omega, fun _ => rfl⟩
  refine Ev.ite (fun h => ?_) (fun h => ?_)
  · exact ref_arc_j0 _ _ _ ⟨fun _ => by omega, fun _ => rfl⟩
  refine Ev.ite (fun h => ?_) (fun h => ?_)
  · exact ref_arc_j0 _ _ _ ⟨fun _ => by omega, fun _ => rfl⟩
  refine Ev.ite (fun h => ?_) (fun h => ?_)
  · exact ref_arc_j0 _ _ _ ⟨fun _ => by omega, fun _ => rfl⟩
  refine Ev.ite (fun h => ?_) (fun h => ?_)
  · exact ref_arc_j0 _ _ _ ⟨fun _ => by omega, fun _ => rfl⟩
  · exact ref_arc_j0 _ _ _ ⟨fun g => by have := of_decide_eq_true g; omega, fun g => decide_eq_true (by omega)⟩
theorem ref_check_l0 (l : List S69) (n : Int) (b : Bool) (hl : l.length ≤ 9223372036854775807) (d : Nat) : ∀ i : Nat, i + d = l.length →
    Ev (fun k => ebbtideref05_Check.l0 k (i : Int) n b l) (arcsErr n (l.drop i)) := by
  induction d with
  | zero =>
    intro i hi
    refine Ev.succ ?_; simp only [ebbtideref05_Check.l0]
    repeat (first | exact Ev.now _ | with_reducible refine Ev.pos (by first | assumption | omega) ?_ | with_reducible refine Ev.neg (by first | assumption | omega) ?_ | with_reducible refine Ev.let_ ?_)
    rw [List.drop_of_length_le (by omega)]
    exact Ev.now _
  | succ d ih =>
    intro i hi
    refine Ev.succ ?_; simp only [ebbtideref05_Check.l0]
    repeat (first | exact Ev.now _ | with_reducible refine Ev.pos (by first | assumption | omega) ?_ | with_reducible refine Ev.neg (by first | assumption | omega) ?_ | with_reducible refine Ev.let_ ?_)
    refine Ev.bind (ref_arc_ev n (rd_T69 l i)) ?_
    rw [drop_getD l i z69 (by omega)]
    have hr : rd_T69 l (i : Int) = l.getD i z69 := by unfold rd_T69; rw [Int.toNat_natCast]
    rw [hr]
    unfold arcsErr
    refine Ev.ite (fun h => ?_) (fun h => ?_)
    · rw [if_pos h, wrap_succ (n := l.length) (by omega) hl]
      exact ih (i + 1) (by omega)
    · rw [if_neg h]
      exact Ev.now _
theorem ref_check_ev (n : Int) (b : Bool) (l : List S69) : Ev (fun k => ebbtideref05_Check.f k n b l) (netErr n l) := by
  unfold ebbtideref05_Check.f netErr
  refine Ev.call (ref_nodes_eq n) ?_
  by_cases h : n < 1
  · rw [if_pos h, if_pos h]
    repeat (first | exact Ev.now _ | with_reducible refine Ev.pos (by first | assumption | omega) ?_ | with_reducible refine Ev.neg (by first | assumption | omega) ?_ | with_reducible refine Ev.let_ ?_)
  · rw [if_neg h, if_neg h]
    by_cases h2 : n > 50
    · rw [if_pos h2, if_pos h2]
      repeat (first | exact Ev.now _ | with_reducible refine Ev.pos (by first | assumption | omega) ?_ | with_reducible refine Ev.neg (by first | assumption | omega) ?_ | with_reducible refine Ev.let_ ?_)
    · rw [if_neg h2, if_neg h2]
      repeat (first | exact Ev.now _ | with_reducible refine Ev.pos (by first | assumption | omega) ?_ | with_reducible refine Ev.neg (by first | assumption | omega) ?_ | with_reducible refine Ev.let_ ?_)
      refine Ev.ite (fun g => ?_) (fun g => ?_)
      · rw [if_pos g]
        exact Ev.now _
      · rw [if_neg g]
        exact ref_check_l0 l n b (by omega) l.length 0 (by omega)
end Go.Proofs.Ytagppmdgmppmnaa.Q

-- Laid by wip/tool/mk.py, by the kit's print.py, for all laws of this seat in one namespace; a function told as by hand has a proof of this session's own.
namespace Go.Proofs.Ytagppmdgmppmnaa.P
open Go.RowKit Go.Proofs.YtagppmdgmppmnaaW.PrintWords Go.Proofs.YtagppmdgmppmnaaW.PrintLast Go.Proofs.YtagppmdgmppmnaaW.PrintMore
attribute [local go_sem] max2_int min2_int max_two min_two max_three min_three max_four min_four   -- for this text's walks alone
set_option linter.unusedVariables false
set_option linter.unusedSimpArgs false

/-! ### ebbtideref07_Leaves: function 46 -/
def ebbtideref07_Leaves.l0 : Nat → List Int → Int → Int → Int → Int → Bool → List (S69) → Option (Int)
 | 0, _, _, _, _, _, _, _ => none
 | k + 1, x1, x2, x7, x8, x589000, x589001, x589002 => if x8 < (x1.length : Int) then (if 0 ≤ x8 then (if x8 < (x589002.length : Int) then (if ((rd_T69 x589002 x8).f0) = x2 then (if ((rd_T69 x589002 x8).f1) = x2 then (ebbtideref07_Leaves.l0 k x1 x2 (wrap64 ((wrap64 (x7 + (rd x1 x8))) - (rd x1 x8))) (wrap64 (x8 + 1)) x589000 x589001 x589002) else (ebbtideref07_Leaves.l0 k x1 x2 (wrap64 (x7 + (rd x1 x8))) (wrap64 (x8 + 1)) x589000 x589001 x589002)) else (if ((rd_T69 x589002 x8).f1) = x2 then (ebbtideref07_Leaves.l0 k x1 x2 (wrap64 (x7 - (rd x1 x8))) (wrap64 (x8 + 1)) x589000 x589001 x589002) else (ebbtideref07_Leaves.l0 k x1 x2 x7 (wrap64 (x8 + 1)) x589000 x589001 x589002))) else (none)) else (none)) else (some x7)
def ebbtideref07_Leaves.f (k : Nat) (a0_0 : Int) (a0_1 : Bool) (l0_2 : List (S69)) (l1 : List Int) (a2 : Int) : Option (Int) := ebbtideref07_Leaves.l0 k l1 a2 0 0 a0_0 a0_1 l0_2
theorem ebbtideref07_Leaves.mono_l : ∀ k, (∀ y0 y1 y2 y3 y4 y5 y6, LeO (ebbtideref07_Leaves.l0 k y0 y1 y2 y3 y4 y5 y6) (ebbtideref07_Leaves.l0 (k + 1) y0 y1 y2 y3 y4 y5 y6))
 | 0 => fun _ _ _ _ _ _ _ r h => by simp [ebbtideref07_Leaves.l0] at h
 | k + 1 => by
  have ih0 := ebbtideref07_Leaves.mono_l k
  ·intro y0 y1 y2 y3 y4 y5 y6
   unfold ebbtideref07_Leaves.l0
   repeat' first
   | (with_reducible exact ih0 _ _ _ _ _ _ _)
   | (with_reducible exact LeO.refl _)
   | (with_reducible exact LeO.none _)
   | (with_reducible refine LeO.ite ?_ ?_)
   | (with_reducible refine LeO.bind ?_ (fun _ => ?_))
   | exact ih0 _ _ _ _ _ _ _
   | exact LeO.none _
   | refine LeO.ite ?_ ?_
   | refine LeO.bind ?_ (fun _ => ?_)
theorem ebbtideref07_Leaves.mono : ∀ a0 a1 a2 a3 a4 k, LeO (ebbtideref07_Leaves.f k a0 a1 a2 a3 a4) (ebbtideref07_Leaves.f (k + 1) a0 a1 a2 a3 a4) := by
 intro a0 a1 a2 a3 a4 k
 have ih0 := ebbtideref07_Leaves.mono_l k
 unfold ebbtideref07_Leaves.f
 repeat' first
   | (with_reducible exact ih0 _ _ _ _ _ _ _)
   | (with_reducible exact LeO.refl _)
   | (with_reducible exact LeO.none _)
   | (with_reducible refine LeO.ite ?_ ?_)
   | (with_reducible refine LeO.bind ?_ (fun _ => ?_))
   | exact ih0 _ _ _ _ _ _ _
   | exact LeO.none _
   | refine LeO.ite ?_ ?_
   | refine LeO.bind ?_ (fun _ => ?_)
set_option maxHeartbeats 8000000 in
set_option maxRecDepth 100000 in
theorem ebbtideref07_Leaves.calls (k : Nat) (a0_0 : Int) (a0_1 : Bool) (A0_2 : Option Addr) (c0_2 : Nat) (l0_2 : List (S69)) (A1 : Option Addr) (c1 : Nat) (l1 : List Int) (a2 : Int) (r : Int) (w : World) (hr0_2 : Kd.C k69 w A0_2 l0_2.length l0_2) (hc0_2 : l0_2.length ≤ c0_2) (hr1 : Kd.C (Kd.int .i64) w A1 l1.length l1) (hc1 : l1.length ≤ c1) (h : ebbtideref07_Leaves.f k a0_0 a0_1 l0_2 l1 a2 = some r) :
  Calls Try.prog 46 #[.agg #[.int .i64 a0_0, .bool a0_1, .slice A0_2 l0_2.length c0_2], .slice A1 l1.length c1, .int .i64 a2] w fun e w' => e = .returned (.int .i64 r) ∧ Below w.heap.size w w' := by
 have hu24 := Try.underlying24
 have HR0_2 := Aside0.mk hr0_2
 have HC0_2 := Aside0.mk hc0_2
 clear hr0_2 hc0_2
 have HR1 := Aside0.mk hr1
 have HC1 := Aside0.mk hc1
 clear hr1 hc1
 have HB := Aside0.mk (Below.refl w.heap.size w)
 have H : (ebbtideref07_Leaves.l0 k l1 a2 0 0 a0_0 a0_1 l0_2) = some r := h
 clear h
 have H' := Aside0.mk H
 clear H
 go_enter Try.func46, Try.ntmps46
 go_wp2_with (first | ((with_reducible refine gate_dst (N := 3) rfl ?_); refine box_event ?hg (N := 3) ?hd (cs := #[.int .i64 a0_0, .bool a0_1, .slice A0_2 l0_2.length c0_2]) (t := 24) ?hr ?_; (case hd => rfl); (case hg => rfl); (case hr => first | (go_simp; done) | (go_simp; rfl)); intro gb588 hg w4 hbox hb; have n0_ := Aside0.mk (below_step (by repeat (first | (with_reducible first | exact HB.out | apply below_alloc | apply pw_below_drewN | apply below_drew1) | exact HB.out)) hb); have n1_ := Aside0.mk (hbox); have n2_ := Aside0.mk ((by rw [hg]; exact (below_size (by repeat (first | (with_reducible first | exact HB.out | apply below_alloc | apply pw_below_drewN | apply below_drew1) | exact HB.out))) : w.heap.size ≤ gb588)); have n3_ := Aside0.mk ((by rw [hg]; exact (below_size (by repeat (first | (with_reducible first | exact HB.out | apply below_alloc | apply pw_below_drewN | apply below_drew1) | exact HB.out))) : w.heap.size ≤ gb588)); clear HB; have HB := n0_; have BK588 := n1_; have GW588 := n2_; have GE588 := n3_; clear n0_ n1_ n2_ n3_; clear hb hbox hg))
 go_loopg [7, 8] k (fun kq v7 v8 w' => ∃ (x7_1 : Int) (x8_1 : Int), v7 = .int .i64 x7_1 ∧ v8 = .int .i64 x8_1 ∧ Aside0 (ebbtideref07_Leaves.l0 kq l1 a2 x7_1 x8_1 a0_0 a0_1 l0_2 = some r) ∧ Aside0 (kq ≤ k) ∧ Aside0 (w'.heap[gb588]? = some (.cells #[.int .i64 a0_0, .bool a0_1, (.slice A0_2 l0_2.length c0_2)] 24 (0, 0))) ∧ Aside0 (Below w.heap.size w w'))
 case atStart => exact ⟨(0), (0), (by first | rfl | (simp; done) | (simp [*]; done)), (by first | rfl | (simp; done) | (simp [*]; done)), H', ⟨Nat.le_refl _⟩, ⟨by (with_reducible repeat (first | refine blk_drewN ?_ _ | refine blk_drew ?_ | refine blk_alloc ?_ _)); exact BK588.out⟩, ⟨by repeat (first | (with_reducible first | exact HB.out | apply below_alloc | apply pw_below_drewN | apply below_drew1 | refine below_set ?_ GE588.out) | exact HB.out)⟩⟩
 case round =>
  clear H'
  try clear c1
  try clear p2
  try clear c4
  obtain ⟨x7_1, x8_1, rfl, rfl, HA, HK1, BK588, HB⟩ := hrel
  cases gk with
  | zero => exact absurd HA.out (by simp [ebbtideref07_Leaves.l0])
  | succ k1 =>
   have H := HA.out
   clear HA
   simp only [ebbtideref07_Leaves.l0] at H
   by_cases c5 : x8_1 < (l1.length : Int)
   ·rw [if_pos c5] at H
    have c5b0 : decide (x8_1 < (l1.length : Int)) = true := decide_eq_true c5
    clear c5
    by_cases c6 : 0 ≤ x8_1
    ·rw [if_pos c6] at H
     have c6b0 : decide (0 ≤ x8_1) = true := decide_eq_true c6
     clear c6
     by_cases c7 : x8_1 < (l0_2.length : Int)
     ·rw [if_pos c7] at H
      have c7b0 : decide (x8_1 < (l0_2.length : Int)) = true := decide_eq_true c7
      clear c7
      by_cases c8 : ((rd_T69 l0_2 x8_1).f0) = a2
      ·rw [if_pos c8] at H
       have c8b0 : (((rd_T69 l0_2 x8_1).f0) == a2) = true := beq_iff_eq.mpr c8
       have c8b1 : (((rd_T69 l0_2 x8_1).f0) != a2) = false := bne_eq_false_iff_eq.mpr c8
       clear c8
       by_cases c9 : ((rd_T69 l0_2 x8_1).f1) = a2
       ·rw [if_pos c9] at H
        have c9b0 : (((rd_T69 l0_2 x8_1).f1) == a2) = true := beq_iff_eq.mpr c9
        have c9b1 : (((rd_T69 l0_2 x8_1).f1) != a2) = false := bne_eq_false_iff_eq.mpr c9
        clear c9
        have H' := Aside0.mk H
        clear H
        have hcz10_0 : wr.cell? ⟨gb588, 0, none⟩ = some (.int .i64 a0_0) := (blk_cell BK588.out 0).trans rfl
        have hcz10_1 : wr.cell? ⟨gb588, 1, none⟩ = some (.bool a0_1) := (blk_cell BK588.out 1).trans rfl
        have hcz10_2 : wr.cell? ⟨gb588, 2, none⟩ = some (.slice A0_2 l0_2.length c0_2) := (blk_cell BK588.out 2).trans rfl
        have hfz10_0 := blk_frozen BK588.out 0
        have hfz10_1 := blk_frozen BK588.out 1
        have hfz10_2 := blk_frozen BK588.out 2
        have p589 : 0 ≤ (x8_1 : Int) := of_decide_eq_true (by first | (with_reducible assumption) | assumption)
        have q589 : x8_1 < (l0_2.length : Int) := of_decide_eq_true (by first | (with_reducible assumption) | assumption)
        obtain ⟨ad589, e589, hx589_0, hx589_1, hx589_2, hx589_3⟩ := at_T69 HR0_2.out x8_1 p589 q589
        cases e589
        replace hx589_0 := (HB.out.cell (World.block_lt_of_cell? w _ hx589_0)).trans hx589_0
        replace hx589_1 := (HB.out.cell (World.block_lt_of_cell? w _ hx589_1)).trans hx589_1
        replace hx589_2 := (HB.out.cell (World.block_lt_of_cell? w _ hx589_2)).trans hx589_2
        replace hx589_3 := (HB.out.cell (World.block_lt_of_cell? w _ hx589_3)).trans hx589_3
        replace p589 := eq_true p589
        replace q589 := eq_true q589
        have p590 : 0 ≤ (x8_1 : Int) := of_decide_eq_true (by first | (with_reducible assumption) | assumption)
        have q590 : x8_1 < (l1.length : Int) := of_decide_eq_true (by first | (with_reducible assumption) | assumption)
        obtain ⟨ad590, e590, hx590_0⟩ := Kd.at_int HR1.out x8_1 p590 q590
        cases e590
        replace hx590_0 := (HB.out.cell (World.block_lt_of_cell? w _ hx590_0)).trans hx590_0
        replace p590 := eq_true p590
        replace q590 := eq_true q590
        have p591 : 0 ≤ (x8_1 : Int) := of_decide_eq_true (by first | (with_reducible assumption) | assumption)
        have q591 : x8_1 < (l0_2.length : Int) := of_decide_eq_true (by first | (with_reducible assumption) | assumption)
        obtain ⟨ad591, e591, hx591_0, hx591_1, hx591_2, hx591_3⟩ := at_T69 HR0_2.out x8_1 p591 q591
        obtain rfl : ad589 = ad591 := (by injection e591)
        replace hx591_0 := (HB.out.cell (World.block_lt_of_cell? w _ hx591_0)).trans hx591_0
        replace hx591_1 := (HB.out.cell (World.block_lt_of_cell? w _ hx591_1)).trans hx591_1
        replace hx591_2 := (HB.out.cell (World.block_lt_of_cell? w _ hx591_2)).trans hx591_2
        replace hx591_3 := (HB.out.cell (World.block_lt_of_cell? w _ hx591_3)).trans hx591_3
        replace p591 := eq_true p591
        replace q591 := eq_true q591
        have p592 : 0 ≤ (x8_1 : Int) := of_decide_eq_true (by first | (with_reducible assumption) | assumption)
        have q592 : x8_1 < (l1.length : Int) := of_decide_eq_true (by first | (with_reducible assumption) | assumption)
        obtain ⟨ad592, e592, hx592_0⟩ := Kd.at_int HR1.out x8_1 p592 q592
        obtain rfl : ad590 = ad592 := (by injection e592)
        replace hx592_0 := (HB.out.cell (World.block_lt_of_cell? w _ hx592_0)).trans hx592_0
        replace p592 := eq_true p592
        replace q592 := eq_true q592
        go_wp2
        go_roundg k1
        case measure => have := HK1.out; omega
        case rel => exact ⟨(wrap64 ((wrap64 (x7_1 + (rd l1 x8_1))) - (rd l1 x8_1))), (wrap64 (x8_1 + 1)), (by first | rfl | (simp; done) | (simp [*]; done)), (by first | rfl | (simp; done) | (simp [*]; done)), H', ⟨by have := HK1.out; omega⟩, ⟨by (with_reducible repeat (first | refine blk_drewN ?_ _ | refine blk_drew ?_ | refine blk_alloc ?_ _)); exact BK588.out⟩, ⟨by repeat (first | (with_reducible first | exact HB.out | apply below_alloc | apply pw_below_drewN | apply below_drew1 | refine below_set ?_ GE588.out) | exact HB.out)⟩⟩
       ·rw [if_neg c9] at H
        have c9b0 : (((rd_T69 l0_2 x8_1).f1) == a2) = false := beq_eq_false_iff_ne.mpr c9
        have c9b1 : (((rd_T69 l0_2 x8_1).f1) != a2) = true := bne_iff_ne.mpr c9
        have H' := Aside0.mk H
        clear H
        have hcz11_0 : wr.cell? ⟨gb588, 0, none⟩ = some (.int .i64 a0_0) := (blk_cell BK588.out 0).trans rfl
        have hcz11_1 : wr.cell? ⟨gb588, 1, none⟩ = some (.bool a0_1) := (blk_cell BK588.out 1).trans rfl
        have hcz11_2 : wr.cell? ⟨gb588, 2, none⟩ = some (.slice A0_2 l0_2.length c0_2) := (blk_cell BK588.out 2).trans rfl
        have hfz11_0 := blk_frozen BK588.out 0
        have hfz11_1 := blk_frozen BK588.out 1
        have hfz11_2 := blk_frozen BK588.out 2
        have p589 : 0 ≤ (x8_1 : Int) := of_decide_eq_true (by first | (with_reducible assumption) | assumption)
        have q589 : x8_1 < (l0_2.length : Int) := of_decide_eq_true (by first | (with_reducible assumption) | assumption)
        obtain ⟨ad589, e589, hx589_0, hx589_1, hx589_2, hx589_3⟩ := at_T69 HR0_2.out x8_1 p589 q589
        cases e589
        replace hx589_0 := (HB.out.cell (World.block_lt_of_cell? w _ hx589_0)).trans hx589_0
        replace hx589_1 := (HB.out.cell (World.block_lt_of_cell? w _ hx589_1)).trans hx589_1
        replace hx589_2 := (HB.out.cell (World.block_lt_of_cell? w _ hx589_2)).trans hx589_2
        replace hx589_3 := (HB.out.cell (World.block_lt_of_cell? w _ hx589_3)).trans hx589_3
        replace p589 := eq_true p589
        replace q589 := eq_true q589
        have p590 : 0 ≤ (x8_1 : Int) := of_decide_eq_true (by first | (with_reducible assumption) | assumption)
        have q590 : x8_1 < (l1.length : Int) := of_decide_eq_true (by first | (with_reducible assumption) | assumption)
        obtain ⟨ad590, e590, hx590_0⟩ := Kd.at_int HR1.out x8_1 p590 q590
        cases e590
        replace hx590_0 := (HB.out.cell (World.block_lt_of_cell? w _ hx590_0)).trans hx590_0
        replace p590 := eq_true p590
        replace q590 := eq_true q590
        have p591 : 0 ≤ (x8_1 : Int) := of_decide_eq_true (by first | (with_reducible assumption) | assumption)
        have q591 : x8_1 < (l0_2.length : Int) := of_decide_eq_true (by first | (with_reducible assumption) | assumption)
        obtain ⟨ad591, e591, hx591_0, hx591_1, hx591_2, hx591_3⟩ := at_T69 HR0_2.out x8_1 p591 q591
        obtain rfl : ad589 = ad591 := (by injection e591)
        replace hx591_0 := (HB.out.cell (World.block_lt_of_cell? w _ hx591_0)).trans hx591_0
        replace hx591_1 := (HB.out.cell (World.block_lt_of_cell? w _ hx591_1)).trans hx591_1
        replace hx591_2 := (HB.out.cell (World.block_lt_of_cell? w _ hx591_2)).trans hx591_2
        replace hx591_3 := (HB.out.cell (World.block_lt_of_cell? w _ hx591_3)).trans hx591_3
        replace p591 := eq_true p591
        replace q591 := eq_true q591
        go_wp2
        go_roundg k1
        case measure => have := HK1.out; omega
        case rel => exact ⟨(wrap64 (x7_1 + (rd l1 x8_1))), (wrap64 (x8_1 + 1)), (by first | rfl | (simp; done) | (simp [*]; done)), (by first | rfl | (simp; done) | (simp [*]; done)), H', ⟨by have := HK1.out; omega⟩, ⟨by (with_reducible repeat (first | refine blk_drewN ?_ _ | refine blk_drew ?_ | refine blk_alloc ?_ _)); exact BK588.out⟩, ⟨by repeat (first | (with_reducible first | exact HB.out | apply below_alloc | apply pw_below_drewN | apply below_drew1 | refine below_set ?_ GE588.out) | exact HB.out)⟩⟩
      ·rw [if_neg c8] at H
       have c8b0 : (((rd_T69 l0_2 x8_1).f0) == a2) = false := beq_eq_false_iff_ne.mpr c8
       have c8b1 : (((rd_T69 l0_2 x8_1).f0) != a2) = true := bne_iff_ne.mpr c8
       by_cases c12 : ((rd_T69 l0_2 x8_1).f1) = a2
       ·rw [if_pos c12] at H
        have c12b0 : (((rd_T69 l0_2 x8_1).f1) == a2) = true := beq_iff_eq.mpr c12
        have c12b1 : (((rd_T69 l0_2 x8_1).f1) != a2) = false := bne_eq_false_iff_eq.mpr c12
        clear c12
        have H' := Aside0.mk H
        clear H
        have hcz13_0 : wr.cell? ⟨gb588, 0, none⟩ = some (.int .i64 a0_0) := (blk_cell BK588.out 0).trans rfl
        have hcz13_1 : wr.cell? ⟨gb588, 1, none⟩ = some (.bool a0_1) := (blk_cell BK588.out 1).trans rfl
        have hcz13_2 : wr.cell? ⟨gb588, 2, none⟩ = some (.slice A0_2 l0_2.length c0_2) := (blk_cell BK588.out 2).trans rfl
        have hfz13_0 := blk_frozen BK588.out 0
        have hfz13_1 := blk_frozen BK588.out 1
        have hfz13_2 := blk_frozen BK588.out 2
        have p589 : 0 ≤ (x8_1 : Int) := of_decide_eq_true (by first | (with_reducible assumption) | assumption)
        have q589 : x8_1 < (l0_2.length : Int) := of_decide_eq_true (by first | (with_reducible assumption) | assumption)
        obtain ⟨ad589, e589, hx589_0, hx589_1, hx589_2, hx589_3⟩ := at_T69 HR0_2.out x8_1 p589 q589
        cases e589
        replace hx589_0 := (HB.out.cell (World.block_lt_of_cell? w _ hx589_0)).trans hx589_0
        replace hx589_1 := (HB.out.cell (World.block_lt_of_cell? w _ hx589_1)).trans hx589_1
        replace hx589_2 := (HB.out.cell (World.block_lt_of_cell? w _ hx589_2)).trans hx589_2
        replace hx589_3 := (HB.out.cell (World.block_lt_of_cell? w _ hx589_3)).trans hx589_3
        replace p589 := eq_true p589
        replace q589 := eq_true q589
        have p593 : 0 ≤ (x8_1 : Int) := of_decide_eq_true (by first | (with_reducible assumption) | assumption)
        have q593 : x8_1 < (l0_2.length : Int) := of_decide_eq_true (by first | (with_reducible assumption) | assumption)
        obtain ⟨ad593, e593, hx593_0, hx593_1, hx593_2, hx593_3⟩ := at_T69 HR0_2.out x8_1 p593 q593
        obtain rfl : ad589 = ad593 := (by injection e593)
        replace hx593_0 := (HB.out.cell (World.block_lt_of_cell? w _ hx593_0)).trans hx593_0
        replace hx593_1 := (HB.out.cell (World.block_lt_of_cell? w _ hx593_1)).trans hx593_1
        replace hx593_2 := (HB.out.cell (World.block_lt_of_cell? w _ hx593_2)).trans hx593_2
        replace hx593_3 := (HB.out.cell (World.block_lt_of_cell? w _ hx593_3)).trans hx593_3
        replace p593 := eq_true p593
        replace q593 := eq_true q593
        have p594 : 0 ≤ (x8_1 : Int) := of_decide_eq_true (by first | (with_reducible assumption) | assumption)
        have q594 : x8_1 < (l1.length : Int) := of_decide_eq_true (by first | (with_reducible assumption) | assumption)
        obtain ⟨ad594, e594, hx594_0⟩ := Kd.at_int HR1.out x8_1 p594 q594
        cases e594
        replace hx594_0 := (HB.out.cell (World.block_lt_of_cell? w _ hx594_0)).trans hx594_0
        replace p594 := eq_true p594
        replace q594 := eq_true q594
        go_wp2
        go_roundg k1
        case measure => have := HK1.out; omega
        case rel => exact ⟨(wrap64 (x7_1 - (rd l1 x8_1))), (wrap64 (x8_1 + 1)), (by first | rfl | (simp; done) | (simp [*]; done)), (by first | rfl | (simp; done) | (simp [*]; done)), H', ⟨by have := HK1.out; omega⟩, ⟨by (with_reducible repeat (first | refine blk_drewN ?_ _ | refine blk_drew ?_ | refine blk_alloc ?_ _)); exact BK588.out⟩, ⟨by repeat (first | (with_reducible first | exact HB.out | apply below_alloc | apply pw_below_drewN | apply below_drew1 | refine below_set ?_ GE588.out) | exact HB.out)⟩⟩
       ·rw [if_neg c12] at H
        have c12b0 : (((rd_T69 l0_2 x8_1).f1) == a2) = false := beq_eq_false_iff_ne.mpr c12
        have c12b1 : (((rd_T69 l0_2 x8_1).f1) != a2) = true := bne_iff_ne.mpr c12
        have H' := Aside0.mk H
        clear H
        have hcz14_0 : wr.cell? ⟨gb588, 0, none⟩ = some (.int .i64 a0_0) := (blk_cell BK588.out 0).trans rfl
        have hcz14_1 : wr.cell? ⟨gb588, 1, none⟩ = some (.bool a0_1) := (blk_cell BK588.out 1).trans rfl
        have hcz14_2 : wr.cell? ⟨gb588, 2, none⟩ = some (.slice A0_2 l0_2.length c0_2) := (blk_cell BK588.out 2).trans rfl
        have hfz14_0 := blk_frozen BK588.out 0
        have hfz14_1 := blk_frozen BK588.out 1
        have hfz14_2 := blk_frozen BK588.out 2
        have p589 : 0 ≤ (x8_1 : Int) := of_decide_eq_true (by first | (with_reducible assumption) | assumption)
        have q589 : x8_1 < (l0_2.length : Int) := of_decide_eq_true (by first | (with_reducible assumption) | assumption)
        obtain ⟨ad589, e589, hx589_0, hx589_1, hx589_2, hx589_3⟩ := at_T69 HR0_2.out x8_1 p589 q589
        cases e589
        replace hx589_0 := (HB.out.cell (World.block_lt_of_cell? w _ hx589_0)).trans hx589_0
        replace hx589_1 := (HB.out.cell (World.block_lt_of_cell? w _ hx589_1)).trans hx589_1
        replace hx589_2 := (HB.out.cell (World.block_lt_of_cell? w _ hx589_2)).trans hx589_2
        replace hx589_3 := (HB.out.cell (World.block_lt_of_cell? w _ hx589_3)).trans hx589_3
        replace p589 := eq_true p589
        replace q589 := eq_true q589
        have p593 : 0 ≤ (x8_1 : Int) := of_decide_eq_true (by first | (with_reducible assumption) | assumption)
        have q593 : x8_1 < (l0_2.length : Int) := of_decide_eq_true (by first | (with_reducible assumption) | assumption)
        obtain ⟨ad593, e593, hx593_0, hx593_1, hx593_2, hx593_3⟩ := at_T69 HR0_2.out x8_1 p593 q593
        obtain rfl : ad589 = ad593 := (by injection e593)
        replace hx593_0 := (HB.out.cell (World.block_lt_of_cell? w _ hx593_0)).trans hx593_0
        replace hx593_1 := (HB.out.cell (World.block_lt_of_cell? w _ hx593_1)).trans hx593_1
        replace hx593_2 := (HB.out.cell (World.block_lt_of_cell? w _ hx593_2)).trans hx593_2
        replace hx593_3 := (HB.out.cell (World.block_lt_of_cell? w _ hx593_3)).trans hx593_3
        replace p593 := eq_true p593
        replace q593 := eq_true q593
        go_wp2
        go_roundg k1
        case measure => have := HK1.out; omega
        case rel => exact ⟨(x7_1), (wrap64 (x8_1 + 1)), (by first | rfl | (simp; done) | (simp [*]; done)), (by first | rfl | (simp; done) | (simp [*]; done)), H', ⟨by have := HK1.out; omega⟩, ⟨by (with_reducible repeat (first | refine blk_drewN ?_ _ | refine blk_drew ?_ | refine blk_alloc ?_ _)); exact BK588.out⟩, ⟨by repeat (first | (with_reducible first | exact HB.out | apply below_alloc | apply pw_below_drewN | apply below_drew1 | refine below_set ?_ GE588.out) | exact HB.out)⟩⟩
     ·rw [if_neg c7] at H
      exact absurd H (by simp)
    ·rw [if_neg c6] at H
     exact absurd H (by simp)
   ·rw [if_neg c5] at H
    have c5b0 : decide (x8_1 < (l1.length : Int)) = false := decide_eq_false c5
    clear c5
    obtain rfl := Option.some.inj H
    go_wp2
    go_ret
    exact ⟨by first | rfl | (simp [errW_none, errW_some] <;> rfl) | (simp [*, errW_none, errW_some] <;> rfl), by repeat (first | (with_reducible first | exact HB.out | apply below_alloc | apply pw_below_drewN | apply below_drew1 | refine below_set ?_ GE588.out) | exact HB.out)⟩

end Go.Proofs.Ytagppmdgmppmnaa.P

/- Flows: what is wrong with one, its balances, its value, as plain functions; the program's answer and the document's are these. -/
set_option linter.unusedVariables false
namespace Go.Proofs.Ytagppmdgmppmnaa.Q
open Go.RowKit Go.Proofs.YtagppmdgmppmnaaW.PrintWords Go.Proofs.YtagppmdgmppmnaaW.PrintLast Go.Proofs.YtagppmdgmppmnaaW.PrintMore Go.Proofs.Ytagppmdgmppmnaa.P

def flowB : List S69 → List Int → Bool
  | [], [] => true
  | a :: l, x :: f => if x < 0 then false else if x > a.f2 then false else flowB l f
  | _, _ => false
def askErr (n : Int) (l : List S69) (f : List Int) : Int := if netErr n l = 0 then (if flowB l f = true then 0 else 71) else netErr n l
structure FlowOk (l : List S69) (f : List Int) : Prop where
  len : f.length = l.length
  at_ : ∀ i : Nat, i < f.length → 0 ≤ rd f i ∧ rd f i ≤ (rd_T69 l i).f2
theorem rdArc_nat (l : List S69) (i : Nat) : rd_T69 l (i : Int) = l.getD i z69 := by unfold rd_T69; rw [Int.toNat_natCast]
theorem flowB_len : ∀ {l : List S69} {f : List Int}, flowB l f = true → f.length = l.length
  | [], [], _ => rfl
  | [], _ :: _, h => by simp [flowB] at h
  | _ :: _, [], h => by simp [flowB] at h
  | a :: l, x :: f, h => by
    unfold flowB at h
    split at h
    · cases h
    · split at h
      · cases h
      · simp [flowB_len h]
theorem flowB_ok : ∀ {l : List S69} {f : List Int}, flowB l f = true → ∀ i : Nat, i < f.length → 0 ≤ f.getD i 0 ∧ f.getD i 0 ≤ (l.getD i z69).f2
  | [], [], _, i, hi => by simp at hi
  | [], _ :: _, h, _, _ => by simp [flowB] at h
  | _ :: _, [], h, _, _ => by simp [flowB] at h
  | a :: l, x :: f, h, i, hi => by
    unfold flowB at h
    split at h
    · cases h
    · split at h
      · cases h
      · cases i with
        | zero => simp; omega
        | succ i => simpa using flowB_ok h i (by simpa using hi)
theorem flow_ok {l : List S69} {f : List Int} (h : flowB l f = true) : FlowOk l f :=
  ⟨flowB_len h, fun i hi => by rw [rd_nat, rdArc_nat]; exact flowB_ok h i hi⟩
theorem flow_mk : ∀ {l : List S69} {f : List Int}, f.length = l.length → (∀ i : Nat, i < f.length → 0 ≤ f.getD i 0 ∧ f.getD i 0 ≤ (l.getD i z69).f2) → flowB l f = true
  | [], [], _, _ => rfl
  | [], _ :: _, h, _ => by simp at h
  | _ :: _, [], h, _ => by simp at h
  | a :: l, x :: f, h, hf => by
    have h0 := hf 0 (by simp)
    simp at h0
    unfold flowB
    rw [if_neg (by omega), if_neg (by omega)]
    exact flow_mk (by simpa using h) (fun i hi => by simpa using hf (i + 1) (by simpa using hi))
theorem FlowOk.b {l : List S69} {f : List Int} (h : FlowOk l f) : flowB l f = true :=
  flow_mk h.len fun i hi => by have := h.at_ i hi; rwa [rd_nat, rdArc_nat] at this
theorem FlowOk.int {l : List S69} {f : List Int} (h : FlowOk l f) {i : Int} (h0 : 0 ≤ i) (h1 : i < f.length) : 0 ≤ rd f i ∧ rd f i ≤ (rd_T69 l i).f2 := by
  obtain ⟨j, rfl⟩ := Int.eq_ofNat_of_zero_le h0
  exact h.at_ j (by omega)
/-- A flow of a right network is small. -/
theorem FlowOk.small {n : Int} {l : List S69} {f : List Int} (h : FlowOk l f) (hn : NetOk n l) {i : Int} (h0 : 0 ≤ i) (h1 : i < f.length) : 0 ≤ rd f i ∧ rd f i ≤ 1048576 := by
  have h2 := h.int h0 h1
  have h3 := (hn.at_ h0 (by rw [← h.len]; exact h1)).h2
  omega
theorem askErr_ok {n : Int} {l : List S69} {f : List Int} (h : askErr n l f = 0) : NetOk n l ∧ FlowOk l f := by
  unfold askErr at h
  split at h
  · split at h
    · exact ⟨netErr_ok (by assumption), flow_ok (by assumption)⟩
    · omega
  · exact absurd h (by assumption)
theorem ask_of {n : Int} {l : List S69} {f : List Int} (h : NetOk n l) (hf : FlowOk l f) : askErr n l f = 0 := by
  unfold askErr
  rw [if_pos (netOk_err h), if_pos hf.b]

theorem flowB_ne {l : List S69} {f : List Int} (h : ¬ ((f.length : Int) = (l.length : Int))) : ¬ flowB l f = true := fun g => h (by rw [flowB_len g])
/-- How much more leaves a node than comes. -/
def bal : List S69 → List Int → Int → Int
  | a :: l, x :: f, v => (if a.f0 = v then x else 0) - (if a.f1 = v then x else 0) + bal l f v
  | _, _, _ => 0
theorem bal_cons (a : S69) (l : List S69) (x : Int) (f : List Int) (v : Int) : bal (a :: l) (x :: f) v = (if a.f0 = v then x else 0) - (if a.f1 = v then x else 0) + bal l f v := rfl
theorem bal_nil (f : List Int) (v : Int) : bal [] f v = 0 := by cases f <;> rfl
def balOf (n : Int) (l : List S69) (f : List Int) : List Int := (List.range n.toNat).map fun v : Nat => bal l f v
theorem balOf_len (n : Int) (l : List S69) (f : List Int) : (balOf n l f).length = n.toNat := by simp [balOf]
theorem rd_balOf {n : Int} {l : List S69} {f : List Int} {v : Int} (h0 : 0 ≤ v) (h1 : v < n) : rd (balOf n l f) v = bal l f v := by
  obtain ⟨j, rfl⟩ := Int.eq_ofNat_of_zero_le h0
  have hj : j < n.toNat := by omega
  rw [rd_nat, balOf, List.getD_eq_getElem?_getD]
  simp [hj]
theorem rd_zeros (m : Nat) (v : Int) : rd (List.replicate m 0) v = 0 := by
  unfold rd
  rw [List.getD_eq_getElem?_getD, List.getElem?_replicate]
  split <;> rfl
def balRes (n : Int) (l : List S69) (f : List Int) : List Int × Int := if askErr n l f = 0 then (balOf n l f, 0) else ([], askErr n l f)
theorem leaves_l0 (n m : Int) (b : Bool) (l : List S69) (f : List Int) (hn : NetOk m l) (hf : FlowOk l f) (v : Int) (d : Nat) : ∀ (i : Nat) (acc : Int), i + d = l.length → -(i * 2097152) ≤ acc → acc ≤ i * 2097152 →
    Ev (fun k => ebbtideref07_Leaves.l0 k f v acc (i : Int) n b l) (acc + bal (l.drop i) (f.drop i) v) := by
  have hlen := hf.len
  have hl := hn.len
  induction d with
  | zero =>
    intro i acc hi h0 h1
    refine Ev.succ ?_; simp only [ebbtideref07_Leaves.l0]
    repeat (first | exact Ev.now _ | with_reducible refine Ev.pos (by first | assumption | omega) ?_ | with_reducible refine Ev.neg (by first | assumption | omega) ?_ | with_reducible refine Ev.let_ ?_)
    rw [List.drop_of_length_le (by omega)]
    exact Ev.done (by simp [bal])
  | succ d ih =>
    intro i acc hi h0 h1
    have hs := hf.small hn (i := (i : Int)) (by omega) (by omega)
    refine Ev.succ ?_; simp only [ebbtideref07_Leaves.l0]
    repeat (first | exact Ev.now _ | with_reducible refine Ev.pos (by first | assumption | omega) ?_ | with_reducible refine Ev.neg (by first | assumption | omega) ?_ | with_reducible refine Ev.let_ ?_)
    rw [wrap_succ (n := l.length) (by omega) (by omega), drop_getD l i z69 (by omega), drop_getD f i 0 (by omega), ← rdArc_nat, ← rd_nat, bal_cons]
    refine Ev.ite (fun g => ?_) (fun g => ?_)
    · rw [if_pos g]
      refine Ev.ite (fun g2 => ?_) (fun g2 => ?_)
      · rw [if_pos g2, wrap_id (x := acc + rd f (i : Int)) (by omega) (by omega), wrap_id (by omega) (by omega)]
        exact Ev.eq (ih (i + 1) _ (by omega) (by omega) (by omega)) (by omega)
      · rw [if_neg g2, wrap_id (x := acc + rd f (i : Int)) (by omega) (by omega)]
        exact Ev.eq (ih (i + 1) _ (by omega) (by omega) (by omega)) (by omega)
    · rw [if_neg g]
      refine Ev.ite (fun g2 => ?_) (fun g2 => ?_)
      · rw [if_pos g2, wrap_id (x := acc - rd f (i : Int)) (by omega) (by omega)]
        exact Ev.eq (ih (i + 1) _ (by omega) (by omega) (by omega)) (by omega)
      · rw [if_neg g2]
        exact Ev.eq (ih (i + 1) _ (by omega) (by omega) (by omega)) (by omega)
theorem leaves_ev (n m : Int) (b : Bool) (l : List S69) (f : List Int) (hn : NetOk m l) (hf : FlowOk l f) (v : Int) : Ev (fun k => ebbtideref07_Leaves.f k n b l f v) (bal l f v) := by
  unfold ebbtideref07_Leaves.f
  exact Ev.eq (leaves_l0 n m b l f hn hf v l.length 0 0 (by omega) (by omega) (by omega)) (by rw [List.drop_zero, List.drop_zero]; omega)
def endsErr (n : Int) (l : List S69) (s t : Int) : Int := if netErr n l = 0 then (if s < 0 ∨ t < 0 ∨ n ≤ s ∨ n ≤ t ∨ s = t then 70 else 0) else netErr n l
structure EndsOk (n s t : Int) : Prop where
  s0 : 0 ≤ s
  t0 : 0 ≤ t
  sn : s < n
  tn : t < n
  ne : s ≠ t
theorem endsErr_ok {n : Int} {l : List S69} {s t : Int} (h : endsErr n l s t = 0) : NetOk n l ∧ EndsOk n s t := by
  unfold endsErr at h
  split at h
  · split at h
    · omega
    · exact ⟨netErr_ok (by assumption), by omega, by omega, by omega, by omega, by omega⟩
  · exact absurd h (by assumption)
theorem ends_of {n : Int} {l : List S69} {s t : Int} (h : NetOk n l) (he : EndsOk n s t) : endsErr n l s t = 0 := by
  have := he.s0; have := he.t0; have := he.sn; have := he.tn; have := he.ne
  unfold endsErr
  rw [if_pos (netOk_err h), if_neg (by omega)]
theorem ends_ev (n : Int) (b : Bool) (l : List S69) (s t : Int) : Ev (fun k => static_Ends.f k n b l s t) (endsErr n l s t) := by
  unfold static_Ends.f endsErr
  refine Ev.bind (check_ev n b l) ?_
  refine Ev.ite (fun h => ?_) (fun h => ?_)
  · rw [if_pos h]
    unfold mn mx
    refine Ev.ite (fun g => ?_) (fun g => ?_)
    · exact Ev.done (by rw [if_pos (by omega)])
    refine Ev.ite (fun g => ?_) (fun g => ?_)
    · exact Ev.done (by rw [if_pos (by omega)])
    refine Ev.ite (fun g => ?_) (fun g => ?_)
    · exact Ev.done (by rw [if_pos (by omega)])
    · exact Ev.done (by rw [if_neg (by omega)])
  · rw [if_neg h]
    exact Ev.now _
theorem node_eq (n : Int) (b : Bool) (l : List S69) (v : Int) : ebbtideref06_Node.f n b l v = some (decide (0 ≤ v ∧ v < n)) := by
  unfold ebbtideref06_Node.f
  split
  · rename_i h
    congr 1
    by_cases g : v < n <;> simp [g] <;> omega
  · rename_i h
    congr 1
    symm
    exact decide_eq_false (by omega)
theorem ref_ends_ev (n : Int) (b : Bool) (l : List S69) (s t : Int) : Ev (fun k => ebbtideref07_Ends.f k n b l s t) (endsErr n l s t) := by
  unfold ebbtideref07_Ends.f endsErr
  refine Ev.bind (ref_check_ev n b l) ?_
  refine Ev.ite (fun h => ?_) (fun h => ?_)
  · rw [if_pos h]
    refine Ev.call (node_eq n b l s) ?_
    refine Ev.ite (fun g => ?_) (fun g => ?_)
    · have g := of_decide_eq_true g
      refine Ev.call (node_eq n b l t) ?_
      refine Ev.ite (fun g2 => ?_) (fun g2 => ?_)
      · have g2 := of_decide_eq_true g2
        refine Ev.ite (fun g3 => ?_) (fun g3 => ?_)
        · exact Ev.done (by rw [if_pos (by omega)])
        · exact Ev.done (by rw [if_neg (by omega)])
      · have g2 := of_decide_eq_false (Bool.eq_false_iff.2 g2)
        exact Ev.done (by rw [if_pos (by omega)])
    · have g := of_decide_eq_false (Bool.eq_false_iff.2 g)
      exact Ev.done (by rw [if_pos (by omega)])
  · rw [if_neg h]
    exact Ev.now _

/-- Are all balances from number i on 0, but for the source's and the sink's? -/
def evenB (s t : Int) : List Int → Int → Bool
  | [], _ => true
  | x :: l, i => if x = 0 then evenB s t l (i + 1) else if i = s then evenB s t l (i + 1) else if i = t then evenB s t l (i + 1) else false
def valRes (n : Int) (l : List S69) (s t : Int) (f : List Int) : Int × Int :=
  if endsErr n l s t = 0 then (if askErr n l f = 0 then (if evenB s t (balOf n l f) 0 = true then (bal l f s, 0) else (0, 71)) else (0, askErr n l f)) else (0, endsErr n l s t)
theorem balRes_ok {n : Int} {l : List S69} {f : List Int} (h : askErr n l f = 0) : balRes n l f = (balOf n l f, 0) := by unfold balRes; rw [if_pos h]
theorem balRes_no {n : Int} {l : List S69} {f : List Int} (h : ¬ askErr n l f = 0) : balRes n l f = ([], askErr n l f) := by unfold balRes; rw [if_neg h]
end Go.Proofs.Ytagppmdgmppmnaa.Q

/- Sums over the numbers below one. -/
namespace Go.Proofs.Ytagppmdgmppmnaa.Q
def sumTo : Nat → (Nat → Int) → Int
  | 0, _ => 0
  | n + 1, g => sumTo n g + g n
theorem sumTo_add (n : Nat) (g h : Nat → Int) : sumTo n (fun v => g v + h v) = sumTo n g + sumTo n h := by
  induction n with
  | zero => rfl
  | succ n ih => simp only [sumTo, ih]; omega
theorem sumTo_sub (n : Nat) (g h : Nat → Int) : sumTo n (fun v => g v - h v) = sumTo n g - sumTo n h := by
  induction n with
  | zero => rfl
  | succ n ih => simp only [sumTo, ih]; omega
theorem sumTo_congr (n : Nat) {g h : Nat → Int} (e : ∀ v, v < n → g v = h v) : sumTo n g = sumTo n h := by
  induction n with
  | zero => rfl
  | succ n ih => simp only [sumTo]; rw [ih (fun v hv => e v (by omega)), e n (by omega)]
theorem sumTo_zero (n : Nat) : sumTo n (fun _ => 0) = 0 := by
  induction n with
  | zero => rfl
  | succ n ih => simp only [sumTo, ih]; rfl
theorem sumTo_one (n : Nat) (c x : Int) : sumTo n (fun v => if c = (v : Int) then x else 0) = if 0 ≤ c ∧ c < n then x else 0 := by
  induction n with
  | zero => simp only [sumTo]; rw [if_neg (by omega)]
  | succ n ih =>
    simp only [sumTo, ih]
    by_cases h : c = (n : Int)
    · rw [if_pos h, if_neg (by omega), if_pos (by omega)]; omega
    · rw [if_neg h]
      by_cases g : 0 ≤ c ∧ c < n
      · rw [if_pos g, if_pos (by omega)]; omega
      · rw [if_neg g, if_neg (by omega)]; omega
theorem sumTo_two (n : Nat) (g : Nat → Int) (s t : Nat) (hne : s ≠ t) (h : ∀ v, v < n → g v = 0 ∨ v = s ∨ v = t) : sumTo n g = (if s < n then g s else 0) + (if t < n then g t else 0) := by
  induction n with
  | zero => rfl
  | succ n ih =>
    simp only [sumTo, ih (fun v hv => h v (by omega))]
    rcases h n (by omega) with h0 | rfl | rfl
    · rw [h0]
      by_cases h1 : s < n
      · rw [if_pos h1, if_pos (show s < n + 1 by omega)]
        by_cases h2 : t < n
        · rw [if_pos h2, if_pos (show t < n + 1 by omega)]; omega
        · rw [if_neg h2]
          by_cases h3 : t = n
          · subst h3; rw [if_pos (by omega), h0]; omega
          · rw [if_neg (by omega)]; omega
      · rw [if_neg h1]
        by_cases h4 : s = n
        · subst h4
          rw [if_pos (show s < s + 1 by omega), h0]
          by_cases h2 : t < s
          · rw [if_pos h2, if_pos (by omega)]; omega
          · rw [if_neg h2, if_neg (by omega)]; omega
        · rw [if_neg (show ¬ s < n + 1 by omega)]
          by_cases h2 : t < n
          · rw [if_pos h2, if_pos (show t < n + 1 by omega)]; omega
          · rw [if_neg h2]
            by_cases h3 : t = n
            · subst h3; rw [if_pos (by omega), h0]; omega
            · rw [if_neg (by omega)]; omega
    · rw [if_neg (show ¬ n < n by omega), if_pos (show n < n + 1 by omega)]
      by_cases h2 : t < n
      · rw [if_pos h2, if_pos (show t < n + 1 by omega)]; omega
      · rw [if_neg h2, if_neg (show ¬ t < n + 1 by omega)]; omega
    · rw [if_neg (show ¬ n < n by omega), if_pos (show n < n + 1 by omega)]
      by_cases h2 : s < n
      · rw [if_pos h2, if_pos (show s < n + 1 by omega)]; omega
      · rw [if_neg h2, if_neg (show ¬ s < n + 1 by omega)]; omega
theorem sumTo_small (n : Nat) (g : Nat → Int) (B : Int) (h : ∀ v, v < n → -B ≤ g v ∧ g v ≤ B) : -(n * B) ≤ sumTo n g ∧ sumTo n g ≤ n * B := by
  induction n with
  | zero => simp [sumTo]
  | succ n ih =>
    have h1 := ih (fun v hv => h v (by omega))
    have h2 := h n (by omega)
    have e : ((n + 1 : Nat) : Int) * B = n * B + B := by rw [show ((n + 1 : Nat) : Int) = (n : Int) + 1 by omega, Int.add_mul, Int.one_mul]
    simp only [sumTo]
    omega
theorem sumTo_nonneg (n : Nat) (g : Nat → Int) (h : ∀ v, v < n → 0 ≤ g v) : 0 ≤ sumTo n g := by
  induction n with
  | zero => simp [sumTo]
  | succ n ih =>
    have h1 := ih (fun v hv => h v (by omega))
    have h2 := h n (by omega)
    simp only [sumTo]
    omega
theorem sumTo_mono (n : Nat) (g h : Nat → Int) (e : ∀ v, v < n → g v ≤ h v) : sumTo n g ≤ sumTo n h := by
  induction n with
  | zero => simp [sumTo]
  | succ n ih =>
    have h1 := ih (fun v hv => e v (by omega))
    have h2 := e n (by omega)
    simp only [sumTo]
    omega
end Go.Proofs.Ytagppmdgmppmnaa.Q

/- timecut's sets of slots: what a map of slots is good for; Has. -/
set_option linter.unusedVariables false
set_option linter.unusedSimpArgs false
namespace Go.Proofs.Ytagppmdgmppmnaa.H
open Go.RowKit Go.Maps Go.Proofs.YtagppmdgmppmnaaW.PrintWords

theorem tc_laidOut : laidOutB Try.prog = true := by kernel_rfl
theorem slotLaw : Keyed Try.prog 59 := Keyed.of_law (deep_law_laid tc_laidOut (m := Try.prog.types.size + 1) (of_decide_eq_true (by kernel_rfl)) (of_decide_eq_true (by kernel_rfl)) (by kernel_rfl) (by kernel_rfl))
theorem tc_sizes : ∃ m, Try.prog.types.size = m + 1 := ⟨Try.prog.types.size - 1, by
  have h : Try.prog.types.size - 1 + 1 = Try.prog.types.size := by kernel_rfl
  exact h.symm⟩
def slotV (v a : Int) : Value := .agg #[.int .i64 v, .int .i64 a]
def slotK (v a : Int) : Lit := .string (keyBytes [.int .i64 v, .int .i64 a])
theorem slot_key (v a : Int) (hv : (Lit.int .i64 v).wf = true) (ha : (Lit.int .i64 a).wf = true) : keyOf Try.prog 59 (slotV v a) = some (slotK v a) := by
  obtain ⟨m, hm⟩ := tc_sizes
  have h1 : Try.prog.keyType 59 = true := by kernel_rfl
  have h2 : Try.prog.cellsOf 59 = 2 := by kernel_rfl
  have h3 : Try.prog.cellsOf 3 = 1 := by kernel_rfl
  have h4 : (slotV v a).formed Try.prog 59 = true := by
    unfold slotV Value.formed
    simp [Try.underlying59, h2]
  unfold keyOf
  rw [Try.underlying59]
  simp only [h1, h4, hm]
  simp [Program.keyLits, Try.underlying59, Try.underlying3, h2, h3, slotV, slotK, Value.cells, hv, ha]
theorem slotK_inj {v a v' a' : Int} (hv : (Lit.int .i64 v).wf = true) (ha : (Lit.int .i64 a).wf = true) (hv' : (Lit.int .i64 v').wf = true) (ha' : (Lit.int .i64 a').wf = true) (h : slotK v a = slotK v' a') : v = v' ∧ a = a' := by
  have h1 := slotLaw.inj (slot_key v a hv ha) (by rw [h]; exact slot_key v' a' hv' ha')
  unfold slotV at h1
  injection h1 with h1
  have h2 := congrArg Array.toList h1
  simp at h2
  exact h2
/-- Block b of w is a set of slots, S, of at most n entries. -/
def SetAt (w : World) (b n : Nat) (S : Int → Int → Bool) : Prop :=
  ∃ D : DataW Unit, w.ownsMap Try.prog 59 unitElem b n D ∧ ∀ v a, (Lit.int .i64 v).wf = true → (Lit.int .i64 a).wf = true → Maps.has D (slotK v a) = S v a
theorem SetAt.kept {w w' : World} {b n : Nat} {S : Int → Int → Bool} {row : Option Nat} (h : SetAt w b n S) (hg : w.grownBy w' row) (hne : some b ≠ row) : SetAt w' b n S := by
  obtain ⟨D, h1, h2⟩ := h
  exact ⟨D, h1.kept hg hne, h2⟩
theorem SetAt.below {w w' : World} {b n : Nat} {S : Int → Int → Bool} (h : SetAt w b n S) (hb : Below w.heap.size w w') : SetAt w' b n S := h.kept (grown_of_below hb none) (by simp)
theorem SetAt.lt {w : World} {b n : Nat} {S : Int → Int → Bool} (h : SetAt w b n S) : b < w.heap.size := by
  obtain ⟨D, h1, _⟩ := h
  exact h1.lt
theorem SetAt.made (w : World) : SetAt (w.alloc (.map #[] 0)) w.heap.size 0 (fun _ _ => false) :=
  ⟨.map [], World.ownsMap_made _ _ _ _, fun _ _ _ _ => rfl⟩
theorem zeroUnit (w : World) : (zeroValue 95).run Try.prog w = .ok (.agg #[]) w := by kernel_rfl
theorem wf_i64 {x : Int} (h0 : -9223372036854775808 ≤ x) (h1 : x ≤ 9223372036854775807) : (Lit.int .i64 x).wf = true := by
  simp [Lit.wf, IntKind.min, IntKind.max, IntKind.signed, IntKind.bits]
  omega
set_option maxHeartbeats 400000 in
set_option maxRecDepth 100000 in
theorem has_calls {b n : Nat} {S : Int → Int → Bool} (v a : Int) (hv : (Lit.int .i64 v).wf = true) (ha : (Lit.int .i64 a).wf = true) (w : World) (h : SetAt w b n S) :
    Calls Try.prog 28 #[.map (some b), .int .i64 v, .int .i64 a] w fun e w' => e = .returned (.bool (S v a)) ∧ Below w.heap.size w w' := by
  obtain ⟨D, hown, hS⟩ := h
  have hkey := slot_key v a hv ha
  rw [← hS v a hv ha]
  clear hS hv ha
  go_enter Try.func28, Try.ntmps28
  go_wp2_with (first | (at_lookup; refine wpList_lookup_own_unit _ rfl _ _ 63 rfl 59 95 slotLaw Try.underlying63 (zeroUnit _) b n D rfl hown _ _ rfl hkey ?_) | go_in)
  go_ret
  exact ⟨rfl, (Below.refl _ _).alloc (Nat.le_refl _) _⟩
end Go.Proofs.Ytagppmdgmppmnaa.H

/- timecut's Rises: does a node that is of the set stay so. -/
set_option linter.unusedVariables false
set_option linter.unusedSimpArgs false
namespace Go.Proofs.Ytagppmdgmppmnaa.H
open Go.RowKit Go.Maps Go.Proofs.YtagppmdgmppmnaaW.PrintWords
/-- Until a point of time, a node that is of the set stays so. -/
def risesN (S : Int → Int → Bool) (v : Int) : Nat → Bool
  | 0 => true
  | k + 1 => risesN S v k && !(S v k && !S v (k + 1))
theorem rises_not {S : Int → Int → Bool} {v : Int} {k : Nat} (h : (S v k && !S v (k + 1)) = true) : ∀ n, k < n → risesN S v n = false
  | 0, hk => absurd hk (Nat.not_lt_zero _)
  | n + 1, hk => by
    unfold risesN
    by_cases e : k = n
    · subst e; rw [h]; simp
    · rw [rises_not h n (by omega)]; rfl
set_option maxHeartbeats 800000 in
set_option maxRecDepth 100000 in
theorem rises_calls {b n : Nat} {S : Int → Int → Bool} (v : Int) (m : Nat) (hv : (Lit.int .i64 v).wf = true) (hm : m ≤ 2000) (w : World) (h : SetAt w b n S) :
    Calls Try.prog 29 #[.map (some b), .int .i64 v, .int .i64 (m : Int)] w fun e w' => e = .returned (.bool (risesN S v m)) ∧ Below w.heap.size w w' := by
  have HV := Aside0.mk hv
  have HS := Aside0.mk h
  clear hv h
  go_enter Try.func29, Try.ntmps29
  go_wp2
  go_loopw [9, 7] (fun i _ wr => ∃ k : Nat, k ≤ m ∧ i = .int .i64 k ∧ Aside0 (risesN S v k = true) ∧ Aside0 (SetAt wr b n S) ∧ Aside0 (Below w.heap.size w wr)) (fun i _ _ => m - (intOf i).toNat)
  case atStart => exact ⟨0, Nat.zero_le _, rfl, ⟨rfl⟩, HS, ⟨Below.refl _ _⟩⟩
  case round =>
    obtain ⟨k, hk, rfl, HR, HS, HB⟩ := hrel
    by_cases hlt : k < m
    · go_wp2_with fail
      refine (has_calls v (k : Int) HV.out (wf_i64 (by omega) (by omega)) _ HS.out).mono ?_
      rintro e w1 ⟨rfl, hb1⟩
      have HB1 := Aside0.mk hb1
      have HS1 := Aside0.mk (HS.out.below hb1)
      clear hb1
      cases hx : S v k with
      | false =>
        have HX := Aside0.mk hx
        clear hx
        go_wp2_with fail
        go_roundw
        case rel => exact ⟨k + 1, by omega, by go_num, ⟨by unfold risesN; rw [HR.out, HX.out]; rfl⟩, HS1, ⟨below_then HB.out HB.out.size HB1.out⟩⟩
        case measure => simp [intOf]; omega
      | true =>
        have HX := Aside0.mk hx
        clear hx
        go_wp2_with fail
        refine (has_calls v ((k : Int) + 1) HV.out (wf_i64 (by omega) (by omega)) _ HS1.out).mono ?_
        rintro e w2 ⟨rfl, hb2⟩
        have HB2 := Aside0.mk hb2
        have HS2 := Aside0.mk (HS1.out.below hb2)
        clear hb2
        cases hy : S v ((k : Int) + 1) with
        | true =>
          have HY := Aside0.mk hy
          clear hy
          go_wp2_with fail
          go_roundw
          case rel => exact ⟨k + 1, by omega, by go_num, ⟨by unfold risesN; rw [HR.out, HX.out, HY.out]; rfl⟩, HS2, ⟨below_then (below_then HB.out HB.out.size HB1.out) (by have := HB.out.size; have := HB1.out.size; omega) HB2.out⟩⟩
          case measure => simp [intOf]; omega
        | false =>
          have HY := Aside0.mk hy
          clear hy
          go_wp2_with fail
          go_ret
          exact ⟨by rw [rises_not (k := k) (by rw [HX.out, HY.out]; rfl) m hlt]; rfl, below_then (below_then HB.out HB.out.size HB1.out) (by have := HB.out.size; have := HB1.out.size; omega) HB2.out⟩
    · have e : k = m := by omega
      subst e
      go_wp2_with fail
      go_ret
      exact ⟨by rw [HR.out]; rfl, HB.out⟩
end Go.Proofs.Ytagppmdgmppmnaa.H

/- timecut's Of: the set of slots. -/
set_option linter.unusedVariables false
set_option linter.unusedSimpArgs false
namespace Go.Proofs.Ytagppmdgmppmnaa.H
open Go.RowKit Go.Maps Go.Proofs.YtagppmdgmppmnaaW.PrintWords Go.Proofs.YtagppmdgmppmnaaW.PrintLast Go.Proofs.YtagppmdgmppmnaaW.PrintMore Go.Proofs.Ytagppmdgmppmnaa.P
def slotOkB (n h : Int) (s : S59) : Bool := decide (0 ≤ s.f0) && decide (0 ≤ s.f1) && decide (s.f0 < n) && decide (s.f1 ≤ h)
def hasL (l : List S59) (v a : Int) : Bool := l.any fun s => decide (s.f0 = v) && decide (s.f1 = a)
def OfPost (w w' : World) (l : List S59) (n h : Int) (e : Ending) : Prop :=
  if l.all (slotOkB n h) = true then ∃ b m, w.heap.size ≤ b ∧ e = .returned (.tuple #[.map (some b), .bool true]) ∧ SetAt w' b m (hasL l) else e = .returned (.tuple #[.map none, .bool false])
theorem of_bad {l : List S59} {s : S59} {n h : Int} (hm : s ∈ l) (hb : slotOkB n h s = false) : l.all (slotOkB n h) = false := by
  cases e : l.all (slotOkB n h) with
  | false => rfl
  | true => rw [List.all_eq_true.1 e s hm] at hb; cases hb
theorem has_put_at {l : List S59} {s : S59} {D : DataW Unit}
    (hD : IsMap D) (hS : ∀ v a, (Lit.int .i64 v).wf = true → (Lit.int .i64 a).wf = true → Maps.has D (slotK v a) = hasL l v a) (h0 : (Lit.int .i64 s.f0).wf = true) (h1 : (Lit.int .i64 s.f1).wf = true) :
    ∀ v a, (Lit.int .i64 v).wf = true → (Lit.int .i64 a).wf = true → Maps.has (D.put (slotK s.f0 s.f1) (.agg [])) (slotK v a) = hasL (l ++ [s]) v a := by
  intro v a hv ha
  by_cases e : slotK v a = slotK s.f0 s.f1
  · obtain ⟨rfl, rfl⟩ := slotK_inj hv ha h0 h1 e
    rw [Maps.has_put_same hD (slotLaw.key (slot_key _ _ hv ha))]
    simp [hasL]
  · rw [Maps.has_put_other e, hS v a hv ha]
    have hne : ¬ (s.f0 = v ∧ s.f1 = a) := fun ⟨h2, h3⟩ => e (by rw [h2, h3])
    simp only [hasL, List.any_append, List.any_cons, List.any_nil, Bool.or_false]
    have : (decide (s.f0 = v) && decide (s.f1 = a)) = false := by
      by_cases h2 : s.f0 = v
      · have h3 : ¬ s.f1 = a := fun h3 => hne ⟨h2, h3⟩
        simp [h3]
      · simp [h2]
    rw [this, Bool.or_false]
attribute [local go_sem] max2_int min2_int max_two min_two
set_option maxHeartbeats 1000000 in
set_option maxRecDepth 100000 in
theorem of_calls (A : Option Addr) (c : Nat) (l : List S59) (n h : Int) (w : World) (hr : Kd.C k59 w A l.length l) (hn : n ≤ 1000) (hh : h ≤ 2000) :
    Calls Try.prog 27 #[.slice A l.length c, .int .i64 n, .int .i64 h] w fun e w' => OfPost w w' l n h e ∧ Below w.heap.size w w' := by
  have HR := Aside0.mk hr
  have hmax : l.length ≤ 9223372036854775807 := hr.2.1
  clear hr
  have hmm := @run_makeMap Try.prog
  go_enter Try.func27, Try.ntmps27
  go_wp2
  go_loopw [14, 10] (fun i _ wr => ∃ k : Nat, k ≤ l.length ∧ i = .int .i64 k ∧ Aside0 ((l.take k).all (slotOkB n h) = true) ∧ Aside0 (∃ D : DataW Unit, wr.ownsMap Try.prog 59 unitElem w.heap.size k D ∧ ∀ v a, (Lit.int .i64 v).wf = true → (Lit.int .i64 a).wf = true → Maps.has D (slotK v a) = hasL (l.take k) v a) ∧ Aside0 (Below w.heap.size w wr)) (fun i _ _ => l.length - (intOf i).toNat)
  case atStart => exact ⟨0, Nat.zero_le _, rfl, ⟨rfl⟩, ⟨_, World.ownsMap_made _ _ _ _, fun _ _ _ _ => rfl⟩, ⟨(Below.refl _ _).alloc (Nat.le_refl _) _⟩⟩
  case round =>
    obtain ⟨k, hk, rfl, HOK, HM, HB⟩ := hrel
    by_cases hlt : k < l.length
    · obtain ⟨ad, had, hc0, hc1⟩ := at_T59 HR.out (k : Int) (by omega) (by omega)
      subst had
      simp only [Int.toNat_natCast] at hc0 hc1
      replace hc0 := (HB.out.cell (World.block_lt_of_cell? w _ hc0)).trans hc0
      replace hc1 := (HB.out.cell (World.block_lt_of_cell? w _ hc1)).trans hc1
      have hel : l.getD k z59 = rd_T59 l (k : Int) := by unfold rd_T59; rw [Int.toNat_natCast]
      have htk : l.take (k + 1) = l.take k ++ [rd_T59 l (k : Int)] := by
        rw [← hel, List.take_succ_eq_append_getElem hlt, List.getD_eq_getElem?_getD, List.getElem?_eq_getElem hlt]; rfl
      have hmem : rd_T59 l (k : Int) ∈ l := by
        rw [← hel, List.getD_eq_getElem?_getD, List.getElem?_eq_getElem hlt]; exact List.getElem_mem hlt
      have HTK := Aside0.mk htk
      have HMEM := Aside0.mk hmem
      clear htk hel hmem
      obtain ⟨ji, hji⟩ : ∃ j_ : Int, mn (rd_T59 l (k : Int)).f0 (rd_T59 l (k : Int)).f1 = j_ := ⟨_, rfl⟩
      have HJ := Aside0.mk hji
      have hji_ : (if (rd_T59 l (k : Int)).f1 < (rd_T59 l (k : Int)).f0 then (rd_T59 l (k : Int)).f1 else (rd_T59 l (k : Int)).f0) = ji := hji
      clear hji
      have hmn : ji ≤ (rd_T59 l (k : Int)).f0 ∧ ji ≤ (rd_T59 l (k : Int)).f1 ∧ (ji = (rd_T59 l (k : Int)).f0 ∨ ji = (rd_T59 l (k : Int)).f1) := by rw [← HJ.out]; unfold mn; split <;> omega
      have HMN := Aside0.mk hmn
      clear hmn
      by_cases h1 : ji < 0
      · have HF : Aside0 (l.all (slotOkB n h) = false) := ⟨of_bad HMEM.out (by have := HMN.out; unfold slotOkB; simp; omega)⟩
        have b1 := decide_eq_true h1
        clear h1
        go_wp2_with fail
        go_ret2
        exact ⟨by unfold OfPost; rw [HF.out]; rfl, (HB.out.alloc HB.out.size _)⟩
      have b1 := decide_eq_false h1
      by_cases h2 : n ≤ (rd_T59 l (k : Int)).f0
      · have HF : Aside0 (l.all (slotOkB n h) = false) := ⟨of_bad HMEM.out (by have := HMN.out; unfold slotOkB; simp; omega)⟩
        have b2 := decide_eq_true h2
        clear h1 h2
        go_wp2_with fail
        go_ret2
        exact ⟨by unfold OfPost; rw [HF.out]; rfl, (HB.out.alloc HB.out.size _)⟩
      have b2 := decide_eq_false h2
      by_cases h3 : h < (rd_T59 l (k : Int)).f1
      · have HF : Aside0 (l.all (slotOkB n h) = false) := ⟨of_bad HMEM.out (by have := HMN.out; unfold slotOkB; simp; omega)⟩
        have b3 := decide_eq_true h3
        clear h1 h2 h3
        go_wp2_with fail
        go_ret2
        exact ⟨by unfold OfPost; rw [HF.out]; rfl, (HB.out.alloc HB.out.size _)⟩
      have b3 := decide_eq_false h3
      have hg : slotOkB n h (rd_T59 l (k : Int)) = true := by have := HMN.out; unfold slotOkB; simp; omega
      have hw0 : (Lit.int .i64 (rd_T59 l (k : Int)).f0).wf = true := wf_i64 (by have := HMN.out; omega) (by omega)
      have hw1 : (Lit.int .i64 (rd_T59 l (k : Int)).f1).wf = true := wf_i64 (by have := HMN.out; omega) (by omega)
      have HG := Aside0.mk hg
      have HW0 := Aside0.mk hw0
      have HW1 := Aside0.mk hw1
      clear h1 h2 h3 hg hw0 hw1
      obtain ⟨D, hown, hS⟩ := HM.out
      have HD := Aside0.mk hown.isMap
      have HSS := Aside0.mk hS
      have hkey := slot_key _ _ HW0.out HW1.out
      have HKEY := Aside0.mk hkey
      have HOWN := Aside0.mk hown
      clear hS HM hkey hown
      go_wp2_with (first | (at_mapUpdate; refine wpList_mapUpdate_own _ rfl _ _ _ 63 rfl 59 95 slotLaw Try.underlying63 (unitElem (H := Unit)) w.heap.size k D rfl (HOWN.out.alloc _) (by unfold maxLen; omega) _ _ _ rfl rfl HKEY.out _ [] unitElem_mk ?_; intro w1 hown1 hgrow1) | go_in)
      have HO1 := Aside0.mk hown1
      have HGR := Aside0.mk hgrow1
      clear hown1 hgrow1
      go_roundw
      case rel => exact ⟨k + 1, by omega, by go_num, ⟨by rw [HTK.out, List.all_append, HOK.out]; simp [HG.out]⟩, ⟨_, HO1.out, by rw [HTK.out]; exact has_put_at HD.out HSS.out HW0.out HW1.out⟩, ⟨(HB.out.alloc HB.out.size _).grown HGR.out (by have := HB.out.size; simp; omega) (fun j hj => by cases hj; exact Nat.le_refl _)⟩⟩
      case measure => simp [intOf]; omega
    · have e : k = l.length := by omega
      subst e
      have HT : Aside0 (l.take l.length = l) := ⟨List.take_length⟩
      go_wp2_with fail
      go_ret2
      refine ⟨?_, HB.out⟩
      have hok := HOK.out
      obtain ⟨D, h1, h2⟩ := HM.out
      rw [HT.out] at hok h2
      unfold OfPost
      rw [if_pos hok]
      exact ⟨w.heap.size, l.length, Nat.le_refl _, rfl, D, h1, h2⟩
end Go.Proofs.Ytagppmdgmppmnaa.H

/- timecut's Takes: what arcs take from slots of a set to others. -/
set_option linter.unusedVariables false
set_option linter.unusedSimpArgs false
namespace Go.Proofs.Ytagppmdgmppmnaa.H
open Go.RowKit Go.Maps Go.Proofs.YtagppmdgmppmnaaW.PrintWords Go.Proofs.YtagppmdgmppmnaaW.PrintLast Go.Proofs.YtagppmdgmppmnaaW.PrintMore Go.Proofs.Ytagppmdgmppmnaa.P Go.Proofs.Ytagppmdgmppmnaa.Q
def times (h : Int) (a : S69) : Nat := (h + 1 - a.f3).toNat
def takeAt (S : Int → Int → Bool) (a : S69) (t : Nat) : Int := if (S a.f0 t && !S a.f1 ((t : Int) + a.f3)) = true then a.f2 else 0
def takesA (S : Int → Int → Bool) (h : Int) (a : S69) : Int := sumTo (times h a) (takeAt S a)
def takesL (S : Int → Int → Bool) (h : Int) : List S69 → Int
  | [] => 0
  | a :: l => takesA S h a + takesL S h l
structure ArcSm (a : S69) : Prop where
  f0 : 0 ≤ a.f0
  f1 : 0 ≤ a.f1
  f2 : 0 ≤ a.f2
  f3 : 0 ≤ a.f3
  h0 : a.f0 ≤ 1000
  h1 : a.f1 ≤ 1000
  h2 : a.f2 ≤ 1048576
  h3 : a.f3 ≤ 1048576
theorem takesL_snoc (S : Int → Int → Bool) (h : Int) (a : S69) : ∀ l : List S69, takesL S h (l ++ [a]) = takesL S h l + takesA S h a
  | [] => by simp [takesL]
  | b :: l => by rw [List.cons_append, takesL, takesL, takesL_snoc S h a l]; omega
theorem takeAt_small (S : Int → Int → Bool) {a : S69} (ha : ArcSm a) (t : Nat) : 0 ≤ takeAt S a t ∧ takeAt S a t ≤ 1048576 := by
  have := ha.f2; have := ha.h2
  unfold takeAt
  split <;> omega
theorem sum_small (S : Int → Int → Bool) {a : S69} (ha : ArcSm a) (t : Nat) (ht : t ≤ 2001) : 0 ≤ sumTo t (takeAt S a) ∧ sumTo t (takeAt S a) ≤ 2098200576 := by
  have h1 := sumTo_nonneg t (takeAt S a) (fun v _ => (takeAt_small S ha v).1)
  have h2 := (sumTo_small t (takeAt S a) 1048576 (fun v _ => by have := takeAt_small S ha v; omega)).2
  omega
theorem times_le {h : Int} {a : S69} (ha : ArcSm a) (hh : h ≤ 2000) : times h a ≤ 2001 := by
  have := ha.f3
  unfold times
  omega
theorem takesL_small (S : Int → Int → Bool) {h : Int} (hh : h ≤ 2000) : ∀ l : List S69, (∀ a ∈ l, ArcSm a) → 0 ≤ takesL S h l ∧ takesL S h l ≤ (l.length : Int) * 2098200576
  | [], _ => by simp [takesL]
  | a :: l, hl => by
    have h1 := takesL_small S hh l (fun b hb => hl b (List.mem_cons_of_mem _ hb))
    have h2 := sum_small S (hl a (List.mem_cons_self ..)) (times h a) (times_le (hl a (List.mem_cons_self ..)) hh)
    have e : (((a :: l).length : Nat) : Int) * 2098200576 = (l.length : Int) * 2098200576 + 2098200576 := by rw [List.length_cons]; omega
    unfold takesL takesA
    omega
set_option maxRecDepth 100000 in
theorem use_calls (x0 x1 x2 x3 : Int) (w : World) : Calls Try.prog 31 #[.agg #[.int .i64 x0, .int .i64 x1, .int .i64 x2, .int .i64 x3]] w fun e w' => e = .returned (.bool true) ∧ Below w.heap.size w w' := by
  go_enter Try.func31, Try.ntmps31
  go_wp2
  go_ret
  exact ⟨rfl, by first | exact Below.refl _ _ | exact (Below.refl _ _).alloc (Nat.le_refl _) _⟩
/-- The block of an arc's variable. -/
def ArcBlk (w : World) (g : Nat) (a : S69) : Prop := w.heap[g]? = some (.cells #[.int .i64 a.f0, .int .i64 a.f1, .int .i64 a.f2, .int .i64 a.f3] 69 (0, 0))
theorem ArcBlk.below {w w' : World} {g : Nat} {a : S69} (h : ArcBlk w g a) (hb : Below w.heap.size w w') : ArcBlk w' g a := (hb.block g (Array.getElem?_eq_some_iff.1 h).1).trans h
set_option maxHeartbeats 2000000 in
set_option maxRecDepth 100000 in
theorem takes_calls {b m : Nat} {S : Int → Int → Bool} (n : Int) (p : Bool) (A : Option Addr) (c : Nat) (l : List S69) (h : Int) (w : World) (hr : Kd.C k69 w A l.length l) (hl : l.length ≤ 200) (hA : ∀ a ∈ l, ArcSm a)
    (hh0 : 0 ≤ h) (hh : h ≤ 2000) (hS : SetAt w b m S) :
    Calls Try.prog 30 #[.map (some b), .agg #[.int .i64 n, .bool p, .slice A l.length c], .int .i64 h, .func (.func 31) #[] #[]] w fun e w' => e = .returned (.int .i64 (takesL S h l)) ∧ Below w.heap.size w w' := by
  have HR := Aside0.mk hr
  have HA := Aside0.mk hA
  have HS := Aside0.mk hS
  clear hr hA hS
  go_enter Try.func30, Try.ntmps30
  go_wp2
  go_loopw [16, 9, 11, 12] (fun i acc _ _ wr => ∃ k : Nat, k ≤ l.length ∧ i = .int .i64 k ∧ acc = .int .i64 (takesL S h (l.take k)) ∧ Aside0 (SetAt wr b m S) ∧ Aside0 (Below w.heap.size w wr)) (fun i _ _ _ _ => l.length - (intOf i).toNat)
  case atStart => exact ⟨0, Nat.zero_le _, rfl, rfl, ⟨HS.out.below ((Below.refl _ _).alloc (Nat.le_refl _) _)⟩, ⟨(Below.refl _ _).alloc (Nat.le_refl _) _⟩⟩
  case round =>
    obtain ⟨k, hk, rfl, rfl, HS1, HB⟩ := hrel
    by_cases hlt : k < l.length
    · obtain ⟨ad, had, hc0, hc1, hc2, hc3⟩ := at_T69 HR.out (k : Int) (by omega) (by omega)
      subst had
      simp only [Int.toNat_natCast] at hc0 hc1 hc2 hc3
      replace hc0 := (HB.out.cell (World.block_lt_of_cell? w _ hc0)).trans hc0
      replace hc1 := (HB.out.cell (World.block_lt_of_cell? w _ hc1)).trans hc1
      replace hc2 := (HB.out.cell (World.block_lt_of_cell? w _ hc2)).trans hc2
      replace hc3 := (HB.out.cell (World.block_lt_of_cell? w _ hc3)).trans hc3
      have hel : l.getD k z69 = rd_T69 l (k : Int) := by unfold rd_T69; rw [Int.toNat_natCast]
      have htk : l.take (k + 1) = l.take k ++ [rd_T69 l (k : Int)] := by
        rw [← hel, List.take_succ_eq_append_getElem hlt, List.getD_eq_getElem?_getD, List.getElem?_eq_getElem hlt]; rfl
      have hmem : rd_T69 l (k : Int) ∈ l := by
        rw [← hel, List.getD_eq_getElem?_getD, List.getElem?_eq_getElem hlt]; exact List.getElem_mem hlt
      have HTK := Aside0.mk htk
      have HSM := Aside0.mk (HA.out _ hmem)
      have hbase := takesL_small S hh (l.take k) (fun a ha => HA.out a (List.mem_of_mem_take ha))
      have hbl : ((l.take k).length : Int) ≤ 200 := by simp; omega
      have HBASE : Aside0 (0 ≤ takesL S h (l.take k) ∧ takesL S h (l.take k) ≤ 419640115200) := ⟨by omega⟩
      clear htk hel hmem hbase hbl
      obtain ⟨a, ha⟩ : ∃ a, rd_T69 l (k : Int) = a := ⟨_, rfl⟩
      rw [ha] at hc0 hc1 hc2 hc3 HTK HSM
      clear ha
      obtain ⟨base, hb_⟩ : ∃ x, takesL S h (l.take k) = x := ⟨_, rfl⟩
      rw [hb_] at HBASE ⊢
      have HBS := Aside0.mk hb_
      clear hb_
      obtain ⟨wo, rfl⟩ : ∃ wo : World, wo = wr := ⟨_, rfl⟩
      have p0 := HSM.out.f0; have p1 := HSM.out.f1; have p2 := HSM.out.f2; have p3 := HSM.out.f3
      have q0 := HSM.out.h0; have q1 := HSM.out.h1; have q2 := HSM.out.h2; have q3 := HSM.out.h3
      have r0 := HBASE.out.1; have r1 := HBASE.out.2
      go_wp2_with fail
      go_loopw [12, 9] (fun i acc wr => ∃ t : Nat, t ≤ times h a ∧ i = .int .i64 t ∧ acc = .int .i64 (base + sumTo t (takeAt S a)) ∧ Aside0 (ArcBlk wr wo.heap.size a) ∧ Aside0 (SetAt wr b m S) ∧ Aside0 (Below w.heap.size w wr)) (fun i _ _ => times h a - (intOf i).toNat)
      case atStart => exact ⟨0, Nat.zero_le _, rfl, by simp [sumTo], ⟨(MapKept.heap_alloc _ _).1⟩, ⟨HS1.out.below ((Below.refl _ _).alloc (Nat.le_refl _) _)⟩, ⟨HB.out.alloc HB.out.size _⟩⟩
      case round =>
        obtain ⟨t, ht, rfl, rfl, HK, HS2, HB2⟩ := hrel
        by_cases htl : t < times h a
        · have b1 : decide ((t : Int) + a.f3 ≤ h) = true := decide_eq_true (by unfold times at htl; omega)
          have hts : t ≤ 2001 := by have := times_le HSM.out hh; omega
          have hsm := sum_small S HSM.out t hts
          have s0 := hsm.1
          have s1 := hsm.2
          have htf : (t : Int) + a.f3 ≤ 2000 := by unfold times at htl; omega
          have HTF := Aside0.mk htf
          clear hsm htf
          have c0 : wr.cell? ⟨wo.heap.size, 0, none⟩ = some (.int .i64 a.f0) := (blk_cell HK.out 0).trans rfl
          have c1 : wr.cell? ⟨wo.heap.size, 1, none⟩ = some (.int .i64 a.f1) := (blk_cell HK.out 1).trans rfl
          have c2 : wr.cell? ⟨wo.heap.size, 2, none⟩ = some (.int .i64 a.f2) := (blk_cell HK.out 2).trans rfl
          have c3 : wr.cell? ⟨wo.heap.size, 3, none⟩ = some (.int .i64 a.f3) := (blk_cell HK.out 3).trans rfl
          go_wp2_with fail
          refine (use_calls _ _ _ _ _).mono ?_
          rintro e w1 ⟨rfl, hb1⟩
          have HK1 := Aside0.mk (HK.out.below hb1)
          have HS3 := Aside0.mk (HS2.out.below hb1)
          have HB3 := Aside0.mk (below_then HB2.out HB2.out.size hb1)
          clear hb1 c0 c1 c2 c3 HK HS2 HB2
          have c0 : w1.cell? ⟨wo.heap.size, 0, none⟩ = some (.int .i64 a.f0) := (blk_cell HK1.out 0).trans rfl
          have c1 : w1.cell? ⟨wo.heap.size, 1, none⟩ = some (.int .i64 a.f1) := (blk_cell HK1.out 1).trans rfl
          have c2 : w1.cell? ⟨wo.heap.size, 2, none⟩ = some (.int .i64 a.f2) := (blk_cell HK1.out 2).trans rfl
          have c3 : w1.cell? ⟨wo.heap.size, 3, none⟩ = some (.int .i64 a.f3) := (blk_cell HK1.out 3).trans rfl
          go_wp2_with fail
          refine (has_calls a.f0 (t : Int) (wf_i64 (by omega) (by omega)) (wf_i64 (by omega) (by omega)) _ HS3.out).mono ?_
          rintro e w2 ⟨rfl, hb2⟩
          have HK2 := Aside0.mk (HK1.out.below hb2)
          have HS4 := Aside0.mk (HS3.out.below hb2)
          have HB4 := Aside0.mk (below_then HB3.out HB3.out.size hb2)
          clear hb2 c0 c1 c2 c3 HK1 HS3 HB3
          have c0 : w2.cell? ⟨wo.heap.size, 0, none⟩ = some (.int .i64 a.f0) := (blk_cell HK2.out 0).trans rfl
          have c1 : w2.cell? ⟨wo.heap.size, 1, none⟩ = some (.int .i64 a.f1) := (blk_cell HK2.out 1).trans rfl
          have c2 : w2.cell? ⟨wo.heap.size, 2, none⟩ = some (.int .i64 a.f2) := (blk_cell HK2.out 2).trans rfl
          have c3 : w2.cell? ⟨wo.heap.size, 3, none⟩ = some (.int .i64 a.f3) := (blk_cell HK2.out 3).trans rfl
          cases hx : S a.f0 t with
          | false =>
            have HX := Aside0.mk hx
            clear hx
            go_wp2_with fail
            go_roundw
            case rel => exact ⟨t + 1, by omega, by go_num, by show _ = Value.int .i64 (base + (sumTo t (takeAt S a) + takeAt S a t)); unfold takeAt; rw [HX.out, Bool.false_and, if_neg (by decide), Int.add_zero], HK2, HS4, HB4⟩
            case measure => simp [intOf]; omega
          | true =>
            have HX := Aside0.mk hx
            clear hx
            go_wp2_with fail
            refine (has_calls a.f1 ((t : Int) + a.f3) (wf_i64 (by omega) (by omega)) (wf_i64 (by omega) (by have := HTF.out; omega)) _ HS4.out).mono ?_
            rintro e w3 ⟨rfl, hb3⟩
            have HK3 := Aside0.mk (HK2.out.below hb3)
            have HS5 := Aside0.mk (HS4.out.below hb3)
            have HB5 := Aside0.mk (below_then HB4.out HB4.out.size hb3)
            clear hb3 c0 c1 c2 c3 HK2 HS4 HB4
            have c0 : w3.cell? ⟨wo.heap.size, 0, none⟩ = some (.int .i64 a.f0) := (blk_cell HK3.out 0).trans rfl
            have c1 : w3.cell? ⟨wo.heap.size, 1, none⟩ = some (.int .i64 a.f1) := (blk_cell HK3.out 1).trans rfl
            have c2 : w3.cell? ⟨wo.heap.size, 2, none⟩ = some (.int .i64 a.f2) := (blk_cell HK3.out 2).trans rfl
            have c3 : w3.cell? ⟨wo.heap.size, 3, none⟩ = some (.int .i64 a.f3) := (blk_cell HK3.out 3).trans rfl
            cases hy : S a.f1 ((t : Int) + a.f3) with
            | true =>
              have HY := Aside0.mk hy
              clear hy
              go_wp2_with fail
              go_roundw
              case rel => exact ⟨t + 1, by omega, by go_num, by show _ = Value.int .i64 (base + (sumTo t (takeAt S a) + takeAt S a t)); unfold takeAt; rw [HX.out, HY.out, Bool.not_true, Bool.and_false, if_neg (by decide), Int.add_zero], HK3, HS5, HB5⟩
              case measure => simp [intOf]; omega
            | false =>
              have HY := Aside0.mk hy
              clear hy
              go_wp2_with fail
              go_roundw
              case rel => exact ⟨t + 1, by omega, by go_num, by show _ = Value.int .i64 (base + (sumTo t (takeAt S a) + takeAt S a t)); have e1 : takeAt S a t = a.f2 := (by unfold takeAt; rw [HX.out, HY.out, Bool.not_false, Bool.and_true, if_pos rfl]); rw [e1, ← Int.add_assoc], HK3, HS5, HB5⟩
              case measure => simp [intOf]; omega
        · have b1 : decide ((t : Int) + a.f3 ≤ h) = false := decide_eq_false (by unfold times at htl; omega)
          have HE : Aside0 (t = times h a) := ⟨by omega⟩
          have hts : t ≤ 2001 := by have := times_le HSM.out hh; omega
          have c0 : wr.cell? ⟨wo.heap.size, 0, none⟩ = some (.int .i64 a.f0) := (blk_cell HK.out 0).trans rfl
          have c1 : wr.cell? ⟨wo.heap.size, 1, none⟩ = some (.int .i64 a.f1) := (blk_cell HK.out 1).trans rfl
          have c2 : wr.cell? ⟨wo.heap.size, 2, none⟩ = some (.int .i64 a.f2) := (blk_cell HK.out 2).trans rfl
          have c3 : wr.cell? ⟨wo.heap.size, 3, none⟩ = some (.int .i64 a.f3) := (blk_cell HK.out 3).trans rfl
          go_wp2_with fail
          go_roundw
          case rel => exact ⟨k + 1, by omega, by go_num, by rw [HTK.out, takesL_snoc, HBS.out, HE.out]; rfl, HS2, HB2⟩
          case measure => simp [intOf]; omega
    · have e : k = l.length := by omega
      subst e
      have HT : Aside0 (l.take l.length = l) := ⟨List.take_length⟩
      go_wp2_with fail
      go_ret
      exact ⟨by rw [HT.out]; rfl, HB.out⟩
end Go.Proofs.Ytagppmdgmppmnaa.H

/- timecut's Check, as a plain function of lists of slots; the document's answer is this. -/
set_option linter.unusedVariables false
namespace Go.Proofs.Ytagppmdgmppmnaa.Q
open Go.RowKit Go.Proofs.YtagppmdgmppmnaaW.PrintWords Go.Proofs.YtagppmdgmppmnaaW.PrintLast Go.Proofs.YtagppmdgmppmnaaW.PrintMore Go.Proofs.Ytagppmdgmppmnaa.P
open Go.Proofs.Ytagppmdgmppmnaa.H
def spanErr (n : Int) (l : List S69) (s t h : Int) : Int := if endsErr n l s t = 0 then (if h < 0 then 1 else if h > 1024 then 2 else 0) else endsErr n l s t
theorem spanErr_ok {n : Int} {l : List S69} {s t h : Int} (e : spanErr n l s t h = 0) : NetOk n l ∧ EndsOk n s t ∧ 0 ≤ h ∧ h ≤ 1024 := by
  unfold spanErr at e
  split at e
  · have h2 := endsErr_ok (by assumption)
    split at e
    · omega
    · split at e
      · omega
      · exact ⟨h2.1, h2.2, by omega, by omega⟩
  · exact absurd e (by assumption)
theorem spanErr_mk {n : Int} {l : List S69} {s t h : Int} (hn : NetOk n l) (he : EndsOk n s t) (h0 : 0 ≤ h) (h1 : h ≤ 1024) : spanErr n l s t h = 0 := by
  unfold spanErr
  rw [if_pos (ends_of hn he), if_neg (by omega), if_neg (by omega)]
theorem horizon_eq (h : Int) : span_Horizon.f h = some (if h < 0 then 1 else if h > 1024 then 2 else 0) := by
  unfold span_Horizon.f
  split
  · rfl
  · split <;> rfl
theorem span_asked_ev (n : Int) (b : Bool) (l : List S69) (s t h : Int) : Ev (fun k => span_Asked.f k n b l s t h) (spanErr n l s t h) := by
  unfold span_Asked.f spanErr
  refine Ev.bind (ends_ev n b l s t) ?_
  refine Ev.ite (fun g => ?_) (fun g => ?_)
  · rw [if_pos g]
    exact Ev.call (horizon_eq h) (Ev.now _)
  · rw [if_neg g]
    exact Ev.now _
theorem ref_span_eq (h : Int) : ebbtideref12_Span.f h = some (if h < 0 then 1 else if h > 1024 then 2 else 0) := by
  unfold ebbtideref12_Span.f
  split
  · rfl
  · split <;> rfl
theorem ref_span_asked_ev (n : Int) (b : Bool) (l : List S69) (s t h : Int) : Ev (fun k => ebbtideref12_Asked.f k n b l s t h) (spanErr n l s t h) := by
  unfold ebbtideref12_Asked.f spanErr
  refine Ev.bind (ref_ends_ev n b l s t) ?_
  refine Ev.ite (fun g => ?_) (fun g => ?_)
  · rw [if_pos g]
    exact Ev.call (ref_span_eq h) (Ev.now _)
  · rw [if_neg g]
    exact Ev.now _
def endsN (S : Int → Int → Bool) (s t : Int) : Nat → Bool
  | 0 => true
  | k + 1 => endsN S s t k && (S s k && !S t k)
def risesAll (S : Int → Int → Bool) (h : Nat) : Nat → Bool
  | 0 => true
  | v + 1 => risesAll S h v && risesN S v h
def tcRes (n : Int) (p : Bool) (l : List S69) (s t h : Int) (x : List S59) : Int × Int :=
  if spanErr n l s t h = 0 then
    (if x.all (slotOkB n h) = true then
      (if endsN (hasL x) s t (h.toNat + 1) = true then (if p = true ∧ ¬ risesAll (hasL x) h.toNat n.toNat = true then (0, 181) else (takesL (hasL x) h l, 0)) else (0, 181))
     else (0, 180))
  else (0, spanErr n l s t h)
theorem rdSlot_nat (l : List S59) (i : Nat) : rd_T59 l (i : Int) = l.getD i z59 := by unfold rd_T59; rw [Int.toNat_natCast]

theorem slot_eq (n : Int) (b : Bool) (l : List S69) (h : Int) (s : S59) : ebbtideref15_Slot.f n b l h s.f0 s.f1 = some (slotOkB n h s) := by
  unfold ebbtideref15_Slot.f slotOkB
  split
  · split
    · split
      · congr 1; simp; omega
      · congr 1; simp; omega
    · congr 1; simp; omega
  · congr 1; simp; omega
theorem tslots_l0 (n : Int) (b : Bool) (l : List S69) (h : Int) (x : List S59) (hx : x.length ≤ 9223372036854775807) (d : Nat) : ∀ i : Nat, i + d = x.length →
    Ev (fun k => ebbtideref18_Slots.l0 k h x (i : Int) n b l) (if (x.drop i).all (slotOkB n h) = true then 0 else 180) := by
  induction d with
  | zero =>
    intro i hi
    refine Ev.succ ?_; simp only [ebbtideref18_Slots.l0]
    repeat (first | exact Ev.now _ | with_reducible refine Ev.pos (by first | assumption | omega) ?_ | with_reducible refine Ev.neg (by first | assumption | omega) ?_ | with_reducible refine Ev.let_ ?_)
    rw [List.drop_of_length_le (by omega)]
    exact Ev.now _
  | succ d ih =>
    intro i hi
    refine Ev.succ ?_; simp only [ebbtideref18_Slots.l0]
    repeat (first | exact Ev.now _ | with_reducible refine Ev.pos (by first | assumption | omega) ?_ | with_reducible refine Ev.neg (by first | assumption | omega) ?_ | with_reducible refine Ev.let_ ?_)
    rw [drop_getD x i z59 (by omega), rdSlot_nat, List.all_cons]
    refine Ev.call (slot_eq n b l h _) ?_
    refine Ev.ite (fun g => ?_) (fun g => ?_)
    · rw [g, Bool.true_and, wrap_succ (n := x.length) (by omega) (by omega)]
      exact ih (i + 1) (by omega)
    · exact Ev.done (by rw [Bool.eq_false_iff.2 g]; rfl)
theorem hasL_cons (s : S59) (x : List S59) (v a : Int) : hasL (s :: x) v a = (decide (s.f0 = v) && decide (s.f1 = a) || hasL x v a) := rfl
theorem thas_l0 (x : List S59) (v a : Int) (hx : x.length ≤ 9223372036854775807) (d : Nat) : ∀ i : Nat, i + d = x.length →
    Ev (fun k => ebbtideref18_Has.l0 k x v a (i : Int)) (hasL (x.drop i) v a) := by
  induction d with
  | zero =>
    intro i hi
    refine Ev.succ ?_; simp only [ebbtideref18_Has.l0]
    repeat (first | exact Ev.now _ | with_reducible refine Ev.pos (by first | assumption | omega) ?_ | with_reducible refine Ev.neg (by first | assumption | omega) ?_ | with_reducible refine Ev.let_ ?_)
    rw [List.drop_of_length_le (by omega)]
    exact Ev.now _
  | succ d ih =>
    intro i hi
    refine Ev.succ ?_; simp only [ebbtideref18_Has.l0]
    repeat (first | exact Ev.now _ | with_reducible refine Ev.pos (by first | assumption | omega) ?_ | with_reducible refine Ev.neg (by first | assumption | omega) ?_ | with_reducible refine Ev.let_ ?_)
    rw [drop_getD x i z59 (by omega), rdSlot_nat, hasL_cons, wrap_succ (n := x.length) (by omega) (by omega)]
    refine Ev.ite (fun g => ?_) (fun g => ?_)
    · refine Ev.ite (fun g2 => ?_) (fun g2 => ?_)
      · exact Ev.done (by rw [decide_eq_true g, decide_eq_true g2]; rfl)
      · exact Ev.eq (ih (i + 1) (by omega)) (by rw [decide_eq_false g2, Bool.and_false, Bool.false_or])
    · exact Ev.eq (ih (i + 1) (by omega)) (by rw [decide_eq_false g, Bool.false_and, Bool.false_or])
theorem thas_ev (x : List S59) (v a : Int) (hx : x.length ≤ 9223372036854775807) : Ev (fun k => ebbtideref18_Has.f k x v a) (hasL x v a) := by
  unfold ebbtideref18_Has.f
  exact Ev.eq (thas_l0 x v a hx x.length 0 (by omega)) (by rw [List.drop_zero])
theorem trises_l0 (x : List S59) (v : Int) (hx : x.length ≤ 9223372036854775807) (m : Nat) (hm : m ≤ 2000) (d : Nat) : ∀ i : Nat, i + d = m → risesN (hasL x) v i = true →
    Ev (fun k => ebbtideref18_Rises.l0 k x v (m : Int) (i : Int)) (risesN (hasL x) v m) := by
  induction d with
  | zero =>
    intro i hi hr
    refine Ev.succ ?_; simp only [ebbtideref18_Rises.l0]
    repeat (first | exact Ev.now _ | with_reducible refine Ev.pos (by first | assumption | omega) ?_ | with_reducible refine Ev.neg (by first | assumption | omega) ?_ | with_reducible refine Ev.let_ ?_)
    rw [show m = i by omega]
    exact Ev.done hr.symm
  | succ d ih =>
    intro i hi hr
    refine Ev.succ ?_; simp only [ebbtideref18_Rises.l0]
    refine Ev.pos (by omega) ?_
    rw [wrap_succ (n := m) (by omega) (by omega)]
    refine Ev.bind (thas_ev x v _ hx) ?_
    refine Ev.ite (fun g => ?_) (fun g => ?_)
    · refine Ev.bind (thas_ev x v _ hx) ?_
      refine Ev.ite (fun g2 => ?_) (fun g2 => ?_)
      · have g2' : hasL x v ((i : Int) + 1) = true := by rw [show (i : Int) + 1 = ((i + 1 : Nat) : Int) by omega]; exact g2
        exact ih (i + 1) (by omega) (by unfold risesN; rw [hr, g, g2']; rfl)
      · have g2' : hasL x v ((i : Int) + 1) = false := by rw [show (i : Int) + 1 = ((i + 1 : Nat) : Int) by omega]; exact Bool.eq_false_iff.2 g2
        exact Ev.done (rises_not (k := i) (by rw [g, g2']; rfl) m (by omega)).symm
    · exact ih (i + 1) (by omega) (by unfold risesN; rw [hr, Bool.eq_false_iff.2 g]; rfl)
theorem trises_ev (x : List S59) (v : Int) (hx : x.length ≤ 9223372036854775807) (h : Int) (h0 : 0 ≤ h) (hm : h ≤ 2000) : Ev (fun k => ebbtideref18_Rises.f k x v h) (risesN (hasL x) v h.toNat) := by
  unfold ebbtideref18_Rises.f
  have e : h = ((h.toNat : Nat) : Int) := by omega
  have := trises_l0 x v hx h.toNat (by omega) h.toNat 0 (by omega) rfl
  rw [← e] at this
  exact this
theorem all_l0 (n : Int) (b : Bool) (l : List S69) (hl : l.length ≤ 200) (d : Nat) : ∀ i : Nat, i + d = l.length →
    Ev (fun k => ebbtideref18_all.l0 k (List.replicate i true) (i : Int) n b l) (List.replicate l.length true) := by
  induction d with
  | zero =>
    intro i hi
    refine Ev.succ ?_; simp only [ebbtideref18_all.l0]
    repeat (first | exact Ev.now _ | with_reducible refine Ev.pos (by first | assumption | omega) ?_ | with_reducible refine Ev.neg (by first | assumption | omega) ?_ | with_reducible refine Ev.let_ ?_)
    rw [show l.length = i by omega]
    exact Ev.now _
  | succ d ih =>
    intro i hi
    refine Ev.succ ?_; simp only [ebbtideref18_all.l0]
    repeat (first | exact Ev.now _ | with_reducible refine Ev.pos (by first | assumption | omega) ?_ | with_reducible refine Ev.neg (by first | assumption | omega) ?_ | with_reducible refine Ev.let_ ?_)
    refine Ev.pos (by rw [List.length_replicate]; omega) ?_
    rw [wrap_succ (n := l.length) (by omega) (by omega)]
    have e : List.replicate i true ++ [true] = List.replicate (i + 1) true := by rw [List.replicate_succ']
    rw [e]
    exact ih (i + 1) (by omega)
theorem all_ev (n : Int) (b : Bool) (l : List S69) (hl : l.length ≤ 200) : Ev (fun k => ebbtideref18_all.f k n b l) (List.replicate l.length true) := by
  unfold ebbtideref18_all.f
  exact all_l0 n b l hl l.length 0 (by omega)
theorem arc_sm {n : Int} {a : S69} (h : ArcOk n a) (hn : n ≤ 50) : ArcSm a :=
  ⟨h.f0, h.f1, h.f2, h.f3, by have := h.h0; omega, by have := h.h1; omega, h.h2, h.h3⟩
theorem ttakes_l1 (n : Int) (b : Bool) (l : List S69) (hl : l.length ≤ 200) (h : Int) (hh : h ≤ 2000) (x : List S59) (hx : x.length ≤ 9223372036854775807) (i : Nat) (hi : i < l.length) (a : S69) (ha : ArcSm a) (base : Int) (hb0 : 0 ≤ base) (hb1 : base ≤ 419640115200) (r : Int)
    (next : Ev (fun k => ebbtideref18_Takes.l0 k h x (List.replicate l.length true) (base + takesA (hasL x) h a) ((i + 1 : Nat) : Int) n b l) r) (d : Nat) : ∀ t : Nat, t + d = times h a →
    Ev (fun k => ebbtideref18_Takes.l1 k h x (List.replicate l.length true) (base + sumTo t (takeAt (hasL x) a)) (i : Int) (t : Int) n b l a.f0 a.f1 a.f2 a.f3) r := by
  have p0 := ha.f0; have p1 := ha.f1; have p2 := ha.f2; have p3 := ha.f3
  have q0 := ha.h0; have q1 := ha.h1; have q2 := ha.h2; have q3 := ha.h3
  have ht2 := times_le ha hh
  induction d with
  | zero =>
    intro t ht
    refine Ev.succ ?_; simp only [ebbtideref18_Takes.l1]
    rw [wrap_id (x := (t : Int) + a.f3) (by omega) (by omega)]
    refine Ev.neg (by unfold times at ht; omega) ?_
    refine Ev.succ ?_; simp only [ebbtideref18_Takes.j2]
    refine Ev.neg (by decide) ?_
    rw [wrap_succ (n := l.length) (by omega) (by omega)]
    unfold takesA at next
    rw [show times h a = t by omega] at next
    exact next
  | succ d ih =>
    intro t ht
    have hs := sum_small (hasL x) ha t (by omega)
    refine Ev.succ ?_; simp only [ebbtideref18_Takes.l1]
    rw [wrap_id (x := (t : Int) + a.f3) (by omega) (by omega)]
    refine Ev.pos (by unfold times at ht; omega) (Ev.pos (by omega) (Ev.pos (by rw [List.length_replicate]; omega) ?_))
    have e : rdOf false (List.replicate l.length true) (i : Int) = true := by
      unfold rdOf
      rw [Int.toNat_natCast, List.getD_eq_getElem?_getD, List.getElem?_replicate, if_pos hi]
      rfl
    rw [e]
    have hn := ih (t + 1) (by omega)
    have e2 : sumTo (t + 1) (takeAt (hasL x) a) = sumTo t (takeAt (hasL x) a) + takeAt (hasL x) a t := rfl
    rw [e2] at hn
    refine Ev.succ ?_; simp only [ebbtideref18_Takes.j2]
    refine Ev.pos (by trivial) ?_
    rw [wrap_id (x := (t : Int) + a.f3) (by omega) (by omega), wrap_succ (n := 5000) (by omega) (by omega)]
    refine Ev.bind (thas_ev x _ _ hx) ?_
    refine Ev.ite (fun g => ?_) (fun g => ?_)
    · refine Ev.bind (thas_ev x _ _ hx) ?_
      refine Ev.ite (fun g2 => ?_) (fun g2 => ?_)
      · have e3 : takeAt (hasL x) a t = 0 := by unfold takeAt; rw [g, g2]; rfl
        rw [e3, Int.add_zero] at hn
        exact hn
      · have e3 : takeAt (hasL x) a t = a.f2 := by unfold takeAt; rw [g, Bool.eq_false_iff.2 g2]; rfl
        rw [e3, ← Int.add_assoc] at hn
        rw [wrap_id (by omega) (by omega)]
        exact hn
    · have e3 : takeAt (hasL x) a t = 0 := by unfold takeAt; rw [Bool.eq_false_iff.2 g]; rfl
      rw [e3, Int.add_zero] at hn
      exact hn
theorem ttakes_l0 (n : Int) (b : Bool) (l : List S69) (hl : l.length ≤ 200) (hA : ∀ a ∈ l, ArcSm a) (h : Int) (hh : h ≤ 2000) (x : List S59) (hx : x.length ≤ 9223372036854775807) (d : Nat) : ∀ i : Nat, i + d = l.length →
    Ev (fun k => ebbtideref18_Takes.l0 k h x (List.replicate l.length true) (takesL (hasL x) h (l.take i)) (i : Int) n b l) (takesL (hasL x) h l) := by
  induction d with
  | zero =>
    intro i hi
    refine Ev.succ ?_; simp only [ebbtideref18_Takes.l0]
    repeat (first | exact Ev.now _ | with_reducible refine Ev.pos (by first | assumption | omega) ?_ | with_reducible refine Ev.neg (by first | assumption | omega) ?_ | with_reducible refine Ev.let_ ?_)
    rw [List.take_of_length_le (by omega)]
    exact Ev.now _
  | succ d ih =>
    intro i hi
    have hil : i < l.length := by omega
    have hbase := takesL_small (hasL x) hh (l.take i) (fun a ha => hA a (List.mem_of_mem_take ha))
    have hbl : ((l.take i).length : Int) ≤ 200 := by simp; omega
    have hmem : l.getD i z69 ∈ l := getD_mem hil
    have htk : l.take (i + 1) = l.take i ++ [l.getD i z69] := by
      rw [List.take_succ_eq_append_getElem hil, List.getD_eq_getElem?_getD, List.getElem?_eq_getElem hil]; rfl
    have hn := ih (i + 1) (by omega)
    rw [htk, takesL_snoc] at hn
    have h1 := ttakes_l1 n b l hl h hh x hx i hil (l.getD i z69) (hA _ hmem) _ (by omega) (by omega) _ hn (times h (l.getD i z69)) 0 (by omega)
    refine Ev.succ ?_; simp only [ebbtideref18_Takes.l0]
    repeat (first | exact Ev.now _ | with_reducible refine Ev.pos (by first | assumption | omega) ?_ | with_reducible refine Ev.neg (by first | assumption | omega) ?_ | with_reducible refine Ev.let_ ?_)
    rw [rdArc_nat]
    simp only [sumTo, Int.add_zero] at h1
    exact h1
theorem ttakes_ev (n : Int) (b : Bool) (l : List S69) (hn : NetOk n l) (h : Int) (hh : h ≤ 2000) (x : List S59) (hx : x.length ≤ 9223372036854775807) :
    Ev (fun k => ebbtideref18_Takes.f k n b l h x (List.replicate l.length true)) (takesL (hasL x) h l) := by
  unfold ebbtideref18_Takes.f
  exact ttakes_l0 n b l hn.len (fun a ha => arc_sm (hn.arcs a ha) hn.hi) h hh x hx l.length 0 (by omega)
theorem ends_bad {S : Int → Int → Bool} {s t : Int} {k : Nat} (h : (S s k && !S t k) = false) : ∀ m, k < m → endsN S s t m = false
  | 0, hk => absurd hk (Nat.not_lt_zero _)
  | m + 1, hk => by
    unfold endsN
    by_cases e : k = m
    · subst e; rw [h]; simp
    · rw [ends_bad h m (by omega)]; rfl
theorem rises_bad {S : Int → Int → Bool} {h v : Nat} (hv : risesN S v h = false) : ∀ m, v < m → risesAll S h m = false
  | 0, hk => absurd hk (Nat.not_lt_zero _)
  | m + 1, hk => by
    unfold risesAll
    by_cases e : v = m
    · subst e; rw [hv]; simp
    · rw [rises_bad hv m (by omega)]; rfl
theorem tcheck_j2 (n : Int) (p : Bool) (l : List S69) (hn : NetOk n l) (h : Int) (h0 : 0 ≤ h) (hh : h ≤ 1024) (x : List S59) (hx : x.length ≤ 9223372036854775807) (v : Int) :
    Ev (fun k => ebbtideref18_Check.j2 k h x v false n p l) (takesL (hasL x) h l, 0) := by
  refine Ev.succ ?_; simp only [ebbtideref18_Check.j2]
  refine Ev.neg (by decide) ?_
  refine Ev.bind (all_ev n p l hn.len) ?_
  exact Ev.bind (ttakes_ev n p l hn h (by omega) x hx) (Ev.now _)
theorem tcheck_l1 (n : Int) (p : Bool) (l : List S69) (hn : NetOk n l) (h : Int) (h0 : 0 ≤ h) (hh : h ≤ 1024) (x : List S59) (hx : x.length ≤ 9223372036854775807) (d : Nat) : ∀ v : Nat, v + d = n.toNat → (p = true → risesAll (hasL x) h.toNat v = true) →
    Ev (fun k => ebbtideref18_Check.l1 k h x (v : Int) n p l) (if p = true ∧ ¬ risesAll (hasL x) h.toNat n.toNat = true then (0, 181) else (takesL (hasL x) h l, 0)) := by
  have := hn.lo
  have := hn.hi
  induction d with
  | zero =>
    intro v hv hr
    refine Ev.succ ?_; simp only [ebbtideref18_Check.l1]
    refine Ev.neg (by omega) ?_
    rw [if_neg (by rw [show n.toNat = v by omega]; exact fun ⟨a, b⟩ => b (hr a))]
    exact tcheck_j2 n p l hn h h0 hh x hx _
  | succ d ih =>
    intro v hv hr
    refine Ev.succ ?_; simp only [ebbtideref18_Check.l1]
    refine Ev.pos (by omega) ?_
    cases p with
    | false =>
      rw [if_neg (by simp)]
      exact tcheck_j2 n false l hn h h0 hh x hx _
    | true =>
      obtain ⟨R, hR⟩ : ∃ R, (if true = true ∧ ¬ risesAll (hasL x) h.toNat n.toNat = true then ((0 : Int), (181 : Int)) else (takesL (hasL x) h l, 0)) = R := ⟨_, rfl⟩
      rw [hR] at ih ⊢
      refine Ev.succ ?_; simp only [ebbtideref18_Check.j2]
      refine Ev.pos (by trivial) ?_
      refine Ev.bind (trises_ev x _ hx h h0 (by omega)) ?_
      refine Ev.ite (fun g => ?_) (fun g => ?_)
      · rw [wrap_succ (n := n.toNat) (by omega) (by omega)]
        exact ih (v + 1) (by omega) (fun _ => by unfold risesAll; rw [hr rfl, g]; rfl)
      · rw [if_pos ⟨rfl, by rw [rises_bad (Bool.eq_false_iff.2 g) n.toNat (by omega)]; decide⟩] at hR
        exact Ev.done hR
theorem tcheck_l0 (n : Int) (p : Bool) (l : List S69) (hn : NetOk n l) (s t : Int) (h : Int) (h0 : 0 ≤ h) (hh : h ≤ 1024) (x : List S59) (hx : x.length ≤ 9223372036854775807) (d : Nat) : ∀ i : Nat, i + d = h.toNat + 1 → endsN (hasL x) s t i = true →
    Ev (fun k => ebbtideref18_Check.l0 k s t h x (i : Int) n p l)
      (if endsN (hasL x) s t (h.toNat + 1) = true then (if p = true ∧ ¬ risesAll (hasL x) h.toNat n.toNat = true then (0, 181) else (takesL (hasL x) h l, 0)) else (0, 181)) := by
  induction d with
  | zero =>
    intro i hi he
    refine Ev.succ ?_; simp only [ebbtideref18_Check.l0]
    refine Ev.neg (by omega) ?_
    rw [show h.toNat + 1 = i by omega, if_pos he]
    exact tcheck_l1 n p l hn h h0 hh x hx n.toNat 0 (by omega) (fun _ => rfl)
  | succ d ih =>
    intro i hi he
    refine Ev.succ ?_; simp only [ebbtideref18_Check.l0]
    refine Ev.pos (by omega) ?_
    refine Ev.bind (thas_ev x _ _ hx) ?_
    refine Ev.ite (fun g => ?_) (fun g => ?_)
    · refine Ev.bind (thas_ev x _ _ hx) ?_
      refine Ev.ite (fun g2 => ?_) (fun g2 => ?_)
      · exact Ev.done (by rw [if_neg (by rw [ends_bad (k := i) (by rw [g, g2]; rfl) (h.toNat + 1) (by omega)]; decide)])
      · rw [wrap_succ (n := h.toNat + 1) (by omega) (by omega)]
        exact ih (i + 1) (by omega) (by unfold endsN; rw [he, g, Bool.eq_false_iff.2 g2]; rfl)
    · exact Ev.done (by rw [if_neg (by rw [ends_bad (k := i) (by rw [Bool.eq_false_iff.2 g]; rfl) (h.toNat + 1) (by omega)]; decide)])
theorem tcheck_ev (n : Int) (p : Bool) (l : List S69) (s t h : Int) (x : List S59) (hx : x.length ≤ 9223372036854775807) : Ev (fun k => ebbtideref18_Check.f k n p l s t h x) (tcRes n p l s t h x) := by
  unfold ebbtideref18_Check.f tcRes
  refine Ev.bind (ref_span_asked_ev n p l s t h) ?_
  refine Ev.ite (fun g => ?_) (fun g => ?_)
  · rw [if_pos g]
    obtain ⟨hn, he, h0, hh⟩ := spanErr_ok g
    refine Ev.bind (a := if x.all (slotOkB n h) = true then 0 else 180) (Ev.eq (tslots_l0 n p l h x hx x.length 0 (by omega)) (by rw [List.drop_zero])) ?_
    by_cases g2 : x.all (slotOkB n h) = true
    · rw [if_pos g2, if_pos g2]
      exact Ev.pos rfl (tcheck_l0 n p l hn s t h h0 hh x hx (h.toNat + 1) 0 (by omega) rfl)
    · rw [if_neg g2, if_neg g2]
      exact Ev.neg (by decide) (Ev.now _)
  · rw [if_neg g]
    exact Ev.now _
end Go.Proofs.Ytagppmdgmppmnaa.Q
