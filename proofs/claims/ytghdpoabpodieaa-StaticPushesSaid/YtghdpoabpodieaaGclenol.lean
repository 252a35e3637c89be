/- Joined by wip/tool/bundle.py out of: P22 P23 P24 QOpen QBase QNet P26 QFlow QAwake07. -/
import Derived.Test.YtghdpoabpodieaaGajlpje
import Derived.Test.YtghdpoabpodieaaGkgobec
import Derived.Test.YtghdpoabpodieaaV
import Derived.Deep.Slices
import Derived.Deep.Fields
import Derived.ChangeSame
import Derived.ChangeArms
import Derived.OpenShut
-- Laid by wip/tool/mk.py, by the kit's print.py, for all laws of this seat in one namespace; a function told as by hand has a proof of this session's own.
namespace Go.Proofs.Ytghdpoabpodieaa.P
open Go.RowKit Go.Proofs.YtghdpoabpodieaaW.PrintWords Go.Proofs.YtghdpoabpodieaaW.PrintLast Go.Proofs.YtghdpoabpodieaaW.PrintMore
attribute [local go_sem] max2_int min2_int max_two min_two max_three min_three max_four min_four   -- for this text's walks alone
set_option linter.unusedVariables false
set_option linter.unusedSimpArgs false

/-! ### static_Push: function 16 -/
def static_Push.l0 : Nat → Int → List (S41) → Int → Int → Int → Bool → List (S48) → Int → Bool → List (S48) → List Int → Option (List Int × Int)
 | 0, _, _, _, _, _, _, _, _, _, _, _ => none
 | k + 1, x3, x26, x27, x28, x192000, x192001, x192002, x197000, x197001, x197002, x197003 => if x28 < x27 then (if 0 ≤ x28 then (if x28 < (x26.length : Int) then ((static_arc.f x192000 x192001 x192002 ((rd_T41 x26 x28).f0) ((rd_T41 x26 x28).f1)).bind fun t199 => (if t199 = true then ((static_Flowing_Room.f x197000 x197001 x197002 x197003 ((rd_T41 x26 x28).f0) ((rd_T41 x26 x28).f1)).bind fun t200 => (if t200 < x3 then (some (([] : List Int), 71)) else ((static_Flowing_Go.f x197000 x197001 x197002 x197003 ((rd_T41 x26 x28).f0) ((rd_T41 x26 x28).f1) x3).bind fun t201 => (static_Push.l0 k x3 x26 x27 (wrap64 (x28 + 1)) x192000 x192001 x192002 x197000 x197001 x197002 t201)))) else (some (([] : List Int), 1)))) else (none)) else (none)) else (some (x197003, 0))
def static_Push.f (k : Nat) (a0_0 : Int) (a0_1 : Bool) (l0_2 : List (S48)) (l1 : List Int) (l2 : List (S41)) (a3 : Int) : Option (List Int × Int) := (static_Asked.f k a0_0 a0_1 l0_2 l1).bind fun t192 => (if t192 = 0 then (if a3 < 0 then (some (([] : List Int), 1)) else ((slices_Clone_int_int.f l1).bind fun t193 => (static_Push.l0 k a3 l2 (l2.length : Int) 0 a0_0 a0_1 l0_2 a0_0 a0_1 l0_2 t193))) else (some (([] : List Int), t192)))
theorem static_Push.mono_l : ∀ k, (∀ y0 y1 y2 y3 y4 y5 y6 y7 y8 y9 y10, LeO (static_Push.l0 k y0 y1 y2 y3 y4 y5 y6 y7 y8 y9 y10) (static_Push.l0 (k + 1) y0 y1 y2 y3 y4 y5 y6 y7 y8 y9 y10))
 | 0 => fun _ _ _ _ _ _ _ _ _ _ _ r h => by simp [static_Push.l0] at h
 | k + 1 => by
  have ih0 := static_Push.mono_l k
  ·intro y0 y1 y2 y3 y4 y5 y6 y7 y8 y9 y10
   unfold static_Push.l0
   repeat' first
   | (with_reducible exact ih0 _ _ _ _ _ _ _ _ _ _ _)
   | (with_reducible exact static_Asked.mono _ _ _ _ _)
   | (with_reducible exact LeO.refl _)
   | (with_reducible exact LeO.none _)
   | (with_reducible refine LeO.ite ?_ ?_)
   | (with_reducible refine LeO.bind ?_ (fun _ => ?_))
   | exact ih0 _ _ _ _ _ _ _ _ _ _ _
   | exact static_Asked.mono _ _ _ _ _
   | exact LeO.none _
   | refine LeO.ite ?_ ?_
   | refine LeO.bind ?_ (fun _ => ?_)
theorem static_Push.mono : ∀ a0 a1 a2 a3 a4 a5 k, LeO (static_Push.f k a0 a1 a2 a3 a4 a5) (static_Push.f (k + 1) a0 a1 a2 a3 a4 a5) := by
 intro a0 a1 a2 a3 a4 a5 k
 have ih0 := static_Push.mono_l k
 unfold static_Push.f
 repeat' first
   | (with_reducible exact ih0 _ _ _ _ _ _ _ _ _ _ _)
   | (with_reducible exact static_Asked.mono _ _ _ _ _)
   | (with_reducible exact LeO.refl _)
   | (with_reducible exact LeO.none _)
   | (with_reducible refine LeO.ite ?_ ?_)
   | (with_reducible refine LeO.bind ?_ (fun _ => ?_))
   | exact ih0 _ _ _ _ _ _ _ _ _ _ _
   | exact static_Asked.mono _ _ _ _ _
   | exact LeO.none _
   | refine LeO.ite ?_ ?_
   | refine LeO.bind ?_ (fun _ => ?_)
set_option maxHeartbeats 8000000 in
set_option maxRecDepth 100000 in
theorem static_Push.calls (k : Nat) (a0_0 : Int) (a0_1 : Bool) (A0_2 : Option Addr) (c0_2 : Nat) (l0_2 : List (S48)) (A1 : Option Addr) (c1 : Nat) (l1 : List Int) (A2 : Option Addr) (c2 : Nat) (l2 : List (S41)) (a3 : Int) (r1 : List Int) (r2 : Int) (w : World) (hr0_2 : Kd.C k48 w A0_2 l0_2.length l0_2) (hc0_2 : l0_2.length ≤ c0_2) (hr1 : Kd.C (Kd.int .i64) w A1 l1.length l1) (hc1 : l1.length ≤ c1) (hr2 : Kd.C k41 w A2 l2.length l2) (hc2 : l2.length ≤ c2) (h : static_Push.f k a0_0 a0_1 l0_2 l1 l2 a3 = some (r1, r2)) :
  Calls Try.prog 16 #[.agg #[.int .i64 a0_0, .bool a0_1, .slice A0_2 l0_2.length c0_2], .slice A1 l1.length c1, .slice A2 l2.length c2, .int .i64 a3] w fun e w' => ∃ v0_ : Value, e = .returned (.tuple #[v0_, .int .i64 r2]) ∧ Kd.R (Kd.int .i64) 3 w' w.heap.size (fun _ => True) v0_ r1 ∧ Below w.heap.size w w' := by
 have hu24 := Try.underlying24
 have hu56 := Try.underlying56
 have hu41 := Try.underlying41
 have HR0_2 := Aside0.mk hr0_2
 have HC0_2 := Aside0.mk hc0_2
 clear hr0_2 hc0_2
 have HR1 := Aside0.mk hr1
 have HC1 := Aside0.mk hc1
 clear hr1 hc1
 have HR2 := Aside0.mk hr2
 have HC2 := Aside0.mk hc2
 clear hr2 hc2
 have HB := Aside0.mk (Below.refl w.heap.size w)
 have H : ((static_Asked.f k a0_0 a0_1 l0_2 l1).bind fun t192 => (if t192 = 0 then (if a3 < 0 then (some (([] : List Int), 1)) else ((slices_Clone_int_int.f l1).bind fun t193 => (static_Push.l0 k a3 l2 (l2.length : Int) 0 a0_0 a0_1 l0_2 a0_0 a0_1 l0_2 t193))) else (some (([] : List Int), t192)))) = some (r1, r2) := h
 clear h
 replace H := Option.bind_eq_some_iff.mp H
 obtain ⟨t192, A50, H⟩ := H
 replace H : (if t192 = 0 then (if a3 < 0 then (some (([] : List Int), 1)) else ((slices_Clone_int_int.f l1).bind fun t193 => (static_Push.l0 k a3 l2 (l2.length : Int) 0 a0_0 a0_1 l0_2 a0_0 a0_1 l0_2 t193))) else (some (([] : List Int), t192))) = some (r1, r2) := H
 have A5 := Aside0.mk A50
 clear A50
 by_cases c6 : t192 = 0
 ·rw [if_pos c6] at H
  have c6b0 : (t192 == 0) = true := beq_iff_eq.mpr c6
  have c6b1 : (t192 != 0) = false := bne_eq_false_iff_eq.mpr c6
  clear c6
  by_cases c7 : a3 < 0
  ·rw [if_pos c7] at H
   have c7b0 : decide (a3 < 0) = true := decide_eq_true c7
   clear c7
   simp only [Option.some.injEq, Prod.mk.injEq] at H
   obtain ⟨rfl, rfl⟩ := H
   go_enter Try.func16, Try.ntmps16
   go_wp2_with (first | ((with_reducible refine gate_dst (N := 4) rfl ?_); refine box_event ?hg (N := 4) ?hd (cs := #[.int .i64 a0_0, .bool a0_1, .slice A0_2 l0_2.length c0_2]) (t := 24) ?hr ?_; (case hd => rfl); (case hg => rfl); (case hr => first | (go_simp; done) | (go_simp; rfl)); intro gb191 hg w8 hbox hb; have n0_ := Aside0.mk (below_step (by repeat (first | (with_reducible first | exact HB.out | apply below_alloc | apply pw_below_drewN | apply below_drew1) | exact HB.out)) hb); have n1_ := Aside0.mk (hbox); have n2_ := Aside0.mk ((by rw [hg]; exact (below_size (by repeat (first | (with_reducible first | exact HB.out | apply below_alloc | apply pw_below_drewN | apply below_drew1) | exact HB.out))) : w.heap.size ≤ gb191)); have n3_ := Aside0.mk ((by rw [hg]; exact (below_size (by repeat (first | (with_reducible first | exact HB.out | apply below_alloc | apply pw_below_drewN | apply below_drew1) | exact HB.out))) : w.heap.size ≤ gb191)); clear HB; have HB := n0_; have BK191 := n1_; have GW191 := n2_; have GE191 := n3_; clear n0_ n1_ n2_ n3_; clear hb hbox hg; have hcz9_0 : w8.cell? ⟨gb191, 0, none⟩ = some (.int .i64 a0_0) := (blk_cell BK191.out 0).trans rfl; have hcz9_1 : w8.cell? ⟨gb191, 1, none⟩ = some (.bool a0_1) := (blk_cell BK191.out 1).trans rfl; have hcz9_2 : w8.cell? ⟨gb191, 2, none⟩ = some (.slice A0_2 l0_2.length c0_2) := (blk_cell BK191.out 2).trans rfl; have hfz9_0 := blk_frozen BK191.out 0; have hfz9_1 := blk_frozen BK191.out 1; have hfz9_2 := blk_frozen BK191.out 2) | ((with_reducible refine gate_callee (f := 23) rfl ?_); refine goesL_ (some 16) rfl rfl Try.func23 (by kernel_rfl) rfl #[.agg #[.int .i64 a0_0, .bool a0_1, .slice A0_2 l0_2.length c0_2], .slice A1 l1.length c1] rfl (by (try simp only [List.map_toArray, List.map_cons, List.map_nil]); first | done | rfl | (simp only [List.length_drop, List.length_take]; rfl)) ?_; (with_reducible refine (static_Asked.calls k a0_0 a0_1 _ _ l0_2 _ _ l1 t192 _ ?side1 ?side2 ?side3 ?side4 A5.out).mono ?_); (case side1 => repeat (first | exact (Kd.C_below HR0_2.out HB.out) | (with_reducible refine Kd.C_alloc ?_ _) | (with_reducible refine Kd.C_drewN ?_ _) | (with_reducible refine Kd.C_drew ?_))); (case side2 => exact HC0_2.out); (case side3 => repeat (first | exact (Kd.C_below HR1.out HB.out) | (with_reducible refine Kd.C_alloc ?_ _) | (with_reducible refine Kd.C_drewN ?_ _) | (with_reducible refine Kd.C_drew ?_))); (case side4 => exact HC1.out); rintro e w10 ⟨rfl, hb⟩; refine ⟨_, rfl, ?_⟩; have n0_ := Aside0.mk (blk_below (g := gb191) (o := .cells #[.int .i64 a0_0, .bool a0_1, .slice A0_2 l0_2.length c0_2] 24 (0, 0)) (by (with_reducible repeat (first | refine blk_drewN ?_ _ | refine blk_drew ?_ | refine blk_alloc ?_ _)); exact BK191.out) hb); have n1_ := Aside0.mk (below_step (by repeat (first | (with_reducible first | exact HB.out | apply below_alloc | apply pw_below_drewN | apply below_drew1 | refine below_set ?_ GE191.out) | exact HB.out)) hb); clear BK191; clear HB; have BK191 := n0_; have HB := n1_; clear n0_ n1_; (try clear hb); (try clear hb2); (try clear hk); (try clear hi)))
   go_ret2
   exact ⟨_, by first | rfl | (simp [errW_none, errW_some] <;> rfl) | (simp [*, errW_none, errW_some] <;> rfl), by first | exact Kd.R_nil _ _ _ _ _ | exact Kd.N_nil _ _ _ _ _ | exact Kd.V_nil _ _ _ _ _ | exact Kd.Q_nil _ _ _ _ _ | exact Kd.S_nil _ _ _ _ _, by repeat (first | (with_reducible first | exact HB.out | apply below_alloc | apply pw_below_drewN | apply below_drew1 | refine below_set ?_ GE191.out) | exact HB.out)⟩
  ·rw [if_neg c7] at H
   have c7b0 : decide (a3 < 0) = false := decide_eq_false c7
   clear c7
   replace H := Option.bind_eq_some_iff.mp H
   obtain ⟨t193, A110, H⟩ := H
   replace H : (static_Push.l0 k a3 l2 (l2.length : Int) 0 a0_0 a0_1 l0_2 a0_0 a0_1 l0_2 t193) = some (r1, r2) := H
   have A11 := Aside0.mk A110
   clear A110
   have H' := Aside0.mk H
   clear H
   go_enter Try.func16, Try.ntmps16
   try go_wp2_with (first | ((with_reducible refine gate_dst (N := 4) rfl ?_); refine box_event ?hg (N := 4) ?hd (cs := #[.int .i64 a0_0, .bool a0_1, .slice A0_2 l0_2.length c0_2]) (t := 24) ?hr ?_; (case hd => rfl); (case hg => rfl); (case hr => first | (go_simp; done) | (go_simp; rfl)); intro gb191 hg w12 hbox hb; have n0_ := Aside0.mk (below_step (by repeat (first | (with_reducible first | exact HB.out | apply below_alloc | apply pw_below_drewN | apply below_drew1) | exact HB.out)) hb); have n1_ := Aside0.mk (hbox); have n2_ := Aside0.mk ((by rw [hg]; exact (below_size (by repeat (first | (with_reducible first | exact HB.out | apply below_alloc | apply pw_below_drewN | apply below_drew1) | exact HB.out))) : w.heap.size ≤ gb191)); have n3_ := Aside0.mk ((by rw [hg]; exact (below_size (by repeat (first | (with_reducible first | exact HB.out | apply below_alloc | apply pw_below_drewN | apply below_drew1) | exact HB.out))) : w.heap.size ≤ gb191)); clear HB; have HB := n0_; have BK191 := n1_; have GW191 := n2_; have GE191 := n3_; clear n0_ n1_ n2_ n3_; clear hb hbox hg; have hcz13_0 : w12.cell? ⟨gb191, 0, none⟩ = some (.int .i64 a0_0) := (blk_cell BK191.out 0).trans rfl; have hcz13_1 : w12.cell? ⟨gb191, 1, none⟩ = some (.bool a0_1) := (blk_cell BK191.out 1).trans rfl; have hcz13_2 : w12.cell? ⟨gb191, 2, none⟩ = some (.slice A0_2 l0_2.length c0_2) := (blk_cell BK191.out 2).trans rfl; have hfz13_0 := blk_frozen BK191.out 0; have hfz13_1 := blk_frozen BK191.out 1; have hfz13_2 := blk_frozen BK191.out 2) | ((with_reducible refine gate_callee (f := 23) rfl ?_); refine goesL_ (some 16) rfl rfl Try.func23 (by kernel_rfl) rfl #[.agg #[.int .i64 a0_0, .bool a0_1, .slice A0_2 l0_2.length c0_2], .slice A1 l1.length c1] rfl (by (try simp only [List.map_toArray, List.map_cons, List.map_nil]); first | done | rfl | (simp only [List.length_drop, List.length_take]; rfl)) ?_; (with_reducible refine (static_Asked.calls k a0_0 a0_1 _ _ l0_2 _ _ l1 t192 _ ?side1 ?side2 ?side3 ?side4 A5.out).mono ?_); (case side1 => repeat (first | exact (Kd.C_below HR0_2.out HB.out) | (with_reducible refine Kd.C_alloc ?_ _) | (with_reducible refine Kd.C_drewN ?_ _) | (with_reducible refine Kd.C_drew ?_))); (case side2 => exact HC0_2.out); (case side3 => repeat (first | exact (Kd.C_below HR1.out HB.out) | (with_reducible refine Kd.C_alloc ?_ _) | (with_reducible refine Kd.C_drewN ?_ _) | (with_reducible refine Kd.C_drew ?_))); (case side4 => exact HC1.out); rintro e w14 ⟨rfl, hb⟩; refine ⟨_, rfl, ?_⟩; have n0_ := Aside0.mk (blk_below (g := gb191) (o := .cells #[.int .i64 a0_0, .bool a0_1, .slice A0_2 l0_2.length c0_2] 24 (0, 0)) (by (with_reducible repeat (first | refine blk_drewN ?_ _ | refine blk_drew ?_ | refine blk_alloc ?_ _)); exact BK191.out) hb); have n1_ := Aside0.mk (below_step (by repeat (first | (with_reducible first | exact HB.out | apply below_alloc | apply pw_below_drewN | apply below_drew1 | refine below_set ?_ GE191.out) | exact HB.out)) hb); clear BK191; clear HB; have BK191 := n0_; have HB := n1_; clear n0_ n1_; (try clear hb); (try clear hb2); (try clear hk); (try clear hi)))
   have n0_ := Aside0.mk (blk_drew BK191.out)
   have n1_ := Aside0.mk (below_drew1 HB.out)
   clear BK191
   clear HB
   have BK191 := n0_
   have HB := n1_
   clear n0_ n1_
   refine start_ (n := 6) (S := fun w' => w'.cell? ⟨gb191, 0, none⟩ = some (.int .i64 a0_0) ∧ w'.cell? ⟨gb191, 1, none⟩ = some (.bool a0_1) ∧ w'.cell? ⟨gb191, 2, none⟩ = some (.slice A0_2 l0_2.length c0_2)) (ds := []) #[false, false, false, false, false, false] (by kernel_rfl) rfl rfl ⟨(blk_cell BK191.out 0).trans rfl, (blk_cell BK191.out 1).trans rfl, (blk_cell BK191.out 2).trans rfl⟩ (fun hHeld => ?_)
   generalize w14.drew = w15 at BK191 HB hHeld ⊢
   refine pure_ (i := 1) (N := some 23) (v := ?_) (a' := ?_) #[false, true, false, false, false, false] rfl rfl (by kernel_rfl) (fun _ _ _ h => h) (Or.inl ⟨by rfl, ?_⟩) ?_ ?_
   rotate_left
   ·intro w'
    go_simp
    with_reducible rfl
   rotate_left
   ·simp only [Act.put, List.setIfInBounds_toArray, List.set_cons_zero, List.set_cons_succ, i64_w, i32_w]
    rfl
   refine take_ (i := 0) (N := some 22) (v := ?_) (a' := ?_) #[true, true, false, false, false, false] rfl rfl (by kernel_rfl) (fun _ _ _ h => h) (Or.inl ⟨by rfl, ?_⟩) hHeld ?_ ?_
   rotate_left
   ·rintro w' ⟨s0, s1, s2⟩
    go_simp
    with_reducible rfl
   rotate_left
   ·simp only [Act.put, List.setIfInBounds_toArray, List.set_cons_zero, List.set_cons_succ, i64_w, i32_w]
    rfl
   refine join_ (σ := Value × Nat) 1 #[true, true, true, true, true, false] (fun s_ => [(24, s_.1), (11, .pointer (some ⟨s_.2, 0, none⟩)), (25, .agg #[.int .i64 a0_0, .bool a0_1, .slice A0_2 l0_2.length c0_2, s_.1])]) (fun s_ w' => (w'.cell? ⟨gb191, 0, none⟩ = some (.int .i64 a0_0) ∧ w'.cell? ⟨gb191, 1, none⟩ = some (.bool a0_1) ∧ w'.cell? ⟨gb191, 2, none⟩ = some (.slice A0_2 l0_2.length c0_2)) ∧ (Kd.R (Kd.int .i64) 3 w' w.heap.size (fun _ => True) s_.1 t193) ∧ (w'.heap[gb191]? = some (.cells #[.int .i64 a0_0, .bool a0_1, .slice A0_2 l0_2.length c0_2] 24 (0, 0))) ∧ (w'.heap[s_.2]? = some (.cells #[.int .i64 0, .bool false, .slice none 0 0, .slice none 0 0] 56 (0, 0))) ∧ (w.heap.size ≤ s_.2) ∧ (w.heap.size ≤ s_.2) ∧ (gb191 ≠ s_.2) ∧ (s_.2 ≠ gb191) ∧ (Below w.heap.size w w')) ?_ ?_
   rotate_left
   ·intro hCont
    refine two_ (i := 2) (j := 4) (Ni := some 24) (Nj := some 11) #[true, true, true, false, false, false] #[true, true, false, false, true, false] rfl rfl rfl rfl (by kernel_rfl) (by decide) (by decide) (fun K hK => ?_) (fun K hK => ?_)
    ·skip
     refine goes_ Try.func30 (by kernel_rfl) rfl #[.slice A1 l1.length c1] (by rfl) rfl rfl (by (try simp only [List.map_toArray, List.map_cons, List.map_nil]); first | done | rfl | (simp only [List.length_drop, List.length_take]; rfl)) ?_
     with_reducible refine (slices_Clone_int_int.calls _ _ l1 t193 _ ?side1 ?side2 A11.out).mono ?_
     (case side1 => repeat (first | exact (Kd.C_below HR1.out HB.out) | (with_reducible refine Kd.C_alloc ?_ _) | (with_reducible refine Kd.C_drewN ?_ _) | (with_reducible refine Kd.C_drew ?_)))
     (case side2 => exact HC1.out)
     rintro e w16 ⟨v194, rfl, ho0, hb⟩
     refine ⟨_, rfl, ?_⟩
     have n0_ := Aside0.mk (Kd.R_lower ho0 (below_size (by repeat (first | (with_reducible first | exact HB.out | apply below_alloc | apply pw_below_drewN | apply below_drew1 | refine below_set ?_ GE191.out) | exact HB.out))))
     have n1_ := Aside0.mk (blk_below (g := gb191) (o := .cells #[.int .i64 a0_0, .bool a0_1, .slice A0_2 l0_2.length c0_2] 24 (0, 0)) (by (with_reducible repeat (first | refine blk_drewN ?_ _ | refine blk_drew ?_ | refine blk_alloc ?_ _)); exact BK191.out) hb)
     have n2_ := Aside0.mk (below_step (by repeat (first | (with_reducible first | exact HB.out | apply below_alloc | apply pw_below_drewN | apply below_drew1 | refine below_set ?_ GE191.out) | exact HB.out)) hb)
     clear BK191
     clear HB
     have HO195 := n0_
     have BK191 := n1_
     have HB := n2_
     clear n0_ n1_ n2_
     (try clear hb)
     (try clear hb2)
     (try clear hk)
     (try clear hi)
     (try clear ho0)
     obtain ⟨Ao17, co17, eo17⟩ := Kd.R_slice HO195.out
     (first | subst eo17 | (injection eo17 with f1_ f2_ f3_; have f4_ := f1_.symm; have f5_ := f3_.symm; clear f1_ f2_ f3_; subst f4_; subst f5_))
     refine hK.out _ _ ⟨(blk_cell BK191.out 0).trans rfl, (blk_cell BK191.out 1).trans rfl, (blk_cell BK191.out 2).trans rfl⟩ (fun hHeld => ?_)
     clear hK K
     refine norm_ (a' := ?_) ?_ ?_
     rotate_left
     ·show Act.put _ (some 24) _ = _
      simp only [Act.put, List.setIfInBounds_toArray, List.set_cons_zero, List.set_cons_succ, i64_w, i32_w]
      rfl
     refine pure_ (i := 3) (N := some 25) (v := ?_) (a' := ?_) #[true, true, true, true, false, false] rfl rfl (by kernel_rfl) (fun _ _ _ h => h) (Or.inl ⟨by rfl, ?_⟩) ?_ ?_
     rotate_left
     ·intro w'
      go_simp
      with_reducible rfl
     rotate_left
     ·simp only [Act.put, List.setIfInBounds_toArray, List.set_cons_zero, List.set_cons_succ, i64_w, i32_w]
      rfl
     refine one_ (i := 4) (N := some 11) #[true, true, true, true, true, false] rfl rfl (by kernel_rfl) (by decide) (fun K hK => ?_)
     refine box_step ?hg (N := 11) ?hd (cs := #[.int .i64 0, .bool false, .slice none 0 0, .slice none 0 0]) (t := 56) ?hr ?_; (case hd => rfl); (case hg => rfl); (case hr => first | (go_simp; done) | (go_simp; rfl))
     intro gb196 hg w18 hbox hb
     have n0_ := Aside0.mk (Kd.R_below (by (with_reducible repeat (first | apply Kd.R_alloc | apply Kd.R_drewN | apply Kd.R_drew)); exact HO195.out) hb)
     have n1_ := Aside0.mk (blk_below (g := gb191) (o := .cells #[.int .i64 a0_0, .bool a0_1, .slice A0_2 l0_2.length c0_2] 24 (0, 0)) (by (with_reducible repeat (first | refine blk_drewN ?_ _ | refine blk_drew ?_ | refine blk_alloc ?_ _)); exact BK191.out) hb)
     have n2_ := Aside0.mk (below_step (by repeat (first | (with_reducible first | exact HB.out | apply below_alloc | apply pw_below_drewN | apply below_drew1 | refine below_set ?_ GE191.out) | exact HB.out)) hb)
     have n3_ := Aside0.mk (hbox)
     have n4_ := Aside0.mk ((by rw [hg]; exact (below_size (by repeat (first | (with_reducible first | exact HB.out | apply below_alloc | apply pw_below_drewN | apply below_drew1 | refine below_set ?_ GE191.out) | exact HB.out))) : w.heap.size ≤ gb196))
     have n5_ := Aside0.mk ((by rw [hg]; exact (below_size (by repeat (first | (with_reducible first | exact HB.out | apply below_alloc | apply pw_below_drewN | apply below_drew1 | refine below_set ?_ GE191.out) | exact HB.out))) : w.heap.size ≤ gb196))
     have n6_ := Aside0.mk ((by rw [hg]; exact Nat.ne_of_lt (blk_lt (g := gb191) (o := .cells #[.int .i64 a0_0, .bool a0_1, .slice A0_2 l0_2.length c0_2] 24 (0, 0)) (by (with_reducible repeat (first | refine blk_drewN ?_ _ | refine blk_drew ?_ | refine blk_alloc ?_ _)); exact BK191.out)) : gb191 ≠ gb196))
     have n7_ := Aside0.mk ((by rw [hg]; exact Nat.ne_of_gt (blk_lt (g := gb191) (o := .cells #[.int .i64 a0_0, .bool a0_1, .slice A0_2 l0_2.length c0_2] 24 (0, 0)) (by (with_reducible repeat (first | refine blk_drewN ?_ _ | refine blk_drew ?_ | refine blk_alloc ?_ _)); exact BK191.out)) : gb196 ≠ gb191))
     clear HO195
     clear BK191
     clear HB
     have HO195 := n0_
     have BK191 := n1_
     have HB := n2_
     have BK196 := n3_
     have GW196 := n4_
     have GE196 := n5_
     have NB191_196 := n6_
     have NB196_191 := n7_
     clear n0_ n1_ n2_ n3_ n4_ n5_ n6_ n7_
     clear hb hbox hg
     refine hK.out _ _ ⟨(blk_cell BK191.out 0).trans rfl, (blk_cell BK191.out 1).trans rfl, (blk_cell BK191.out 2).trans rfl⟩ (fun hHeld => ?_)
     clear hK K
     refine norm_ (a' := ?_) ?_ ?_
     rotate_left
     ·show Act.put _ (some 11) _ = _
      simp only [Act.put, List.setIfInBounds_toArray, List.set_cons_zero, List.set_cons_succ, i64_w, i32_w]
      rfl
     exact norm_ (by simp only [putAll, Act.put, List.setIfInBounds_toArray, List.set_cons_zero, List.set_cons_succ]) (hCont (.slice Ao17 t193.length co17, gb196) _ ⟨hHeld, (by (with_reducible repeat (first | apply Kd.R_alloc | apply Kd.R_drewN | apply Kd.R_drew)); exact HO195.out), (by (with_reducible repeat (first | refine blk_drewN ?_ _ | refine blk_drew ?_ | refine blk_alloc ?_ _)); exact BK191.out), (by (with_reducible repeat (first | refine blk_drewN ?_ _ | refine blk_drew ?_ | refine blk_alloc ?_ _)); exact BK196.out), GW196.out, GE196.out, NB191_196.out, NB196_191.out, (by repeat (first | (with_reducible first | exact HB.out | apply below_alloc | apply pw_below_drewN | apply below_drew1 | refine below_set ?_ GE191.out | refine below_set ?_ GE196.out) | exact HB.out))⟩)
    ·skip
     refine box_step ?hg (N := 11) ?hd (cs := #[.int .i64 0, .bool false, .slice none 0 0, .slice none 0 0]) (t := 56) ?hr ?_; (case hd => rfl); (case hg => rfl); (case hr => first | (go_simp; done) | (go_simp; rfl))
     intro gb196 hg w16 hbox hb
     have n0_ := Aside0.mk (blk_below (g := gb191) (o := .cells #[.int .i64 a0_0, .bool a0_1, .slice A0_2 l0_2.length c0_2] 24 (0, 0)) (by (with_reducible repeat (first | refine blk_drewN ?_ _ | refine blk_drew ?_ | refine blk_alloc ?_ _)); exact BK191.out) hb)
     have n1_ := Aside0.mk (below_step (by repeat (first | (with_reducible first | exact HB.out | apply below_alloc | apply pw_below_drewN | apply below_drew1 | refine below_set ?_ GE191.out) | exact HB.out)) hb)
     have n2_ := Aside0.mk (hbox)
     have n3_ := Aside0.mk ((by rw [hg]; exact (below_size (by repeat (first | (with_reducible first | exact HB.out | apply below_alloc | apply pw_below_drewN | apply below_drew1 | refine below_set ?_ GE191.out) | exact HB.out))) : w.heap.size ≤ gb196))
     have n4_ := Aside0.mk ((by rw [hg]; exact (below_size (by repeat (first | (with_reducible first | exact HB.out | apply below_alloc | apply pw_below_drewN | apply below_drew1 | refine below_set ?_ GE191.out) | exact HB.out))) : w.heap.size ≤ gb196))
     have n5_ := Aside0.mk ((by rw [hg]; exact Nat.ne_of_lt (blk_lt (g := gb191) (o := .cells #[.int .i64 a0_0, .bool a0_1, .slice A0_2 l0_2.length c0_2] 24 (0, 0)) (by (with_reducible repeat (first | refine blk_drewN ?_ _ | refine blk_drew ?_ | refine blk_alloc ?_ _)); exact BK191.out)) : gb191 ≠ gb196))
     have n6_ := Aside0.mk ((by rw [hg]; exact Nat.ne_of_gt (blk_lt (g := gb191) (o := .cells #[.int .i64 a0_0, .bool a0_1, .slice A0_2 l0_2.length c0_2] 24 (0, 0)) (by (with_reducible repeat (first | refine blk_drewN ?_ _ | refine blk_drew ?_ | refine blk_alloc ?_ _)); exact BK191.out)) : gb196 ≠ gb191))
     clear BK191
     clear HB
     have BK191 := n0_
     have HB := n1_
     have BK196 := n2_
     have GW196 := n3_
     have GE196 := n4_
     have NB191_196 := n5_
     have NB196_191 := n6_
     clear n0_ n1_ n2_ n3_ n4_ n5_ n6_
     clear hb hbox hg
     refine hK.out _ _ ⟨(blk_cell BK191.out 0).trans rfl, (blk_cell BK191.out 1).trans rfl, (blk_cell BK191.out 2).trans rfl⟩ (fun hHeld => ?_)
     clear hK K
     refine norm_ (a' := ?_) ?_ ?_
     rotate_left
     ·show Act.put _ (some 11) _ = _
      simp only [Act.put, List.setIfInBounds_toArray, List.set_cons_zero, List.set_cons_succ, i64_w, i32_w]
      rfl
     refine one_ (i := 2) (N := some 24) #[true, true, true, false, true, false] rfl rfl (by kernel_rfl) (by decide) (fun K hK => ?_)
     refine goes_ Try.func30 (by kernel_rfl) rfl #[.slice A1 l1.length c1] (by rfl) rfl rfl (by (try simp only [List.map_toArray, List.map_cons, List.map_nil]); first | done | rfl | (simp only [List.length_drop, List.length_take]; rfl)) ?_
     with_reducible refine (slices_Clone_int_int.calls _ _ l1 t193 _ ?side1 ?side2 A11.out).mono ?_
     (case side1 => repeat (first | exact (Kd.C_below HR1.out HB.out) | (with_reducible refine Kd.C_alloc ?_ _) | (with_reducible refine Kd.C_drewN ?_ _) | (with_reducible refine Kd.C_drew ?_)))
     (case side2 => exact HC1.out)
     rintro e w17 ⟨v194, rfl, ho0, hb⟩
     refine ⟨_, rfl, ?_⟩
     have n0_ := Aside0.mk (Kd.R_lower ho0 (below_size (by repeat (first | (with_reducible first | exact HB.out | apply below_alloc | apply pw_below_drewN | apply below_drew1 | refine below_set ?_ GE191.out | refine below_set ?_ GE196.out) | exact HB.out))))
     have n1_ := Aside0.mk (blk_below (g := gb191) (o := .cells #[.int .i64 a0_0, .bool a0_1, .slice A0_2 l0_2.length c0_2] 24 (0, 0)) (by (with_reducible repeat (first | refine blk_drewN ?_ _ | refine blk_drew ?_ | refine blk_alloc ?_ _)); exact BK191.out) hb)
     have n2_ := Aside0.mk (blk_below (g := gb196) (o := .cells #[.int .i64 0, .bool false, .slice none 0 0, .slice none 0 0] 56 (0, 0)) (by (with_reducible repeat (first | refine blk_drewN ?_ _ | refine blk_drew ?_ | refine blk_alloc ?_ _)); exact BK196.out) hb)
     have n3_ := Aside0.mk (below_step (by repeat (first | (with_reducible first | exact HB.out | apply below_alloc | apply pw_below_drewN | apply below_drew1 | refine below_set ?_ GE191.out | refine below_set ?_ GE196.out) | exact HB.out)) hb)
     clear BK191
     clear BK196
     clear HB
     have HO195 := n0_
     have BK191 := n1_
     have BK196 := n2_
     have HB := n3_
     clear n0_ n1_ n2_ n3_
     (try clear hb)
     (try clear hb2)
     (try clear hk)
     (try clear hi)
     (try clear ho0)
     obtain ⟨Ao18, co18, eo18⟩ := Kd.R_slice HO195.out
     (first | subst eo18 | (injection eo18 with f1_ f2_ f3_; have f4_ := f1_.symm; have f5_ := f3_.symm; clear f1_ f2_ f3_; subst f4_; subst f5_))
     refine hK.out _ _ ⟨(blk_cell BK191.out 0).trans rfl, (blk_cell BK191.out 1).trans rfl, (blk_cell BK191.out 2).trans rfl⟩ (fun hHeld => ?_)
     clear hK K
     refine norm_ (a' := ?_) ?_ ?_
     rotate_left
     ·show Act.put _ (some 24) _ = _
      simp only [Act.put, List.setIfInBounds_toArray, List.set_cons_zero, List.set_cons_succ, i64_w, i32_w]
      rfl
     refine pure_ (i := 3) (N := some 25) (v := ?_) (a' := ?_) #[true, true, true, true, true, false] rfl rfl (by kernel_rfl) (fun _ _ _ h => h) (Or.inl ⟨by rfl, ?_⟩) ?_ ?_
     rotate_left
     ·intro w'
      go_simp
      with_reducible rfl
     rotate_left
     ·simp only [Act.put, List.setIfInBounds_toArray, List.set_cons_zero, List.set_cons_succ, i64_w, i32_w]
      rfl
     exact norm_ (by simp only [putAll, Act.put, List.setIfInBounds_toArray, List.set_cons_zero, List.set_cons_succ]) (hCont (.slice Ao18 t193.length co18, gb196) _ ⟨hHeld, (by (with_reducible repeat (first | apply Kd.R_alloc | apply Kd.R_drewN | apply Kd.R_drew)); exact HO195.out), (by (with_reducible repeat (first | refine blk_drewN ?_ _ | refine blk_drew ?_ | refine blk_alloc ?_ _)); exact BK191.out), (by (with_reducible repeat (first | refine blk_drewN ?_ _ | refine blk_drew ?_ | refine blk_alloc ?_ _)); exact BK196.out), GW196.out, GE196.out, NB191_196.out, NB196_191.out, (by repeat (first | (with_reducible first | exact HB.out | apply below_alloc | apply pw_below_drewN | apply below_drew1 | refine below_set ?_ GE191.out | refine below_set ?_ GE196.out) | exact HB.out))⟩)
   rintro ⟨v194, gb196⟩ w19 ⟨hS_, h0_, h1_, h2_, h3_, h4_, h5_, h6_, h7_⟩
   have n0_ : Aside0 (Kd.R (Kd.int .i64) 3 w19 w.heap.size (fun _ => True) v194 t193) := ⟨h0_⟩
   have n1_ : Aside0 (w19.heap[gb191]? = some (.cells #[.int .i64 a0_0, .bool a0_1, .slice A0_2 l0_2.length c0_2] 24 (0, 0))) := ⟨h1_⟩
   have n2_ : Aside0 (w19.heap[gb196]? = some (.cells #[.int .i64 0, .bool false, .slice none 0 0, .slice none 0 0] 56 (0, 0))) := ⟨h2_⟩
   have n3_ : Aside0 (w.heap.size ≤ gb196) := ⟨h3_⟩
   have n4_ : Aside0 (w.heap.size ≤ gb196) := ⟨h4_⟩
   have n5_ : Aside0 (gb191 ≠ gb196) := ⟨h5_⟩
   have n6_ : Aside0 (gb196 ≠ gb191) := ⟨h6_⟩
   have n7_ : Aside0 (Below w.heap.size w w19) := ⟨h7_⟩
   clear BK191
   clear HB
   clear h0_ h1_ h2_ h3_ h4_ h5_ h6_ h7_
   have HO195 := n0_
   have BK191 := n1_
   have BK196 := n2_
   have GW196 := n3_
   have GE196 := n4_
   have NB191_196 := n5_
   have NB196_191 := n6_
   have HB := n7_
   clear n0_ n1_ n2_ n3_ n4_ n5_ n6_ n7_
   have hHeld : w19.cell? ⟨gb191, 0, none⟩ = some (.int .i64 a0_0) ∧ w19.cell? ⟨gb191, 1, none⟩ = some (.bool a0_1) ∧ w19.cell? ⟨gb191, 2, none⟩ = some (.slice A0_2 l0_2.length c0_2) := hS_
   obtain ⟨Ao20, co20, eo20⟩ := Kd.R_slice HO195.out
   (first | subst eo20 | (injection eo20 with f1_ f2_ f3_; have f4_ := f1_.symm; have f5_ := f3_.symm; clear f1_ f2_ f3_; subst f4_; subst f5_))
   refine norm_ (a' := ?_) ?_ ?_
   rotate_left
   ·simp only [putAll, Act.put, List.setIfInBounds_toArray, List.set_cons_zero, List.set_cons_succ]
    rfl
   refine one_ (i := 5) (N := none) #[true, true, true, true, true, true] rfl rfl (by kernel_rfl) (by decide) (fun K hK => ?_)
   have hs21 : w19.cell? ⟨gb196, 0, none⟩ = some (.int .i64 0) := (blk_cell BK196.out 0).trans rfl
   have hfs21 := blk_frozen BK196.out 0
   have hns21_0 := NB191_196.out
   have hms21_0 := NB196_191.out
   have hs22 : w19.cell? ⟨gb196, 1, none⟩ = some (.bool false) := (blk_cell BK196.out 1).trans rfl
   have hfs22 := blk_frozen BK196.out 1
   have hns22_0 := NB191_196.out
   have hms22_0 := NB196_191.out
   have hs23 : w19.cell? ⟨gb196, 2, none⟩ = some (.slice none 0 0) := (blk_cell BK196.out 2).trans rfl
   have hfs23 := blk_frozen BK196.out 2
   have hns23_0 := NB191_196.out
   have hms23_0 := NB196_191.out
   have hs24 : w19.cell? ⟨gb196, 3, none⟩ = some (.slice none 0 0) := (blk_cell BK196.out 3).trans rfl
   have hfs24 := blk_frozen BK196.out 3
   have hns24_0 := NB191_196.out
   have hms24_0 := NB196_191.out
   refine skip_ (w1 := ?_) (by rfl) rfl ?_ ?_
   rotate_left
   ·go_simp
    rfl
   refine hK.out _ _ ⟨((cell_far (p := ⟨gb196, _, none⟩) NB191_196.out _).trans (((cell_far (p := ⟨gb196, _, none⟩) NB191_196.out _).trans (((cell_far (p := ⟨gb196, _, none⟩) NB191_196.out _).trans (((cell_far (p := ⟨gb196, _, none⟩) NB191_196.out _).trans (hHeld.1)))))))), ((cell_far (p := ⟨gb196, _, none⟩) NB191_196.out _).trans (((cell_far (p := ⟨gb196, _, none⟩) NB191_196.out _).trans (((cell_far (p := ⟨gb196, _, none⟩) NB191_196.out _).trans (((cell_far (p := ⟨gb196, _, none⟩) NB191_196.out _).trans (hHeld.2.1)))))))), ((cell_far (p := ⟨gb196, _, none⟩) NB191_196.out _).trans (((cell_far (p := ⟨gb196, _, none⟩) NB191_196.out _).trans (((cell_far (p := ⟨gb196, _, none⟩) NB191_196.out _).trans (((cell_far (p := ⟨gb196, _, none⟩) NB191_196.out _).trans (hHeld.2.2))))))))⟩ (fun hHeld => ?_)
   clear hK K
   refine done_ (by kernel_rfl) ?_
   try go_wp2
   go_loopg [28] k (fun kq v28 w' => ∃ (x28_1 : Int) (x197003_1 : List Int) (u197003 : Value), v28 = .int .i64 x28_1 ∧ Aside0 (static_Push.l0 kq a3 l2 (l2.length : Int) x28_1 a0_0 a0_1 l0_2 a0_0 a0_1 l0_2 x197003_1 = some (r1, r2)) ∧ Aside0 (kq ≤ k) ∧ Aside0 (Kd.R (Kd.int .i64) 3 w' w.heap.size (fun _ => True) u197003 x197003_1) ∧ Aside0 (w'.heap[gb191]? = some (.cells #[.int .i64 a0_0, .bool a0_1, (.slice A0_2 l0_2.length c0_2)] 24 (0, 0))) ∧ Aside0 (w'.heap[gb196]? = some (.cells #[.int .i64 a0_0, .bool a0_1, (.slice A0_2 l0_2.length c0_2), u197003] 56 (0, 0))) ∧ Aside0 (Below w.heap.size w w'))
   case atStart => exact ⟨(0), (t193), (.slice Ao20 t193.length co20), (by first | rfl | (simp; done) | (simp [*]; done)), H', ⟨Nat.le_refl _⟩, ⟨by (with_reducible repeat (first | apply Kd.R_alloc | apply Kd.R_drewN | apply Kd.R_drew)); exact Kd.R_mono (Kd.R_far (p := ⟨gb196, 3, none⟩) (Kd.R_far (p := ⟨gb196, 2, none⟩) (Kd.R_far (p := ⟨gb196, 1, none⟩) (Kd.R_far (p := ⟨gb196, 0, none⟩) (Kd.R_types HO195.out BK196.out (by decide)) (fun _ hk => hk.2) (.int .i64 a0_0)) (fun _ hk => hk.2) (.bool a0_1)) (fun _ hk => hk.2) (.slice A0_2 l0_2.length c0_2)) (fun _ hk => hk.2) (.slice Ao20 t193.length co20)) (fun _ hk => trivial)⟩, ⟨by (with_reducible repeat (first | refine blk_drewN ?_ _ | refine blk_drew ?_ | refine blk_alloc ?_ _)); refine blk_far ?_ NB191_196.out _; (with_reducible repeat (first | refine blk_drewN ?_ _ | refine blk_drew ?_ | refine blk_alloc ?_ _)); refine blk_far ?_ NB191_196.out _; (with_reducible repeat (first | refine blk_drewN ?_ _ | refine blk_drew ?_ | refine blk_alloc ?_ _)); refine blk_far ?_ NB191_196.out _; (with_reducible repeat (first | refine blk_drewN ?_ _ | refine blk_drew ?_ | refine blk_alloc ?_ _)); refine blk_far ?_ NB191_196.out _; (with_reducible repeat (first | refine blk_drewN ?_ _ | refine blk_drew ?_ | refine blk_alloc ?_ _)); exact BK191.out⟩, ⟨by (with_reducible repeat (first | refine blk_drewN ?_ _ | refine blk_drew ?_ | refine blk_alloc ?_ _)); refine blk_put (cs := #[.int .i64 a0_0, .bool a0_1, .slice A0_2 l0_2.length c0_2, .slice none 0 0]) ?_ 3 _ rfl; (with_reducible repeat (first | refine blk_drewN ?_ _ | refine blk_drew ?_ | refine blk_alloc ?_ _)); refine blk_put (cs := #[.int .i64 a0_0, .bool a0_1, .slice none 0 0, .slice none 0 0]) ?_ 2 _ rfl; (with_reducible repeat (first | refine blk_drewN ?_ _ | refine blk_drew ?_ | refine blk_alloc ?_ _)); refine blk_put (cs := #[.int .i64 a0_0, .bool false, .slice none 0 0, .slice none 0 0]) ?_ 1 _ rfl; (with_reducible repeat (first | refine blk_drewN ?_ _ | refine blk_drew ?_ | refine blk_alloc ?_ _)); refine blk_put (cs := #[.int .i64 0, .bool false, .slice none 0 0, .slice none 0 0]) ?_ 0 _ rfl; (with_reducible repeat (first | refine blk_drewN ?_ _ | refine blk_drew ?_ | refine blk_alloc ?_ _)); exact BK196.out⟩, ⟨by repeat (first | (with_reducible first | exact HB.out | apply below_alloc | apply pw_below_drewN | apply below_drew1 | refine below_set ?_ GE191.out | refine below_set ?_ GE196.out) | exact HB.out)⟩⟩
   case round =>
    clear H'
    try clear c1
    try clear c2
    try clear p2
    try clear c3
    try clear c6
    try clear c6b0
    try clear c6b1
    try clear c7
    try clear c7b0
    try clear c16
    try clear c23
    try clear hcz13_0
    try clear hcz13_1
    try clear hcz13_2
    try clear hcz9_0
    try clear hcz9_1
    try clear hcz9_2
    try clear hfz13_0
    try clear hfz13_1
    try clear hfz13_2
    try clear hfz9_0
    try clear hfz9_1
    try clear hfz9_2
    obtain ⟨x28_1, x197003_1, u197003, rfl, HA, HK1, HO_197003, BK191, BK196, HB⟩ := hrel
    cases gk with
    | zero => exact absurd HA.out (by simp [static_Push.l0])
    | succ k1 =>
     have H := HA.out
     clear HA
     simp only [static_Push.l0] at H
     by_cases c25 : x28_1 < (l2.length : Int)
     ·rw [if_pos c25] at H
      have c25b0 : decide (x28_1 < (l2.length : Int)) = true := decide_eq_true c25
      clear c25
      by_cases c26 : 0 ≤ x28_1
      ·rw [if_pos c26] at H
       have c26b0 : decide (0 ≤ x28_1) = true := decide_eq_true c26
       clear c26
       by_cases c27 : x28_1 < (l2.length : Int)
       ·rw [if_pos c27] at H
        have c27b0 : decide (x28_1 < (l2.length : Int)) = true := decide_eq_true c27
        clear c27
        replace H := Option.bind_eq_some_iff.mp H
        obtain ⟨t199, A280, H⟩ := H
        replace H : (if t199 = true then ((static_Flowing_Room.f a0_0 a0_1 l0_2 x197003_1 ((rd_T41 l2 x28_1).f0) ((rd_T41 l2 x28_1).f1)).bind fun t200 => (if t200 < a3 then (some (([] : List Int), 71)) else ((static_Flowing_Go.f a0_0 a0_1 l0_2 x197003_1 ((rd_T41 l2 x28_1).f0) ((rd_T41 l2 x28_1).f1) a3).bind fun t201 => (static_Push.l0 k1 a3 l2 (l2.length : Int) (wrap64 (x28_1 + 1)) a0_0 a0_1 l0_2 a0_0 a0_1 l0_2 t201)))) else (some (([] : List Int), 1))) = some (r1, r2) := H
        have A28 := Aside0.mk A280
        clear A280
        by_cases c29 : t199 = true
        ·subst c29
         have H1 : ((static_Flowing_Room.f a0_0 a0_1 l0_2 x197003_1 ((rd_T41 l2 x28_1).f0) ((rd_T41 l2 x28_1).f1)).bind fun t200 => (if t200 < a3 then (some (([] : List Int), 71)) else ((static_Flowing_Go.f a0_0 a0_1 l0_2 x197003_1 ((rd_T41 l2 x28_1).f0) ((rd_T41 l2 x28_1).f1) a3).bind fun t201 => (static_Push.l0 k1 a3 l2 (l2.length : Int) (wrap64 (x28_1 + 1)) a0_0 a0_1 l0_2 a0_0 a0_1 l0_2 t201)))) = some (r1, r2) := by rw [if_pos rfl] at H; exact H
         clear H
         have H := H1
         clear H1
         replace H := Option.bind_eq_some_iff.mp H
         obtain ⟨t200, A300, H⟩ := H
         replace H : (if t200 < a3 then (some (([] : List Int), 71)) else ((static_Flowing_Go.f a0_0 a0_1 l0_2 x197003_1 ((rd_T41 l2 x28_1).f0) ((rd_T41 l2 x28_1).f1) a3).bind fun t201 => (static_Push.l0 k1 a3 l2 (l2.length : Int) (wrap64 (x28_1 + 1)) a0_0 a0_1 l0_2 a0_0 a0_1 l0_2 t201))) = some (r1, r2) := H
         have A30 := Aside0.mk A300
         clear A300
         by_cases c31 : t200 < a3
         ·rw [if_pos c31] at H
          have c31b0 : decide (t200 < a3) = true := decide_eq_true c31
          clear c31
          simp only [Option.some.injEq, Prod.mk.injEq] at H
          obtain ⟨rfl, rfl⟩ := H
          have p197 : 0 ≤ (x28_1 : Int) := of_decide_eq_true (by first | (with_reducible assumption) | assumption)
          have q197 : x28_1 < (l2.length : Int) := of_decide_eq_true (by first | (with_reducible assumption) | assumption)
          obtain ⟨ad197, e197, hx197_0, hx197_1⟩ := at_T41 HR2.out x28_1 p197 q197
          cases e197
          replace hx197_0 := (HB.out.cell (World.block_lt_of_cell? w _ hx197_0)).trans hx197_0
          replace hx197_1 := (HB.out.cell (World.block_lt_of_cell? w _ hx197_1)).trans hx197_1
          replace p197 := eq_true p197
          replace q197 := eq_true q197
          go_wp2_with (first | ((with_reducible refine gate_dst (N := 13) rfl ?_); refine box_event ?hg (N := 13) ?hd (cs := #[.int .i64 0, .bool false]) (t := 41) ?hr ?_; (case hd => rfl); (case hg => rfl); (case hr => first | (go_simp; done) | (go_simp; rfl)); intro gb198 hg w32 hbox hb; have n0_ := Aside0.mk (Kd.R_below (by (with_reducible repeat (first | apply Kd.R_alloc | apply Kd.R_drewN | apply Kd.R_drew)); exact HO_197003.out) hb); have n1_ := Aside0.mk (blk_below (g := gb191) (o := .cells #[.int .i64 a0_0, .bool a0_1, .slice A0_2 l0_2.length c0_2] 24 (0, 0)) (by (with_reducible repeat (first | refine blk_drewN ?_ _ | refine blk_drew ?_ | refine blk_alloc ?_ _)); exact BK191.out) hb); have n2_ := Aside0.mk (blk_below (g := gb196) (o := .cells #[.int .i64 a0_0, .bool a0_1, .slice A0_2 l0_2.length c0_2, u197003] 56 (0, 0)) (by (with_reducible repeat (first | refine blk_drewN ?_ _ | refine blk_drew ?_ | refine blk_alloc ?_ _)); exact BK196.out) hb); have n3_ := Aside0.mk (below_step (by repeat (first | (with_reducible first | exact HB.out | apply below_alloc | apply pw_below_drewN | apply below_drew1 | refine below_set ?_ GE191.out | refine below_set ?_ GE196.out) | exact HB.out)) hb); have n4_ := Aside0.mk (hbox); have n5_ := Aside0.mk ((by rw [hg]; exact (below_size (by repeat (first | (with_reducible first | exact HB.out | apply below_alloc | apply pw_below_drewN | apply below_drew1 | refine below_set ?_ GE191.out | refine below_set ?_ GE196.out) | exact HB.out))) : w.heap.size ≤ gb198)); have n6_ := Aside0.mk ((by rw [hg]; exact (below_size (by repeat (first | (with_reducible first | exact HB.out | apply below_alloc | apply pw_below_drewN | apply below_drew1 | refine below_set ?_ GE191.out | refine below_set ?_ GE196.out) | exact HB.out))) : w.heap.size ≤ gb198)); have n7_ := Aside0.mk ((by rw [hg]; exact Nat.ne_of_lt (blk_lt (g := gb191) (o := .cells #[.int .i64 a0_0, .bool a0_1, .slice A0_2 l0_2.length c0_2] 24 (0, 0)) (by (with_reducible repeat (first | refine blk_drewN ?_ _ | refine blk_drew ?_ | refine blk_alloc ?_ _)); exact BK191.out)) : gb191 ≠ gb198)); have n8_ := Aside0.mk ((by rw [hg]; exact Nat.ne_of_gt (blk_lt (g := gb191) (o := .cells #[.int .i64 a0_0, .bool a0_1, .slice A0_2 l0_2.length c0_2] 24 (0, 0)) (by (with_reducible repeat (first | refine blk_drewN ?_ _ | refine blk_drew ?_ | refine blk_alloc ?_ _)); exact BK191.out)) : gb198 ≠ gb191)); have n9_ := Aside0.mk ((by rw [hg]; exact Nat.ne_of_lt (blk_lt (g := gb196) (o := .cells #[.int .i64 a0_0, .bool a0_1, .slice A0_2 l0_2.length c0_2, u197003] 56 (0, 0)) (by (with_reducible repeat (first | refine blk_drewN ?_ _ | refine blk_drew ?_ | refine blk_alloc ?_ _)); exact BK196.out)) : gb196 ≠ gb198)); have n10_ := Aside0.mk ((by rw [hg]; exact Nat.ne_of_gt (blk_lt (g := gb196) (o := .cells #[.int .i64 a0_0, .bool a0_1, .slice A0_2 l0_2.length c0_2, u197003] 56 (0, 0)) (by (with_reducible repeat (first | refine blk_drewN ?_ _ | refine blk_drew ?_ | refine blk_alloc ?_ _)); exact BK196.out)) : gb198 ≠ gb196)); clear HO_197003; clear BK191; clear BK196; clear HB; have HO_197003 := n0_; have BK191 := n1_; have BK196 := n2_; have HB := n3_; have BK198 := n4_; have GW198 := n5_; have GE198 := n6_; have NB191_198 := n7_; have NB198_191 := n8_; have NB196_198 := n9_; have NB198_196 := n10_; clear n0_ n1_ n2_ n3_ n4_ n5_ n6_ n7_ n8_ n9_ n10_; clear hb hbox hg; have hnb33 := NB198_191.out; have hnc33 := NB191_198.out; have hnb34 := NB198_196.out; have hnc34 := NB196_198.out; have hcz35_0 : w32.cell? ⟨gb198, 0, none⟩ = some (.int .i64 0) := (blk_cell BK198.out 0).trans rfl; have hcz35_1 : w32.cell? ⟨gb198, 1, none⟩ = some (.bool false) := (blk_cell BK198.out 1).trans rfl; have hfz35_0 := blk_frozen BK198.out 0; have hfz35_1 := blk_frozen BK198.out 1; have hnb36 := NB191_196.out; have hnc36 := NB196_191.out; have hcz37_0 : w32.cell? ⟨gb191, 0, none⟩ = some (.int .i64 a0_0) := (blk_cell BK191.out 0).trans rfl; have hcz37_1 : w32.cell? ⟨gb191, 1, none⟩ = some (.bool a0_1) := (blk_cell BK191.out 1).trans rfl; have hcz37_2 : w32.cell? ⟨gb191, 2, none⟩ = some (.slice A0_2 l0_2.length c0_2) := (blk_cell BK191.out 2).trans rfl; have hfz37_0 := blk_frozen BK191.out 0; have hfz37_1 := blk_frozen BK191.out 1; have hfz37_2 := blk_frozen BK191.out 2) | ((with_reducible refine gate_callee (f := 31) rfl ?_); refine goesL_ (some 34) rfl rfl Try.func31 (by kernel_rfl) rfl #[.agg #[.int .i64 a0_0, .bool a0_1, .slice A0_2 l0_2.length c0_2], .agg #[.int .i64 ((rd_T41 l2 x28_1).f0), .bool ((rd_T41 l2 x28_1).f1)]] rfl (by (try simp only [List.map_toArray, List.map_cons, List.map_nil]); first | done | rfl | (simp only [List.length_drop, List.length_take]; rfl)) ?_; (with_reducible refine (static_arc.calls a0_0 a0_1 _ _ l0_2 ((rd_T41 l2 x28_1).f0) ((rd_T41 l2 x28_1).f1) true _ ?side1 ?side2 A28.out).mono ?_); (case side1 => exact Kd.C_below HR0_2.out (by repeat (first | (with_reducible first | exact HB.out | apply below_alloc | apply pw_below_drewN | apply below_drew1 | refine below_set ?_ GE191.out | refine below_set ?_ GE196.out | refine below_set ?_ GE198.out) | exact HB.out))); (case side2 => exact HC0_2.out); rintro e w38 ⟨rfl, hb⟩; refine ⟨_, rfl, ?_⟩; have n0_ := Aside0.mk (Kd.R_below (by (with_reducible repeat (first | apply Kd.R_alloc | apply Kd.R_drewN | apply Kd.R_drew)); exact (Kd.R_mono (Kd.R_far (p := ⟨gb198, 1, none⟩) (Kd.R_far (p := ⟨gb198, 0, none⟩) (Kd.R_types HO_197003.out BK198.out (by decide)) (fun _ hk => hk.2) (.int .i64 ((rd_T41 l2 x28_1).f0))) (fun _ hk => hk.2) (.bool ((rd_T41 l2 x28_1).f1))) (fun _ h_ => h_.1))) hb); have n1_ := Aside0.mk (blk_below (g := gb191) (o := .cells #[.int .i64 a0_0, .bool a0_1, .slice A0_2 l0_2.length c0_2] 24 (0, 0)) (by (with_reducible repeat (first | refine blk_drewN ?_ _ | refine blk_drew ?_ | refine blk_alloc ?_ _)); refine blk_far ?_ NB191_198.out _; (with_reducible repeat (first | refine blk_drewN ?_ _ | refine blk_drew ?_ | refine blk_alloc ?_ _)); refine blk_far ?_ NB191_198.out _; (with_reducible repeat (first | refine blk_drewN ?_ _ | refine blk_drew ?_ | refine blk_alloc ?_ _)); exact BK191.out) hb); have n2_ := Aside0.mk (blk_below (g := gb196) (o := .cells #[.int .i64 a0_0, .bool a0_1, .slice A0_2 l0_2.length c0_2, u197003] 56 (0, 0)) (by (with_reducible repeat (first | refine blk_drewN ?_ _ | refine blk_drew ?_ | refine blk_alloc ?_ _)); refine blk_far ?_ NB196_198.out _; (with_reducible repeat (first | refine blk_drewN ?_ _ | refine blk_drew ?_ | refine blk_alloc ?_ _)); refine blk_far ?_ NB196_198.out _; (with_reducible repeat (first | refine blk_drewN ?_ _ | refine blk_drew ?_ | refine blk_alloc ?_ _)); exact BK196.out) hb); have n3_ := Aside0.mk (blk_below (g := gb198) (o := .cells #[.int .i64 ((rd_T41 l2 x28_1).f0), .bool ((rd_T41 l2 x28_1).f1)] 41 (0, 0)) (by (with_reducible repeat (first | refine blk_drewN ?_ _ | refine blk_drew ?_ | refine blk_alloc ?_ _)); refine blk_put (cs := #[.int .i64 ((rd_T41 l2 x28_1).f0), .bool false]) ?_ 1 _ rfl; (with_reducible repeat (first | refine blk_drewN ?_ _ | refine blk_drew ?_ | refine blk_alloc ?_ _)); refine blk_put (cs := #[.int .i64 0, .bool false]) ?_ 0 _ rfl; (with_reducible repeat (first | refine blk_drewN ?_ _ | refine blk_drew ?_ | refine blk_alloc ?_ _)); exact BK198.out) hb); have n4_ := Aside0.mk (below_step (by repeat (first | (with_reducible first | exact HB.out | apply below_alloc | apply pw_below_drewN | apply below_drew1 | refine below_set ?_ GE191.out | refine below_set ?_ GE196.out | refine below_set ?_ GE198.out) | exact HB.out)) hb); clear HO_197003; clear BK191; clear BK196; clear BK198; clear HB; have HO_197003 := n0_; have BK191 := n1_; have BK196 := n2_; have BK198 := n3_; have HB := n4_; clear n0_ n1_ n2_ n3_ n4_; (try clear hb); (try clear hb2); (try clear hk); (try clear hi); have hcz39_0 : w38.cell? ⟨gb196, 0, none⟩ = some (.int .i64 a0_0) := (blk_cell BK196.out 0).trans rfl; have hcz39_1 : w38.cell? ⟨gb196, 1, none⟩ = some (.bool a0_1) := (blk_cell BK196.out 1).trans rfl; have hcz39_2 : w38.cell? ⟨gb196, 2, none⟩ = some (.slice A0_2 l0_2.length c0_2) := (blk_cell BK196.out 2).trans rfl; have hcz39_3 : w38.cell? ⟨gb196, 3, none⟩ = some (u197003) := (blk_cell BK196.out 3).trans rfl; have hfz39_0 := blk_frozen BK196.out 0; have hfz39_1 := blk_frozen BK196.out 1; have hfz39_2 := blk_frozen BK196.out 2; have hfz39_3 := blk_frozen BK196.out 3; have hcz40_0 : w38.cell? ⟨gb198, 0, none⟩ = some (.int .i64 ((rd_T41 l2 x28_1).f0)) := (blk_cell BK198.out 0).trans rfl; have hcz40_1 : w38.cell? ⟨gb198, 1, none⟩ = some (.bool ((rd_T41 l2 x28_1).f1)) := (blk_cell BK198.out 1).trans rfl; have hfz40_0 := blk_frozen BK198.out 0; have hfz40_1 := blk_frozen BK198.out 1; obtain ⟨Ao41, co41, eo41⟩ := Kd.R_slice HO_197003.out; subst eo41) | ((with_reducible refine gate_callee (f := 32) rfl ?_); refine goesL_ (some 38) rfl rfl Try.func32 (by kernel_rfl) rfl #[.agg #[.int .i64 a0_0, .bool a0_1, .slice A0_2 l0_2.length c0_2, .slice Ao41 x197003_1.length co41], .agg #[.int .i64 ((rd_T41 l2 x28_1).f0), .bool ((rd_T41 l2 x28_1).f1)]] rfl (by (try simp only [List.map_toArray, List.map_cons, List.map_nil]); first | done | rfl | (simp only [List.length_drop, List.length_take]; rfl)) ?_; (with_reducible refine (static_Flowing_Room.calls a0_0 a0_1 _ _ l0_2 _ _ x197003_1 ((rd_T41 l2 x28_1).f0) ((rd_T41 l2 x28_1).f1) t200 _ ?side1 ?side2 ?side3 ?side4 A30.out).mono ?_); (case side1 => repeat (first | exact (Kd.C_below HR0_2.out HB.out) | (with_reducible refine Kd.C_alloc ?_ _) | (with_reducible refine Kd.C_drewN ?_ _) | (with_reducible refine Kd.C_drew ?_))); (case side2 => exact HC0_2.out); (case side3 => repeat (first | exact (Kd.R_reads' HO_197003.out).2.2 | (with_reducible refine Kd.C_alloc ?_ _) | (with_reducible refine Kd.C_drewN ?_ _) | (with_reducible refine Kd.C_drew ?_))); (case side4 => exact (Kd.R_reads' HO_197003.out).2.1); rintro e w42 ⟨rfl, hb⟩; refine ⟨_, rfl, ?_⟩; have n0_ := Aside0.mk (Kd.R_below (by (with_reducible repeat (first | apply Kd.R_alloc | apply Kd.R_drewN | apply Kd.R_drew)); exact HO_197003.out) hb); have n1_ := Aside0.mk (blk_below (g := gb191) (o := .cells #[.int .i64 a0_0, .bool a0_1, .slice A0_2 l0_2.length c0_2] 24 (0, 0)) (by (with_reducible repeat (first | refine blk_drewN ?_ _ | refine blk_drew ?_ | refine blk_alloc ?_ _)); exact BK191.out) hb); have n2_ := Aside0.mk (blk_below (g := gb196) (o := .cells #[.int .i64 a0_0, .bool a0_1, .slice A0_2 l0_2.length c0_2, .slice Ao41 x197003_1.length co41] 56 (0, 0)) (by (with_reducible repeat (first | refine blk_drewN ?_ _ | refine blk_drew ?_ | refine blk_alloc ?_ _)); exact BK196.out) hb); have n3_ := Aside0.mk (blk_below (g := gb198) (o := .cells #[.int .i64 ((rd_T41 l2 x28_1).f0), .bool ((rd_T41 l2 x28_1).f1)] 41 (0, 0)) (by (with_reducible repeat (first | refine blk_drewN ?_ _ | refine blk_drew ?_ | refine blk_alloc ?_ _)); exact BK198.out) hb); have n4_ := Aside0.mk (below_step (by repeat (first | (with_reducible first | exact HB.out | apply below_alloc | apply pw_below_drewN | apply below_drew1 | refine below_set ?_ GE191.out | refine below_set ?_ GE196.out | refine below_set ?_ GE198.out) | exact HB.out)) hb); clear HO_197003; clear BK191; clear BK196; clear BK198; clear HB; have HO_197003 := n0_; have BK191 := n1_; have BK196 := n2_; have BK198 := n3_; have HB := n4_; clear n0_ n1_ n2_ n3_ n4_; (try clear hb); (try clear hb2); (try clear hk); (try clear hi)))
          go_ret2
          exact ⟨_, by first | rfl | (simp [errW_none, errW_some] <;> rfl) | (simp [*, errW_none, errW_some] <;> rfl), by first | exact Kd.R_nil _ _ _ _ _ | exact Kd.N_nil _ _ _ _ _ | exact Kd.V_nil _ _ _ _ _ | exact Kd.Q_nil _ _ _ _ _ | exact Kd.S_nil _ _ _ _ _, by repeat (first | (with_reducible first | exact HB.out | apply below_alloc | apply pw_below_drewN | apply below_drew1 | refine below_set ?_ GE191.out | refine below_set ?_ GE196.out | refine below_set ?_ GE198.out) | exact HB.out)⟩
         ·rw [if_neg c31] at H
          have c31b0 : decide (t200 < a3) = false := decide_eq_false c31
          clear c31
          replace H := Option.bind_eq_some_iff.mp H
          obtain ⟨t201, A430, H⟩ := H
          replace H : (static_Push.l0 k1 a3 l2 (l2.length : Int) (wrap64 (x28_1 + 1)) a0_0 a0_1 l0_2 a0_0 a0_1 l0_2 t201) = some (r1, r2) := H
          have A43 := Aside0.mk A430
          clear A430
          have H' := Aside0.mk H
          clear H
          have p197 : 0 ≤ (x28_1 : Int) := of_decide_eq_true (by first | (with_reducible assumption) | assumption)
          have q197 : x28_1 < (l2.length : Int) := of_decide_eq_true (by first | (with_reducible assumption) | assumption)
          obtain ⟨ad197, e197, hx197_0, hx197_1⟩ := at_T41 HR2.out x28_1 p197 q197
          cases e197
          replace hx197_0 := (HB.out.cell (World.block_lt_of_cell? w _ hx197_0)).trans hx197_0
          replace hx197_1 := (HB.out.cell (World.block_lt_of_cell? w _ hx197_1)).trans hx197_1
          replace p197 := eq_true p197
          replace q197 := eq_true q197
          go_wp2_with (first | ((with_reducible refine gate_dst (N := 13) rfl ?_); refine box_event ?hg (N := 13) ?hd (cs := #[.int .i64 0, .bool false]) (t := 41) ?hr ?_; (case hd => rfl); (case hg => rfl); (case hr => first | (go_simp; done) | (go_simp; rfl)); intro gb198 hg w44 hbox hb; have n0_ := Aside0.mk (Kd.R_below (by (with_reducible repeat (first | apply Kd.R_alloc | apply Kd.R_drewN | apply Kd.R_drew)); exact HO_197003.out) hb); have n1_ := Aside0.mk (blk_below (g := gb191) (o := .cells #[.int .i64 a0_0, .bool a0_1, .slice A0_2 l0_2.length c0_2] 24 (0, 0)) (by (with_reducible repeat (first | refine blk_drewN ?_ _ | refine blk_drew ?_ | refine blk_alloc ?_ _)); exact BK191.out) hb); have n2_ := Aside0.mk (blk_below (g := gb196) (o := .cells #[.int .i64 a0_0, .bool a0_1, .slice A0_2 l0_2.length c0_2, u197003] 56 (0, 0)) (by (with_reducible repeat (first | refine blk_drewN ?_ _ | refine blk_drew ?_ | refine blk_alloc ?_ _)); exact BK196.out) hb); have n3_ := Aside0.mk (below_step (by repeat (first | (with_reducible first | exact HB.out | apply below_alloc | apply pw_below_drewN | apply below_drew1 | refine below_set ?_ GE191.out | refine below_set ?_ GE196.out) | exact HB.out)) hb); have n4_ := Aside0.mk (hbox); have n5_ := Aside0.mk ((by rw [hg]; exact (below_size (by repeat (first | (with_reducible first | exact HB.out | apply below_alloc | apply pw_below_drewN | apply below_drew1 | refine below_set ?_ GE191.out | refine below_set ?_ GE196.out) | exact HB.out))) : w.heap.size ≤ gb198)); have n6_ := Aside0.mk ((by rw [hg]; exact (below_size (by repeat (first | (with_reducible first | exact HB.out | apply below_alloc | apply pw_below_drewN | apply below_drew1 | refine below_set ?_ GE191.out | refine below_set ?_ GE196.out) | exact HB.out))) : w.heap.size ≤ gb198)); have n7_ := Aside0.mk ((by rw [hg]; exact Nat.ne_of_lt (blk_lt (g := gb191) (o := .cells #[.int .i64 a0_0, .bool a0_1, .slice A0_2 l0_2.length c0_2] 24 (0, 0)) (by (with_reducible repeat (first | refine blk_drewN ?_ _ | refine blk_drew ?_ | refine blk_alloc ?_ _)); exact BK191.out)) : gb191 ≠ gb198)); have n8_ := Aside0.mk ((by rw [hg]; exact Nat.ne_of_gt (blk_lt (g := gb191) (o := .cells #[.int .i64 a0_0, .bool a0_1, .slice A0_2 l0_2.length c0_2] 24 (0, 0)) (by (with_reducible repeat (first | refine blk_drewN ?_ _ | refine blk_drew ?_ | refine blk_alloc ?_ _)); exact BK191.out)) : gb198 ≠ gb191)); have n9_ := Aside0.mk ((by rw [hg]; exact Nat.ne_of_lt (blk_lt (g := gb196) (o := .cells #[.int .i64 a0_0, .bool a0_1, .slice A0_2 l0_2.length c0_2, u197003] 56 (0, 0)) (by (with_reducible repeat (first | refine blk_drewN ?_ _ | refine blk_drew ?_ | refine blk_alloc ?_ _)); exact BK196.out)) : gb196 ≠ gb198)); have n10_ := Aside0.mk ((by rw [hg]; exact Nat.ne_of_gt (blk_lt (g := gb196) (o := .cells #[.int .i64 a0_0, .bool a0_1, .slice A0_2 l0_2.length c0_2, u197003] 56 (0, 0)) (by (with_reducible repeat (first | refine blk_drewN ?_ _ | refine blk_drew ?_ | refine blk_alloc ?_ _)); exact BK196.out)) : gb198 ≠ gb196)); clear HO_197003; clear BK191; clear BK196; clear HB; have HO_197003 := n0_; have BK191 := n1_; have BK196 := n2_; have HB := n3_; have BK198 := n4_; have GW198 := n5_; have GE198 := n6_; have NB191_198 := n7_; have NB198_191 := n8_; have NB196_198 := n9_; have NB198_196 := n10_; clear n0_ n1_ n2_ n3_ n4_ n5_ n6_ n7_ n8_ n9_ n10_; clear hb hbox hg; have hnb45 := NB198_191.out; have hnc45 := NB191_198.out; have hnb46 := NB198_196.out; have hnc46 := NB196_198.out; have hcz47_0 : w44.cell? ⟨gb198, 0, none⟩ = some (.int .i64 0) := (blk_cell BK198.out 0).trans rfl; have hcz47_1 : w44.cell? ⟨gb198, 1, none⟩ = some (.bool false) := (blk_cell BK198.out 1).trans rfl; have hfz47_0 := blk_frozen BK198.out 0; have hfz47_1 := blk_frozen BK198.out 1; have hnb48 := NB191_196.out; have hnc48 := NB196_191.out; have hcz49_0 : w44.cell? ⟨gb191, 0, none⟩ = some (.int .i64 a0_0) := (blk_cell BK191.out 0).trans rfl; have hcz49_1 : w44.cell? ⟨gb191, 1, none⟩ = some (.bool a0_1) := (blk_cell BK191.out 1).trans rfl; have hcz49_2 : w44.cell? ⟨gb191, 2, none⟩ = some (.slice A0_2 l0_2.length c0_2) := (blk_cell BK191.out 2).trans rfl; have hfz49_0 := blk_frozen BK191.out 0; have hfz49_1 := blk_frozen BK191.out 1; have hfz49_2 := blk_frozen BK191.out 2) | ((with_reducible refine gate_callee (f := 31) rfl ?_); refine goesL_ (some 34) rfl rfl Try.func31 (by kernel_rfl) rfl #[.agg #[.int .i64 a0_0, .bool a0_1, .slice A0_2 l0_2.length c0_2], .agg #[.int .i64 ((rd_T41 l2 x28_1).f0), .bool ((rd_T41 l2 x28_1).f1)]] rfl (by (try simp only [List.map_toArray, List.map_cons, List.map_nil]); first | done | rfl | (simp only [List.length_drop, List.length_take]; rfl)) ?_; (with_reducible refine (static_arc.calls a0_0 a0_1 _ _ l0_2 ((rd_T41 l2 x28_1).f0) ((rd_T41 l2 x28_1).f1) true _ ?side1 ?side2 A28.out).mono ?_); (case side1 => exact Kd.C_below HR0_2.out (by repeat (first | (with_reducible first | exact HB.out | apply below_alloc | apply pw_below_drewN | apply below_drew1 | refine below_set ?_ GE191.out | refine below_set ?_ GE196.out | refine below_set ?_ GE198.out) | exact HB.out))); (case side2 => exact HC0_2.out); rintro e w50 ⟨rfl, hb⟩; refine ⟨_, rfl, ?_⟩; have n0_ := Aside0.mk (Kd.R_below (by (with_reducible repeat (first | apply Kd.R_alloc | apply Kd.R_drewN | apply Kd.R_drew)); exact (Kd.R_mono (Kd.R_far (p := ⟨gb198, 1, none⟩) (Kd.R_far (p := ⟨gb198, 0, none⟩) (Kd.R_types HO_197003.out BK198.out (by decide)) (fun _ hk => hk.2) (.int .i64 ((rd_T41 l2 x28_1).f0))) (fun _ hk => hk.2) (.bool ((rd_T41 l2 x28_1).f1))) (fun _ h_ => h_.1))) hb); have n1_ := Aside0.mk (blk_below (g := gb191) (o := .cells #[.int .i64 a0_0, .bool a0_1, .slice A0_2 l0_2.length c0_2] 24 (0, 0)) (by (with_reducible repeat (first | refine blk_drewN ?_ _ | refine blk_drew ?_ | refine blk_alloc ?_ _)); refine blk_far ?_ NB191_198.out _; (with_reducible repeat (first | refine blk_drewN ?_ _ | refine blk_drew ?_ | refine blk_alloc ?_ _)); refine blk_far ?_ NB191_198.out _; (with_reducible repeat (first | refine blk_drewN ?_ _ | refine blk_drew ?_ | refine blk_alloc ?_ _)); exact BK191.out) hb); have n2_ := Aside0.mk (blk_below (g := gb196) (o := .cells #[.int .i64 a0_0, .bool a0_1, .slice A0_2 l0_2.length c0_2, u197003] 56 (0, 0)) (by (with_reducible repeat (first | refine blk_drewN ?_ _ | refine blk_drew ?_ | refine blk_alloc ?_ _)); refine blk_far ?_ NB196_198.out _; (with_reducible repeat (first | refine blk_drewN ?_ _ | refine blk_drew ?_ | refine blk_alloc ?_ _)); refine blk_far ?_ NB196_198.out _; (with_reducible repeat (first | refine blk_drewN ?_ _ | refine blk_drew ?_ | refine blk_alloc ?_ _)); exact BK196.out) hb); have n3_ := Aside0.mk (blk_below (g := gb198) (o := .cells #[.int .i64 ((rd_T41 l2 x28_1).f0), .bool ((rd_T41 l2 x28_1).f1)] 41 (0, 0)) (by (with_reducible repeat (first | refine blk_drewN ?_ _ | refine blk_drew ?_ | refine blk_alloc ?_ _)); refine blk_put (cs := #[.int .i64 ((rd_T41 l2 x28_1).f0), .bool false]) ?_ 1 _ rfl; (with_reducible repeat (first | refine blk_drewN ?_ _ | refine blk_drew ?_ | refine blk_alloc ?_ _)); refine blk_put (cs := #[.int .i64 0, .bool false]) ?_ 0 _ rfl; (with_reducible repeat (first | refine blk_drewN ?_ _ | refine blk_drew ?_ | refine blk_alloc ?_ _)); exact BK198.out) hb); have n4_ := Aside0.mk (below_step (by repeat (first | (with_reducible first | exact HB.out | apply below_alloc | apply pw_below_drewN | apply below_drew1 | refine below_set ?_ GE191.out | refine below_set ?_ GE196.out | refine below_set ?_ GE198.out) | exact HB.out)) hb); clear HO_197003; clear BK191; clear BK196; clear BK198; clear HB; have HO_197003 := n0_; have BK191 := n1_; have BK196 := n2_; have BK198 := n3_; have HB := n4_; clear n0_ n1_ n2_ n3_ n4_; (try clear hb); (try clear hb2); (try clear hk); (try clear hi); have hcz51_0 : w50.cell? ⟨gb196, 0, none⟩ = some (.int .i64 a0_0) := (blk_cell BK196.out 0).trans rfl; have hcz51_1 : w50.cell? ⟨gb196, 1, none⟩ = some (.bool a0_1) := (blk_cell BK196.out 1).trans rfl; have hcz51_2 : w50.cell? ⟨gb196, 2, none⟩ = some (.slice A0_2 l0_2.length c0_2) := (blk_cell BK196.out 2).trans rfl; have hcz51_3 : w50.cell? ⟨gb196, 3, none⟩ = some (u197003) := (blk_cell BK196.out 3).trans rfl; have hfz51_0 := blk_frozen BK196.out 0; have hfz51_1 := blk_frozen BK196.out 1; have hfz51_2 := blk_frozen BK196.out 2; have hfz51_3 := blk_frozen BK196.out 3; have hcz52_0 : w50.cell? ⟨gb198, 0, none⟩ = some (.int .i64 ((rd_T41 l2 x28_1).f0)) := (blk_cell BK198.out 0).trans rfl; have hcz52_1 : w50.cell? ⟨gb198, 1, none⟩ = some (.bool ((rd_T41 l2 x28_1).f1)) := (blk_cell BK198.out 1).trans rfl; have hfz52_0 := blk_frozen BK198.out 0; have hfz52_1 := blk_frozen BK198.out 1; obtain ⟨Ao53, co53, eo53⟩ := Kd.R_slice HO_197003.out; subst eo53) | ((with_reducible refine gate_callee (f := 32) rfl ?_); refine goesL_ (some 38) rfl rfl Try.func32 (by kernel_rfl) rfl #[.agg #[.int .i64 a0_0, .bool a0_1, .slice A0_2 l0_2.length c0_2, .slice Ao53 x197003_1.length co53], .agg #[.int .i64 ((rd_T41 l2 x28_1).f0), .bool ((rd_T41 l2 x28_1).f1)]] rfl (by (try simp only [List.map_toArray, List.map_cons, List.map_nil]); first | done | rfl | (simp only [List.length_drop, List.length_take]; rfl)) ?_; (with_reducible refine (static_Flowing_Room.calls a0_0 a0_1 _ _ l0_2 _ _ x197003_1 ((rd_T41 l2 x28_1).f0) ((rd_T41 l2 x28_1).f1) t200 _ ?side1 ?side2 ?side3 ?side4 A30.out).mono ?_); (case side1 => repeat (first | exact (Kd.C_below HR0_2.out HB.out) | (with_reducible refine Kd.C_alloc ?_ _) | (with_reducible refine Kd.C_drewN ?_ _) | (with_reducible refine Kd.C_drew ?_))); (case side2 => exact HC0_2.out); (case side3 => repeat (first | exact (Kd.R_reads' HO_197003.out).2.2 | (with_reducible refine Kd.C_alloc ?_ _) | (with_reducible refine Kd.C_drewN ?_ _) | (with_reducible refine Kd.C_drew ?_))); (case side4 => exact (Kd.R_reads' HO_197003.out).2.1); rintro e w54 ⟨rfl, hb⟩; refine ⟨_, rfl, ?_⟩; have n0_ := Aside0.mk (Kd.R_below (by (with_reducible repeat (first | apply Kd.R_alloc | apply Kd.R_drewN | apply Kd.R_drew)); exact HO_197003.out) hb); have n1_ := Aside0.mk (blk_below (g := gb191) (o := .cells #[.int .i64 a0_0, .bool a0_1, .slice A0_2 l0_2.length c0_2] 24 (0, 0)) (by (with_reducible repeat (first | refine blk_drewN ?_ _ | refine blk_drew ?_ | refine blk_alloc ?_ _)); exact BK191.out) hb); have n2_ := Aside0.mk (blk_below (g := gb196) (o := .cells #[.int .i64 a0_0, .bool a0_1, .slice A0_2 l0_2.length c0_2, .slice Ao53 x197003_1.length co53] 56 (0, 0)) (by (with_reducible repeat (first | refine blk_drewN ?_ _ | refine blk_drew ?_ | refine blk_alloc ?_ _)); exact BK196.out) hb); have n3_ := Aside0.mk (blk_below (g := gb198) (o := .cells #[.int .i64 ((rd_T41 l2 x28_1).f0), .bool ((rd_T41 l2 x28_1).f1)] 41 (0, 0)) (by (with_reducible repeat (first | refine blk_drewN ?_ _ | refine blk_drew ?_ | refine blk_alloc ?_ _)); exact BK198.out) hb); have n4_ := Aside0.mk (below_step (by repeat (first | (with_reducible first | exact HB.out | apply below_alloc | apply pw_below_drewN | apply below_drew1 | refine below_set ?_ GE191.out | refine below_set ?_ GE196.out | refine below_set ?_ GE198.out) | exact HB.out)) hb); clear HO_197003; clear BK191; clear BK196; clear BK198; clear HB; have HO_197003 := n0_; have BK191 := n1_; have BK196 := n2_; have BK198 := n3_; have HB := n4_; clear n0_ n1_ n2_ n3_ n4_; (try clear hb); (try clear hb2); (try clear hk); (try clear hi); have hcz55_0 : w54.cell? ⟨gb196, 0, none⟩ = some (.int .i64 a0_0) := (blk_cell BK196.out 0).trans rfl; have hcz55_1 : w54.cell? ⟨gb196, 1, none⟩ = some (.bool a0_1) := (blk_cell BK196.out 1).trans rfl; have hcz55_2 : w54.cell? ⟨gb196, 2, none⟩ = some (.slice A0_2 l0_2.length c0_2) := (blk_cell BK196.out 2).trans rfl; have hcz55_3 : w54.cell? ⟨gb196, 3, none⟩ = some (.slice Ao53 x197003_1.length co53) := (blk_cell BK196.out 3).trans rfl; have hfz55_0 := blk_frozen BK196.out 0; have hfz55_1 := blk_frozen BK196.out 1; have hfz55_2 := blk_frozen BK196.out 2; have hfz55_3 := blk_frozen BK196.out 3; have hcz56_0 : w54.cell? ⟨gb198, 0, none⟩ = some (.int .i64 ((rd_T41 l2 x28_1).f0)) := (blk_cell BK198.out 0).trans rfl; have hcz56_1 : w54.cell? ⟨gb198, 1, none⟩ = some (.bool ((rd_T41 l2 x28_1).f1)) := (blk_cell BK198.out 1).trans rfl; have hfz56_0 := blk_frozen BK198.out 0; have hfz56_1 := blk_frozen BK198.out 1) | ((with_reducible refine gate_callee (f := 33) rfl ?_); refine goesL_ (some 44) rfl rfl Try.func33 (by kernel_rfl) rfl #[.agg #[.int .i64 a0_0, .bool a0_1, .slice A0_2 l0_2.length c0_2, .slice Ao53 x197003_1.length co53], .agg #[.int .i64 ((rd_T41 l2 x28_1).f0), .bool ((rd_T41 l2 x28_1).f1)], .int .i64 a3] rfl (by (try simp only [List.map_toArray, List.map_cons, List.map_nil]); first | done | rfl | (simp only [List.length_drop, List.length_take]; rfl)) ?_; (with_reducible refine (static_Flowing_Go.calls a0_0 a0_1 _ _ l0_2 (fun k_ => some k_ = (.slice Ao53 x197003_1.length co53 : Value).ownBlock) (.slice Ao53 x197003_1.length co53) x197003_1 ((rd_T41 l2 x28_1).f0) ((rd_T41 l2 x28_1).f1) a3 t201 w _ ?side1 ?side2 ?side3 ?side4 A43.out).mono ?_); (case side1 => repeat (first | (with_reducible first | exact HB.out | apply below_alloc | apply pw_below_drewN | apply below_drew1 | refine below_set ?_ GE191.out | refine below_set ?_ GE196.out | refine below_set ?_ GE198.out) | exact HB.out)); (case side2 => exact Kd.C_kept_came k48_heap HR0_2.out (by repeat (first | (with_reducible first | exact HB.out | apply below_alloc | apply pw_below_drewN | apply below_drew1 | refine below_set ?_ GE191.out | refine below_set ?_ GE196.out | refine below_set ?_ GE198.out) | exact HB.out)) (fun k_ hs_ => (fun e_ => Kd.R_base HO_197003.out k_ e_.symm) hs_)); (case side3 => exact HC0_2.out); (case side4 => exact Kd.R_tight rfl HO_197003.out); rintro e w57 ⟨rfl, hy0, hb, hkp⟩; refine ⟨_, rfl, ?_⟩; have n0_ := Aside0.mk (Kd.R_reok rfl hy0 (fun k_ e_ => HO_197003.out.1 k_ e_)); have n1_ := Aside0.mk (blk_kept (by (with_reducible repeat (first | refine blk_drewN ?_ _ | refine blk_drew ?_ | refine blk_alloc ?_ _)); exact BK191.out) hkp (fun hs_ => (fun e_ => (Kd.R_ne HO_197003.out BK191.out (by decide)) e_) hs_)); have n2_ := Aside0.mk (blk_kept (by (with_reducible repeat (first | refine blk_drewN ?_ _ | refine blk_drew ?_ | refine blk_alloc ?_ _)); exact BK196.out) hkp (fun hs_ => (fun e_ => (Kd.R_ne HO_197003.out BK196.out (by decide)) e_) hs_)); have n3_ := Aside0.mk (blk_kept (by (with_reducible repeat (first | refine blk_drewN ?_ _ | refine blk_drew ?_ | refine blk_alloc ?_ _)); exact BK198.out) hkp (fun hs_ => (fun e_ => (Kd.R_ne HO_197003.out BK198.out (by decide)) e_) hs_)); have n4_ := Aside0.mk (hb); clear HO_197003; clear BK191; clear BK196; clear BK198; clear HB; have HO_197003 := n0_; have BK191 := n1_; have BK196 := n2_; have BK198 := n3_; have HB := n4_; clear n0_ n1_ n2_ n3_ n4_; (try clear hb); (try clear hkp); (try clear hy0)))
          go_roundg k1
          case measure => have := HK1.out; omega
          case rel => exact ⟨(wrap64 (x28_1 + 1)), (t201), (.slice Ao53 x197003_1.length co53), (by first | rfl | (simp; done) | (simp [*]; done)), H', ⟨by have := HK1.out; omega⟩, ⟨by (with_reducible repeat (first | apply Kd.R_alloc | apply Kd.R_drewN | apply Kd.R_drew)); exact HO_197003.out⟩, ⟨by (with_reducible repeat (first | refine blk_drewN ?_ _ | refine blk_drew ?_ | refine blk_alloc ?_ _)); exact BK191.out⟩, ⟨by (with_reducible repeat (first | refine blk_drewN ?_ _ | refine blk_drew ?_ | refine blk_alloc ?_ _)); exact BK196.out⟩, ⟨by repeat (first | (with_reducible first | exact HB.out | apply below_alloc | apply pw_below_drewN | apply below_drew1 | refine below_set ?_ GE191.out | refine below_set ?_ GE196.out | refine below_set ?_ GE198.out) | exact HB.out)⟩⟩
        ·replace c29 := Bool.eq_false_iff.mpr c29
         subst c29
         have H1 : (some (([] : List Int), 1)) = some (r1, r2) := by rw [if_neg (show ¬ (false = true) by decide)] at H; exact H
         clear H
         have H := H1
         clear H1
         simp only [Option.some.injEq, Prod.mk.injEq] at H
         obtain ⟨rfl, rfl⟩ := H
         have p197 : 0 ≤ (x28_1 : Int) := of_decide_eq_true (by first | (with_reducible assumption) | assumption)
         have q197 : x28_1 < (l2.length : Int) := of_decide_eq_true (by first | (with_reducible assumption) | assumption)
         obtain ⟨ad197, e197, hx197_0, hx197_1⟩ := at_T41 HR2.out x28_1 p197 q197
         cases e197
         replace hx197_0 := (HB.out.cell (World.block_lt_of_cell? w _ hx197_0)).trans hx197_0
         replace hx197_1 := (HB.out.cell (World.block_lt_of_cell? w _ hx197_1)).trans hx197_1
         replace p197 := eq_true p197
         replace q197 := eq_true q197
         go_wp2_with (first | ((with_reducible refine gate_dst (N := 13) rfl ?_); refine box_event ?hg (N := 13) ?hd (cs := #[.int .i64 0, .bool false]) (t := 41) ?hr ?_; (case hd => rfl); (case hg => rfl); (case hr => first | (go_simp; done) | (go_simp; rfl)); intro gb198 hg w58 hbox hb; have n0_ := Aside0.mk (Kd.R_below (by (with_reducible repeat (first | apply Kd.R_alloc | apply Kd.R_drewN | apply Kd.R_drew)); exact HO_197003.out) hb); have n1_ := Aside0.mk (blk_below (g := gb191) (o := .cells #[.int .i64 a0_0, .bool a0_1, .slice A0_2 l0_2.length c0_2] 24 (0, 0)) (by (with_reducible repeat (first | refine blk_drewN ?_ _ | refine blk_drew ?_ | refine blk_alloc ?_ _)); exact BK191.out) hb); have n2_ := Aside0.mk (blk_below (g := gb196) (o := .cells #[.int .i64 a0_0, .bool a0_1, .slice A0_2 l0_2.length c0_2, u197003] 56 (0, 0)) (by (with_reducible repeat (first | refine blk_drewN ?_ _ | refine blk_drew ?_ | refine blk_alloc ?_ _)); exact BK196.out) hb); have n3_ := Aside0.mk (below_step (by repeat (first | (with_reducible first | exact HB.out | apply below_alloc | apply pw_below_drewN | apply below_drew1 | refine below_set ?_ GE191.out | refine below_set ?_ GE196.out) | exact HB.out)) hb); have n4_ := Aside0.mk (hbox); have n5_ := Aside0.mk ((by rw [hg]; exact (below_size (by repeat (first | (with_reducible first | exact HB.out | apply below_alloc | apply pw_below_drewN | apply below_drew1 | refine below_set ?_ GE191.out | refine below_set ?_ GE196.out) | exact HB.out))) : w.heap.size ≤ gb198)); have n6_ := Aside0.mk ((by rw [hg]; exact (below_size (by repeat (first | (with_reducible first | exact HB.out | apply below_alloc | apply pw_below_drewN | apply below_drew1 | refine below_set ?_ GE191.out | refine below_set ?_ GE196.out) | exact HB.out))) : w.heap.size ≤ gb198)); have n7_ := Aside0.mk ((by rw [hg]; exact Nat.ne_of_lt (blk_lt (g := gb191) (o := .cells #[.int .i64 a0_0, .bool a0_1, .slice A0_2 l0_2.length c0_2] 24 (0, 0)) (by (with_reducible repeat (first | refine blk_drewN ?_ _ | refine blk_drew ?_ | refine blk_alloc ?_ _)); exact BK191.out)) : gb191 ≠ gb198)); have n8_ := Aside0.mk ((by rw [hg]; exact Nat.ne_of_gt (blk_lt (g := gb191) (o := .cells #[.int .i64 a0_0, .bool a0_1, .slice A0_2 l0_2.length c0_2] 24 (0, 0)) (by (with_reducible repeat (first | refine blk_drewN ?_ _ | refine blk_drew ?_ | refine blk_alloc ?_ _)); exact BK191.out)) : gb198 ≠ gb191)); have n9_ := Aside0.mk ((by rw [hg]; exact Nat.ne_of_lt (blk_lt (g := gb196) (o := .cells #[.int .i64 a0_0, .bool a0_1, .slice A0_2 l0_2.length c0_2, u197003] 56 (0, 0)) (by (with_reducible repeat (first | refine blk_drewN ?_ _ | refine blk_drew ?_ | refine blk_alloc ?_ _)); exact BK196.out)) : gb196 ≠ gb198)); have n10_ := Aside0.mk ((by rw [hg]; exact Nat.ne_of_gt (blk_lt (g := gb196) (o := .cells #[.int .i64 a0_0, .bool a0_1, .slice A0_2 l0_2.length c0_2, u197003] 56 (0, 0)) (by (with_reducible repeat (first | refine blk_drewN ?_ _ | refine blk_drew ?_ | refine blk_alloc ?_ _)); exact BK196.out)) : gb198 ≠ gb196)); clear HO_197003; clear BK191; clear BK196; clear HB; have HO_197003 := n0_; have BK191 := n1_; have BK196 := n2_; have HB := n3_; have BK198 := n4_; have GW198 := n5_; have GE198 := n6_; have NB191_198 := n7_; have NB198_191 := n8_; have NB196_198 := n9_; have NB198_196 := n10_; clear n0_ n1_ n2_ n3_ n4_ n5_ n6_ n7_ n8_ n9_ n10_; clear hb hbox hg; have hnb59 := NB198_191.out; have hnc59 := NB191_198.out; have hnb60 := NB198_196.out; have hnc60 := NB196_198.out; have hcz61_0 : w58.cell? ⟨gb198, 0, none⟩ = some (.int .i64 0) := (blk_cell BK198.out 0).trans rfl; have hcz61_1 : w58.cell? ⟨gb198, 1, none⟩ = some (.bool false) := (blk_cell BK198.out 1).trans rfl; have hfz61_0 := blk_frozen BK198.out 0; have hfz61_1 := blk_frozen BK198.out 1; have hnb62 := NB191_196.out; have hnc62 := NB196_191.out; have hcz63_0 : w58.cell? ⟨gb191, 0, none⟩ = some (.int .i64 a0_0) := (blk_cell BK191.out 0).trans rfl; have hcz63_1 : w58.cell? ⟨gb191, 1, none⟩ = some (.bool a0_1) := (blk_cell BK191.out 1).trans rfl; have hcz63_2 : w58.cell? ⟨gb191, 2, none⟩ = some (.slice A0_2 l0_2.length c0_2) := (blk_cell BK191.out 2).trans rfl; have hfz63_0 := blk_frozen BK191.out 0; have hfz63_1 := blk_frozen BK191.out 1; have hfz63_2 := blk_frozen BK191.out 2) | ((with_reducible refine gate_callee (f := 31) rfl ?_); refine goesL_ (some 34) rfl rfl Try.func31 (by kernel_rfl) rfl #[.agg #[.int .i64 a0_0, .bool a0_1, .slice A0_2 l0_2.length c0_2], .agg #[.int .i64 ((rd_T41 l2 x28_1).f0), .bool ((rd_T41 l2 x28_1).f1)]] rfl (by (try simp only [List.map_toArray, List.map_cons, List.map_nil]); first | done | rfl | (simp only [List.length_drop, List.length_take]; rfl)) ?_; (with_reducible refine (static_arc.calls a0_0 a0_1 _ _ l0_2 ((rd_T41 l2 x28_1).f0) ((rd_T41 l2 x28_1).f1) false _ ?side1 ?side2 A28.out).mono ?_); (case side1 => exact Kd.C_below HR0_2.out (by repeat (first | (with_reducible first | exact HB.out | apply below_alloc | apply pw_below_drewN | apply below_drew1 | refine below_set ?_ GE191.out | refine below_set ?_ GE196.out | refine below_set ?_ GE198.out) | exact HB.out))); (case side2 => exact HC0_2.out); rintro e w64 ⟨rfl, hb⟩; refine ⟨_, rfl, ?_⟩; have n0_ := Aside0.mk (Kd.R_below (by (with_reducible repeat (first | apply Kd.R_alloc | apply Kd.R_drewN | apply Kd.R_drew)); exact (Kd.R_mono (Kd.R_far (p := ⟨gb198, 1, none⟩) (Kd.R_far (p := ⟨gb198, 0, none⟩) (Kd.R_types HO_197003.out BK198.out (by decide)) (fun _ hk => hk.2) (.int .i64 ((rd_T41 l2 x28_1).f0))) (fun _ hk => hk.2) (.bool ((rd_T41 l2 x28_1).f1))) (fun _ h_ => h_.1))) hb); have n1_ := Aside0.mk (blk_below (g := gb191) (o := .cells #[.int .i64 a0_0, .bool a0_1, .slice A0_2 l0_2.length c0_2] 24 (0, 0)) (by (with_reducible repeat (first | refine blk_drewN ?_ _ | refine blk_drew ?_ | refine blk_alloc ?_ _)); refine blk_far ?_ NB191_198.out _; (with_reducible repeat (first | refine blk_drewN ?_ _ | refine blk_drew ?_ | refine blk_alloc ?_ _)); refine blk_far ?_ NB191_198.out _; (with_reducible repeat (first | refine blk_drewN ?_ _ | refine blk_drew ?_ | refine blk_alloc ?_ _)); exact BK191.out) hb); have n2_ := Aside0.mk (blk_below (g := gb196) (o := .cells #[.int .i64 a0_0, .bool a0_1, .slice A0_2 l0_2.length c0_2, u197003] 56 (0, 0)) (by (with_reducible repeat (first | refine blk_drewN ?_ _ | refine blk_drew ?_ | refine blk_alloc ?_ _)); refine blk_far ?_ NB196_198.out _; (with_reducible repeat (first | refine blk_drewN ?_ _ | refine blk_drew ?_ | refine blk_alloc ?_ _)); refine blk_far ?_ NB196_198.out _; (with_reducible repeat (first | refine blk_drewN ?_ _ | refine blk_drew ?_ | refine blk_alloc ?_ _)); exact BK196.out) hb); have n3_ := Aside0.mk (blk_below (g := gb198) (o := .cells #[.int .i64 ((rd_T41 l2 x28_1).f0), .bool ((rd_T41 l2 x28_1).f1)] 41 (0, 0)) (by (with_reducible repeat (first | refine blk_drewN ?_ _ | refine blk_drew ?_ | refine blk_alloc ?_ _)); refine blk_put (cs := #[.int .i64 ((rd_T41 l2 x28_1).f0), .bool false]) ?_ 1 _ rfl; (with_reducible repeat (first | refine blk_drewN ?_ _ | refine blk_drew ?_ | refine blk_alloc ?_ _)); refine blk_put (cs := #[.int .i64 0, .bool false]) ?_ 0 _ rfl; (with_reducible repeat (first | refine blk_drewN ?_ _ | refine blk_drew ?_ | refine blk_alloc ?_ _)); exact BK198.out) hb); have n4_ := Aside0.mk (below_step (by repeat (first | (with_reducible first | exact HB.out | apply below_alloc | apply pw_below_drewN | apply below_drew1 | refine below_set ?_ GE191.out | refine below_set ?_ GE196.out | refine below_set ?_ GE198.out) | exact HB.out)) hb); clear HO_197003; clear BK191; clear BK196; clear BK198; clear HB; have HO_197003 := n0_; have BK191 := n1_; have BK196 := n2_; have BK198 := n3_; have HB := n4_; clear n0_ n1_ n2_ n3_ n4_; (try clear hb); (try clear hb2); (try clear hk); (try clear hi)))
         go_ret2
         exact ⟨_, by first | rfl | (simp [errW_none, errW_some] <;> rfl) | (simp [*, errW_none, errW_some] <;> rfl), by first | exact Kd.R_nil _ _ _ _ _ | exact Kd.N_nil _ _ _ _ _ | exact Kd.V_nil _ _ _ _ _ | exact Kd.Q_nil _ _ _ _ _ | exact Kd.S_nil _ _ _ _ _, by repeat (first | (with_reducible first | exact HB.out | apply below_alloc | apply pw_below_drewN | apply below_drew1 | refine below_set ?_ GE191.out | refine below_set ?_ GE196.out | refine below_set ?_ GE198.out) | exact HB.out)⟩
       ·rw [if_neg c27] at H
        exact absurd H (by simp)
      ·rw [if_neg c26] at H
       exact absurd H (by simp)
     ·rw [if_neg c25] at H
      have c25b0 : decide (x28_1 < (l2.length : Int)) = false := decide_eq_false c25
      clear c25
      simp only [Option.some.injEq, Prod.mk.injEq] at H
      obtain ⟨rfl, rfl⟩ := H
      have hnb65 := NB196_191.out
      have hnc65 := NB191_196.out
      have hcz66_0 : wr.cell? ⟨gb196, 0, none⟩ = some (.int .i64 a0_0) := (blk_cell BK196.out 0).trans rfl
      have hcz66_1 : wr.cell? ⟨gb196, 1, none⟩ = some (.bool a0_1) := (blk_cell BK196.out 1).trans rfl
      have hcz66_2 : wr.cell? ⟨gb196, 2, none⟩ = some (.slice A0_2 l0_2.length c0_2) := (blk_cell BK196.out 2).trans rfl
      have hcz66_3 : wr.cell? ⟨gb196, 3, none⟩ = some (u197003) := (blk_cell BK196.out 3).trans rfl
      have hfz66_0 := blk_frozen BK196.out 0
      have hfz66_1 := blk_frozen BK196.out 1
      have hfz66_2 := blk_frozen BK196.out 2
      have hfz66_3 := blk_frozen BK196.out 3
      go_wp2
      go_ret2
      exact ⟨_, by first | rfl | (simp [errW_none, errW_some] <;> rfl) | (simp [*, errW_none, errW_some] <;> rfl), by (with_reducible repeat (first | apply Kd.R_alloc | apply Kd.R_drewN | apply Kd.R_drew)); exact HO_197003.out, by repeat (first | (with_reducible first | exact HB.out | apply below_alloc | apply pw_below_drewN | apply below_drew1 | refine below_set ?_ GE191.out | refine below_set ?_ GE196.out) | exact HB.out)⟩
 ·rw [if_neg c6] at H
  have c6b0 : (t192 == 0) = false := beq_eq_false_iff_ne.mpr c6
  have c6b1 : (t192 != 0) = true := bne_iff_ne.mpr c6
  simp only [Option.some.injEq, Prod.mk.injEq] at H
  obtain ⟨rfl, rfl⟩ := H
  go_enter Try.func16, Try.ntmps16
  go_wp2_with (first | ((with_reducible refine gate_dst (N := 4) rfl ?_); refine box_event ?hg (N := 4) ?hd (cs := #[.int .i64 a0_0, .bool a0_1, .slice A0_2 l0_2.length c0_2]) (t := 24) ?hr ?_; (case hd => rfl); (case hg => rfl); (case hr => first | (go_simp; done) | (go_simp; rfl)); intro gb191 hg w67 hbox hb; have n0_ := Aside0.mk (below_step (by repeat (first | (with_reducible first | exact HB.out | apply below_alloc | apply pw_below_drewN | apply below_drew1) | exact HB.out)) hb); have n1_ := Aside0.mk (hbox); have n2_ := Aside0.mk ((by rw [hg]; exact (below_size (by repeat (first | (with_reducible first | exact HB.out | apply below_alloc | apply pw_below_drewN | apply below_drew1) | exact HB.out))) : w.heap.size ≤ gb191)); have n3_ := Aside0.mk ((by rw [hg]; exact (below_size (by repeat (first | (with_reducible first | exact HB.out | apply below_alloc | apply pw_below_drewN | apply below_drew1) | exact HB.out))) : w.heap.size ≤ gb191)); clear HB; have HB := n0_; have BK191 := n1_; have GW191 := n2_; have GE191 := n3_; clear n0_ n1_ n2_ n3_; clear hb hbox hg; have hcz68_0 : w67.cell? ⟨gb191, 0, none⟩ = some (.int .i64 a0_0) := (blk_cell BK191.out 0).trans rfl; have hcz68_1 : w67.cell? ⟨gb191, 1, none⟩ = some (.bool a0_1) := (blk_cell BK191.out 1).trans rfl; have hcz68_2 : w67.cell? ⟨gb191, 2, none⟩ = some (.slice A0_2 l0_2.length c0_2) := (blk_cell BK191.out 2).trans rfl; have hfz68_0 := blk_frozen BK191.out 0; have hfz68_1 := blk_frozen BK191.out 1; have hfz68_2 := blk_frozen BK191.out 2) | ((with_reducible refine gate_callee (f := 23) rfl ?_); refine goesL_ (some 16) rfl rfl Try.func23 (by kernel_rfl) rfl #[.agg #[.int .i64 a0_0, .bool a0_1, .slice A0_2 l0_2.length c0_2], .slice A1 l1.length c1] rfl (by (try simp only [List.map_toArray, List.map_cons, List.map_nil]); first | done | rfl | (simp only [List.length_drop, List.length_take]; rfl)) ?_; (with_reducible refine (static_Asked.calls k a0_0 a0_1 _ _ l0_2 _ _ l1 t192 _ ?side1 ?side2 ?side3 ?side4 A5.out).mono ?_); (case side1 => repeat (first | exact (Kd.C_below HR0_2.out HB.out) | (with_reducible refine Kd.C_alloc ?_ _) | (with_reducible refine Kd.C_drewN ?_ _) | (with_reducible refine Kd.C_drew ?_))); (case side2 => exact HC0_2.out); (case side3 => repeat (first | exact (Kd.C_below HR1.out HB.out) | (with_reducible refine Kd.C_alloc ?_ _) | (with_reducible refine Kd.C_drewN ?_ _) | (with_reducible refine Kd.C_drew ?_))); (case side4 => exact HC1.out); rintro e w69 ⟨rfl, hb⟩; refine ⟨_, rfl, ?_⟩; have n0_ := Aside0.mk (blk_below (g := gb191) (o := .cells #[.int .i64 a0_0, .bool a0_1, .slice A0_2 l0_2.length c0_2] 24 (0, 0)) (by (with_reducible repeat (first | refine blk_drewN ?_ _ | refine blk_drew ?_ | refine blk_alloc ?_ _)); exact BK191.out) hb); have n1_ := Aside0.mk (below_step (by repeat (first | (with_reducible first | exact HB.out | apply below_alloc | apply pw_below_drewN | apply below_drew1 | refine below_set ?_ GE191.out) | exact HB.out)) hb); clear BK191; clear HB; have BK191 := n0_; have HB := n1_; clear n0_ n1_; (try clear hb); (try clear hb2); (try clear hk); (try clear hi)))
  go_ret2
  exact ⟨_, by first | rfl | (simp [errW_none, errW_some] <;> rfl) | (simp [*, errW_none, errW_some] <;> rfl), by first | exact Kd.R_nil _ _ _ _ _ | exact Kd.N_nil _ _ _ _ _ | exact Kd.V_nil _ _ _ _ _ | exact Kd.Q_nil _ _ _ _ _ | exact Kd.S_nil _ _ _ _ _, by repeat (first | (with_reducible first | exact HB.out | apply below_alloc | apply pw_below_drewN | apply below_drew1 | refine below_set ?_ GE191.out) | exact HB.out)⟩

end Go.Proofs.Ytghdpoabpodieaa.P

-- Laid by wip/tool/mk.py, by the kit's print.py, for all laws of this seat in one namespace; a function told as by hand has a proof of this session's own.
namespace Go.Proofs.Ytghdpoabpodieaa.P
open Go.RowKit Go.Proofs.YtghdpoabpodieaaW.PrintWords Go.Proofs.YtghdpoabpodieaaW.PrintLast Go.Proofs.YtghdpoabpodieaaW.PrintMore
attribute [local go_sem] max2_int min2_int max_two min_two max_three min_three max_four min_four   -- for this text's walks alone
set_option linter.unusedVariables false
set_option linter.unusedSimpArgs false

/-! ### ebbtidelaw07_line: function 27 -/
def ebbtidelaw07_line.f  : Option (Int × Bool × (List (S48))) := some (3, false, (([(⟨0, 1, 5, 2⟩ : S48), (⟨1, 2, 5, 2⟩ : S48)] : List (S48))))
set_option maxHeartbeats 8000000 in
set_option maxRecDepth 100000 in
theorem ebbtidelaw07_line.calls  (r1 : Int) (r2 : Bool) (r3 : List (S48)) (w : World) (h : ebbtidelaw07_line.f  = some (r1, r2, r3)) :
  Calls Try.prog 27 #[] w fun e w' => ∃ v2_ : Value, e = .returned (.agg #[.int .i64 r1, .bool r2, v2_]) ∧ Kd.R k48 48 w' w.heap.size (fun _ => True) v2_ r3 ∧ Below w.heap.size w w' := by
 have hu24 := Try.underlying24
 have hu48 := Try.underlying48
 have HB := Aside0.mk (Below.refl w.heap.size w)
 have H : (some (3, false, (([(⟨0, 1, 5, 2⟩ : S48), (⟨1, 2, 5, 2⟩ : S48)] : List (S48))))) = some (r1, r2, r3) := h
 clear h
 obtain ⟨y203, hy203⟩ : ∃ y_ : List (S48), y_ = (([(⟨0, 1, 5, 2⟩ : S48), (⟨1, 2, 5, 2⟩ : S48)] : List (S48))) := ⟨_, rfl⟩
 replace H : (some (3, false, y203)) = some (r1, r2, r3) := by first | (rw [hy203]; with_reducible exact H) | (have H2_ := (Option.bind_some _ _).symm.trans H; rw [hy203]; with_reducible exact H2_) | (have H2_ := (Option.bind_some _ _).symm.trans H; with_reducible exact H2_) | with_reducible exact H | (rw [hy203]; exact H) | exact H
 have Ny203 := Aside0.mk hy203
 clear hy203
 simp only [Option.some.injEq, Prod.mk.injEq] at H
 obtain ⟨rfl, rfl, rfl⟩ := H
 go_enter Try.func27, Try.ntmps27
 go_wp2_with (first | ((with_reducible refine gate_dst (N := 0) rfl ?_); refine box_event ?hg (N := 0) ?hd (cs := #[.int .i64 0, .bool false, .slice none 0 0]) (t := 24) ?hr ?_; (case hd => rfl); (case hg => rfl); (case hr => first | (go_simp; done) | (go_simp; rfl)); intro gb202 hg w1 hbox hb; have n0_ := Aside0.mk (below_step (by repeat (first | (with_reducible first | exact HB.out | apply below_alloc | apply pw_below_drewN | apply below_drew1) | exact HB.out)) hb); have n1_ := Aside0.mk (hbox); have n2_ := Aside0.mk ((by rw [hg]; exact (below_size (by repeat (first | (with_reducible first | exact HB.out | apply below_alloc | apply pw_below_drewN | apply below_drew1) | exact HB.out))) : w.heap.size ≤ gb202)); have n3_ := Aside0.mk ((by rw [hg]; exact (below_size (by repeat (first | (with_reducible first | exact HB.out | apply below_alloc | apply pw_below_drewN | apply below_drew1) | exact HB.out))) : w.heap.size ≤ gb202)); clear HB; have HB := n0_; have BK202 := n1_; have GW202 := n2_; have GE202 := n3_; clear n0_ n1_ n2_ n3_; clear hb hbox hg) | ((with_reducible refine gate_dst (N := 3) rfl ?_); refine Kd.R_lit k48 _ 48 ?hg (N := 3) ?hd (xs := ([(⟨0, 1, 5, 2⟩ : S48), (⟨1, 2, 5, 2⟩ : S48)] : List (S48))) (inner := [.int .i64 0, .int .i64 1, .int .i64 5, .int .i64 2, .int .i64 1, .int .i64 2, .int .i64 5, .int .i64 2]) (ok := fun _ => True) (okp := fun _ => True) ?hr ?hp (fun _ hk => hk) trivial (Below.refl _ _) (Nat.le_refl _) (by simp) ?_; (case hd => rfl); (case hg => rfl); (case hr => first | (go_simp; done) | (go_simp; rfl)); (case hp => exact (Reps.c4 (show Kd.M k48 _ _ _ (⟨0, 1, 5, 2⟩ : S48) [.int .i64 0, .int .i64 1, .int .i64 5, .int .i64 2] from (k48_mkM _ _ _ (⟨0, 1, 5, 2⟩ : S48) )) (Reps.c4 (show Kd.M k48 _ _ _ (⟨1, 2, 5, 2⟩ : S48) [.int .i64 1, .int .i64 2, .int .i64 5, .int .i64 2] from (k48_mkM _ _ _ (⟨1, 2, 5, 2⟩ : S48) )) (Reps.none _ _)))); intro v204 w2 ho3 hb hg_ hnew_; clear hg_ hnew_; (first | rw [← Ny203.out] at ho3 | (simp only [Int.reduceToNat] at ho3; rw [← Ny203.out] at ho3)); have n0_ := Aside0.mk (Kd.R_lower ho3 (below_size (by repeat (first | (with_reducible first | exact HB.out | apply below_alloc | apply pw_below_drewN | apply below_drew1 | refine below_set ?_ GE202.out) | exact HB.out)))); have n1_ := Aside0.mk (blk_below (g := gb202) (o := .cells #[.int .i64 0, .bool false, .slice none 0 0] 24 (0, 0)) (by (with_reducible repeat (first | refine blk_drewN ?_ _ | refine blk_drew ?_ | refine blk_alloc ?_ _)); exact BK202.out) hb); have n2_ := Aside0.mk (below_step (by repeat (first | (with_reducible first | exact HB.out | apply below_alloc | apply pw_below_drewN | apply below_drew1 | refine below_set ?_ GE202.out) | exact HB.out)) hb); clear BK202; clear HB; have HO205 := n0_; have BK202 := n1_; have HB := n2_; clear n0_ n1_ n2_; clear hb ho3; obtain ⟨Ao4, co4, eo4⟩ := Kd.R_slice HO205.out; subst eo4; have hcz5_0 : w2.cell? ⟨gb202, 0, none⟩ = some (.int .i64 0) := (blk_cell BK202.out 0).trans rfl; have hcz5_1 : w2.cell? ⟨gb202, 1, none⟩ = some (.bool false) := (blk_cell BK202.out 1).trans rfl; have hcz5_2 : w2.cell? ⟨gb202, 2, none⟩ = some (.slice none 0 0) := (blk_cell BK202.out 2).trans rfl; have hfz5_0 := blk_frozen BK202.out 0; have hfz5_1 := blk_frozen BK202.out 1; have hfz5_2 := blk_frozen BK202.out 2))
 refine bodyPost_ret (results_cell_row rfl _ _ gb202 24 #[.int .i64 3, .bool false, .slice Ao4 y203.length co4] (0, 0) _ rfl (by (with_reducible repeat (first | refine blk_drewN ?_ _ | refine blk_drew ?_ | refine blk_alloc ?_ _)); refine blk_put (cs := #[.int .i64 3, .bool false, .slice none 0 0]) ?_ 2 _ rfl; (with_reducible repeat (first | refine blk_drewN ?_ _ | refine blk_drew ?_ | refine blk_alloc ?_ _)); refine blk_put (cs := #[.int .i64 3, .bool false, .slice none 0 0]) ?_ 1 _ rfl; (with_reducible repeat (first | refine blk_drewN ?_ _ | refine blk_drew ?_ | refine blk_alloc ?_ _)); refine blk_put (cs := #[.int .i64 0, .bool false, .slice none 0 0]) ?_ 0 _ rfl; (with_reducible repeat (first | refine blk_drewN ?_ _ | refine blk_drew ?_ | refine blk_alloc ?_ _)); exact BK202.out) Try.underlying24 rfl (by kernel_rfl)) rfl ?_
 exact ⟨_, by first | rfl | (simp [errW_none, errW_some] <;> rfl) | (simp [*, errW_none, errW_some] <;> rfl), by (with_reducible repeat (first | apply Kd.R_alloc | apply Kd.R_drewN | apply Kd.R_drew)); exact Kd.R_mono (Kd.R_far (p := ⟨gb202, 2, none⟩) (Kd.R_far (p := ⟨gb202, 1, none⟩) (Kd.R_far (p := ⟨gb202, 0, none⟩) (Kd.R_types HO205.out BK202.out (by decide)) (fun _ hk => hk.2) (.int .i64 3)) (fun _ hk => hk.2) (.bool false)) (fun _ hk => hk.2) (.slice Ao4 y203.length co4)) (fun _ hk => trivial), by repeat (first | (with_reducible first | exact HB.out | apply below_alloc | apply pw_below_drewN | apply below_drew1 | refine below_set ?_ GE202.out) | exact HB.out)⟩

end Go.Proofs.Ytghdpoabpodieaa.P

-- Laid by wip/tool/mk.py, by the kit's print.py, for all laws of this seat in one namespace; a function told as by hand has a proof of this session's own.
namespace Go.Proofs.Ytghdpoabpodieaa.P
open Go.RowKit Go.Proofs.YtghdpoabpodieaaW.PrintWords Go.Proofs.YtghdpoabpodieaaW.PrintLast Go.Proofs.YtghdpoabpodieaaW.PrintMore
attribute [local go_sem] max2_int min2_int max_two min_two max_three min_three max_four min_four   -- for this text's walks alone
set_option linter.unusedVariables false
set_option linter.unusedSimpArgs false

/-! ### ebbtidelaw07_awake: function 12 -/
def ebbtidelaw07_awake.f (k : Nat)  : Option (Bool) := (ebbtidelaw07_line.f).bind fun bt206 => ((static_Check.f k bt206.1 bt206.2.1 bt206.2.2 0 2 (([3, 3] : List Int))).bind fun bt214 => ((ebbtidelaw07_line.f).bind fun bt216 => ((static_Check.f k bt216.1 bt216.2.1 bt216.2.2 0 2 (([3, 2] : List Int))).bind fun bt224 => ((ebbtidelaw07_line.f).bind fun bt226 => ((static_Push.f k bt226.1 bt226.2.1 bt226.2.2 (([3, 3] : List Int)) (([(⟨0, false⟩ : S41), (⟨1, false⟩ : S41)] : List (S41))) 2).bind fun bt237 => (if bt214.2 = 0 then (if bt214.1 = 3 then (if bt224.2 = 71 then (if bt237.2 = 0 then ((ebbtideref03_SameInts.f k bt237.1 (([5, 5] : List Int))).bind fun t244 => (if t244 = true then ((ebbtidelaw07_line.f).bind fun bt245 => ((static_Ends.f k bt245.1 bt245.2.1 bt245.2.2 1 1).bind fun t250 => (some (t250 == 70)))) else (some false))) else (some false)) else (some false)) else (some false)) else (some false)))))))
theorem ebbtidelaw07_awake.mono : ∀ k, LeO (ebbtidelaw07_awake.f k ) (ebbtidelaw07_awake.f (k + 1) ) := by
 intro  k
 unfold ebbtidelaw07_awake.f
 repeat' first
   | (with_reducible exact ebbtideref03_SameInts.mono _ _ _)
   | (with_reducible exact static_Check.mono _ _ _ _ _ _ _)
   | (with_reducible exact static_Ends.mono _ _ _ _ _ _)
   | (with_reducible exact static_Push.mono _ _ _ _ _ _ _)
   | (with_reducible exact LeO.refl _)
   | (with_reducible exact LeO.none _)
   | (with_reducible refine LeO.ite ?_ ?_)
   | (with_reducible refine LeO.bind ?_ (fun _ => ?_))
   | exact ebbtideref03_SameInts.mono _ _ _
   | exact static_Check.mono _ _ _ _ _ _ _
   | exact static_Ends.mono _ _ _ _ _ _
   | exact static_Push.mono _ _ _ _ _ _ _
   | exact LeO.none _
   | refine LeO.ite ?_ ?_
   | refine LeO.bind ?_ (fun _ => ?_)
set_option maxHeartbeats 8000000 in
set_option maxRecDepth 100000 in
theorem ebbtidelaw07_awake.calls (k : Nat)  (r : Bool) (w : World) (h : ebbtidelaw07_awake.f k  = some r) (hrT_ : r = true := by first | rfl | exact Aside0.out (by assumption)) :
  Calls Try.prog 12 #[] w fun e w' => e = .returned (.bool r) ∧ Below w.heap.size w w' := by
 have HRT := Aside0.mk hrT_
 clear hrT_
 have hu41 := Try.underlying41
 have HB := Aside0.mk (Below.refl w.heap.size w)
 have H : ((ebbtidelaw07_line.f).bind fun bt206 => ((static_Check.f k bt206.1 bt206.2.1 bt206.2.2 0 2 (([3, 3] : List Int))).bind fun bt214 => ((ebbtidelaw07_line.f).bind fun bt216 => ((static_Check.f k bt216.1 bt216.2.1 bt216.2.2 0 2 (([3, 2] : List Int))).bind fun bt224 => ((ebbtidelaw07_line.f).bind fun bt226 => ((static_Push.f k bt226.1 bt226.2.1 bt226.2.2 (([3, 3] : List Int)) (([(⟨0, false⟩ : S41), (⟨1, false⟩ : S41)] : List (S41))) 2).bind fun bt237 => (if bt214.2 = 0 then (if bt214.1 = 3 then (if bt224.2 = 71 then (if bt237.2 = 0 then ((ebbtideref03_SameInts.f k bt237.1 (([5, 5] : List Int))).bind fun t244 => (if t244 = true then ((ebbtidelaw07_line.f).bind fun bt245 => ((static_Ends.f k bt245.1 bt245.2.1 bt245.2.2 1 1).bind fun t250 => (some (t250 == 70)))) else (some false))) else (some false)) else (some false)) else (some false)) else (some false)))))))) = some r := h
 clear h
 replace H := Option.bind_eq_some_iff.mp H
 obtain ⟨⟨t206, t207, t208⟩, A10, H⟩ := H
 replace H : ((static_Check.f k t206 t207 t208 0 2 (([3, 3] : List Int))).bind fun bt214 => ((ebbtidelaw07_line.f).bind fun bt216 => ((static_Check.f k bt216.1 bt216.2.1 bt216.2.2 0 2 (([3, 2] : List Int))).bind fun bt224 => ((ebbtidelaw07_line.f).bind fun bt226 => ((static_Push.f k bt226.1 bt226.2.1 bt226.2.2 (([3, 3] : List Int)) (([(⟨0, false⟩ : S41), (⟨1, false⟩ : S41)] : List (S41))) 2).bind fun bt237 => (if bt214.2 = 0 then (if bt214.1 = 3 then (if bt224.2 = 71 then (if bt237.2 = 0 then ((ebbtideref03_SameInts.f k bt237.1 (([5, 5] : List Int))).bind fun t244 => (if t244 = true then ((ebbtidelaw07_line.f).bind fun bt245 => ((static_Ends.f k bt245.1 bt245.2.1 bt245.2.2 1 1).bind fun t250 => (some (t250 == 70)))) else (some false))) else (some false)) else (some false)) else (some false)) else (some false))))))) = some r := H
 have A1 := Aside0.mk A10
 clear A10
 obtain ⟨y211, hy211⟩ : ∃ y_ : List Int, y_ = (([3, 3] : List Int)) := ⟨_, rfl⟩
 replace H : ((static_Check.f k t206 t207 t208 0 2 y211).bind fun bt214 => ((ebbtidelaw07_line.f).bind fun bt216 => ((static_Check.f k bt216.1 bt216.2.1 bt216.2.2 0 2 (([3, 2] : List Int))).bind fun bt224 => ((ebbtidelaw07_line.f).bind fun bt226 => ((static_Push.f k bt226.1 bt226.2.1 bt226.2.2 (([3, 3] : List Int)) (([(⟨0, false⟩ : S41), (⟨1, false⟩ : S41)] : List (S41))) 2).bind fun bt237 => (if bt214.2 = 0 then (if bt214.1 = 3 then (if bt224.2 = 71 then (if bt237.2 = 0 then ((ebbtideref03_SameInts.f k bt237.1 (([5, 5] : List Int))).bind fun t244 => (if t244 = true then ((ebbtidelaw07_line.f).bind fun bt245 => ((static_Ends.f k bt245.1 bt245.2.1 bt245.2.2 1 1).bind fun t250 => (some (t250 == 70)))) else (some false))) else (some false)) else (some false)) else (some false)) else (some false))))))) = some r := by first | (rw [hy211]; with_reducible exact H) | (have H2_ := (Option.bind_some _ _).symm.trans H; rw [hy211]; with_reducible exact H2_) | (have H2_ := (Option.bind_some _ _).symm.trans H; with_reducible exact H2_) | with_reducible exact H | (rw [hy211]; exact H) | exact H
 have Ny211 := Aside0.mk hy211
 clear hy211
 replace H := Option.bind_eq_some_iff.mp H
 obtain ⟨⟨t214, t215⟩, A20, H⟩ := H
 replace H : ((ebbtidelaw07_line.f).bind fun bt216 => ((static_Check.f k bt216.1 bt216.2.1 bt216.2.2 0 2 (([3, 2] : List Int))).bind fun bt224 => ((ebbtidelaw07_line.f).bind fun bt226 => ((static_Push.f k bt226.1 bt226.2.1 bt226.2.2 (([3, 3] : List Int)) (([(⟨0, false⟩ : S41), (⟨1, false⟩ : S41)] : List (S41))) 2).bind fun bt237 => (if t215 = 0 then (if t214 = 3 then (if bt224.2 = 71 then (if bt237.2 = 0 then ((ebbtideref03_SameInts.f k bt237.1 (([5, 5] : List Int))).bind fun t244 => (if t244 = true then ((ebbtidelaw07_line.f).bind fun bt245 => ((static_Ends.f k bt245.1 bt245.2.1 bt245.2.2 1 1).bind fun t250 => (some (t250 == 70)))) else (some false))) else (some false)) else (some false)) else (some false)) else (some false)))))) = some r := H
 have A2 := Aside0.mk A20
 clear A20
 replace H := Option.bind_eq_some_iff.mp H
 obtain ⟨⟨t216, t217, t218⟩, A30, H⟩ := H
 replace H : ((static_Check.f k t216 t217 t218 0 2 (([3, 2] : List Int))).bind fun bt224 => ((ebbtidelaw07_line.f).bind fun bt226 => ((static_Push.f k bt226.1 bt226.2.1 bt226.2.2 (([3, 3] : List Int)) (([(⟨0, false⟩ : S41), (⟨1, false⟩ : S41)] : List (S41))) 2).bind fun bt237 => (if t215 = 0 then (if t214 = 3 then (if bt224.2 = 71 then (if bt237.2 = 0 then ((ebbtideref03_SameInts.f k bt237.1 (([5, 5] : List Int))).bind fun t244 => (if t244 = true then ((ebbtidelaw07_line.f).bind fun bt245 => ((static_Ends.f k bt245.1 bt245.2.1 bt245.2.2 1 1).bind fun t250 => (some (t250 == 70)))) else (some false))) else (some false)) else (some false)) else (some false)) else (some false))))) = some r := H
 have A3 := Aside0.mk A30
 clear A30
 obtain ⟨y221, hy221⟩ : ∃ y_ : List Int, y_ = (([3, 2] : List Int)) := ⟨_, rfl⟩
 replace H : ((static_Check.f k t216 t217 t218 0 2 y221).bind fun bt224 => ((ebbtidelaw07_line.f).bind fun bt226 => ((static_Push.f k bt226.1 bt226.2.1 bt226.2.2 (([3, 3] : List Int)) (([(⟨0, false⟩ : S41), (⟨1, false⟩ : S41)] : List (S41))) 2).bind fun bt237 => (if t215 = 0 then (if t214 = 3 then (if bt224.2 = 71 then (if bt237.2 = 0 then ((ebbtideref03_SameInts.f k bt237.1 (([5, 5] : List Int))).bind fun t244 => (if t244 = true then ((ebbtidelaw07_line.f).bind fun bt245 => ((static_Ends.f k bt245.1 bt245.2.1 bt245.2.2 1 1).bind fun t250 => (some (t250 == 70)))) else (some false))) else (some false)) else (some false)) else (some false)) else (some false))))) = some r := by first | (rw [hy221]; with_reducible exact H) | (have H2_ := (Option.bind_some _ _).symm.trans H; rw [hy221]; with_reducible exact H2_) | (have H2_ := (Option.bind_some _ _).symm.trans H; with_reducible exact H2_) | with_reducible exact H | (rw [hy221]; exact H) | exact H
 have Ny221 := Aside0.mk hy221
 clear hy221
 replace H := Option.bind_eq_some_iff.mp H
 obtain ⟨⟨t224, t225⟩, A40, H⟩ := H
 replace H : ((ebbtidelaw07_line.f).bind fun bt226 => ((static_Push.f k bt226.1 bt226.2.1 bt226.2.2 (([3, 3] : List Int)) (([(⟨0, false⟩ : S41), (⟨1, false⟩ : S41)] : List (S41))) 2).bind fun bt237 => (if t215 = 0 then (if t214 = 3 then (if t225 = 71 then (if bt237.2 = 0 then ((ebbtideref03_SameInts.f k bt237.1 (([5, 5] : List Int))).bind fun t244 => (if t244 = true then ((ebbtidelaw07_line.f).bind fun bt245 => ((static_Ends.f k bt245.1 bt245.2.1 bt245.2.2 1 1).bind fun t250 => (some (t250 == 70)))) else (some false))) else (some false)) else (some false)) else (some false)) else (some false)))) = some r := H
 have A4 := Aside0.mk A40
 clear A40
 replace H := Option.bind_eq_some_iff.mp H
 obtain ⟨⟨t226, t227, t228⟩, A50, H⟩ := H
 replace H : ((static_Push.f k t226 t227 t228 (([3, 3] : List Int)) (([(⟨0, false⟩ : S41), (⟨1, false⟩ : S41)] : List (S41))) 2).bind fun bt237 => (if t215 = 0 then (if t214 = 3 then (if t225 = 71 then (if bt237.2 = 0 then ((ebbtideref03_SameInts.f k bt237.1 (([5, 5] : List Int))).bind fun t244 => (if t244 = true then ((ebbtidelaw07_line.f).bind fun bt245 => ((static_Ends.f k bt245.1 bt245.2.1 bt245.2.2 1 1).bind fun t250 => (some (t250 == 70)))) else (some false))) else (some false)) else (some false)) else (some false)) else (some false))) = some r := H
 have A5 := Aside0.mk A50
 clear A50
 obtain ⟨y231, hy231⟩ : ∃ y_ : List Int, y_ = (([3, 3] : List Int)) := ⟨_, rfl⟩
 replace H : ((static_Push.f k t226 t227 t228 y231 (([(⟨0, false⟩ : S41), (⟨1, false⟩ : S41)] : List (S41))) 2).bind fun bt237 => (if t215 = 0 then (if t214 = 3 then (if t225 = 71 then (if bt237.2 = 0 then ((ebbtideref03_SameInts.f k bt237.1 (([5, 5] : List Int))).bind fun t244 => (if t244 = true then ((ebbtidelaw07_line.f).bind fun bt245 => ((static_Ends.f k bt245.1 bt245.2.1 bt245.2.2 1 1).bind fun t250 => (some (t250 == 70)))) else (some false))) else (some false)) else (some false)) else (some false)) else (some false))) = some r := by first | (rw [hy231]; with_reducible exact H) | (have H2_ := (Option.bind_some _ _).symm.trans H; rw [hy231]; with_reducible exact H2_) | (have H2_ := (Option.bind_some _ _).symm.trans H; with_reducible exact H2_) | with_reducible exact H | (rw [hy231]; exact H) | exact H
 have Ny231 := Aside0.mk hy231
 clear hy231
 obtain ⟨y234, hy234⟩ : ∃ y_ : List (S41), y_ = (([(⟨0, false⟩ : S41), (⟨1, false⟩ : S41)] : List (S41))) := ⟨_, rfl⟩
 replace H : ((static_Push.f k t226 t227 t228 y231 y234 2).bind fun bt237 => (if t215 = 0 then (if t214 = 3 then (if t225 = 71 then (if bt237.2 = 0 then ((ebbtideref03_SameInts.f k bt237.1 (([5, 5] : List Int))).bind fun t244 => (if t244 = true then ((ebbtidelaw07_line.f).bind fun bt245 => ((static_Ends.f k bt245.1 bt245.2.1 bt245.2.2 1 1).bind fun t250 => (some (t250 == 70)))) else (some false))) else (some false)) else (some false)) else (some false)) else (some false))) = some r := by first | (rw [hy234]; with_reducible exact H) | (have H2_ := (Option.bind_some _ _).symm.trans H; rw [hy234]; with_reducible exact H2_) | (have H2_ := (Option.bind_some _ _).symm.trans H; with_reducible exact H2_) | with_reducible exact H | (rw [hy234]; exact H) | exact H
 have Ny234 := Aside0.mk hy234
 clear hy234
 replace H := Option.bind_eq_some_iff.mp H
 obtain ⟨⟨t237, t240⟩, A60, H⟩ := H
 replace H : (if t215 = 0 then (if t214 = 3 then (if t225 = 71 then (if t240 = 0 then ((ebbtideref03_SameInts.f k t237 (([5, 5] : List Int))).bind fun t244 => (if t244 = true then ((ebbtidelaw07_line.f).bind fun bt245 => ((static_Ends.f k bt245.1 bt245.2.1 bt245.2.2 1 1).bind fun t250 => (some (t250 == 70)))) else (some false))) else (some false)) else (some false)) else (some false)) else (some false)) = some r := H
 have A6 := Aside0.mk A60
 clear A60
 by_cases c7 : t215 = 0
 ·rw [if_pos c7] at H
  have c7b0 : (t215 == 0) = true := beq_iff_eq.mpr c7
  have c7b1 : (t215 != 0) = false := bne_eq_false_iff_eq.mpr c7
  clear c7
  by_cases c8 : t214 = 3
  ·rw [if_pos c8] at H
   have c8b0 : (t214 == 3) = true := beq_iff_eq.mpr c8
   have c8b1 : (t214 != 3) = false := bne_eq_false_iff_eq.mpr c8
   clear c8
   by_cases c9 : t225 = 71
   ·rw [if_pos c9] at H
    have c9b0 : (t225 == 71) = true := beq_iff_eq.mpr c9
    have c9b1 : (t225 != 71) = false := bne_eq_false_iff_eq.mpr c9
    clear c9
    by_cases c10 : t240 = 0
    ·rw [if_pos c10] at H
     have c10b0 : (t240 == 0) = true := beq_iff_eq.mpr c10
     have c10b1 : (t240 != 0) = false := bne_eq_false_iff_eq.mpr c10
     clear c10
     obtain ⟨y241, hy241⟩ : ∃ y_ : List Int, y_ = (([5, 5] : List Int)) := ⟨_, rfl⟩
     replace H : ((ebbtideref03_SameInts.f k t237 y241).bind fun t244 => (if t244 = true then ((ebbtidelaw07_line.f).bind fun bt245 => ((static_Ends.f k bt245.1 bt245.2.1 bt245.2.2 1 1).bind fun t250 => (some (t250 == 70)))) else (some false))) = some r := by first | (rw [hy241]; with_reducible exact H) | (have H2_ := (Option.bind_some _ _).symm.trans H; rw [hy241]; with_reducible exact H2_) | (have H2_ := (Option.bind_some _ _).symm.trans H; with_reducible exact H2_) | with_reducible exact H | (rw [hy241]; exact H) | exact H
     have Ny241 := Aside0.mk hy241
     clear hy241
     replace H := Option.bind_eq_some_iff.mp H
     obtain ⟨t244, A110, H⟩ := H
     replace H : (if t244 = true then ((ebbtidelaw07_line.f).bind fun bt245 => ((static_Ends.f k bt245.1 bt245.2.1 bt245.2.2 1 1).bind fun t250 => (some (t250 == 70)))) else (some false)) = some r := H
     have A11 := Aside0.mk A110
     clear A110
     by_cases c12 : t244 = true
     ·subst c12
      have H1 : ((ebbtidelaw07_line.f).bind fun bt245 => ((static_Ends.f k bt245.1 bt245.2.1 bt245.2.2 1 1).bind fun t250 => (some (t250 == 70)))) = some r := by rw [if_pos rfl] at H; exact H
      clear H
      have H := H1
      clear H1
      replace H := Option.bind_eq_some_iff.mp H
      obtain ⟨⟨t245, t246, t247⟩, A130, H⟩ := H
      replace H : ((static_Ends.f k t245 t246 t247 1 1).bind fun t250 => (some (t250 == 70))) = some r := H
      have A13 := Aside0.mk A130
      clear A130
      replace H := Option.bind_eq_some_iff.mp H
      obtain ⟨t250, A140, H⟩ := H
      replace H : (some (t250 == 70)) = some r := H
      have A14 := Aside0.mk A140
      clear A140
      obtain rfl := Option.some.inj H
      go_enter Try.func12, Try.ntmps12
      go_wp2_with (first | ((with_reducible refine gate_callee (f := 27) rfl ?_); refine goesL_ (some 8) rfl rfl Try.func27 (by kernel_rfl) rfl #[] rfl (by (try simp only [List.map_toArray, List.map_cons, List.map_nil]); first | done | rfl | (simp only [List.length_drop, List.length_take]; rfl)) ?_; (with_reducible refine (ebbtidelaw07_line.calls  t206 t207 t208 _ A1.out).mono ?_); rintro e w15 ⟨v209, rfl, ho0, hb⟩; refine ⟨_, rfl, ?_⟩; have n0_ := Aside0.mk (Kd.R_lower ho0 (below_size (by repeat (first | (with_reducible first | exact HB.out | apply below_alloc | apply pw_below_drewN | apply below_drew1) | exact HB.out)))); have n1_ := Aside0.mk (below_step (by repeat (first | (with_reducible first | exact HB.out | apply below_alloc | apply pw_below_drewN | apply below_drew1) | exact HB.out)) hb); clear HB; have HO210 := n0_; have HB := n1_; clear n0_ n1_; (try clear hb); (try clear hb2); (try clear hk); (try clear hi); (try clear ho0)) | ((with_reducible refine gate_dst (N := 9) rfl ?_); (try (refine gate_guard (by rfl) ?_; dsimp only)); refine Kd.R_lit (Kd.int .i64) _ 3 ?hg (N := 9) ?hd (xs := ([3, 3] : List Int)) (inner := [.int .i64 3, .int .i64 3]) (ok := fun _ => True) (okp := fun _ => True) ?hr ?hp (fun _ hk => hk) trivial (Below.refl _ _) (Nat.le_refl _) (by simp) ?_; (case hd => rfl); (case hg => rfl); (case hr => first | (go_simp; done) | (go_simp; rfl)); (case hp => exact (Reps.one (show Kd.M (Kd.int .i64) _ _ _ 3 [.int .i64 3] from rfl) (Reps.one (show Kd.M (Kd.int .i64) _ _ _ 3 [.int .i64 3] from rfl) (Reps.none _ _)))); intro v212 w16 ho17 hb hg_ hnew_; clear hg_ hnew_; (first | rw [← Ny211.out] at ho17 | (simp only [Int.reduceToNat] at ho17; rw [← Ny211.out] at ho17)); have n0_ := Aside0.mk (Kd.R_below (by (with_reducible repeat (first | apply Kd.R_alloc | apply Kd.R_drewN | apply Kd.R_drew)); exact HO210.out) hb); have n1_ := Aside0.mk (Kd.R_lower ho17 (below_size (by repeat (first | (with_reducible first | exact HB.out | apply below_alloc | apply pw_below_drewN | apply below_drew1) | exact HB.out)))); have n2_ := Aside0.mk (below_step (by repeat (first | (with_reducible first | exact HB.out | apply below_alloc | apply pw_below_drewN | apply below_drew1) | exact HB.out)) hb); clear HO210; clear HB; have HO210 := n0_; have HO213 := n1_; have HB := n2_; clear n0_ n1_ n2_; clear hb ho17; obtain ⟨Ao18, co18, eo18⟩ := Kd.R_slice HO210.out; subst eo18; obtain ⟨Ao19, co19, eo19⟩ := Kd.R_slice HO213.out; subst eo19) | ((with_reducible refine gate_callee (f := 10) rfl ?_); refine goesL_ (some 10) rfl rfl Try.func10 (by kernel_rfl) rfl #[.agg #[.int .i64 t206, .bool t207, .slice Ao18 t208.length co18], .int .i64 0, .int .i64 2, .slice Ao19 y211.length co19] rfl (by (try simp only [List.map_toArray, List.map_cons, List.map_nil]); first | done | rfl | (simp only [List.length_drop, List.length_take]; rfl)) ?_; (with_reducible refine (static_Check.calls k t206 t207 _ _ t208 0 2 _ _ y211 t214 t215 _ ?side1 ?side2 ?side3 ?side4 A2.out).mono ?_); (case side1 => repeat (first | exact (Kd.R_reads' HO210.out).2.2 | (with_reducible refine Kd.C_alloc ?_ _) | (with_reducible refine Kd.C_drewN ?_ _) | (with_reducible refine Kd.C_drew ?_))); (case side2 => exact (Kd.R_reads' HO210.out).2.1); (case side3 => repeat (first | exact (Kd.R_reads' HO213.out).2.2 | (with_reducible refine Kd.C_alloc ?_ _) | (with_reducible refine Kd.C_drewN ?_ _) | (with_reducible refine Kd.C_drew ?_))); (case side4 => exact (Kd.R_reads' HO213.out).2.1); rintro e w20 ⟨rfl, hb⟩; refine ⟨_, rfl, ?_⟩; have n0_ := Aside0.mk (Kd.R_below (by (with_reducible repeat (first | apply Kd.R_alloc | apply Kd.R_drewN | apply Kd.R_drew)); exact HO210.out) hb); have n1_ := Aside0.mk (Kd.R_below (by (with_reducible repeat (first | apply Kd.R_alloc | apply Kd.R_drewN | apply Kd.R_drew)); exact HO213.out) hb); have n2_ := Aside0.mk (below_step (by repeat (first | (with_reducible first | exact HB.out | apply below_alloc | apply pw_below_drewN | apply below_drew1) | exact HB.out)) hb); clear HO210; clear HO213; clear HB; have HO210 := n0_; have HO213 := n1_; have HB := n2_; clear n0_ n1_ n2_; (try clear hb); (try clear hb2); (try clear hk); (try clear hi)) | ((with_reducible refine gate_callee (f := 27) rfl ?_); refine goesL_ (some 14) rfl rfl Try.func27 (by kernel_rfl) rfl #[] rfl (by (try simp only [List.map_toArray, List.map_cons, List.map_nil]); first | done | rfl | (simp only [List.length_drop, List.length_take]; rfl)) ?_; (with_reducible refine (ebbtidelaw07_line.calls  t216 t217 t218 _ A3.out).mono ?_); rintro e w21 ⟨v219, rfl, ho0, hb⟩; refine ⟨_, rfl, ?_⟩; have n0_ := Aside0.mk (Kd.R_elder' (by (with_reducible repeat (first | apply Kd.R_alloc | apply Kd.R_drewN | apply Kd.R_drew)); exact HO210.out) (Kd.R_base ho0) hb); have n1_ := Aside0.mk (Kd.R_below (by (with_reducible repeat (first | apply Kd.R_alloc | apply Kd.R_drewN | apply Kd.R_drew)); exact HO213.out) hb); have n2_ := Aside0.mk (Kd.R_lower (Kd.R_new' ho0 (Kd.R_lt (by (with_reducible repeat (first | apply Kd.R_alloc | apply Kd.R_drewN | apply Kd.R_drew)); exact HO210.out))) (below_size (by repeat (first | (with_reducible first | exact HB.out | apply below_alloc | apply pw_below_drewN | apply below_drew1) | exact HB.out)))); have n3_ := Aside0.mk (below_step (by repeat (first | (with_reducible first | exact HB.out | apply below_alloc | apply pw_below_drewN | apply below_drew1) | exact HB.out)) hb); clear HO210; clear HO213; clear HB; have HO210 := n0_; have HO213 := n1_; have HO220 := n2_; have HB := n3_; clear n0_ n1_ n2_ n3_; (try clear hb); (try clear hb2); (try clear hk); (try clear hi); (try clear ho0)) | ((with_reducible refine gate_dst (N := 15) rfl ?_); (try (refine gate_guard (by rfl) ?_; dsimp only)); refine Kd.R_lit (Kd.int .i64) _ 3 ?hg (N := 15) ?hd (xs := ([3, 2] : List Int)) (inner := [.int .i64 3, .int .i64 2]) (ok := fun _ => True) (okp := fun _ => True) ?hr ?hp (fun _ hk => hk) trivial (Below.refl _ _) (Nat.le_refl _) (by simp) ?_; (case hd => rfl); (case hg => rfl); (case hr => first | (go_simp; done) | (go_simp; rfl)); (case hp => exact (Reps.one (show Kd.M (Kd.int .i64) _ _ _ 3 [.int .i64 3] from rfl) (Reps.one (show Kd.M (Kd.int .i64) _ _ _ 2 [.int .i64 2] from rfl) (Reps.none _ _)))); intro v222 w22 ho23 hb hg_ hnew_; clear hg_ hnew_; (first | rw [← Ny221.out] at ho23 | (simp only [Int.reduceToNat] at ho23; rw [← Ny221.out] at ho23)); have n0_ := Aside0.mk (Kd.R_below (by (with_reducible repeat (first | apply Kd.R_alloc | apply Kd.R_drewN | apply Kd.R_drew)); exact HO210.out) hb); have n1_ := Aside0.mk (Kd.R_elder' (by (with_reducible repeat (first | apply Kd.R_alloc | apply Kd.R_drewN | apply Kd.R_drew)); exact HO213.out) (Kd.R_base ho23) hb); have n2_ := Aside0.mk (Kd.R_below (by (with_reducible repeat (first | apply Kd.R_alloc | apply Kd.R_drewN | apply Kd.R_drew)); exact HO220.out) hb); have n3_ := Aside0.mk (Kd.R_lower (Kd.R_new' ho23 (Kd.R_lt (by (with_reducible repeat (first | apply Kd.R_alloc | apply Kd.R_drewN | apply Kd.R_drew)); exact HO213.out))) (below_size (by repeat (first | (with_reducible first | exact HB.out | apply below_alloc | apply pw_below_drewN | apply below_drew1) | exact HB.out)))); have n4_ := Aside0.mk (below_step (by repeat (first | (with_reducible first | exact HB.out | apply below_alloc | apply pw_below_drewN | apply below_drew1) | exact HB.out)) hb); clear HO210; clear HO213; clear HO220; clear HB; have HO210 := n0_; have HO213 := n1_; have HO220 := n2_; have HO223 := n3_; have HB := n4_; clear n0_ n1_ n2_ n3_ n4_; clear hb ho23; obtain ⟨Ao24, co24, eo24⟩ := Kd.R_slice HO220.out; subst eo24; obtain ⟨Ao25, co25, eo25⟩ := Kd.R_slice HO223.out; subst eo25) | ((with_reducible refine gate_callee (f := 10) rfl ?_); refine goesL_ (some 16) rfl rfl Try.func10 (by kernel_rfl) rfl #[.agg #[.int .i64 t216, .bool t217, .slice Ao24 t218.length co24], .int .i64 0, .int .i64 2, .slice Ao25 y221.length co25] rfl (by (try simp only [List.map_toArray, List.map_cons, List.map_nil]); first | done | rfl | (simp only [List.length_drop, List.length_take]; rfl)) ?_; (with_reducible refine (static_Check.calls k t216 t217 _ _ t218 0 2 _ _ y221 t224 t225 _ ?side1 ?side2 ?side3 ?side4 A4.out).mono ?_); (case side1 => repeat (first | exact (Kd.R_reads' HO220.out).2.2 | (with_reducible refine Kd.C_alloc ?_ _) | (with_reducible refine Kd.C_drewN ?_ _) | (with_reducible refine Kd.C_drew ?_))); (case side2 => exact (Kd.R_reads' HO220.out).2.1); (case side3 => repeat (first | exact (Kd.R_reads' HO223.out).2.2 | (with_reducible refine Kd.C_alloc ?_ _) | (with_reducible refine Kd.C_drewN ?_ _) | (with_reducible refine Kd.C_drew ?_))); (case side4 => exact (Kd.R_reads' HO223.out).2.1); rintro e w26 ⟨rfl, hb⟩; refine ⟨_, rfl, ?_⟩; have n0_ := Aside0.mk (Kd.R_below (by (with_reducible repeat (first | apply Kd.R_alloc | apply Kd.R_drewN | apply Kd.R_drew)); exact HO210.out) hb); have n1_ := Aside0.mk (Kd.R_below (by (with_reducible repeat (first | apply Kd.R_alloc | apply Kd.R_drewN | apply Kd.R_drew)); exact HO213.out) hb); have n2_ := Aside0.mk (Kd.R_below (by (with_reducible repeat (first | apply Kd.R_alloc | apply Kd.R_drewN | apply Kd.R_drew)); exact HO220.out) hb); have n3_ := Aside0.mk (Kd.R_below (by (with_reducible repeat (first | apply Kd.R_alloc | apply Kd.R_drewN | apply Kd.R_drew)); exact HO223.out) hb); have n4_ := Aside0.mk (below_step (by repeat (first | (with_reducible first | exact HB.out | apply below_alloc | apply pw_below_drewN | apply below_drew1) | exact HB.out)) hb); clear HO210; clear HO213; clear HO220; clear HO223; clear HB; have HO210 := n0_; have HO213 := n1_; have HO220 := n2_; have HO223 := n3_; have HB := n4_; clear n0_ n1_ n2_ n3_ n4_; (try clear hb); (try clear hb2); (try clear hk); (try clear hi)) | ((with_reducible refine gate_callee (f := 27) rfl ?_); refine goesL_ (some 20) rfl rfl Try.func27 (by kernel_rfl) rfl #[] rfl (by (try simp only [List.map_toArray, List.map_cons, List.map_nil]); first | done | rfl | (simp only [List.length_drop, List.length_take]; rfl)) ?_; (with_reducible refine (ebbtidelaw07_line.calls  t226 t227 t228 _ A5.out).mono ?_); rintro e w27 ⟨v229, rfl, ho0, hb⟩; refine ⟨_, rfl, ?_⟩; have n0_ := Aside0.mk (Kd.R_elder' (by (with_reducible repeat (first | apply Kd.R_alloc | apply Kd.R_drewN | apply Kd.R_drew)); exact HO210.out) (Kd.R_base ho0) hb); have n1_ := Aside0.mk (Kd.R_below (by (with_reducible repeat (first | apply Kd.R_alloc | apply Kd.R_drewN | apply Kd.R_drew)); exact HO213.out) hb); have n2_ := Aside0.mk (Kd.R_elder' (by (with_reducible repeat (first | apply Kd.R_alloc | apply Kd.R_drewN | apply Kd.R_drew)); exact HO220.out) (Kd.R_base ho0) hb); have n3_ := Aside0.mk (Kd.R_below (by (with_reducible repeat (first | apply Kd.R_alloc | apply Kd.R_drewN | apply Kd.R_drew)); exact HO223.out) hb); have n4_ := Aside0.mk (Kd.R_lower (Kd.R_new' (Kd.R_new' ho0 (Kd.R_lt (by (with_reducible repeat (first | apply Kd.R_alloc | apply Kd.R_drewN | apply Kd.R_drew)); exact HO210.out))) (Kd.R_lt (by (with_reducible repeat (first | apply Kd.R_alloc | apply Kd.R_drewN | apply Kd.R_drew)); exact HO220.out))) (below_size (by repeat (first | (with_reducible first | exact HB.out | apply below_alloc | apply pw_below_drewN | apply below_drew1) | exact HB.out)))); have n5_ := Aside0.mk (below_step (by repeat (first | (with_reducible first | exact HB.out | apply below_alloc | apply pw_below_drewN | apply below_drew1) | exact HB.out)) hb); clear HO210; clear HO213; clear HO220; clear HO223; clear HB; have HO210 := n0_; have HO213 := n1_; have HO220 := n2_; have HO223 := n3_; have HO230 := n4_; have HB := n5_; clear n0_ n1_ n2_ n3_ n4_ n5_; (try clear hb); (try clear hb2); (try clear hk); (try clear hi); (try clear ho0)) | ((with_reducible refine gate_dst (N := 21) rfl ?_); (try (refine gate_guard (by rfl) ?_; dsimp only)); refine Kd.R_lit (Kd.int .i64) _ 3 ?hg (N := 21) ?hd (xs := ([3, 3] : List Int)) (inner := [.int .i64 3, .int .i64 3]) (ok := fun _ => True) (okp := fun _ => True) ?hr ?hp (fun _ hk => hk) trivial (Below.refl _ _) (Nat.le_refl _) (by simp) ?_; (case hd => rfl); (case hg => rfl); (case hr => first | (go_simp; done) | (go_simp; rfl)); (case hp => exact (Reps.one (show Kd.M (Kd.int .i64) _ _ _ 3 [.int .i64 3] from rfl) (Reps.one (show Kd.M (Kd.int .i64) _ _ _ 3 [.int .i64 3] from rfl) (Reps.none _ _)))); intro v232 w28 ho29 hb hg_ hnew_; clear hg_ hnew_; (first | rw [← Ny231.out] at ho29 | (simp only [Int.reduceToNat] at ho29; rw [← Ny231.out] at ho29)); have n0_ := Aside0.mk (Kd.R_below (by (with_reducible repeat (first | apply Kd.R_alloc | apply Kd.R_drewN | apply Kd.R_drew)); exact HO210.out) hb); have n1_ := Aside0.mk (Kd.R_elder' (by (with_reducible repeat (first | apply Kd.R_alloc | apply Kd.R_drewN | apply Kd.R_drew)); exact HO213.out) (Kd.R_base ho29) hb); have n2_ := Aside0.mk (Kd.R_below (by (with_reducible repeat (first | apply Kd.R_alloc | apply Kd.R_drewN | apply Kd.R_drew)); exact HO220.out) hb); have n3_ := Aside0.mk (Kd.R_elder' (by (with_reducible repeat (first | apply Kd.R_alloc | apply Kd.R_drewN | apply Kd.R_drew)); exact HO223.out) (Kd.R_base ho29) hb); have n4_ := Aside0.mk (Kd.R_below (by (with_reducible repeat (first | apply Kd.R_alloc | apply Kd.R_drewN | apply Kd.R_drew)); exact HO230.out) hb); have n5_ := Aside0.mk (Kd.R_lower (Kd.R_new' (Kd.R_new' ho29 (Kd.R_lt (by (with_reducible repeat (first | apply Kd.R_alloc | apply Kd.R_drewN | apply Kd.R_drew)); exact HO213.out))) (Kd.R_lt (by (with_reducible repeat (first | apply Kd.R_alloc | apply Kd.R_drewN | apply Kd.R_drew)); exact HO223.out))) (below_size (by repeat (first | (with_reducible first | exact HB.out | apply below_alloc | apply pw_below_drewN | apply below_drew1) | exact HB.out)))); have n6_ := Aside0.mk (below_step (by repeat (first | (with_reducible first | exact HB.out | apply below_alloc | apply pw_below_drewN | apply below_drew1) | exact HB.out)) hb); clear HO210; clear HO213; clear HO220; clear HO223; clear HO230; clear HB; have HO210 := n0_; have HO213 := n1_; have HO220 := n2_; have HO223 := n3_; have HO230 := n4_; have HO233 := n5_; have HB := n6_; clear n0_ n1_ n2_ n3_ n4_ n5_ n6_; clear hb ho29) | ((with_reducible refine gate_dst (N := 24) rfl ?_); (try (refine gate_guard (by rfl) ?_; dsimp only)); refine Kd.R_lit k41 _ 41 ?hg (N := 24) ?hd (xs := ([(⟨0, false⟩ : S41), (⟨1, false⟩ : S41)] : List (S41))) (inner := [.int .i64 0, .bool false, .int .i64 1, .bool false]) (ok := fun _ => True) (okp := fun _ => True) ?hr ?hp (fun _ hk => hk) trivial (Below.refl _ _) (Nat.le_refl _) (by simp) ?_; (case hd => rfl); (case hg => rfl); (case hr => first | (go_simp; done) | (go_simp; rfl)); (case hp => exact (Reps.c2 (show Kd.M k41 _ _ _ (⟨0, false⟩ : S41) [.int .i64 0, .bool false] from (k41_mkM _ _ _ (⟨0, false⟩ : S41) )) (Reps.c2 (show Kd.M k41 _ _ _ (⟨1, false⟩ : S41) [.int .i64 1, .bool false] from (k41_mkM _ _ _ (⟨1, false⟩ : S41) )) (Reps.none _ _)))); intro v235 w30 ho31 hb hg_ hnew_; clear hg_ hnew_; (first | rw [← Ny234.out] at ho31 | (simp only [Int.reduceToNat] at ho31; rw [← Ny234.out] at ho31)); have n0_ := Aside0.mk (Kd.R_below (by (with_reducible repeat (first | apply Kd.R_alloc | apply Kd.R_drewN | apply Kd.R_drew)); exact HO210.out) hb); have n1_ := Aside0.mk (Kd.R_below (by (with_reducible repeat (first | apply Kd.R_alloc | apply Kd.R_drewN | apply Kd.R_drew)); exact HO213.out) hb); have n2_ := Aside0.mk (Kd.R_below (by (with_reducible repeat (first | apply Kd.R_alloc | apply Kd.R_drewN | apply Kd.R_drew)); exact HO220.out) hb); have n3_ := Aside0.mk (Kd.R_below (by (with_reducible repeat (first | apply Kd.R_alloc | apply Kd.R_drewN | apply Kd.R_drew)); exact HO223.out) hb); have n4_ := Aside0.mk (Kd.R_below (by (with_reducible repeat (first | apply Kd.R_alloc | apply Kd.R_drewN | apply Kd.R_drew)); exact HO230.out) hb); have n5_ := Aside0.mk (Kd.R_below (by (with_reducible repeat (first | apply Kd.R_alloc | apply Kd.R_drewN | apply Kd.R_drew)); exact HO233.out) hb); have n6_ := Aside0.mk (Kd.R_lower ho31 (below_size (by repeat (first | (with_reducible first | exact HB.out | apply below_alloc | apply pw_below_drewN | apply below_drew1) | exact HB.out)))); have n7_ := Aside0.mk (below_step (by repeat (first | (with_reducible first | exact HB.out | apply below_alloc | apply pw_below_drewN | apply below_drew1) | exact HB.out)) hb); clear HO210; clear HO213; clear HO220; clear HO223; clear HO230; clear HO233; clear HB; have HO210 := n0_; have HO213 := n1_; have HO220 := n2_; have HO223 := n3_; have HO230 := n4_; have HO233 := n5_; have HO236 := n6_; have HB := n7_; clear n0_ n1_ n2_ n3_ n4_ n5_ n6_ n7_; clear hb ho31; obtain ⟨Ao32, co32, eo32⟩ := Kd.R_slice HO230.out; subst eo32; obtain ⟨Ao33, co33, eo33⟩ := Kd.R_slice HO233.out; subst eo33; obtain ⟨Ao34, co34, eo34⟩ := Kd.R_slice HO236.out; subst eo34) | ((with_reducible refine gate_callee (f := 16) rfl ?_); refine goesL_ (some 25) rfl rfl Try.func16 (by kernel_rfl) rfl #[.agg #[.int .i64 t226, .bool t227, .slice Ao32 t228.length co32], .slice Ao33 y231.length co33, .slice Ao34 y234.length co34, .int .i64 2] rfl (by (try simp only [List.map_toArray, List.map_cons, List.map_nil]); first | done | rfl | (simp only [List.length_drop, List.length_take]; rfl)) ?_; (with_reducible refine (static_Push.calls k t226 t227 _ _ t228 _ _ y231 _ _ y234 2 t237 t240 _ ?side1 ?side2 ?side3 ?side4 ?side5 ?side6 A6.out).mono ?_); (case side1 => repeat (first | exact (Kd.R_reads' HO230.out).2.2 | (with_reducible refine Kd.C_alloc ?_ _) | (with_reducible refine Kd.C_drewN ?_ _) | (with_reducible refine Kd.C_drew ?_))); (case side2 => exact (Kd.R_reads' HO230.out).2.1); (case side3 => repeat (first | exact (Kd.R_reads' HO233.out).2.2 | (with_reducible refine Kd.C_alloc ?_ _) | (with_reducible refine Kd.C_drewN ?_ _) | (with_reducible refine Kd.C_drew ?_))); (case side4 => exact (Kd.R_reads' HO233.out).2.1); (case side5 => repeat (first | exact (Kd.R_reads' HO236.out).2.2 | (with_reducible refine Kd.C_alloc ?_ _) | (with_reducible refine Kd.C_drewN ?_ _) | (with_reducible refine Kd.C_drew ?_))); (case side6 => exact (Kd.R_reads' HO236.out).2.1); rintro e w35 ⟨v238, rfl, ho0, hb⟩; refine ⟨_, rfl, ?_⟩; have n0_ := Aside0.mk (Kd.R_below (by (with_reducible repeat (first | apply Kd.R_alloc | apply Kd.R_drewN | apply Kd.R_drew)); exact HO210.out) hb); have n1_ := Aside0.mk (Kd.R_elder' (by (with_reducible repeat (first | apply Kd.R_alloc | apply Kd.R_drewN | apply Kd.R_drew)); exact HO213.out) (Kd.R_base ho0) hb); have n2_ := Aside0.mk (Kd.R_below (by (with_reducible repeat (first | apply Kd.R_alloc | apply Kd.R_drewN | apply Kd.R_drew)); exact HO220.out) hb); have n3_ := Aside0.mk (Kd.R_elder' (by (with_reducible repeat (first | apply Kd.R_alloc | apply Kd.R_drewN | apply Kd.R_drew)); exact HO223.out) (Kd.R_base ho0) hb); have n4_ := Aside0.mk (Kd.R_below (by (with_reducible repeat (first | apply Kd.R_alloc | apply Kd.R_drewN | apply Kd.R_drew)); exact HO230.out) hb); have n5_ := Aside0.mk (Kd.R_elder' (by (with_reducible repeat (first | apply Kd.R_alloc | apply Kd.R_drewN | apply Kd.R_drew)); exact HO233.out) (Kd.R_base ho0) hb); have n6_ := Aside0.mk (Kd.R_below (by (with_reducible repeat (first | apply Kd.R_alloc | apply Kd.R_drewN | apply Kd.R_drew)); exact HO236.out) hb); have n7_ := Aside0.mk (Kd.R_lower (Kd.R_new' (Kd.R_new' (Kd.R_new' ho0 (Kd.R_lt (by (with_reducible repeat (first | apply Kd.R_alloc | apply Kd.R_drewN | apply Kd.R_drew)); exact HO213.out))) (Kd.R_lt (by (with_reducible repeat (first | apply Kd.R_alloc | apply Kd.R_drewN | apply Kd.R_drew)); exact HO223.out))) (Kd.R_lt (by (with_reducible repeat (first | apply Kd.R_alloc | apply Kd.R_drewN | apply Kd.R_drew)); exact HO233.out))) (below_size (by repeat (first | (with_reducible first | exact HB.out | apply below_alloc | apply pw_below_drewN | apply below_drew1) | exact HB.out)))); have n8_ := Aside0.mk (below_step (by repeat (first | (with_reducible first | exact HB.out | apply below_alloc | apply pw_below_drewN | apply below_drew1) | exact HB.out)) hb); clear HO210; clear HO213; clear HO220; clear HO223; clear HO230; clear HO233; clear HO236; clear HB; have HO210 := n0_; have HO213 := n1_; have HO220 := n2_; have HO223 := n3_; have HO230 := n4_; have HO233 := n5_; have HO236 := n6_; have HO239 := n7_; have HB := n8_; clear n0_ n1_ n2_ n3_ n4_ n5_ n6_ n7_ n8_; (try clear hb); (try clear hb2); (try clear hk); (try clear hi); (try clear ho0)) | ((with_reducible refine gate_dst (N := 44) rfl ?_); (try (refine gate_guard (by rfl) ?_; dsimp only)); refine Kd.R_lit (Kd.int .i64) _ 3 ?hg (N := 44) ?hd (xs := ([5, 5] : List Int)) (inner := [.int .i64 5, .int .i64 5]) (ok := fun _ => True) (okp := fun _ => True) ?hr ?hp (fun _ hk => hk) trivial (Below.refl _ _) (Nat.le_refl _) (by simp) ?_; (case hd => rfl); (case hg => rfl); (case hr => first | (go_simp; done) | (go_simp; rfl)); (case hp => exact (Reps.one (show Kd.M (Kd.int .i64) _ _ _ 5 [.int .i64 5] from rfl) (Reps.one (show Kd.M (Kd.int .i64) _ _ _ 5 [.int .i64 5] from rfl) (Reps.none _ _)))); intro v242 w36 ho37 hb hg_ hnew_; clear hg_ hnew_; (first | rw [← Ny241.out] at ho37 | (simp only [Int.reduceToNat] at ho37; rw [← Ny241.out] at ho37)); have n0_ := Aside0.mk (Kd.R_below (by (with_reducible repeat (first | apply Kd.R_alloc | apply Kd.R_drewN | apply Kd.R_drew)); exact HO210.out) hb); have n1_ := Aside0.mk (Kd.R_elder' (by (with_reducible repeat (first | apply Kd.R_alloc | apply Kd.R_drewN | apply Kd.R_drew)); exact HO213.out) (Kd.R_base ho37) hb); have n2_ := Aside0.mk (Kd.R_below (by (with_reducible repeat (first | apply Kd.R_alloc | apply Kd.R_drewN | apply Kd.R_drew)); exact HO220.out) hb); have n3_ := Aside0.mk (Kd.R_elder' (by (with_reducible repeat (first | apply Kd.R_alloc | apply Kd.R_drewN | apply Kd.R_drew)); exact HO223.out) (Kd.R_base ho37) hb); have n4_ := Aside0.mk (Kd.R_below (by (with_reducible repeat (first | apply Kd.R_alloc | apply Kd.R_drewN | apply Kd.R_drew)); exact HO230.out) hb); have n5_ := Aside0.mk (Kd.R_elder' (by (with_reducible repeat (first | apply Kd.R_alloc | apply Kd.R_drewN | apply Kd.R_drew)); exact HO233.out) (Kd.R_base ho37) hb); have n6_ := Aside0.mk (Kd.R_below (by (with_reducible repeat (first | apply Kd.R_alloc | apply Kd.R_drewN | apply Kd.R_drew)); exact HO236.out) hb); have n7_ := Aside0.mk (Kd.R_elder' (by (with_reducible repeat (first | apply Kd.R_alloc | apply Kd.R_drewN | apply Kd.R_drew)); exact HO239.out) (Kd.R_base ho37) hb); have n8_ := Aside0.mk (Kd.R_lower (Kd.R_new' (Kd.R_new' (Kd.R_new' (Kd.R_new' ho37 (Kd.R_lt (by (with_reducible repeat (first | apply Kd.R_alloc | apply Kd.R_drewN | apply Kd.R_drew)); exact HO213.out))) (Kd.R_lt (by (with_reducible repeat (first | apply Kd.R_alloc | apply Kd.R_drewN | apply Kd.R_drew)); exact HO223.out))) (Kd.R_lt (by (with_reducible repeat (first | apply Kd.R_alloc | apply Kd.R_drewN | apply Kd.R_drew)); exact HO233.out))) (Kd.R_lt (by (with_reducible repeat (first | apply Kd.R_alloc | apply Kd.R_drewN | apply Kd.R_drew)); exact HO239.out))) (below_size (by repeat (first | (with_reducible first | exact HB.out | apply below_alloc | apply pw_below_drewN | apply below_drew1) | exact HB.out)))); have n9_ := Aside0.mk (below_step (by repeat (first | (with_reducible first | exact HB.out | apply below_alloc | apply pw_below_drewN | apply below_drew1) | exact HB.out)) hb); clear HO210; clear HO213; clear HO220; clear HO223; clear HO230; clear HO233; clear HO236; clear HO239; clear HB; have HO210 := n0_; have HO213 := n1_; have HO220 := n2_; have HO223 := n3_; have HO230 := n4_; have HO233 := n5_; have HO236 := n6_; have HO239 := n7_; have HO243 := n8_; have HB := n9_; clear n0_ n1_ n2_ n3_ n4_ n5_ n6_ n7_ n8_ n9_; clear hb ho37; obtain ⟨Ao38, co38, eo38⟩ := Kd.R_slice HO239.out; subst eo38; obtain ⟨Ao39, co39, eo39⟩ := Kd.R_slice HO243.out; subst eo39) | (go_at_call 15; (with_reducible refine (ebbtideref03_SameInts.calls k _ _ t237 _ _ y241 true _ ?side1 ?side2 ?side3 ?side4 A11.out).mono ?_); (case side1 => repeat (first | exact (Kd.R_reads' HO239.out).2.2 | (with_reducible refine Kd.C_alloc ?_ _) | (with_reducible refine Kd.C_drewN ?_ _) | (with_reducible refine Kd.C_drew ?_))); (case side2 => exact (Kd.R_reads' HO239.out).2.1); (case side3 => repeat (first | exact (Kd.R_reads' HO243.out).2.2 | (with_reducible refine Kd.C_alloc ?_ _) | (with_reducible refine Kd.C_drewN ?_ _) | (with_reducible refine Kd.C_drew ?_))); (case side4 => exact (Kd.R_reads' HO243.out).2.1); rintro e w' ⟨rfl, ⟨nd, rfl⟩⟩) | (go_at_call 27; (with_reducible refine (ebbtidelaw07_line.calls  t245 t246 t247 _ A13.out).mono ?_); rintro e w40 ⟨v248, rfl, ho0, hb⟩; have n0_ := Aside0.mk (Kd.R_elder' (by (with_reducible repeat (first | apply Kd.R_alloc | apply Kd.R_drewN | apply Kd.R_drew)); exact HO210.out) (Kd.R_base ho0) hb); have n1_ := Aside0.mk (Kd.R_below (by (with_reducible repeat (first | apply Kd.R_alloc | apply Kd.R_drewN | apply Kd.R_drew)); exact HO213.out) hb); have n2_ := Aside0.mk (Kd.R_elder' (by (with_reducible repeat (first | apply Kd.R_alloc | apply Kd.R_drewN | apply Kd.R_drew)); exact HO220.out) (Kd.R_base ho0) hb); have n3_ := Aside0.mk (Kd.R_below (by (with_reducible repeat (first | apply Kd.R_alloc | apply Kd.R_drewN | apply Kd.R_drew)); exact HO223.out) hb); have n4_ := Aside0.mk (Kd.R_elder' (by (with_reducible repeat (first | apply Kd.R_alloc | apply Kd.R_drewN | apply Kd.R_drew)); exact HO230.out) (Kd.R_base ho0) hb); have n5_ := Aside0.mk (Kd.R_below (by (with_reducible repeat (first | apply Kd.R_alloc | apply Kd.R_drewN | apply Kd.R_drew)); exact HO233.out) hb); have n6_ := Aside0.mk (Kd.R_below (by (with_reducible repeat (first | apply Kd.R_alloc | apply Kd.R_drewN | apply Kd.R_drew)); exact HO236.out) hb); have n7_ := Aside0.mk (Kd.R_below (by (with_reducible repeat (first | apply Kd.R_alloc | apply Kd.R_drewN | apply Kd.R_drew)); exact HO239.out) hb); have n8_ := Aside0.mk (Kd.R_below (by (with_reducible repeat (first | apply Kd.R_alloc | apply Kd.R_drewN | apply Kd.R_drew)); exact HO243.out) hb); have n9_ := Aside0.mk (Kd.R_lower (Kd.R_new' (Kd.R_new' (Kd.R_new' ho0 (Kd.R_lt (by (with_reducible repeat (first | apply Kd.R_alloc | apply Kd.R_drewN | apply Kd.R_drew)); exact HO210.out))) (Kd.R_lt (by (with_reducible repeat (first | apply Kd.R_alloc | apply Kd.R_drewN | apply Kd.R_drew)); exact HO220.out))) (Kd.R_lt (by (with_reducible repeat (first | apply Kd.R_alloc | apply Kd.R_drewN | apply Kd.R_drew)); exact HO230.out))) (below_size (by repeat (first | (with_reducible first | exact HB.out | apply below_alloc | apply pw_below_drewN | apply below_drew1) | exact HB.out)))); have n10_ := Aside0.mk (below_step (by repeat (first | (with_reducible first | exact HB.out | apply below_alloc | apply pw_below_drewN | apply below_drew1) | exact HB.out)) hb); clear HO210; clear HO213; clear HO220; clear HO223; clear HO230; clear HO233; clear HO236; clear HO239; clear HO243; clear HB; have HO210 := n0_; have HO213 := n1_; have HO220 := n2_; have HO223 := n3_; have HO230 := n4_; have HO233 := n5_; have HO236 := n6_; have HO239 := n7_; have HO243 := n8_; have HO249 := n9_; have HB := n10_; clear n0_ n1_ n2_ n3_ n4_ n5_ n6_ n7_ n8_ n9_ n10_; (try clear hb); (try clear hb2); (try clear hk); (try clear hi); (try clear ho0); obtain ⟨Ao41, co41, eo41⟩ := Kd.R_slice HO249.out; subst eo41) | (go_at_call 13; (with_reducible refine (static_Ends.calls k t245 t246 _ _ t247 1 1 t250 _ ?side1 ?side2 A14.out).mono ?_); (case side1 => repeat (first | exact (Kd.R_reads' HO249.out).2.2 | (with_reducible refine Kd.C_alloc ?_ _) | (with_reducible refine Kd.C_drewN ?_ _) | (with_reducible refine Kd.C_drew ?_))); (case side2 => exact (Kd.R_reads' HO249.out).2.1); rintro e w42 ⟨rfl, hb⟩; have n0_ := Aside0.mk (Kd.R_below (by (with_reducible repeat (first | apply Kd.R_alloc | apply Kd.R_drewN | apply Kd.R_drew)); exact HO210.out) hb); have n1_ := Aside0.mk (Kd.R_below (by (with_reducible repeat (first | apply Kd.R_alloc | apply Kd.R_drewN | apply Kd.R_drew)); exact HO213.out) hb); have n2_ := Aside0.mk (Kd.R_below (by (with_reducible repeat (first | apply Kd.R_alloc | apply Kd.R_drewN | apply Kd.R_drew)); exact HO220.out) hb); have n3_ := Aside0.mk (Kd.R_below (by (with_reducible repeat (first | apply Kd.R_alloc | apply Kd.R_drewN | apply Kd.R_drew)); exact HO223.out) hb); have n4_ := Aside0.mk (Kd.R_below (by (with_reducible repeat (first | apply Kd.R_alloc | apply Kd.R_drewN | apply Kd.R_drew)); exact HO230.out) hb); have n5_ := Aside0.mk (Kd.R_below (by (with_reducible repeat (first | apply Kd.R_alloc | apply Kd.R_drewN | apply Kd.R_drew)); exact HO233.out) hb); have n6_ := Aside0.mk (Kd.R_below (by (with_reducible repeat (first | apply Kd.R_alloc | apply Kd.R_drewN | apply Kd.R_drew)); exact HO236.out) hb); have n7_ := Aside0.mk (Kd.R_below (by (with_reducible repeat (first | apply Kd.R_alloc | apply Kd.R_drewN | apply Kd.R_drew)); exact HO239.out) hb); have n8_ := Aside0.mk (Kd.R_below (by (with_reducible repeat (first | apply Kd.R_alloc | apply Kd.R_drewN | apply Kd.R_drew)); exact HO243.out) hb); have n9_ := Aside0.mk (Kd.R_below (by (with_reducible repeat (first | apply Kd.R_alloc | apply Kd.R_drewN | apply Kd.R_drew)); exact HO249.out) hb); have n10_ := Aside0.mk (below_step (by repeat (first | (with_reducible first | exact HB.out | apply below_alloc | apply pw_below_drewN | apply below_drew1) | exact HB.out)) hb); clear HO210; clear HO213; clear HO220; clear HO223; clear HO230; clear HO233; clear HO236; clear HO239; clear HO243; clear HO249; clear HB; have HO210 := n0_; have HO213 := n1_; have HO220 := n2_; have HO223 := n3_; have HO230 := n4_; have HO233 := n5_; have HO236 := n6_; have HO239 := n7_; have HO243 := n8_; have HO249 := n9_; have HB := n10_; clear n0_ n1_ n2_ n3_ n4_ n5_ n6_ n7_ n8_ n9_ n10_; (try clear hb); (try clear hb2); (try clear hk); (try clear hi)))
      go_ret
      exact ⟨by first | rfl | (simp [errW_none, errW_some] <;> rfl) | (simp [*, errW_none, errW_some] <;> rfl), by repeat (first | (with_reducible first | exact HB.out | apply below_alloc | apply pw_below_drewN | apply below_drew1) | exact HB.out)⟩
     ·replace c12 := Bool.eq_false_iff.mpr c12
      subst c12
      have H1 : (some false) = some r := by rw [if_neg (show ¬ (false = true) by decide)] at H; exact H
      exact absurd (Option.some.inj H1) (by rw [HRT.out]; decide)
    ·rw [if_neg c10] at H
     exact absurd (Option.some.inj H) (by rw [HRT.out]; decide)
   ·rw [if_neg c9] at H
    exact absurd (Option.some.inj H) (by rw [HRT.out]; decide)
  ·rw [if_neg c8] at H
   exact absurd (Option.some.inj H) (by rw [HRT.out]; decide)
 ·rw [if_neg c7] at H
  exact absurd (Option.some.inj H) (by rw [HRT.out]; decide)
end Go.Proofs.Ytghdpoabpodieaa.P

/- Arguments opened by their types: what a type's reading tells of its cells, as the print's kinds (Kd) say it, to any depth of slices and structs. -/
set_option linter.unusedVariables false
set_option linter.unusedSimpArgs false
namespace Go.Proofs.Ytghdpoabpodieaa.Opn
open Go.RowKit Go.ChangeShapes Go.WideShapes Go.Deep Go.Proofs.YtghdpoabpodieaaW.PrintWords

def Opens (P : Program) (t : TypeId) {α : Type} (d : Kd α) (ok : α → Prop) : Prop :=
  ∀ (H : Type) (enc : TypeId × Value → H) (w : World) (base : Nat) (spare : Nat → Bool) (held : Bool) (fuel : Nat) (cs : List Value) (x : DataW H × List MemPlace),
    DataW.trod enc P w base spare held fuel t cs = some x → ∃ a : α, d.K w a cs ∧ ok a

theorem opens_int {P : Program} {t : TypeId} {k : IntKind} (ht : P.underlying t = some (.int k)) : Opens P t (Kd.int k) (fun n => (Lit.int k n).wf = true) := by
  intro H enc w base spare held fuel cs x h
  obtain ⟨n, rfl, _, hw⟩ := DataW.trod_int ht h
  exact ⟨n, rfl, hw⟩

theorem opens_bool {P : Program} {t : TypeId} (ht : P.underlying t = some .bool) : Opens P t Kd.bool (fun _ => True) := by
  intro H enc w base spare held fuel cs x h
  obtain ⟨b, rfl, _⟩ := DataW.trod_bool ht h
  exact ⟨b, rfl, trivial⟩

theorem opens_slice {P : Program} {t e : TypeId} {α : Type} {d : Kd α} {ok : α → Prop} (ht : P.underlying t = some (.slice e)) (hc : P.cellsOf e = d.sz) (h : Opens P e d ok) :
    Opens P t (Kd.slice e d) (fun l => l.length ≤ 9223372036854775807 ∧ ∀ x ∈ l, ok x) := by
  intro H enc w base spare held fuel cs x hx
  rcases open_slice ht hx with ⟨rfl, _⟩ | ⟨a, len, cap, m, n, D, Pl, rfl, hb, hl, hm, hmm, _, hi⟩
  · exact ⟨[], ⟨none, 0, rfl, Nat.le_refl _, rfl, by simp, fun h => absurd h (by simp)⟩, by simp, by simp⟩
  · have hlm : len ≤ m := by rw [hmm]; split <;> omega
    have hel : ∀ i : Nat, i < len → ∃ a' : α, ok a' ∧ ∃ c, c.length = d.sz ∧ d.K w a' c ∧ ∀ j u, c[j]? = some u → w.cell? (a.add (i * d.sz + j)) = some u := by
      intro i hil
      obtain ⟨cs', hcs, htr⟩ := hi i (by omega)
      obtain ⟨a', hK, hok⟩ := h H enc w base spare held n cs' _ htr
      rw [hc] at hcs
      obtain ⟨_, hcl, hat⟩ := World.cells?_some hcs
      refine ⟨a', hok, cs', hcl, hK, fun j u hu => ?_⟩
      have hj : j < d.sz := by have := (List.getElem?_eq_some_iff.1 hu).1; omega
      have := hat j hj
      rw [← Go.Deep.add_add, this, hu]
    have hrow : ∀ k : Nat, k ≤ len → ∃ xs : List α, xs.length = k ∧ (∀ x ∈ xs, ok x) ∧ ∀ j p, xs[j]? = some p → ∃ c, c.length = d.sz ∧ d.K w p c ∧ ∀ i u, c[i]? = some u → w.cell? (a.add (j * d.sz + i)) = some u := by
      intro k
      induction k with
      | zero => exact fun _ => ⟨[], rfl, by simp, by simp⟩
      | succ k ih =>
        intro hk
        obtain ⟨xs, h1, h2, h3⟩ := ih (by omega)
        obtain ⟨a', ho, c, hcl, hK, hcell⟩ := hel k (by omega)
        refine ⟨xs ++ [a'], by simp [h1], fun x hx => ?_, fun j p hj => ?_⟩
        · rcases List.mem_append.1 hx with h | h
          · exact h2 x h
          · rw [List.mem_singleton.1 h]; exact ho
        · by_cases hjk : j < xs.length
          · rw [List.getElem?_append_left hjk] at hj
            exact h3 j p hj
          · have hjl := (List.getElem?_eq_some_iff.1 hj).1
            simp at hjl
            have hje : j = k := by omega
            subst hje
            rw [← h1, List.getElem?_concat_length] at hj
            obtain rfl := Option.some.inj hj
            exact ⟨c, hcl, hK, hcell⟩
    obtain ⟨xs, h1, h2, h3⟩ := hrow len (Nat.le_refl _)
    have hmx : len ≤ 9223372036854775807 := by unfold maxLen at hm; omega
    subst h1
    exact ⟨xs, ⟨some a, cap, rfl, hl, rfl, hmx, fun _ => ⟨a, rfl, h3⟩⟩, hmx, h2⟩

theorem opens_iso {P : Program} {t : TypeId} {α β : Type} {d : Kd α} {ok : α → Prop} (h : Opens P t d ok) (f : β → α) (g : α → β) (hfg : ∀ x, f (g x) = x) : Opens P t (Kd.iso d f) (fun y => ok (f y)) := by
  intro H enc w base spare held fuel cs x hx
  obtain ⟨a, hK, hok⟩ := h H enc w base spare held fuel cs x hx
  exact ⟨g a, by show d.K w (f (g a)) cs; rw [hfg]; exact hK, by show ok (f (g a)); rw [hfg]; exact hok⟩

theorem opens_mono {P : Program} {t : TypeId} {α : Type} {d : Kd α} {ok ok' : α → Prop} (h : Opens P t d ok) (hi : ∀ a, ok a → ok' a) : Opens P t d ok' := by
  intro H enc w base spare held fuel cs x hx
  obtain ⟨a, hK, hok⟩ := h H enc w base spare held fuel cs x hx
  exact ⟨a, hK, hi a hok⟩

def OpensFs (P : Program) (fs : List Field) (off : Nat) {α : Type} (d : Kd α) (ok : α → Prop) : Prop :=
  ∀ (H : Type) (enc : TypeId × Value → H) (w : World) (base : Nat) (spare : Nat → Bool) (held : Bool) (n : Nat) (cs : List Value), cs.length = off + d.sz →
    (∀ f ∈ fs, ∃ y, DataW.trod enc P w base spare held n f.type ((cs.drop f.offset).take (P.cellsOf f.type)) = some y) → ∃ a : α, d.K w a (cs.drop off) ∧ ok a

theorem fs_one {P : Program} {f : Field} {off : Nat} {α : Type} {d : Kd α} {ok : α → Prop} (ho : f.offset = off) (hc : P.cellsOf f.type = d.sz) (h : Opens P f.type d ok) : OpensFs P [f] off d ok := by
  intro H enc w base spare held n cs hl hf
  obtain ⟨y, hy⟩ := hf f (by simp)
  rw [ho, hc, List.take_of_length_le (by simp; omega)] at hy
  exact h H enc w base spare held n _ y hy

theorem fs_cons {P : Program} {f : Field} {fs : List Field} {off : Nat} {α β : Type} {d : Kd α} {d' : Kd β} {ok : α → Prop} {ok' : β → Prop} (ho : f.offset = off) (hc : P.cellsOf f.type = d.sz) (h : Opens P f.type d ok)
    (hr : OpensFs P fs (off + d.sz) d' ok') : OpensFs P (f :: fs) off (Kd.pair d d') (fun x => ok x.1 ∧ ok' x.2) := by
  intro H enc w base spare held n cs hl hf
  have hsz : (Kd.pair d d').sz = d.sz + d'.sz := rfl
  rw [hsz] at hl
  obtain ⟨y, hy⟩ := hf f (by simp)
  rw [ho, hc] at hy
  obtain ⟨a, hK, hok⟩ := h H enc w base spare held n _ y hy
  obtain ⟨b, hKb, hokb⟩ := hr H enc w base spare held n cs (by omega) (fun f' hf' => hf f' (List.mem_cons_of_mem _ hf'))
  refine ⟨(a, b), ⟨_, _, ?_, hK, hKb⟩, hok, hokb⟩
  rw [← List.drop_drop]
  exact (List.take_append_drop _ _).symm

theorem opens_struct {P : Program} {t : TypeId} {fs : Array Field} {α : Type} {d : Kd α} {ok : α → Prop} (hs : P.underlying t = some (.struct fs)) (hC : P.cellsOf t = d.sz) (h : OpensFs P fs.toList 0 d ok) : Opens P t d ok := by
  intro H enc w base spare held fuel cs x hx
  obtain ⟨xs, n, _, _, hl, hlen, hf⟩ := DataW.trod_struct hs hx
  obtain ⟨a, hK, hok⟩ := h H enc w base spare held n cs (by rw [hl, hC, Nat.zero_add]) (fun f hfm => by
    obtain ⟨j, hj⟩ := List.getElem?_of_mem hfm
    have hj' : fs[j]? = some f := by rw [← hj]; simp
    have hjl : j < xs.length := by rw [hlen]; exact (Array.getElem?_eq_some_iff.1 hj').1
    have h1 := hf j f hj'
    rw [List.getElem?_eq_getElem hjl] at h1
    exact ⟨_, h1⟩)
  exact ⟨a, hK, hok⟩

/-- An argument that is a struct. -/
theorem arg_struct {H : Type} {enc : TypeId × Value → H} {P : Program} {w : World} {base b0 : Nat} {spare : Nat → Bool} {held : Bool} {r : Reach} {t : TypeId} {fs : Array Field} {v : Value} {dd : DataW H} {p : List MemPlace} {α : Type} {d : Kd α} {ok : α → Prop}
    (hs : P.underlying t = some (.struct fs)) (ho : Opens P t d ok) (hv : Value.okWide P w r b0 t v) (h : DataW.Trod enc P w base spare held t v dd p) : ∃ a cs, v = .agg cs ∧ d.K w a cs.toList ∧ ok a := by
  obtain ⟨cs, rfl, hsz⟩ := okWide_struct hs hv
  obtain ⟨fuel, hf⟩ := h
  obtain ⟨a, hK, hok⟩ := ho H enc w base spare held fuel _ _ hf
  exact ⟨a, cs, rfl, by simpa [Value.cells] using hK, hok⟩

/-- An argument that is a slice. -/
theorem arg_slice {H : Type} {enc : TypeId × Value → H} {P : Program} {w : World} {base b0 : Nat} {spare : Nat → Bool} {held : Bool} {r : Reach} {t e : TypeId} {v : Value} {dd : DataW H} {p : List MemPlace} {α : Type} {d : Kd α} {ok : List α → Prop}
    (hs : P.underlying t = some (.slice e)) (ho : Opens P t (Kd.slice e d) ok) (hv : Value.okWide P w r b0 t v) (h : DataW.Trod enc P w base spare held t v dd p) : ∃ A c l, v = .slice A l.length c ∧ l.length ≤ c ∧ d.C w A l.length l ∧ ok l := by
  obtain ⟨A, len, cap, rfl⟩ := okWide_slice hs hv
  obtain ⟨fuel, hf⟩ := h
  obtain ⟨l, ⟨A', c, he, hlc, hC⟩, hok⟩ := ho H enc w base spare held fuel _ _ hf
  simp [Value.cells] at he
  obtain ⟨rfl, rfl, rfl⟩ := he
  exact ⟨A, cap, l, rfl, hlc, hC, hok⟩
end Go.Proofs.Ytghdpoabpodieaa.Opn

/- Plain lemmas on answers with rounds (Ev), on counters and on lists. -/
set_option linter.unusedVariables false
namespace Go.Proofs.Ytghdpoabpodieaa.Q
open Go.RowKit Go.Proofs.YtghdpoabpodieaaW.PrintWords Go.Proofs.YtghdpoabpodieaaW.PrintLast Go.Proofs.YtghdpoabpodieaaW.PrintMore

theorem Ev.pos {α : Type} {c : Prop} [Decidable c] {f g : Nat → Option α} {r : α} (h : c) (e : Ev f r) : Ev (fun k => if c then f k else g k) r :=
  Ev.congr (fun _ => if_pos h) e
theorem Ev.neg {α : Type} {c : Prop} [Decidable c] {f g : Nat → Option α} {r : α} (h : ¬ c) (e : Ev g r) : Ev (fun k => if c then f k else g k) r :=
  Ev.congr (fun _ => if_neg h) e
theorem Ev.ite {α : Type} {c : Prop} [Decidable c] {f g : Nat → Option α} {r : α} (e : c → Ev f r) (e' : ¬ c → Ev g r) : Ev (fun k => if c then f k else g k) r := by
  by_cases h : c
  · exact Ev.pos h (e h)
  · exact Ev.neg h (e' h)
theorem Ev.succ {α : Type} {g : Nat → Option α} {r : α} (e : Ev (fun k => g (k + 1)) r) : Ev g r := Ev.step (fun _ => rfl) e
theorem Ev.let_ {α β : Type} {a : α} {f : Nat → α → Option β} {r : β} (e : Ev (fun k => f k a) r) : Ev (fun k => (some a).bind (f k)) r := e
theorem Ev.call {α β : Type} {g : Option α} {a : α} {f : Nat → α → Option β} {r : β} (h : g = some a) (e : Ev (fun k => f k a) r) : Ev (fun k => g.bind (f k)) r := by
  subst h; exact e
theorem Ev.done {α : Type} {a r : α} (h : a = r) : Ev (fun _ => some a) r := h ▸ Ev.now a
theorem Ev.just {α : Type} {g : Option α} {r : α} (h : g = some r) : Ev (fun _ => g) r := ⟨0, fun _ _ => h⟩
theorem Ev.eq {α : Type} {g : Nat → Option α} {a r : α} (h : Ev g a) (e : a = r) : Ev g r := e ▸ h
theorem Ev.uniq {α : Type} {g : Nat → Option α} {a r : α} (h : Ev g a) (h' : Ev g r) : a = r := by
  obtain ⟨K, h⟩ := h
  obtain ⟨K', h'⟩ := h'
  have h1 := h (max K K') (Nat.le_max_left _ _)
  rw [h' (max K K') (Nat.le_max_right _ _)] at h1
  injection h1 with h1
  exact h1.symm

theorem wrap_id {x : Int} (h0 : -9223372036854775808 ≤ x) (h1 : x ≤ 9223372036854775807) : wrap64 x = x := by
  unfold wrap64
  omega
theorem wrap_succ {i n : Nat} (h : i < n) (hn : n ≤ 9223372036854775807) : wrap64 ((i : Int) + 1) = ((i + 1 : Nat) : Int) := by
  unfold wrap64
  omega
theorem drop_getD {α : Type} (l : List α) (i : Nat) (d : α) (h : i < l.length) : l.drop i = l.getD i d :: l.drop (i + 1) := by
  rw [List.drop_eq_getElem_cons h, List.getD_eq_getElem?_getD, List.getElem?_eq_getElem h]
  rfl
theorem rd_nat (xs : List Int) (i : Nat) : rd xs (i : Int) = xs.getD i 0 := by
  unfold rd
  rw [Int.toNat_natCast]
theorem getD_mem {α : Type} {l : List α} {i : Nat} {d : α} (h : i < l.length) : l.getD i d ∈ l := by
  rw [List.getD_eq_getElem?_getD, List.getElem?_eq_getElem h]
  exact List.getElem_mem h
theorem getD_set {α : Type} (l : List α) (i j : Nat) (a d : α) (h : i < l.length) : (l.set i a).getD j d = if i = j then a else l.getD j d := by
  rw [List.getD_eq_getElem?_getD, List.getD_eq_getElem?_getD, List.getElem?_set]
  by_cases e : i = j
  · subst e; simp [h]
  · simp [e]
theorem rd_set (l : List Int) (i j a : Int) (h0 : 0 ≤ i) (h1 : i < l.length) (h2 : 0 ≤ j) : rd (l.set i.toNat a) j = if i = j then a else rd l j := by
  unfold rd
  rw [getD_set _ _ _ _ _ (by omega)]
  by_cases e : i = j
  · rw [if_pos e, if_pos (by omega)]
  · rw [if_neg e, if_neg (by omega)]
theorem ext_rd {a b : List Int} (hl : a.length = b.length) (h : ∀ i : Nat, i < a.length → rd a i = rd b i) : a = b := by
  apply List.ext_getElem hl
  intro i h1 h2
  have := h i h1
  rw [rd_nat, rd_nat, List.getD_eq_getElem?_getD, List.getD_eq_getElem?_getD, List.getElem?_eq_getElem h1, List.getElem?_eq_getElem h2] at this
  exact this
end Go.Proofs.Ytghdpoabpodieaa.Q

/- Networks, ends and flows: what is wrong with them, as plain functions; the program's answer and the document's are these. -/
set_option linter.unusedVariables false
namespace Go.Proofs.Ytghdpoabpodieaa.Q
open Go.RowKit Go.Proofs.YtghdpoabpodieaaW.PrintWords Go.Proofs.YtghdpoabpodieaaW.PrintLast Go.Proofs.YtghdpoabpodieaaW.PrintMore Go.Proofs.Ytghdpoabpodieaa.P

def arcErr (n : Int) (a : S48) : Int :=
  if a.f0 < 0 ∨ a.f1 < 0 ∨ a.f2 < 0 ∨ a.f3 < 0 ∨ n ≤ a.f0 ∨ n ≤ a.f1 then 51 else if 1048576 < a.f2 ∨ 1048576 < a.f3 then 2 else 0
def arcsErr (n : Int) : List S48 → Int
  | [] => 0
  | a :: l => if arcErr n a = 0 then arcsErr n l else arcErr n a
def netErr (n : Int) (l : List S48) : Int := if n < 1 then 51 else if n > 50 then 2 else if (l.length : Int) > 200 then 2 else arcsErr n l
structure ArcOk (n : Int) (a : S48) : Prop where
  f0 : 0 ≤ a.f0
  f1 : 0 ≤ a.f1
  f2 : 0 ≤ a.f2
  f3 : 0 ≤ a.f3
  h0 : a.f0 < n
  h1 : a.f1 < n
  h2 : a.f2 ≤ 1048576
  h3 : a.f3 ≤ 1048576
structure NetOk (n : Int) (l : List S48) : Prop where
  lo : 1 ≤ n
  hi : n ≤ 50
  len : l.length ≤ 200
  arcs : ∀ a ∈ l, ArcOk n a
theorem arcErr_ok {n : Int} {a : S48} (h : arcErr n a = 0) : ArcOk n a := by
  unfold arcErr at h
  split at h
  · omega
  · split at h
    · omega
    · constructor <;> omega
theorem arcsErr_ok {n : Int} : ∀ {l : List S48}, arcsErr n l = 0 → ∀ a ∈ l, ArcOk n a
  | [], _, a, ha => by cases ha
  | b :: l, h, a, ha => by
    unfold arcsErr at h
    split at h
    · rename_i hb
      rcases List.mem_cons.1 ha with rfl | ha
      · exact arcErr_ok hb
      · exact arcsErr_ok h a ha
    · exact absurd h (by assumption)
theorem netErr_ok {n : Int} {l : List S48} (h : netErr n l = 0) : NetOk n l := by
  unfold netErr at h
  split at h
  · omega
  · split at h
    · omega
    · split at h
      · omega
      · exact ⟨by omega, by omega, by omega, arcsErr_ok h⟩
theorem arcOk_err {n : Int} {a : S48} (h : ArcOk n a) : arcErr n a = 0 := by
  have := h.f0; have := h.f1; have := h.f2; have := h.f3; have := h.h0; have := h.h1; have := h.h2; have := h.h3
  unfold arcErr
  rw [if_neg (by omega), if_neg (by omega)]
theorem arcsOk_err {n : Int} : ∀ {l : List S48}, (∀ a ∈ l, ArcOk n a) → arcsErr n l = 0
  | [], _ => rfl
  | b :: l, h => by
    unfold arcsErr
    rw [if_pos (arcOk_err (h b (List.mem_cons_self ..)))]
    exact arcsOk_err fun a ha => h a (List.mem_cons_of_mem _ ha)
theorem netOk_err {n : Int} {l : List S48} (h : NetOk n l) : netErr n l = 0 := by
  have := h.lo; have := h.hi; have := h.len
  unfold netErr
  rw [if_neg (by omega), if_neg (by omega), if_neg (by omega), arcsOk_err h.arcs]
theorem NetOk.at_ {n : Int} {l : List S48} (h : NetOk n l) {i : Int} (h0 : 0 ≤ i) (h1 : i < l.length) : ArcOk n (rd_T48 l i) := h.arcs _ (getD_mem (by omega))

theorem nodes_eq (n : Int) : netfmt_nodes.f n = some (if n < 1 then 51 else if n > 50 then 2 else 0) := by
  unfold netfmt_nodes.f
  split
  · rfl
  · split <;> rfl
theorem arc_ev (n : Int) (a : S48) : Ev (fun k => netfmt_arc.f k n a.f0 a.f1 a.f2 a.f3) (arcErr n a) := by
  unfold netfmt_arc.f arcErr
  refine Ev.ite (fun h => ?_) (fun h => ?_)
  · refine Ev.succ ?_; simp only [netfmt_arc.j0]
    repeat (first | exact Ev.now _ | with_reducible refine Ev.pos (by first | assumption | omega) ?_ | with_reducible refine Ev.neg (by first | assumption | omega) ?_ | with_reducible refine Ev.let_ ?_)
    exact Ev.done (by unfold mn at h; rw [if_pos (by omega)])
  · refine Ev.succ ?_; simp only [netfmt_arc.j0]
    unfold mn at h
    unfold mx
    refine Ev.ite (fun g => ?_) (fun g => ?_)
    · have g := of_decide_eq_true g
      exact Ev.done (by rw [if_pos (by omega)])
    · have g := of_decide_eq_false (Bool.eq_false_iff.2 g)
      refine Ev.ite (fun g1 => ?_) (fun g1 => ?_)
      · exact Ev.done (by rw [if_neg (by omega), if_pos (by omega)])
      · refine Ev.ite (fun g2 => ?_) (fun g2 => ?_)
        · exact Ev.done (by rw [if_neg (by omega), if_pos (by omega)])
        · exact Ev.done (by rw [if_neg (by omega), if_neg (by omega)])
theorem check_l0 (l : List S48) (n : Int) (b : Bool) (hl : l.length ≤ 9223372036854775807) (d : Nat) : ∀ i : Nat, i + d = l.length →
    Ev (fun k => netfmt_Check.l0 k l (l.length : Int) (i : Int) n b l) (arcsErr n (l.drop i)) := by
  induction d with
  | zero =>
    intro i hi
    refine Ev.succ ?_; simp only [netfmt_Check.l0]
    repeat (first | exact Ev.now _ | with_reducible refine Ev.pos (by first | assumption | omega) ?_ | with_reducible refine Ev.neg (by first | assumption | omega) ?_ | with_reducible refine Ev.let_ ?_)
    rw [List.drop_of_length_le (by omega)]
    exact Ev.now _
  | succ d ih =>
    intro i hi
    refine Ev.succ ?_; simp only [netfmt_Check.l0]
    repeat (first | exact Ev.now _ | with_reducible refine Ev.pos (by first | assumption | omega) ?_ | with_reducible refine Ev.neg (by first | assumption | omega) ?_ | with_reducible refine Ev.let_ ?_)
    refine Ev.bind (arc_ev n (rd_T48 l i)) ?_
    rw [drop_getD l i z48 (by omega)]
    have hr : rd_T48 l (i : Int) = l.getD i z48 := by unfold rd_T48; rw [Int.toNat_natCast]
    rw [hr]
    unfold arcsErr
    refine Ev.ite (fun h => ?_) (fun h => ?_)
    · rw [if_pos h, wrap_succ (n := l.length) (by omega) hl]
      exact ih (i + 1) (by omega)
    · rw [if_neg h]
      exact Ev.now _
theorem check_ev (n : Int) (b : Bool) (l : List S48) : Ev (fun k => netfmt_Check.f k n b l) (netErr n l) := by
  unfold netfmt_Check.f netErr
  refine Ev.call (nodes_eq n) ?_
  by_cases h : n < 1
  · rw [if_pos h, if_pos h]
    repeat (first | exact Ev.now _ | with_reducible refine Ev.pos (by first | assumption | omega) ?_ | with_reducible refine Ev.neg (by first | assumption | omega) ?_ | with_reducible refine Ev.let_ ?_)
  · rw [if_neg h, if_neg h]
    by_cases h2 : n > 50
    · rw [if_pos h2, if_pos h2]
      repeat (first | exact Ev.now _ | with_reducible refine Ev.pos (by first | assumption | omega) ?_ | with_reducible refine Ev.neg (by first | assumption | omega) ?_ | with_reducible refine Ev.let_ ?_)
    · rw [if_neg h2, if_neg h2]
      repeat (first | exact Ev.now _ | with_reducible refine Ev.pos (by first | assumption | omega) ?_ | with_reducible refine Ev.neg (by first | assumption | omega) ?_ | with_reducible refine Ev.let_ ?_)
      refine Ev.ite (fun g => ?_) (fun g => ?_)
      · rw [if_pos g]
        exact Ev.now _
      · rw [if_neg g]
        exact check_l0 l n b (by omega) l.length 0 (by omega)

theorem ref_nodes_eq (n : Int) : ebbtideref05_nodes.f n = some (if n < 1 then 51 else if n > 50 then 2 else 0) := by
  unfold ebbtideref05_nodes.f
  split
  · rfl
  · split <;> rfl
theorem ref_arc_j0 (x : Bool) (n : Int) (a : S48) (hx : x = true ↔ a.f0 < 0 ∨ a.f1 < 0 ∨ a.f2 < 0 ∨ a.f3 < 0 ∨ n ≤ a.f0 ∨ n ≤ a.f1) : Ev (fun k => ebbtideref05_Arc.j0 k x a.f0 a.f1 a.f2 a.f3) (arcErr n a) := by
  unfold arcErr
  refine Ev.succ ?_; simp only [ebbtideref05_Arc.j0]
  refine Ev.ite (fun g => ?_) (fun g => ?_)
  · exact Ev.done (by rw [if_pos (hx.1 g)])
  · have g' := fun h => g (hx.2 h)
    refine Ev.ite (fun g1 => ?_) (fun g1 => ?_)
    · exact Ev.done (by rw [if_neg g', if_pos (by omega)])
    · refine Ev.ite (fun g2 => ?_) (fun g2 => ?_)
      · exact Ev.done (by rw [if_neg g', if_pos (by omega)])
      · exact Ev.done (by rw [if_neg g', if_neg (by omega)])
theorem ref_arc_ev (n : Int) (a : S48) : Ev (fun k => ebbtideref05_Arc.f k n a.f0 a.f1 a.f2 a.f3) (arcErr n a) := by
  unfold ebbtideref05_Arc.f
  refine Ev.ite (fun h => ?_) (fun h => ?_)
  · exact ref_arc_j0 _ _ _ ⟨fun _ => by omega, fun _ => rfl⟩
  refine Ev.ite (fun h => ?_) (fun h => ?_)
  · exact ref_arc_j0 _ _ _ ⟨fun _ => by omega, fun _ => rfl⟩
  refine Ev.ite (fun h => ?_) (fun h => ?_)
  · exact ref_arc_j0 _ _ _ ⟨fun _ => by omega, fun _ => rfl⟩
  refine Ev.ite (fun h => ?_) (fun h => ?_)
  · exact ref_arc_j0 _ _ _ ⟨fun _ => by omega, fun _ => rfl⟩
  refine Ev.ite (fun h => ?_) (fun h => ?_)
  · exact ref_arc_j0 _ _ _ ⟨fun _ => by omega, fun _ => rfl⟩
  · exact ref_arc_j0 _ _ _ ⟨fun g => by have := of_decide_eq_true g; omega, fun g => decide_eq_true (by omega)⟩
theorem ref_check_l0 (l : List S48) (n : Int) (b : Bool) (hl : l.length ≤ 9223372036854775807) (d : Nat) : ∀ i : Nat, i + d = l.length →
    Ev (fun k => ebbtideref05_Check.l0 k (i : Int) n b l) (arcsErr n (l.drop i)) := by
  induction d with
  | zero =>
    intro i hi
    refine Ev.succ ?_; simp only [ebbtideref05_Check.l0]
    repeat (first | exact Ev.now _ | with_reducible refine Ev.pos (by first | assumption | omega) ?_ | with_reducible refine Ev.neg (by first | assumption | omega) ?_ | with_reducible refine Ev.let_ ?_)
    rw [List.drop_of_length_le (by omega)]
    exact Ev.now _
  | succ d ih =>
    intro i hi
    refine Ev.succ ?_; simp only [ebbtideref05_Check.l0]
    repeat (first | exact Ev.now _ | with_reducible refine Ev.pos (by first | assumption | omega) ?_ | with_reducible refine Ev.neg (by first | assumption | omega) ?_ | with_reducible refine Ev.let_ ?_)
    refine Ev.bind (ref_arc_ev n (rd_T48 l i)) ?_
    rw [drop_getD l i z48 (by omega)]
    have hr : rd_T48 l (i : Int) = l.getD i z48 := by unfold rd_T48; rw [Int.toNat_natCast]
    rw [hr]
    unfold arcsErr
    refine Ev.ite (fun h => ?_) (fun h => ?_)
    · rw [if_pos h, wrap_succ (n := l.length) (by omega) hl]
      exact ih (i + 1) (by omega)
    · rw [if_neg h]
      exact Ev.now _
theorem ref_check_ev (n : Int) (b : Bool) (l : List S48) : Ev (fun k => ebbtideref05_Check.f k n b l) (netErr n l) := by
  unfold ebbtideref05_Check.f netErr
  refine Ev.call (ref_nodes_eq n) ?_
  by_cases h : n < 1
  · rw [if_pos h, if_pos h]
    repeat (first | exact Ev.now _ | with_reducible refine Ev.pos (by first | assumption | omega) ?_ | with_reducible refine Ev.neg (by first | assumption | omega) ?_ | with_reducible refine Ev.let_ ?_)
  · rw [if_neg h, if_neg h]
    by_cases h2 : n > 50
    · rw [if_pos h2, if_pos h2]
      repeat (first | exact Ev.now _ | with_reducible refine Ev.pos (by first | assumption | omega) ?_ | with_reducible refine Ev.neg (by first | assumption | omega) ?_ | with_reducible refine Ev.let_ ?_)
    · rw [if_neg h2, if_neg h2]
      repeat (first | exact Ev.now _ | with_reducible refine Ev.pos (by first | assumption | omega) ?_ | with_reducible refine Ev.neg (by first | assumption | omega) ?_ | with_reducible refine Ev.let_ ?_)
      refine Ev.ite (fun g => ?_) (fun g => ?_)
      · rw [if_pos g]
        exact Ev.now _
      · rw [if_neg g]
        exact ref_check_l0 l n b (by omega) l.length 0 (by omega)
end Go.Proofs.Ytghdpoabpodieaa.Q

-- Laid by wip/tool/mk.py, by the kit's print.py, for all laws of this seat in one namespace; a function told as by hand has a proof of this session's own.
namespace Go.Proofs.Ytghdpoabpodieaa.P
open Go.RowKit Go.Proofs.YtghdpoabpodieaaW.PrintWords Go.Proofs.YtghdpoabpodieaaW.PrintLast Go.Proofs.YtghdpoabpodieaaW.PrintMore
attribute [local go_sem] max2_int min2_int max_two min_two max_three min_three max_four min_four   -- for this text's walks alone
set_option linter.unusedVariables false
set_option linter.unusedSimpArgs false

/-! ### ebbtideref07_Asked: function 34 -/
def ebbtideref07_Asked.f (k : Nat) (a0_0 : Int) (a0_1 : Bool) (l0_2 : List (S48)) (l1 : List Int) : Option (Int) := (ebbtideref05_Check.f k a0_0 a0_1 l0_2).bind fun t269 => (if t269 = 0 then ((ebbtideref07_Within.f k a0_0 a0_1 l0_2 l1).bind fun t270 => (if t270 = true then (some 0) else (some 71))) else (some t269))
theorem ebbtideref07_Asked.mono : ∀ a0 a1 a2 a3 k, LeO (ebbtideref07_Asked.f k a0 a1 a2 a3) (ebbtideref07_Asked.f (k + 1) a0 a1 a2 a3) := by
 intro a0 a1 a2 a3 k
 unfold ebbtideref07_Asked.f
 repeat' first
   | (with_reducible exact ebbtideref05_Check.mono _ _ _ _)
   | (with_reducible exact ebbtideref07_Within.mono _ _ _ _ _)
   | (with_reducible exact LeO.refl _)
   | (with_reducible exact LeO.none _)
   | (with_reducible refine LeO.ite ?_ ?_)
   | (with_reducible refine LeO.bind ?_ (fun _ => ?_))
   | exact ebbtideref05_Check.mono _ _ _ _
   | exact ebbtideref07_Within.mono _ _ _ _ _
   | exact LeO.none _
   | refine LeO.ite ?_ ?_
   | refine LeO.bind ?_ (fun _ => ?_)
set_option maxHeartbeats 8000000 in
set_option maxRecDepth 100000 in
theorem ebbtideref07_Asked.calls (k : Nat) (a0_0 : Int) (a0_1 : Bool) (A0_2 : Option Addr) (c0_2 : Nat) (l0_2 : List (S48)) (A1 : Option Addr) (c1 : Nat) (l1 : List Int) (r : Int) (w : World) (hr0_2 : Kd.C k48 w A0_2 l0_2.length l0_2) (hc0_2 : l0_2.length ≤ c0_2) (hr1 : Kd.C (Kd.int .i64) w A1 l1.length l1) (hc1 : l1.length ≤ c1) (h : ebbtideref07_Asked.f k a0_0 a0_1 l0_2 l1 = some r) :
  Calls Try.prog 34 #[.agg #[.int .i64 a0_0, .bool a0_1, .slice A0_2 l0_2.length c0_2], .slice A1 l1.length c1] w fun e w' => e = .returned (.int .i64 r) ∧ Below w.heap.size w w' := by
 have hu24 := Try.underlying24
 have HR0_2 := Aside0.mk hr0_2
 have HC0_2 := Aside0.mk hc0_2
 clear hr0_2 hc0_2
 have HR1 := Aside0.mk hr1
 have HC1 := Aside0.mk hc1
 clear hr1 hc1
 have HB := Aside0.mk (Below.refl w.heap.size w)
 have H : ((ebbtideref05_Check.f k a0_0 a0_1 l0_2).bind fun t269 => (if t269 = 0 then ((ebbtideref07_Within.f k a0_0 a0_1 l0_2 l1).bind fun t270 => (if t270 = true then (some 0) else (some 71))) else (some t269))) = some r := h
 clear h
 replace H := Option.bind_eq_some_iff.mp H
 obtain ⟨t269, A30, H⟩ := H
 replace H : (if t269 = 0 then ((ebbtideref07_Within.f k a0_0 a0_1 l0_2 l1).bind fun t270 => (if t270 = true then (some 0) else (some 71))) else (some t269)) = some r := H
 have A3 := Aside0.mk A30
 clear A30
 by_cases c4 : t269 = 0
 ·rw [if_pos c4] at H
  have c4b0 : (t269 == 0) = true := beq_iff_eq.mpr c4
  have c4b1 : (t269 != 0) = false := bne_eq_false_iff_eq.mpr c4
  clear c4
  replace H := Option.bind_eq_some_iff.mp H
  obtain ⟨t270, A50, H⟩ := H
  replace H : (if t270 = true then (some 0) else (some 71)) = some r := H
  have A5 := Aside0.mk A50
  clear A50
  by_cases c6 : t270 = true
  ·subst c6
   have H1 : (some 0) = some r := by rw [if_pos rfl] at H; exact H
   clear H
   have H := H1
   clear H1
   obtain rfl := Option.some.inj H
   go_enter Try.func34, Try.ntmps34
   go_wp2_with (first | ((with_reducible refine gate_dst (N := 2) rfl ?_); refine box_event ?hg (N := 2) ?hd (cs := #[.int .i64 a0_0, .bool a0_1, .slice A0_2 l0_2.length c0_2]) (t := 24) ?hr ?_; (case hd => rfl); (case hg => rfl); (case hr => first | (go_simp; done) | (go_simp; rfl)); intro gb268 hg w7 hbox hb; have n0_ := Aside0.mk (below_step (by repeat (first | (with_reducible first | exact HB.out | apply below_alloc | apply pw_below_drewN | apply below_drew1) | exact HB.out)) hb); have n1_ := Aside0.mk (hbox); have n2_ := Aside0.mk ((by rw [hg]; exact (below_size (by repeat (first | (with_reducible first | exact HB.out | apply below_alloc | apply pw_below_drewN | apply below_drew1) | exact HB.out))) : w.heap.size ≤ gb268)); have n3_ := Aside0.mk ((by rw [hg]; exact (below_size (by repeat (first | (with_reducible first | exact HB.out | apply below_alloc | apply pw_below_drewN | apply below_drew1) | exact HB.out))) : w.heap.size ≤ gb268)); clear HB; have HB := n0_; have BK268 := n1_; have GW268 := n2_; have GE268 := n3_; clear n0_ n1_ n2_ n3_; clear hb hbox hg; have hcz8_0 : w7.cell? ⟨gb268, 0, none⟩ = some (.int .i64 a0_0) := (blk_cell BK268.out 0).trans rfl; have hcz8_1 : w7.cell? ⟨gb268, 1, none⟩ = some (.bool a0_1) := (blk_cell BK268.out 1).trans rfl; have hcz8_2 : w7.cell? ⟨gb268, 2, none⟩ = some (.slice A0_2 l0_2.length c0_2) := (blk_cell BK268.out 2).trans rfl; have hfz8_0 := blk_frozen BK268.out 0; have hfz8_1 := blk_frozen BK268.out 1; have hfz8_2 := blk_frozen BK268.out 2) | ((with_reducible refine gate_callee (f := 24) rfl ?_); refine goesL_ (some 7) rfl rfl Try.func24 (by kernel_rfl) rfl #[.agg #[.int .i64 a0_0, .bool a0_1, .slice A0_2 l0_2.length c0_2]] rfl (by (try simp only [List.map_toArray, List.map_cons, List.map_nil]); first | done | rfl | (simp only [List.length_drop, List.length_take]; rfl)) ?_; (with_reducible refine (ebbtideref05_Check.calls k a0_0 a0_1 _ _ l0_2 t269 _ ?side1 ?side2 A3.out).mono ?_); (case side1 => repeat (first | exact (Kd.C_below HR0_2.out HB.out) | (with_reducible refine Kd.C_alloc ?_ _) | (with_reducible refine Kd.C_drewN ?_ _) | (with_reducible refine Kd.C_drew ?_))); (case side2 => exact HC0_2.out); rintro e w9 ⟨rfl, hb⟩; refine ⟨_, rfl, ?_⟩; have n0_ := Aside0.mk (blk_below (g := gb268) (o := .cells #[.int .i64 a0_0, .bool a0_1, .slice A0_2 l0_2.length c0_2] 24 (0, 0)) (by (with_reducible repeat (first | refine blk_drewN ?_ _ | refine blk_drew ?_ | refine blk_alloc ?_ _)); exact BK268.out) hb); have n1_ := Aside0.mk (below_step (by repeat (first | (with_reducible first | exact HB.out | apply below_alloc | apply pw_below_drewN | apply below_drew1 | refine below_set ?_ GE268.out) | exact HB.out)) hb); clear BK268; clear HB; have BK268 := n0_; have HB := n1_; clear n0_ n1_; (try clear hb); (try clear hb2); (try clear hk); (try clear hi); have hcz10_0 : w9.cell? ⟨gb268, 0, none⟩ = some (.int .i64 a0_0) := (blk_cell BK268.out 0).trans rfl; have hcz10_1 : w9.cell? ⟨gb268, 1, none⟩ = some (.bool a0_1) := (blk_cell BK268.out 1).trans rfl; have hcz10_2 : w9.cell? ⟨gb268, 2, none⟩ = some (.slice A0_2 l0_2.length c0_2) := (blk_cell BK268.out 2).trans rfl; have hfz10_0 := blk_frozen BK268.out 0; have hfz10_1 := blk_frozen BK268.out 1; have hfz10_2 := blk_frozen BK268.out 2) | ((with_reducible refine gate_callee (f := 25) rfl ?_); refine goesL_ (some 13) rfl rfl Try.func25 (by kernel_rfl) rfl #[.agg #[.int .i64 a0_0, .bool a0_1, .slice A0_2 l0_2.length c0_2], .slice A1 l1.length c1] rfl (by (try simp only [List.map_toArray, List.map_cons, List.map_nil]); first | done | rfl | (simp only [List.length_drop, List.length_take]; rfl)) ?_; (with_reducible refine (ebbtideref07_Within.calls k a0_0 a0_1 _ _ l0_2 _ _ l1 true _ ?side1 ?side2 ?side3 ?side4 A5.out).mono ?_); (case side1 => repeat (first | exact (Kd.C_below HR0_2.out HB.out) | (with_reducible refine Kd.C_alloc ?_ _) | (with_reducible refine Kd.C_drewN ?_ _) | (with_reducible refine Kd.C_drew ?_))); (case side2 => exact HC0_2.out); (case side3 => repeat (first | exact (Kd.C_below HR1.out HB.out) | (with_reducible refine Kd.C_alloc ?_ _) | (with_reducible refine Kd.C_drewN ?_ _) | (with_reducible refine Kd.C_drew ?_))); (case side4 => exact HC1.out); rintro e w11 ⟨rfl, hb⟩; refine ⟨_, rfl, ?_⟩; have n0_ := Aside0.mk (blk_below (g := gb268) (o := .cells #[.int .i64 a0_0, .bool a0_1, .slice A0_2 l0_2.length c0_2] 24 (0, 0)) (by (with_reducible repeat (first | refine blk_drewN ?_ _ | refine blk_drew ?_ | refine blk_alloc ?_ _)); exact BK268.out) hb); have n1_ := Aside0.mk (below_step (by repeat (first | (with_reducible first | exact HB.out | apply below_alloc | apply pw_below_drewN | apply below_drew1 | refine below_set ?_ GE268.out) | exact HB.out)) hb); clear BK268; clear HB; have BK268 := n0_; have HB := n1_; clear n0_ n1_; (try clear hb); (try clear hb2); (try clear hk); (try clear hi)))
   go_ret
   exact ⟨by first | rfl | (simp [errW_none, errW_some] <;> rfl) | (simp [*, errW_none, errW_some] <;> rfl), by repeat (first | (with_reducible first | exact HB.out | apply below_alloc | apply pw_below_drewN | apply below_drew1 | refine below_set ?_ GE268.out) | exact HB.out)⟩
  ·replace c6 := Bool.eq_false_iff.mpr c6
   subst c6
   have H1 : (some 71) = some r := by rw [if_neg (show ¬ (false = true) by decide)] at H; exact H
   clear H
   have H := H1
   clear H1
   obtain rfl := Option.some.inj H
   go_enter Try.func34, Try.ntmps34
   go_wp2_with (first | ((with_reducible refine gate_dst (N := 2) rfl ?_); refine box_event ?hg (N := 2) ?hd (cs := #[.int .i64 a0_0, .bool a0_1, .slice A0_2 l0_2.length c0_2]) (t := 24) ?hr ?_; (case hd => rfl); (case hg => rfl); (case hr => first | (go_simp; done) | (go_simp; rfl)); intro gb268 hg w12 hbox hb; have n0_ := Aside0.mk (below_step (by repeat (first | (with_reducible first | exact HB.out | apply below_alloc | apply pw_below_drewN | apply below_drew1) | exact HB.out)) hb); have n1_ := Aside0.mk (hbox); have n2_ := Aside0.mk ((by rw [hg]; exact (below_size (by repeat (first | (with_reducible first | exact HB.out | apply below_alloc | apply pw_below_drewN | apply below_drew1) | exact HB.out))) : w.heap.size ≤ gb268)); have n3_ := Aside0.mk ((by rw [hg]; exact (below_size (by repeat (first | (with_reducible first | exact HB.out | apply below_alloc | apply pw_below_drewN | apply below_drew1) | exact HB.out))) : w.heap.size ≤ gb268)); clear HB; have HB := n0_; have BK268 := n1_; have GW268 := n2_; have GE268 := n3_; clear n0_ n1_ n2_ n3_; clear hb hbox hg; have hcz13_0 : w12.cell? ⟨gb268, 0, none⟩ = some (.int .i64 a0_0) := (blk_cell BK268.out 0).trans rfl; have hcz13_1 : w12.cell? ⟨gb268, 1, none⟩ = some (.bool a0_1) := (blk_cell BK268.out 1).trans rfl; have hcz13_2 : w12.cell? ⟨gb268, 2, none⟩ = some (.slice A0_2 l0_2.length c0_2) := (blk_cell BK268.out 2).trans rfl; have hfz13_0 := blk_frozen BK268.out 0; have hfz13_1 := blk_frozen BK268.out 1; have hfz13_2 := blk_frozen BK268.out 2) | ((with_reducible refine gate_callee (f := 24) rfl ?_); refine goesL_ (some 7) rfl rfl Try.func24 (by kernel_rfl) rfl #[.agg #[.int .i64 a0_0, .bool a0_1, .slice A0_2 l0_2.length c0_2]] rfl (by (try simp only [List.map_toArray, List.map_cons, List.map_nil]); first | done | rfl | (simp only [List.length_drop, List.length_take]; rfl)) ?_; (with_reducible refine (ebbtideref05_Check.calls k a0_0 a0_1 _ _ l0_2 t269 _ ?side1 ?side2 A3.out).mono ?_); (case side1 => repeat (first | exact (Kd.C_below HR0_2.out HB.out) | (with_reducible refine Kd.C_alloc ?_ _) | (with_reducible refine Kd.C_drewN ?_ _) | (with_reducible refine Kd.C_drew ?_))); (case side2 => exact HC0_2.out); rintro e w14 ⟨rfl, hb⟩; refine ⟨_, rfl, ?_⟩; have n0_ := Aside0.mk (blk_below (g := gb268) (o := .cells #[.int .i64 a0_0, .bool a0_1, .slice A0_2 l0_2.length c0_2] 24 (0, 0)) (by (with_reducible repeat (first | refine blk_drewN ?_ _ | refine blk_drew ?_ | refine blk_alloc ?_ _)); exact BK268.out) hb); have n1_ := Aside0.mk (below_step (by repeat (first | (with_reducible first | exact HB.out | apply below_alloc | apply pw_below_drewN | apply below_drew1 | refine below_set ?_ GE268.out) | exact HB.out)) hb); clear BK268; clear HB; have BK268 := n0_; have HB := n1_; clear n0_ n1_; (try clear hb); (try clear hb2); (try clear hk); (try clear hi); have hcz15_0 : w14.cell? ⟨gb268, 0, none⟩ = some (.int .i64 a0_0) := (blk_cell BK268.out 0).trans rfl; have hcz15_1 : w14.cell? ⟨gb268, 1, none⟩ = some (.bool a0_1) := (blk_cell BK268.out 1).trans rfl; have hcz15_2 : w14.cell? ⟨gb268, 2, none⟩ = some (.slice A0_2 l0_2.length c0_2) := (blk_cell BK268.out 2).trans rfl; have hfz15_0 := blk_frozen BK268.out 0; have hfz15_1 := blk_frozen BK268.out 1; have hfz15_2 := blk_frozen BK268.out 2) | ((with_reducible refine gate_callee (f := 25) rfl ?_); refine goesL_ (some 13) rfl rfl Try.func25 (by kernel_rfl) rfl #[.agg #[.int .i64 a0_0, .bool a0_1, .slice A0_2 l0_2.length c0_2], .slice A1 l1.length c1] rfl (by (try simp only [List.map_toArray, List.map_cons, List.map_nil]); first | done | rfl | (simp only [List.length_drop, List.length_take]; rfl)) ?_; (with_reducible refine (ebbtideref07_Within.calls k a0_0 a0_1 _ _ l0_2 _ _ l1 false _ ?side1 ?side2 ?side3 ?side4 A5.out).mono ?_); (case side1 => repeat (first | exact (Kd.C_below HR0_2.out HB.out) | (with_reducible refine Kd.C_alloc ?_ _) | (with_reducible refine Kd.C_drewN ?_ _) | (with_reducible refine Kd.C_drew ?_))); (case side2 => exact HC0_2.out); (case side3 => repeat (first | exact (Kd.C_below HR1.out HB.out) | (with_reducible refine Kd.C_alloc ?_ _) | (with_reducible refine Kd.C_drewN ?_ _) | (with_reducible refine Kd.C_drew ?_))); (case side4 => exact HC1.out); rintro e w16 ⟨rfl, hb⟩; refine ⟨_, rfl, ?_⟩; have n0_ := Aside0.mk (blk_below (g := gb268) (o := .cells #[.int .i64 a0_0, .bool a0_1, .slice A0_2 l0_2.length c0_2] 24 (0, 0)) (by (with_reducible repeat (first | refine blk_drewN ?_ _ | refine blk_drew ?_ | refine blk_alloc ?_ _)); exact BK268.out) hb); have n1_ := Aside0.mk (below_step (by repeat (first | (with_reducible first | exact HB.out | apply below_alloc | apply pw_below_drewN | apply below_drew1 | refine below_set ?_ GE268.out) | exact HB.out)) hb); clear BK268; clear HB; have BK268 := n0_; have HB := n1_; clear n0_ n1_; (try clear hb); (try clear hb2); (try clear hk); (try clear hi)))
   go_ret
   exact ⟨by first | rfl | (simp [errW_none, errW_some] <;> rfl) | (simp [*, errW_none, errW_some] <;> rfl), by repeat (first | (with_reducible first | exact HB.out | apply below_alloc | apply pw_below_drewN | apply below_drew1 | refine below_set ?_ GE268.out) | exact HB.out)⟩
 ·rw [if_neg c4] at H
  have c4b0 : (t269 == 0) = false := beq_eq_false_iff_ne.mpr c4
  have c4b1 : (t269 != 0) = true := bne_iff_ne.mpr c4
  obtain rfl := Option.some.inj H
  go_enter Try.func34, Try.ntmps34
  go_wp2_with (first | ((with_reducible refine gate_dst (N := 2) rfl ?_); refine box_event ?hg (N := 2) ?hd (cs := #[.int .i64 a0_0, .bool a0_1, .slice A0_2 l0_2.length c0_2]) (t := 24) ?hr ?_; (case hd => rfl); (case hg => rfl); (case hr => first | (go_simp; done) | (go_simp; rfl)); intro gb268 hg w17 hbox hb; have n0_ := Aside0.mk (below_step (by repeat (first | (with_reducible first | exact HB.out | apply below_alloc | apply pw_below_drewN | apply below_drew1) | exact HB.out)) hb); have n1_ := Aside0.mk (hbox); have n2_ := Aside0.mk ((by rw [hg]; exact (below_size (by repeat (first | (with_reducible first | exact HB.out | apply below_alloc | apply pw_below_drewN | apply below_drew1) | exact HB.out))) : w.heap.size ≤ gb268)); have n3_ := Aside0.mk ((by rw [hg]; exact (below_size (by repeat (first | (with_reducible first | exact HB.out | apply below_alloc | apply pw_below_drewN | apply below_drew1) | exact HB.out))) : w.heap.size ≤ gb268)); clear HB; have HB := n0_; have BK268 := n1_; have GW268 := n2_; have GE268 := n3_; clear n0_ n1_ n2_ n3_; clear hb hbox hg; have hcz18_0 : w17.cell? ⟨gb268, 0, none⟩ = some (.int .i64 a0_0) := (blk_cell BK268.out 0).trans rfl; have hcz18_1 : w17.cell? ⟨gb268, 1, none⟩ = some (.bool a0_1) := (blk_cell BK268.out 1).trans rfl; have hcz18_2 : w17.cell? ⟨gb268, 2, none⟩ = some (.slice A0_2 l0_2.length c0_2) := (blk_cell BK268.out 2).trans rfl; have hfz18_0 := blk_frozen BK268.out 0; have hfz18_1 := blk_frozen BK268.out 1; have hfz18_2 := blk_frozen BK268.out 2) | ((with_reducible refine gate_callee (f := 24) rfl ?_); refine goesL_ (some 7) rfl rfl Try.func24 (by kernel_rfl) rfl #[.agg #[.int .i64 a0_0, .bool a0_1, .slice A0_2 l0_2.length c0_2]] rfl (by (try simp only [List.map_toArray, List.map_cons, List.map_nil]); first | done | rfl | (simp only [List.length_drop, List.length_take]; rfl)) ?_; (with_reducible refine (ebbtideref05_Check.calls k a0_0 a0_1 _ _ l0_2 t269 _ ?side1 ?side2 A3.out).mono ?_); (case side1 => repeat (first | exact (Kd.C_below HR0_2.out HB.out) | (with_reducible refine Kd.C_alloc ?_ _) | (with_reducible refine Kd.C_drewN ?_ _) | (with_reducible refine Kd.C_drew ?_))); (case side2 => exact HC0_2.out); rintro e w19 ⟨rfl, hb⟩; refine ⟨_, rfl, ?_⟩; have n0_ := Aside0.mk (blk_below (g := gb268) (o := .cells #[.int .i64 a0_0, .bool a0_1, .slice A0_2 l0_2.length c0_2] 24 (0, 0)) (by (with_reducible repeat (first | refine blk_drewN ?_ _ | refine blk_drew ?_ | refine blk_alloc ?_ _)); exact BK268.out) hb); have n1_ := Aside0.mk (below_step (by repeat (first | (with_reducible first | exact HB.out | apply below_alloc | apply pw_below_drewN | apply below_drew1 | refine below_set ?_ GE268.out) | exact HB.out)) hb); clear BK268; clear HB; have BK268 := n0_; have HB := n1_; clear n0_ n1_; (try clear hb); (try clear hb2); (try clear hk); (try clear hi)))
  go_ret
  exact ⟨by first | rfl | (simp [errW_none, errW_some] <;> rfl) | (simp [*, errW_none, errW_some] <;> rfl), by repeat (first | (with_reducible first | exact HB.out | apply below_alloc | apply pw_below_drewN | apply below_drew1 | refine below_set ?_ GE268.out) | exact HB.out)⟩

end Go.Proofs.Ytghdpoabpodieaa.P

/- Flows: what is wrong with one, its balances, its value, as plain functions; the program's answer and the document's are these. -/
set_option linter.unusedVariables false
namespace Go.Proofs.Ytghdpoabpodieaa.Q
open Go.RowKit Go.Proofs.YtghdpoabpodieaaW.PrintWords Go.Proofs.YtghdpoabpodieaaW.PrintLast Go.Proofs.YtghdpoabpodieaaW.PrintMore Go.Proofs.Ytghdpoabpodieaa.P

def flowB : List S48 → List Int → Bool
  | [], [] => true
  | a :: l, x :: f => if x < 0 then false else if x > a.f2 then false else flowB l f
  | _, _ => false
def askErr (n : Int) (l : List S48) (f : List Int) : Int := if netErr n l = 0 then (if flowB l f = true then 0 else 71) else netErr n l
structure FlowOk (l : List S48) (f : List Int) : Prop where
  len : f.length = l.length
  at_ : ∀ i : Nat, i < f.length → 0 ≤ rd f i ∧ rd f i ≤ (rd_T48 l i).f2
theorem rdArc_nat (l : List S48) (i : Nat) : rd_T48 l (i : Int) = l.getD i z48 := by unfold rd_T48; rw [Int.toNat_natCast]
theorem flowB_len : ∀ {l : List S48} {f : List Int}, flowB l f = true → f.length = l.length
  | [], [], _ => rfl
  | [], _ :: _, h => by simp [flowB] at h
  | _ :: _, [], h => by simp [flowB] at h
  | a :: l, x :: f, h => by
    unfold flowB at h
    split at h
    · cases h
    · split at h
      · cases h
      · simp [flowB_len h]
theorem flowB_ok : ∀ {l : List S48} {f : List Int}, flowB l f = true → ∀ i : Nat, i < f.length → 0 ≤ f.getD i 0 ∧ f.getD i 0 ≤ (l.getD i z48).f2
  | [], [], _, i, hi => by simp at hi
  | [], _ :: _, h, _, _ => by simp [flowB] at h
  | _ :: _, [], h, _, _ => by simp [flowB] at h
  | a :: l, x :: f, h, i, hi => by
    unfold flowB at h
    split at h
    · cases h
    · split at h
      · cases h
      · cases i with
        | zero => simp; omega
        | succ i => simpa using flowB_ok h i (by simpa using hi)
theorem flow_ok {l : List S48} {f : List Int} (h : flowB l f = true) : FlowOk l f :=
  ⟨flowB_len h, fun i hi => by rw [rd_nat, rdArc_nat]; exact flowB_ok h i hi⟩
theorem flow_mk : ∀ {l : List S48} {f : List Int}, f.length = l.length → (∀ i : Nat, i < f.length → 0 ≤ f.getD i 0 ∧ f.getD i 0 ≤ (l.getD i z48).f2) → flowB l f = true
  | [], [], _, _ => rfl
  | [], _ :: _, h, _ => by simp at h
  | _ :: _, [], h, _ => by simp at h
  | a :: l, x :: f, h, hf => by
    have h0 := hf 0 (by simp)
    simp at h0
    unfold flowB
    rw [if_neg (by omega), if_neg (by omega)]
    exact flow_mk (by simpa using h) (fun i hi => by simpa using hf (i + 1) (by simpa using hi))
theorem FlowOk.b {l : List S48} {f : List Int} (h : FlowOk l f) : flowB l f = true :=
  flow_mk h.len fun i hi => by have := h.at_ i hi; rwa [rd_nat, rdArc_nat] at this
theorem FlowOk.int {l : List S48} {f : List Int} (h : FlowOk l f) {i : Int} (h0 : 0 ≤ i) (h1 : i < f.length) : 0 ≤ rd f i ∧ rd f i ≤ (rd_T48 l i).f2 := by
  obtain ⟨j, rfl⟩ := Int.eq_ofNat_of_zero_le h0
  exact h.at_ j (by omega)
/-- A flow of a right network is small. -/
theorem FlowOk.small {n : Int} {l : List S48} {f : List Int} (h : FlowOk l f) (hn : NetOk n l) {i : Int} (h0 : 0 ≤ i) (h1 : i < f.length) : 0 ≤ rd f i ∧ rd f i ≤ 1048576 := by
  have h2 := h.int h0 h1
  have h3 := (hn.at_ h0 (by rw [← h.len]; exact h1)).h2
  omega
theorem askErr_ok {n : Int} {l : List S48} {f : List Int} (h : askErr n l f = 0) : NetOk n l ∧ FlowOk l f := by
  unfold askErr at h
  split at h
  · split at h
    · exact ⟨netErr_ok (by assumption), flow_ok (by assumption)⟩
    · omega
  · exact absurd h (by assumption)
theorem ask_of {n : Int} {l : List S48} {f : List Int} (h : NetOk n l) (hf : FlowOk l f) : askErr n l f = 0 := by
  unfold askErr
  rw [if_pos (netOk_err h), if_pos hf.b]

theorem asked_l0 (l : List S48) (f : List Int) (n : Int) (b : Bool) (hl : l.length ≤ 200) (hf : f.length = l.length) (d : Nat) : ∀ i : Nat, i + d = l.length →
    Ev (fun k => static_Asked.l0 k f (f.length : Int) (i : Int) n b l) (if flowB (l.drop i) (f.drop i) = true then 0 else 71) := by
  induction d with
  | zero =>
    intro i hi
    refine Ev.succ ?_; simp only [static_Asked.l0]
    repeat (first | exact Ev.now _ | with_reducible refine Ev.pos (by first | assumption | omega) ?_ | with_reducible refine Ev.neg (by first | assumption | omega) ?_ | with_reducible refine Ev.let_ ?_)
    rw [List.drop_of_length_le (by omega), List.drop_of_length_le (by omega)]
    exact Ev.now _
  | succ d ih =>
    intro i hi
    refine Ev.succ ?_; simp only [static_Asked.l0]
    repeat (first | exact Ev.now _ | with_reducible refine Ev.pos (by first | assumption | omega) ?_ | with_reducible refine Ev.neg (by first | assumption | omega) ?_ | with_reducible refine Ev.let_ ?_)
    rw [drop_getD l i z48 (by omega), drop_getD f i 0 (by omega), rdArc_nat, rd_nat]
    unfold flowB
    refine Ev.ite (fun h => ?_) (fun h => ?_)
    · rw [if_pos h]
      exact Ev.now _
    · rw [if_neg h]
      repeat (first | exact Ev.now _ | with_reducible refine Ev.pos (by first | assumption | omega) ?_ | with_reducible refine Ev.neg (by first | assumption | omega) ?_ | with_reducible refine Ev.let_ ?_)
      refine Ev.ite (fun g => ?_) (fun g => ?_)
      · rw [if_pos g]
        exact Ev.now _
      · rw [if_neg g, wrap_succ (n := l.length) (by omega) (by omega)]
        exact ih (i + 1) (by omega)
theorem flowB_ne {l : List S48} {f : List Int} (h : ¬ ((f.length : Int) = (l.length : Int))) : ¬ flowB l f = true := fun g => h (by rw [flowB_len g])
theorem asked_ev (n : Int) (b : Bool) (l : List S48) (f : List Int) : Ev (fun k => static_Asked.f k n b l f) (askErr n l f) := by
  unfold static_Asked.f askErr
  refine Ev.bind (check_ev n b l) ?_
  refine Ev.ite (fun h => ?_) (fun h => ?_)
  · rw [if_pos h]
    have hn := netErr_ok h
    refine Ev.ite (fun g => ?_) (fun g => ?_)
    · exact asked_l0 l f n b hn.len (by omega) l.length 0 (by omega)
    · rw [if_neg (flowB_ne g)]
      exact Ev.now _
  · rw [if_neg h]
    exact Ev.now _
theorem within_l0 (l : List S48) (f : List Int) (n : Int) (b : Bool) (hl : l.length ≤ 200) (hf : f.length = l.length) (d : Nat) : ∀ i : Nat, i + d = l.length →
    Ev (fun k => ebbtideref07_Within.l0 k f (i : Int) n b l) (flowB (l.drop i) (f.drop i)) := by
  induction d with
  | zero =>
    intro i hi
    refine Ev.succ ?_; simp only [ebbtideref07_Within.l0]
    repeat (first | exact Ev.now _ | with_reducible refine Ev.pos (by first | assumption | omega) ?_ | with_reducible refine Ev.neg (by first | assumption | omega) ?_ | with_reducible refine Ev.let_ ?_)
    rw [List.drop_of_length_le (by omega), List.drop_of_length_le (by omega)]
    exact Ev.now _
  | succ d ih =>
    intro i hi
    refine Ev.succ ?_; simp only [ebbtideref07_Within.l0]
    repeat (first | exact Ev.now _ | with_reducible refine Ev.pos (by first | assumption | omega) ?_ | with_reducible refine Ev.neg (by first | assumption | omega) ?_ | with_reducible refine Ev.let_ ?_)
    rw [drop_getD l i z48 (by omega), drop_getD f i 0 (by omega), rdArc_nat, rd_nat]
    unfold flowB
    refine Ev.ite (fun h => ?_) (fun h => ?_)
    · rw [if_pos h]
      exact Ev.now _
    · rw [if_neg h]
      repeat (first | exact Ev.now _ | with_reducible refine Ev.pos (by first | assumption | omega) ?_ | with_reducible refine Ev.neg (by first | assumption | omega) ?_ | with_reducible refine Ev.let_ ?_)
      refine Ev.ite (fun g => ?_) (fun g => ?_)
      · rw [if_pos g]
        exact Ev.now _
      · rw [if_neg g, wrap_succ (n := l.length) (by omega) (by omega)]
        exact ih (i + 1) (by omega)
theorem within_ev (n : Int) (b : Bool) (l : List S48) (f : List Int) (hl : l.length ≤ 200) : Ev (fun k => ebbtideref07_Within.f k n b l f) (flowB l f) := by
  unfold ebbtideref07_Within.f
  refine Ev.ite (fun g => ?_) (fun g => ?_)
  · exact within_l0 l f n b hl (by omega) l.length 0 (by omega)
  · rw [Bool.eq_false_iff.2 (flowB_ne g)]
    exact Ev.now _
theorem ref_asked_ev (n : Int) (b : Bool) (l : List S48) (f : List Int) : Ev (fun k => ebbtideref07_Asked.f k n b l f) (askErr n l f) := by
  unfold ebbtideref07_Asked.f askErr
  refine Ev.bind (ref_check_ev n b l) ?_
  refine Ev.ite (fun h => ?_) (fun h => ?_)
  · rw [if_pos h]
    refine Ev.bind (within_ev n b l f (netErr_ok h).len) ?_
    refine Ev.ite (fun g => ?_) (fun g => ?_)
    · rw [if_pos g]; exact Ev.now _
    · rw [if_neg g]; exact Ev.now _
  · rw [if_neg h]
    exact Ev.now _

/-- How much more leaves a node than comes. -/
def bal : List S48 → List Int → Int → Int
  | a :: l, x :: f, v => (if a.f0 = v then x else 0) - (if a.f1 = v then x else 0) + bal l f v
  | _, _, _ => 0
theorem bal_cons (a : S48) (l : List S48) (x : Int) (f : List Int) (v : Int) : bal (a :: l) (x :: f) v = (if a.f0 = v then x else 0) - (if a.f1 = v then x else 0) + bal l f v := rfl
theorem bal_nil (f : List Int) (v : Int) : bal [] f v = 0 := by cases f <;> rfl
def balOf (n : Int) (l : List S48) (f : List Int) : List Int := (List.range n.toNat).map fun v : Nat => bal l f v
theorem balOf_len (n : Int) (l : List S48) (f : List Int) : (balOf n l f).length = n.toNat := by simp [balOf]
theorem rd_balOf {n : Int} {l : List S48} {f : List Int} {v : Int} (h0 : 0 ≤ v) (h1 : v < n) : rd (balOf n l f) v = bal l f v := by
  obtain ⟨j, rfl⟩ := Int.eq_ofNat_of_zero_le h0
  have hj : j < n.toNat := by omega
  rw [rd_nat, balOf, List.getD_eq_getElem?_getD]
  simp [hj]
theorem balance_l0 (n : Int) (l : List S48) (f : List Int) (hn : NetOk n l) (hf : FlowOk l f) (d : Nat) : ∀ (i : Nat) (x : List Int), i + d = l.length → x.length = n.toNat → (∀ v : Nat, v < x.length → -(i * 2097152) ≤ rd x v ∧ rd x v ≤ i * 2097152) →
    ∃ r, Ev (fun k => static_Balance.l0 k f x l (l.length : Int) (i : Int)) (r, 0) ∧ r.length = x.length ∧ ∀ v : Nat, v < x.length → rd r v = rd x v + bal (l.drop i) (f.drop i) v := by
  have hlen := hf.len
  have hl := hn.len
  induction d with
  | zero =>
    intro i x hi hx hb
    refine ⟨x, ?_, rfl, fun v hv => ?_⟩
    · refine Ev.succ ?_; simp only [static_Balance.l0]
      repeat (first | exact Ev.now _ | with_reducible refine Ev.pos (by first | assumption | omega) ?_ | with_reducible refine Ev.neg (by first | assumption | omega) ?_ | with_reducible refine Ev.let_ ?_)
    · rw [List.drop_of_length_le (by omega)]
      simp [bal]
  | succ d ih =>
    intro i x hi hx hb
    have ha := hn.at_ (i := (i : Int)) (by omega) (by omega)
    have hs := hf.small hn (i := (i : Int)) (by omega) (by omega)
    have h1 := ha.f0
    have h2 := ha.f1
    have h3 := ha.h0
    have h4 := ha.h1
    have hb1 := hb (rd_T48 l (i : Int)).f0.toNat (by omega)
    have e1 : (((rd_T48 l (i : Int)).f0.toNat : Nat) : Int) = (rd_T48 l (i : Int)).f0 := by omega
    have e2 : (((rd_T48 l (i : Int)).f1.toNat : Nat) : Int) = (rd_T48 l (i : Int)).f1 := by omega
    rw [e1] at hb1
    have hb2 := hb (rd_T48 l (i : Int)).f1.toNat (by omega)
    rw [e2] at hb2
    obtain ⟨r, hr, hrl, hrv⟩ := ih (i + 1) ((x.set (rd_T48 l (i : Int)).f0.toNat (wrap64 (rd x (rd_T48 l (i : Int)).f0 + rd f (i : Int)))).set (rd_T48 l (i : Int)).f1.toNat
        (wrap64 (rd (x.set (rd_T48 l (i : Int)).f0.toNat (wrap64 (rd x (rd_T48 l (i : Int)).f0 + rd f (i : Int)))) (rd_T48 l (i : Int)).f1 - rd f (i : Int)))) (by omega) (by simpa using hx) (by
      intro v hv
      have hv' : v < x.length := by simpa using hv
      have hbv := hb v hv'
      rw [rd_set _ _ _ _ h2 (by simp; omega) (by omega), rd_set _ _ _ _ h1 (by omega) h2, rd_set _ _ _ _ h1 (by omega) (by omega)]
      have w1 : wrap64 (rd x (rd_T48 l (i : Int)).f0 + rd f (i : Int)) = rd x (rd_T48 l (i : Int)).f0 + rd f (i : Int) := wrap_id (by omega) (by omega)
      rw [w1]
      split
      · split
        · rename_i h5 h6
          rw [wrap_id (by omega) (by omega)]
          omega
        · rename_i h5 h6
          rw [wrap_id (by omega) (by omega)]
          omega
      · split
        · omega
        · omega)
    refine ⟨r, ?_, by simpa using hrl, fun v hv => ?_⟩
    · refine Ev.succ ?_; simp only [static_Balance.l0]
      repeat (first | exact Ev.now _ | with_reducible refine Ev.pos (by first | assumption | omega) ?_ | with_reducible refine Ev.neg (by first | assumption | omega) ?_ | with_reducible refine Ev.let_ ?_)
      rw [wrap_succ (n := l.length) (by omega) (by omega)]
      exact hr
    · rw [hrv v (by simpa using hv), rd_set _ _ _ _ h2 (by simp; omega) (by omega), rd_set _ _ _ _ h1 (by omega) h2, rd_set _ _ _ _ h1 (by omega) (by omega)]
      have w1 : wrap64 (rd x (rd_T48 l (i : Int)).f0 + rd f (i : Int)) = rd x (rd_T48 l (i : Int)).f0 + rd f (i : Int) := wrap_id (by omega) (by omega)
      rw [w1, drop_getD l i z48 (by omega), drop_getD f i 0 (by omega), ← rdArc_nat, ← rd_nat, bal_cons]
      by_cases h5 : (rd_T48 l (i : Int)).f1 = (v : Int)
      · rw [if_pos h5, if_pos h5]
        by_cases h6 : (rd_T48 l (i : Int)).f0 = (v : Int)
        · rw [if_pos (by omega), if_pos h6, wrap_id (by omega) (by omega), h6]
          omega
        · rw [if_neg (by omega), if_neg h6, wrap_id (by omega) (by omega), h5]
          omega
      · rw [if_neg h5, if_neg h5]
        by_cases h6 : (rd_T48 l (i : Int)).f0 = (v : Int)
        · rw [if_pos h6, if_pos h6, h6]
          omega
        · rw [if_neg h6, if_neg h6]
          omega
theorem rd_zeros (m : Nat) (v : Int) : rd (List.replicate m 0) v = 0 := by
  unfold rd
  rw [List.getD_eq_getElem?_getD, List.getElem?_replicate]
  split <;> rfl
def balRes (n : Int) (l : List S48) (f : List Int) : List Int × Int := if askErr n l f = 0 then (balOf n l f, 0) else ([], askErr n l f)
theorem balance_ev (n : Int) (b : Bool) (l : List S48) (f : List Int) : Ev (fun k => static_Balance.f k n b l f) (balRes n l f) := by
  unfold static_Balance.f balRes
  refine Ev.bind (asked_ev n b l f) ?_
  refine Ev.ite (fun h => ?_) (fun h => ?_)
  · rw [if_pos h]
    obtain ⟨hn, hf⟩ := askErr_ok h
    have := hn.lo
    have := hn.hi
    repeat (first | exact Ev.now _ | with_reducible refine Ev.pos (by first | assumption | omega) ?_ | with_reducible refine Ev.neg (by first | assumption | omega) ?_ | with_reducible refine Ev.let_ ?_)
    obtain ⟨r, hr, hrl, hrv⟩ := balance_l0 n l f hn hf l.length 0 (List.replicate n.toNat 0) (by omega) (by simp) (fun v hv => by rw [rd_zeros]; omega)
    refine Ev.eq hr ?_
    rw [List.length_replicate] at hrl hrv
    congr 1
    refine ext_rd (by rw [hrl, balOf_len]) fun v hv => ?_
    rw [hrv v (by omega), rd_zeros, rd_balOf (by omega) (by omega), List.drop_zero, List.drop_zero]
    omega
  · rw [if_neg h]
    exact Ev.now _

theorem leaves_l0 (n m : Int) (b : Bool) (l : List S48) (f : List Int) (hn : NetOk m l) (hf : FlowOk l f) (v : Int) (d : Nat) : ∀ (i : Nat) (acc : Int), i + d = l.length → -(i * 2097152) ≤ acc → acc ≤ i * 2097152 →
    Ev (fun k => ebbtideref07_Leaves.l0 k f v acc (i : Int) n b l) (acc + bal (l.drop i) (f.drop i) v) := by
  have hlen := hf.len
  have hl := hn.len
  induction d with
  | zero =>
    intro i acc hi h0 h1
    refine Ev.succ ?_; simp only [ebbtideref07_Leaves.l0]
    repeat (first | exact Ev.now _ | with_reducible refine Ev.pos (by first | assumption | omega) ?_ | with_reducible refine Ev.neg (by first | assumption | omega) ?_ | with_reducible refine Ev.let_ ?_)
    rw [List.drop_of_length_le (by omega)]
    exact Ev.done (by simp [bal])
  | succ d ih =>
    intro i acc hi h0 h1
    have hs := hf.small hn (i := (i : Int)) (by omega) (by omega)
    refine Ev.succ ?_; simp only [ebbtideref07_Leaves.l0]
    repeat (first | exact Ev.now _ | with_reducible refine Ev.pos (by first | assumption | omega) ?_ | with_reducible refine Ev.neg (by first | assumption | omega) ?_ | with_reducible refine Ev.let_ ?_)
    rw [wrap_succ (n := l.length) (by omega) (by omega), drop_getD l i z48 (by omega), drop_getD f i 0 (by omega), ← rdArc_nat, ← rd_nat, bal_cons]
    refine Ev.ite (fun g => ?_) (fun g => ?_)
    · rw [if_pos g]
      refine Ev.ite (fun g2 => ?_) (fun g2 => ?_)
      · rw [if_pos g2, wrap_id (x := acc + rd f (i : Int)) (by omega) (by omega), wrap_id (by omega) (by omega)]
        exact Ev.eq (ih (i + 1) _ (by omega) (by omega) (by omega)) (by omega)
      · rw [if_neg g2, wrap_id (x := acc + rd f (i : Int)) (by omega) (by omega)]
        exact Ev.eq (ih (i + 1) _ (by omega) (by omega) (by omega)) (by omega)
    · rw [if_neg g]
      refine Ev.ite (fun g2 => ?_) (fun g2 => ?_)
      · rw [if_pos g2, wrap_id (x := acc - rd f (i : Int)) (by omega) (by omega)]
        exact Ev.eq (ih (i + 1) _ (by omega) (by omega) (by omega)) (by omega)
      · rw [if_neg g2]
        exact Ev.eq (ih (i + 1) _ (by omega) (by omega) (by omega)) (by omega)
theorem leaves_ev (n m : Int) (b : Bool) (l : List S48) (f : List Int) (hn : NetOk m l) (hf : FlowOk l f) (v : Int) : Ev (fun k => ebbtideref07_Leaves.f k n b l f v) (bal l f v) := by
  unfold ebbtideref07_Leaves.f
  exact Ev.eq (leaves_l0 n m b l f hn hf v l.length 0 0 (by omega) (by omega) (by omega)) (by rw [List.drop_zero, List.drop_zero]; omega)
theorem ref_balance_l0 (n : Int) (b : Bool) (l : List S48) (f : List Int) (hn : NetOk n l) (hf : FlowOk l f) (d : Nat) : ∀ (i : Nat), i + d = n.toNat →
    Ev (fun k => ebbtideref07_Balance.l0 k f ((List.range i).map fun v : Nat => bal l f v) (i : Int) n b l) (balOf n l f, 0) := by
  have := hn.lo
  have := hn.hi
  induction d with
  | zero =>
    intro i hi
    refine Ev.succ ?_; simp only [ebbtideref07_Balance.l0]
    repeat (first | exact Ev.now _ | with_reducible refine Ev.pos (by first | assumption | omega) ?_ | with_reducible refine Ev.neg (by first | assumption | omega) ?_ | with_reducible refine Ev.let_ ?_)
    exact Ev.done (by unfold balOf; rw [show i = n.toNat by omega])
  | succ d ih =>
    intro i hi
    refine Ev.succ ?_; simp only [ebbtideref07_Balance.l0]
    repeat (first | exact Ev.now _ | with_reducible refine Ev.pos (by first | assumption | omega) ?_ | with_reducible refine Ev.neg (by first | assumption | omega) ?_ | with_reducible refine Ev.let_ ?_)
    refine Ev.bind (leaves_ev n n b l f hn hf i) ?_
    refine Ev.pos (by simp; omega) ?_
    rw [wrap_succ (n := n.toNat) (by omega) (by omega)]
    have e : ((List.range i).map fun v : Nat => bal l f v) ++ [bal l f (i : Int)] = (List.range (i + 1)).map fun v : Nat => bal l f v := by simp [List.range_succ]
    rw [e]
    exact ih (i + 1) (by omega)
theorem ref_balance_ev (n : Int) (b : Bool) (l : List S48) (f : List Int) : Ev (fun k => ebbtideref07_Balance.f k n b l f) (balRes n l f) := by
  unfold ebbtideref07_Balance.f balRes askErr
  refine Ev.bind (ref_check_ev n b l) ?_
  refine Ev.ite (fun h => ?_) (fun h => ?_)
  · rw [if_pos h]
    have hn := netErr_ok h
    refine Ev.bind (within_ev n b l f hn.len) ?_
    refine Ev.ite (fun g => ?_) (fun g => ?_)
    · rw [if_pos g, if_pos rfl]
      exact ref_balance_l0 n b l f hn (flow_ok g) n.toNat 0 (by omega)
    · rw [if_neg g, if_neg (by decide)]
      exact Ev.now _
  · rw [if_neg h, if_neg h]
    exact Ev.now _

def endsErr (n : Int) (l : List S48) (s t : Int) : Int := if netErr n l = 0 then (if s < 0 ∨ t < 0 ∨ n ≤ s ∨ n ≤ t ∨ s = t then 70 else 0) else netErr n l
structure EndsOk (n s t : Int) : Prop where
  s0 : 0 ≤ s
  t0 : 0 ≤ t
  sn : s < n
  tn : t < n
  ne : s ≠ t
theorem endsErr_ok {n : Int} {l : List S48} {s t : Int} (h : endsErr n l s t = 0) : NetOk n l ∧ EndsOk n s t := by
  unfold endsErr at h
  split at h
  · split at h
    · omega
    · exact ⟨netErr_ok (by assumption), by omega, by omega, by omega, by omega, by omega⟩
  · exact absurd h (by assumption)
theorem ends_of {n : Int} {l : List S48} {s t : Int} (h : NetOk n l) (he : EndsOk n s t) : endsErr n l s t = 0 := by
  have := he.s0; have := he.t0; have := he.sn; have := he.tn; have := he.ne
  unfold endsErr
  rw [if_pos (netOk_err h), if_neg (by omega)]
theorem ends_ev (n : Int) (b : Bool) (l : List S48) (s t : Int) : Ev (fun k => static_Ends.f k n b l s t) (endsErr n l s t) := by
  unfold static_Ends.f endsErr
  refine Ev.bind (check_ev n b l) ?_
  refine Ev.ite (fun h => ?_) (fun h => ?_)
  · rw [if_pos h]
    unfold mn mx
    refine Ev.ite (fun g => ?_) (fun g => ?_)
    · exact Ev.done (by rw [if_pos (by omega)])
    refine Ev.ite (fun g => ?_) (fun g => ?_)
    · exact Ev.done (by rw [if_pos (by omega)])
    refine Ev.ite (fun g => ?_) (fun g => ?_)
    · exact Ev.done (by rw [if_pos (by omega)])
    · exact Ev.done (by rw [if_neg (by omega)])
  · rw [if_neg h]
    exact Ev.now _
theorem node_eq (n : Int) (b : Bool) (l : List S48) (v : Int) : ebbtideref06_Node.f n b l v = some (decide (0 ≤ v ∧ v < n)) := by
  unfold ebbtideref06_Node.f
  split
  · rename_i h
    congr 1
    by_cases g : v < n <;> simp [g] <;> omega
  · rename_i h
    congr 1
    symm
    exact decide_eq_false (by omega)
theorem ref_ends_ev (n : Int) (b : Bool) (l : List S48) (s t : Int) : Ev (fun k => ebbtideref07_Ends.f k n b l s t) (endsErr n l s t) := by
  unfold ebbtideref07_Ends.f endsErr
  refine Ev.bind (ref_check_ev n b l) ?_
  refine Ev.ite (fun h => ?_) (fun h => ?_)
  · rw [if_pos h]
    refine Ev.call (node_eq n b l s) ?_
    refine Ev.ite (fun g => ?_) (fun g => ?_)
    · have g := of_decide_eq_true g
      refine Ev.call (node_eq n b l t) ?_
      refine Ev.ite (fun g2 => ?_) (fun g2 => ?_)
      · have g2 := of_decide_eq_true g2
        refine Ev.ite (fun g3 => ?_) (fun g3 => ?_)
        · exact Ev.done (by rw [if_pos (by omega)])
        · exact Ev.done (by rw [if_neg (by omega)])
      · have g2 := of_decide_eq_false (Bool.eq_false_iff.2 g2)
        exact Ev.done (by rw [if_pos (by omega)])
    · have g := of_decide_eq_false (Bool.eq_false_iff.2 g)
      exact Ev.done (by rw [if_pos (by omega)])
  · rw [if_neg h]
    exact Ev.now _

/-- Are all balances from number i on 0, but for the source's and the sink's? -/
def evenB (s t : Int) : List Int → Int → Bool
  | [], _ => true
  | x :: l, i => if x = 0 then evenB s t l (i + 1) else if i = s then evenB s t l (i + 1) else if i = t then evenB s t l (i + 1) else false
def valRes (n : Int) (l : List S48) (s t : Int) (f : List Int) : Int × Int :=
  if endsErr n l s t = 0 then (if askErr n l f = 0 then (if evenB s t (balOf n l f) 0 = true then (bal l f s, 0) else (0, 71)) else (0, askErr n l f)) else (0, endsErr n l s t)
theorem check2_l0 (s t : Int) (b : List Int) (hb : b.length ≤ 50) (hs : 0 ≤ s) (hsn : s < b.length) (d : Nat) : ∀ i : Nat, i + d = b.length →
    Ev (fun k => static_Check.l0 k s t b b (b.length : Int) (i : Int)) (if evenB s t (b.drop i) i = true then (rd b s, 0) else (0, 71)) := by
  induction d with
  | zero =>
    intro i hi
    refine Ev.succ ?_; simp only [static_Check.l0]
    repeat (first | exact Ev.now _ | with_reducible refine Ev.pos (by first | assumption | omega) ?_ | with_reducible refine Ev.neg (by first | assumption | omega) ?_ | with_reducible refine Ev.let_ ?_)
    rw [List.drop_of_length_le (by omega)]
    exact Ev.now _
  | succ d ih =>
    intro i hi
    refine Ev.succ ?_; simp only [static_Check.l0]
    repeat (first | exact Ev.now _ | with_reducible refine Ev.pos (by first | assumption | omega) ?_ | with_reducible refine Ev.neg (by first | assumption | omega) ?_ | with_reducible refine Ev.let_ ?_)
    rw [drop_getD b i 0 (by omega), rd_nat, wrap_succ (n := b.length) (by omega) (by omega)]
    unfold evenB
    have := ih (i + 1) (by omega)
    rw [show ((i + 1 : Nat) : Int) = (i : Int) + 1 by omega] at this ⊢
    refine Ev.ite (fun g => ?_) (fun g => ?_)
    · rw [if_pos g]; exact this
    rw [if_neg g]
    refine Ev.ite (fun g => ?_) (fun g => ?_)
    · rw [if_pos g]; exact this
    rw [if_neg g]
    refine Ev.ite (fun g => ?_) (fun g => ?_)
    · rw [if_pos g]; exact this
    rw [if_neg g]
    exact Ev.now _
theorem balRes_ok {n : Int} {l : List S48} {f : List Int} (h : askErr n l f = 0) : balRes n l f = (balOf n l f, 0) := by unfold balRes; rw [if_pos h]
theorem balRes_no {n : Int} {l : List S48} {f : List Int} (h : ¬ askErr n l f = 0) : balRes n l f = ([], askErr n l f) := by unfold balRes; rw [if_neg h]
theorem value_ev (n : Int) (b : Bool) (l : List S48) (s t : Int) (f : List Int) : Ev (fun k => static_Check.f k n b l s t f) (valRes n l s t f) := by
  unfold static_Check.f valRes
  refine Ev.bind (ends_ev n b l s t) ?_
  refine Ev.ite (fun h => ?_) (fun h => ?_)
  · rw [if_pos h]
    obtain ⟨hn, he⟩ := endsErr_ok h
    have := hn.lo; have := hn.hi; have := he.s0; have := he.sn
    refine Ev.bind (balance_ev n b l f) ?_
    by_cases g : askErr n l f = 0
    · rw [if_pos g, balRes_ok g]
      refine Ev.pos rfl ?_
      refine Ev.eq (check2_l0 s t (balOf n l f) (by rw [balOf_len]; omega) (by omega) (by rw [balOf_len]; omega) _ 0 (Nat.zero_add _)) ?_
      rw [rd_balOf (by omega) (by omega), List.drop_zero]
      rfl
    · rw [if_neg g, balRes_no g]
      exact Ev.neg g (Ev.now _)
  · rw [if_neg h]
    exact Ev.now _
theorem ref_check2_l0 (n : Int) (p : Bool) (l : List S48) (s t : Int) (b : List Int) (hb : b.length ≤ 50) (hbn : n = b.length) (hs : 0 ≤ s) (hsn : s < b.length) (d : Nat) : ∀ i : Nat, i + d = b.length →
    Ev (fun k => ebbtideref07_Check.l0 k s t b (i : Int) n p l) (if evenB s t (b.drop i) i = true then (rd b s, 0) else (0, 71)) := by
  induction d with
  | zero =>
    intro i hi
    refine Ev.succ ?_; simp only [ebbtideref07_Check.l0]
    repeat (first | exact Ev.now _ | with_reducible refine Ev.pos (by first | assumption | omega) ?_ | with_reducible refine Ev.neg (by first | assumption | omega) ?_ | with_reducible refine Ev.let_ ?_)
    rw [List.drop_of_length_le (by omega)]
    exact Ev.now _
  | succ d ih =>
    intro i hi
    refine Ev.succ ?_; simp only [ebbtideref07_Check.l0]
    refine Ev.pos (by omega) ?_
    rw [drop_getD b i 0 (by omega), rd_nat, wrap_succ (n := b.length) (by omega) (by omega)]
    unfold evenB
    have := ih (i + 1) (by omega)
    rw [show ((i + 1 : Nat) : Int) = (i : Int) + 1 by omega] at this ⊢
    refine Ev.ite (fun g1 => ?_) (fun g1 => ?_)
    · rw [if_pos g1, ite_self]; exact this
    rw [if_neg g1]
    refine Ev.ite (fun g2 => ?_) (fun g2 => ?_)
    · rw [if_pos g2, ite_self]; exact this
    rw [if_neg g2]
    repeat (first | exact Ev.now _ | with_reducible refine Ev.pos (by first | assumption | omega) ?_ | with_reducible refine Ev.neg (by first | assumption | omega) ?_ | with_reducible refine Ev.let_ ?_)
    refine Ev.ite (fun g => ?_) (fun g => ?_)
    · rw [if_pos g]; exact this
    rw [if_neg g]
    exact Ev.now _
theorem ref_value_ev (n : Int) (b : Bool) (l : List S48) (s t : Int) (f : List Int) : Ev (fun k => ebbtideref07_Check.f k n b l s t f) (valRes n l s t f) := by
  unfold ebbtideref07_Check.f valRes
  refine Ev.bind (ref_ends_ev n b l s t) ?_
  refine Ev.ite (fun h => ?_) (fun h => ?_)
  · rw [if_pos h]
    obtain ⟨hn, he⟩ := endsErr_ok h
    have := hn.lo; have := hn.hi; have := he.s0; have := he.sn
    refine Ev.bind (ref_balance_ev n b l f) ?_
    by_cases g : askErr n l f = 0
    · rw [if_pos g, balRes_ok g]
      refine Ev.pos rfl ?_
      refine Ev.eq (ref_check2_l0 n b l s t (balOf n l f) (by rw [balOf_len]; omega) (by rw [balOf_len]; omega) (by omega) (by rw [balOf_len]; omega) _ 0 (Nat.zero_add _)) ?_
      rw [rd_balOf (by omega) (by omega), List.drop_zero]
      rfl
    · rw [if_neg g, balRes_no g]
      exact Ev.neg g (Ev.now _)
  · rw [if_neg h]
    exact Ev.now _

theorem same_l0 (a b : List Int) (hb : a.length = b.length) (hl : a.length ≤ 9223372036854775807) (d : Nat) : ∀ i : Nat, i + d = a.length →
    Ev (fun k => ebbtideref03_SameInts.l0 k a b (i : Int)) (decide (a.drop i = b.drop i)) := by
  induction d with
  | zero =>
    intro i hi
    refine Ev.succ ?_; simp only [ebbtideref03_SameInts.l0]
    repeat (first | exact Ev.now _ | with_reducible refine Ev.pos (by first | assumption | omega) ?_ | with_reducible refine Ev.neg (by first | assumption | omega) ?_ | with_reducible refine Ev.let_ ?_)
    rw [List.drop_of_length_le (by omega), List.drop_of_length_le (by omega)]
    exact Ev.now _
  | succ d ih =>
    intro i hi
    refine Ev.succ ?_; simp only [ebbtideref03_SameInts.l0]
    repeat (first | exact Ev.now _ | with_reducible refine Ev.pos (by first | assumption | omega) ?_ | with_reducible refine Ev.neg (by first | assumption | omega) ?_ | with_reducible refine Ev.let_ ?_)
    rw [drop_getD a i 0 (by omega), drop_getD b i 0 (by omega), ← rd_nat, ← rd_nat, wrap_succ (n := a.length) (by omega) (by omega)]
    refine Ev.ite (fun g => ?_) (fun g => ?_)
    · rw [g]
      exact Ev.eq (ih (i + 1) (by omega)) (by simp)
    · exact Ev.done (by simp [g])
theorem same_ev (a b : List Int) (hl : a.length ≤ 9223372036854775807) : Ev (fun k => ebbtideref03_SameInts.f k a b) (decide (a = b)) := by
  unfold ebbtideref03_SameInts.f
  refine Ev.ite (fun g => ?_) (fun g => ?_)
  · exact Ev.eq (same_l0 a b (by omega) hl a.length 0 (by omega)) (by rw [List.drop_zero, List.drop_zero])
  · exact Ev.done (by symm; exact decide_eq_false (fun h => g (by rw [h])))
end Go.Proofs.Ytghdpoabpodieaa.Q

/- The document's small example of layer 7 answers true. -/
namespace Go.Proofs.Ytghdpoabpodieaa.Q
open Go.RowKit Go.Proofs.YtghdpoabpodieaaW.PrintWords Go.Proofs.YtghdpoabpodieaaW.PrintLast Go.Proofs.YtghdpoabpodieaaW.PrintMore Go.Proofs.Ytghdpoabpodieaa.P
theorem awake07_at : ebbtidelaw07_awake.f 20 = some true := by decide +kernel
theorem awake07_ev : Ev (fun k => ebbtidelaw07_awake.f k) true := Ev.of ebbtidelaw07_awake.mono awake07_at
end Go.Proofs.Ytghdpoabpodieaa.Q
