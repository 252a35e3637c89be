/- Joined by wip/tool/bundle.py out of: P36 QCostFree P37 P38 QOpen QAwake11 QCostBase. -/
import Derived.Test.YtkcpanpdipmmmaaGapahkj
import Derived.Test.YtkcpanpdipmmmaaGocidaa
import Derived.Test.YtkcpanpdipmmmaaGdjoggl
import Derived.Test.YtkcpanpdipmmmaaV
import Derived.Deep.Slices
import Derived.Deep.Fields
import Derived.ChangeSame
import Derived.ChangeArms
import Derived.OpenShut
set_option linter.unusedVariables false
set_option linter.unusedSimpArgs false
namespace Go.Proofs.Ytkcpanpdipmmmaa.P
open Go.RowKit Go.Proofs.YtkcpanpdipmmmaaW.PrintWords Go.Proofs.YtkcpanpdipmmmaaW.PrintLast Go.Proofs.YtkcpanpdipmmmaaW.PrintMore
attribute [local go_sem] max2_int min2_int max_two min_two max_three min_three max_four min_four

/-! ### ebbtideref11_Free: function 52 -/
def ebbtideref11_Free.l0 : Nat → List Int → Int → Int → Bool → List (S74) → Option (Bool × Int)
 | 0, _, _, _, _, _ => none
 | k + 1, x1, x7, x220000, x220001, x220002 => if x7 < x220000 then ((ebbtideref11_From.f k x220000 x220001 x220002 x1 x7).bind fun bt221 => (if bt221.2.2 = true then (ebbtideref11_Free.l0 k x1 (wrap64 (x7 + 1)) x220000 x220001 x220002) else (some (false, 0)))) else (some (true, 0))
def ebbtideref11_Free.f (k : Nat) (a0_0 : Int) (a0_1 : Bool) (l0_2 : List (S74)) (l1 : List Int) : Option (Bool × Int) := (ebbtideref07_Asked.f k a0_0 a0_1 l0_2 l1).bind fun t220 => (if t220 = 0 then (ebbtideref11_Free.l0 k l1 0 a0_0 a0_1 l0_2) else (some (false, t220)))
theorem ebbtideref11_Free.mono_l : ∀ k, (∀ y0 y1 y2 y3 y4, LeO (ebbtideref11_Free.l0 k y0 y1 y2 y3 y4) (ebbtideref11_Free.l0 (k + 1) y0 y1 y2 y3 y4))
 | 0 => fun _ _ _ _ _ r h => by simp [ebbtideref11_Free.l0] at h
 | k + 1 => by
  have ih0 := ebbtideref11_Free.mono_l k
  ·intro y0 y1 y2 y3 y4
   unfold ebbtideref11_Free.l0
   repeat' first
   | (with_reducible exact ih0 _ _ _ _ _)
   | (with_reducible exact ebbtideref07_Asked.mono _ _ _ _ _)
   | (with_reducible exact ebbtideref11_From.mono _ _ _ _ _ _)
   | (with_reducible exact LeO.refl _)
   | (with_reducible exact LeO.none _)
   | (with_reducible refine LeO.ite ?_ ?_)
   | (with_reducible refine LeO.bind ?_ (fun _ => ?_))
   | exact ih0 _ _ _ _ _
   | exact ebbtideref07_Asked.mono _ _ _ _ _
   | exact ebbtideref11_From.mono _ _ _ _ _ _
   | exact LeO.none _
   | refine LeO.ite ?_ ?_
   | refine LeO.bind ?_ (fun _ => ?_)
theorem ebbtideref11_Free.mono : ∀ a0 a1 a2 a3 k, LeO (ebbtideref11_Free.f k a0 a1 a2 a3) (ebbtideref11_Free.f (k + 1) a0 a1 a2 a3) := by
 intro a0 a1 a2 a3 k
 have ih0 := ebbtideref11_Free.mono_l k
 unfold ebbtideref11_Free.f
 repeat' first
   | (with_reducible exact ih0 _ _ _ _ _)
   | (with_reducible exact ebbtideref07_Asked.mono _ _ _ _ _)
   | (with_reducible exact ebbtideref11_From.mono _ _ _ _ _ _)
   | (with_reducible exact LeO.refl _)
   | (with_reducible exact LeO.none _)
   | (with_reducible refine LeO.ite ?_ ?_)
   | (with_reducible refine LeO.bind ?_ (fun _ => ?_))
   | exact ih0 _ _ _ _ _
   | exact ebbtideref07_Asked.mono _ _ _ _ _
   | exact ebbtideref11_From.mono _ _ _ _ _ _
   | exact LeO.none _
   | refine LeO.ite ?_ ?_
   | refine LeO.bind ?_ (fun _ => ?_)
set_option maxHeartbeats 8000000 in
set_option maxRecDepth 100000 in
theorem ebbtideref11_Free.calls (k : Nat) (a0_0 : Int) (a0_1 : Bool) (A0_2 : Option Addr) (c0_2 : Nat) (l0_2 : List (S74)) (A1 : Option Addr) (c1 : Nat) (l1 : List Int) (r1 : Bool) (r2 : Int) (w : World) (hr0_2 : Kd.C k74 w A0_2 l0_2.length l0_2) (hc0_2 : l0_2.length ≤ c0_2) (hr1 : Kd.C (Kd.int .i64) w A1 l1.length l1) (hc1 : l1.length ≤ c1) (h : ebbtideref11_Free.f k a0_0 a0_1 l0_2 l1 = some (r1, r2)) :
  Calls Try.prog 52 #[.agg #[.int .i64 a0_0, .bool a0_1, .slice A0_2 l0_2.length c0_2], .slice A1 l1.length c1] w fun e w' => e = .returned (.tuple #[.bool r1, .int .i64 r2]) ∧ Below w.heap.size w w' := by
 have hu24 := Try.underlying24
 have hu66 := Try.underlying66
 have hfd66 : ∀ (A : Option Addr) (m c : Nat) (B : Option Addr) (n d : Nat) (b : Bool) (w : World), (Instr.field 66 (.agg #[.slice A m c, .slice B n d, .bool b]) 2).run Try.prog w = .ok (.bool b) w := fun _ _ _ _ _ _ _ _ => by kernel_rfl
 have HR0_2 := Aside0.mk hr0_2
 have HC0_2 := Aside0.mk hc0_2
 clear hr0_2 hc0_2
 have HR1 := Aside0.mk hr1
 have HC1 := Aside0.mk hc1
 clear hr1 hc1
 have HB := Aside0.mk (Below.refl w.heap.size w)
 have H : ((ebbtideref07_Asked.f k a0_0 a0_1 l0_2 l1).bind fun t220 => (if t220 = 0 then (ebbtideref11_Free.l0 k l1 0 a0_0 a0_1 l0_2) else (some (false, t220)))) = some (r1, r2) := h
 clear h
 replace H := Option.bind_eq_some_iff.mp H
 obtain ⟨t220, A30, H⟩ := H
 replace H : (if t220 = 0 then (ebbtideref11_Free.l0 k l1 0 a0_0 a0_1 l0_2) else (some (false, t220))) = some (r1, r2) := H
 have A3 := Aside0.mk A30
 clear A30
 by_cases c4 : t220 = 0
 rotate_left
 ·rw [if_neg c4] at H
  have c4b0 : (t220 == 0) = false := beq_eq_false_iff_ne.mpr c4
  have c4b1 : (t220 != 0) = true := bne_iff_ne.mpr c4
  simp only [Option.some.injEq, Prod.mk.injEq] at H
  obtain ⟨rfl, rfl⟩ := H
  go_enter Try.func52, Try.ntmps52
  go_wp2_with (first | ((with_reducible refine gate_dst (N := 2) rfl ?_); refine box_event ?hg (N := 2) ?hd (cs := #[.int .i64 a0_0, .bool a0_1, .slice A0_2 l0_2.length c0_2]) (t := 24) ?hr ?_; (case hd => rfl); (case hg => rfl); (case hr => first | (go_simp; done) | (go_simp; rfl)); intro gb219 hg w16 hbox hb; have n0_ := Aside0.mk (below_step HB.out hb); have n1_ := Aside0.mk (hbox); have n2_ := Aside0.mk ((by rw [hg]; exact (below_size HB.out) : w.heap.size ≤ gb219)); have n3_ := Aside0.mk ((by rw [hg]; exact (below_size HB.out) : w.heap.size ≤ gb219)); clear HB; have HB := n0_; have BK219 := n1_; have GW219 := n2_; have GE219 := n3_; clear n0_ n1_ n2_ n3_; clear hb hbox hg; have hcz17_0 : w16.cell? ⟨gb219, 0, none⟩ = some (.int .i64 a0_0) := (blk_cell BK219.out 0).trans rfl; have hcz17_1 : w16.cell? ⟨gb219, 1, none⟩ = some (.bool a0_1) := (blk_cell BK219.out 1).trans rfl; have hcz17_2 : w16.cell? ⟨gb219, 2, none⟩ = some (.slice A0_2 l0_2.length c0_2) := (blk_cell BK219.out 2).trans rfl; have hfz17_0 := blk_frozen BK219.out 0; have hfz17_1 := blk_frozen BK219.out 1; have hfz17_2 := blk_frozen BK219.out 2) | ((with_reducible refine gate_callee (f := 98) rfl ?_); refine goesL_ (some 10) rfl rfl Try.func98 (by kernel_rfl) rfl #[.agg #[.int .i64 a0_0, .bool a0_1, .slice A0_2 l0_2.length c0_2], .slice A1 l1.length c1] rfl (by (try simp only [List.map_toArray, List.map_cons, List.map_nil]); first | done | rfl | (simp only [List.length_drop, List.length_take]; rfl)) ?_; (with_reducible refine (ebbtideref07_Asked.calls k a0_0 a0_1 _ _ l0_2 _ _ l1 t220 _ ?side1 ?side2 ?side3 ?side4 A3.out).mono ?_); (case side1 => repeat (first | exact (Kd.C_below HR0_2.out HB.out) | (with_reducible refine Kd.C_alloc ?_ _) | (with_reducible refine Kd.C_drewN ?_ _) | (with_reducible refine Kd.C_drew ?_))); (case side2 => exact HC0_2.out); (case side3 => repeat (first | exact (Kd.C_below HR1.out HB.out) | (with_reducible refine Kd.C_alloc ?_ _) | (with_reducible refine Kd.C_drewN ?_ _) | (with_reducible refine Kd.C_drew ?_))); (case side4 => exact HC1.out); rintro e w18 ⟨rfl, hb⟩; refine ⟨_, rfl, ?_⟩; have n0_ := Aside0.mk (blk_below BK219.out hb); have n1_ := Aside0.mk (below_step HB.out hb); clear BK219; clear HB; have BK219 := n0_; have HB := n1_; clear n0_ n1_; (try clear hb); (try clear hb2); (try clear hk); (try clear hi)))
  go_ret2
  exact ⟨by first | rfl | (simp [errW_none, errW_some] <;> rfl) | (simp [*, errW_none, errW_some] <;> rfl), HB.out⟩

 rw [if_pos c4] at H
 have HASK := Aside0.mk (by have h_ := A3.out; rw [c4] at h_; exact h_ : ebbtideref07_Asked.f k a0_0 a0_1 l0_2 l1 = some 0)
 have c4b0 : (t220 == 0) = true := beq_iff_eq.mpr c4
 have c4b1 : (t220 != 0) = false := bne_eq_false_iff_eq.mpr c4
 clear c4
 have H' := Aside0.mk H
 clear H
 go_enter Try.func52, Try.ntmps52
 go_wp2_with (first | ((with_reducible refine gate_dst (N := 2) rfl ?_); refine box_event ?hg (N := 2) ?hd (cs := #[.int .i64 a0_0, .bool a0_1, .slice A0_2 l0_2.length c0_2]) (t := 24) ?hr ?_; (case hd => rfl); (case hg => rfl); (case hr => first | (go_simp; done) | (go_simp; rfl)); intro gb219 hg w5 hbox hb; have n0_ := Aside0.mk (below_step HB.out hb); have n1_ := Aside0.mk (hbox); have n2_ := Aside0.mk ((by rw [hg]; exact (below_size HB.out) : w.heap.size ≤ gb219)); have n3_ := Aside0.mk ((by rw [hg]; exact (below_size HB.out) : w.heap.size ≤ gb219)); clear HB; have HB := n0_; have BK219 := n1_; have GW219 := n2_; have GE219 := n3_; clear n0_ n1_ n2_ n3_; clear hb hbox hg; have hcz6_0 : w5.cell? ⟨gb219, 0, none⟩ = some (.int .i64 a0_0) := (blk_cell BK219.out 0).trans rfl; have hcz6_1 : w5.cell? ⟨gb219, 1, none⟩ = some (.bool a0_1) := (blk_cell BK219.out 1).trans rfl; have hcz6_2 : w5.cell? ⟨gb219, 2, none⟩ = some (.slice A0_2 l0_2.length c0_2) := (blk_cell BK219.out 2).trans rfl; have hfz6_0 := blk_frozen BK219.out 0; have hfz6_1 := blk_frozen BK219.out 1; have hfz6_2 := blk_frozen BK219.out 2) | ((with_reducible refine gate_callee (f := 98) rfl ?_); refine goesL_ (some 10) rfl rfl Try.func98 (by kernel_rfl) rfl #[.agg #[.int .i64 a0_0, .bool a0_1, .slice A0_2 l0_2.length c0_2], .slice A1 l1.length c1] rfl (by (try simp only [List.map_toArray, List.map_cons, List.map_nil]); first | done | rfl | (simp only [List.length_drop, List.length_take]; rfl)) ?_; (with_reducible refine (ebbtideref07_Asked.calls k a0_0 a0_1 _ _ l0_2 _ _ l1 t220 _ ?side1 ?side2 ?side3 ?side4 A3.out).mono ?_); (case side1 => repeat (first | exact (Kd.C_below HR0_2.out HB.out) | (with_reducible refine Kd.C_alloc ?_ _) | (with_reducible refine Kd.C_drewN ?_ _) | (with_reducible refine Kd.C_drew ?_))); (case side2 => exact HC0_2.out); (case side3 => repeat (first | exact (Kd.C_below HR1.out HB.out) | (with_reducible refine Kd.C_alloc ?_ _) | (with_reducible refine Kd.C_drewN ?_ _) | (with_reducible refine Kd.C_drew ?_))); (case side4 => exact HC1.out); rintro e w7 ⟨rfl, hb⟩; refine ⟨_, rfl, ?_⟩; have n0_ := Aside0.mk (blk_below BK219.out hb); have n1_ := Aside0.mk (below_step HB.out hb); clear BK219; clear HB; have BK219 := n0_; have HB := n1_; clear n0_ n1_; (try clear hb); (try clear hb2); (try clear hk); (try clear hi)))
 go_loopg [7] k (fun kq v7 w' => ∃ (x7_1 : Int), v7 = .int .i64 x7_1 ∧ Aside0 (ebbtideref11_Free.l0 kq l1 x7_1 a0_0 a0_1 l0_2 = some (r1, r2)) ∧ Aside0 (kq ≤ k) ∧ Aside0 (w'.heap[gb219]? = some (.cells #[.int .i64 a0_0, .bool a0_1, (.slice A0_2 l0_2.length c0_2)] 24 (0, 0))) ∧ Aside0 (Below w.heap.size w w'))
 case atStart => exact ⟨(0), (by first | rfl | (simp; done) | (simp [*]; done)), H', ⟨Nat.le_refl _⟩, ⟨BK219.out⟩, ⟨HB.out⟩⟩
 case round =>
  clear H'
  try clear c1
  try clear p2
  try clear c4
  try clear c4b0
  try clear c4b1
  try clear c5
  try clear hcz6_0
  try clear hcz6_1
  try clear hcz6_2
  try clear hfz6_0
  try clear hfz6_1
  try clear hfz6_2
  obtain ⟨x7_1, rfl, HA, HK1, BK219, HB⟩ := hrel
  cases gk with
  | zero => exact absurd HA.out (by simp [ebbtideref11_Free.l0])
  | succ k1 =>
   have H := HA.out
   clear HA
   simp only [ebbtideref11_Free.l0] at H
   by_cases c8 : x7_1 < a0_0
   rotate_left
   ·rw [if_neg c8] at H
    have c8b0 : decide (x7_1 < a0_0) = false := decide_eq_false c8
    clear c8
    simp only [Option.some.injEq, Prod.mk.injEq] at H
    obtain ⟨rfl, rfl⟩ := H
    have hcz15_0 : wr.cell? ⟨gb219, 0, none⟩ = some (.int .i64 a0_0) := (blk_cell BK219.out 0).trans rfl
    have hcz15_1 : wr.cell? ⟨gb219, 1, none⟩ = some (.bool a0_1) := (blk_cell BK219.out 1).trans rfl
    have hcz15_2 : wr.cell? ⟨gb219, 2, none⟩ = some (.slice A0_2 l0_2.length c0_2) := (blk_cell BK219.out 2).trans rfl
    have hfz15_0 := blk_frozen BK219.out 0
    have hfz15_1 := blk_frozen BK219.out 1
    have hfz15_2 := blk_frozen BK219.out 2
    go_wp2
    go_ret2
    exact ⟨by first | rfl | (simp [errW_none, errW_some] <;> rfl) | (simp [*, errW_none, errW_some] <;> rfl), HB.out⟩
   rw [if_pos c8] at H
   have c8b0 : decide (x7_1 < a0_0) = true := decide_eq_true c8
   clear c8
   replace H := Option.bind_eq_some_iff.mp H
   obtain ⟨⟨t221, t224, t227⟩, A90, H⟩ := H
   replace H : (if t227 = true then (ebbtideref11_Free.l0 k1 l1 (wrap64 (x7_1 + 1)) a0_0 a0_1 l0_2) else (some (false, 0))) = some (r1, r2) := H
   have A9 := Aside0.mk A90
   clear A90
   by_cases c10 : t227 = true
   rotate_left
   ·replace c10 := Bool.eq_false_iff.mpr c10
    subst c10
    have H1 : (some (false, 0)) = some (r1, r2) := by rw [if_neg (show ¬ (false = true) by decide)] at H; exact H
    clear H
    have H := H1
    clear H1
    simp only [Option.some.injEq, Prod.mk.injEq] at H
    obtain ⟨rfl, rfl⟩ := H
    have hcz13_0 : wr.cell? ⟨gb219, 0, none⟩ = some (.int .i64 a0_0) := (blk_cell BK219.out 0).trans rfl
    have hcz13_1 : wr.cell? ⟨gb219, 1, none⟩ = some (.bool a0_1) := (blk_cell BK219.out 1).trans rfl
    have hcz13_2 : wr.cell? ⟨gb219, 2, none⟩ = some (.slice A0_2 l0_2.length c0_2) := (blk_cell BK219.out 2).trans rfl
    have hfz13_0 := blk_frozen BK219.out 0
    have hfz13_1 := blk_frozen BK219.out 1
    have hfz13_2 := blk_frozen BK219.out 2
    go_wp2_with (first | ((with_reducible refine gate_callee (f := 71) rfl ?_); refine goesL_ (some 23) rfl rfl Try.func71 (by kernel_rfl) rfl #[.agg #[.int .i64 a0_0, .bool a0_1, .slice A0_2 l0_2.length c0_2], .slice A1 l1.length c1, .int .i64 x7_1] rfl (by (try simp only [List.map_toArray, List.map_cons, List.map_nil]); first | done | rfl | (simp only [List.length_drop, List.length_take]; rfl)) ?_; (with_reducible refine (Go.Proofs.Ytkcpanpdipmmmaa.H.refFrom_calls k1 a0_0 a0_1 _ _ l0_2 _ _ l1 x7_1 t221 t224 false _ ?side1 ?side2 ?side3 ?side4 A9.out HASK.out).mono ?_); (case side1 => repeat (first | exact (Kd.C_below HR0_2.out HB.out) | (with_reducible refine Kd.C_alloc ?_ _) | (with_reducible refine Kd.C_drewN ?_ _) | (with_reducible refine Kd.C_drew ?_))); (case side2 => exact HC0_2.out); (case side3 => repeat (first | exact (Kd.C_below HR1.out HB.out) | (with_reducible refine Kd.C_alloc ?_ _) | (with_reducible refine Kd.C_drewN ?_ _) | (with_reducible refine Kd.C_drew ?_))); (case side4 => exact HC1.out); rintro e w14 ⟨v222, v225, rfl, ho0, ho1, hb⟩; obtain ⟨AA_, cc_, ee_⟩ := Kd.R_slice ho0; subst ee_; obtain ⟨AB_, cb_, eb_⟩ := Kd.R_slice ho1; subst eb_; refine ⟨_, rfl, ?_⟩; have n0_ := Aside0.mk (Kd.R_lower ho0 (below_size HB.out)); have n1_ := Aside0.mk (Kd.R_lower ho1 (below_size HB.out)); have n2_ := Aside0.mk (blk_below BK219.out hb); have n3_ := Aside0.mk (below_step HB.out hb); clear BK219; clear HB; have HO223 := n0_; have HO226 := n1_; have BK219 := n2_; have HB := n3_; clear n0_ n1_ n2_ n3_; (try clear hb); (try clear hb2); (try clear hk); (try clear hi); (try clear ho0); (try clear ho1)))
    go_ret2
    exact ⟨by first | rfl | (simp [errW_none, errW_some] <;> rfl) | (simp [*, errW_none, errW_some] <;> rfl), HB.out⟩
   subst c10
   have H1 : (ebbtideref11_Free.l0 k1 l1 (wrap64 (x7_1 + 1)) a0_0 a0_1 l0_2) = some (r1, r2) := by rw [if_pos rfl] at H; exact H
   clear H
   have H := H1
   clear H1
   have H' := Aside0.mk H
   clear H
   have hcz11_0 : wr.cell? ⟨gb219, 0, none⟩ = some (.int .i64 a0_0) := (blk_cell BK219.out 0).trans rfl
   have hcz11_1 : wr.cell? ⟨gb219, 1, none⟩ = some (.bool a0_1) := (blk_cell BK219.out 1).trans rfl
   have hcz11_2 : wr.cell? ⟨gb219, 2, none⟩ = some (.slice A0_2 l0_2.length c0_2) := (blk_cell BK219.out 2).trans rfl
   have hfz11_0 := blk_frozen BK219.out 0
   have hfz11_1 := blk_frozen BK219.out 1
   have hfz11_2 := blk_frozen BK219.out 2
   go_wp2_with (first | ((with_reducible refine gate_callee (f := 71) rfl ?_); refine goesL_ (some 23) rfl rfl Try.func71 (by kernel_rfl) rfl #[.agg #[.int .i64 a0_0, .bool a0_1, .slice A0_2 l0_2.length c0_2], .slice A1 l1.length c1, .int .i64 x7_1] rfl (by (try simp only [List.map_toArray, List.map_cons, List.map_nil]); first | done | rfl | (simp only [List.length_drop, List.length_take]; rfl)) ?_; (with_reducible refine (Go.Proofs.Ytkcpanpdipmmmaa.H.refFrom_calls k1 a0_0 a0_1 _ _ l0_2 _ _ l1 x7_1 t221 t224 true _ ?side1 ?side2 ?side3 ?side4 A9.out HASK.out).mono ?_); (case side1 => repeat (first | exact (Kd.C_below HR0_2.out HB.out) | (with_reducible refine Kd.C_alloc ?_ _) | (with_reducible refine Kd.C_drewN ?_ _) | (with_reducible refine Kd.C_drew ?_))); (case side2 => exact HC0_2.out); (case side3 => repeat (first | exact (Kd.C_below HR1.out HB.out) | (with_reducible refine Kd.C_alloc ?_ _) | (with_reducible refine Kd.C_drewN ?_ _) | (with_reducible refine Kd.C_drew ?_))); (case side4 => exact HC1.out); rintro e w12 ⟨v222, v225, rfl, ho0, ho1, hb⟩; obtain ⟨AA_, cc_, ee_⟩ := Kd.R_slice ho0; subst ee_; obtain ⟨AB_, cb_, eb_⟩ := Kd.R_slice ho1; subst eb_; refine ⟨_, rfl, ?_⟩; have n0_ := Aside0.mk (Kd.R_lower ho0 (below_size HB.out)); have n1_ := Aside0.mk (Kd.R_lower ho1 (below_size HB.out)); have n2_ := Aside0.mk (blk_below BK219.out hb); have n3_ := Aside0.mk (below_step HB.out hb); clear BK219; clear HB; have HO223 := n0_; have HO226 := n1_; have BK219 := n2_; have HB := n3_; clear n0_ n1_ n2_ n3_; (try clear hb); (try clear hb2); (try clear hk); (try clear hi); (try clear ho0); (try clear ho1)))
   go_roundg k1
   case measure => have := HK1.out; omega
   case rel => exact ⟨(wrap64 (x7_1 + 1)), (by first | rfl | (simp; done) | (simp [*]; done)), H', ⟨by have := HK1.out; omega⟩, ⟨BK219.out⟩, ⟨HB.out⟩⟩
end Go.Proofs.Ytkcpanpdipmmmaa.P
/- cost.Free answers as the document's Free. -/
namespace Go.Proofs.Ytkcpanpdipmmmaa.H
open Go.RowKit Go.Proofs.YtkcpanpdipmmmaaW.PrintWords Go.Proofs.YtkcpanpdipmmmaaW.PrintLast Go.Proofs.YtkcpanpdipmmmaaW.PrintMore Go.Proofs.Ytkcpanpdipmmmaa.P Go.Proofs.Ytkcpanpdipmmmaa.Q
def freeB (l : List S74) (F : List Int) (n : Nat) : Bool := (List.range n).all fun v => (refF l F n v).OK
theorem freeB_iff (l : List S74) (F : List Int) (n : Nat) : freeB l F n = true ↔ ∀ v, v < n → (refF l F n v).OK = true := by
 unfold freeB
 rw [List.all_eq_true]
 exact ⟨fun h v hv => h v (List.mem_range.2 hv), fun h v hv => h v (List.mem_range.1 hv)⟩
def freeRes (n : Int) (l : List S74) (F : List Int) : Bool × Int := if askErr n l F = 0 then (freeB l F n.toNat, 0) else (false, askErr n l F)
theorem free_l0 {l : List S74} {F : List Int} {n : Nat} (hr : Right l F n) (b : Bool) (d : Nat) : ∀ v : Nat, v + d = n → (∀ u, u < v → (refF l F n u).OK = true) →
  Ev (fun k => ebbtideref11_Free.l0 k F (v : Int) n b l) (freeB l F n, 0) := by
 have hn := hr.fifty
 induction d with
 | zero =>
  intro v hv hu
  refine Ev.succ ?_; simp only [ebbtideref11_Free.l0]
  refine Ev.neg (by omega) ?_
  exact Ev.done (by rw [(freeB_iff l F n).2 (fun u h => hu u (by omega))])
 | succ d ih =>
  intro v hv hu
  refine Ev.succ ?_; simp only [ebbtideref11_Free.l0]
  refine Ev.pos (by omega) ?_
  refine Ev.bind (from_ev hr b v (by omega)) ?_
  rw [wrap_succ (n := 51) (by omega) (by omega)]
  refine Ev.ite (fun g => ?_) (fun g => ?_)
  ·exact ih (v + 1) (by omega) (fun u h => by
    by_cases e : u < v
    ·exact hu u e
    ·have : u = v := by omega
     subst this
     exact g)
  ·refine Ev.done ?_
   have : freeB l F n = false := by
    cases h : freeB l F n with
    | false => rfl
    | true => exact absurd ((freeB_iff l F n).1 h v (by omega)) g
   rw [this]
theorem free_ev (n : Int) (b : Bool) (l : List S74) (F : List Int) : Ev (fun k => ebbtideref11_Free.f k n b l F) (freeRes n l F) := by
 unfold ebbtideref11_Free.f freeRes
 refine Ev.bind (ref_asked_ev n b l F) ?_
 refine Ev.ite (fun h => ?_) (fun h => ?_)
 ·rw [if_pos h]
  obtain ⟨n0, rfl, hr⟩ := right_of h
  rw [Int.toNat_natCast]
  exact free_l0 hr b n0 0 (by omega) (fun u hu => absurd hu (Nat.not_lt_zero _))
 ·rw [if_neg h]
  exact Ev.now _
theorem cost_Free_calls (k : Nat) (a0_0 : Int) (a0_1 : Bool) (A0_2 : Option Addr) (c0_2 : Nat) (l0_2 : List S74) (A1 : Option Addr) (c1 : Nat) (l1 : List Int) (r1 : Bool) (r2 : Int) (w : World) (hr0_2 : Kd.C k74 w A0_2 l0_2.length l0_2) (hc0_2 : l0_2.length ≤ c0_2) (hr1 : Kd.C (Kd.int .i64) w A1 l1.length l1) (hc1 : l1.length ≤ c1) (h : ebbtideref11_Free.f k a0_0 a0_1 l0_2 l1 = some (r1, r2)) :
  Calls Try.prog 47 #[.agg #[.int .i64 a0_0, .bool a0_1, .slice A0_2 l0_2.length c0_2], .slice A1 l1.length c1] w fun e w' => e = .returned (.tuple #[.bool r1, .int .i64 r2]) ∧ Below w.heap.size w w' := by
 have hres := Ev.uniq (Ev.of (fun k => ebbtideref11_Free.mono _ _ _ _ k) h) (free_ev a0_0 a0_1 l0_2 l1)
 obtain ⟨K, hK⟩ := asked_ev a0_0 a0_1 l0_2 l1
 have hA := hK K (Nat.le_refl _)
 unfold freeRes at hres
 by_cases h0 : askErr a0_0 l0_2 l1 = 0
 ·rw [if_pos h0] at hres
  rw [h0] at hA
  obtain ⟨n0, rfl, hr⟩ := right_of h0
  rw [Int.toNat_natCast] at hres
  injection hres with q1 q2
  refine (free_ok K n0 a0_1 A0_2 c0_2 l0_2 A1 c1 l1 w hr hr0_2 hc0_2 hr1 hc1 hA).mono ?_
  rintro e w' ⟨rfl, hb⟩
  refine ⟨?_, hb⟩
  have e : (goesR l0_2 l1 n0 (n0 + 1) (allR n0)).2 = freeB l0_2 l1 n0 := by
   rw [Bool.eq_iff_iff, freeB_iff]
   exact free_same hr
  rw [e, q1, q2]
 ·rw [if_neg h0] at hres
  injection hres with q1 q2
  refine (free_no K a0_0 a0_1 A0_2 c0_2 l0_2 A1 c1 l1 _ w hr0_2 hc0_2 hr1 hc1 hA h0).mono ?_
  rintro e w' ⟨rfl, hb⟩
  exact ⟨by rw [q1, q2], hb⟩
end Go.Proofs.Ytkcpanpdipmmmaa.H
namespace Go.Proofs.Ytkcpanpdipmmmaa.P
open Go.RowKit Go.Proofs.YtkcpanpdipmmmaaW.PrintWords Go.Proofs.YtkcpanpdipmmmaaW.PrintLast Go.Proofs.YtkcpanpdipmmmaaW.PrintMore
attribute [local go_sem] max2_int min2_int max_two min_two max_three min_three max_four min_four

/-! ### cost_Free: function 47 -/
def cost_Free.f (k : Nat) (a0_0 : Int) (a0_1 : Bool) (l0_2 : List (S74)) (l1 : List Int) : Option (Bool × Int) := ebbtideref11_Free.f k a0_0 a0_1 l0_2 l1
theorem cost_Free.mono : ∀ a0 a1 a2 a3 k, LeO (cost_Free.f k a0 a1 a2 a3) (cost_Free.f (k + 1) a0 a1 a2 a3) := ebbtideref11_Free.mono
theorem cost_Free.calls (k : Nat) (a0_0 : Int) (a0_1 : Bool) (A0_2 : Option Addr) (c0_2 : Nat) (l0_2 : List (S74)) (A1 : Option Addr) (c1 : Nat) (l1 : List Int) (r1 : Bool) (r2 : Int) (w : World) (hr0_2 : Kd.C k74 w A0_2 l0_2.length l0_2) (hc0_2 : l0_2.length ≤ c0_2) (hr1 : Kd.C (Kd.int .i64) w A1 l1.length l1) (hc1 : l1.length ≤ c1) (h : cost_Free.f k a0_0 a0_1 l0_2 l1 = some (r1, r2)) :
  Calls Try.prog 47 #[.agg #[.int .i64 a0_0, .bool a0_1, .slice A0_2 l0_2.length c0_2], .slice A1 l1.length c1] w fun e w' => e = .returned (.tuple #[.bool r1, .int .i64 r2]) ∧ Below w.heap.size w w' := H.cost_Free_calls k a0_0 a0_1 A0_2 c0_2 l0_2 A1 c1 l1 r1 r2 w hr0_2 hc0_2 hr1 hc1 h

end Go.Proofs.Ytkcpanpdipmmmaa.P
namespace Go.Proofs.Ytkcpanpdipmmmaa.P
open Go.RowKit Go.Proofs.YtkcpanpdipmmmaaW.PrintWords Go.Proofs.YtkcpanpdipmmmaaW.PrintLast Go.Proofs.YtkcpanpdipmmmaaW.PrintMore
attribute [local go_sem] max2_int min2_int max_two min_two max_three min_three max_four min_four

/-! ### ebbtidelaw11_awake: function 40 -/
def ebbtidelaw11_awake.f (k : Nat)  : Option (Bool) := (some (([(⟨0, 1, 1, 4⟩ : S74), (⟨1, 2, 1, 1⟩ : S74), (⟨0, 2, 1, 7⟩ : S74)] : List (S74)) : List (S74))).bind fun y237 => ((cost_Far.f k 3 false y237 (([0, 0, 0] : List Int)) 0).bind fun bt244 => ((cost_Far.f k 3 false y237 (([0, 0, 1] : List Int)) 2).bind fun bt254 => ((cost_Free.f k 3 false y237 (([0, 0, 0] : List Int))).bind fun bt264 => ((cost_Free.f k 3 false y237 (([0, 0, 1] : List Int))).bind fun bt269 => (if bt244.2.2 = 0 then (if bt254.2.2 = 110 then (if bt264.2 = 0 then (if bt269.2 = 0 then (if bt264.1 = true then (if bt269.1 = true then (some false) else ((ebbtideref03_SameInts.f k bt244.1 (([0, 4, 5] : List Int))).bind fun t274 => (if t274 = true then ((ebbtideref10_Same.f k bt244.2.1 (([true, true, true] : List Bool))).bind fun t278 => (some t278)) else (some false)))) else (some false)) else (some false)) else (some false)) else (some false)) else (some false))))))
theorem ebbtidelaw11_awake.mono : ∀ k, LeO (ebbtidelaw11_awake.f k ) (ebbtidelaw11_awake.f (k + 1) ) := by
 intro  k
 unfold ebbtidelaw11_awake.f
 repeat' first
   | (with_reducible exact cost_Far.mono _ _ _ _ _ _)
   | (with_reducible exact cost_Free.mono _ _ _ _ _)
   | (with_reducible exact ebbtideref03_SameInts.mono _ _ _)
   | (with_reducible exact ebbtideref10_Same.mono _ _ _)
   | (with_reducible exact LeO.refl _)
   | (with_reducible exact LeO.none _)
   | (with_reducible refine LeO.ite ?_ ?_)
   | (with_reducible refine LeO.bind ?_ (fun _ => ?_))
   | exact cost_Far.mono _ _ _ _ _ _
   | exact cost_Free.mono _ _ _ _ _
   | exact ebbtideref03_SameInts.mono _ _ _
   | exact ebbtideref10_Same.mono _ _ _
   | exact LeO.none _
   | refine LeO.ite ?_ ?_
   | refine LeO.bind ?_ (fun _ => ?_)
set_option maxHeartbeats 8000000 in
set_option maxRecDepth 100000 in
theorem ebbtidelaw11_awake.calls (k : Nat)  (r : Bool) (w : World) (h : ebbtidelaw11_awake.f k  = some r) (hrT_ : r = true := by first | rfl | exact Aside0.out (by assumption)) :
  Calls Try.prog 40 #[] w fun e w' => e = .returned (.bool r) ∧ Below w.heap.size w w' := by
 have HRT := Aside0.mk hrT_
 clear hrT_
 have hu74 := Try.underlying74
 have hu24 := Try.underlying24
 have HB := Aside0.mk (Below.refl w.heap.size w)
 have H : ((some (([(⟨0, 1, 1, 4⟩ : S74), (⟨1, 2, 1, 1⟩ : S74), (⟨0, 2, 1, 7⟩ : S74)] : List (S74)) : List (S74))).bind fun y237 => ((cost_Far.f k 3 false y237 (([0, 0, 0] : List Int)) 0).bind fun bt244 => ((cost_Far.f k 3 false y237 (([0, 0, 1] : List Int)) 2).bind fun bt254 => ((cost_Free.f k 3 false y237 (([0, 0, 0] : List Int))).bind fun bt264 => ((cost_Free.f k 3 false y237 (([0, 0, 1] : List Int))).bind fun bt269 => (if bt244.2.2 = 0 then (if bt254.2.2 = 110 then (if bt264.2 = 0 then (if bt269.2 = 0 then (if bt264.1 = true then (if bt269.1 = true then (some false) else ((ebbtideref03_SameInts.f k bt244.1 (([0, 4, 5] : List Int))).bind fun t274 => (if t274 = true then ((ebbtideref10_Same.f k bt244.2.1 (([true, true, true] : List Bool))).bind fun t278 => (some t278)) else (some false)))) else (some false)) else (some false)) else (some false)) else (some false)) else (some false))))))) = some r := h
 clear h
 obtain ⟨y237, hy237⟩ : ∃ y_ : List (S74), y_ = (([(⟨0, 1, 1, 4⟩ : S74), (⟨1, 2, 1, 1⟩ : S74), (⟨0, 2, 1, 7⟩ : S74)] : List (S74))) := ⟨_, rfl⟩
 replace H : ((cost_Far.f k 3 false y237 (([0, 0, 0] : List Int)) 0).bind fun bt244 => ((cost_Far.f k 3 false y237 (([0, 0, 1] : List Int)) 2).bind fun bt254 => ((cost_Free.f k 3 false y237 (([0, 0, 0] : List Int))).bind fun bt264 => ((cost_Free.f k 3 false y237 (([0, 0, 1] : List Int))).bind fun bt269 => (if bt244.2.2 = 0 then (if bt254.2.2 = 110 then (if bt264.2 = 0 then (if bt269.2 = 0 then (if bt264.1 = true then (if bt269.1 = true then (some false) else ((ebbtideref03_SameInts.f k bt244.1 (([0, 4, 5] : List Int))).bind fun t274 => (if t274 = true then ((ebbtideref10_Same.f k bt244.2.1 (([true, true, true] : List Bool))).bind fun t278 => (some t278)) else (some false)))) else (some false)) else (some false)) else (some false)) else (some false)) else (some false)))))) = some r := by first | (rw [hy237]; with_reducible exact H) | (have H2_ := (Option.bind_some _ _).symm.trans H; rw [hy237]; with_reducible exact H2_) | (have H2_ := (Option.bind_some _ _).symm.trans H; with_reducible exact H2_) | with_reducible exact H | (rw [hy237]; exact H) | exact H
 have Ny237 := Aside0.mk hy237
 clear hy237
 obtain ⟨y241, hy241⟩ : ∃ y_ : List Int, y_ = (([0, 0, 0] : List Int)) := ⟨_, rfl⟩
 replace H : ((cost_Far.f k 3 false y237 y241 0).bind fun bt244 => ((cost_Far.f k 3 false y237 (([0, 0, 1] : List Int)) 2).bind fun bt254 => ((cost_Free.f k 3 false y237 (([0, 0, 0] : List Int))).bind fun bt264 => ((cost_Free.f k 3 false y237 (([0, 0, 1] : List Int))).bind fun bt269 => (if bt244.2.2 = 0 then (if bt254.2.2 = 110 then (if bt264.2 = 0 then (if bt269.2 = 0 then (if bt264.1 = true then (if bt269.1 = true then (some false) else ((ebbtideref03_SameInts.f k bt244.1 (([0, 4, 5] : List Int))).bind fun t274 => (if t274 = true then ((ebbtideref10_Same.f k bt244.2.1 (([true, true, true] : List Bool))).bind fun t278 => (some t278)) else (some false)))) else (some false)) else (some false)) else (some false)) else (some false)) else (some false)))))) = some r := by first | (rw [hy241]; with_reducible exact H) | (have H2_ := (Option.bind_some _ _).symm.trans H; rw [hy241]; with_reducible exact H2_) | (have H2_ := (Option.bind_some _ _).symm.trans H; with_reducible exact H2_) | with_reducible exact H | (rw [hy241]; exact H) | exact H
 have Ny241 := Aside0.mk hy241
 clear hy241
 replace H := Option.bind_eq_some_iff.mp H
 obtain ⟨⟨t244, t247, t250⟩, A10, H⟩ := H
 replace H : ((cost_Far.f k 3 false y237 (([0, 0, 1] : List Int)) 2).bind fun bt254 => ((cost_Free.f k 3 false y237 (([0, 0, 0] : List Int))).bind fun bt264 => ((cost_Free.f k 3 false y237 (([0, 0, 1] : List Int))).bind fun bt269 => (if t250 = 0 then (if bt254.2.2 = 110 then (if bt264.2 = 0 then (if bt269.2 = 0 then (if bt264.1 = true then (if bt269.1 = true then (some false) else ((ebbtideref03_SameInts.f k t244 (([0, 4, 5] : List Int))).bind fun t274 => (if t274 = true then ((ebbtideref10_Same.f k t247 (([true, true, true] : List Bool))).bind fun t278 => (some t278)) else (some false)))) else (some false)) else (some false)) else (some false)) else (some false)) else (some false))))) = some r := H
 have A1 := Aside0.mk A10
 clear A10
 obtain ⟨y251, hy251⟩ : ∃ y_ : List Int, y_ = (([0, 0, 1] : List Int)) := ⟨_, rfl⟩
 replace H : ((cost_Far.f k 3 false y237 y251 2).bind fun bt254 => ((cost_Free.f k 3 false y237 (([0, 0, 0] : List Int))).bind fun bt264 => ((cost_Free.f k 3 false y237 (([0, 0, 1] : List Int))).bind fun bt269 => (if t250 = 0 then (if bt254.2.2 = 110 then (if bt264.2 = 0 then (if bt269.2 = 0 then (if bt264.1 = true then (if bt269.1 = true then (some false) else ((ebbtideref03_SameInts.f k t244 (([0, 4, 5] : List Int))).bind fun t274 => (if t274 = true then ((ebbtideref10_Same.f k t247 (([true, true, true] : List Bool))).bind fun t278 => (some t278)) else (some false)))) else (some false)) else (some false)) else (some false)) else (some false)) else (some false))))) = some r := by first | (rw [hy251]; with_reducible exact H) | (have H2_ := (Option.bind_some _ _).symm.trans H; rw [hy251]; with_reducible exact H2_) | (have H2_ := (Option.bind_some _ _).symm.trans H; with_reducible exact H2_) | with_reducible exact H | (rw [hy251]; exact H) | exact H
 have Ny251 := Aside0.mk hy251
 clear hy251
 replace H := Option.bind_eq_some_iff.mp H
 obtain ⟨⟨t254, t257, t260⟩, A20, H⟩ := H
 replace H : ((cost_Free.f k 3 false y237 (([0, 0, 0] : List Int))).bind fun bt264 => ((cost_Free.f k 3 false y237 (([0, 0, 1] : List Int))).bind fun bt269 => (if t250 = 0 then (if t260 = 110 then (if bt264.2 = 0 then (if bt269.2 = 0 then (if bt264.1 = true then (if bt269.1 = true then (some false) else ((ebbtideref03_SameInts.f k t244 (([0, 4, 5] : List Int))).bind fun t274 => (if t274 = true then ((ebbtideref10_Same.f k t247 (([true, true, true] : List Bool))).bind fun t278 => (some t278)) else (some false)))) else (some false)) else (some false)) else (some false)) else (some false)) else (some false)))) = some r := H
 have A2 := Aside0.mk A20
 clear A20
 obtain ⟨y261, hy261⟩ : ∃ y_ : List Int, y_ = (([0, 0, 0] : List Int)) := ⟨_, rfl⟩
 replace H : ((cost_Free.f k 3 false y237 y261).bind fun bt264 => ((cost_Free.f k 3 false y237 (([0, 0, 1] : List Int))).bind fun bt269 => (if t250 = 0 then (if t260 = 110 then (if bt264.2 = 0 then (if bt269.2 = 0 then (if bt264.1 = true then (if bt269.1 = true then (some false) else ((ebbtideref03_SameInts.f k t244 (([0, 4, 5] : List Int))).bind fun t274 => (if t274 = true then ((ebbtideref10_Same.f k t247 (([true, true, true] : List Bool))).bind fun t278 => (some t278)) else (some false)))) else (some false)) else (some false)) else (some false)) else (some false)) else (some false)))) = some r := by first | (rw [hy261]; with_reducible exact H) | (have H2_ := (Option.bind_some _ _).symm.trans H; rw [hy261]; with_reducible exact H2_) | (have H2_ := (Option.bind_some _ _).symm.trans H; with_reducible exact H2_) | with_reducible exact H | (rw [hy261]; exact H) | exact H
 have Ny261 := Aside0.mk hy261
 clear hy261
 replace H := Option.bind_eq_some_iff.mp H
 obtain ⟨⟨t264, t265⟩, A30, H⟩ := H
 replace H : ((cost_Free.f k 3 false y237 (([0, 0, 1] : List Int))).bind fun bt269 => (if t250 = 0 then (if t260 = 110 then (if t265 = 0 then (if bt269.2 = 0 then (if t264 = true then (if bt269.1 = true then (some false) else ((ebbtideref03_SameInts.f k t244 (([0, 4, 5] : List Int))).bind fun t274 => (if t274 = true then ((ebbtideref10_Same.f k t247 (([true, true, true] : List Bool))).bind fun t278 => (some t278)) else (some false)))) else (some false)) else (some false)) else (some false)) else (some false)) else (some false))) = some r := H
 have A3 := Aside0.mk A30
 clear A30
 obtain ⟨y266, hy266⟩ : ∃ y_ : List Int, y_ = (([0, 0, 1] : List Int)) := ⟨_, rfl⟩
 replace H : ((cost_Free.f k 3 false y237 y266).bind fun bt269 => (if t250 = 0 then (if t260 = 110 then (if t265 = 0 then (if bt269.2 = 0 then (if t264 = true then (if bt269.1 = true then (some false) else ((ebbtideref03_SameInts.f k t244 (([0, 4, 5] : List Int))).bind fun t274 => (if t274 = true then ((ebbtideref10_Same.f k t247 (([true, true, true] : List Bool))).bind fun t278 => (some t278)) else (some false)))) else (some false)) else (some false)) else (some false)) else (some false)) else (some false))) = some r := by first | (rw [hy266]; with_reducible exact H) | (have H2_ := (Option.bind_some _ _).symm.trans H; rw [hy266]; with_reducible exact H2_) | (have H2_ := (Option.bind_some _ _).symm.trans H; with_reducible exact H2_) | with_reducible exact H | (rw [hy266]; exact H) | exact H
 have Ny266 := Aside0.mk hy266
 clear hy266
 replace H := Option.bind_eq_some_iff.mp H
 obtain ⟨⟨t269, t270⟩, A40, H⟩ := H
 replace H : (if t250 = 0 then (if t260 = 110 then (if t265 = 0 then (if t270 = 0 then (if t264 = true then (if t269 = true then (some false) else ((ebbtideref03_SameInts.f k t244 (([0, 4, 5] : List Int))).bind fun t274 => (if t274 = true then ((ebbtideref10_Same.f k t247 (([true, true, true] : List Bool))).bind fun t278 => (some t278)) else (some false)))) else (some false)) else (some false)) else (some false)) else (some false)) else (some false)) = some r := H
 have A4 := Aside0.mk A40
 clear A40
 by_cases c5 : t250 = 0
 rotate_left
 ·rw [if_neg c5] at H
  exact absurd (Option.some.inj H) (by rw [HRT.out]; decide)
 rw [if_pos c5] at H
 have c5b0 : (t250 == 0) = true := beq_iff_eq.mpr c5
 have c5b1 : (t250 != 0) = false := bne_eq_false_iff_eq.mpr c5
 clear c5
 by_cases c6 : t260 = 110
 rotate_left
 ·rw [if_neg c6] at H
  exact absurd (Option.some.inj H) (by rw [HRT.out]; decide)
 rw [if_pos c6] at H
 have c6b0 : (t260 == 110) = true := beq_iff_eq.mpr c6
 have c6b1 : (t260 != 110) = false := bne_eq_false_iff_eq.mpr c6
 clear c6
 by_cases c7 : t265 = 0
 rotate_left
 ·rw [if_neg c7] at H
  exact absurd (Option.some.inj H) (by rw [HRT.out]; decide)
 rw [if_pos c7] at H
 have c7b0 : (t265 == 0) = true := beq_iff_eq.mpr c7
 have c7b1 : (t265 != 0) = false := bne_eq_false_iff_eq.mpr c7
 clear c7
 by_cases c8 : t270 = 0
 rotate_left
 ·rw [if_neg c8] at H
  exact absurd (Option.some.inj H) (by rw [HRT.out]; decide)
 rw [if_pos c8] at H
 have c8b0 : (t270 == 0) = true := beq_iff_eq.mpr c8
 have c8b1 : (t270 != 0) = false := bne_eq_false_iff_eq.mpr c8
 clear c8
 by_cases c9 : t264 = true
 rotate_left
 ·replace c9 := Bool.eq_false_iff.mpr c9
  subst c9
  have H1 : (some false) = some r := by rw [if_neg (show ¬ (false = true) by decide)] at H; exact H
  exact absurd (Option.some.inj H1) (by rw [HRT.out]; decide)
 subst c9
 have H1 : (if t269 = true then (some false) else ((ebbtideref03_SameInts.f k t244 (([0, 4, 5] : List Int))).bind fun t274 => (if t274 = true then ((ebbtideref10_Same.f k t247 (([true, true, true] : List Bool))).bind fun t278 => (some t278)) else (some false)))) = some r := by rw [if_pos rfl] at H; exact H
 clear H
 have H := H1
 clear H1
 by_cases c10 : t269 = true
 ·subst c10
  have H1 : (some false) = some r := by rw [if_pos rfl] at H; exact H
  exact absurd (Option.some.inj H1) (by rw [HRT.out]; decide)
 replace c10 := Bool.eq_false_iff.mpr c10
 subst c10
 have H1 : ((ebbtideref03_SameInts.f k t244 (([0, 4, 5] : List Int))).bind fun t274 => (if t274 = true then ((ebbtideref10_Same.f k t247 (([true, true, true] : List Bool))).bind fun t278 => (some t278)) else (some false))) = some r := by rw [if_neg (show ¬ (false = true) by decide)] at H; exact H
 clear H
 have H := H1
 clear H1
 obtain ⟨y271, hy271⟩ : ∃ y_ : List Int, y_ = (([0, 4, 5] : List Int)) := ⟨_, rfl⟩
 replace H : ((ebbtideref03_SameInts.f k t244 y271).bind fun t274 => (if t274 = true then ((ebbtideref10_Same.f k t247 (([true, true, true] : List Bool))).bind fun t278 => (some t278)) else (some false))) = some r := by first | (rw [hy271]; with_reducible exact H) | (have H2_ := (Option.bind_some _ _).symm.trans H; rw [hy271]; with_reducible exact H2_) | (have H2_ := (Option.bind_some _ _).symm.trans H; with_reducible exact H2_) | with_reducible exact H | (rw [hy271]; exact H) | exact H
 have Ny271 := Aside0.mk hy271
 clear hy271
 replace H := Option.bind_eq_some_iff.mp H
 obtain ⟨t274, A350, H⟩ := H
 replace H : (if t274 = true then ((ebbtideref10_Same.f k t247 (([true, true, true] : List Bool))).bind fun t278 => (some t278)) else (some false)) = some r := H
 have A35 := Aside0.mk A350
 clear A350
 by_cases c36 : t274 = true
 rotate_left
 ·replace c36 := Bool.eq_false_iff.mpr c36
  subst c36
  have H1 : (some false) = some r := by rw [if_neg (show ¬ (false = true) by decide)] at H; exact H
  exact absurd (Option.some.inj H1) (by rw [HRT.out]; decide)
 subst c36
 have H1 : ((ebbtideref10_Same.f k t247 (([true, true, true] : List Bool))).bind fun t278 => (some t278)) = some r := by rw [if_pos rfl] at H; exact H
 clear H
 have H := H1
 clear H1
 obtain ⟨y275, hy275⟩ : ∃ y_ : List Bool, y_ = (([true, true, true] : List Bool)) := ⟨_, rfl⟩
 replace H : ((ebbtideref10_Same.f k t247 y275).bind fun t278 => (some t278)) = some r := by first | (rw [hy275]; with_reducible exact H) | (have H2_ := (Option.bind_some _ _).symm.trans H; rw [hy275]; with_reducible exact H2_) | (have H2_ := (Option.bind_some _ _).symm.trans H; with_reducible exact H2_) | with_reducible exact H | (rw [hy275]; exact H) | exact H
 have Ny275 := Aside0.mk hy275
 clear hy275
 replace H := Option.bind_eq_some_iff.mp H
 obtain ⟨t278, A370, H⟩ := H
 replace H : (some t278) = some r := H
 have A37 := Aside0.mk A370
 clear A370
 obtain rfl := Option.some.inj H
 go_enter Try.func40, Try.ntmps40
 go_wp2_with (first | ((with_reducible refine gate_dst (N := 15) rfl ?_); (try (refine gate_guard (by rfl) ?_; dsimp only)); refine Kd.R_lit k74 _ 74 ?hg (N := 15) ?hd (xs := ([(⟨0, 1, 1, 4⟩ : S74), (⟨1, 2, 1, 1⟩ : S74), (⟨0, 2, 1, 7⟩ : S74)] : List (S74))) (inner := [.int .i64 0, .int .i64 1, .int .i64 1, .int .i64 4, .int .i64 1, .int .i64 2, .int .i64 1, .int .i64 1, .int .i64 0, .int .i64 2, .int .i64 1, .int .i64 7]) (ok := fun _ => True) (okp := fun _ => True) ?hr ?hp (fun _ hk => hk) trivial (Below.refl _ _) (Nat.le_refl _) (by simp) ?_; (case hd => rfl); (case hg => rfl); (case hr => first | (go_simp; done) | (go_simp; rfl)); (case hp => exact (Reps.c4 (show Kd.M k74 _ _ _ (⟨0, 1, 1, 4⟩ : S74) [.int .i64 0, .int .i64 1, .int .i64 1, .int .i64 4] from (k74_mkM _ _ _ (⟨0, 1, 1, 4⟩ : S74) )) (Reps.c4 (show Kd.M k74 _ _ _ (⟨1, 2, 1, 1⟩ : S74) [.int .i64 1, .int .i64 2, .int .i64 1, .int .i64 1] from (k74_mkM _ _ _ (⟨1, 2, 1, 1⟩ : S74) )) (Reps.c4 (show Kd.M k74 _ _ _ (⟨0, 2, 1, 7⟩ : S74) [.int .i64 0, .int .i64 2, .int .i64 1, .int .i64 7] from (k74_mkM _ _ _ (⟨0, 2, 1, 7⟩ : S74) )) (Reps.none _ _))))); intro v238 w38 ho39 hb hg_ hnew_; clear hg_ hnew_; (first | rw [← Ny237.out] at ho39 | (simp only [Int.reduceToNat] at ho39; rw [← Ny237.out] at ho39)); have n0_ := Aside0.mk (Kd.R_lower ho39 (below_size (by repeat (first | (with_reducible first | exact HB.out | apply below_alloc | apply pw_below_drewN | apply below_drew1) | exact HB.out)))); have n1_ := Aside0.mk (below_step (by repeat (first | (with_reducible first | exact HB.out | apply below_alloc | apply pw_below_drewN | apply below_drew1) | exact HB.out)) hb); clear HB; have HO239 := n0_; have HB := n1_; clear n0_ n1_; clear hb ho39; obtain ⟨Ao40, co40, eo40⟩ := Kd.R_slice HO239.out; subst eo40) | ((with_reducible refine gate_dst (N := 1) rfl ?_); (try (refine gate_guard (by rfl) ?_; dsimp only)); refine box_event ?hg (N := 1) ?hd (cs := #[.int .i64 0, .bool false, .slice none 0 0]) (t := 24) ?hr ?_; (case hd => rfl); (case hg => rfl); (case hr => first | (go_simp; done) | (go_simp; rfl)); intro gb240 hg w41 hbox hb; have n0_ := Aside0.mk (Kd.R_below (by (with_reducible repeat (first | apply Kd.R_alloc | apply Kd.R_drewN | apply Kd.R_drew)); exact HO239.out) hb); have n1_ := Aside0.mk (below_step (by repeat (first | (with_reducible first | exact HB.out | apply below_alloc | apply pw_below_drewN | apply below_drew1) | exact HB.out)) hb); have n2_ := Aside0.mk (hbox); have n3_ := Aside0.mk ((by rw [hg]; exact (below_size (by repeat (first | (with_reducible first | exact HB.out | apply below_alloc | apply pw_below_drewN | apply below_drew1) | exact HB.out))) : w.heap.size ≤ gb240)); have n4_ := Aside0.mk ((by rw [hg]; exact (below_size (by repeat (first | (with_reducible first | exact HB.out | apply below_alloc | apply pw_below_drewN | apply below_drew1) | exact HB.out))) : w.heap.size ≤ gb240)); clear HO239; clear HB; have HO239 := n0_; have HB := n1_; have BK240 := n2_; have GW240 := n3_; have GE240 := n4_; clear n0_ n1_ n2_ n3_ n4_; clear hb hbox hg; have hcz42_0 : w41.cell? ⟨gb240, 0, none⟩ = some (.int .i64 0) := (blk_cell BK240.out 0).trans rfl; have hcz42_1 : w41.cell? ⟨gb240, 1, none⟩ = some (.bool false) := (blk_cell BK240.out 1).trans rfl; have hcz42_2 : w41.cell? ⟨gb240, 2, none⟩ = some (.slice none 0 0) := (blk_cell BK240.out 2).trans rfl; have hfz42_0 := blk_frozen BK240.out 0; have hfz42_1 := blk_frozen BK240.out 1; have hfz42_2 := blk_frozen BK240.out 2) | ((with_reducible refine gate_dst (N := 19) rfl ?_); (try (refine gate_guard (by rfl) ?_; dsimp only)); refine Kd.R_lit (Kd.int .i64) _ 3 ?hg (N := 19) ?hd (xs := ([0, 0, 0] : List Int)) (inner := [.int .i64 0, .int .i64 0, .int .i64 0]) (ok := fun _ => True) (okp := fun _ => True) ?hr ?hp (fun _ hk => hk) trivial (Below.refl _ _) (Nat.le_refl _) (by simp) ?_; (case hd => rfl); (case hg => rfl); (case hr => first | (go_simp; done) | (go_simp; rfl)); (case hp => exact (Reps.one (show Kd.M (Kd.int .i64) _ _ _ 0 [.int .i64 0] from rfl) (Reps.one (show Kd.M (Kd.int .i64) _ _ _ 0 [.int .i64 0] from rfl) (Reps.one (show Kd.M (Kd.int .i64) _ _ _ 0 [.int .i64 0] from rfl) (Reps.none _ _))))); intro v242 w43 ho44 hb hg_ hnew_; clear hg_ hnew_; (first | rw [← Ny241.out] at ho44 | (simp only [Int.reduceToNat] at ho44; rw [← Ny241.out] at ho44)); have n0_ := Aside0.mk (Kd.R_below (by (with_reducible repeat (first | apply Kd.R_alloc | apply Kd.R_drewN | apply Kd.R_drew)); exact (Kd.R_mono (Kd.R_far (p := ⟨gb240, 2, none⟩) (Kd.R_far (p := ⟨gb240, 1, none⟩) (Kd.R_far (p := ⟨gb240, 0, none⟩) (Kd.R_types HO239.out BK240.out (by decide)) (fun _ hk => hk.2) (.int .i64 3)) (fun _ hk => hk.2) (.bool false)) (fun _ hk => hk.2) (.slice Ao40 y237.length co40)) (fun _ h_ => h_.1))) hb); have n1_ := Aside0.mk (Kd.R_lower ho44 (below_size (by repeat (first | (with_reducible first | exact HB.out | apply below_alloc | apply pw_below_drewN | apply below_drew1 | refine below_set ?_ GE240.out) | exact HB.out)))); have n2_ := Aside0.mk (blk_below (g := gb240) (o := .cells #[.int .i64 3, .bool false, .slice Ao40 y237.length co40] 24 (0, 0)) (by (with_reducible repeat (first | refine blk_drewN ?_ _ | refine blk_drew ?_ | refine blk_alloc ?_ _)); refine blk_put (cs := #[.int .i64 3, .bool false, .slice none 0 0]) ?_ 2 _ rfl; (with_reducible repeat (first | refine blk_drewN ?_ _ | refine blk_drew ?_ | refine blk_alloc ?_ _)); refine blk_put (cs := #[.int .i64 3, .bool false, .slice none 0 0]) ?_ 1 _ rfl; (with_reducible repeat (first | refine blk_drewN ?_ _ | refine blk_drew ?_ | refine blk_alloc ?_ _)); refine blk_put (cs := #[.int .i64 0, .bool false, .slice none 0 0]) ?_ 0 _ rfl; (with_reducible repeat (first | refine blk_drewN ?_ _ | refine blk_drew ?_ | refine blk_alloc ?_ _)); exact BK240.out) hb); have n3_ := Aside0.mk (below_step (by repeat (first | (with_reducible first | exact HB.out | apply below_alloc | apply pw_below_drewN | apply below_drew1 | refine below_set ?_ GE240.out) | exact HB.out)) hb); clear HO239; clear BK240; clear HB; have HO239 := n0_; have HO243 := n1_; have BK240 := n2_; have HB := n3_; clear n0_ n1_ n2_ n3_; clear hb ho44; obtain ⟨Ao45, co45, eo45⟩ := Kd.R_slice HO243.out; subst eo45) | ((with_reducible refine gate_callee (f := 38) rfl ?_); refine goesL_ (some 20) rfl rfl Try.func38 (by kernel_rfl) rfl #[.agg #[.int .i64 3, .bool false, .slice Ao40 y237.length co40], .slice Ao45 y241.length co45, .int .i64 0] rfl (by (try simp only [List.map_toArray, List.map_cons, List.map_nil]); first | done | rfl | (simp only [List.length_drop, List.length_take]; rfl)) ?_; (with_reducible refine (cost_Far.calls k 3 false _ _ y237 _ _ y241 0 t244 t247 t250 _ ?side1 ?side2 ?side3 ?side4 A1.out).mono ?_); (case side1 => repeat (first | exact (Kd.R_reads' HO239.out).2.2 | (with_reducible refine Kd.C_alloc ?_ _) | (with_reducible refine Kd.C_drewN ?_ _) | (with_reducible refine Kd.C_drew ?_))); (case side2 => exact (Kd.R_reads' HO239.out).2.1); (case side3 => repeat (first | exact (Kd.R_reads' HO243.out).2.2 | (with_reducible refine Kd.C_alloc ?_ _) | (with_reducible refine Kd.C_drewN ?_ _) | (with_reducible refine Kd.C_drew ?_))); (case side4 => exact (Kd.R_reads' HO243.out).2.1); rintro e w46 ⟨v245, v248, rfl, ho0, ho1, hb⟩; refine ⟨_, rfl, ?_⟩; have n0_ := Aside0.mk (Kd.R_below (by (with_reducible repeat (first | apply Kd.R_alloc | apply Kd.R_drewN | apply Kd.R_drew)); exact HO239.out) hb); have n1_ := Aside0.mk (Kd.R_elder' (by (with_reducible repeat (first | apply Kd.R_alloc | apply Kd.R_drewN | apply Kd.R_drew)); exact HO243.out) (Kd.R_base ho0) hb); have n2_ := Aside0.mk (Kd.R_lower (Kd.R_new' ho0 (Kd.R_lt (by (with_reducible repeat (first | apply Kd.R_alloc | apply Kd.R_drewN | apply Kd.R_drew)); exact HO243.out))) (below_size (by repeat (first | (with_reducible first | exact HB.out | apply below_alloc | apply pw_below_drewN | apply below_drew1 | refine below_set ?_ GE240.out) | exact HB.out)))); have n3_ := Aside0.mk (Kd.R_lower ho1 (below_size (by repeat (first | (with_reducible first | exact HB.out | apply below_alloc | apply pw_below_drewN | apply below_drew1 | refine below_set ?_ GE240.out) | exact HB.out)))); have n4_ := Aside0.mk (blk_below (g := gb240) (o := .cells #[.int .i64 3, .bool false, .slice Ao40 y237.length co40] 24 (0, 0)) (by (with_reducible repeat (first | refine blk_drewN ?_ _ | refine blk_drew ?_ | refine blk_alloc ?_ _)); exact BK240.out) hb); have n5_ := Aside0.mk (below_step (by repeat (first | (with_reducible first | exact HB.out | apply below_alloc | apply pw_below_drewN | apply below_drew1 | refine below_set ?_ GE240.out) | exact HB.out)) hb); clear HO239; clear HO243; clear BK240; clear HB; have HO239 := n0_; have HO243 := n1_; have HO246 := n2_; have HO249 := n3_; have BK240 := n4_; have HB := n5_; clear n0_ n1_ n2_ n3_ n4_ n5_; (try clear hb); (try clear hb2); (try clear hk); (try clear hi); (try clear ho0); (try clear ho1); have hcz47_0 : w46.cell? ⟨gb240, 0, none⟩ = some (.int .i64 3) := (blk_cell BK240.out 0).trans rfl; have hcz47_1 : w46.cell? ⟨gb240, 1, none⟩ = some (.bool false) := (blk_cell BK240.out 1).trans rfl; have hcz47_2 : w46.cell? ⟨gb240, 2, none⟩ = some (.slice Ao40 y237.length co40) := (blk_cell BK240.out 2).trans rfl; have hfz47_0 := blk_frozen BK240.out 0; have hfz47_1 := blk_frozen BK240.out 1; have hfz47_2 := blk_frozen BK240.out 2) | ((with_reducible refine gate_dst (N := 26) rfl ?_); (try (refine gate_guard (by rfl) ?_; dsimp only)); refine Kd.R_lit (Kd.int .i64) _ 3 ?hg (N := 26) ?hd (xs := ([0, 0, 1] : List Int)) (inner := [.int .i64 0, .int .i64 0, .int .i64 1]) (ok := fun _ => True) (okp := fun _ => True) ?hr ?hp (fun _ hk => hk) trivial (Below.refl _ _) (Nat.le_refl _) (by simp) ?_; (case hd => rfl); (case hg => rfl); (case hr => first | (go_simp; done) | (go_simp; rfl)); (case hp => exact (Reps.one (show Kd.M (Kd.int .i64) _ _ _ 0 [.int .i64 0] from rfl) (Reps.one (show Kd.M (Kd.int .i64) _ _ _ 0 [.int .i64 0] from rfl) (Reps.one (show Kd.M (Kd.int .i64) _ _ _ 1 [.int .i64 1] from rfl) (Reps.none _ _))))); intro v252 w48 ho49 hb hg_ hnew_; clear hg_ hnew_; (first | rw [← Ny251.out] at ho49 | (simp only [Int.reduceToNat] at ho49; rw [← Ny251.out] at ho49)); have n0_ := Aside0.mk (Kd.R_below (by (with_reducible repeat (first | apply Kd.R_alloc | apply Kd.R_drewN | apply Kd.R_drew)); exact HO239.out) hb); have n1_ := Aside0.mk (Kd.R_elder' (by (with_reducible repeat (first | apply Kd.R_alloc | apply Kd.R_drewN | apply Kd.R_drew)); exact HO243.out) (Kd.R_base ho49) hb); have n2_ := Aside0.mk (Kd.R_elder' (by (with_reducible repeat (first | apply Kd.R_alloc | apply Kd.R_drewN | apply Kd.R_drew)); exact HO246.out) (Kd.R_base ho49) hb); have n3_ := Aside0.mk (Kd.R_below (by (with_reducible repeat (first | apply Kd.R_alloc | apply Kd.R_drewN | apply Kd.R_drew)); exact HO249.out) hb); have n4_ := Aside0.mk (Kd.R_lower (Kd.R_new' (Kd.R_new' ho49 (Kd.R_lt (by (with_reducible repeat (first | apply Kd.R_alloc | apply Kd.R_drewN | apply Kd.R_drew)); exact HO243.out))) (Kd.R_lt (by (with_reducible repeat (first | apply Kd.R_alloc | apply Kd.R_drewN | apply Kd.R_drew)); exact HO246.out))) (below_size (by repeat (first | (with_reducible first | exact HB.out | apply below_alloc | apply pw_below_drewN | apply below_drew1 | refine below_set ?_ GE240.out) | exact HB.out)))); have n5_ := Aside0.mk (blk_below (g := gb240) (o := .cells #[.int .i64 3, .bool false, .slice Ao40 y237.length co40] 24 (0, 0)) (by (with_reducible repeat (first | refine blk_drewN ?_ _ | refine blk_drew ?_ | refine blk_alloc ?_ _)); exact BK240.out) hb); have n6_ := Aside0.mk (below_step (by repeat (first | (with_reducible first | exact HB.out | apply below_alloc | apply pw_below_drewN | apply below_drew1 | refine below_set ?_ GE240.out) | exact HB.out)) hb); clear HO239; clear HO243; clear HO246; clear HO249; clear BK240; clear HB; have HO239 := n0_; have HO243 := n1_; have HO246 := n2_; have HO249 := n3_; have HO253 := n4_; have BK240 := n5_; have HB := n6_; clear n0_ n1_ n2_ n3_ n4_ n5_ n6_; clear hb ho49; obtain ⟨Ao50, co50, eo50⟩ := Kd.R_slice HO253.out; subst eo50) | ((with_reducible refine gate_callee (f := 38) rfl ?_); refine goesL_ (some 27) rfl rfl Try.func38 (by kernel_rfl) rfl #[.agg #[.int .i64 3, .bool false, .slice Ao40 y237.length co40], .slice Ao50 y251.length co50, .int .i64 2] rfl (by (try simp only [List.map_toArray, List.map_cons, List.map_nil]); first | done | rfl | (simp only [List.length_drop, List.length_take]; rfl)) ?_; (with_reducible refine (cost_Far.calls k 3 false _ _ y237 _ _ y251 2 t254 t257 t260 _ ?side1 ?side2 ?side3 ?side4 A2.out).mono ?_); (case side1 => repeat (first | exact (Kd.R_reads' HO239.out).2.2 | (with_reducible refine Kd.C_alloc ?_ _) | (with_reducible refine Kd.C_drewN ?_ _) | (with_reducible refine Kd.C_drew ?_))); (case side2 => exact (Kd.R_reads' HO239.out).2.1); (case side3 => repeat (first | exact (Kd.R_reads' HO253.out).2.2 | (with_reducible refine Kd.C_alloc ?_ _) | (with_reducible refine Kd.C_drewN ?_ _) | (with_reducible refine Kd.C_drew ?_))); (case side4 => exact (Kd.R_reads' HO253.out).2.1); rintro e w51 ⟨v255, v258, rfl, ho0, ho1, hb⟩; refine ⟨_, rfl, ?_⟩; have n0_ := Aside0.mk (Kd.R_below (by (with_reducible repeat (first | apply Kd.R_alloc | apply Kd.R_drewN | apply Kd.R_drew)); exact HO239.out) hb); have n1_ := Aside0.mk (Kd.R_elder' (by (with_reducible repeat (first | apply Kd.R_alloc | apply Kd.R_drewN | apply Kd.R_drew)); exact HO243.out) (Kd.R_base ho0) hb); have n2_ := Aside0.mk (Kd.R_elder' (by (with_reducible repeat (first | apply Kd.R_alloc | apply Kd.R_drewN | apply Kd.R_drew)); exact HO246.out) (Kd.R_base ho0) hb); have n3_ := Aside0.mk (Kd.R_elder' (by (with_reducible repeat (first | apply Kd.R_alloc | apply Kd.R_drewN | apply Kd.R_drew)); exact HO249.out) (Kd.R_base ho1) hb); have n4_ := Aside0.mk (Kd.R_elder' (by (with_reducible repeat (first | apply Kd.R_alloc | apply Kd.R_drewN | apply Kd.R_drew)); exact HO253.out) (Kd.R_base ho0) hb); have n5_ := Aside0.mk (Kd.R_lower (Kd.R_new' (Kd.R_new' (Kd.R_new' ho0 (Kd.R_lt (by (with_reducible repeat (first | apply Kd.R_alloc | apply Kd.R_drewN | apply Kd.R_drew)); exact HO243.out))) (Kd.R_lt (by (with_reducible repeat (first | apply Kd.R_alloc | apply Kd.R_drewN | apply Kd.R_drew)); exact HO246.out))) (Kd.R_lt (by (with_reducible repeat (first | apply Kd.R_alloc | apply Kd.R_drewN | apply Kd.R_drew)); exact HO253.out))) (below_size (by repeat (first | (with_reducible first | exact HB.out | apply below_alloc | apply pw_below_drewN | apply below_drew1 | refine below_set ?_ GE240.out) | exact HB.out)))); have n6_ := Aside0.mk (Kd.R_lower (Kd.R_new' ho1 (Kd.R_lt (by (with_reducible repeat (first | apply Kd.R_alloc | apply Kd.R_drewN | apply Kd.R_drew)); exact HO249.out))) (below_size (by repeat (first | (with_reducible first | exact HB.out | apply below_alloc | apply pw_below_drewN | apply below_drew1 | refine below_set ?_ GE240.out) | exact HB.out)))); have n7_ := Aside0.mk (blk_below (g := gb240) (o := .cells #[.int .i64 3, .bool false, .slice Ao40 y237.length co40] 24 (0, 0)) (by (with_reducible repeat (first | refine blk_drewN ?_ _ | refine blk_drew ?_ | refine blk_alloc ?_ _)); exact BK240.out) hb); have n8_ := Aside0.mk (below_step (by repeat (first | (with_reducible first | exact HB.out | apply below_alloc | apply pw_below_drewN | apply below_drew1 | refine below_set ?_ GE240.out) | exact HB.out)) hb); clear HO239; clear HO243; clear HO246; clear HO249; clear HO253; clear BK240; clear HB; have HO239 := n0_; have HO243 := n1_; have HO246 := n2_; have HO249 := n3_; have HO253 := n4_; have HO256 := n5_; have HO259 := n6_; have BK240 := n7_; have HB := n8_; clear n0_ n1_ n2_ n3_ n4_ n5_ n6_ n7_ n8_; (try clear hb); (try clear hb2); (try clear hk); (try clear hi); (try clear ho0); (try clear ho1); have hcz52_0 : w51.cell? ⟨gb240, 0, none⟩ = some (.int .i64 3) := (blk_cell BK240.out 0).trans rfl; have hcz52_1 : w51.cell? ⟨gb240, 1, none⟩ = some (.bool false) := (blk_cell BK240.out 1).trans rfl; have hcz52_2 : w51.cell? ⟨gb240, 2, none⟩ = some (.slice Ao40 y237.length co40) := (blk_cell BK240.out 2).trans rfl; have hfz52_0 := blk_frozen BK240.out 0; have hfz52_1 := blk_frozen BK240.out 1; have hfz52_2 := blk_frozen BK240.out 2) | ((with_reducible refine gate_dst (N := 33) rfl ?_); (try (refine gate_guard (by rfl) ?_; dsimp only)); refine Kd.R_lit (Kd.int .i64) _ 3 ?hg (N := 33) ?hd (xs := ([0, 0, 0] : List Int)) (inner := [.int .i64 0, .int .i64 0, .int .i64 0]) (ok := fun _ => True) (okp := fun _ => True) ?hr ?hp (fun _ hk => hk) trivial (Below.refl _ _) (Nat.le_refl _) (by simp) ?_; (case hd => rfl); (case hg => rfl); (case hr => first | (go_simp; done) | (go_simp; rfl)); (case hp => exact (Reps.one (show Kd.M (Kd.int .i64) _ _ _ 0 [.int .i64 0] from rfl) (Reps.one (show Kd.M (Kd.int .i64) _ _ _ 0 [.int .i64 0] from rfl) (Reps.one (show Kd.M (Kd.int .i64) _ _ _ 0 [.int .i64 0] from rfl) (Reps.none _ _))))); intro v262 w53 ho54 hb hg_ hnew_; clear hg_ hnew_; (first | rw [← Ny261.out] at ho54 | (simp only [Int.reduceToNat] at ho54; rw [← Ny261.out] at ho54)); have n0_ := Aside0.mk (Kd.R_below (by (with_reducible repeat (first | apply Kd.R_alloc | apply Kd.R_drewN | apply Kd.R_drew)); exact HO239.out) hb); have n1_ := Aside0.mk (Kd.R_elder' (by (with_reducible repeat (first | apply Kd.R_alloc | apply Kd.R_drewN | apply Kd.R_drew)); exact HO243.out) (Kd.R_base ho54) hb); have n2_ := Aside0.mk (Kd.R_elder' (by (with_reducible repeat (first | apply Kd.R_alloc | apply Kd.R_drewN | apply Kd.R_drew)); exact HO246.out) (Kd.R_base ho54) hb); have n3_ := Aside0.mk (Kd.R_below (by (with_reducible repeat (first | apply Kd.R_alloc | apply Kd.R_drewN | apply Kd.R_drew)); exact HO249.out) hb); have n4_ := Aside0.mk (Kd.R_elder' (by (with_reducible repeat (first | apply Kd.R_alloc | apply Kd.R_drewN | apply Kd.R_drew)); exact HO253.out) (Kd.R_base ho54) hb); have n5_ := Aside0.mk (Kd.R_elder' (by (with_reducible repeat (first | apply Kd.R_alloc | apply Kd.R_drewN | apply Kd.R_drew)); exact HO256.out) (Kd.R_base ho54) hb); have n6_ := Aside0.mk (Kd.R_below (by (with_reducible repeat (first | apply Kd.R_alloc | apply Kd.R_drewN | apply Kd.R_drew)); exact HO259.out) hb); have n7_ := Aside0.mk (Kd.R_lower (Kd.R_new' (Kd.R_new' (Kd.R_new' (Kd.R_new' ho54 (Kd.R_lt (by (with_reducible repeat (first | apply Kd.R_alloc | apply Kd.R_drewN | apply Kd.R_drew)); exact HO243.out))) (Kd.R_lt (by (with_reducible repeat (first | apply Kd.R_alloc | apply Kd.R_drewN | apply Kd.R_drew)); exact HO246.out))) (Kd.R_lt (by (with_reducible repeat (first | apply Kd.R_alloc | apply Kd.R_drewN | apply Kd.R_drew)); exact HO253.out))) (Kd.R_lt (by (with_reducible repeat (first | apply Kd.R_alloc | apply Kd.R_drewN | apply Kd.R_drew)); exact HO256.out))) (below_size (by repeat (first | (with_reducible first | exact HB.out | apply below_alloc | apply pw_below_drewN | apply below_drew1 | refine below_set ?_ GE240.out) | exact HB.out)))); have n8_ := Aside0.mk (blk_below (g := gb240) (o := .cells #[.int .i64 3, .bool false, .slice Ao40 y237.length co40] 24 (0, 0)) (by (with_reducible repeat (first | refine blk_drewN ?_ _ | refine blk_drew ?_ | refine blk_alloc ?_ _)); exact BK240.out) hb); have n9_ := Aside0.mk (below_step (by repeat (first | (with_reducible first | exact HB.out | apply below_alloc | apply pw_below_drewN | apply below_drew1 | refine below_set ?_ GE240.out) | exact HB.out)) hb); clear HO239; clear HO243; clear HO246; clear HO249; clear HO253; clear HO256; clear HO259; clear BK240; clear HB; have HO239 := n0_; have HO243 := n1_; have HO246 := n2_; have HO249 := n3_; have HO253 := n4_; have HO256 := n5_; have HO259 := n6_; have HO263 := n7_; have BK240 := n8_; have HB := n9_; clear n0_ n1_ n2_ n3_ n4_ n5_ n6_ n7_ n8_ n9_; clear hb ho54; obtain ⟨Ao55, co55, eo55⟩ := Kd.R_slice HO263.out; subst eo55) | ((with_reducible refine gate_callee (f := 47) rfl ?_); refine goesL_ (some 34) rfl rfl Try.func47 (by kernel_rfl) rfl #[.agg #[.int .i64 3, .bool false, .slice Ao40 y237.length co40], .slice Ao55 y261.length co55] rfl (by (try simp only [List.map_toArray, List.map_cons, List.map_nil]); first | done | rfl | (simp only [List.length_drop, List.length_take]; rfl)) ?_; (with_reducible refine (cost_Free.calls k 3 false _ _ y237 _ _ y261 true t265 _ ?side1 ?side2 ?side3 ?side4 A3.out).mono ?_); (case side1 => repeat (first | exact (Kd.R_reads' HO239.out).2.2 | (with_reducible refine Kd.C_alloc ?_ _) | (with_reducible refine Kd.C_drewN ?_ _) | (with_reducible refine Kd.C_drew ?_))); (case side2 => exact (Kd.R_reads' HO239.out).2.1); (case side3 => repeat (first | exact (Kd.R_reads' HO263.out).2.2 | (with_reducible refine Kd.C_alloc ?_ _) | (with_reducible refine Kd.C_drewN ?_ _) | (with_reducible refine Kd.C_drew ?_))); (case side4 => exact (Kd.R_reads' HO263.out).2.1); rintro e w56 ⟨rfl, hb⟩; refine ⟨_, rfl, ?_⟩; have n0_ := Aside0.mk (Kd.R_below (by (with_reducible repeat (first | apply Kd.R_alloc | apply Kd.R_drewN | apply Kd.R_drew)); exact HO239.out) hb); have n1_ := Aside0.mk (Kd.R_below (by (with_reducible repeat (first | apply Kd.R_alloc | apply Kd.R_drewN | apply Kd.R_drew)); exact HO243.out) hb); have n2_ := Aside0.mk (Kd.R_below (by (with_reducible repeat (first | apply Kd.R_alloc | apply Kd.R_drewN | apply Kd.R_drew)); exact HO246.out) hb); have n3_ := Aside0.mk (Kd.R_below (by (with_reducible repeat (first | apply Kd.R_alloc | apply Kd.R_drewN | apply Kd.R_drew)); exact HO249.out) hb); have n4_ := Aside0.mk (Kd.R_below (by (with_reducible repeat (first | apply Kd.R_alloc | apply Kd.R_drewN | apply Kd.R_drew)); exact HO253.out) hb); have n5_ := Aside0.mk (Kd.R_below (by (with_reducible repeat (first | apply Kd.R_alloc | apply Kd.R_drewN | apply Kd.R_drew)); exact HO256.out) hb); have n6_ := Aside0.mk (Kd.R_below (by (with_reducible repeat (first | apply Kd.R_alloc | apply Kd.R_drewN | apply Kd.R_drew)); exact HO259.out) hb); have n7_ := Aside0.mk (Kd.R_below (by (with_reducible repeat (first | apply Kd.R_alloc | apply Kd.R_drewN | apply Kd.R_drew)); exact HO263.out) hb); have n8_ := Aside0.mk (blk_below (g := gb240) (o := .cells #[.int .i64 3, .bool false, .slice Ao40 y237.length co40] 24 (0, 0)) (by (with_reducible repeat (first | refine blk_drewN ?_ _ | refine blk_drew ?_ | refine blk_alloc ?_ _)); exact BK240.out) hb); have n9_ := Aside0.mk (below_step (by repeat (first | (with_reducible first | exact HB.out | apply below_alloc | apply pw_below_drewN | apply below_drew1 | refine below_set ?_ GE240.out) | exact HB.out)) hb); clear HO239; clear HO243; clear HO246; clear HO249; clear HO253; clear HO256; clear HO259; clear HO263; clear BK240; clear HB; have HO239 := n0_; have HO243 := n1_; have HO246 := n2_; have HO249 := n3_; have HO253 := n4_; have HO256 := n5_; have HO259 := n6_; have HO263 := n7_; have BK240 := n8_; have HB := n9_; clear n0_ n1_ n2_ n3_ n4_ n5_ n6_ n7_ n8_ n9_; (try clear hb); (try clear hb2); (try clear hk); (try clear hi); have hcz57_0 : w56.cell? ⟨gb240, 0, none⟩ = some (.int .i64 3) := (blk_cell BK240.out 0).trans rfl; have hcz57_1 : w56.cell? ⟨gb240, 1, none⟩ = some (.bool false) := (blk_cell BK240.out 1).trans rfl; have hcz57_2 : w56.cell? ⟨gb240, 2, none⟩ = some (.slice Ao40 y237.length co40) := (blk_cell BK240.out 2).trans rfl; have hfz57_0 := blk_frozen BK240.out 0; have hfz57_1 := blk_frozen BK240.out 1; have hfz57_2 := blk_frozen BK240.out 2) | ((with_reducible refine gate_dst (N := 39) rfl ?_); (try (refine gate_guard (by rfl) ?_; dsimp only)); refine Kd.R_lit (Kd.int .i64) _ 3 ?hg (N := 39) ?hd (xs := ([0, 0, 1] : List Int)) (inner := [.int .i64 0, .int .i64 0, .int .i64 1]) (ok := fun _ => True) (okp := fun _ => True) ?hr ?hp (fun _ hk => hk) trivial (Below.refl _ _) (Nat.le_refl _) (by simp) ?_; (case hd => rfl); (case hg => rfl); (case hr => first | (go_simp; done) | (go_simp; rfl)); (case hp => exact (Reps.one (show Kd.M (Kd.int .i64) _ _ _ 0 [.int .i64 0] from rfl) (Reps.one (show Kd.M (Kd.int .i64) _ _ _ 0 [.int .i64 0] from rfl) (Reps.one (show Kd.M (Kd.int .i64) _ _ _ 1 [.int .i64 1] from rfl) (Reps.none _ _))))); intro v267 w58 ho59 hb hg_ hnew_; clear hg_ hnew_; (first | rw [← Ny266.out] at ho59 | (simp only [Int.reduceToNat] at ho59; rw [← Ny266.out] at ho59)); have n0_ := Aside0.mk (Kd.R_below (by (with_reducible repeat (first | apply Kd.R_alloc | apply Kd.R_drewN | apply Kd.R_drew)); exact HO239.out) hb); have n1_ := Aside0.mk (Kd.R_elder' (by (with_reducible repeat (first | apply Kd.R_alloc | apply Kd.R_drewN | apply Kd.R_drew)); exact HO243.out) (Kd.R_base ho59) hb); have n2_ := Aside0.mk (Kd.R_elder' (by (with_reducible repeat (first | apply Kd.R_alloc | apply Kd.R_drewN | apply Kd.R_drew)); exact HO246.out) (Kd.R_base ho59) hb); have n3_ := Aside0.mk (Kd.R_below (by (with_reducible repeat (first | apply Kd.R_alloc | apply Kd.R_drewN | apply Kd.R_drew)); exact HO249.out) hb); have n4_ := Aside0.mk (Kd.R_elder' (by (with_reducible repeat (first | apply Kd.R_alloc | apply Kd.R_drewN | apply Kd.R_drew)); exact HO253.out) (Kd.R_base ho59) hb); have n5_ := Aside0.mk (Kd.R_elder' (by (with_reducible repeat (first | apply Kd.R_alloc | apply Kd.R_drewN | apply Kd.R_drew)); exact HO256.out) (Kd.R_base ho59) hb); have n6_ := Aside0.mk (Kd.R_below (by (with_reducible repeat (first | apply Kd.R_alloc | apply Kd.R_drewN | apply Kd.R_drew)); exact HO259.out) hb); have n7_ := Aside0.mk (Kd.R_elder' (by (with_reducible repeat (first | apply Kd.R_alloc | apply Kd.R_drewN | apply Kd.R_drew)); exact HO263.out) (Kd.R_base ho59) hb); have n8_ := Aside0.mk (Kd.R_lower (Kd.R_new' (Kd.R_new' (Kd.R_new' (Kd.R_new' (Kd.R_new' ho59 (Kd.R_lt (by (with_reducible repeat (first | apply Kd.R_alloc | apply Kd.R_drewN | apply Kd.R_drew)); exact HO243.out))) (Kd.R_lt (by (with_reducible repeat (first | apply Kd.R_alloc | apply Kd.R_drewN | apply Kd.R_drew)); exact HO246.out))) (Kd.R_lt (by (with_reducible repeat (first | apply Kd.R_alloc | apply Kd.R_drewN | apply Kd.R_drew)); exact HO253.out))) (Kd.R_lt (by (with_reducible repeat (first | apply Kd.R_alloc | apply Kd.R_drewN | apply Kd.R_drew)); exact HO256.out))) (Kd.R_lt (by (with_reducible repeat (first | apply Kd.R_alloc | apply Kd.R_drewN | apply Kd.R_drew)); exact HO263.out))) (below_size (by repeat (first | (with_reducible first | exact HB.out | apply below_alloc | apply pw_below_drewN | apply below_drew1 | refine below_set ?_ GE240.out) | exact HB.out)))); have n9_ := Aside0.mk (blk_below (g := gb240) (o := .cells #[.int .i64 3, .bool false, .slice Ao40 y237.length co40] 24 (0, 0)) (by (with_reducible repeat (first | refine blk_drewN ?_ _ | refine blk_drew ?_ | refine blk_alloc ?_ _)); exact BK240.out) hb); have n10_ := Aside0.mk (below_step (by repeat (first | (with_reducible first | exact HB.out | apply below_alloc | apply pw_below_drewN | apply below_drew1 | refine below_set ?_ GE240.out) | exact HB.out)) hb); clear HO239; clear HO243; clear HO246; clear HO249; clear HO253; clear HO256; clear HO259; clear HO263; clear BK240; clear HB; have HO239 := n0_; have HO243 := n1_; have HO246 := n2_; have HO249 := n3_; have HO253 := n4_; have HO256 := n5_; have HO259 := n6_; have HO263 := n7_; have HO268 := n8_; have BK240 := n9_; have HB := n10_; clear n0_ n1_ n2_ n3_ n4_ n5_ n6_ n7_ n8_ n9_ n10_; clear hb ho59; obtain ⟨Ao60, co60, eo60⟩ := Kd.R_slice HO268.out; subst eo60) | ((with_reducible refine gate_callee (f := 47) rfl ?_); refine goesL_ (some 40) rfl rfl Try.func47 (by kernel_rfl) rfl #[.agg #[.int .i64 3, .bool false, .slice Ao40 y237.length co40], .slice Ao60 y266.length co60] rfl (by (try simp only [List.map_toArray, List.map_cons, List.map_nil]); first | done | rfl | (simp only [List.length_drop, List.length_take]; rfl)) ?_; (with_reducible refine (cost_Free.calls k 3 false _ _ y237 _ _ y266 false t270 _ ?side1 ?side2 ?side3 ?side4 A4.out).mono ?_); (case side1 => repeat (first | exact (Kd.R_reads' HO239.out).2.2 | (with_reducible refine Kd.C_alloc ?_ _) | (with_reducible refine Kd.C_drewN ?_ _) | (with_reducible refine Kd.C_drew ?_))); (case side2 => exact (Kd.R_reads' HO239.out).2.1); (case side3 => repeat (first | exact (Kd.R_reads' HO268.out).2.2 | (with_reducible refine Kd.C_alloc ?_ _) | (with_reducible refine Kd.C_drewN ?_ _) | (with_reducible refine Kd.C_drew ?_))); (case side4 => exact (Kd.R_reads' HO268.out).2.1); rintro e w61 ⟨rfl, hb⟩; refine ⟨_, rfl, ?_⟩; have n0_ := Aside0.mk (Kd.R_below (by (with_reducible repeat (first | apply Kd.R_alloc | apply Kd.R_drewN | apply Kd.R_drew)); exact HO239.out) hb); have n1_ := Aside0.mk (Kd.R_below (by (with_reducible repeat (first | apply Kd.R_alloc | apply Kd.R_drewN | apply Kd.R_drew)); exact HO243.out) hb); have n2_ := Aside0.mk (Kd.R_below (by (with_reducible repeat (first | apply Kd.R_alloc | apply Kd.R_drewN | apply Kd.R_drew)); exact HO246.out) hb); have n3_ := Aside0.mk (Kd.R_below (by (with_reducible repeat (first | apply Kd.R_alloc | apply Kd.R_drewN | apply Kd.R_drew)); exact HO249.out) hb); have n4_ := Aside0.mk (Kd.R_below (by (with_reducible repeat (first | apply Kd.R_alloc | apply Kd.R_drewN | apply Kd.R_drew)); exact HO253.out) hb); have n5_ := Aside0.mk (Kd.R_below (by (with_reducible repeat (first | apply Kd.R_alloc | apply Kd.R_drewN | apply Kd.R_drew)); exact HO256.out) hb); have n6_ := Aside0.mk (Kd.R_below (by (with_reducible repeat (first | apply Kd.R_alloc | apply Kd.R_drewN | apply Kd.R_drew)); exact HO259.out) hb); have n7_ := Aside0.mk (Kd.R_below (by (with_reducible repeat (first | apply Kd.R_alloc | apply Kd.R_drewN | apply Kd.R_drew)); exact HO263.out) hb); have n8_ := Aside0.mk (Kd.R_below (by (with_reducible repeat (first | apply Kd.R_alloc | apply Kd.R_drewN | apply Kd.R_drew)); exact HO268.out) hb); have n9_ := Aside0.mk (blk_below (g := gb240) (o := .cells #[.int .i64 3, .bool false, .slice Ao40 y237.length co40] 24 (0, 0)) (by (with_reducible repeat (first | refine blk_drewN ?_ _ | refine blk_drew ?_ | refine blk_alloc ?_ _)); exact BK240.out) hb); have n10_ := Aside0.mk (below_step (by repeat (first | (with_reducible first | exact HB.out | apply below_alloc | apply pw_below_drewN | apply below_drew1 | refine below_set ?_ GE240.out) | exact HB.out)) hb); clear HO239; clear HO243; clear HO246; clear HO249; clear HO253; clear HO256; clear HO259; clear HO263; clear HO268; clear BK240; clear HB; have HO239 := n0_; have HO243 := n1_; have HO246 := n2_; have HO249 := n3_; have HO253 := n4_; have HO256 := n5_; have HO259 := n6_; have HO263 := n7_; have HO268 := n8_; have BK240 := n9_; have HB := n10_; clear n0_ n1_ n2_ n3_ n4_ n5_ n6_ n7_ n8_ n9_ n10_; (try clear hb); (try clear hb2); (try clear hk); (try clear hi)) | ((with_reducible refine gate_dst (N := 66) rfl ?_); (try (refine gate_guard (by rfl) ?_; dsimp only)); refine Kd.R_lit (Kd.int .i64) _ 3 ?hg (N := 66) ?hd (xs := ([0, 4, 5] : List Int)) (inner := [.int .i64 0, .int .i64 4, .int .i64 5]) (ok := fun _ => True) (okp := fun _ => True) ?hr ?hp (fun _ hk => hk) trivial (Below.refl _ _) (Nat.le_refl _) (by simp) ?_; (case hd => rfl); (case hg => rfl); (case hr => first | (go_simp; done) | (go_simp; rfl)); (case hp => exact (Reps.one (show Kd.M (Kd.int .i64) _ _ _ 0 [.int .i64 0] from rfl) (Reps.one (show Kd.M (Kd.int .i64) _ _ _ 4 [.int .i64 4] from rfl) (Reps.one (show Kd.M (Kd.int .i64) _ _ _ 5 [.int .i64 5] from rfl) (Reps.none _ _))))); intro v272 w62 ho63 hb hg_ hnew_; clear hg_ hnew_; (first | rw [← Ny271.out] at ho63 | (simp only [Int.reduceToNat] at ho63; rw [← Ny271.out] at ho63)); have n0_ := Aside0.mk (Kd.R_below (by (with_reducible repeat (first | apply Kd.R_alloc | apply Kd.R_drewN | apply Kd.R_drew)); exact HO239.out) hb); have n1_ := Aside0.mk (Kd.R_elder' (by (with_reducible repeat (first | apply Kd.R_alloc | apply Kd.R_drewN | apply Kd.R_drew)); exact HO243.out) (Kd.R_base ho63) hb); have n2_ := Aside0.mk (Kd.R_elder' (by (with_reducible repeat (first | apply Kd.R_alloc | apply Kd.R_drewN | apply Kd.R_drew)); exact HO246.out) (Kd.R_base ho63) hb); have n3_ := Aside0.mk (Kd.R_below (by (with_reducible repeat (first | apply Kd.R_alloc | apply Kd.R_drewN | apply Kd.R_drew)); exact HO249.out) hb); have n4_ := Aside0.mk (Kd.R_elder' (by (with_reducible repeat (first | apply Kd.R_alloc | apply Kd.R_drewN | apply Kd.R_drew)); exact HO253.out) (Kd.R_base ho63) hb); have n5_ := Aside0.mk (Kd.R_elder' (by (with_reducible repeat (first | apply Kd.R_alloc | apply Kd.R_drewN | apply Kd.R_drew)); exact HO256.out) (Kd.R_base ho63) hb); have n6_ := Aside0.mk (Kd.R_below (by (with_reducible repeat (first | apply Kd.R_alloc | apply Kd.R_drewN | apply Kd.R_drew)); exact HO259.out) hb); have n7_ := Aside0.mk (Kd.R_elder' (by (with_reducible repeat (first | apply Kd.R_alloc | apply Kd.R_drewN | apply Kd.R_drew)); exact HO263.out) (Kd.R_base ho63) hb); have n8_ := Aside0.mk (Kd.R_elder' (by (with_reducible repeat (first | apply Kd.R_alloc | apply Kd.R_drewN | apply Kd.R_drew)); exact HO268.out) (Kd.R_base ho63) hb); have n9_ := Aside0.mk (Kd.R_lower (Kd.R_new' (Kd.R_new' (Kd.R_new' (Kd.R_new' (Kd.R_new' (Kd.R_new' ho63 (Kd.R_lt (by (with_reducible repeat (first | apply Kd.R_alloc | apply Kd.R_drewN | apply Kd.R_drew)); exact HO243.out))) (Kd.R_lt (by (with_reducible repeat (first | apply Kd.R_alloc | apply Kd.R_drewN | apply Kd.R_drew)); exact HO246.out))) (Kd.R_lt (by (with_reducible repeat (first | apply Kd.R_alloc | apply Kd.R_drewN | apply Kd.R_drew)); exact HO253.out))) (Kd.R_lt (by (with_reducible repeat (first | apply Kd.R_alloc | apply Kd.R_drewN | apply Kd.R_drew)); exact HO256.out))) (Kd.R_lt (by (with_reducible repeat (first | apply Kd.R_alloc | apply Kd.R_drewN | apply Kd.R_drew)); exact HO263.out))) (Kd.R_lt (by (with_reducible repeat (first | apply Kd.R_alloc | apply Kd.R_drewN | apply Kd.R_drew)); exact HO268.out))) (below_size (by repeat (first | (with_reducible first | exact HB.out | apply below_alloc | apply pw_below_drewN | apply below_drew1 | refine below_set ?_ GE240.out) | exact HB.out)))); have n10_ := Aside0.mk (blk_below (g := gb240) (o := .cells #[.int .i64 3, .bool false, .slice Ao40 y237.length co40] 24 (0, 0)) (by (with_reducible repeat (first | refine blk_drewN ?_ _ | refine blk_drew ?_ | refine blk_alloc ?_ _)); exact BK240.out) hb); have n11_ := Aside0.mk (below_step (by repeat (first | (with_reducible first | exact HB.out | apply below_alloc | apply pw_below_drewN | apply below_drew1 | refine below_set ?_ GE240.out) | exact HB.out)) hb); clear HO239; clear HO243; clear HO246; clear HO249; clear HO253; clear HO256; clear HO259; clear HO263; clear HO268; clear BK240; clear HB; have HO239 := n0_; have HO243 := n1_; have HO246 := n2_; have HO249 := n3_; have HO253 := n4_; have HO256 := n5_; have HO259 := n6_; have HO263 := n7_; have HO268 := n8_; have HO273 := n9_; have BK240 := n10_; have HB := n11_; clear n0_ n1_ n2_ n3_ n4_ n5_ n6_ n7_ n8_ n9_ n10_ n11_; clear hb ho63; obtain ⟨Ao64, co64, eo64⟩ := Kd.R_slice HO246.out; subst eo64; obtain ⟨Ao65, co65, eo65⟩ := Kd.R_slice HO273.out; subst eo65) | (go_at_call 41; (with_reducible refine (ebbtideref03_SameInts.calls k _ _ t244 _ _ y271 true _ ?side1 ?side2 ?side3 ?side4 A35.out).mono ?_); (case side1 => repeat (first | exact (Kd.R_reads' HO246.out).2.2 | (with_reducible refine Kd.C_alloc ?_ _) | (with_reducible refine Kd.C_drewN ?_ _) | (with_reducible refine Kd.C_drew ?_))); (case side2 => exact (Kd.R_reads' HO246.out).2.1); (case side3 => repeat (first | exact (Kd.R_reads' HO273.out).2.2 | (with_reducible refine Kd.C_alloc ?_ _) | (with_reducible refine Kd.C_drewN ?_ _) | (with_reducible refine Kd.C_drew ?_))); (case side4 => exact (Kd.R_reads' HO273.out).2.1); rintro e w' ⟨rfl, ⟨nd, rfl⟩⟩) | ((with_reducible refine gate_dst (N := 71) rfl ?_); (try (refine gate_guard (by rfl) ?_; dsimp only)); refine Kd.R_lit Kd.bool _ 4 ?hg (N := 71) ?hd (xs := ([true, true, true] : List Bool)) (inner := [.bool true, .bool true, .bool true]) (ok := fun _ => True) (okp := fun _ => True) ?hr ?hp (fun _ hk => hk) trivial (Below.refl _ _) (Nat.le_refl _) (by simp) ?_; (case hd => rfl); (case hg => rfl); (case hr => first | (go_simp; done) | (go_simp; rfl)); (case hp => exact (Reps.one (show Kd.M Kd.bool _ _ _ true [.bool true] from rfl) (Reps.one (show Kd.M Kd.bool _ _ _ true [.bool true] from rfl) (Reps.one (show Kd.M Kd.bool _ _ _ true [.bool true] from rfl) (Reps.none _ _))))); intro v276 w66 ho67 hb hg_ hnew_; clear hg_ hnew_; (first | rw [← Ny275.out] at ho67 | (simp only [Int.reduceToNat] at ho67; rw [← Ny275.out] at ho67)); have n0_ := Aside0.mk (Kd.R_below (by (with_reducible repeat (first | apply Kd.R_alloc | apply Kd.R_drewN | apply Kd.R_drew)); exact HO239.out) hb); have n1_ := Aside0.mk (Kd.R_below (by (with_reducible repeat (first | apply Kd.R_alloc | apply Kd.R_drewN | apply Kd.R_drew)); exact HO243.out) hb); have n2_ := Aside0.mk (Kd.R_below (by (with_reducible repeat (first | apply Kd.R_alloc | apply Kd.R_drewN | apply Kd.R_drew)); exact HO246.out) hb); have n3_ := Aside0.mk (Kd.R_elder' (by (with_reducible repeat (first | apply Kd.R_alloc | apply Kd.R_drewN | apply Kd.R_drew)); exact HO249.out) (Kd.R_base ho67) hb); have n4_ := Aside0.mk (Kd.R_below (by (with_reducible repeat (first | apply Kd.R_alloc | apply Kd.R_drewN | apply Kd.R_drew)); exact HO253.out) hb); have n5_ := Aside0.mk (Kd.R_below (by (with_reducible repeat (first | apply Kd.R_alloc | apply Kd.R_drewN | apply Kd.R_drew)); exact HO256.out) hb); have n6_ := Aside0.mk (Kd.R_elder' (by (with_reducible repeat (first | apply Kd.R_alloc | apply Kd.R_drewN | apply Kd.R_drew)); exact HO259.out) (Kd.R_base ho67) hb); have n7_ := Aside0.mk (Kd.R_below (by (with_reducible repeat (first | apply Kd.R_alloc | apply Kd.R_drewN | apply Kd.R_drew)); exact HO263.out) hb); have n8_ := Aside0.mk (Kd.R_below (by (with_reducible repeat (first | apply Kd.R_alloc | apply Kd.R_drewN | apply Kd.R_drew)); exact HO268.out) hb); have n9_ := Aside0.mk (Kd.R_below (by (with_reducible repeat (first | apply Kd.R_alloc | apply Kd.R_drewN | apply Kd.R_drew)); exact HO273.out) hb); have n10_ := Aside0.mk (Kd.R_lower (Kd.R_new' (Kd.R_new' ho67 (Kd.R_lt (by (with_reducible repeat (first | apply Kd.R_alloc | apply Kd.R_drewN | apply Kd.R_drew)); exact HO249.out))) (Kd.R_lt (by (with_reducible repeat (first | apply Kd.R_alloc | apply Kd.R_drewN | apply Kd.R_drew)); exact HO259.out))) (below_size (by repeat (first | (with_reducible first | exact HB.out | apply below_alloc | apply pw_below_drewN | apply below_drew1 | refine below_set ?_ GE240.out) | exact HB.out)))); have n11_ := Aside0.mk (blk_below (g := gb240) (o := .cells #[.int .i64 3, .bool false, .slice Ao40 y237.length co40] 24 (0, 0)) (by (with_reducible repeat (first | refine blk_drewN ?_ _ | refine blk_drew ?_ | refine blk_alloc ?_ _)); exact BK240.out) hb); have n12_ := Aside0.mk (below_step (by repeat (first | (with_reducible first | exact HB.out | apply below_alloc | apply pw_below_drewN | apply below_drew1 | refine below_set ?_ GE240.out) | exact HB.out)) hb); clear HO239; clear HO243; clear HO246; clear HO249; clear HO253; clear HO256; clear HO259; clear HO263; clear HO268; clear HO273; clear BK240; clear HB; have HO239 := n0_; have HO243 := n1_; have HO246 := n2_; have HO249 := n3_; have HO253 := n4_; have HO256 := n5_; have HO259 := n6_; have HO263 := n7_; have HO268 := n8_; have HO273 := n9_; have HO277 := n10_; have BK240 := n11_; have HB := n12_; clear n0_ n1_ n2_ n3_ n4_ n5_ n6_ n7_ n8_ n9_ n10_ n11_ n12_; clear hb ho67; obtain ⟨Ao68, co68, eo68⟩ := Kd.R_slice HO249.out; subst eo68; obtain ⟨Ao69, co69, eo69⟩ := Kd.R_slice HO277.out; subst eo69) | (go_at_call 42; (with_reducible refine (ebbtideref10_Same.calls k _ _ t247 _ _ y275 t278 _ ?side1 ?side2 ?side3 ?side4 A37.out).mono ?_); (case side1 => repeat (first | exact (Kd.R_reads' HO249.out).2.2 | (with_reducible refine Kd.C_alloc ?_ _) | (with_reducible refine Kd.C_drewN ?_ _) | (with_reducible refine Kd.C_drew ?_))); (case side2 => exact (Kd.R_reads' HO249.out).2.1); (case side3 => repeat (first | exact (Kd.R_reads' HO277.out).2.2 | (with_reducible refine Kd.C_alloc ?_ _) | (with_reducible refine Kd.C_drewN ?_ _) | (with_reducible refine Kd.C_drew ?_))); (case side4 => exact (Kd.R_reads' HO277.out).2.1); rintro e w' ⟨rfl, ⟨nd, rfl⟩⟩))
 go_ret
 exact ⟨by first | rfl | (simp [errW_none, errW_some] <;> rfl) | (simp [*, errW_none, errW_some] <;> rfl), by repeat (first | (with_reducible first | exact HB.out | apply below_alloc | apply pw_below_drewN | apply below_drew1 | refine below_set ?_ GE240.out) | exact HB.out)⟩
end Go.Proofs.Ytkcpanpdipmmmaa.P
/- Arguments opened by their types: what a type's reading tells of its cells, as the print's kinds (Kd) say it, to any depth of slices and structs. -/
namespace Go.Proofs.Ytkcpanpdipmmmaa.Opn
open Go.RowKit Go.ChangeShapes Go.WideShapes Go.Deep Go.Proofs.YtkcpanpdipmmmaaW.PrintWords

def Opens (P : Program) (t : TypeId) {α : Type} (d : Kd α) (ok : α → Prop) : Prop :=
 ∀ (H : Type) (enc : TypeId × Value → H) (w : World) (base : Nat) (spare : Nat → Bool) (held : Bool) (fuel : Nat) (cs : List Value) (x : DataW H × List MemPlace),
  DataW.trod enc P w base spare held fuel t cs = some x → ∃ a : α, d.K w a cs ∧ ok a

theorem opens_int {P : Program} {t : TypeId} {k : IntKind} (ht : P.underlying t = some (.int k)) : Opens P t (Kd.int k) (fun n => (Lit.int k n).wf = true) := by
 intro H enc w base spare held fuel cs x h
 obtain ⟨n, rfl, _, hw⟩ := DataW.trod_int ht h
 exact ⟨n, rfl, hw⟩

theorem opens_bool {P : Program} {t : TypeId} (ht : P.underlying t = some .bool) : Opens P t Kd.bool (fun _ => True) := by
 intro H enc w base spare held fuel cs x h
 obtain ⟨b, rfl, _⟩ := DataW.trod_bool ht h
 exact ⟨b, rfl, trivial⟩

theorem opens_slice {P : Program} {t e : TypeId} {α : Type} {d : Kd α} {ok : α → Prop} (ht : P.underlying t = some (.slice e)) (hc : P.cellsOf e = d.sz) (h : Opens P e d ok) :
  Opens P t (Kd.slice e d) (fun l => l.length ≤ 9223372036854775807 ∧ ∀ x ∈ l, ok x) := by
 intro H enc w base spare held fuel cs x hx
 rcases open_slice ht hx with ⟨rfl, _⟩ | ⟨a, len, cap, m, n, D, Pl, rfl, hb, hl, hm, hmm, _, hi⟩
 ·exact ⟨[], ⟨none, 0, rfl, Nat.le_refl _, rfl, by simp, fun h => absurd h (by simp)⟩, by simp, by simp⟩
 ·have hlm : len ≤ m := by rw [hmm]; split <;> omega
  have hel : ∀ i : Nat, i < len → ∃ a' : α, ok a' ∧ ∃ c, c.length = d.sz ∧ d.K w a' c ∧ ∀ j u, c[j]? = some u → w.cell? (a.add (i * d.sz + j)) = some u := by
   intro i hil
   obtain ⟨cs', hcs, htr⟩ := hi i (by omega)
   obtain ⟨a', hK, hok⟩ := h H enc w base spare held n cs' _ htr
   rw [hc] at hcs
   obtain ⟨_, hcl, hat⟩ := World.cells?_some hcs
   refine ⟨a', hok, cs', hcl, hK, fun j u hu => ?_⟩
   have hj : j < d.sz := by have := (List.getElem?_eq_some_iff.1 hu).1; omega
   have := hat j hj
   rw [← Go.Deep.add_add, this, hu]
  have hrow : ∀ k : Nat, k ≤ len → ∃ xs : List α, xs.length = k ∧ (∀ x ∈ xs, ok x) ∧ ∀ j p, xs[j]? = some p → ∃ c, c.length = d.sz ∧ d.K w p c ∧ ∀ i u, c[i]? = some u → w.cell? (a.add (j * d.sz + i)) = some u := by
   intro k
   induction k with
   | zero => exact fun _ => ⟨[], rfl, by simp, by simp⟩
   | succ k ih =>
    intro hk
    obtain ⟨xs, h1, h2, h3⟩ := ih (by omega)
    obtain ⟨a', ho, c, hcl, hK, hcell⟩ := hel k (by omega)
    refine ⟨xs ++ [a'], by simp [h1], fun x hx => ?_, fun j p hj => ?_⟩
    ·rcases List.mem_append.1 hx with h | h
     ·exact h2 x h
     ·rw [List.mem_singleton.1 h]; exact ho
    ·by_cases hjk : j < xs.length
     ·rw [List.getElem?_append_left hjk] at hj
      exact h3 j p hj
     ·have hjl := (List.getElem?_eq_some_iff.1 hj).1
      simp at hjl
      have hje : j = k := by omega
      subst hje
      rw [← h1, List.getElem?_concat_length] at hj
      obtain rfl := Option.some.inj hj
      exact ⟨c, hcl, hK, hcell⟩
  obtain ⟨xs, h1, h2, h3⟩ := hrow len (Nat.le_refl _)
  have hmx : len ≤ 9223372036854775807 := by unfold maxLen at hm; omega
  subst h1
  exact ⟨xs, ⟨some a, cap, rfl, hl, rfl, hmx, fun _ => ⟨a, rfl, h3⟩⟩, hmx, h2⟩

theorem opens_iso {P : Program} {t : TypeId} {α β : Type} {d : Kd α} {ok : α → Prop} (h : Opens P t d ok) (f : β → α) (g : α → β) (hfg : ∀ x, f (g x) = x) : Opens P t (Kd.iso d f) (fun y => ok (f y)) := by
 intro H enc w base spare held fuel cs x hx
 obtain ⟨a, hK, hok⟩ := h H enc w base spare held fuel cs x hx
 exact ⟨g a, by show d.K w (f (g a)) cs; rw [hfg]; exact hK, by show ok (f (g a)); rw [hfg]; exact hok⟩

theorem opens_mono {P : Program} {t : TypeId} {α : Type} {d : Kd α} {ok ok' : α → Prop} (h : Opens P t d ok) (hi : ∀ a, ok a → ok' a) : Opens P t d ok' := by
 intro H enc w base spare held fuel cs x hx
 obtain ⟨a, hK, hok⟩ := h H enc w base spare held fuel cs x hx
 exact ⟨a, hK, hi a hok⟩

def OpensFs (P : Program) (fs : List Field) (off : Nat) {α : Type} (d : Kd α) (ok : α → Prop) : Prop :=
 ∀ (H : Type) (enc : TypeId × Value → H) (w : World) (base : Nat) (spare : Nat → Bool) (held : Bool) (n : Nat) (cs : List Value), cs.length = off + d.sz →
  (∀ f ∈ fs, ∃ y, DataW.trod enc P w base spare held n f.type ((cs.drop f.offset).take (P.cellsOf f.type)) = some y) → ∃ a : α, d.K w a (cs.drop off) ∧ ok a

theorem fs_one {P : Program} {f : Field} {off : Nat} {α : Type} {d : Kd α} {ok : α → Prop} (ho : f.offset = off) (hc : P.cellsOf f.type = d.sz) (h : Opens P f.type d ok) : OpensFs P [f] off d ok := by
 intro H enc w base spare held n cs hl hf
 obtain ⟨y, hy⟩ := hf f (by simp)
 rw [ho, hc, List.take_of_length_le (by simp; omega)] at hy
 exact h H enc w base spare held n _ y hy

theorem fs_cons {P : Program} {f : Field} {fs : List Field} {off : Nat} {α β : Type} {d : Kd α} {d' : Kd β} {ok : α → Prop} {ok' : β → Prop} (ho : f.offset = off) (hc : P.cellsOf f.type = d.sz) (h : Opens P f.type d ok)
  (hr : OpensFs P fs (off + d.sz) d' ok') : OpensFs P (f :: fs) off (Kd.pair d d') (fun x => ok x.1 ∧ ok' x.2) := by
 intro H enc w base spare held n cs hl hf
 have hsz : (Kd.pair d d').sz = d.sz + d'.sz := rfl
 rw [hsz] at hl
 obtain ⟨y, hy⟩ := hf f (by simp)
 rw [ho, hc] at hy
 obtain ⟨a, hK, hok⟩ := h H enc w base spare held n _ y hy
 obtain ⟨b, hKb, hokb⟩ := hr H enc w base spare held n cs (by omega) (fun f' hf' => hf f' (List.mem_cons_of_mem _ hf'))
 refine ⟨(a, b), ⟨_, _, ?_, hK, hKb⟩, hok, hokb⟩
 rw [← List.drop_drop]
 exact (List.take_append_drop _ _).symm

theorem opens_struct {P : Program} {t : TypeId} {fs : Array Field} {α : Type} {d : Kd α} {ok : α → Prop} (hs : P.underlying t = some (.struct fs)) (hC : P.cellsOf t = d.sz) (h : OpensFs P fs.toList 0 d ok) : Opens P t d ok := by
 intro H enc w base spare held fuel cs x hx
 obtain ⟨xs, n, _, _, hl, hlen, hf⟩ := DataW.trod_struct hs hx
 obtain ⟨a, hK, hok⟩ := h H enc w base spare held n cs (by rw [hl, hC, Nat.zero_add]) (fun f hfm => by
  obtain ⟨j, hj⟩ := List.getElem?_of_mem hfm
  have hj' : fs[j]? = some f := by rw [← hj]; simp
  have hjl : j < xs.length := by rw [hlen]; exact (Array.getElem?_eq_some_iff.1 hj').1
  have h1 := hf j f hj'
  rw [List.getElem?_eq_getElem hjl] at h1
  exact ⟨_, h1⟩)
 exact ⟨a, hK, hok⟩

theorem arg_struct {H : Type} {enc : TypeId × Value → H} {P : Program} {w : World} {base b0 : Nat} {spare : Nat → Bool} {held : Bool} {r : Reach} {t : TypeId} {fs : Array Field} {v : Value} {dd : DataW H} {p : List MemPlace} {α : Type} {d : Kd α} {ok : α → Prop}
  (hs : P.underlying t = some (.struct fs)) (ho : Opens P t d ok) (hv : Value.okWide P w r b0 t v) (h : DataW.Trod enc P w base spare held t v dd p) : ∃ a cs, v = .agg cs ∧ d.K w a cs.toList ∧ ok a := by
 obtain ⟨cs, rfl, hsz⟩ := okWide_struct hs hv
 obtain ⟨fuel, hf⟩ := h
 obtain ⟨a, hK, hok⟩ := ho H enc w base spare held fuel _ _ hf
 exact ⟨a, cs, rfl, by simpa [Value.cells] using hK, hok⟩

theorem arg_slice {H : Type} {enc : TypeId × Value → H} {P : Program} {w : World} {base b0 : Nat} {spare : Nat → Bool} {held : Bool} {r : Reach} {t e : TypeId} {v : Value} {dd : DataW H} {p : List MemPlace} {α : Type} {d : Kd α} {ok : List α → Prop}
  (hs : P.underlying t = some (.slice e)) (ho : Opens P t (Kd.slice e d) ok) (hv : Value.okWide P w r b0 t v) (h : DataW.Trod enc P w base spare held t v dd p) : ∃ A c l, v = .slice A l.length c ∧ l.length ≤ c ∧ d.C w A l.length l ∧ ok l := by
 obtain ⟨A, len, cap, rfl⟩ := okWide_slice hs hv
 obtain ⟨fuel, hf⟩ := h
 obtain ⟨l, ⟨A', c, he, hlc, hC⟩, hok⟩ := ho H enc w base spare held fuel _ _ hf
 simp [Value.cells] at he
 obtain ⟨rfl, rfl, rfl⟩ := he
 exact ⟨A, cap, l, rfl, hlc, hC, hok⟩
end Go.Proofs.Ytkcpanpdipmmmaa.Opn
/- The document's small example of layer 11 answers true. -/
namespace Go.Proofs.Ytkcpanpdipmmmaa.Q
open Go.RowKit Go.Proofs.YtkcpanpdipmmmaaW.PrintWords Go.Proofs.YtkcpanpdipmmmaaW.PrintLast Go.Proofs.YtkcpanpdipmmmaaW.PrintMore Go.Proofs.Ytkcpanpdipmmmaa.P
theorem awake11_at : ebbtidelaw11_awake.f 100 = some true := by decide +kernel
theorem awake11_ev : Ev (fun k => ebbtidelaw11_awake.f k) true := Ev.of ebbtidelaw11_awake.mono awake11_at
end Go.Proofs.Ytkcpanpdipmmmaa.Q
/- What the laws of layer 11 have in common. -/
namespace Go.Proofs.Ytkcpanpdipmmmaa.Q
open Go.RowKit Go.Proofs.YtkcpanpdipmmmaaW.PrintWords Go.Proofs.YtkcpanpdipmmmaaW.PrintLast Go.Proofs.YtkcpanpdipmmmaaW.PrintMore Go.Proofs.Ytkcpanpdipmmmaa.P
open Go.Proofs.Ytkcpanpdipmmmaa.H (farRes far_ev freeRes free_ev refF Right right_of)
theorem same10_l0 (a : List Bool) (hl : a.length ≤ 9223372036854775807) (d : Nat) : ∀ i : Nat, i + d = a.length → Ev (fun k => ebbtideref10_Same.l0 k a a (i : Int)) true := by
 induction d with
 | zero =>
  intro i hi
  refine Ev.succ ?_; simp only [ebbtideref10_Same.l0]
  refine Ev.neg (by omega) ?_
  exact Ev.now _
 | succ d ih =>
  intro i hi
  refine Ev.succ ?_; simp only [ebbtideref10_Same.l0]
  refine Ev.pos (by omega) ?_
  refine Ev.pos (by omega) ?_
  refine Ev.pos (by omega) ?_
  refine Ev.neg (by simp) ?_
  rw [wrap_succ (n := a.length) (by omega) (by omega)]
  exact ih (i + 1) (by omega)
theorem same10_ev (a : List Bool) (hl : a.length ≤ 9223372036854775807) : Ev (fun k => ebbtideref10_Same.f k a a) true := by
 unfold ebbtideref10_Same.f
 refine Ev.pos rfl ?_
 exact same10_l0 a hl a.length 0 (by omega)
theorem refF_len {l : List S74} {F : List Int} {n s : Nat} (hr : Right l F n) : (refF l F n s).D.length = n ∧ (refF l F n s).I.length = n := by
 have hw : ∀ s, s ∈ H.stepsR l F F.length → (H.stTo l s).toNat < n := fun s hs => by have := H.stTo_in hr (H.stepsR_of hr s hs); omega
 obtain ⟨o, _⟩ := H.itF_abs _ hw (n + 1) (H.startF_ok n s)
 exact ⟨o.hD, o.hI⟩
theorem farRes_len (n : Int) (l : List S74) (F : List Int) (s : Int) : (farRes n l F s).1.length ≤ 50 ∧ (farRes n l F s).2.1.length ≤ 50 := by
 unfold farRes
 split
 ·rename_i h
  obtain ⟨n0, rfl, hr⟩ := right_of h
  rw [Int.toNat_natCast]
  have := hr.fifty
  split
  ·split
   ·have h2 := refF_len hr (s := s.toNat)
    exact ⟨by show (refF l F n0 s.toNat).D.length ≤ 50; omega, by show (refF l F n0 s.toNat).I.length ≤ 50; omega⟩
   ·exact ⟨Nat.zero_le _, Nat.zero_le _⟩
  ·exact ⟨Nat.zero_le _, Nat.zero_le _⟩
 ·exact ⟨Nat.zero_le _, Nat.zero_le _⟩
theorem cost_far_ev (n : Int) (b : Bool) (l : List S74) (F : List Int) (s : Int) : Ev (fun k => cost_Far.f k n b l F s) (farRes n l F s) := far_ev n b l F s
theorem cost_free_ev (n : Int) (b : Bool) (l : List S74) (F : List Int) : Ev (fun k => cost_Free.f k n b l F) (freeRes n l F) := free_ev n b l F
end Go.Proofs.Ytkcpanpdipmmmaa.Q
