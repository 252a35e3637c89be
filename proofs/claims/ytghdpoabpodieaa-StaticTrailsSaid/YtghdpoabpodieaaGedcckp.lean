/- Joined by wip/tool/bundle.py out of: P30 QSums QLSums. -/
import Derived.Test.YtghdpoabpodieaaGajlpje
import Derived.Test.YtghdpoabpodieaaGkgobec
import Derived.Test.YtghdpoabpodieaaGclenol
-- Laid by wip/tool/mk.py, by the kit's print.py, for all laws of this seat in one namespace; a function told as by hand has a proof of this session's own.
namespace Go.Proofs.Ytghdpoabpodieaa.P
open Go.RowKit Go.Proofs.YtghdpoabpodieaaW.PrintWords Go.Proofs.YtghdpoabpodieaaW.PrintLast Go.Proofs.YtghdpoabpodieaaW.PrintMore
attribute [local go_sem] max2_int min2_int max_two min_two max_three min_three max_four min_four   -- for this text's walks alone
set_option linter.unusedVariables false
set_option linter.unusedSimpArgs false

/-! ### ebbtidelaw07_StaticSums: function 5 -/
mutual
def ebbtidelaw07_StaticSums.l0 : Nat → Int → Int → List Int → Bool → List Int → Int → Int → Int → Bool → List (S48) → Option (Bool)
 | 0, _, _, _, _, _, _, _, _, _, _ => none
 | k + 1, x1, x2, x3, x9, x10, x12, x13, x307000, x307001, x307002 => if x13 < (x10.length : Int) then (if 0 ≤ x13 then (ebbtidelaw07_StaticSums.l0 k x1 x2 x3 x9 x10 (wrap64 (x12 + (rd x10 x13))) (wrap64 (x13 + 1)) x307000 x307001 x307002) else (none)) else (if (x10.length : Int) = x307000 then (ebbtidelaw07_StaticSums.j1 k x1 x2 x3 x9 x10 (x12 != 0) x307000 x307001 x307002) else (ebbtidelaw07_StaticSums.j1 k x1 x2 x3 x9 x10 true x307000 x307001 x307002))
def ebbtidelaw07_StaticSums.j1 : Nat → Int → Int → List Int → Bool → List Int → Bool → Int → Bool → List (S48) → Option (Bool)
 | 0, _, _, _, _, _, _, _, _, _ => none
 | k + 1, x1, x2, x3, x9, x10, x53, x307000, x307001, x307002 => if x53 = true then (some false) else ((static_Check.f k x307000 x307001 x307002 x1 x2 x3).bind fun bt313 => (if bt313.2 = 0 then (if x9 = true then (if 0 ≤ x1 then (if x1 < (x10.length : Int) then (if (rd x10 x1) = bt313.1 then (if 0 ≤ x2 then (if x2 < (x10.length : Int) then (some ((rd x10 x2) == (wrap64 (-bt313.1)))) else (none)) else (none)) else (some false)) else (none)) else (none)) else (some false)) else (if x9 = true then (some (bt313.1 == 0)) else (some false))))
end
def ebbtidelaw07_StaticSums.f (k : Nat) (a0_0 : Int) (a0_1 : Bool) (l0_2 : List (S48)) (a1 : Int) (a2 : Int) (l3 : List Int) : Option (Bool) := (ebbtidelaw07_awake.f k).bind fun t307 => (if t307 = true then ((static_Balance.f k a0_0 a0_1 l0_2 l3).bind fun bt308 => (if bt308.2 = 0 then (ebbtidelaw07_StaticSums.l0 k a1 a2 l3 t307 bt308.1 0 0 a0_0 a0_1 l0_2) else (some ((bt308.1.length : Int) == 0)))) else (some false))
theorem ebbtidelaw07_StaticSums.mono_l : ∀ k, (∀ y0 y1 y2 y3 y4 y5 y6 y7 y8 y9, LeO (ebbtidelaw07_StaticSums.l0 k y0 y1 y2 y3 y4 y5 y6 y7 y8 y9) (ebbtidelaw07_StaticSums.l0 (k + 1) y0 y1 y2 y3 y4 y5 y6 y7 y8 y9)) ∧ (∀ y0 y1 y2 y3 y4 y5 y6 y7 y8, LeO (ebbtidelaw07_StaticSums.j1 k y0 y1 y2 y3 y4 y5 y6 y7 y8) (ebbtidelaw07_StaticSums.j1 (k + 1) y0 y1 y2 y3 y4 y5 y6 y7 y8))
 | 0 => ⟨fun _ _ _ _ _ _ _ _ _ _ r h => by simp [ebbtidelaw07_StaticSums.l0] at h, fun _ _ _ _ _ _ _ _ _ r h => by simp [ebbtidelaw07_StaticSums.j1] at h⟩
 | k + 1 => by
  obtain ⟨ih0, ih1⟩ := ebbtidelaw07_StaticSums.mono_l k
  refine ⟨?_, ?_⟩
  ·intro y0 y1 y2 y3 y4 y5 y6 y7 y8 y9
   unfold ebbtidelaw07_StaticSums.l0
   repeat' first
   | (with_reducible exact ih0 _ _ _ _ _ _ _ _ _ _)
   | (with_reducible exact ih1 _ _ _ _ _ _ _ _ _)
   | (with_reducible exact ebbtidelaw07_awake.mono _)
   | (with_reducible exact static_Balance.mono _ _ _ _ _)
   | (with_reducible exact static_Check.mono _ _ _ _ _ _ _)
   | (with_reducible exact LeO.refl _)
   | (with_reducible exact LeO.none _)
   | (with_reducible refine LeO.ite ?_ ?_)
   | (with_reducible refine LeO.bind ?_ (fun _ => ?_))
   | exact ih0 _ _ _ _ _ _ _ _ _ _
   | exact ih1 _ _ _ _ _ _ _ _ _
   | exact ebbtidelaw07_awake.mono _
   | exact static_Balance.mono _ _ _ _ _
   | exact static_Check.mono _ _ _ _ _ _ _
   | exact LeO.none _
   | refine LeO.ite ?_ ?_
   | refine LeO.bind ?_ (fun _ => ?_)
  ·intro y0 y1 y2 y3 y4 y5 y6 y7 y8
   unfold ebbtidelaw07_StaticSums.j1
   repeat' first
   | (with_reducible exact ih0 _ _ _ _ _ _ _ _ _ _)
   | (with_reducible exact ih1 _ _ _ _ _ _ _ _ _)
   | (with_reducible exact ebbtidelaw07_awake.mono _)
   | (with_reducible exact static_Balance.mono _ _ _ _ _)
   | (with_reducible exact static_Check.mono _ _ _ _ _ _ _)
   | (with_reducible exact LeO.refl _)
   | (with_reducible exact LeO.none _)
   | (with_reducible refine LeO.ite ?_ ?_)
   | (with_reducible refine LeO.bind ?_ (fun _ => ?_))
   | exact ih0 _ _ _ _ _ _ _ _ _ _
   | exact ih1 _ _ _ _ _ _ _ _ _
   | exact ebbtidelaw07_awake.mono _
   | exact static_Balance.mono _ _ _ _ _
   | exact static_Check.mono _ _ _ _ _ _ _
   | exact LeO.none _
   | refine LeO.ite ?_ ?_
   | refine LeO.bind ?_ (fun _ => ?_)
theorem ebbtidelaw07_StaticSums.mono : ∀ a0 a1 a2 a3 a4 a5 k, LeO (ebbtidelaw07_StaticSums.f k a0 a1 a2 a3 a4 a5) (ebbtidelaw07_StaticSums.f (k + 1) a0 a1 a2 a3 a4 a5) := by
 intro a0 a1 a2 a3 a4 a5 k
 obtain ⟨ih0, ih1⟩ := ebbtidelaw07_StaticSums.mono_l k
 unfold ebbtidelaw07_StaticSums.f
 repeat' first
   | (with_reducible exact ih0 _ _ _ _ _ _ _ _ _ _)
   | (with_reducible exact ih1 _ _ _ _ _ _ _ _ _)
   | (with_reducible exact ebbtidelaw07_awake.mono _)
   | (with_reducible exact static_Balance.mono _ _ _ _ _)
   | (with_reducible exact static_Check.mono _ _ _ _ _ _ _)
   | (with_reducible exact LeO.refl _)
   | (with_reducible exact LeO.none _)
   | (with_reducible refine LeO.ite ?_ ?_)
   | (with_reducible refine LeO.bind ?_ (fun _ => ?_))
   | exact ih0 _ _ _ _ _ _ _ _ _ _
   | exact ih1 _ _ _ _ _ _ _ _ _
   | exact ebbtidelaw07_awake.mono _
   | exact static_Balance.mono _ _ _ _ _
   | exact static_Check.mono _ _ _ _ _ _ _
   | exact LeO.none _
   | refine LeO.ite ?_ ?_
   | refine LeO.bind ?_ (fun _ => ?_)
set_option maxHeartbeats 8000000 in
set_option maxRecDepth 100000 in
theorem ebbtidelaw07_StaticSums.calls (k : Nat) (a0_0 : Int) (a0_1 : Bool) (A0_2 : Option Addr) (c0_2 : Nat) (l0_2 : List (S48)) (a1 : Int) (a2 : Int) (A3 : Option Addr) (c3 : Nat) (l3 : List Int) (r : Bool) (w : World) (hr0_2 : Kd.C k48 w A0_2 l0_2.length l0_2) (hc0_2 : l0_2.length ≤ c0_2) (hr3 : Kd.C (Kd.int .i64) w A3 l3.length l3) (hc3 : l3.length ≤ c3) (h : ebbtidelaw07_StaticSums.f k a0_0 a0_1 l0_2 a1 a2 l3 = some r) (hrT_ : r = true := by first | rfl | exact Aside0.out (by assumption)) :
  Calls Try.prog 5 #[.agg #[.int .i64 a0_0, .bool a0_1, .slice A0_2 l0_2.length c0_2], .int .i64 a1, .int .i64 a2, .slice A3 l3.length c3] w fun e w' => e = .returned (.bool r) ∧ Below w.heap.size w w' := by
 have HRT := Aside0.mk hrT_
 clear hrT_
 have hu24 := Try.underlying24
 have HR0_2 := Aside0.mk hr0_2
 have HC0_2 := Aside0.mk hc0_2
 clear hr0_2 hc0_2
 have HR3 := Aside0.mk hr3
 have HC3 := Aside0.mk hc3
 clear hr3 hc3
 have HB := Aside0.mk (Below.refl w.heap.size w)
 have H : ((ebbtidelaw07_awake.f k).bind fun t307 => (if t307 = true then ((static_Balance.f k a0_0 a0_1 l0_2 l3).bind fun bt308 => (if bt308.2 = 0 then (ebbtidelaw07_StaticSums.l0 k a1 a2 l3 t307 bt308.1 0 0 a0_0 a0_1 l0_2) else (some ((bt308.1.length : Int) == 0)))) else (some false))) = some r := h
 clear h
 replace H := Option.bind_eq_some_iff.mp H
 obtain ⟨t307, A50, H⟩ := H
 replace H : (if t307 = true then ((static_Balance.f k a0_0 a0_1 l0_2 l3).bind fun bt308 => (if bt308.2 = 0 then (ebbtidelaw07_StaticSums.l0 k a1 a2 l3 t307 bt308.1 0 0 a0_0 a0_1 l0_2) else (some ((bt308.1.length : Int) == 0)))) else (some false)) = some r := H
 have A5 := Aside0.mk A50
 clear A50
 by_cases c6 : t307 = true
 ·subst c6
  have H1 : ((static_Balance.f k a0_0 a0_1 l0_2 l3).bind fun bt308 => (if bt308.2 = 0 then (ebbtidelaw07_StaticSums.l0 k a1 a2 l3 true bt308.1 0 0 a0_0 a0_1 l0_2) else (some ((bt308.1.length : Int) == 0)))) = some r := by rw [if_pos rfl] at H; exact H
  clear H
  have H := H1
  clear H1
  replace H := Option.bind_eq_some_iff.mp H
  obtain ⟨⟨t308, t311⟩, A70, H⟩ := H
  replace H : (if t311 = 0 then (ebbtidelaw07_StaticSums.l0 k a1 a2 l3 true t308 0 0 a0_0 a0_1 l0_2) else (some ((t308.length : Int) == 0))) = some r := H
  have A7 := Aside0.mk A70
  clear A70
  by_cases c8 : t311 = 0
  ·rw [if_pos c8] at H
   have c8b0 : (t311 == 0) = true := beq_iff_eq.mpr c8
   have c8b1 : (t311 != 0) = false := bne_eq_false_iff_eq.mpr c8
   clear c8
   have H' := Aside0.mk H
   clear H
   go_enter Try.func5, Try.ntmps5
   go_wp2_with (first | ((with_reducible refine gate_dst (N := 4) rfl ?_); (try (refine gate_guard (by rfl) ?_; dsimp only)); refine box_event ?hg (N := 4) ?hd (cs := #[.int .i64 a0_0, .bool a0_1, .slice A0_2 l0_2.length c0_2]) (t := 24) ?hr ?_; (case hd => rfl); (case hg => rfl); (case hr => first | (go_simp; done) | (go_simp; rfl)); intro gb306 hg w9 hbox hb; have n0_ := Aside0.mk (below_step (by repeat (first | (with_reducible first | exact HB.out | apply below_alloc | apply pw_below_drewN | apply below_drew1) | exact HB.out)) hb); have n1_ := Aside0.mk (hbox); have n2_ := Aside0.mk ((by rw [hg]; exact (below_size (by repeat (first | (with_reducible first | exact HB.out | apply below_alloc | apply pw_below_drewN | apply below_drew1) | exact HB.out))) : w.heap.size ≤ gb306)); have n3_ := Aside0.mk ((by rw [hg]; exact (below_size (by repeat (first | (with_reducible first | exact HB.out | apply below_alloc | apply pw_below_drewN | apply below_drew1) | exact HB.out))) : w.heap.size ≤ gb306)); clear HB; have HB := n0_; have BK306 := n1_; have GW306 := n2_; have GE306 := n3_; clear n0_ n1_ n2_ n3_; clear hb hbox hg) | ((with_reducible refine gate_callee (f := 12) rfl ?_); refine goesL_ (some 16) rfl rfl Try.func12 (by kernel_rfl) rfl #[] rfl (by (try simp only [List.map_toArray, List.map_cons, List.map_nil]); first | done | rfl | (simp only [List.length_drop, List.length_take]; rfl)) ?_; (with_reducible refine (ebbtidelaw07_awake.calls k  true _ A5.out).mono ?_); rintro e w10 ⟨rfl, hb⟩; refine ⟨_, rfl, ?_⟩; have n0_ := Aside0.mk (blk_below (g := gb306) (o := .cells #[.int .i64 a0_0, .bool a0_1, .slice A0_2 l0_2.length c0_2] 24 (0, 0)) (by (with_reducible repeat (first | refine blk_drewN ?_ _ | refine blk_drew ?_ | refine blk_alloc ?_ _)); exact BK306.out) hb); have n1_ := Aside0.mk (below_step (by repeat (first | (with_reducible first | exact HB.out | apply below_alloc | apply pw_below_drewN | apply below_drew1 | refine below_set ?_ GE306.out) | exact HB.out)) hb); clear BK306; clear HB; have BK306 := n0_; have HB := n1_; clear n0_ n1_; (try clear hb); (try clear hb2); (try clear hk); (try clear hi); have hcz11_0 : w10.cell? ⟨gb306, 0, none⟩ = some (.int .i64 a0_0) := (blk_cell BK306.out 0).trans rfl; have hcz11_1 : w10.cell? ⟨gb306, 1, none⟩ = some (.bool a0_1) := (blk_cell BK306.out 1).trans rfl; have hcz11_2 : w10.cell? ⟨gb306, 2, none⟩ = some (.slice A0_2 l0_2.length c0_2) := (blk_cell BK306.out 2).trans rfl; have hfz11_0 := blk_frozen BK306.out 0; have hfz11_1 := blk_frozen BK306.out 1; have hfz11_2 := blk_frozen BK306.out 2) | ((with_reducible refine gate_callee (f := 8) rfl ?_); refine goesL_ (some 22) rfl rfl Try.func8 (by kernel_rfl) rfl #[.agg #[.int .i64 a0_0, .bool a0_1, .slice A0_2 l0_2.length c0_2], .slice A3 l3.length c3] rfl (by (try simp only [List.map_toArray, List.map_cons, List.map_nil]); first | done | rfl | (simp only [List.length_drop, List.length_take]; rfl)) ?_; (with_reducible refine (static_Balance.calls k a0_0 a0_1 _ _ l0_2 _ _ l3 t308 t311 _ ?side1 ?side2 ?side3 ?side4 A7.out).mono ?_); (case side1 => repeat (first | exact (Kd.C_below HR0_2.out HB.out) | (with_reducible refine Kd.C_alloc ?_ _) | (with_reducible refine Kd.C_drewN ?_ _) | (with_reducible refine Kd.C_drew ?_))); (case side2 => exact HC0_2.out); (case side3 => repeat (first | exact (Kd.C_below HR3.out HB.out) | (with_reducible refine Kd.C_alloc ?_ _) | (with_reducible refine Kd.C_drewN ?_ _) | (with_reducible refine Kd.C_drew ?_))); (case side4 => exact HC3.out); rintro e w12 ⟨v309, rfl, ho0, hb⟩; refine ⟨_, rfl, ?_⟩; have n0_ := Aside0.mk (Kd.R_lower ho0 (below_size (by repeat (first | (with_reducible first | exact HB.out | apply below_alloc | apply pw_below_drewN | apply below_drew1 | refine below_set ?_ GE306.out) | exact HB.out)))); have n1_ := Aside0.mk (blk_below (g := gb306) (o := .cells #[.int .i64 a0_0, .bool a0_1, .slice A0_2 l0_2.length c0_2] 24 (0, 0)) (by (with_reducible repeat (first | refine blk_drewN ?_ _ | refine blk_drew ?_ | refine blk_alloc ?_ _)); exact BK306.out) hb); have n2_ := Aside0.mk (below_step (by repeat (first | (with_reducible first | exact HB.out | apply below_alloc | apply pw_below_drewN | apply below_drew1 | refine below_set ?_ GE306.out) | exact HB.out)) hb); clear BK306; clear HB; have HO310 := n0_; have BK306 := n1_; have HB := n2_; clear n0_ n1_ n2_; (try clear hb); (try clear hb2); (try clear hk); (try clear hi); (try clear ho0)))
   go_loopg [12, 13] k (fun kq v12 v13 w' => ∃ (x12_1 : Int) (x13_1 : Int), v12 = .int .i64 x12_1 ∧ v13 = .int .i64 x13_1 ∧ Aside0 (ebbtidelaw07_StaticSums.l0 kq a1 a2 l3 true t308 x12_1 x13_1 a0_0 a0_1 l0_2 = some r) ∧ Aside0 (kq ≤ k) ∧ Aside0 (Kd.R (Kd.int .i64) 3 w' w.heap.size (fun _ => True) v309 t308) ∧ Aside0 (w'.heap[gb306]? = some (.cells #[.int .i64 a0_0, .bool a0_1, (.slice A0_2 l0_2.length c0_2)] 24 (0, 0))) ∧ Aside0 (Below w.heap.size w w'))
   case atStart => exact ⟨(0), (0), (by first | rfl | (simp; done) | (simp [*]; done)), (by first | rfl | (simp; done) | (simp [*]; done)), H', ⟨Nat.le_refl _⟩, ⟨by (with_reducible repeat (first | apply Kd.R_alloc | apply Kd.R_drewN | apply Kd.R_drew)); exact HO310.out⟩, ⟨by (with_reducible repeat (first | refine blk_drewN ?_ _ | refine blk_drew ?_ | refine blk_alloc ?_ _)); exact BK306.out⟩, ⟨by repeat (first | (with_reducible first | exact HB.out | apply below_alloc | apply pw_below_drewN | apply below_drew1 | refine below_set ?_ GE306.out) | exact HB.out)⟩⟩
   case round =>
    clear H'
    try clear c1
    try clear p2
    try clear c3
    try clear c5
    try clear c6
    try clear c8
    try clear c8b0
    try clear c8b1
    try clear c12
    try clear hcz11_0
    try clear hcz11_1
    try clear hcz11_2
    try clear hfz11_0
    try clear hfz11_1
    try clear hfz11_2
    obtain ⟨x12_1, x13_1, rfl, rfl, HA, HK1, HO_10, BK306, HB⟩ := hrel
    cases gk with
    | zero => exact absurd HA.out (by simp [ebbtidelaw07_StaticSums.l0])
    | succ k1 =>
     have H := HA.out
     clear HA
     simp only [ebbtidelaw07_StaticSums.l0] at H
     by_cases c13 : x13_1 < (t308.length : Int)
     ·rw [if_pos c13] at H
      have c13b0 : decide (x13_1 < (t308.length : Int)) = true := decide_eq_true c13
      clear c13
      by_cases c14 : 0 ≤ x13_1
      ·rw [if_pos c14] at H
       have c14b0 : decide (0 ≤ x13_1) = true := decide_eq_true c14
       clear c14
       have H' := Aside0.mk H
       clear H
       obtain ⟨Ao15, co15, eo15⟩ := Kd.R_slice HO_10.out
       subst eo15
       have p312 : 0 ≤ (x13_1 : Int) := of_decide_eq_true (by first | (with_reducible assumption) | assumption)
       have q312 : x13_1 < (t308.length : Int) := of_decide_eq_true (by first | (with_reducible assumption) | assumption)
       obtain ⟨ad312, e312, hx312_0⟩ := Kd.at_int (Kd.R_reads' HO_10.out).2.2 x13_1 p312 q312
       cases e312
       replace p312 := eq_true p312
       replace q312 := eq_true q312
       go_wp2
       go_roundg k1
       case measure => have := HK1.out; omega
       case rel => exact ⟨(wrap64 (x12_1 + (rd t308 x13_1))), (wrap64 (x13_1 + 1)), (by first | rfl | (simp; done) | (simp [*]; done)), (by first | rfl | (simp; done) | (simp [*]; done)), H', ⟨by have := HK1.out; omega⟩, ⟨by (with_reducible repeat (first | apply Kd.R_alloc | apply Kd.R_drewN | apply Kd.R_drew)); exact HO_10.out⟩, ⟨by (with_reducible repeat (first | refine blk_drewN ?_ _ | refine blk_drew ?_ | refine blk_alloc ?_ _)); exact BK306.out⟩, ⟨by repeat (first | (with_reducible first | exact HB.out | apply below_alloc | apply pw_below_drewN | apply below_drew1 | refine below_set ?_ GE306.out) | exact HB.out)⟩⟩
      ·rw [if_neg c14] at H
       exact absurd H (by simp)
     ·rw [if_neg c13] at H
      have c13b0 : decide (x13_1 < (t308.length : Int)) = false := decide_eq_false c13
      clear c13
      have HC16 := Aside0.mk H
      clear H
      obtain ⟨Ao17, co17, eo17⟩ := Kd.R_slice HO_10.out
      subst eo17
      go_upto_region 12 with (fail)
      go_cut [53] (fun v53 wc => ∃ (kq : Nat) (x53_15 : Bool), v53 = .bool x53_15 ∧ Aside0 (ebbtidelaw07_StaticSums.j1 kq a1 a2 l3 true t308 x53_15 a0_0 a0_1 l0_2 = some r) ∧ Aside0 (kq ≤ k1) ∧ Aside0 (Kd.R (Kd.int .i64) 3 wc w.heap.size (fun _ => True) (.slice Ao17 t308.length co17) t308) ∧ Aside0 (wc.heap[gb306]? = some (.cells #[.int .i64 a0_0, .bool a0_1, (.slice A0_2 l0_2.length c0_2)] 24 (0, 0))) ∧ Aside0 (Below w.heap.size w wc))
      case first =>
       have H := HC16.out
       clear HC16
       by_cases c18 : (t308.length : Int) = a0_0
       ·rw [if_pos c18] at H
        have c18b0 : ((t308.length : Int) == a0_0) = true := beq_iff_eq.mpr c18
        have c18b1 : ((t308.length : Int) != a0_0) = false := bne_eq_false_iff_eq.mpr c18
        clear c18
        (first | rw [c18b0] | (simp only [i64_w, i32_w]; rw [c18b0]) | skip)
        have H' := Aside0.mk H
        clear H
        have hcz19_0 : wr.cell? ⟨gb306, 0, none⟩ = some (.int .i64 a0_0) := (blk_cell BK306.out 0).trans rfl
        have hcz19_1 : wr.cell? ⟨gb306, 1, none⟩ = some (.bool a0_1) := (blk_cell BK306.out 1).trans rfl
        have hcz19_2 : wr.cell? ⟨gb306, 2, none⟩ = some (.slice A0_2 l0_2.length c0_2) := (blk_cell BK306.out 2).trans rfl
        have hfz19_0 := blk_frozen BK306.out 0
        have hfz19_1 := blk_frozen BK306.out 1
        have hfz19_2 := blk_frozen BK306.out 2
        go_wp2
        go_meet
        case rel => exact ⟨_, ((x12_1 != 0)), (by first | rfl | (simp; done) | (simp [*]; done)), H', ⟨by have := HK1.out; first | omega | exact Nat.le_refl _⟩, ⟨by (with_reducible repeat (first | apply Kd.R_alloc | apply Kd.R_drewN | apply Kd.R_drew)); exact HO_10.out⟩, ⟨by (with_reducible repeat (first | refine blk_drewN ?_ _ | refine blk_drew ?_ | refine blk_alloc ?_ _)); exact BK306.out⟩, ⟨by repeat (first | (with_reducible first | exact HB.out | apply below_alloc | apply pw_below_drewN | apply below_drew1 | refine below_set ?_ GE306.out) | exact HB.out)⟩⟩
       ·rw [if_neg c18] at H
        have c18b0 : ((t308.length : Int) == a0_0) = false := beq_eq_false_iff_ne.mpr c18
        have c18b1 : ((t308.length : Int) != a0_0) = true := bne_iff_ne.mpr c18
        (first | rw [c18b0] | (simp only [i64_w, i32_w]; rw [c18b0]) | skip)
        have H' := Aside0.mk H
        clear H
        have hcz20_0 : wr.cell? ⟨gb306, 0, none⟩ = some (.int .i64 a0_0) := (blk_cell BK306.out 0).trans rfl
        have hcz20_1 : wr.cell? ⟨gb306, 1, none⟩ = some (.bool a0_1) := (blk_cell BK306.out 1).trans rfl
        have hcz20_2 : wr.cell? ⟨gb306, 2, none⟩ = some (.slice A0_2 l0_2.length c0_2) := (blk_cell BK306.out 2).trans rfl
        have hfz20_0 := blk_frozen BK306.out 0
        have hfz20_1 := blk_frozen BK306.out 1
        have hfz20_2 := blk_frozen BK306.out 2
        go_wp2
        go_meet
        case rel => exact ⟨_, (true), (by first | rfl | (simp; done) | (simp [*]; done)), H', ⟨by have := HK1.out; first | omega | exact Nat.le_refl _⟩, ⟨by (with_reducible repeat (first | apply Kd.R_alloc | apply Kd.R_drewN | apply Kd.R_drew)); exact HO_10.out⟩, ⟨by (with_reducible repeat (first | refine blk_drewN ?_ _ | refine blk_drew ?_ | refine blk_alloc ?_ _)); exact BK306.out⟩, ⟨by repeat (first | (with_reducible first | exact HB.out | apply below_alloc | apply pw_below_drewN | apply below_drew1 | refine below_set ?_ GE306.out) | exact HB.out)⟩⟩
      case rest =>
       clear HC16
       try clear c1
       try clear p2
       try clear c3
       try clear p3
       try clear q3
       try clear hx3
       try clear c5
       try clear c6
       try clear p6
       try clear c8
       try clear c8b0
       try clear c8b1
       try clear c12
       try clear c13
       try clear c13b0
       try clear c14
       try clear c14b0
       try clear c18
       try clear c18b0
       try clear c18b1
       try clear hcz11_0
       try clear hcz11_1
       try clear hcz11_2
       try clear hcz19_0
       try clear hcz19_1
       try clear hcz19_2
       try clear hcz20_0
       try clear hcz20_1
       try clear hcz20_2
       try clear hfz11_0
       try clear hfz11_1
       try clear hfz11_2
       try clear hfz19_0
       try clear hfz19_1
       try clear hfz19_2
       try clear hfz20_0
       try clear hfz20_1
       try clear hfz20_2
       try clear hx312_0
       try clear p2
       try clear p312
       try clear q312
       obtain ⟨kq, x53_15, rfl, HA, HJ15, HO_10, BK306, HB⟩ := hcut
       cases kq with
       | zero => exact absurd HA.out (by simp [ebbtidelaw07_StaticSums.j1])
       | succ kj15 =>
        have H := HA.out
        clear HA
        simp only [ebbtidelaw07_StaticSums.j1] at H
        by_cases c21 : x53_15 = true
        ·subst c21
         have H1 : (some false) = some r := by rw [if_pos rfl] at H; exact H
         exact absurd (Option.some.inj H1) (by rw [HRT.out]; decide)
        ·replace c21 := Bool.eq_false_iff.mpr c21
         subst c21
         have H1 : ((static_Check.f kj15 a0_0 a0_1 l0_2 a1 a2 l3).bind fun bt313 => (if bt313.2 = 0 then (if true = true then (if 0 ≤ a1 then (if a1 < (t308.length : Int) then (if (rd t308 a1) = bt313.1 then (if 0 ≤ a2 then (if a2 < (t308.length : Int) then (some ((rd t308 a2) == (wrap64 (-bt313.1)))) else (none)) else (none)) else (some false)) else (none)) else (none)) else (some false)) else (if true = true then (some (bt313.1 == 0)) else (some false)))) = some r := by rw [if_neg (show ¬ (false = true) by decide)] at H; exact H
         clear H
         have H := H1
         clear H1
         replace H := Option.bind_eq_some_iff.mp H
         obtain ⟨⟨t313, t314⟩, A220, H⟩ := H
         replace H : (if t314 = 0 then (if true = true then (if 0 ≤ a1 then (if a1 < (t308.length : Int) then (if (rd t308 a1) = t313 then (if 0 ≤ a2 then (if a2 < (t308.length : Int) then (some ((rd t308 a2) == (wrap64 (-t313)))) else (none)) else (none)) else (some false)) else (none)) else (none)) else (some false)) else (if true = true then (some (t313 == 0)) else (some false))) = some r := H
         have A22 := Aside0.mk A220
         clear A220
         by_cases c23 : t314 = 0
         ·rw [if_pos c23] at H
          have c23b0 : (t314 == 0) = true := beq_iff_eq.mpr c23
          have c23b1 : (t314 != 0) = false := bne_eq_false_iff_eq.mpr c23
          clear c23
          by_cases c24 : true = true
          ·clear c24
           have H1 : (if 0 ≤ a1 then (if a1 < (t308.length : Int) then (if (rd t308 a1) = t313 then (if 0 ≤ a2 then (if a2 < (t308.length : Int) then (some ((rd t308 a2) == (wrap64 (-t313)))) else (none)) else (none)) else (some false)) else (none)) else (none)) = some r := by rw [if_pos rfl] at H; exact H
           clear H
           have H := H1
           clear H1
           by_cases c25 : 0 ≤ a1
           ·rw [if_pos c25] at H
            have c25b0 : decide (0 ≤ a1) = true := decide_eq_true c25
            clear c25
            by_cases c26 : a1 < (t308.length : Int)
            ·rw [if_pos c26] at H
             have c26b0 : decide (a1 < (t308.length : Int)) = true := decide_eq_true c26
             clear c26
             by_cases c27 : (rd t308 a1) = t313
             ·rw [if_pos c27] at H
              have c27b0 : ((rd t308 a1) == t313) = true := beq_iff_eq.mpr c27
              have c27b1 : ((rd t308 a1) != t313) = false := bne_eq_false_iff_eq.mpr c27
              clear c27
              by_cases c28 : 0 ≤ a2
              ·rw [if_pos c28] at H
               have c28b0 : decide (0 ≤ a2) = true := decide_eq_true c28
               clear c28
               by_cases c29 : a2 < (t308.length : Int)
               ·rw [if_pos c29] at H
                have c29b0 : decide (a2 < (t308.length : Int)) = true := decide_eq_true c29
                clear c29
                obtain rfl := Option.some.inj H
                have hcz30_0 : wc.cell? ⟨gb306, 0, none⟩ = some (.int .i64 a0_0) := (blk_cell BK306.out 0).trans rfl
                have hcz30_1 : wc.cell? ⟨gb306, 1, none⟩ = some (.bool a0_1) := (blk_cell BK306.out 1).trans rfl
                have hcz30_2 : wc.cell? ⟨gb306, 2, none⟩ = some (.slice A0_2 l0_2.length c0_2) := (blk_cell BK306.out 2).trans rfl
                have hfz30_0 := blk_frozen BK306.out 0
                have hfz30_1 := blk_frozen BK306.out 1
                have hfz30_2 := blk_frozen BK306.out 2
                go_wp2_with (first | ((with_reducible refine gate_callee (f := 10) rfl ?_); refine goesL_ (some 59) rfl rfl Try.func10 (by kernel_rfl) rfl #[.agg #[.int .i64 a0_0, .bool a0_1, .slice A0_2 l0_2.length c0_2], .int .i64 a1, .int .i64 a2, .slice A3 l3.length c3] rfl (by (try simp only [List.map_toArray, List.map_cons, List.map_nil]); first | done | rfl | (simp only [List.length_drop, List.length_take]; rfl)) ?_; (with_reducible refine (static_Check.calls kj15 a0_0 a0_1 _ _ l0_2 a1 a2 _ _ l3 t313 t314 _ ?side1 ?side2 ?side3 ?side4 A22.out).mono ?_); (case side1 => repeat (first | exact (Kd.C_below HR0_2.out HB.out) | (with_reducible refine Kd.C_alloc ?_ _) | (with_reducible refine Kd.C_drewN ?_ _) | (with_reducible refine Kd.C_drew ?_))); (case side2 => exact HC0_2.out); (case side3 => repeat (first | exact (Kd.C_below HR3.out HB.out) | (with_reducible refine Kd.C_alloc ?_ _) | (with_reducible refine Kd.C_drewN ?_ _) | (with_reducible refine Kd.C_drew ?_))); (case side4 => exact HC3.out); rintro e w31 ⟨rfl, hb⟩; refine ⟨_, rfl, ?_⟩; have n0_ := Aside0.mk (Kd.R_below (by (with_reducible repeat (first | apply Kd.R_alloc | apply Kd.R_drewN | apply Kd.R_drew)); exact HO_10.out) hb); have n1_ := Aside0.mk (blk_below (g := gb306) (o := .cells #[.int .i64 a0_0, .bool a0_1, .slice A0_2 l0_2.length c0_2] 24 (0, 0)) (by (with_reducible repeat (first | refine blk_drewN ?_ _ | refine blk_drew ?_ | refine blk_alloc ?_ _)); exact BK306.out) hb); have n2_ := Aside0.mk (below_step (by repeat (first | (with_reducible first | exact HB.out | apply below_alloc | apply pw_below_drewN | apply below_drew1 | refine below_set ?_ GE306.out) | exact HB.out)) hb); clear HO_10; clear BK306; clear HB; have HO_10 := n0_; have BK306 := n1_; have HB := n2_; clear n0_ n1_ n2_; (try clear hb); (try clear hb2); (try clear hk); (try clear hi); have p315 : 0 ≤ (a1 : Int) := of_decide_eq_true (by first | (with_reducible assumption) | assumption); have q315 : a1 < (t308.length : Int) := of_decide_eq_true (by first | (with_reducible assumption) | assumption); obtain ⟨ad315, e315, hx315_0⟩ := Kd.at_int (Kd.R_reads' HO_10.out).2.2 a1 p315 q315; cases e315; replace p315 := eq_true p315; replace q315 := eq_true q315; have p316 : 0 ≤ (a2 : Int) := of_decide_eq_true (by first | (with_reducible assumption) | assumption); have q316 : a2 < (t308.length : Int) := of_decide_eq_true (by first | (with_reducible assumption) | assumption); obtain ⟨ad316, e316, hx316_0⟩ := Kd.at_int (Kd.R_reads' HO_10.out).2.2 a2 p316 q316; obtain rfl : ad315 = ad316 := (by injection e316); replace p316 := eq_true p316; replace q316 := eq_true q316))
                go_ret
                exact ⟨by first | rfl | (simp [errW_none, errW_some] <;> rfl) | (simp [*, errW_none, errW_some] <;> rfl), by repeat (first | (with_reducible first | exact HB.out | apply below_alloc | apply pw_below_drewN | apply below_drew1 | refine below_set ?_ GE306.out) | exact HB.out)⟩
               ·rw [if_neg c29] at H
                exact absurd H (by simp)
              ·rw [if_neg c28] at H
               exact absurd H (by simp)
             ·rw [if_neg c27] at H
              exact absurd (Option.some.inj H) (by rw [HRT.out]; decide)
            ·rw [if_neg c26] at H
             exact absurd H (by simp)
           ·rw [if_neg c25] at H
            exact absurd H (by simp)
          ·exact absurd rfl c24
         ·rw [if_neg c23] at H
          have c23b0 : (t314 == 0) = false := beq_eq_false_iff_ne.mpr c23
          have c23b1 : (t314 != 0) = true := bne_iff_ne.mpr c23
          by_cases c36 : true = true
          ·clear c36
           have H1 : (some (t313 == 0)) = some r := by rw [if_pos rfl] at H; exact H
           clear H
           have H := H1
           clear H1
           obtain rfl := Option.some.inj H
           have hcz37_0 : wc.cell? ⟨gb306, 0, none⟩ = some (.int .i64 a0_0) := (blk_cell BK306.out 0).trans rfl
           have hcz37_1 : wc.cell? ⟨gb306, 1, none⟩ = some (.bool a0_1) := (blk_cell BK306.out 1).trans rfl
           have hcz37_2 : wc.cell? ⟨gb306, 2, none⟩ = some (.slice A0_2 l0_2.length c0_2) := (blk_cell BK306.out 2).trans rfl
           have hfz37_0 := blk_frozen BK306.out 0
           have hfz37_1 := blk_frozen BK306.out 1
           have hfz37_2 := blk_frozen BK306.out 2
           go_wp2_with (first | ((with_reducible refine gate_callee (f := 10) rfl ?_); refine goesL_ (some 59) rfl rfl Try.func10 (by kernel_rfl) rfl #[.agg #[.int .i64 a0_0, .bool a0_1, .slice A0_2 l0_2.length c0_2], .int .i64 a1, .int .i64 a2, .slice A3 l3.length c3] rfl (by (try simp only [List.map_toArray, List.map_cons, List.map_nil]); first | done | rfl | (simp only [List.length_drop, List.length_take]; rfl)) ?_; (with_reducible refine (static_Check.calls kj15 a0_0 a0_1 _ _ l0_2 a1 a2 _ _ l3 t313 t314 _ ?side1 ?side2 ?side3 ?side4 A22.out).mono ?_); (case side1 => repeat (first | exact (Kd.C_below HR0_2.out HB.out) | (with_reducible refine Kd.C_alloc ?_ _) | (with_reducible refine Kd.C_drewN ?_ _) | (with_reducible refine Kd.C_drew ?_))); (case side2 => exact HC0_2.out); (case side3 => repeat (first | exact (Kd.C_below HR3.out HB.out) | (with_reducible refine Kd.C_alloc ?_ _) | (with_reducible refine Kd.C_drewN ?_ _) | (with_reducible refine Kd.C_drew ?_))); (case side4 => exact HC3.out); rintro e w38 ⟨rfl, hb⟩; refine ⟨_, rfl, ?_⟩; have n0_ := Aside0.mk (Kd.R_below (by (with_reducible repeat (first | apply Kd.R_alloc | apply Kd.R_drewN | apply Kd.R_drew)); exact HO_10.out) hb); have n1_ := Aside0.mk (blk_below (g := gb306) (o := .cells #[.int .i64 a0_0, .bool a0_1, .slice A0_2 l0_2.length c0_2] 24 (0, 0)) (by (with_reducible repeat (first | refine blk_drewN ?_ _ | refine blk_drew ?_ | refine blk_alloc ?_ _)); exact BK306.out) hb); have n2_ := Aside0.mk (below_step (by repeat (first | (with_reducible first | exact HB.out | apply below_alloc | apply pw_below_drewN | apply below_drew1 | refine below_set ?_ GE306.out) | exact HB.out)) hb); clear HO_10; clear BK306; clear HB; have HO_10 := n0_; have BK306 := n1_; have HB := n2_; clear n0_ n1_ n2_; (try clear hb); (try clear hb2); (try clear hk); (try clear hi)))
           go_ret
           exact ⟨by first | rfl | (simp [errW_none, errW_some] <;> rfl) | (simp [*, errW_none, errW_some] <;> rfl), by repeat (first | (with_reducible first | exact HB.out | apply below_alloc | apply pw_below_drewN | apply below_drew1 | refine below_set ?_ GE306.out) | exact HB.out)⟩
          ·exact absurd rfl c36
  ·rw [if_neg c8] at H
   have c8b0 : (t311 == 0) = false := beq_eq_false_iff_ne.mpr c8
   have c8b1 : (t311 != 0) = true := bne_iff_ne.mpr c8
   obtain rfl := Option.some.inj H
   go_enter Try.func5, Try.ntmps5
   go_wp2_with (first | ((with_reducible refine gate_dst (N := 4) rfl ?_); (try (refine gate_guard (by rfl) ?_; dsimp only)); refine box_event ?hg (N := 4) ?hd (cs := #[.int .i64 a0_0, .bool a0_1, .slice A0_2 l0_2.length c0_2]) (t := 24) ?hr ?_; (case hd => rfl); (case hg => rfl); (case hr => first | (go_simp; done) | (go_simp; rfl)); intro gb306 hg w41 hbox hb; have n0_ := Aside0.mk (below_step (by repeat (first | (with_reducible first | exact HB.out | apply below_alloc | apply pw_below_drewN | apply below_drew1) | exact HB.out)) hb); have n1_ := Aside0.mk (hbox); have n2_ := Aside0.mk ((by rw [hg]; exact (below_size (by repeat (first | (with_reducible first | exact HB.out | apply below_alloc | apply pw_below_drewN | apply below_drew1) | exact HB.out))) : w.heap.size ≤ gb306)); have n3_ := Aside0.mk ((by rw [hg]; exact (below_size (by repeat (first | (with_reducible first | exact HB.out | apply below_alloc | apply pw_below_drewN | apply below_drew1) | exact HB.out))) : w.heap.size ≤ gb306)); clear HB; have HB := n0_; have BK306 := n1_; have GW306 := n2_; have GE306 := n3_; clear n0_ n1_ n2_ n3_; clear hb hbox hg) | ((with_reducible refine gate_callee (f := 12) rfl ?_); refine goesL_ (some 16) rfl rfl Try.func12 (by kernel_rfl) rfl #[] rfl (by (try simp only [List.map_toArray, List.map_cons, List.map_nil]); first | done | rfl | (simp only [List.length_drop, List.length_take]; rfl)) ?_; (with_reducible refine (ebbtidelaw07_awake.calls k  true _ A5.out).mono ?_); rintro e w42 ⟨rfl, hb⟩; refine ⟨_, rfl, ?_⟩; have n0_ := Aside0.mk (blk_below (g := gb306) (o := .cells #[.int .i64 a0_0, .bool a0_1, .slice A0_2 l0_2.length c0_2] 24 (0, 0)) (by (with_reducible repeat (first | refine blk_drewN ?_ _ | refine blk_drew ?_ | refine blk_alloc ?_ _)); exact BK306.out) hb); have n1_ := Aside0.mk (below_step (by repeat (first | (with_reducible first | exact HB.out | apply below_alloc | apply pw_below_drewN | apply below_drew1 | refine below_set ?_ GE306.out) | exact HB.out)) hb); clear BK306; clear HB; have BK306 := n0_; have HB := n1_; clear n0_ n1_; (try clear hb); (try clear hb2); (try clear hk); (try clear hi); have hcz43_0 : w42.cell? ⟨gb306, 0, none⟩ = some (.int .i64 a0_0) := (blk_cell BK306.out 0).trans rfl; have hcz43_1 : w42.cell? ⟨gb306, 1, none⟩ = some (.bool a0_1) := (blk_cell BK306.out 1).trans rfl; have hcz43_2 : w42.cell? ⟨gb306, 2, none⟩ = some (.slice A0_2 l0_2.length c0_2) := (blk_cell BK306.out 2).trans rfl; have hfz43_0 := blk_frozen BK306.out 0; have hfz43_1 := blk_frozen BK306.out 1; have hfz43_2 := blk_frozen BK306.out 2) | ((with_reducible refine gate_callee (f := 8) rfl ?_); refine goesL_ (some 22) rfl rfl Try.func8 (by kernel_rfl) rfl #[.agg #[.int .i64 a0_0, .bool a0_1, .slice A0_2 l0_2.length c0_2], .slice A3 l3.length c3] rfl (by (try simp only [List.map_toArray, List.map_cons, List.map_nil]); first | done | rfl | (simp only [List.length_drop, List.length_take]; rfl)) ?_; (with_reducible refine (static_Balance.calls k a0_0 a0_1 _ _ l0_2 _ _ l3 t308 t311 _ ?side1 ?side2 ?side3 ?side4 A7.out).mono ?_); (case side1 => repeat (first | exact (Kd.C_below HR0_2.out HB.out) | (with_reducible refine Kd.C_alloc ?_ _) | (with_reducible refine Kd.C_drewN ?_ _) | (with_reducible refine Kd.C_drew ?_))); (case side2 => exact HC0_2.out); (case side3 => repeat (first | exact (Kd.C_below HR3.out HB.out) | (with_reducible refine Kd.C_alloc ?_ _) | (with_reducible refine Kd.C_drewN ?_ _) | (with_reducible refine Kd.C_drew ?_))); (case side4 => exact HC3.out); rintro e w44 ⟨v309, rfl, ho0, hb⟩; refine ⟨_, rfl, ?_⟩; have n0_ := Aside0.mk (Kd.R_lower ho0 (below_size (by repeat (first | (with_reducible first | exact HB.out | apply below_alloc | apply pw_below_drewN | apply below_drew1 | refine below_set ?_ GE306.out) | exact HB.out)))); have n1_ := Aside0.mk (blk_below (g := gb306) (o := .cells #[.int .i64 a0_0, .bool a0_1, .slice A0_2 l0_2.length c0_2] 24 (0, 0)) (by (with_reducible repeat (first | refine blk_drewN ?_ _ | refine blk_drew ?_ | refine blk_alloc ?_ _)); exact BK306.out) hb); have n2_ := Aside0.mk (below_step (by repeat (first | (with_reducible first | exact HB.out | apply below_alloc | apply pw_below_drewN | apply below_drew1 | refine below_set ?_ GE306.out) | exact HB.out)) hb); clear BK306; clear HB; have HO310 := n0_; have BK306 := n1_; have HB := n2_; clear n0_ n1_ n2_; (try clear hb); (try clear hb2); (try clear hk); (try clear hi); (try clear ho0); obtain ⟨Ao45, co45, eo45⟩ := Kd.R_slice HO310.out; subst eo45))
   go_ret
   exact ⟨by first | rfl | (simp [errW_none, errW_some] <;> rfl) | (simp [*, errW_none, errW_some] <;> rfl), by repeat (first | (with_reducible first | exact HB.out | apply below_alloc | apply pw_below_drewN | apply below_drew1 | refine below_set ?_ GE306.out) | exact HB.out)⟩
 ·replace c6 := Bool.eq_false_iff.mpr c6
  subst c6
  have H1 : (some false) = some r := by rw [if_neg (show ¬ (false = true) by decide)] at H; exact H
  exact absurd (Option.some.inj H1) (by rw [HRT.out]; decide)
end Go.Proofs.Ytghdpoabpodieaa.P

/- Sums over the numbers below one. -/
namespace Go.Proofs.Ytghdpoabpodieaa.Q
def sumTo : Nat → (Nat → Int) → Int
  | 0, _ => 0
  | n + 1, g => sumTo n g + g n
theorem sumTo_add (n : Nat) (g h : Nat → Int) : sumTo n (fun v => g v + h v) = sumTo n g + sumTo n h := by
  induction n with
  | zero => rfl
  | succ n ih => simp only [sumTo, ih]; omega
theorem sumTo_sub (n : Nat) (g h : Nat → Int) : sumTo n (fun v => g v - h v) = sumTo n g - sumTo n h := by
  induction n with
  | zero => rfl
  | succ n ih => simp only [sumTo, ih]; omega
theorem sumTo_congr (n : Nat) {g h : Nat → Int} (e : ∀ v, v < n → g v = h v) : sumTo n g = sumTo n h := by
  induction n with
  | zero => rfl
  | succ n ih => simp only [sumTo]; rw [ih (fun v hv => e v (by omega)), e n (by omega)]
theorem sumTo_zero (n : Nat) : sumTo n (fun _ => 0) = 0 := by
  induction n with
  | zero => rfl
  | succ n ih => simp only [sumTo, ih]; rfl
theorem sumTo_one (n : Nat) (c x : Int) : sumTo n (fun v => if c = (v : Int) then x else 0) = if 0 ≤ c ∧ c < n then x else 0 := by
  induction n with
  | zero => simp only [sumTo]; rw [if_neg (by omega)]
  | succ n ih =>
    simp only [sumTo, ih]
    by_cases h : c = (n : Int)
    · rw [if_pos h, if_neg (by omega), if_pos (by omega)]; omega
    · rw [if_neg h]
      by_cases g : 0 ≤ c ∧ c < n
      · rw [if_pos g, if_pos (by omega)]; omega
      · rw [if_neg g, if_neg (by omega)]; omega
theorem sumTo_two (n : Nat) (g : Nat → Int) (s t : Nat) (hne : s ≠ t) (h : ∀ v, v < n → g v = 0 ∨ v = s ∨ v = t) : sumTo n g = (if s < n then g s else 0) + (if t < n then g t else 0) := by
  induction n with
  | zero => rfl
  | succ n ih =>
    simp only [sumTo, ih (fun v hv => h v (by omega))]
    rcases h n (by omega) with h0 | rfl | rfl
    · rw [h0]
      by_cases h1 : s < n
      · rw [if_pos h1, if_pos (show s < n + 1 by omega)]
        by_cases h2 : t < n
        · rw [if_pos h2, if_pos (show t < n + 1 by omega)]; omega
        · rw [if_neg h2]
          by_cases h3 : t = n
          · subst h3; rw [if_pos (by omega), h0]; omega
          · rw [if_neg (by omega)]; omega
      · rw [if_neg h1]
        by_cases h4 : s = n
        · subst h4
          rw [if_pos (show s < s + 1 by omega), h0]
          by_cases h2 : t < s
          · rw [if_pos h2, if_pos (by omega)]; omega
          · rw [if_neg h2, if_neg (by omega)]; omega
        · rw [if_neg (show ¬ s < n + 1 by omega)]
          by_cases h2 : t < n
          · rw [if_pos h2, if_pos (show t < n + 1 by omega)]; omega
          · rw [if_neg h2]
            by_cases h3 : t = n
            · subst h3; rw [if_pos (by omega), h0]; omega
            · rw [if_neg (by omega)]; omega
    · rw [if_neg (show ¬ n < n by omega), if_pos (show n < n + 1 by omega)]
      by_cases h2 : t < n
      · rw [if_pos h2, if_pos (show t < n + 1 by omega)]; omega
      · rw [if_neg h2, if_neg (show ¬ t < n + 1 by omega)]; omega
    · rw [if_neg (show ¬ n < n by omega), if_pos (show n < n + 1 by omega)]
      by_cases h2 : s < n
      · rw [if_pos h2, if_pos (show s < n + 1 by omega)]; omega
      · rw [if_neg h2, if_neg (show ¬ s < n + 1 by omega)]; omega
theorem sumTo_small (n : Nat) (g : Nat → Int) (B : Int) (h : ∀ v, v < n → -B ≤ g v ∧ g v ≤ B) : -(n * B) ≤ sumTo n g ∧ sumTo n g ≤ n * B := by
  induction n with
  | zero => simp [sumTo]
  | succ n ih =>
    have h1 := ih (fun v hv => h v (by omega))
    have h2 := h n (by omega)
    have e : ((n + 1 : Nat) : Int) * B = n * B + B := by rw [show ((n + 1 : Nat) : Int) = (n : Int) + 1 by omega, Int.add_mul, Int.one_mul]
    simp only [sumTo]
    omega
theorem sumTo_nonneg (n : Nat) (g : Nat → Int) (h : ∀ v, v < n → 0 ≤ g v) : 0 ≤ sumTo n g := by
  induction n with
  | zero => simp [sumTo]
  | succ n ih =>
    have h1 := ih (fun v hv => h v (by omega))
    have h2 := h n (by omega)
    simp only [sumTo]
    omega
theorem sumTo_mono (n : Nat) (g h : Nat → Int) (e : ∀ v, v < n → g v ≤ h v) : sumTo n g ≤ sumTo n h := by
  induction n with
  | zero => simp [sumTo]
  | succ n ih =>
    have h1 := ih (fun v hv => e v (by omega))
    have h2 := e n (by omega)
    simp only [sumTo]
    omega
end Go.Proofs.Ytghdpoabpodieaa.Q

/- StaticSums: balances add up to 0, so as much comes to the sink as leaves the source. -/
namespace Go.Proofs.Ytghdpoabpodieaa.Q
open Go.RowKit Go.Proofs.YtghdpoabpodieaaW.PrintWords Go.Proofs.YtghdpoabpodieaaW.PrintLast Go.Proofs.YtghdpoabpodieaaW.PrintMore Go.Proofs.Ytghdpoabpodieaa.P
theorem bal_small (v : Int) : ∀ (l : List S48) (f : List Int), (∀ i : Nat, i < f.length → 0 ≤ f.getD i 0 ∧ f.getD i 0 ≤ 1048576) → -((l.length : Int) * 1048576) ≤ bal l f v ∧ bal l f v ≤ (l.length : Int) * 1048576
  | [], f, _ => by rw [bal_nil]; simp
  | a :: l, [], _ => by unfold bal; simp; omega
  | a :: l, x :: f, h => by
    have h1 := bal_small v l f (fun i hi => by simpa using h (i + 1) (by simpa using hi))
    have h2 := h 0 (by simp)
    simp at h2
    rw [bal_cons, List.length_cons]
    split <;> split <;> omega
theorem FlowOk.bal_small {n : Int} {l : List S48} {f : List Int} (hf : FlowOk l f) (hn : NetOk n l) (v : Int) : -209715200 ≤ bal l f v ∧ bal l f v ≤ 209715200 := by
  have h := Q.bal_small v l f (fun i hi => by rw [← rd_nat]; exact hf.small hn (by omega) (by omega))
  have := hn.len
  omega
theorem bal_sum (n : Nat) : ∀ (l : List S48) (f : List Int), (∀ a ∈ l, ArcOk n a) → sumTo n (fun v => bal l f v) = 0
  | [], f, _ => by rw [sumTo_congr n (h := fun _ => 0) (fun v _ => bal_nil f v), sumTo_zero]
  | a :: l, [], _ => by
    rw [sumTo_congr n (h := fun _ => 0) (fun v _ => by unfold bal; rfl), sumTo_zero]
  | a :: l, x :: f, h => by
    have ha := h a (List.mem_cons_self ..)
    have := ha.f0; have := ha.f1; have := ha.h0; have := ha.h1
    rw [sumTo_congr n (h := fun v : Nat => ((if a.f0 = (v : Int) then x else 0) - (if a.f1 = (v : Int) then x else 0)) + bal l f v) (fun v _ => bal_cons a l x f v),
      sumTo_add, sumTo_sub, sumTo_one, sumTo_one, if_pos (by omega), if_pos (by omega), bal_sum n l f (fun b hb => h b (List.mem_cons_of_mem _ hb))]
    omega
theorem even_at {s t : Int} : ∀ {b : List Int} {i : Int}, evenB s t b i = true → ∀ j : Nat, j < b.length → b.getD j 0 = 0 ∨ i + j = s ∨ i + j = t
  | [], _, _, j, hj => by simp at hj
  | x :: b, i, h, j, hj => by
    unfold evenB at h
    cases j with
    | zero =>
      split at h
      · left; simpa
      · split at h
        · right; left; omega
        · split at h
          · right; right; omega
          · cases h
    | succ j =>
      have hr : evenB s t b (i + 1) = true := by
        split at h
        · exact h
        · split at h
          · exact h
          · split at h
            · exact h
            · cases h
      have := even_at hr j (by simpa using hj)
      simp only [List.getD_cons_succ]
      omega
theorem even_bal {n : Int} {l : List S48} {f : List Int} {s t : Int} (h : evenB s t (balOf n l f) 0 = true) {v : Int} (h0 : 0 ≤ v) (h1 : v < n) (hs : v ≠ s) (ht : v ≠ t) : bal l f v = 0 := by
  have g := even_at h v.toNat (by rw [balOf_len]; omega)
  have e : (balOf n l f).getD v.toNat 0 = rd (balOf n l f) v := rfl
  rw [e, rd_balOf h0 h1] at g
  omega
/-- As much comes to the sink as leaves the source. -/
theorem value_sink {n : Int} {l : List S48} {f : List Int} {s t : Int} (hn : NetOk n l) (he : EndsOk n s t) (h : evenB s t (balOf n l f) 0 = true) : bal l f t = -bal l f s := by
  have := hn.lo; have := he.s0; have := he.t0; have := he.sn; have := he.tn; have := he.ne
  have hs := bal_sum n.toNat l f (fun a ha => by rw [show ((n.toNat : Nat) : Int) = n by omega]; exact hn.arcs a ha)
  rw [sumTo_two n.toNat _ s.toNat t.toNat (by omega) (fun v hv => by
    by_cases h1 : (v : Int) = s
    · right; left; omega
    · by_cases h2 : (v : Int) = t
      · right; right; omega
      · left; exact even_bal h (by omega) (by omega) h1 h2), if_pos (by omega), if_pos (by omega)] at hs
  rw [show ((s.toNat : Nat) : Int) = s by omega, show ((t.toNat : Nat) : Int) = t by omega] at hs
  omega
theorem sums_j1 (n : Int) (p : Bool) (l : List S48) (s t : Int) (f : List Int) (ha : askErr n l f = 0) : Ev (fun k => ebbtidelaw07_StaticSums.j1 k s t f true (balOf n l f) false n p l) true := by
  obtain ⟨hn, hf⟩ := askErr_ok ha
  refine Ev.succ ?_; simp only [ebbtidelaw07_StaticSums.j1]
  refine Ev.neg (by decide) ?_
  refine Ev.bind (value_ev n p l s t f) ?_
  unfold valRes
  by_cases h : endsErr n l s t = 0
  · obtain ⟨_, he⟩ := endsErr_ok h
    have := he.s0; have := he.t0; have := he.sn; have := he.tn
    rw [if_pos h, if_pos ha]
    by_cases g : evenB s t (balOf n l f) 0 = true
    · rw [if_pos g]
      refine Ev.pos (by trivial) (Ev.pos (by trivial) (Ev.pos (by omega) (Ev.pos (by rw [balOf_len]; omega) (Ev.pos (rd_balOf (by omega) (by omega)) (Ev.pos (by omega) (Ev.pos (by rw [balOf_len]; omega) ?_))))))
      have hb := hf.bal_small hn s
      refine Ev.done ?_
      rw [rd_balOf (by omega) (by omega), value_sink hn he g, wrap_id (by omega) (by omega)]
      exact beq_self_eq_true _
    · rw [if_neg g]
      exact Ev.neg (by decide) (Ev.pos (by trivial) (Ev.done rfl))
  · rw [if_neg h]
    exact Ev.neg h (Ev.pos (by trivial) (Ev.done rfl))
theorem sums_l0 (n : Int) (p : Bool) (l : List S48) (s t : Int) (f : List Int) (ha : askErr n l f = 0) (d : Nat) : ∀ i : Nat, i + d = n.toNat →
    Ev (fun k => ebbtidelaw07_StaticSums.l0 k s t f true (balOf n l f) (sumTo i (fun v => bal l f v)) (i : Int) n p l) true := by
  obtain ⟨hn, hf⟩ := askErr_ok ha
  have := hn.lo
  have := hn.hi
  have hl := balOf_len n l f
  induction d with
  | zero =>
    intro i hi
    refine Ev.succ ?_; simp only [ebbtidelaw07_StaticSums.l0]
    repeat (first | exact Ev.now _ | with_reducible refine Ev.pos (by first | assumption | omega) ?_ | with_reducible refine Ev.neg (by first | assumption | omega) ?_ | with_reducible refine Ev.let_ ?_)
    have hs := bal_sum n.toNat l f (fun a ha => by rw [show ((n.toNat : Nat) : Int) = n by omega]; exact hn.arcs a ha)
    rw [show i = n.toNat by omega, hs]
    exact sums_j1 n p l s t f ha
  | succ d ih =>
    intro i hi
    have hb := sumTo_small i (fun v => bal l f v) 209715200 (fun v _ => hf.bal_small hn v)
    have hv := hf.bal_small hn i
    refine Ev.succ ?_; simp only [ebbtidelaw07_StaticSums.l0]
    repeat (first | exact Ev.now _ | with_reducible refine Ev.pos (by first | assumption | omega) ?_ | with_reducible refine Ev.neg (by first | assumption | omega) ?_ | with_reducible refine Ev.let_ ?_)
    rw [rd_balOf (by omega) (by omega), wrap_succ (n := n.toNat) (by omega) (by omega), wrap_id (by omega) (by omega)]
    exact ih (i + 1) (by omega)
theorem staticSums_ev (n : Int) (p : Bool) (l : List S48) (s t : Int) (f : List Int) : Ev (fun k => ebbtidelaw07_StaticSums.f k n p l s t f) true := by
  unfold ebbtidelaw07_StaticSums.f
  refine Ev.bind awake07_ev ?_
  refine Ev.pos rfl ?_
  refine Ev.bind (balance_ev n p l f) ?_
  by_cases h : askErr n l f = 0
  · rw [balRes_ok h]
    exact Ev.pos rfl (sums_l0 n p l s t f h n.toNat 0 (by omega))
  · rw [balRes_no h]
    exact Ev.neg h (Ev.done rfl)
end Go.Proofs.Ytghdpoabpodieaa.Q
