/- Networks, ends and flows: what is wrong with them, as plain functions; the program's answer and the document's are these. -/
import Derived.Test.YtghdpoabpodieaaP1
import Derived.Test.YtghdpoabpodieaaP2
import Derived.Test.YtghdpoabpodieaaP3
import Derived.Test.YtghdpoabpodieaaP6
import Derived.Test.YtghdpoabpodieaaP7
import Derived.Test.YtghdpoabpodieaaP8
import Derived.Test.YtghdpoabpodieaaQBase
set_option linter.unusedVariables false
namespace Go.Proofs.Ytghdpoabpodieaa.Q
open Go.RowKit Go.Proofs.YtghdpoabpodieaaW.PrintWords Go.Proofs.YtghdpoabpodieaaW.PrintLast Go.Proofs.YtghdpoabpodieaaW.PrintMore Go.Proofs.Ytghdpoabpodieaa.P

def arcErr (n : Int) (a : S48) : Int :=
  if a.f0 < 0 ∨ a.f1 < 0 ∨ a.f2 < 0 ∨ a.f3 < 0 ∨ n ≤ a.f0 ∨ n ≤ a.f1 then 51 else if 1048576 < a.f2 ∨ 1048576 < a.f3 then 2 else 0
def arcsErr (n : Int) : List S48 → Int
  | [] => 0
  | a :: l => if arcErr n a = 0 then arcsErr n l else arcErr n a
def netErr (n : Int) (l : List S48) : Int := if n < 1 then 51 else if n > 50 then 2 else if (l.length : Int) > 200 then 2 else arcsErr n l
structure ArcOk (n : Int) (a : S48) : Prop where
  f0 : 0 ≤ a.f0
  f1 : 0 ≤ a.f1
  f2 : 0 ≤ a.f2
  f3 : 0 ≤ a.f3
  h0 : a.f0 < n
  h1 : a.f1 < n
  h2 : a.f2 ≤ 1048576
  h3 : a.f3 ≤ 1048576
structure NetOk (n : Int) (l : List S48) : Prop where
  lo : 1 ≤ n
  hi : n ≤ 50
  len : l.length ≤ 200
  arcs : ∀ a ∈ l, ArcOk n a
theorem arcErr_ok {n : Int} {a : S48} (h : arcErr n a = 0) : ArcOk n a := by
  unfold arcErr at h
  split at h
  · omega
  · split at h
    · omega
    · constructor <;> omega
theorem arcsErr_ok {n : Int} : ∀ {l : List S48}, arcsErr n l = 0 → ∀ a ∈ l, ArcOk n a
  | [], _, a, ha => by cases ha
  | b :: l, h, a, ha => by
    unfold arcsErr at h
    split at h
    · rename_i hb
      rcases List.mem_cons.1 ha with rfl | ha
      · exact arcErr_ok hb
      · exact arcsErr_ok h a ha
    · exact absurd h (by assumption)
theorem netErr_ok {n : Int} {l : List S48} (h : netErr n l = 0) : NetOk n l := by
  unfold netErr at h
  split at h
  · omega
  · split at h
    · omega
    · split at h
      · omega
      · exact ⟨by omega, by omega, by omega, arcsErr_ok h⟩
theorem arcOk_err {n : Int} {a : S48} (h : ArcOk n a) : arcErr n a = 0 := by
  have := h.f0; have := h.f1; have := h.f2; have := h.f3; have := h.h0; have := h.h1; have := h.h2; have := h.h3
  unfold arcErr
  rw [if_neg (by omega), if_neg (by omega)]
theorem arcsOk_err {n : Int} : ∀ {l : List S48}, (∀ a ∈ l, ArcOk n a) → arcsErr n l = 0
  | [], _ => rfl
  | b :: l, h => by
    unfold arcsErr
    rw [if_pos (arcOk_err (h b (List.mem_cons_self ..)))]
    exact arcsOk_err fun a ha => h a (List.mem_cons_of_mem _ ha)
theorem netOk_err {n : Int} {l : List S48} (h : NetOk n l) : netErr n l = 0 := by
  have := h.lo; have := h.hi; have := h.len
  unfold netErr
  rw [if_neg (by omega), if_neg (by omega), if_neg (by omega), arcsOk_err h.arcs]
theorem NetOk.at_ {n : Int} {l : List S48} (h : NetOk n l) {i : Int} (h0 : 0 ≤ i) (h1 : i < l.length) : ArcOk n (rd_T48 l i) := h.arcs _ (getD_mem (by omega))

theorem nodes_eq (n : Int) : netfmt_nodes.f n = some (if n < 1 then 51 else if n > 50 then 2 else 0) := by
  unfold netfmt_nodes.f
  split
  · rfl
  · split <;> rfl
theorem arc_ev (n : Int) (a : S48) : Ev (fun k => netfmt_arc.f k n a.f0 a.f1 a.f2 a.f3) (arcErr n a) := by
  unfold netfmt_arc.f arcErr
  refine Ev.ite (fun h => ?_) (fun h => ?_)
  · refine Ev.succ ?_; simp only [netfmt_arc.j0]
    repeat (first | exact Ev.now _ | with_reducible refine Ev.pos (by first | assumption | omega) ?_ | with_reducible refine Ev.neg (by first | assumption | omega) ?_ | with_reducible refine Ev.let_ ?_)
    exact Ev.done (by unfold mn at h; rw [if_pos (by omega)])
  · refine Ev.succ ?_; simp only [netfmt_arc.j0]
    unfold mn at h
    unfold mx
    refine Ev.ite (fun g => ?_) (fun g => ?_)
    · have g := of_decide_eq_true g
      exact Ev.done (by rw [if_pos (by omega)])
    · have g := of_decide_eq_false (Bool.eq_false_iff.2 g)
      refine Ev.ite (fun g1 => ?_) (fun g1 => ?_)
      · exact Ev.done (by rw [if_neg (by omega), if_pos (by omega)])
      · refine Ev.ite (fun g2 => ?_) (fun g2 => ?_)
        · exact Ev.done (by rw [if_neg (by omega), if_pos (by omega)])
        · exact Ev.done (by rw [if_neg (by omega), if_neg (by omega)])
theorem check_l0 (l : List S48) (n : Int) (b : Bool) (hl : l.length ≤ 9223372036854775807) (d : Nat) : ∀ i : Nat, i + d = l.length →
    Ev (fun k => netfmt_Check.l0 k l (l.length : Int) (i : Int) n b l) (arcsErr n (l.drop i)) := by
  induction d with
  | zero =>
    intro i hi
    refine Ev.succ ?_; simp only [netfmt_Check.l0]
    repeat (first | exact Ev.now _ | with_reducible refine Ev.pos (by first | assumption | omega) ?_ | with_reducible refine Ev.neg (by first | assumption | omega) ?_ | with_reducible refine Ev.let_ ?_)
    rw [List.drop_of_length_le (by omega)]
    exact Ev.now _
  | succ d ih =>
    intro i hi
    refine Ev.succ ?_; simp only [netfmt_Check.l0]
    repeat (first | exact Ev.now _ | with_reducible refine Ev.pos (by first | assumption | omega) ?_ | with_reducible refine Ev.neg (by first | assumption | omega) ?_ | with_reducible refine Ev.let_ ?_)
    refine Ev.bind (arc_ev n (rd_T48 l i)) ?_
    rw [drop_getD l i z48 (by omega)]
    have hr : rd_T48 l (i : Int) = l.getD i z48 := by unfold rd_T48; rw [Int.toNat_natCast]
    rw [hr]
    unfold arcsErr
    refine Ev.ite (fun h => ?_) (fun h => ?_)
    · rw [if_pos h, wrap_succ (n := l.length) (by omega) hl]
      exact ih (i + 1) (by omega)
    · rw [if_neg h]
      exact Ev.now _
theorem check_ev (n : Int) (b : Bool) (l : List S48) : Ev (fun k => netfmt_Check.f k n b l) (netErr n l) := by
  unfold netfmt_Check.f netErr
  refine Ev.call (nodes_eq n) ?_
  by_cases h : n < 1
  · rw [if_pos h, if_pos h]
    repeat (first | exact Ev.now _ | with_reducible refine Ev.pos (by first | assumption | omega) ?_ | with_reducible refine Ev.neg (by first | assumption | omega) ?_ | with_reducible refine Ev.let_ ?_)
  · rw [if_neg h, if_neg h]
    by_cases h2 : n > 50
    · rw [if_pos h2, if_pos h2]
      repeat (first | exact Ev.now _ | with_reducible refine Ev.pos (by first | assumption | omega) ?_ | with_reducible refine Ev.neg (by first | assumption | omega) ?_ | with_reducible refine Ev.let_ ?_)
    · rw [if_neg h2, if_neg h2]
      repeat (first | exact Ev.now _ | with_reducible refine Ev.pos (by first | assumption | omega) ?_ | with_reducible refine Ev.neg (by first | assumption | omega) ?_ | with_reducible refine Ev.let_ ?_)
      refine Ev.ite (fun g => ?_) (fun g => ?_)
      · rw [if_pos g]
        exact Ev.now _
      · rw [if_neg g]
        exact check_l0 l n b (by omega) l.length 0 (by omega)

theorem ref_nodes_eq (n : Int) : ebbtideref05_nodes.f n = some (if n < 1 then 51 else if n > 50 then 2 else 0) := by
  unfold ebbtideref05_nodes.f
  split
  · rfl
  · split <;> rfl
theorem ref_arc_j0 (x : Bool) (n : Int) (a : S48) (hx : x = true ↔ a.f0 < 0 ∨ a.f1 < 0 ∨ a.f2 < 0 ∨ a.f3 < 0 ∨ n ≤ a.f0 ∨ n ≤ a.f1) : Ev (fun k => ebbtideref05_Arc.j0 k x a.f0 a.f1 a.f2 a.f3) (arcErr n a) := by
  unfold arcErr
  refine Ev.succ ?_; simp only [ebbtideref05_Arc.j0]
  refine Ev.ite (fun g => ?_) (fun g => ?_)
  · exact Ev.done (by rw [if_pos (hx.1 g)])
  · have g' := fun h => g (hx.2 h)
    refine Ev.ite (fun g1 => ?_) (fun g1 => ?_)
    · exact Ev.done (by rw [if_neg g', if_pos (by omega)])
    · refine Ev.ite (fun g2 => ?_) (fun g2 => ?_)
      · exact Ev.done (by rw [if_neg g', if_pos (by omega)])
      · exact Ev.done (by rw [if_neg g', if_neg (by omega)])
theorem ref_arc_ev (n : Int) (a : S48) : Ev (fun k => ebbtideref05_Arc.f k n a.f0 a.f1 a.f2 a.f3) (arcErr n a) := by
  unfold ebbtideref05_Arc.f
  refine Ev.ite (fun h => ?_) (fun h => ?_)
  · exact ref_arc_j0 _ _ _ ⟨fun _ => by omega, fun _ => rfl⟩
  refine Ev.ite (fun h => ?_) (fun h => ?_)
  · exact ref_arc_j0 _ _ _ ⟨fun _ => by omega, fun _ => rfl⟩
  refine Ev.ite (fun h => ?_) (fun h => ?_)
  · exact ref_arc_j0 _ _ _ ⟨fun _ => by omega, fun _ => rfl⟩
  refine Ev.ite (fun h => ?_) (fun h => ?_)
  · exact ref_arc_j0 _ _ _ ⟨fun _ => by omega, fun _ => rfl⟩
  refine Ev.ite (fun h => ?_) (fun h => ?_)
  · exact ref_arc_j0 _ _ _ ⟨fun _ => by omega, fun _ => rfl⟩
  · exact ref_arc_j0 _ _ _ ⟨fun g => by have := of_decide_eq_true g; omega, fun g => decide_eq_true (by omega)⟩
theorem ref_check_l0 (l : List S48) (n : Int) (b : Bool) (hl : l.length ≤ 9223372036854775807) (d : Nat) : ∀ i : Nat, i + d = l.length →
    Ev (fun k => ebbtideref05_Check.l0 k (i : Int) n b l) (arcsErr n (l.drop i)) := by
  induction d with
  | zero =>
    intro i hi
    refine Ev.succ ?_; simp only [ebbtideref05_Check.l0]
    repeat (first | exact Ev.now _ | with_reducible refine Ev.pos (by first | assumption | omega) ?_ | with_reducible refine Ev.neg (by first | assumption | omega) ?_ | with_reducible refine Ev.let_ ?_)
    rw [List.drop_of_length_le (by omega)]
    exact Ev.now _
  | succ d ih =>
    intro i hi
    refine Ev.succ ?_; simp only [ebbtideref05_Check.l0]
    repeat (first | exact Ev.now _ | with_reducible refine Ev.pos (by first | assumption | omega) ?_ | with_reducible refine Ev.neg (by first | assumption | omega) ?_ | with_reducible refine Ev.let_ ?_)
    refine Ev.bind (ref_arc_ev n (rd_T48 l i)) ?_
    rw [drop_getD l i z48 (by omega)]
    have hr : rd_T48 l (i : Int) = l.getD i z48 := by unfold rd_T48; rw [Int.toNat_natCast]
    rw [hr]
    unfold arcsErr
    refine Ev.ite (fun h => ?_) (fun h => ?_)
    · rw [if_pos h, wrap_succ (n := l.length) (by omega) hl]
      exact ih (i + 1) (by omega)
    · rw [if_neg h]
      exact Ev.now _
theorem ref_check_ev (n : Int) (b : Bool) (l : List S48) : Ev (fun k => ebbtideref05_Check.f k n b l) (netErr n l) := by
  unfold ebbtideref05_Check.f netErr
  refine Ev.call (ref_nodes_eq n) ?_
  by_cases h : n < 1
  · rw [if_pos h, if_pos h]
    repeat (first | exact Ev.now _ | with_reducible refine Ev.pos (by first | assumption | omega) ?_ | with_reducible refine Ev.neg (by first | assumption | omega) ?_ | with_reducible refine Ev.let_ ?_)
  · rw [if_neg h, if_neg h]
    by_cases h2 : n > 50
    · rw [if_pos h2, if_pos h2]
      repeat (first | exact Ev.now _ | with_reducible refine Ev.pos (by first | assumption | omega) ?_ | with_reducible refine Ev.neg (by first | assumption | omega) ?_ | with_reducible refine Ev.let_ ?_)
    · rw [if_neg h2, if_neg h2]
      repeat (first | exact Ev.now _ | with_reducible refine Ev.pos (by first | assumption | omega) ?_ | with_reducible refine Ev.neg (by first | assumption | omega) ?_ | with_reducible refine Ev.let_ ?_)
      refine Ev.ite (fun g => ?_) (fun g => ?_)
      · rw [if_pos g]
        exact Ev.now _
      · rw [if_neg g]
        exact ref_check_l0 l n b (by omega) l.length 0 (by omega)
end Go.Proofs.Ytghdpoabpodieaa.Q
