/- StaticSums: balances add up to 0, so as much comes to the sink as leaves the source. -/
import Derived.Test.YtghdpoabpodieaaP30
import Derived.Test.YtghdpoabpodieaaQBase
import Derived.Test.YtghdpoabpodieaaQNet
import Derived.Test.YtghdpoabpodieaaQFlow
import Derived.Test.YtghdpoabpodieaaQSums
import Derived.Test.YtghdpoabpodieaaQAwake07
namespace Go.Proofs.Ytghdpoabpodieaa.Q
open Go.RowKit Go.Proofs.YtghdpoabpodieaaW.PrintWords Go.Proofs.YtghdpoabpodieaaW.PrintLast Go.Proofs.YtghdpoabpodieaaW.PrintMore Go.Proofs.Ytghdpoabpodieaa.P
theorem bal_small (v : Int) : ∀ (l : List S48) (f : List Int), (∀ i : Nat, i < f.length → 0 ≤ f.getD i 0 ∧ f.getD i 0 ≤ 1048576) → -((l.length : Int) * 1048576) ≤ bal l f v ∧ bal l f v ≤ (l.length : Int) * 1048576
  | [], f, _ => by rw [bal_nil]; simp
  | a :: l, [], _ => by unfold bal; simp; omega
  | a :: l, x :: f, h => by
    have h1 := bal_small v l f (fun i hi => by simpa using h (i + 1) (by simpa using hi))
    have h2 := h 0 (by simp)
    simp at h2
    rw [bal_cons, List.length_cons]
    split <;> split <;> omega
theorem FlowOk.bal_small {n : Int} {l : List S48} {f : List Int} (hf : FlowOk l f) (hn : NetOk n l) (v : Int) : -209715200 ≤ bal l f v ∧ bal l f v ≤ 209715200 := by
  have h := Q.bal_small v l f (fun i hi => by rw [← rd_nat]; exact hf.small hn (by omega) (by omega))
  have := hn.len
  omega
theorem bal_sum (n : Nat) : ∀ (l : List S48) (f : List Int), (∀ a ∈ l, ArcOk n a) → sumTo n (fun v => bal l f v) = 0
  | [], f, _ => by rw [sumTo_congr n (h := fun _ => 0) (fun v _ => bal_nil f v), sumTo_zero]
  | a :: l, [], _ => by
    rw [sumTo_congr n (h := fun _ => 0) (fun v _ => by unfold bal; rfl), sumTo_zero]
  | a :: l, x :: f, h => by
    have ha := h a (List.mem_cons_self ..)
    have := ha.f0; have := ha.f1; have := ha.h0; have := ha.h1
    rw [sumTo_congr n (h := fun v : Nat => ((if a.f0 = (v : Int) then x else 0) - (if a.f1 = (v : Int) then x else 0)) + bal l f v) (fun v _ => bal_cons a l x f v),
      sumTo_add, sumTo_sub, sumTo_one, sumTo_one, if_pos (by omega), if_pos (by omega), bal_sum n l f (fun b hb => h b (List.mem_cons_of_mem _ hb))]
    omega
theorem even_at {s t : Int} : ∀ {b : List Int} {i : Int}, evenB s t b i = true → ∀ j : Nat, j < b.length → b.getD j 0 = 0 ∨ i + j = s ∨ i + j = t
  | [], _, _, j, hj => by simp at hj
  | x :: b, i, h, j, hj => by
    unfold evenB at h
    cases j with
    | zero =>
      split at h
      · left; simpa
      · split at h
        · right; left; omega
        · split at h
          · right; right; omega
          · cases h
    | succ j =>
      have hr : evenB s t b (i + 1) = true := by
        split at h
        · exact h
        · split at h
          · exact h
          · split at h
            · exact h
            · cases h
      have := even_at hr j (by simpa using hj)
      simp only [List.getD_cons_succ]
      omega
theorem even_bal {n : Int} {l : List S48} {f : List Int} {s t : Int} (h : evenB s t (balOf n l f) 0 = true) {v : Int} (h0 : 0 ≤ v) (h1 : v < n) (hs : v ≠ s) (ht : v ≠ t) : bal l f v = 0 := by
  have g := even_at h v.toNat (by rw [balOf_len]; omega)
  have e : (balOf n l f).getD v.toNat 0 = rd (balOf n l f) v := rfl
  rw [e, rd_balOf h0 h1] at g
  omega
/-- As much comes to the sink as leaves the source. -/
theorem value_sink {n : Int} {l : List S48} {f : List Int} {s t : Int} (hn : NetOk n l) (he : EndsOk n s t) (h : evenB s t (balOf n l f) 0 = true) : bal l f t = -bal l f s := by
  have := hn.lo; have := he.s0; have := he.t0; have := he.sn; have := he.tn; have := he.ne
  have hs := bal_sum n.toNat l f (fun a ha => by rw [show ((n.toNat : Nat) : Int) = n by omega]; exact hn.arcs a ha)
  rw [sumTo_two n.toNat _ s.toNat t.toNat (by omega) (fun v hv => by
    by_cases h1 : (v : Int) = s
    · right; left; omega
    · by_cases h2 : (v : Int) = t
      · right; right; omega
      · left; exact even_bal h (by omega) (by omega) h1 h2), if_pos (by omega), if_pos (by omega)] at hs
  rw [show ((s.toNat : Nat) : Int) = s by omega, show ((t.toNat : Nat) : Int) = t by omega] at hs
  omega
theorem sums_j1 (n : Int) (p : Bool) (l : List S48) (s t : Int) (f : List Int) (ha : askErr n l f = 0) : Ev (fun k => ebbtidelaw07_StaticSums.j1 k s t f true (balOf n l f) false n p l) true := by
  obtain ⟨hn, hf⟩ := askErr_ok ha
  refine Ev.succ ?_; simp only [ebbtidelaw07_StaticSums.j1]
  refine Ev.neg (by decide) ?_
  refine Ev.bind (value_ev n p l s t f) ?_
  unfold valRes
  by_cases h : endsErr n l s t = 0
  · obtain ⟨_, he⟩ := endsErr_ok h
    have := he.s0; have := he.t0; have := he.sn; have := he.tn
    rw [if_pos h, if_pos ha]
    by_cases g : evenB s t (balOf n l f) 0 = true
    · rw [if_pos g]
      refine Ev.pos (by trivial) (Ev.pos (by trivial) (Ev.pos (by omega) (Ev.pos (by rw [balOf_len]; omega) (Ev.pos (rd_balOf (by omega) (by omega)) (Ev.pos (by omega) (Ev.pos (by rw [balOf_len]; omega) ?_))))))
      have hb := hf.bal_small hn s
      refine Ev.done ?_
      rw [rd_balOf (by omega) (by omega), value_sink hn he g, wrap_id (by omega) (by omega)]
      exact beq_self_eq_true _
    · rw [if_neg g]
      exact Ev.neg (by decide) (Ev.pos (by trivial) (Ev.done rfl))
  · rw [if_neg h]
    exact Ev.neg h (Ev.pos (by trivial) (Ev.done rfl))
theorem sums_l0 (n : Int) (p : Bool) (l : List S48) (s t : Int) (f : List Int) (ha : askErr n l f = 0) (d : Nat) : ∀ i : Nat, i + d = n.toNat →
    Ev (fun k => ebbtidelaw07_StaticSums.l0 k s t f true (balOf n l f) (sumTo i (fun v => bal l f v)) (i : Int) n p l) true := by
  obtain ⟨hn, hf⟩ := askErr_ok ha
  have := hn.lo
  have := hn.hi
  have hl := balOf_len n l f
  induction d with
  | zero =>
    intro i hi
    refine Ev.succ ?_; simp only [ebbtidelaw07_StaticSums.l0]
    repeat (first | exact Ev.now _ | with_reducible refine Ev.pos (by first | assumption | omega) ?_ | with_reducible refine Ev.neg (by first | assumption | omega) ?_ | with_reducible refine Ev.let_ ?_)
    have hs := bal_sum n.toNat l f (fun a ha => by rw [show ((n.toNat : Nat) : Int) = n by omega]; exact hn.arcs a ha)
    rw [show i = n.toNat by omega, hs]
    exact sums_j1 n p l s t f ha
  | succ d ih =>
    intro i hi
    have hb := sumTo_small i (fun v => bal l f v) 209715200 (fun v _ => hf.bal_small hn v)
    have hv := hf.bal_small hn i
    refine Ev.succ ?_; simp only [ebbtidelaw07_StaticSums.l0]
    repeat (first | exact Ev.now _ | with_reducible refine Ev.pos (by first | assumption | omega) ?_ | with_reducible refine Ev.neg (by first | assumption | omega) ?_ | with_reducible refine Ev.let_ ?_)
    rw [rd_balOf (by omega) (by omega), wrap_succ (n := n.toNat) (by omega) (by omega), wrap_id (by omega) (by omega)]
    exact ih (i + 1) (by omega)
theorem staticSums_ev (n : Int) (p : Bool) (l : List S48) (s t : Int) (f : List Int) : Ev (fun k => ebbtidelaw07_StaticSums.f k n p l s t f) true := by
  unfold ebbtidelaw07_StaticSums.f
  refine Ev.bind awake07_ev ?_
  refine Ev.pos rfl ?_
  refine Ev.bind (balance_ev n p l f) ?_
  by_cases h : askErr n l f = 0
  · rw [balRes_ok h]
    exact Ev.pos rfl (sums_l0 n p l s t f h n.toNat 0 (by omega))
  · rw [balRes_no h]
    exact Ev.neg h (Ev.done rfl)
end Go.Proofs.Ytghdpoabpodieaa.Q
