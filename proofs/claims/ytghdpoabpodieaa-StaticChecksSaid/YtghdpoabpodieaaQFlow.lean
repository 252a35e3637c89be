/- Flows: what is wrong with one, its balances, its value, as plain functions; the program's answer and the document's are these. -/
import Derived.Test.YtghdpoabpodieaaP4
import Derived.Test.YtghdpoabpodieaaP5
import Derived.Test.YtghdpoabpodieaaP12
import Derived.Test.YtghdpoabpodieaaP13
import Derived.Test.YtghdpoabpodieaaP9
import Derived.Test.YtghdpoabpodieaaP10
import Derived.Test.YtghdpoabpodieaaP11
import Derived.Test.YtghdpoabpodieaaP14
import Derived.Test.YtghdpoabpodieaaP15
import Derived.Test.YtghdpoabpodieaaP16
import Derived.Test.YtghdpoabpodieaaP17
import Derived.Test.YtghdpoabpodieaaP26
import Derived.Test.YtghdpoabpodieaaQBase
import Derived.Test.YtghdpoabpodieaaQNet
set_option linter.unusedVariables false
namespace Go.Proofs.Ytghdpoabpodieaa.Q
open Go.RowKit Go.Proofs.YtghdpoabpodieaaW.PrintWords Go.Proofs.YtghdpoabpodieaaW.PrintLast Go.Proofs.YtghdpoabpodieaaW.PrintMore Go.Proofs.Ytghdpoabpodieaa.P

def flowB : List S48 → List Int → Bool
  | [], [] => true
  | a :: l, x :: f => if x < 0 then false else if x > a.f2 then false else flowB l f
  | _, _ => false
def askErr (n : Int) (l : List S48) (f : List Int) : Int := if netErr n l = 0 then (if flowB l f = true then 0 else 71) else netErr n l
structure FlowOk (l : List S48) (f : List Int) : Prop where
  len : f.length = l.length
  at_ : ∀ i : Nat, i < f.length → 0 ≤ rd f i ∧ rd f i ≤ (rd_T48 l i).f2
theorem rdArc_nat (l : List S48) (i : Nat) : rd_T48 l (i : Int) = l.getD i z48 := by unfold rd_T48; rw [Int.toNat_natCast]
theorem flowB_len : ∀ {l : List S48} {f : List Int}, flowB l f = true → f.length = l.length
  | [], [], _ => rfl
  | [], _ :: _, h => by simp [flowB] at h
  | _ :: _, [], h => by simp [flowB] at h
  | a :: l, x :: f, h => by
    unfold flowB at h
    split at h
    · cases h
    · split at h
      · cases h
      · simp [flowB_len h]
theorem flowB_ok : ∀ {l : List S48} {f : List Int}, flowB l f = true → ∀ i : Nat, i < f.length → 0 ≤ f.getD i 0 ∧ f.getD i 0 ≤ (l.getD i z48).f2
  | [], [], _, i, hi => by simp at hi
  | [], _ :: _, h, _, _ => by simp [flowB] at h
  | _ :: _, [], h, _, _ => by simp [flowB] at h
  | a :: l, x :: f, h, i, hi => by
    unfold flowB at h
    split at h
    · cases h
    · split at h
      · cases h
      · cases i with
        | zero => simp; omega
        | succ i => simpa using flowB_ok h i (by simpa using hi)
theorem flow_ok {l : List S48} {f : List Int} (h : flowB l f = true) : FlowOk l f :=
  ⟨flowB_len h, fun i hi => by rw [rd_nat, rdArc_nat]; exact flowB_ok h i hi⟩
theorem flow_mk : ∀ {l : List S48} {f : List Int}, f.length = l.length → (∀ i : Nat, i < f.length → 0 ≤ f.getD i 0 ∧ f.getD i 0 ≤ (l.getD i z48).f2) → flowB l f = true
  | [], [], _, _ => rfl
  | [], _ :: _, h, _ => by simp at h
  | _ :: _, [], h, _ => by simp at h
  | a :: l, x :: f, h, hf => by
    have h0 := hf 0 (by simp)
    simp at h0
    unfold flowB
    rw [if_neg (by omega), if_neg (by omega)]
    exact flow_mk (by simpa using h) (fun i hi => by simpa using hf (i + 1) (by simpa using hi))
theorem FlowOk.b {l : List S48} {f : List Int} (h : FlowOk l f) : flowB l f = true :=
  flow_mk h.len fun i hi => by have := h.at_ i hi; rwa [rd_nat, rdArc_nat] at this
theorem FlowOk.int {l : List S48} {f : List Int} (h : FlowOk l f) {i : Int} (h0 : 0 ≤ i) (h1 : i < f.length) : 0 ≤ rd f i ∧ rd f i ≤ (rd_T48 l i).f2 := by
  obtain ⟨j, rfl⟩ := Int.eq_ofNat_of_zero_le h0
  exact h.at_ j (by omega)
/-- A flow of a right network is small. -/
theorem FlowOk.small {n : Int} {l : List S48} {f : List Int} (h : FlowOk l f) (hn : NetOk n l) {i : Int} (h0 : 0 ≤ i) (h1 : i < f.length) : 0 ≤ rd f i ∧ rd f i ≤ 1048576 := by
  have h2 := h.int h0 h1
  have h3 := (hn.at_ h0 (by rw [← h.len]; exact h1)).h2
  omega
theorem askErr_ok {n : Int} {l : List S48} {f : List Int} (h : askErr n l f = 0) : NetOk n l ∧ FlowOk l f := by
  unfold askErr at h
  split at h
  · split at h
    · exact ⟨netErr_ok (by assumption), flow_ok (by assumption)⟩
    · omega
  · exact absurd h (by assumption)
theorem ask_of {n : Int} {l : List S48} {f : List Int} (h : NetOk n l) (hf : FlowOk l f) : askErr n l f = 0 := by
  unfold askErr
  rw [if_pos (netOk_err h), if_pos hf.b]

theorem asked_l0 (l : List S48) (f : List Int) (n : Int) (b : Bool) (hl : l.length ≤ 200) (hf : f.length = l.length) (d : Nat) : ∀ i : Nat, i + d = l.length →
    Ev (fun k => static_Asked.l0 k f (f.length : Int) (i : Int) n b l) (if flowB (l.drop i) (f.drop i) = true then 0 else 71) := by
  induction d with
  | zero =>
    intro i hi
    refine Ev.succ ?_; simp only [static_Asked.l0]
    repeat (first | exact Ev.now _ | with_reducible refine Ev.pos (by first | assumption | omega) ?_ | with_reducible refine Ev.neg (by first | assumption | omega) ?_ | with_reducible refine Ev.let_ ?_)
    rw [List.drop_of_length_le (by omega), List.drop_of_length_le (by omega)]
    exact Ev.now _
  | succ d ih =>
    intro i hi
    refine Ev.succ ?_; simp only [static_Asked.l0]
    repeat (first | exact Ev.now _ | with_reducible refine Ev.pos (by first | assumption | omega) ?_ | with_reducible refine Ev.neg (by first | assumption | omega) ?_ | with_reducible refine Ev.let_ ?_)
    rw [drop_getD l i z48 (by omega), drop_getD f i 0 (by omega), rdArc_nat, rd_nat]
    unfold flowB
    refine Ev.ite (fun h => ?_) (fun h => ?_)
    · rw [if_pos h]
      exact Ev.now _
    · rw [if_neg h]
      repeat (first | exact Ev.now _ | with_reducible refine Ev.pos (by first | assumption | omega) ?_ | with_reducible refine Ev.neg (by first | assumption | omega) ?_ | with_reducible refine Ev.let_ ?_)
      refine Ev.ite (fun g => ?_) (fun g => ?_)
      · rw [if_pos g]
        exact Ev.now _
      · rw [if_neg g, wrap_succ (n := l.length) (by omega) (by omega)]
        exact ih (i + 1) (by omega)
theorem flowB_ne {l : List S48} {f : List Int} (h : ¬ ((f.length : Int) = (l.length : Int))) : ¬ flowB l f = true := fun g => h (by rw [flowB_len g])
theorem asked_ev (n : Int) (b : Bool) (l : List S48) (f : List Int) : Ev (fun k => static_Asked.f k n b l f) (askErr n l f) := by
  unfold static_Asked.f askErr
  refine Ev.bind (check_ev n b l) ?_
  refine Ev.ite (fun h => ?_) (fun h => ?_)
  · rw [if_pos h]
    have hn := netErr_ok h
    refine Ev.ite (fun g => ?_) (fun g => ?_)
    · exact asked_l0 l f n b hn.len (by omega) l.length 0 (by omega)
    · rw [if_neg (flowB_ne g)]
      exact Ev.now _
  · rw [if_neg h]
    exact Ev.now _
theorem within_l0 (l : List S48) (f : List Int) (n : Int) (b : Bool) (hl : l.length ≤ 200) (hf : f.length = l.length) (d : Nat) : ∀ i : Nat, i + d = l.length →
    Ev (fun k => ebbtideref07_Within.l0 k f (i : Int) n b l) (flowB (l.drop i) (f.drop i)) := by
  induction d with
  | zero =>
    intro i hi
    refine Ev.succ ?_; simp only [ebbtideref07_Within.l0]
    repeat (first | exact Ev.now _ | with_reducible refine Ev.pos (by first | assumption | omega) ?_ | with_reducible refine Ev.neg (by first | assumption | omega) ?_ | with_reducible refine Ev.let_ ?_)
    rw [List.drop_of_length_le (by omega), List.drop_of_length_le (by omega)]
    exact Ev.now _
  | succ d ih =>
    intro i hi
    refine Ev.succ ?_; simp only [ebbtideref07_Within.l0]
    repeat (first | exact Ev.now _ | with_reducible refine Ev.pos (by first | assumption | omega) ?_ | with_reducible refine Ev.neg (by first | assumption | omega) ?_ | with_reducible refine Ev.let_ ?_)
    rw [drop_getD l i z48 (by omega), drop_getD f i 0 (by omega), rdArc_nat, rd_nat]
    unfold flowB
    refine Ev.ite (fun h => ?_) (fun h => ?_)
    · rw [if_pos h]
      exact Ev.now _
    · rw [if_neg h]
      repeat (first | exact Ev.now _ | with_reducible refine Ev.pos (by first | assumption | omega) ?_ | with_reducible refine Ev.neg (by first | assumption | omega) ?_ | with_reducible refine Ev.let_ ?_)
      refine Ev.ite (fun g => ?_) (fun g => ?_)
      · rw [if_pos g]
        exact Ev.now _
      · rw [if_neg g, wrap_succ (n := l.length) (by omega) (by omega)]
        exact ih (i + 1) (by omega)
theorem within_ev (n : Int) (b : Bool) (l : List S48) (f : List Int) (hl : l.length ≤ 200) : Ev (fun k => ebbtideref07_Within.f k n b l f) (flowB l f) := by
  unfold ebbtideref07_Within.f
  refine Ev.ite (fun g => ?_) (fun g => ?_)
  · exact within_l0 l f n b hl (by omega) l.length 0 (by omega)
  · rw [Bool.eq_false_iff.2 (flowB_ne g)]
    exact Ev.now _
theorem ref_asked_ev (n : Int) (b : Bool) (l : List S48) (f : List Int) : Ev (fun k => ebbtideref07_Asked.f k n b l f) (askErr n l f) := by
  unfold ebbtideref07_Asked.f askErr
  refine Ev.bind (ref_check_ev n b l) ?_
  refine Ev.ite (fun h => ?_) (fun h => ?_)
  · rw [if_pos h]
    refine Ev.bind (within_ev n b l f (netErr_ok h).len) ?_
    refine Ev.ite (fun g => ?_) (fun g => ?_)
    · rw [if_pos g]; exact Ev.now _
    · rw [if_neg g]; exact Ev.now _
  · rw [if_neg h]
    exact Ev.now _

/-- How much more leaves a node than comes. -/
def bal : List S48 → List Int → Int → Int
  | a :: l, x :: f, v => (if a.f0 = v then x else 0) - (if a.f1 = v then x else 0) + bal l f v
  | _, _, _ => 0
theorem bal_cons (a : S48) (l : List S48) (x : Int) (f : List Int) (v : Int) : bal (a :: l) (x :: f) v = (if a.f0 = v then x else 0) - (if a.f1 = v then x else 0) + bal l f v := rfl
theorem bal_nil (f : List Int) (v : Int) : bal [] f v = 0 := by cases f <;> rfl
def balOf (n : Int) (l : List S48) (f : List Int) : List Int := (List.range n.toNat).map fun v : Nat => bal l f v
theorem balOf_len (n : Int) (l : List S48) (f : List Int) : (balOf n l f).length = n.toNat := by simp [balOf]
theorem rd_balOf {n : Int} {l : List S48} {f : List Int} {v : Int} (h0 : 0 ≤ v) (h1 : v < n) : rd (balOf n l f) v = bal l f v := by
  obtain ⟨j, rfl⟩ := Int.eq_ofNat_of_zero_le h0
  have hj : j < n.toNat := by omega
  rw [rd_nat, balOf, List.getD_eq_getElem?_getD]
  simp [hj]
theorem balance_l0 (n : Int) (l : List S48) (f : List Int) (hn : NetOk n l) (hf : FlowOk l f) (d : Nat) : ∀ (i : Nat) (x : List Int), i + d = l.length → x.length = n.toNat → (∀ v : Nat, v < x.length → -(i * 2097152) ≤ rd x v ∧ rd x v ≤ i * 2097152) →
    ∃ r, Ev (fun k => static_Balance.l0 k f x l (l.length : Int) (i : Int)) (r, 0) ∧ r.length = x.length ∧ ∀ v : Nat, v < x.length → rd r v = rd x v + bal (l.drop i) (f.drop i) v := by
  have hlen := hf.len
  have hl := hn.len
  induction d with
  | zero =>
    intro i x hi hx hb
    refine ⟨x, ?_, rfl, fun v hv => ?_⟩
    · refine Ev.succ ?_; simp only [static_Balance.l0]
      repeat (first | exact Ev.now _ | with_reducible refine Ev.pos (by first | assumption | omega) ?_ | with_reducible refine Ev.neg (by first | assumption | omega) ?_ | with_reducible refine Ev.let_ ?_)
    · rw [List.drop_of_length_le (by omega)]
      simp [bal]
  | succ d ih =>
    intro i x hi hx hb
    have ha := hn.at_ (i := (i : Int)) (by omega) (by omega)
    have hs := hf.small hn (i := (i : Int)) (by omega) (by omega)
    have h1 := ha.f0
    have h2 := ha.f1
    have h3 := ha.h0
    have h4 := ha.h1
    have hb1 := hb (rd_T48 l (i : Int)).f0.toNat (by omega)
    have e1 : (((rd_T48 l (i : Int)).f0.toNat : Nat) : Int) = (rd_T48 l (i : Int)).f0 := by omega
    have e2 : (((rd_T48 l (i : Int)).f1.toNat : Nat) : Int) = (rd_T48 l (i : Int)).f1 := by omega
    rw [e1] at hb1
    have hb2 := hb (rd_T48 l (i : Int)).f1.toNat (by omega)
    rw [e2] at hb2
    obtain ⟨r, hr, hrl, hrv⟩ := ih (i + 1) ((x.set (rd_T48 l (i : Int)).f0.toNat (wrap64 (rd x (rd_T48 l (i : Int)).f0 + rd f (i : Int)))).set (rd_T48 l (i : Int)).f1.toNat
        (wrap64 (rd (x.set (rd_T48 l (i : Int)).f0.toNat (wrap64 (rd x (rd_T48 l (i : Int)).f0 + rd f (i : Int)))) (rd_T48 l (i : Int)).f1 - rd f (i : Int)))) (by omega) (by simpa using hx) (by
      intro v hv
      have hv' : v < x.length := by simpa using hv
      have hbv := hb v hv'
      rw [rd_set _ _ _ _ h2 (by simp; omega) (by omega), rd_set _ _ _ _ h1 (by omega) h2, rd_set _ _ _ _ h1 (by omega) (by omega)]
      have w1 : wrap64 (rd x (rd_T48 l (i : Int)).f0 + rd f (i : Int)) = rd x (rd_T48 l (i : Int)).f0 + rd f (i : Int) := wrap_id (by omega) (by omega)
      rw [w1]
      split
      · split
        · rename_i h5 h6
          rw [wrap_id (by omega) (by omega)]
          omega
        · rename_i h5 h6
          rw [wrap_id (by omega) (by omega)]
          omega
      · split
        · omega
        · omega)
    refine ⟨r, ?_, by simpa using hrl, fun v hv => ?_⟩
    · refine Ev.succ ?_; simp only [static_Balance.l0]
      repeat (first | exact Ev.now _ | with_reducible refine Ev.pos (by first | assumption | omega) ?_ | with_reducible refine Ev.neg (by first | assumption | omega) ?_ | with_reducible refine Ev.let_ ?_)
      rw [wrap_succ (n := l.length) (by omega) (by omega)]
      exact hr
    · rw [hrv v (by simpa using hv), rd_set _ _ _ _ h2 (by simp; omega) (by omega), rd_set _ _ _ _ h1 (by omega) h2, rd_set _ _ _ _ h1 (by omega) (by omega)]
      have w1 : wrap64 (rd x (rd_T48 l (i : Int)).f0 + rd f (i : Int)) = rd x (rd_T48 l (i : Int)).f0 + rd f (i : Int) := wrap_id (by omega) (by omega)
      rw [w1, drop_getD l i z48 (by omega), drop_getD f i 0 (by omega), ← rdArc_nat, ← rd_nat, bal_cons]
      by_cases h5 : (rd_T48 l (i : Int)).f1 = (v : Int)
      · rw [if_pos h5, if_pos h5]
        by_cases h6 : (rd_T48 l (i : Int)).f0 = (v : Int)
        · rw [if_pos (by omega), if_pos h6, wrap_id (by omega) (by omega), h6]
          omega
        · rw [if_neg (by omega), if_neg h6, wrap_id (by omega) (by omega), h5]
          omega
      · rw [if_neg h5, if_neg h5]
        by_cases h6 : (rd_T48 l (i : Int)).f0 = (v : Int)
        · rw [if_pos h6, if_pos h6, h6]
          omega
        · rw [if_neg h6, if_neg h6]
          omega
theorem rd_zeros (m : Nat) (v : Int) : rd (List.replicate m 0) v = 0 := by
  unfold rd
  rw [List.getD_eq_getElem?_getD, List.getElem?_replicate]
  split <;> rfl
def balRes (n : Int) (l : List S48) (f : List Int) : List Int × Int := if askErr n l f = 0 then (balOf n l f, 0) else ([], askErr n l f)
theorem balance_ev (n : Int) (b : Bool) (l : List S48) (f : List Int) : Ev (fun k => static_Balance.f k n b l f) (balRes n l f) := by
  unfold static_Balance.f balRes
  refine Ev.bind (asked_ev n b l f) ?_
  refine Ev.ite (fun h => ?_) (fun h => ?_)
  · rw [if_pos h]
    obtain ⟨hn, hf⟩ := askErr_ok h
    have := hn.lo
    have := hn.hi
    repeat (first | exact Ev.now _ | with_reducible refine Ev.pos (by first | assumption | omega) ?_ | with_reducible refine Ev.neg (by first | assumption | omega) ?_ | with_reducible refine Ev.let_ ?_)
    obtain ⟨r, hr, hrl, hrv⟩ := balance_l0 n l f hn hf l.length 0 (List.replicate n.toNat 0) (by omega) (by simp) (fun v hv => by rw [rd_zeros]; omega)
    refine Ev.eq hr ?_
    rw [List.length_replicate] at hrl hrv
    congr 1
    refine ext_rd (by rw [hrl, balOf_len]) fun v hv => ?_
    rw [hrv v (by omega), rd_zeros, rd_balOf (by omega) (by omega), List.drop_zero, List.drop_zero]
    omega
  · rw [if_neg h]
    exact Ev.now _

theorem leaves_l0 (n m : Int) (b : Bool) (l : List S48) (f : List Int) (hn : NetOk m l) (hf : FlowOk l f) (v : Int) (d : Nat) : ∀ (i : Nat) (acc : Int), i + d = l.length → -(i * 2097152) ≤ acc → acc ≤ i * 2097152 →
    Ev (fun k => ebbtideref07_Leaves.l0 k f v acc (i : Int) n b l) (acc + bal (l.drop i) (f.drop i) v) := by
  have hlen := hf.len
  have hl := hn.len
  induction d with
  | zero =>
    intro i acc hi h0 h1
    refine Ev.succ ?_; simp only [ebbtideref07_Leaves.l0]
    repeat (first | exact Ev.now _ | with_reducible refine Ev.pos (by first | assumption | omega) ?_ | with_reducible refine Ev.neg (by first | assumption | omega) ?_ | with_reducible refine Ev.let_ ?_)
    rw [List.drop_of_length_le (by omega)]
    exact Ev.done (by simp [bal])
  | succ d ih =>
    intro i acc hi h0 h1
    have hs := hf.small hn (i := (i : Int)) (by omega) (by omega)
    refine Ev.succ ?_; simp only [ebbtideref07_Leaves.l0]
    repeat (first | exact Ev.now _ | with_reducible refine Ev.pos (by first | assumption | omega) ?_ | with_reducible refine Ev.neg (by first | assumption | omega) ?_ | with_reducible refine Ev.let_ ?_)
    rw [wrap_succ (n := l.length) (by omega) (by omega), drop_getD l i z48 (by omega), drop_getD f i 0 (by omega), ← rdArc_nat, ← rd_nat, bal_cons]
    refine Ev.ite (fun g => ?_) (fun g => ?_)
    · rw [if_pos g]
      refine Ev.ite (fun g2 => ?_) (fun g2 => ?_)
      · rw [if_pos g2, wrap_id (x := acc + rd f (i : Int)) (by omega) (by omega), wrap_id (by omega) (by omega)]
        exact Ev.eq (ih (i + 1) _ (by omega) (by omega) (by omega)) (by omega)
      · rw [if_neg g2, wrap_id (x := acc + rd f (i : Int)) (by omega) (by omega)]
        exact Ev.eq (ih (i + 1) _ (by omega) (by omega) (by omega)) (by omega)
    · rw [if_neg g]
      refine Ev.ite (fun g2 => ?_) (fun g2 => ?_)
      · rw [if_pos g2, wrap_id (x := acc - rd f (i : Int)) (by omega) (by omega)]
        exact Ev.eq (ih (i + 1) _ (by omega) (by omega) (by omega)) (by omega)
      · rw [if_neg g2]
        exact Ev.eq (ih (i + 1) _ (by omega) (by omega) (by omega)) (by omega)
theorem leaves_ev (n m : Int) (b : Bool) (l : List S48) (f : List Int) (hn : NetOk m l) (hf : FlowOk l f) (v : Int) : Ev (fun k => ebbtideref07_Leaves.f k n b l f v) (bal l f v) := by
  unfold ebbtideref07_Leaves.f
  exact Ev.eq (leaves_l0 n m b l f hn hf v l.length 0 0 (by omega) (by omega) (by omega)) (by rw [List.drop_zero, List.drop_zero]; omega)
theorem ref_balance_l0 (n : Int) (b : Bool) (l : List S48) (f : List Int) (hn : NetOk n l) (hf : FlowOk l f) (d : Nat) : ∀ (i : Nat), i + d = n.toNat →
    Ev (fun k => ebbtideref07_Balance.l0 k f ((List.range i).map fun v : Nat => bal l f v) (i : Int) n b l) (balOf n l f, 0) := by
  have := hn.lo
  have := hn.hi
  induction d with
  | zero =>
    intro i hi
    refine Ev.succ ?_; simp only [ebbtideref07_Balance.l0]
    repeat (first | exact Ev.now _ | with_reducible refine Ev.pos (by first | assumption | omega) ?_ | with_reducible refine Ev.neg (by first | assumption | omega) ?_ | with_reducible refine Ev.let_ ?_)
    exact Ev.done (by unfold balOf; rw [show i = n.toNat by omega])
  | succ d ih =>
    intro i hi
    refine Ev.succ ?_; simp only [ebbtideref07_Balance.l0]
    repeat (first | exact Ev.now _ | with_reducible refine Ev.pos (by first | assumption | omega) ?_ | with_reducible refine Ev.neg (by first | assumption | omega) ?_ | with_reducible refine Ev.let_ ?_)
    refine Ev.bind (leaves_ev n n b l f hn hf i) ?_
    refine Ev.pos (by simp; omega) ?_
    rw [wrap_succ (n := n.toNat) (by omega) (by omega)]
    have e : ((List.range i).map fun v : Nat => bal l f v) ++ [bal l f (i : Int)] = (List.range (i + 1)).map fun v : Nat => bal l f v := by simp [List.range_succ]
    rw [e]
    exact ih (i + 1) (by omega)
theorem ref_balance_ev (n : Int) (b : Bool) (l : List S48) (f : List Int) : Ev (fun k => ebbtideref07_Balance.f k n b l f) (balRes n l f) := by
  unfold ebbtideref07_Balance.f balRes askErr
  refine Ev.bind (ref_check_ev n b l) ?_
  refine Ev.ite (fun h => ?_) (fun h => ?_)
  · rw [if_pos h]
    have hn := netErr_ok h
    refine Ev.bind (within_ev n b l f hn.len) ?_
    refine Ev.ite (fun g => ?_) (fun g => ?_)
    · rw [if_pos g, if_pos rfl]
      exact ref_balance_l0 n b l f hn (flow_ok g) n.toNat 0 (by omega)
    · rw [if_neg g, if_neg (by decide)]
      exact Ev.now _
  · rw [if_neg h, if_neg h]
    exact Ev.now _

def endsErr (n : Int) (l : List S48) (s t : Int) : Int := if netErr n l = 0 then (if s < 0 ∨ t < 0 ∨ n ≤ s ∨ n ≤ t ∨ s = t then 70 else 0) else netErr n l
structure EndsOk (n s t : Int) : Prop where
  s0 : 0 ≤ s
  t0 : 0 ≤ t
  sn : s < n
  tn : t < n
  ne : s ≠ t
theorem endsErr_ok {n : Int} {l : List S48} {s t : Int} (h : endsErr n l s t = 0) : NetOk n l ∧ EndsOk n s t := by
  unfold endsErr at h
  split at h
  · split at h
    · omega
    · exact ⟨netErr_ok (by assumption), by omega, by omega, by omega, by omega, by omega⟩
  · exact absurd h (by assumption)
theorem ends_of {n : Int} {l : List S48} {s t : Int} (h : NetOk n l) (he : EndsOk n s t) : endsErr n l s t = 0 := by
  have := he.s0; have := he.t0; have := he.sn; have := he.tn; have := he.ne
  unfold endsErr
  rw [if_pos (netOk_err h), if_neg (by omega)]
theorem ends_ev (n : Int) (b : Bool) (l : List S48) (s t : Int) : Ev (fun k => static_Ends.f k n b l s t) (endsErr n l s t) := by
  unfold static_Ends.f endsErr
  refine Ev.bind (check_ev n b l) ?_
  refine Ev.ite (fun h => ?_) (fun h => ?_)
  · rw [if_pos h]
    unfold mn mx
    refine Ev.ite (fun g => ?_) (fun g => ?_)
    · exact Ev.done (by rw [if_pos (by omega)])
    refine Ev.ite (fun g => ?_) (fun g => ?_)
    · exact Ev.done (by rw [if_pos (by omega)])
    refine Ev.ite (fun g => ?_) (fun g => ?_)
    · exact Ev.done (by rw [if_pos (by omega)])
    · exact Ev.done (by rw [if_neg (by omega)])
  · rw [if_neg h]
    exact Ev.now _
theorem node_eq (n : Int) (b : Bool) (l : List S48) (v : Int) : ebbtideref06_Node.f n b l v = some (decide (0 ≤ v ∧ v < n)) := by
  unfold ebbtideref06_Node.f
  split
  · rename_i h
    congr 1
    by_cases g : v < n <;> simp [g] <;> omega
  · rename_i h
    congr 1
    symm
    exact decide_eq_false (by omega)
theorem ref_ends_ev (n : Int) (b : Bool) (l : List S48) (s t : Int) : Ev (fun k => ebbtideref07_Ends.f k n b l s t) (endsErr n l s t) := by
  unfold ebbtideref07_Ends.f endsErr
  refine Ev.bind (ref_check_ev n b l) ?_
  refine Ev.ite (fun h => ?_) (fun h => ?_)
  · rw [if_pos h]
    refine Ev.call (node_eq n b l s) ?_
    refine Ev.ite (fun g => ?_) (fun g => ?_)
    · have g := of_decide_eq_true g
      refine Ev.call (node_eq n b l t) ?_
      refine Ev.ite (fun g2 => ?_) (fun g2 => ?_)
      · have g2 := of_decide_eq_true g2
        refine Ev.ite (fun g3 => ?_) (fun g3 => ?_)
        · exact Ev.done (by rw [if_pos (by omega)])
        · exact Ev.done (by rw [if_neg (by omega)])
      · have g2 := of_decide_eq_false (Bool.eq_false_iff.2 g2)
        exact Ev.done (by rw [if_pos (by omega)])
    · have g := of_decide_eq_false (Bool.eq_false_iff.2 g)
      exact Ev.done (by rw [if_pos (by omega)])
  · rw [if_neg h]
    exact Ev.now _

/-- Are all balances from number i on 0, but for the source's and the sink's? -/
def evenB (s t : Int) : List Int → Int → Bool
  | [], _ => true
  | x :: l, i => if x = 0 then evenB s t l (i + 1) else if i = s then evenB s t l (i + 1) else if i = t then evenB s t l (i + 1) else false
def valRes (n : Int) (l : List S48) (s t : Int) (f : List Int) : Int × Int :=
  if endsErr n l s t = 0 then (if askErr n l f = 0 then (if evenB s t (balOf n l f) 0 = true then (bal l f s, 0) else (0, 71)) else (0, askErr n l f)) else (0, endsErr n l s t)
theorem check2_l0 (s t : Int) (b : List Int) (hb : b.length ≤ 50) (hs : 0 ≤ s) (hsn : s < b.length) (d : Nat) : ∀ i : Nat, i + d = b.length →
    Ev (fun k => static_Check.l0 k s t b b (b.length : Int) (i : Int)) (if evenB s t (b.drop i) i = true then (rd b s, 0) else (0, 71)) := by
  induction d with
  | zero =>
    intro i hi
    refine Ev.succ ?_; simp only [static_Check.l0]
    repeat (first | exact Ev.now _ | with_reducible refine Ev.pos (by first | assumption | omega) ?_ | with_reducible refine Ev.neg (by first | assumption | omega) ?_ | with_reducible refine Ev.let_ ?_)
    rw [List.drop_of_length_le (by omega)]
    exact Ev.now _
  | succ d ih =>
    intro i hi
    refine Ev.succ ?_; simp only [static_Check.l0]
    repeat (first | exact Ev.now _ | with_reducible refine Ev.pos (by first | assumption | omega) ?_ | with_reducible refine Ev.neg (by first | assumption | omega) ?_ | with_reducible refine Ev.let_ ?_)
    rw [drop_getD b i 0 (by omega), rd_nat, wrap_succ (n := b.length) (by omega) (by omega)]
    unfold evenB
    have := ih (i + 1) (by omega)
    rw [show ((i + 1 : Nat) : Int) = (i : Int) + 1 by omega] at this ⊢
    refine Ev.ite (fun g => ?_) (fun g => ?_)
    · rw [if_pos g]; exact this
    rw [if_neg g]
    refine Ev.ite (fun g => ?_) (fun g => ?_)
    · rw [if_pos g]; exact this
    rw [if_neg g]
    refine Ev.ite (fun g => ?_) (fun g => ?_)
    · rw [if_pos g]; exact this
    rw [if_neg g]
    exact Ev.now _
theorem balRes_ok {n : Int} {l : List S48} {f : List Int} (h : askErr n l f = 0) : balRes n l f = (balOf n l f, 0) := by unfold balRes; rw [if_pos h]
theorem balRes_no {n : Int} {l : List S48} {f : List Int} (h : ¬ askErr n l f = 0) : balRes n l f = ([], askErr n l f) := by unfold balRes; rw [if_neg h]
theorem value_ev (n : Int) (b : Bool) (l : List S48) (s t : Int) (f : List Int) : Ev (fun k => static_Check.f k n b l s t f) (valRes n l s t f) := by
  unfold static_Check.f valRes
  refine Ev.bind (ends_ev n b l s t) ?_
  refine Ev.ite (fun h => ?_) (fun h => ?_)
  · rw [if_pos h]
    obtain ⟨hn, he⟩ := endsErr_ok h
    have := hn.lo; have := hn.hi; have := he.s0; have := he.sn
    refine Ev.bind (balance_ev n b l f) ?_
    by_cases g : askErr n l f = 0
    · rw [if_pos g, balRes_ok g]
      refine Ev.pos rfl ?_
      refine Ev.eq (check2_l0 s t (balOf n l f) (by rw [balOf_len]; omega) (by omega) (by rw [balOf_len]; omega) _ 0 (Nat.zero_add _)) ?_
      rw [rd_balOf (by omega) (by omega), List.drop_zero]
      rfl
    · rw [if_neg g, balRes_no g]
      exact Ev.neg g (Ev.now _)
  · rw [if_neg h]
    exact Ev.now _
theorem ref_check2_l0 (n : Int) (p : Bool) (l : List S48) (s t : Int) (b : List Int) (hb : b.length ≤ 50) (hbn : n = b.length) (hs : 0 ≤ s) (hsn : s < b.length) (d : Nat) : ∀ i : Nat, i + d = b.length →
    Ev (fun k => ebbtideref07_Check.l0 k s t b (i : Int) n p l) (if evenB s t (b.drop i) i = true then (rd b s, 0) else (0, 71)) := by
  induction d with
  | zero =>
    intro i hi
    refine Ev.succ ?_; simp only [ebbtideref07_Check.l0]
    repeat (first | exact Ev.now _ | with_reducible refine Ev.pos (by first | assumption | omega) ?_ | with_reducible refine Ev.neg (by first | assumption | omega) ?_ | with_reducible refine Ev.let_ ?_)
    rw [List.drop_of_length_le (by omega)]
    exact Ev.now _
  | succ d ih =>
    intro i hi
    refine Ev.succ ?_; simp only [ebbtideref07_Check.l0]
    refine Ev.pos (by omega) ?_
    rw [drop_getD b i 0 (by omega), rd_nat, wrap_succ (n := b.length) (by omega) (by omega)]
    unfold evenB
    have := ih (i + 1) (by omega)
    rw [show ((i + 1 : Nat) : Int) = (i : Int) + 1 by omega] at this ⊢
    refine Ev.ite (fun g1 => ?_) (fun g1 => ?_)
    · rw [if_pos g1, ite_self]; exact this
    rw [if_neg g1]
    refine Ev.ite (fun g2 => ?_) (fun g2 => ?_)
    · rw [if_pos g2, ite_self]; exact this
    rw [if_neg g2]
    repeat (first | exact Ev.now _ | with_reducible refine Ev.pos (by first | assumption | omega) ?_ | with_reducible refine Ev.neg (by first | assumption | omega) ?_ | with_reducible refine Ev.let_ ?_)
    refine Ev.ite (fun g => ?_) (fun g => ?_)
    · rw [if_pos g]; exact this
    rw [if_neg g]
    exact Ev.now _
theorem ref_value_ev (n : Int) (b : Bool) (l : List S48) (s t : Int) (f : List Int) : Ev (fun k => ebbtideref07_Check.f k n b l s t f) (valRes n l s t f) := by
  unfold ebbtideref07_Check.f valRes
  refine Ev.bind (ref_ends_ev n b l s t) ?_
  refine Ev.ite (fun h => ?_) (fun h => ?_)
  · rw [if_pos h]
    obtain ⟨hn, he⟩ := endsErr_ok h
    have := hn.lo; have := hn.hi; have := he.s0; have := he.sn
    refine Ev.bind (ref_balance_ev n b l f) ?_
    by_cases g : askErr n l f = 0
    · rw [if_pos g, balRes_ok g]
      refine Ev.pos rfl ?_
      refine Ev.eq (ref_check2_l0 n b l s t (balOf n l f) (by rw [balOf_len]; omega) (by rw [balOf_len]; omega) (by omega) (by rw [balOf_len]; omega) _ 0 (Nat.zero_add _)) ?_
      rw [rd_balOf (by omega) (by omega), List.drop_zero]
      rfl
    · rw [if_neg g, balRes_no g]
      exact Ev.neg g (Ev.now _)
  · rw [if_neg h]
    exact Ev.now _

theorem same_l0 (a b : List Int) (hb : a.length = b.length) (hl : a.length ≤ 9223372036854775807) (d : Nat) : ∀ i : Nat, i + d = a.length →
    Ev (fun k => ebbtideref03_SameInts.l0 k a b (i : Int)) (decide (a.drop i = b.drop i)) := by
  induction d with
  | zero =>
    intro i hi
    refine Ev.succ ?_; simp only [ebbtideref03_SameInts.l0]
    repeat (first | exact Ev.now _ | with_reducible refine Ev.pos (by first | assumption | omega) ?_ | with_reducible refine Ev.neg (by first | assumption | omega) ?_ | with_reducible refine Ev.let_ ?_)
    rw [List.drop_of_length_le (by omega), List.drop_of_length_le (by omega)]
    exact Ev.now _
  | succ d ih =>
    intro i hi
    refine Ev.succ ?_; simp only [ebbtideref03_SameInts.l0]
    repeat (first | exact Ev.now _ | with_reducible refine Ev.pos (by first | assumption | omega) ?_ | with_reducible refine Ev.neg (by first | assumption | omega) ?_ | with_reducible refine Ev.let_ ?_)
    rw [drop_getD a i 0 (by omega), drop_getD b i 0 (by omega), ← rd_nat, ← rd_nat, wrap_succ (n := a.length) (by omega) (by omega)]
    refine Ev.ite (fun g => ?_) (fun g => ?_)
    · rw [g]
      exact Ev.eq (ih (i + 1) (by omega)) (by simp)
    · exact Ev.done (by simp [g])
theorem same_ev (a b : List Int) (hl : a.length ≤ 9223372036854775807) : Ev (fun k => ebbtideref03_SameInts.f k a b) (decide (a = b)) := by
  unfold ebbtideref03_SameInts.f
  refine Ev.ite (fun g => ?_) (fun g => ?_)
  · exact Ev.eq (same_l0 a b (by omega) hl a.length 0 (by omega)) (by rw [List.drop_zero, List.drop_zero])
  · exact Ev.done (by symm; exact decide_eq_false (fun h => g (by rw [h])))
end Go.Proofs.Ytghdpoabpodieaa.Q
