/- What the law's row needs of these texts, taken out of them by wip/tool/mini.py: QTightLaw QLCostFree. -/
import Derived.Test.YtkcpanpdipmmmaaMhbgcfa
import Derived.Test.YtkcpanpdipmmmaaMhghpkp
set_option linter.unusedVariables false
set_option linter.unusedSimpArgs false
namespace Go.Proofs.Ytkcpanpdipmmmaa.Q
open Go.RowKit Go.Proofs.YtkcpanpdipmmmaaW.PrintWords Go.Proofs.YtkcpanpdipmmmaaW.PrintLast Go.Proofs.YtkcpanpdipmmmaaW.PrintMore Go.Proofs.Ytkcpanpdipmmmaa.P
open Go.Proofs.Ytkcpanpdipmmmaa.H (Right right_of StepOf stFrom stTo stTime stRoom stepsR mem_stepsR)
def inP (p : List Int) : Bool := p.all fun x => decide (-1099511627776 ≤ x ∧ x ≤ 1099511627776)
def tightRes (n : Int) (l : List S74) (F p : List Int) : Bool × Int :=
 if askErr n l F = 0 then (if (p.length : Int) = n then (if inP p = true then (tightB l F p, 0) else (false, 1)) else (false, 1)) else (false, askErr n l F)
theorem inP_rd {p : List Int} (h : inP p = true) {v : Int} (h0 : 0 ≤ v) (h1 : v < p.length) : -1099511627776 ≤ rd p v ∧ rd p v ≤ 1099511627776 := by
 unfold inP at h
 rw [List.all_eq_true] at h
 have := h (rd p v) (getD_mem (by omega))
 exact of_decide_eq_true this
theorem inP_of {p : List Int} (h : ∀ i : Nat, i < p.length → -1099511627776 ≤ rd p i ∧ rd p i ≤ 1099511627776) : inP p = true := by
 unfold inP
 rw [List.all_eq_true]
 intro x hx
 obtain ⟨i, hi, rfl⟩ := List.mem_iff_getElem.1 hx
 have := h i hi
 rw [rd_nat, List.getD_eq_getElem?_getD, List.getElem?_eq_getElem hi] at this
 exact decide_eq_true this
theorem not_inP {p : List Int} {i : Nat} (hi : i < p.length) (h : ¬ (-1099511627776 ≤ rd p i ∧ rd p i ≤ 1099511627776)) : ¬ inP p = true := fun g => h (inP_rd g (by omega) (by omega))
def okR2 (l : List S74) (F p : List Int) (s : S38) : Bool := !decide (0 < stRoom l F s) || okT l p s
def arcsB (l : List S74) (F p : List Int) : Nat → Nat → Bool
 | _, 0 => true
 | i, d + 1 => okR2 l F p ⟨i, false⟩ && okR2 l F p ⟨i, true⟩ && arcsB l F p (i + 1) d
theorem arcsB_iff (l : List S74) (F p : List Int) (d : Nat) : ∀ i, arcsB l F p i d = true ↔ ∀ j : Nat, i ≤ j → j < i + d → okR2 l F p ⟨j, false⟩ = true ∧ okR2 l F p ⟨j, true⟩ = true := by
 induction d with
 | zero => intro i; exact ⟨fun _ j h1 h2 => by omega, fun _ => rfl⟩
 | succ d ih =>
  intro i
  unfold arcsB
  rw [Bool.and_eq_true, Bool.and_eq_true, ih]
  constructor
  ·rintro ⟨⟨h1, h2⟩, h3⟩ j h4 h5
   by_cases e : j = i
   ·subst e; exact ⟨h1, h2⟩
   ·exact h3 j (by omega) (by omega)
  ·intro h
   exact ⟨h i (Nat.le_refl _) (by omega), fun j h1 h2 => h j (by omega) (by omega)⟩
theorem arcsB_tight {l : List S74} {F p : List Int} {n : Nat} (hr : Right l F n) : arcsB l F p 0 l.length = tightB l F p := by
 rw [Bool.eq_iff_iff, arcsB_iff]
 unfold tightB
 rw [List.all_eq_true]
 constructor
 ·intro h s hs
  obtain ⟨⟨i, h1, h2⟩, h3⟩ := (mem_stepsR l F F.length s).1 hs
  have := h i (Nat.zero_le _) (by have := hr.len; omega)
  obtain ⟨x, y⟩ := s
  simp only at h2
  subst h2
  have hk : okR2 l F p ⟨i, y⟩ = true := by cases y; exact this.1; exact this.2
  unfold okR2 at hk
  rw [decide_eq_true h3] at hk
  simpa using hk
 ·intro h j _ hj
  have hk : ∀ y, okR2 l F p ⟨j, y⟩ = true := by
   intro y
   unfold okR2
   by_cases hroom : 0 < stRoom l F ⟨j, y⟩
   ·rw [decide_eq_true hroom, h _ ((mem_stepsR l F F.length _).2 ⟨⟨j, by have := hr.len; omega, rfl⟩, hroom⟩)]
    rfl
   ·rw [decide_eq_false hroom]
    rfl
  exact ⟨hk false, hk true⟩
theorem tfrom_f {l : List S74} {F : List Int} {n : Nat} (hr : Right l F n) {s : S38} (hs : StepOf l s) (a : Int) (b : Bool) : static_Flowing_From.f a b l F s.f0 s.f1 = some (stFrom l s) := by
 obtain ⟨i, h1, h2⟩ := hs
 unfold static_Flowing_From.f H.stFrom H.eFrom H.eTo
 rw [h2]
 cases s.f1 <;> simp [h1]
theorem tight_step {l : List S74} {F p : List Int} {n : Nat} (hr : Right l F n) (hp : p.length = n) (hin : inP p = true) (b : Bool) (i : Nat) (hi : i < l.length) (y : Bool) (c : Nat) (hc : c < 2) (hy : rd_T38 [(⟨(i : Int), false⟩ : S38), ⟨(i : Int), true⟩] (c : Int) = ⟨(i : Int), y⟩) (m : Int) (rest : Bool)
  (h : Ev (fun k => cost_Tight.l2 k p m (i : Int) [(⟨(i : Int), false⟩ : S38), ⟨(i : Int), true⟩] 2 ((c + 1 : Nat) : Int) n b l F) (rest, 0)) :
  Ev (fun k => cost_Tight.l2 k p m (i : Int) [(⟨(i : Int), false⟩ : S38), ⟨(i : Int), true⟩] 2 (c : Int) n b l F) (okR2 l F p ⟨(i : Int), y⟩ && rest, 0) := by
 have hs : StepOf l ⟨(i : Int), y⟩ := ⟨i, hi, rfl⟩
 have hf := H.stFrom_in hr hs
 have ht := H.stTo_in hr hs
 have htm := H.stTime_in hr hs
 have h1 := inP_rd hin hf.1 (by omega)
 have h2 := inP_rd hin ht.1 (by omega)
 refine Ev.succ ?_; simp only [cost_Tight.l2]
 rw [hy]
 refine Ev.pos (by omega) ?_
 refine Ev.pos (by omega) ?_
 refine Ev.pos (by simp; omega) ?_
 refine Ev.call (H.room_f hr hs _ _) ?_
 rw [wrap_succ (n := 2) (by omega) (by omega)]
 unfold okR2
 refine Ev.ite (fun g => ?_) (fun g => ?_)
 ·rw [decide_eq_true (show 0 < stRoom l F ⟨(i : Int), y⟩ from g), Bool.not_true, Bool.false_or]
  refine Ev.call (H.to_f hr hs _ _) ?_
  refine Ev.pos (by omega) ?_
  refine Ev.pos (by omega) ?_
  refine Ev.call (tfrom_f hr hs _ _) ?_
  refine Ev.pos (by omega) ?_
  refine Ev.pos (by omega) ?_
  refine Ev.call (H.time_f hr hs _ _) ?_
  rw [wrap_id (x := rd p (stFrom l ⟨(i : Int), y⟩) + stTime l ⟨(i : Int), y⟩) (by omega) (by omega)]
  refine Ev.ite (fun g2 => ?_) (fun g2 => ?_)
  ·refine Ev.done ?_
   have : okT l p ⟨(i : Int), y⟩ = false := by
    cases h : okT l p ⟨(i : Int), y⟩ with
    | false => rfl
    | true => have := okT_iff.1 h; omega
   rw [this, Bool.false_and]
  ·have : okT l p ⟨(i : Int), y⟩ = true := okT_iff.2 (by omega)
   rw [this, Bool.true_and]
   exact h
 ·rw [decide_eq_false (show ¬ 0 < stRoom l F ⟨(i : Int), y⟩ from g), Bool.not_false, Bool.true_or, Bool.true_and]
  exact h
theorem tight_l1 {l : List S74} {F p : List Int} {n : Nat} (hr : Right l F n) (hp : p.length = n) (hin : inP p = true) (b : Bool) (d : Nat) : ∀ i : Nat, i + d = l.length →
  Ev (fun k => cost_Tight.l1 k p (l.length : Int) (i : Int) n b l F) (arcsB l F p i d, 0) := by
 have hl2 := hr.arcs
 induction d with
 | zero =>
  intro i hi
  refine Ev.succ ?_; simp only [cost_Tight.l1]
  refine Ev.neg (by omega) ?_
  exact Ev.now _
 | succ d ih =>
  intro i hi
  refine Ev.succ ?_; simp only [cost_Tight.l1]
  refine Ev.pos (by omega) ?_
  refine Ev.let_ ?_
  unfold arcsB
  rw [Bool.and_assoc]
  refine tight_step hr hp hin b i (by omega) false 0 (by omega) rfl _ _ ?_
  refine tight_step hr hp hin b i (by omega) true 1 (by omega) rfl _ _ ?_
  refine Ev.succ ?_; simp only [cost_Tight.l2]
  refine Ev.neg (by omega) ?_
  rw [wrap_succ (n := 200) (by omega) (by omega)]
  exact ih (i + 1) (by omega)
theorem tight_l0 {l : List S74} {F p : List Int} {n : Nat} (hr : Right l F n) (hp : p.length = n) (b : Bool) (d : Nat) : ∀ i : Nat, i + d = n → (∀ j : Nat, j < i → -1099511627776 ≤ rd p j ∧ rd p j ≤ 1099511627776) →
  Ev (fun k => cost_Tight.l0 k F p p (p.length : Int) (i : Int) n b l) (if inP p = true then (tightB l F p, 0) else (false, 1)) := by
 have hn := hr.fifty
 induction d with
 | zero =>
  intro i hi hj
  have hin : inP p = true := inP_of (fun v hv => hj v (by omega))
  rw [if_pos hin]
  refine Ev.succ ?_; simp only [cost_Tight.l0]
  refine Ev.neg (by omega) ?_
  exact Ev.eq (tight_l1 hr hp hin b l.length 0 (by omega)) (by rw [arcsB_tight hr])
 | succ d ih =>
  intro i hi hj
  refine Ev.succ ?_; simp only [cost_Tight.l0]
  refine Ev.pos (by omega) ?_
  refine Ev.pos (by omega) ?_
  refine Ev.pos (by omega) ?_
  rw [wrap_succ (n := 51) (by omega) (by omega)]
  refine Ev.ite (fun g => ?_) (fun g => ?_)
  ·rw [if_neg (not_inP (i := i) (by omega) (by omega))]
   exact Ev.now _
  ·refine Ev.ite (fun g2 => ?_) (fun g2 => ?_)
   ·rw [if_neg (not_inP (i := i) (by omega) (by omega))]
    exact Ev.now _
   ·exact ih (i + 1) (by omega) (fun j h => by
     by_cases e : j < i
     ·exact hj j e
     ·have : j = i := by omega
      subst this
      omega)
theorem tight_ev (n : Int) (b : Bool) (l : List S74) (F p : List Int) : Ev (fun k => cost_Tight.f k n b l F p) (tightRes n l F p) := by
 unfold cost_Tight.f tightRes
 refine Ev.bind (asked_ev n b l F) ?_
 refine Ev.ite (fun h => ?_) (fun h => ?_)
 ·rw [if_pos h]
  refine Ev.ite (fun g => ?_) (fun g => ?_)
  ·rw [if_pos g]
   obtain ⟨n0, rfl, hr⟩ := right_of h
   exact tight_l0 hr (by omega) b n0 0 (by omega) (fun j hj => absurd hj (Nat.not_lt_zero _))
  ·rw [if_neg g]
   exact Ev.now _
 ·rw [if_neg h]
  exact Ev.now _
end Go.Proofs.Ytkcpanpdipmmmaa.Q
namespace Go.Proofs.Ytkcpanpdipmmmaa.Q
open Go.RowKit Go.Proofs.YtkcpanpdipmmmaaW.PrintWords Go.Proofs.YtkcpanpdipmmmaaW.PrintLast Go.Proofs.YtkcpanpdipmmmaaW.PrintMore Go.Proofs.Ytkcpanpdipmmmaa.P
open Go.Proofs.Ytkcpanpdipmmmaa.H (freeRes freeB freeB_iff refF Right right_of stFrom stTo stTime stepsR NoGain refE)
theorem costFree_ev (n : Int) (b : Bool) (l : List S74) (f p : List Int) : Ev (fun k => ebbtidelaw11_CostFree.f k n b l f p) true := by
 unfold ebbtidelaw11_CostFree.f
 refine Ev.bind awake11_ev ?_
 refine Ev.pos rfl ?_
 refine Ev.bind (tight_ev n b l f p) ?_
 refine Ev.bind (cost_free_ev n b l f) ?_
 refine Ev.ite (fun g => ?_) (fun g => Ev.now _)
 unfold tightRes at g ⊢
 unfold freeRes
 by_cases h0 : askErr n l f = 0
 ·rw [if_pos h0] at g ⊢
  rw [if_pos h0]
  refine Ev.pos rfl ?_
  by_cases h1 : (p.length : Int) = n
  ·rw [if_pos h1] at g ⊢
   by_cases h2 : inP p = true
   ·rw [if_pos h2]
    obtain ⟨n0, rfl, hr⟩ := right_of h0
    rw [Int.toNat_natCast]
    refine Ev.ite (fun t => ?_) (fun _ => Ev.now _)
    exact Ev.done (tight_free hr t)
   ·rw [if_neg h2] at g
    exact absurd g (by decide)
  ·rw [if_neg h1] at g
   exact absurd g (by decide)
 ·rw [if_neg h0] at g
  exact absurd g h0
end Go.Proofs.Ytkcpanpdipmmmaa.Q
