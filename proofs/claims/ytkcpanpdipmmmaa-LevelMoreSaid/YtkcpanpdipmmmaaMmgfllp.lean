/- What the law's row needs of these texts, taken out of them by wip/tool/mini.py: QLLevelMore. -/
import Derived.Test.YtkcpanpdipmmmaaMldocnm
set_option linter.unusedVariables false
set_option linter.unusedSimpArgs false
namespace Go.Proofs.Ytkcpanpdipmmmaa.Q
open Go.RowKit Go.Proofs.YtkcpanpdipmmmaaW.PrintWords Go.Proofs.YtkcpanpdipmmmaaW.PrintLast Go.Proofs.YtkcpanpdipmmmaaW.PrintMore Go.Proofs.Ytkcpanpdipmmmaa.P
open Go.Proofs.Ytkcpanpdipmmmaa.H (levelsRes pathRes wayP endsErr Right right_of bfP dOf nodes wayL frP toP esP bfP_upto dOf_len backL backL_spec esP_fr esP_to stFrom stTo stRoom mem_esP stL_of StepOf Leads IsFlow leastR pushW netG push_found fds_lt dOf_mem fnd fnd_some)
theorem leads_imp {α : Type} {to_ : α → Nat} {es es' : Nat → List α} (h : ∀ u e, e ∈ es u → e ∈ es' u) : ∀ {L : List α} {u t : Nat}, Leads to_ es u L t → Leads to_ es' u L t
 | [], u, t, hl => hl
 | e :: L, u, t, hl => ⟨h _ _ hl.1, leads_imp h hl.2⟩
theorem backL_mem {fr : S38 → Nat} {st : List (H.Fd S38)} {s : Nat} (k : Nat) : ∀ {v : Nat} {e : S38}, e ∈ backL fr st s k v → ∃ x, x ∈ st ∧ x.v ≠ s ∧ x.by_ = e := by
 induction k with
 | zero => intro v e h; cases h
 | succ k ih =>
  intro v e h
  unfold backL at h
  by_cases hv : v = s
  ·rw [if_pos hv] at h; cases h
  ·rw [if_neg hv] at h
   cases hf : fnd st v with
   | none => rw [hf] at h; cases h
   | some x =>
    rw [hf] at h
    rcases List.mem_cons.1 h with h | h
    ·obtain ⟨h1, h2⟩ := fnd_some hf
     exact ⟨x, h1, by omega, h.symm⟩
    ·exact ih h
section
variable {l : List S74} {F : List Int} {n s t : Nat}
theorem wayP_fact (hr : Right l F n) (hs : s < n) (hm : t ∈ nodes (bfP l F n s)) : Leads (toP l) (fun v => H.stL l v l.length) s (wayP l F n s t) t ∧ ∀ e, e ∈ wayP l F n s t → (netG l F (dOf n (bfP l F n s))).adm (frP l e) e = true := by
 have hu := (bfP_upto hr hs).fds
 obtain ⟨x, hx, hxt⟩ := List.mem_map.1 hm
 have hW : wayP l F n s t = (backL (frP l) (bfP l F n s) s x.lv x.v).reverse := by rw [← hxt]; exact H.way_of hr hs hu ⟨[], by rw [List.append_nil]⟩ hx
 rw [hW]
 constructor
 ·have h_ := (backL_spec hu esP_fr _ hx (Nat.le_refl _)).2
  rw [hxt] at h_
  exact leads_imp (fun u e he => (mem_esP.1 he).1) (by rw [hxt]; exact h_)
 ·intro e he
  rw [List.mem_reverse] at he
  obtain ⟨y, hy, hyne, hye⟩ := backL_mem _ he
  rcases hu.mem_lv hy with ⟨h1, _⟩ | ⟨_, hto, z, hz, hze, hlv⟩
  ·exact absurd h1 hyne
  rw [hye] at hto hze
  have hfz := esP_fr _ _ hze
  have hzd := dOf_mem hu.nodup hz (0 : Int) (fds_lt hu (esP_to hr) hs _ (List.mem_map_of_mem hz))
  have hyd := dOf_mem hu.nodup hy (0 : Int) (fds_lt hu (esP_to hr) hs _ (List.mem_map_of_mem hy))
  unfold H.Net_.adm
  rw [Bool.and_eq_true, decide_eq_true_eq]
  refine ⟨?_, ?_⟩
  ·show (dOf n (bfP l F n s)).getD (toP l e) 0 = (dOf n (bfP l F n s)).getD (frP l e) 0 + 1
   rw [hto, hfz]
   have h1 : (dOf n (bfP l F n s)).getD y.v 0 = (y.lv : Int) := hyd
   have h2 : (dOf n (bfP l F n s)).getD z.v 0 = (z.lv : Int) := hzd
   omega
  ·show decide (0 < stRoom l F e) = true
   exact decide_eq_true (mem_esP.1 hze).2
theorem more_l0 (b : Bool) {W : List S38} (hW : ∀ e, e ∈ W → StepOf l e) (hl : W.length ≤ 50) (v r : Int) (s t : Int) (m : Int)
  (h : Ev (fun k => ((ebbtideref08_Bottle.f k m b l F W).bind fun t695 => ((ebbtideref07_Push.f k m b l F W t695).bind fun bt696 => ((ebbtideref07_Check.f k m b l s t bt696.1).bind fun bt700 => (if (true : Bool) = true then (if t695 > 0 then (if bt696.2 = 0 then (if bt700.2 = 0 then (some (bt700.1 == (wrap64 (v + t695)))) else (some false)) else (some false)) else (some false)) else (some false)))))) true) (d : Nat) :
  ∀ i : Nat, i + d = W.length → Ev (fun k => ebbtidelaw08_LevelMore.l0 k F s t true W v (i : Int) m b l) true := by
 induction d with
 | zero =>
  intro i hi
  refine Ev.succ ?_; simp only [ebbtidelaw08_LevelMore.l0]
  refine Ev.neg (by omega) ?_
  simpa using h
 | succ d ih =>
  intro i hi
  have hm : W.getD i z38 ∈ W := by rw [List.getD_eq_getElem?_getD, List.getElem?_eq_getElem (by omega)]; exact List.getElem_mem _
  obtain ⟨j, hj, hje⟩ := hW _ hm
  refine Ev.succ ?_; simp only [ebbtidelaw08_LevelMore.l0]
  refine Ev.pos (by omega) ?_
  refine Ev.pos (by omega) ?_
  rw [rdStep_nat, wrap_succ (n := W.length) (by omega) (by omega)]
  refine Ev.neg (by omega) ?_
  refine Ev.neg (by omega) ?_
  exact ih (i + 1) (by omega)
end
theorem more_no (n : Int) (b : Bool) (l : List S74) (F : List Int) (s t : Int) (W : List S38) (is : Bool) (e v g : Int) (h : ¬ (e = 0 ∧ g = 0) ∨ is = false) :
  Ev (fun k => ebbtidelaw08_LevelMore.j0 k F s t true W is e v g true n b l) true := by
 refine Ev.succ ?_; simp only [ebbtidelaw08_LevelMore.j0]
 refine Ev.pos trivial ?_
 refine Ev.pos trivial ?_
 refine Ev.ite (fun h1 => ?_) (fun h1 => Ev.now _)
 refine Ev.ite (fun h2 => ?_) (fun h2 => Ev.now _)
 refine Ev.done ?_
 rcases h with h | h
 ·exact absurd ⟨h1, h2⟩ h
 ·rw [h]; rfl
theorem bal_low (v : Int) : ∀ (l : List S74) (f : List Int), (∀ x, x ∈ f → 0 ≤ x ∧ x ≤ 1048576) → -(1048576 * (l.length : Int)) ≤ bal l f v
 | [], f, _ => by rw [bal_nil]; simp
 | a :: l, [], _ => by
  show _ ≤ (0 : Int)
  have : (0 : Int) ≤ ((a :: l).length : Int) := by omega
  omega
 | a :: l, x :: f, h => by
  have h1 := h x List.mem_cons_self
  have h2 := bal_low v l f (fun y hy => h y (List.mem_cons_of_mem _ hy))
  rw [bal_cons, List.length_cons]
  split <;> split <;> omega
theorem levelMore_ev (n : Int) (b : Bool) (l : List S74) (F : List Int) (s t : Int) : Ev (fun k => ebbtidelaw08_LevelMore.f k n b l F s t) true := by
 unfold ebbtidelaw08_LevelMore.f
 refine Ev.bind awake08_ev ?_
 refine Ev.pos rfl ?_
 refine Ev.call (path_eq n b l F s t) ?_
 refine Ev.bind (ref_value_ev n b l s t F) ?_
 refine Ev.ite (fun h1 => ?_) (fun h1 => more_no _ _ _ _ _ _ _ _ _ _ _ (Or.inl fun h => h1 h.1))
 refine Ev.ite (fun h2 => ?_) (fun h2 => more_no _ _ _ _ _ _ _ _ _ _ _ (Or.inl fun h => h2 h.2))
 refine Ev.ite (fun h3 => ?_) (fun h3 => more_no _ _ _ _ _ _ _ _ _ _ _ (Or.inr (Bool.eq_false_iff.2 h3)))
 obtain ⟨he, h0, n0, rfl, hf, hv⟩ := flow_val h2
 obtain ⟨n1, s0, t0, e1, rfl, rfl, hr, hs, ht, hst, hp, hl⟩ := path_yes h0 he
 obtain rfl : n0 = n1 := by omega
 have hlen := pathRes_len n0 l F s0 t0
 rw [hp] at h1 h3 hlen ⊢
 have hm : t0 ∈ nodes (bfP l F n0 s0) := of_decide_eq_true h3
 obtain ⟨hL, ha⟩ := wayP_fact hr hs hm
 obtain ⟨g1, g2, g3, g4, g5, g6, g7⟩ := push_found hf hr hs hst hL ha
 have hn := (endsE_ok he).1
 have hen := (endsE_ok he).2
 have hb1 := H.flow_top hf hs hst
 have hb2 : -209715200 ≤ bal l F s0 := by
  have h_ := bal_low s0 l F (fun x hx => by
   obtain ⟨i, hi, rfl⟩ := List.getElem_of_mem hx
   have := hr.nums i (by rw [← hr.len]; exact hi)
   rw [List.getD_eq_getElem?_getD, List.getElem?_eq_getElem hi] at this
   simp only [Option.getD_some] at this
   omega)
  have := hr.arcs
  omega
 have hlen : (wayP l F n0 s0 t0).length ≤ 50 := hlen
 rw [hv]
 refine Ev.succ ?_; simp only [ebbtidelaw08_LevelMore.j0]
 refine Ev.neg (by simpa using g3) ?_
 refine more_l0 b g6 hlen _ 0 _ _ _ ?_ (wayP l F n0 s0 t0).length 0 (by omega)
 refine Ev.bind (bottle_ev hr b _ g6 (by omega) g3) ?_
 refine Ev.bind (ref_pushw_ev h0 hr b (by omega) (by omega) (fun e he => ⟨g6 e he, H.leastR_le he⟩) g5) ?_
 refine Ev.bind (ref_value_ev n0 b l s0 t0 _) ?_
 rw [val_flow hn hen g1]
 refine Ev.pos rfl ?_
 refine Ev.pos (by omega) ?_
 refine Ev.pos rfl ?_
 refine Ev.pos rfl ?_
 refine Ev.done ?_
 rw [g4, wrap_id (by omega) (by omega)]
 exact beq_self_eq_true _
end Go.Proofs.Ytkcpanpdipmmmaa.Q
