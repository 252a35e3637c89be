/- What the law's row needs of these texts, taken out of them by wip/tool/mini.py: QLLevelEdges. -/
import Derived.Test.YtkcpanpdipmmmaaMacmebl
import Derived.Test.YtkcpanpdipmmmaaMjgolpd
set_option linter.unusedVariables false
set_option linter.unusedSimpArgs false
namespace Go.Proofs.Ytkcpanpdipmmmaa.Q
open Go.RowKit Go.Proofs.YtkcpanpdipmmmaaW.PrintWords Go.Proofs.YtkcpanpdipmmmaaW.PrintLast Go.Proofs.YtkcpanpdipmmmaaW.PrintMore Go.Proofs.Ytkcpanpdipmmmaa.P
open Go.Proofs.Ytkcpanpdipmmmaa.H (levelsRes Right right_of stepsR bfP dOf nodes frP toP esP bfP_upto dOf_len dOf_get fnd fnd_none fnd_some lv_lt esP_fr esP_to stFrom stTo stRoom rfrom_ok rto_ok mem_esP steps_ev dOf_mem dOf_neg esP_of fds_lt fds_len)
section
variable {l : List S74} {F : List Int} {n s : Nat}
theorem lev_bound (hr : Right l F n) (hs : s < n) {v : Nat} (hv : v < n) : -1 ≤ (dOf n (bfP l F n s)).getD v 0 ∧ (dOf n (bfP l F n s)).getD v 0 < n := by
 have hu := (bfP_upto hr hs).fds
 rw [dOf_get _ _ hv]
 cases hf : fnd (bfP l F n s) v with
 | none => simp only; omega
 | some x =>
  have h1 := lv_lt hu (fnd_some hf).1
  have h2 := fds_len hu (esP_to hr) hs
  simp only
  omega
theorem lev_in (hr : Right l F n) (hs : s < n) {v : Nat} (hv : v < n) (h : 0 ≤ (dOf n (bfP l F n s)).getD v 0) : ∃ x, x ∈ bfP l F n s ∧ x.v = v ∧ (dOf n (bfP l F n s)).getD v 0 = (x.lv : Int) := by
 have hu := (bfP_upto hr hs).fds
 have hm : v ∈ nodes (bfP l F n s) := by
  apply Classical.byContradiction
  intro hm
  have := (dOf_neg (bfP l F n s) 0 hv).2 hm
  omega
 obtain ⟨x, hx, rfl⟩ := List.mem_map.1 hm
 exact ⟨x, hx, rfl, dOf_mem hu.nodup hx 0 hv⟩
theorem fr_in (hr : Right l F n) {e : S38} (he : e ∈ stepsR l F F.length) : stFrom l e = ((frP l e : Nat) : Int) ∧ frP l e < n ∧ stTo l e = ((toP l e : Nat) : Int) ∧ toP l e < n := by
 have h1 := (stepsOk hr).from_in he
 have h2 := (stepsOk hr).to_in he
 unfold frP toP
 omega
theorem step_es (hr : Right l F n) {e : S38} (he : e ∈ stepsR l F F.length) : e ∈ esP l F (frP l e) :=
 esP_of hr (H.stepsR_of hr e he) ((H.mem_stepsR l F F.length e).1 he).2
theorem edge_fact (hr : Right l F n) (hs : s < n) {e : S38} (he : e ∈ stepsR l F F.length) (h : 0 ≤ (dOf n (bfP l F n s)).getD (frP l e) 0) :
  0 ≤ (dOf n (bfP l F n s)).getD (toP l e) 0 ∧ (dOf n (bfP l F n s)).getD (toP l e) 0 ≤ (dOf n (bfP l F n s)).getD (frP l e) 0 + 1 := by
 have hu := (bfP_upto hr hs).fds
 obtain ⟨_, h1, _, h2⟩ := fr_in hr he
 obtain ⟨x, hx, hxv, hxl⟩ := lev_in hr hs h1 h
 have hes := step_es hr he
 rw [← hxv] at hes
 obtain ⟨y, hy, hyv, hyl⟩ := H.bfsN_closed (z := z38) (esP_to hr) hs hx hes
 have hyd := dOf_mem hu.nodup hy (0 : Int) (by rw [hyv]; exact h2)
 rw [hyv] at hyd
 have hy2 : (dOf n (bfP l F n s)).getD (toP l e) 0 = (y.lv : Int) := hyd
 omega
structure Cnt (l : List S74) (F : List Int) (n s i : Nat) (R : List Int) : Prop where
 len : R.length = n
 le : ∀ v, v < n → 0 ≤ R.getD v 0 ∧ R.getD v 0 ≤ i
 on : ∀ j, j < i → ∀ e, (stepsR l F F.length)[j]? = some e → 0 ≤ (dOf n (bfP l F n s)).getD (frP l e) 0 → (dOf n (bfP l F n s)).getD (toP l e) 0 = (dOf n (bfP l F n s)).getD (frP l e) 0 + 1 → 0 < R.getD (toP l e) 0
theorem getD_set_eq (R : List Int) (t v : Nat) (y : Int) (ht : t < R.length) : (R.set t y).getD v 0 = if v = t then y else R.getD v 0 := by
 rw [List.getD_eq_getElem?_getD, List.getElem?_set, List.getD_eq_getElem?_getD]
 by_cases h : t = v
 ·subst h; simp [ht]
 ·rw [if_neg h, if_neg (fun e => h e.symm)]
theorem edges_l0 (hr : Right l F n) (hs : s < n) (b : Bool) (hl1 : ∀ R, Cnt l F n s (stepsR l F F.length).length R → Ev (fun k => ebbtidelaw08_LevelEdges.l1 k (s : Int) true (dOf n (bfP l F n s)) R 0 (n : Int) b l) true) (d : Nat) : ∀ (i : Nat) (R : List Int), i + d = (stepsR l F F.length).length → Cnt l F n s i R →
  Ev (fun k => ebbtidelaw08_LevelEdges.l0 k (s : Int) true (dOf n (bfP l F n s)) (stepsR l F F.length) R (i : Int) (n : Int) b l) true := by
 have hD := dOf_len n (bfP l F n s)
 have hn := hr.fifty
 have hLl := (stepsOk hr).len
 induction d with
 | zero =>
  intro i R hi hc
  have e : i = (stepsR l F F.length).length := by omega
  subst e
  refine Ev.succ ?_; simp only [ebbtidelaw08_LevelEdges.l0]
  refine Ev.neg (by omega) ?_
  exact hl1 R hc
 | succ d ih =>
  intro i R hi hc
  obtain ⟨e, he⟩ : ∃ e, (stepsR l F F.length)[i]? = some e := ⟨_, List.getElem?_eq_getElem (by omega)⟩
  have hem := List.mem_of_getElem? he
  have hgd : rd_T38 (stepsR l F F.length) (i : Int) = e := by rw [rdStep_nat, List.getD_eq_getElem?_getD, he]; rfl
  obtain ⟨hf1, hf2, ht1, ht2⟩ := fr_in hr hem
  have hbf := lev_bound hr hs hf2
  have hbt := lev_bound hr hs ht2
  have hrt := hc.le _ ht2
  have hlen := hc.len
  have hwf : wrap64 ((dOf n (bfP l F n s)).getD (frP l e) 0 + 1) = (dOf n (bfP l F n s)).getD (frP l e) 0 + 1 := wrap_id (by omega) (by omega)
  have hwr : wrap64 (R.getD (toP l e) 0 + 1) = R.getD (toP l e) 0 + 1 := wrap_id (by omega) (by omega)
  -- the count goes on
  have hup : Cnt l F n s (i + 1) (R.set (toP l e) (R.getD (toP l e) 0 + 1)) := by
   refine ⟨by rw [List.length_set]; exact hlen, fun v hv => ?_, fun j hj e' he' g1 g2 => ?_⟩
   ·have := hc.le v hv
    rw [getD_set_eq R _ _ _ (by omega)]
    split
    ·omega
    ·omega
   ·rw [getD_set_eq R _ _ _ (by omega)]
    split
    ·omega
    ·rename_i hne
     by_cases hji : j = i
     ·subst hji
      rw [he] at he'
      cases he'
      exact absurd rfl hne
     ·exact hc.on j (by omega) e' he' g1 g2
  have hsame : ¬ (0 ≤ (dOf n (bfP l F n s)).getD (frP l e) 0 ∧ (dOf n (bfP l F n s)).getD (toP l e) 0 = (dOf n (bfP l F n s)).getD (frP l e) 0 + 1) → Cnt l F n s (i + 1) R := by
   intro hno
   refine ⟨hlen, fun v hv => ?_, fun j hj e' he' g1 g2 => ?_⟩
   ·have := hc.le v hv; omega
   ·by_cases hji : j = i
    ·subst hji
     rw [he] at he'
     cases he'
     exact absurd ⟨g1, g2⟩ hno
    ·exact hc.on j (by omega) e' he' g1 g2
  have hj2 : Ev (fun k => ebbtidelaw08_LevelEdges.j2 k (s : Int) true (dOf n (bfP l F n s)) (stepsR l F F.length) R (i : Int) ((frP l e : Nat) : Int) ((toP l e : Nat) : Int) false (n : Int) b l) true := by
   refine Ev.succ ?_; simp only [ebbtidelaw08_LevelEdges.j2]
   refine Ev.neg (by simp) ?_
   refine Ev.pos (by omega) ?_
   refine Ev.pos (by omega) ?_
   rw [rd_nat, rd_nat, rd_nat, hwf, hwr, wrap_succ (n := (stepsR l F F.length).length) (by omega) (by omega), Int.toNat_natCast]
   refine Ev.ite (fun g => ?_) (fun g => ?_)
   ·refine Ev.pos (by omega) ?_
    refine Ev.pos (by omega) ?_
    refine Ev.ite (fun g2 => ?_) (fun g2 => ?_)
    ·refine Ev.pos (by omega) ?_
     exact ih (i + 1) _ (by omega) hup
    ·exact ih (i + 1) _ (by omega) (hsame (fun h => g2 h.2))
   ·exact ih (i + 1) _ (by omega) (hsame (fun h => g h.1))
  refine Ev.succ ?_; simp only [ebbtidelaw08_LevelEdges.l0]
  refine Ev.pos (by omega) ?_
  refine Ev.pos (by omega) ?_
  rw [hgd]
  refine Ev.call (rfrom_ok (stepsOk hr) hem _ b) ?_
  refine Ev.call (rto_ok (stepsOk hr) hem _ b) ?_
  rw [hf1, ht1]
  refine Ev.pos (by omega) ?_
  refine Ev.pos (by omega) ?_
  rw [rd_nat, rd_nat, hwf]
  refine Ev.ite (fun g => ?_) (fun g => ?_)
  ·have hef := edge_fact hr hs hem g
   refine Ev.pos (by omega) ?_
   refine Ev.pos (by omega) ?_
   refine Ev.neg (by omega) ?_
   rw [decide_eq_false (show ¬ (dOf n (bfP l F n s)).getD (toP l e) 0 > (dOf n (bfP l F n s)).getD (frP l e) 0 + 1 by omega)]
   exact hj2
  ·exact hj2
theorem edges_l1 (hr : Right l F n) (hs : s < n) (b : Bool) {R : List Int} (hc : Cnt l F n s (stepsR l F F.length).length R) (d : Nat) : ∀ v : Nat, v + d = n → Ev (fun k => ebbtidelaw08_LevelEdges.l1 k (s : Int) true (dOf n (bfP l F n s)) R (v : Int) (n : Int) b l) true := by
 have hu := (bfP_upto hr hs).fds
 have hD := dOf_len n (bfP l F n s)
 have hn := hr.fifty
 have hlen := hc.len
 induction d with
 | zero =>
  intro v hv
  refine Ev.succ ?_; simp only [ebbtidelaw08_LevelEdges.l1]
  refine Ev.neg (by omega) ?_
  exact Ev.now _
 | succ d ih =>
  intro v hv
  have hvn : v < n := by omega
  have hb := lev_bound hr hs hvn
  have hnext := ih (v + 1) (by omega)
  refine Ev.succ ?_; simp only [ebbtidelaw08_LevelEdges.l1]
  refine Ev.pos (by omega) ?_
  rw [rd_nat, rd_nat, wrap_succ (n := n) hvn (by omega)]
  by_cases hvs : v = s
  ·have hds : (dOf n (bfP l F n s)).getD v 0 = 0 := by
    obtain ⟨x, h1, h2, h3⟩ := H.bfP_head hr hs
    have h4 := dOf_mem hu.nodup h1 (0 : Int) (by rw [h2]; exact hs)
    rw [h2, h3] at h4
    rw [hvs]
    exact h4
   refine Ev.pos (by omega) ?_
   refine Ev.pos (by omega) ?_
   refine Ev.pos (by omega) ?_
   refine Ev.neg (by omega) ?_
   refine Ev.neg (by omega) ?_
   exact hnext
  ·refine Ev.neg (by omega) ?_
   refine Ev.pos (by omega) ?_
   refine Ev.pos (by omega) ?_
   refine Ev.neg (fun h0 => ?_) ?_
   ·obtain ⟨x, hx, hxv, hxl⟩ := lev_in hr hs hvn (by omega)
    rcases hu.mem_lv hx with ⟨h1, _⟩ | ⟨_, _, z, _, _, h2⟩
    ·omega
    ·omega
   refine Ev.ite (fun g => ?_) (fun g => ?_)
   ·refine Ev.pos (by omega) ?_
    refine Ev.neg (fun h0 => ?_) ?_
    ·obtain ⟨x, hx, hxv, hxl⟩ := lev_in hr hs hvn (by omega)
     rcases hu.mem_lv hx with ⟨h1, _⟩ | ⟨_, hto, z, hz, hze, h2⟩
     ·omega
     ·have hes := esP_steps hr hze
      obtain ⟨j, hj⟩ := List.getElem?_of_mem hes
      have hjl := (List.getElem?_eq_some_iff.1 hj).1
      have hfz := esP_fr _ _ hze
      have hzd := dOf_mem hu.nodup hz (0 : Int) (fds_lt hu (esP_to hr) hs _ (List.mem_map_of_mem hz))
      have h5 := hc.on j hjl x.by_ hj (by rw [hfz]; show 0 ≤ (dOf n (bfP l F n s)).getD z.v 0; omega) (by rw [hfz, hto, hxv, hxl]; show (x.lv : Int) = (dOf n (bfP l F n s)).getD z.v 0 + 1; omega)
      rw [hto, hxv] at h5
      omega
    refine Ev.neg (by omega) ?_
    exact hnext
   ·refine Ev.neg (by omega) ?_
    exact hnext
end
theorem levelEdges_ev (n : Int) (b : Bool) (l : List S74) (F : List Int) (s : Int) : Ev (fun k => ebbtidelaw08_LevelEdges.f k n b l F s) true := by
 unfold ebbtidelaw08_LevelEdges.f
 refine Ev.bind awake08_ev ?_
 refine Ev.pos rfl ?_
 refine Ev.call (levels_eq n b l F s) ?_
 unfold levelsRes
 by_cases h0 : askErr n l F = 0
 ·rw [if_pos h0]
  obtain ⟨n0, rfl, hr⟩ := right_of h0
  by_cases hs : 0 ≤ s ∧ s < (n0 : Int)
  ·rw [if_pos hs]
   obtain ⟨s0, rfl⟩ : ∃ s0 : Nat, s = s0 := ⟨s.toNat, by omega⟩
   rw [Int.toNat_natCast, Int.toNat_natCast]
   have hs0 : s0 < n0 := by omega
   have hD := dOf_len n0 (bfP l F n0 s0)
   have hn := hr.fifty
   have hu := (bfP_upto hr hs0).fds
   have hds : (dOf n0 (bfP l F n0 s0)).getD s0 0 = 0 := by
    obtain ⟨x, h1, h2, h3⟩ := H.bfP_head hr hs0
    have h4 := dOf_mem hu.nodup h1 (0 : Int) (by rw [h2]; exact hs0)
    rw [h2, h3] at h4
    exact h4
   refine Ev.pos rfl ?_
   refine Ev.pos (by dsimp only; omega) ?_
   refine Ev.pos (by omega) ?_
   refine Ev.pos (by dsimp only; omega) ?_
   rw [rd_nat, hds]
   refine Ev.succ ?_; simp only [ebbtidelaw08_LevelEdges.j0]
   refine Ev.neg (by simp) ?_
   refine Ev.bind (steps_ev hr _ b) ?_
   refine Ev.pos (by omega) ?_
   rw [Int.toNat_natCast]
   refine Ev.pos (by omega) ?_
   refine edges_l0 hr hs0 b (fun R hc => edges_l1 hr hs0 b hc n0 0 (by omega)) _ 0 _ (Nat.zero_add _) ?_
   refine ⟨List.length_replicate, fun v hv => ?_, fun j hj => absurd hj (Nat.not_lt_zero _)⟩
   rw [List.getD_eq_getElem?_getD, List.getElem?_replicate, if_pos hv]
   exact ⟨Int.le_refl _, Int.le_refl _⟩
  ·rw [if_neg hs]
   refine Ev.neg (by simp) ?_
   exact Ev.now _
 ·rw [if_neg h0]
  refine Ev.neg h0 ?_
  exact Ev.now _
end Go.Proofs.Ytkcpanpdipmmmaa.Q
