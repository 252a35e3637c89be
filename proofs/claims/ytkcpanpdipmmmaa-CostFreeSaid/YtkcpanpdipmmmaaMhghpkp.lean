/- What the law's row needs of these texts, taken out of them by wip/tool/mini.py: P0 QMakers P2 P3 P4 P5 P6 P7 P8 P9 P10 P11 P47 P48 P49 P46 QBfLaw QSortArr QSortLaw P21 P23 QLists QStepsLaw QSetLaw QQuietB. -/
import Derived.Test.YtkcpanpdipmmmaaProg
import Derived.Below
import Derived.Deep.Draws
import Derived.Deep.AppendLies
import Derived.Maps.AppendAt
import Derived.OwnWalk
import Derived.Laws.BytesArg
import Derived.Laws.MakeOwn
import Derived.Laws.OwnMore
import Derived.Deep.OwnRows
import Derived.Tactics
import Derived.Lib.ConvBytes
import Derived.Laws.Slices
import Derived.WalkKit
import Derived.KernelRfl
import Derived.RowKit3
import Derived.Deep.LoopGhost
import Derived.Deep.QuietTactic
import Derived.BigQuiet
import Derived.WideLaws
import Derived.Deep.DeepCutAuto
import Derived.Deep.CutBlock
import Derived.Deep.RegionHeld3
import Derived.Laws.Rows
import Derived.Lib.AppendStr
import Derived.ArgAppend
import Derived.Laws.IdiomCopy
import Derived.OrdersHeld
import Derived.Laws.BitsLemmas
import Derived.RowKit
import Derived.Test.YtkcpanpdipmmmaaVjplalf
import Derived.Laws.StructEq
import Derived.RegionTactic
import Derived.BigRegion
import Derived.ChangeAlike
import Derived.LoopTactic
import Derived.Laws.AppendOwn
set_option linter.unusedVariables false
set_option linter.unusedSimpArgs false
namespace Go.Proofs.Ytkcpanpdipmmmaa.P
open Go.RowKit Go.Proofs.YtkcpanpdipmmmaaW.PrintWords Go.Proofs.YtkcpanpdipmmmaaW.PrintLast Go.Proofs.YtkcpanpdipmmmaaW.PrintMore
attribute [local go_sem] max2_int min2_int max_two min_two max_three min_three max_four min_four
def errW : Option Int → Value
 | none => .nilIface
 | some c => .iface 0 (.int .i64 c)
theorem errW_none : errW none = .nilIface := rfl
theorem errW_some (c : Int) : errW (some c) = .iface 0 (.int .i64 c) := rfl
theorem info3 : (Try.prog.info? 3).map (fun i => (i.zero, i.size, i.bytes)) = some (some (.int .i64 0), 1, 8) := by kernel_rfl
theorem info4 : (Try.prog.info? 4).map (fun i => (i.zero, i.size, i.bytes)) = some (some (.bool false), 1, 1) := by kernel_rfl
theorem info38 : (Try.prog.info? 38).map (fun i => (i.zero, i.size, i.bytes)) = some (some (.agg #[(.int .i64 0), (.bool false)]), 2, 16) := by kernel_rfl
structure S74 where
 f0 : Int
 f1 : Int
 f2 : Int
 f3 : Int
def z74 : S74 := ⟨(0 : Int), (0 : Int), (0 : Int), (0 : Int)⟩
def k74 : Kd S74 := Kd.iso (Kd.pair (Kd.int .i64) (Kd.pair (Kd.int .i64) (Kd.pair (Kd.int .i64) (Kd.int .i64)))) (fun x : S74 => (x.f0, x.f1, x.f2, x.f3))
theorem k74_open {w : World} {x : S74} {cs : List Value} (h : k74.K w x cs) : cs = [.int .i64 x.f0, .int .i64 x.f1, .int .i64 x.f2, .int .i64 x.f3] := by
 obtain ⟨_, _, rfl, rfl, ⟨_, _, rfl, rfl, ⟨_, _, rfl, rfl, rfl⟩⟩⟩ := h
 exact rfl
theorem k74_mkM (w : World) (base : Nat) (ok : Nat → Prop) (x : S74)  : k74.M w base ok x [.int .i64 x.f0, .int .i64 x.f1, .int .i64 x.f2, .int .i64 x.f3] := ⟨[.int .i64 x.f0], [.int .i64 x.f1, .int .i64 x.f2, .int .i64 x.f3], rfl, rfl, ⟨[.int .i64 x.f1], [.int .i64 x.f2, .int .i64 x.f3], rfl, rfl, ⟨[.int .i64 x.f2], [.int .i64 x.f3], rfl, rfl, rfl⟩⟩⟩
def rd_T74 (xs : List S74) (i : Int) : S74 := xs.getD i.toNat z74
theorem at_T74 {w : World} {A : Option Addr} {n : Nat} {xs : List S74} (h : Kd.C k74 w A n xs) (i : Int) (h0 : 0 ≤ i) (h1 : i < n) : ∃ ad , A = some ad ∧ w.cell? (ad.add (i.toNat * 4)) = some (.int .i64 (rd_T74 xs i).f0) ∧ w.cell? ⟨(ad.add (i.toNat * 4)).block, (ad.add (i.toNat * 4)).off + 1, none⟩ = some (.int .i64 (rd_T74 xs i).f1) ∧ w.cell? ⟨(ad.add (i.toNat * 4)).block, (ad.add (i.toNat * 4)).off + 2, none⟩ = some (.int .i64 (rd_T74 xs i).f2) ∧ w.cell? ⟨(ad.add (i.toNat * 4)).block, (ad.add (i.toNat * 4)).off + 3, none⟩ = some (.int .i64 (rd_T74 xs i).f3) := by
 obtain ⟨ad, c, e, _, hK, hc0⟩ := Kd.C_get h z74 i h0 h1
 have hc : ∀ j u, c[j]? = some u → w.cell? (ad.add (i.toNat * 4 + j)) = some u := hc0
 obtain rfl := k74_open hK
 exact ⟨ad, e, hc 0 _ rfl, by rw [← add_field _ _ 1 (by omega)]; exact hc 1 _ rfl, by rw [← add_field _ _ 2 (by omega)]; exact hc 2 _ rfl, by rw [← add_field _ _ 3 (by omega)]; exact hc 3 _ rfl⟩
structure S38 where
 f0 : Int
 f1 : Bool
def z38 : S38 := ⟨(0 : Int), false⟩
def k38 : Kd S38 := Kd.iso (Kd.pair (Kd.int .i64) Kd.bool) (fun x : S38 => (x.f0, x.f1))
theorem k38_open {w : World} {x : S38} {cs : List Value} (h : k38.K w x cs) : cs = [.int .i64 x.f0, .bool x.f1] := by
 obtain ⟨_, _, rfl, rfl, rfl⟩ := h
 exact rfl
theorem k38_mkM (w : World) (base : Nat) (ok : Nat → Prop) (x : S38)  : k38.M w base ok x [.int .i64 x.f0, .bool x.f1] := ⟨[.int .i64 x.f0], [.bool x.f1], rfl, rfl, rfl⟩
def rd_T38 (xs : List S38) (i : Int) : S38 := xs.getD i.toNat z38
theorem at_T38 {w : World} {A : Option Addr} {n : Nat} {xs : List S38} (h : Kd.C k38 w A n xs) (i : Int) (h0 : 0 ≤ i) (h1 : i < n) : ∃ ad , A = some ad ∧ w.cell? (ad.add (i.toNat * 2)) = some (.int .i64 (rd_T38 xs i).f0) ∧ w.cell? ⟨(ad.add (i.toNat * 2)).block, (ad.add (i.toNat * 2)).off + 1, none⟩ = some (.bool (rd_T38 xs i).f1) := by
 obtain ⟨ad, c, e, _, hK, hc0⟩ := Kd.C_get h z38 i h0 h1
 have hc : ∀ j u, c[j]? = some u → w.cell? (ad.add (i.toNat * 2 + j)) = some u := hc0
 obtain rfl := k38_open hK
 exact ⟨ad, e, hc 0 _ rfl, by rw [← add_field _ _ 1 (by omega)]; exact hc 1 _ rfl⟩
def rd_L4 (xs : List (List S38)) (i : Int) : (List S38) := xs.getD i.toNat ([] : List S38)
theorem at_L4 {w : World} {A : Option Addr} {n : Nat} {xs : List (List S38)} (h : Kd.C (Kd.slice 38 k38) w A n xs) (i : Int) (h0 : 0 ≤ i) (h1 : i < n) : ∃ ad A0 c0, A = some ad ∧ w.cell? (ad.add i.toNat) = some (.slice A0 (rd_L4 xs i).length c0) ∧ (rd_L4 xs i).length ≤ c0 ∧ k38.C w A0 (rd_L4 xs i).length (rd_L4 xs i) := by
 obtain ⟨ad, c, e, _, hK, hc0⟩ := Kd.C_get h ([] : List S38) i h0 h1
 have hc : ∀ j u, c[j]? = some u → w.cell? (ad.add (i.toNat * 1 + j)) = some u := hc0
 obtain ⟨A0, c0, rfl, l0, g0⟩ := hK
 exact ⟨ad, A0, c0, e, by have hq := hc 0 _ rfl; rwa [Nat.mul_one, Nat.add_zero] at hq, l0, g0⟩
def rd_L7 (xs : List (List Int)) (i : Int) : (List Int) := xs.getD i.toNat ([] : List Int)
theorem at_L7 {w : World} {A : Option Addr} {n : Nat} {xs : List (List Int)} (h : Kd.C (Kd.slice 3 (Kd.int .i64)) w A n xs) (i : Int) (h0 : 0 ≤ i) (h1 : i < n) : ∃ ad A0 c0, A = some ad ∧ w.cell? (ad.add i.toNat) = some (.slice A0 (rd_L7 xs i).length c0) ∧ (rd_L7 xs i).length ≤ c0 ∧ (Kd.int .i64).C w A0 (rd_L7 xs i).length (rd_L7 xs i) := by
 obtain ⟨ad, c, e, _, hK, hc0⟩ := Kd.C_get h ([] : List Int) i h0 h1
 have hc : ∀ j u, c[j]? = some u → w.cell? (ad.add (i.toNat * 1 + j)) = some u := hc0
 obtain ⟨A0, c0, rfl, l0, g0⟩ := hK
 exact ⟨ad, A0, c0, e, by have hq := hc 0 _ rfl; rwa [Nat.mul_one, Nat.add_zero] at hq, l0, g0⟩
end Go.Proofs.Ytkcpanpdipmmmaa.P
namespace Go.Proofs.Ytkcpanpdipmmmaa.H
open Go.RowKit Go.Proofs.YtkcpanpdipmmmaaW.PrintWords Go.Proofs.YtkcpanpdipmmmaaW.PrintLast
structure Mk where
 i : Nat
 N : Nat
 G : Value → World → Prop
def allB (md : Region.Mode) (ops : Array Oper) (bad : List Nat) (lb l' : Array Bool) : Nat → Array Bool → List Nat → Bool
 | 0, l, rs => rs.isEmpty && l == l'
 | n + 1, l, rs => (rs == bad && l == lb) || (Region.ready md ops l == rs && rs.all fun i => allB md ops bad lb l' n (l.setIfInBounds i true) (rs.erase i))
structure Same (a' a : Act) (D : List Nat) (vs : Nat → Value) : Prop where
 defers : a'.defers = a.defers
 size : a'.tmps.size = a.tmps.size
 at_ : ∀ t, t < a.tmps.size → a'.tmps[t]? = if t ∈ D then some (vs t) else a.tmps[t]?
theorem Same.refl (a : Act) (vs : Nat → Value) : Same a a [] vs := ⟨rfl, rfl, fun t _ => by rw [if_neg (by simp)]⟩
theorem Same.eq {a1 a2 a : Act} {D E : List Nat} {vs : Nat → Value} (h1 : Same a1 a D vs) (h2 : Same a2 a E vs) (hDE : ∀ t, t ∈ D ↔ t ∈ E) : a1 = a2 := by
 obtain ⟨t1, d1⟩ := a1
 obtain ⟨t2, d2⟩ := a2
 have e1 : d1 = d2 := h1.defers.trans h2.defers.symm
 have e2 : t1 = t2 := by
  apply Array.ext_getElem?
  intro t
  rcases Nat.lt_or_ge t a.tmps.size with h | h
  ·have h3 := h1.at_ t h
   have h4 := h2.at_ t h
   refine h3.trans (Eq.trans ?_ h4.symm)
   by_cases hd : t ∈ D
   ·rw [if_pos hd, if_pos ((hDE t).1 hd)]
   ·rw [if_neg hd, if_neg (fun h => hd ((hDE t).2 h))]
  ·have s1 : t1.size ≤ t := by have := h1.size; exact Nat.le_trans (Nat.le_of_eq this) h
   have s2 : t2.size ≤ t := by have := h2.size; exact Nat.le_trans (Nat.le_of_eq this) h
   rw [Array.getElem?_eq_none s1, Array.getElem?_eq_none s2]
 rw [e1, e2]
theorem Same.put {a' a : Act} {D : List Nat} {vs : Nat → Value} (h : Same a' a D vs) (N : Nat) (v : Value) : Same (a'.put (some N) v) a (N :: D) (fun t => if t = N then v else vs t) := by
 refine ⟨h.defers, by simp [Act.put, h.size], fun t ht => ?_⟩
 show (a'.tmps.setIfInBounds N v)[t]? = _
 by_cases e : N = t
 ·subst e
  rw [Array.getElem?_setIfInBounds_self_of_lt (by rw [h.size]; exact ht), if_pos (by simp), if_pos rfl]
 ·rw [Array.getElem?_setIfInBounds_ne e, h.at_ t ht]
  by_cases hD : t ∈ D
  ·rw [if_pos hD, if_pos (List.mem_cons_of_mem _ hD), if_neg (fun h => e h.symm)]
  ·rw [if_neg hD, if_neg (by simp [hD, Ne.symm e])]
theorem Same.eval {a' a : Act} {D : List Nat} {vs : Nat → Value} (h : Same a' a D vs) {t : Nat} (ht : t ∉ D) : a'.eval (.tmp t) = a.eval (.tmp t) := by
 have : a'.tmps[t]? = a.tmps[t]? := by
  rcases Nat.lt_or_ge t a.tmps.size with hl | hl
  ·rw [h.at_ t hl, if_neg ht]
  ·rw [Array.getElem?_eq_none (by rw [h.size]; exact hl), Array.getElem?_eq_none hl]
 simp only [Act.eval, Array.getD_eq_getD_getElem?, this]
theorem putAll_same (ms : List Mk) (a0 : Act) (vs : Nat → Value) : ∀ (a : Act) (D : List Nat), Same a a0 D vs → Same (putAll a (ms.map fun m => (m.N, vs m.N))) a0 (ms.map Mk.N ++ D) vs := by
 induction ms with
 | nil => intro a D h; exact h
 | cons m ms ih =>
  intro a D h
  have h1 := h.put m.N (vs m.N)
  have h2 : Same (a.put (some m.N) (vs m.N)) a0 (m.N :: D) vs := by
   have e : (fun t => if t = m.N then vs m.N else vs t) = vs := by funext t; split <;> simp_all
   rw [e] at h1
   exact h1
  have h3 := ih _ _ h2
  refine ⟨h3.defers, h3.size, fun t ht => ?_⟩
  rw [show putAll a ((m :: ms).map fun m => (m.N, vs m.N)) = putAll (a.put (some m.N) (vs m.N)) (ms.map fun m => (m.N, vs m.N)) from rfl, h3.at_ t ht]
  have this : (t ∈ ms.map Mk.N ++ m.N :: D) ↔ (t ∈ (m :: ms).map Mk.N ++ D) := by
   simp only [List.mem_append, List.mem_cons, List.map_cons]
   constructor
   ·rintro (h | h | h)
    ·exact .inl (.inr h)
    ·exact .inl (.inl h)
    ·exact .inr h
   ·rintro ((h | h) | h)
    ·exact .inr (.inl h)
    ·exact .inl h
    ·exact .inr (.inr h)
  by_cases hd : t ∈ ms.map Mk.N ++ m.N :: D
  ·rw [if_pos hd, if_pos (this.1 hd)]
  ·rw [if_neg hd, if_neg (fun h => hd (this.2 h))]
theorem inj_nodup {ms : List Mk} (h : (ms.map Mk.N).Nodup) : ∀ m, m ∈ ms → ∀ m', m' ∈ ms → m.N = m'.N → m = m' := by
 induction ms with
 | nil => intro m hm; cases hm
 | cons x ms ih =>
  rw [List.map_cons, List.nodup_cons] at h
  intro m hm m' hm' e
  rcases List.mem_cons.1 hm with h1 | h1 <;> rcases List.mem_cons.1 hm' with h2 | h2
  ·rw [h1, h2]
  ·exact absurd (List.mem_map.2 ⟨m', h2, by rw [← e, h1]⟩) h.1
  ·exact absurd (List.mem_map.2 ⟨m, h1, by rw [e, h2]⟩) h.1
  ·exact ih h.2 m h1 m' h2 e
section
variable {P : Program} {ops : Array Oper} {Q : Exit → Act → World → Prop} {md : Region.Mode} {S : World → Prop} {ds : List Nat}
theorem makers_ {fuel : Nat} {l : Array Bool} {a : Act} {w : World} (n : Nat) (l' : Array Bool) (bad : List Nat) (lb : Array Bool) (ms : List Mk) (hn : ms.length = n) (hnd : (ms.map Mk.N).Nodup) (hni : (ms.map Mk.i).Nodup)
  (hops : ∀ m, m ∈ ms → ∃ oi, ops[m.i]? = some oi ∧ oi.dst = some m.N ∧ m.i ∉ ds ∧ ∀ (a' : Act) (w' : World) (K : Act → World → Prop), (∀ t, t ∉ ms.map Mk.N → a'.eval (.tmp t) = a.eval (.tmp t)) → S w' → Below w.heap.size w w' →
   (∀ v w'', S w'' → Below w'.heap.size w' w'' → m.G v w'' → K (a'.put (some m.N) v) w'') → if Region.wanted oi (yielded ops a'.tmps) = true then Oper.wp P oi a' w' K Q else K (a'.put (some m.N) undef) w')
  (hstab : ∀ m, m ∈ ms → ∀ v w1 w2, Below w1.heap.size w1 w2 → m.G v w1 → m.G v w2) (hc : allB md ops bad lb l' n l (ms.map Mk.i) = true) (hS : S w)
  (h : ∀ (vs : Nat → Value) (w' : World), Below w.heap.size w w' → S w' → (∀ m, m ∈ ms → m.G (vs m.N) w') → wpAnyLast P md ops Q S ds fuel l' (putAll a (ms.map fun m => (m.N, vs m.N))) w')
  (hbad : ∀ (vs : Nat → Value) (w' : World), Below w.heap.size w w' → S w' → (∀ m, m ∈ ms → m.i ∉ bad → m.G (vs m.N) w') → wpAnyLast P md ops Q S ds (fuel + bad.length) lb (putAll a ((ms.filter fun m => !bad.contains m.i).map fun m => (m.N, vs m.N))) w') :
  wpAnyLast P md ops Q S ds (fuel + n) l a w := by
 subst hn
 have hinj := inj_nodup hnd
 have aux : ∀ (n : Nat) (rs : List Mk) (l : Array Bool) (a' : Act) (w' : World) (D : List Nat) (vs : Nat → Value), rs.length = n → (rs.map Mk.i).Nodup → (∀ m, m ∈ rs → m ∈ ms) → (∀ m, m ∈ rs → m.N ∉ D) → (∀ m, m ∈ ms → m ∈ rs ∨ m.N ∈ D) → (∀ t, t ∈ D → t ∈ ms.map Mk.N) →
   Same a' a D vs → (∀ m, m ∈ ms → m.N ∈ D → m.G (vs m.N) w') → Below w.heap.size w w' → S w' → allB md ops bad lb l' n l (rs.map Mk.i) = true → wpAnyLast P md ops Q S ds (fuel + n) l a' w' := by
  intro n
  induction n with
  | zero =>
   intro rs l a' w' D vs hn hnr hsub hout hcov hD hs hG hb hS hc
   have hr : rs = [] := List.eq_nil_of_length_eq_zero hn
   subst hr
   unfold allB at hc
   simp only [List.map_nil, List.isEmpty_nil, Bool.true_and, beq_iff_eq] at hc
   subst hc
   have hall : ∀ m, m ∈ ms → m.N ∈ D := fun m hm => (hcov m hm).elim (fun h => by cases h) id
   have e := Same.eq hs (putAll_same ms a vs a [] (Same.refl a vs)) (fun t => ⟨fun ht => by rw [List.append_nil]; exact hD t ht, fun ht => by
    rw [List.append_nil] at ht
    obtain ⟨m, hm, rfl⟩ := List.mem_map.1 ht
    exact hall m hm⟩)
   rw [e]
   exact h vs w' hb hS (fun m hm => hG m hm (hall m hm))
  | succ n ih =>
   intro rs l a' w' D vs hn hnr hsub hout hcov hD hs hG hb hS hc
   unfold allB at hc
   rw [Bool.or_eq_true] at hc
   rcases hc with hc | hc
   ·rw [Bool.and_eq_true, beq_iff_eq, beq_iff_eq] at hc
    obtain ⟨hbd, hl⟩ := hc
    subst hl
    have hin : ∀ m, m ∈ ms → (m.i ∉ bad ↔ m.N ∈ D) := by
     intro m hm
     constructor
     ·intro hnb
      rcases hcov m hm with h1 | h1
      ·exact absurd (hbd ▸ List.mem_map_of_mem h1) hnb
      ·exact h1
     ·intro hND hb2
      rw [← hbd] at hb2
      obtain ⟨x, hx, e⟩ := List.mem_map.1 hb2
      obtain ⟨o1, h1, h2, _⟩ := hops x (hsub x hx)
      obtain ⟨o2, h3, h4, _⟩ := hops m hm
      rw [e, h3] at h1
      injection h1 with h1
      subst h1
      rw [h4] at h2
      injection h2 with h2
      exact hout x hx (h2 ▸ hND)
    have e := Same.eq hs (putAll_same (ms.filter fun m => !bad.contains m.i) a vs a [] (Same.refl a vs)) (fun t => by
     rw [List.append_nil]
     constructor
     ·intro ht
      obtain ⟨m, hm, rfl⟩ := List.mem_map.1 (hD t ht)
      exact List.mem_map_of_mem (List.mem_filter.2 ⟨hm, by simpa using (hin m hm).2 ht⟩)
     ·intro ht
      obtain ⟨m, hm, rfl⟩ := List.mem_map.1 ht
      obtain ⟨h1, h2⟩ := List.mem_filter.1 hm
      exact (hin m h1).1 (by simpa using h2))
    have hlen : n + 1 = bad.length := by rw [← hbd, List.length_map]; exact hn.symm
    rw [e, hlen]
    exact hbad vs w' hb hS (fun m hm hnb => hG m hm ((hin m hm).1 hnb))
   rw [Bool.and_eq_true, beq_iff_eq, List.all_eq_true] at hc
   obtain ⟨hrdy, hnext⟩ := hc
   refine wpAnyLast_ready (rs := rs.map Mk.i) hrdy (by intro e; have := congrArg List.length e; rw [List.length_map] at this; simp at this; rw [this] at hn; simp at hn) ?_
   intro i hi
   obtain ⟨m, hm, rfl⟩ := List.mem_map.1 hi
   obtain ⟨oi, ho, hd, hnd', hop⟩ := hops m (hsub m hm)
   refine wpOp_step ho (fun K' hK => ?_)
   rw [hd]
   refine hop a' w' K' (fun t ht => hs.eval (fun h => ht (hD t h))) hS hb (fun v w'' hS2 hb2 hg => ?_)
   refine hK _ _ ⟨fun _ _ => hS2, ?_⟩
   have hlen : (rs.eraseP (fun x => x.i == m.i)).length = n := by
    rw [List.length_eraseP_of_mem hm (by simp)]
    omega
   have hmap : (rs.map Mk.i).erase m.i = (rs.eraseP (fun x => x.i == m.i)).map Mk.i := by
    rw [List.erase_eq_eraseP', List.eraseP_map]
    rfl
   have hgone : ∀ x, x ∈ rs.eraseP (fun x => x.i == m.i) → x.i ≠ m.i := by
    intro x hx
    have h1 : x.i ∈ (rs.map Mk.i).erase m.i := by rw [hmap]; exact List.mem_map_of_mem hx
    exact (hnr.mem_erase_iff.1 h1).1
   refine ih (rs.eraseP (fun x => x.i == m.i)) (l.setIfInBounds m.i true) _ w'' (m.N :: D) (fun t => if t = m.N then v else vs t) hlen (by rw [← hmap]; exact hnr.erase _) (fun x hx => hsub x (List.mem_of_mem_eraseP hx)) ?_ ?_ ?_ (hs.put m.N v) ?_ (below_then hb hb.size hb2) hS2 ?_
   ·intro x hx hxD
    rcases List.mem_cons.1 hxD with h | h
    ·have := hinj x (hsub x (List.mem_of_mem_eraseP hx)) m (hsub m hm) h
     exact hgone x hx (by rw [this])
    ·exact hout x (List.mem_of_mem_eraseP hx) h
   ·intro x hx
    by_cases e : x.i = m.i
    ·right
     obtain ⟨ox, hox, hdx, _⟩ := hops x hx
     rw [e, ho] at hox
     injection hox with hox
     subst hox
     rw [hd] at hdx
     injection hdx with hdx
     rw [hdx]
     exact List.mem_cons_self
    ·rcases hcov x hx with h | h
     ·left
      exact (List.mem_eraseP_of_neg (by simpa using e)).2 h
     ·right
      exact List.mem_cons_of_mem _ h
   ·intro t ht
    rcases List.mem_cons.1 ht with rfl | ht
    ·exact List.mem_map_of_mem (hsub m hm)
    ·exact hD t ht
   ·intro x hx hxD
    by_cases e : x.N = m.N
    ·have hxm := hinj x hx m (hsub m hm) e
     subst hxm
     show x.G (if x.N = x.N then v else vs x.N) w''
     rw [if_pos rfl]
     exact hg
    ·show x.G (if x.N = m.N then v else vs x.N) w''
     rw [if_neg e]
     refine hstab x hx _ w' w'' hb2 (hG x hx ?_)
     rcases List.mem_cons.1 hxD with h | h
     ·exact absurd h e
     ·exact h
   ·have := hnext m.i (List.mem_map_of_mem hm)
    rw [hmap] at this
    exact this
 exact aux ms.length ms l a w [] (fun _ => undef) rfl hni (fun m hm => hm) (fun m hm h => by cases h) (fun m hm => .inl hm) (fun t ht => by cases ht) (Same.refl a _) (fun m _ h => by cases h) (Below.refl _ _) hS hc
end
end Go.Proofs.Ytkcpanpdipmmmaa.H
namespace Go.Proofs.Ytkcpanpdipmmmaa.P
open Go.RowKit Go.Proofs.YtkcpanpdipmmmaaW.PrintWords Go.Proofs.YtkcpanpdipmmmaaW.PrintLast Go.Proofs.YtkcpanpdipmmmaaW.PrintMore
attribute [local go_sem] max2_int min2_int max_two min_two max_three min_three max_four min_four
def ebbtideref07_Steps.l0 : Nat → List Int → List (S38) → Int → Int → Bool → List (S74) → Option ((List (S38)))
 | 0, _, _, _, _, _, _ => none
 | k + 1, x1, x5, x6, x102000, x102001, x102002 => if x6 < (x1.length : Int) then (if 0 ≤ x6 then (if x6 < (x102002.length : Int) then (if ((rd_T74 x102002 x6).f2) > (rd x1 x6) then (if x5.length < 8796093022208 then ((some (x5 ++ [(⟨x6, false⟩ : S38)] : List (S38))).bind fun y104 => (if (rd x1 x6) > 0 then (if y104.length < 8796093022208 then (ebbtideref07_Steps.l0 k x1 (y104 ++ [(⟨x6, true⟩ : S38)]) (wrap64 (x6 + 1)) x102000 x102001 x102002) else (none)) else (ebbtideref07_Steps.l0 k x1 y104 (wrap64 (x6 + 1)) x102000 x102001 x102002))) else (none)) else (if (rd x1 x6) > 0 then (if x5.length < 8796093022208 then (ebbtideref07_Steps.l0 k x1 (x5 ++ [(⟨x6, true⟩ : S38)]) (wrap64 (x6 + 1)) x102000 x102001 x102002) else (none)) else (ebbtideref07_Steps.l0 k x1 x5 (wrap64 (x6 + 1)) x102000 x102001 x102002))) else (none)) else (none)) else (some x5)
def ebbtideref07_Steps.f (k : Nat) (a0_0 : Int) (a0_1 : Bool) (l0_2 : List (S74)) (l1 : List Int) : Option ((List (S38))) := ebbtideref07_Steps.l0 k l1 ([] : List (S38)) 0 a0_0 a0_1 l0_2
theorem ebbtideref07_Steps.mono_l : ∀ k, (∀ y0 y1 y2 y3 y4 y5, LeO (ebbtideref07_Steps.l0 k y0 y1 y2 y3 y4 y5) (ebbtideref07_Steps.l0 (k + 1) y0 y1 y2 y3 y4 y5))
 | 0 => fun _ _ _ _ _ _ r h => by simp [ebbtideref07_Steps.l0] at h
 | k + 1 => by
  have ih0 := ebbtideref07_Steps.mono_l k
  ·intro y0 y1 y2 y3 y4 y5
   unfold ebbtideref07_Steps.l0
   repeat' first
   | (with_reducible exact ih0 _ _ _ _ _ _)
   | (with_reducible exact LeO.refl _)
   | (with_reducible exact LeO.none _)
   | (with_reducible refine LeO.ite ?_ ?_)
   | (with_reducible refine LeO.bind ?_ (fun _ => ?_))
   | exact ih0 _ _ _ _ _ _
   | exact LeO.none _
   | refine LeO.ite ?_ ?_
   | refine LeO.bind ?_ (fun _ => ?_)
theorem ebbtideref07_Steps.mono : ∀ a0 a1 a2 a3 k, LeO (ebbtideref07_Steps.f k a0 a1 a2 a3) (ebbtideref07_Steps.f (k + 1) a0 a1 a2 a3) := by
 intro a0 a1 a2 a3 k
 have ih0 := ebbtideref07_Steps.mono_l k
 unfold ebbtideref07_Steps.f
 repeat' first
   | (with_reducible exact ih0 _ _ _ _ _ _)
   | (with_reducible exact LeO.refl _)
   | (with_reducible exact LeO.none _)
   | (with_reducible refine LeO.ite ?_ ?_)
   | (with_reducible refine LeO.bind ?_ (fun _ => ?_))
   | exact ih0 _ _ _ _ _ _
   | exact LeO.none _
   | refine LeO.ite ?_ ?_
   | refine LeO.bind ?_ (fun _ => ?_)
end Go.Proofs.Ytkcpanpdipmmmaa.P
namespace Go.Proofs.Ytkcpanpdipmmmaa.P
open Go.RowKit Go.Proofs.YtkcpanpdipmmmaaW.PrintWords Go.Proofs.YtkcpanpdipmmmaaW.PrintLast Go.Proofs.YtkcpanpdipmmmaaW.PrintMore
attribute [local go_sem] max2_int min2_int max_two min_two max_three min_three max_four min_four
def ebbtideref07_From.f (a0_0 : Int) (a0_1 : Bool) (l0_2 : List (S74)) (a1_0 : Int) (a1_1 : Bool) : Option (Int) := if a1_1 = true then (if 0 ≤ a1_0 then (if a1_0 < (l0_2.length : Int) then (some ((rd_T74 l0_2 a1_0).f1)) else (none)) else (none)) else (if 0 ≤ a1_0 then (if a1_0 < (l0_2.length : Int) then (some ((rd_T74 l0_2 a1_0).f0)) else (none)) else (none))
end Go.Proofs.Ytkcpanpdipmmmaa.P
namespace Go.Proofs.Ytkcpanpdipmmmaa.P
open Go.RowKit Go.Proofs.YtkcpanpdipmmmaaW.PrintWords Go.Proofs.YtkcpanpdipmmmaaW.PrintLast Go.Proofs.YtkcpanpdipmmmaaW.PrintMore
attribute [local go_sem] max2_int min2_int max_two min_two max_three min_three max_four min_four
def ebbtideref07_To.f (a0_0 : Int) (a0_1 : Bool) (l0_2 : List (S74)) (a1_0 : Int) (a1_1 : Bool) : Option (Int) := if a1_1 = true then (if 0 ≤ a1_0 then (if a1_0 < (l0_2.length : Int) then (some ((rd_T74 l0_2 a1_0).f0)) else (none)) else (none)) else (if 0 ≤ a1_0 then (if a1_0 < (l0_2.length : Int) then (some ((rd_T74 l0_2 a1_0).f1)) else (none)) else (none))
end Go.Proofs.Ytkcpanpdipmmmaa.P
namespace Go.Proofs.Ytkcpanpdipmmmaa.P
open Go.RowKit Go.Proofs.YtkcpanpdipmmmaaW.PrintWords Go.Proofs.YtkcpanpdipmmmaaW.PrintLast Go.Proofs.YtkcpanpdipmmmaaW.PrintMore
attribute [local go_sem] max2_int min2_int max_two min_two max_three min_three max_four min_four
def ebbtideref11_Time.f (a0_0 : Int) (a0_1 : Bool) (l0_2 : List (S74)) (a1_0 : Int) (a1_1 : Bool) : Option (Int) := if a1_1 = true then (if 0 ≤ a1_0 then (if a1_0 < (l0_2.length : Int) then (some (wrap64 (-((rd_T74 l0_2 a1_0).f3)))) else (none)) else (none)) else (if 0 ≤ a1_0 then (if a1_0 < (l0_2.length : Int) then (some ((rd_T74 l0_2 a1_0).f3)) else (none)) else (none))
end Go.Proofs.Ytkcpanpdipmmmaa.P
namespace Go.Proofs.Ytkcpanpdipmmmaa.P
open Go.RowKit Go.Proofs.YtkcpanpdipmmmaaW.PrintWords Go.Proofs.YtkcpanpdipmmmaaW.PrintLast Go.Proofs.YtkcpanpdipmmmaaW.PrintMore
attribute [local go_sem] max2_int min2_int max_two min_two max_three min_three max_four min_four
mutual
def ebbtideref11_From.l0 : Nat → List (S38) → Int → Int → Bool → List (S74) → List Int → List Bool → Bool → Option (List Int × List Bool × Bool)
 | 0, _, _, _, _, _, _, _, _ => none
 | k + 1, x8, x9, x128000, x128001, x128002, x136000, x136001, x136002 => if x9 ≤ x128000 then (ebbtideref11_From.l1 k x8 x9 0 x128000 x128001 x128002 x136000 x136001 true) else (some (x136000, x136001, x136002))
def ebbtideref11_From.l1 : Nat → List (S38) → Int → Int → Int → Bool → List (S74) → List Int → List Bool → Bool → Option (List Int × List Bool × Bool)
 | 0, _, _, _, _, _, _, _, _, _ => none
 | k + 1, x8, x9, x10, x128000, x128001, x128002, x136000, x136001, x136002 => if x10 < (x8.length : Int) then (if 0 ≤ x10 then ((ebbtideref07_From.f x128000 x128001 x128002 ((rd_T38 x8 x10).f0) ((rd_T38 x8 x10).f1)).bind fun t141 => ((ebbtideref07_To.f x128000 x128001 x128002 ((rd_T38 x8 x10).f0) ((rd_T38 x8 x10).f1)).bind fun t143 => (if 0 ≤ t141 then (if t141 < (x136000.length : Int) then ((ebbtideref11_Time.f x128000 x128001 x128002 ((rd_T38 x8 x10).f0) ((rd_T38 x8 x10).f1)).bind fun t146 => (if t141 < (x136001.length : Int) then (if rdOf false x136001 t141 = true then (if 0 ≤ t143 then (if t143 < (x136001.length : Int) then (if rdOf false x136001 t143 = true then (if t143 < (x136000.length : Int) then (if (wrap64 ((rd x136000 t141) + t146)) < (rd x136000 t143) then (ebbtideref11_From.l1 k x8 x9 (wrap64 (x10 + 1)) x128000 x128001 x128002 (x136000.set (t143 : Int).toNat (wrap64 ((rd x136000 t141) + t146))) (x136001.set (t143 : Int).toNat true) false) else (ebbtideref11_From.l1 k x8 x9 (wrap64 (x10 + 1)) x128000 x128001 x128002 x136000 x136001 x136002)) else (none)) else (if t143 < (x136000.length : Int) then (ebbtideref11_From.l1 k x8 x9 (wrap64 (x10 + 1)) x128000 x128001 x128002 (x136000.set (t143 : Int).toNat (wrap64 ((rd x136000 t141) + t146))) (x136001.set (t143 : Int).toNat true) false) else (none))) else (none)) else (none)) else (ebbtideref11_From.l1 k x8 x9 (wrap64 (x10 + 1)) x128000 x128001 x128002 x136000 x136001 x136002)) else (none))) else (none)) else (none)))) else (none)) else (ebbtideref11_From.l0 k x8 (wrap64 (x9 + 1)) x128000 x128001 x128002 x136000 x136001 x136002)
end
def ebbtideref11_From.f (k : Nat) (a0_0 : Int) (a0_1 : Bool) (l0_2 : List (S74)) (l1 : List Int) (a2 : Int) : Option (List Int × List Bool × Bool) := if 0 ≤ a0_0 then (if (a0_0 : Int).toNat ≤ 35184372088832 then (if (a0_0 : Int).toNat ≤ 281474976710656 then ((some (List.replicate (a0_0 : Int).toNat false : List Bool)).bind fun y132 => (if 0 ≤ a2 then (if a2 < (y132.length : Int) then ((ebbtideref07_Steps.f k a0_0 a0_1 l0_2 l1).bind fun t137 => (ebbtideref11_From.l0 k t137 0 a0_0 a0_1 l0_2 (List.replicate (a0_0 : Int).toNat 0) (y132.set (a2 : Int).toNat true) false)) else (none)) else (none))) else (none)) else (none)) else (none)
theorem ebbtideref11_From.mono_l : ∀ k, (∀ y0 y1 y2 y3 y4 y5 y6 y7, LeO (ebbtideref11_From.l0 k y0 y1 y2 y3 y4 y5 y6 y7) (ebbtideref11_From.l0 (k + 1) y0 y1 y2 y3 y4 y5 y6 y7)) ∧ (∀ y0 y1 y2 y3 y4 y5 y6 y7 y8, LeO (ebbtideref11_From.l1 k y0 y1 y2 y3 y4 y5 y6 y7 y8) (ebbtideref11_From.l1 (k + 1) y0 y1 y2 y3 y4 y5 y6 y7 y8))
 | 0 => ⟨fun _ _ _ _ _ _ _ _ r h => by simp [ebbtideref11_From.l0] at h, fun _ _ _ _ _ _ _ _ _ r h => by simp [ebbtideref11_From.l1] at h⟩
 | k + 1 => by
  obtain ⟨ih0, ih1⟩ := ebbtideref11_From.mono_l k
  refine ⟨?_, ?_⟩
  ·intro y0 y1 y2 y3 y4 y5 y6 y7
   unfold ebbtideref11_From.l0
   repeat' first
   | (with_reducible exact ih0 _ _ _ _ _ _ _ _)
   | (with_reducible exact ih1 _ _ _ _ _ _ _ _ _)
   | (with_reducible exact ebbtideref07_Steps.mono _ _ _ _ _)
   | (with_reducible exact LeO.refl _)
   | (with_reducible exact LeO.none _)
   | (with_reducible refine LeO.ite ?_ ?_)
   | (with_reducible refine LeO.bind ?_ (fun _ => ?_))
   | exact ih0 _ _ _ _ _ _ _ _
   | exact ih1 _ _ _ _ _ _ _ _ _
   | exact ebbtideref07_Steps.mono _ _ _ _ _
   | exact LeO.none _
   | refine LeO.ite ?_ ?_
   | refine LeO.bind ?_ (fun _ => ?_)
  ·intro y0 y1 y2 y3 y4 y5 y6 y7 y8
   unfold ebbtideref11_From.l1
   repeat' first
   | (with_reducible exact ih0 _ _ _ _ _ _ _ _)
   | (with_reducible exact ih1 _ _ _ _ _ _ _ _ _)
   | (with_reducible exact ebbtideref07_Steps.mono _ _ _ _ _)
   | (with_reducible exact LeO.refl _)
   | (with_reducible exact LeO.none _)
   | (with_reducible refine LeO.ite ?_ ?_)
   | (with_reducible refine LeO.bind ?_ (fun _ => ?_))
   | exact ih0 _ _ _ _ _ _ _ _
   | exact ih1 _ _ _ _ _ _ _ _ _
   | exact ebbtideref07_Steps.mono _ _ _ _ _
   | exact LeO.none _
   | refine LeO.ite ?_ ?_
   | refine LeO.bind ?_ (fun _ => ?_)
theorem ebbtideref11_From.mono : ∀ a0 a1 a2 a3 a4 k, LeO (ebbtideref11_From.f k a0 a1 a2 a3 a4) (ebbtideref11_From.f (k + 1) a0 a1 a2 a3 a4) := by
 intro a0 a1 a2 a3 a4 k
 obtain ⟨ih0, ih1⟩ := ebbtideref11_From.mono_l k
 unfold ebbtideref11_From.f
 repeat' first
   | (with_reducible exact ih0 _ _ _ _ _ _ _ _)
   | (with_reducible exact ih1 _ _ _ _ _ _ _ _ _)
   | (with_reducible exact ebbtideref07_Steps.mono _ _ _ _ _)
   | (with_reducible exact LeO.refl _)
   | (with_reducible exact LeO.none _)
   | (with_reducible refine LeO.ite ?_ ?_)
   | (with_reducible refine LeO.bind ?_ (fun _ => ?_))
   | exact ih0 _ _ _ _ _ _ _ _
   | exact ih1 _ _ _ _ _ _ _ _ _
   | exact ebbtideref07_Steps.mono _ _ _ _ _
   | exact LeO.none _
   | refine LeO.ite ?_ ?_
   | refine LeO.bind ?_ (fun _ => ?_)
end Go.Proofs.Ytkcpanpdipmmmaa.P
namespace Go.Proofs.Ytkcpanpdipmmmaa.P
open Go.RowKit Go.Proofs.YtkcpanpdipmmmaaW.PrintWords Go.Proofs.YtkcpanpdipmmmaaW.PrintLast Go.Proofs.YtkcpanpdipmmmaaW.PrintMore
attribute [local go_sem] max2_int min2_int max_two min_two max_three min_three max_four min_four
def ebbtideref05_nodes.f (a0 : Int) : Option (Int) := if a0 < 1 then (some 51) else (if a0 > 50 then (some 2) else (some 0))
end Go.Proofs.Ytkcpanpdipmmmaa.P
namespace Go.Proofs.Ytkcpanpdipmmmaa.P
open Go.RowKit Go.Proofs.YtkcpanpdipmmmaaW.PrintWords Go.Proofs.YtkcpanpdipmmmaaW.PrintLast Go.Proofs.YtkcpanpdipmmmaaW.PrintMore
attribute [local go_sem] max2_int min2_int max_two min_two max_three min_three max_four min_four
def ebbtideref05_Arc.j0 : Nat → Bool → Int → Int → Int → Int → Option (Int)
 | 0, _, _, _, _, _ => none
 | k + 1, x34, x155000, x155001, x155002, x155003 => if x34 = true then (some 51) else (if x155002 > 1048576 then (some 2) else (if x155003 > 1048576 then (some 2) else (some 0)))
def ebbtideref05_Arc.f (k : Nat) (a0 : Int) (a1_0 : Int) (a1_1 : Int) (a1_2 : Int) (a1_3 : Int) : Option (Int) := if a1_0 < 0 then (ebbtideref05_Arc.j0 k true a1_0 a1_1 a1_2 a1_3) else (if a1_0 ≥ a0 then (ebbtideref05_Arc.j0 k true a1_0 a1_1 a1_2 a1_3) else (if a1_1 < 0 then (ebbtideref05_Arc.j0 k true a1_0 a1_1 a1_2 a1_3) else (if a1_1 ≥ a0 then (ebbtideref05_Arc.j0 k true a1_0 a1_1 a1_2 a1_3) else (if a1_2 < 0 then (ebbtideref05_Arc.j0 k true a1_0 a1_1 a1_2 a1_3) else (ebbtideref05_Arc.j0 k (decide (a1_3 < 0)) a1_0 a1_1 a1_2 a1_3)))))
theorem ebbtideref05_Arc.mono_l : ∀ k, (∀ y0 y1 y2 y3 y4, LeO (ebbtideref05_Arc.j0 k y0 y1 y2 y3 y4) (ebbtideref05_Arc.j0 (k + 1) y0 y1 y2 y3 y4))
 | 0 => fun _ _ _ _ _ r h => by simp [ebbtideref05_Arc.j0] at h
 | k + 1 => by
  have ih0 := ebbtideref05_Arc.mono_l k
  ·intro y0 y1 y2 y3 y4
   unfold ebbtideref05_Arc.j0
   repeat' first
   | (with_reducible exact ih0 _ _ _ _ _)
   | (with_reducible exact LeO.refl _)
   | (with_reducible exact LeO.none _)
   | (with_reducible refine LeO.ite ?_ ?_)
   | (with_reducible refine LeO.bind ?_ (fun _ => ?_))
   | exact ih0 _ _ _ _ _
   | exact LeO.none _
   | refine LeO.ite ?_ ?_
   | refine LeO.bind ?_ (fun _ => ?_)
theorem ebbtideref05_Arc.mono : ∀ a0 a1 a2 a3 a4 k, LeO (ebbtideref05_Arc.f k a0 a1 a2 a3 a4) (ebbtideref05_Arc.f (k + 1) a0 a1 a2 a3 a4) := by
 intro a0 a1 a2 a3 a4 k
 have ih0 := ebbtideref05_Arc.mono_l k
 unfold ebbtideref05_Arc.f
 repeat' first
   | (with_reducible exact ih0 _ _ _ _ _)
   | (with_reducible exact LeO.refl _)
   | (with_reducible exact LeO.none _)
   | (with_reducible refine LeO.ite ?_ ?_)
   | (with_reducible refine LeO.bind ?_ (fun _ => ?_))
   | exact ih0 _ _ _ _ _
   | exact LeO.none _
   | refine LeO.ite ?_ ?_
   | refine LeO.bind ?_ (fun _ => ?_)
end Go.Proofs.Ytkcpanpdipmmmaa.P
namespace Go.Proofs.Ytkcpanpdipmmmaa.P
open Go.RowKit Go.Proofs.YtkcpanpdipmmmaaW.PrintWords Go.Proofs.YtkcpanpdipmmmaaW.PrintLast Go.Proofs.YtkcpanpdipmmmaaW.PrintMore
attribute [local go_sem] max2_int min2_int max_two min_two max_three min_three max_four min_four
def ebbtideref05_Check.l0 : Nat → Int → Int → Bool → List (S74) → Option (Int)
 | 0, _, _, _, _ => none
 | k + 1, x4, x156000, x156001, x156002 => if x4 < (x156002.length : Int) then (if 0 ≤ x4 then ((ebbtideref05_Arc.f k x156000 ((rd_T74 x156002 x4).f0) ((rd_T74 x156002 x4).f1) ((rd_T74 x156002 x4).f2) ((rd_T74 x156002 x4).f3)).bind fun t158 => (if t158 = 0 then (ebbtideref05_Check.l0 k (wrap64 (x4 + 1)) x156000 x156001 x156002) else (some t158))) else (none)) else (some 0)
def ebbtideref05_Check.f (k : Nat) (a0_0 : Int) (a0_1 : Bool) (l0_2 : List (S74)) : Option (Int) := (ebbtideref05_nodes.f a0_0).bind fun t156 => (if t156 = 0 then (if (l0_2.length : Int) > 200 then (some 2) else (ebbtideref05_Check.l0 k 0 a0_0 a0_1 l0_2)) else (some t156))
theorem ebbtideref05_Check.mono_l : ∀ k, (∀ y0 y1 y2 y3, LeO (ebbtideref05_Check.l0 k y0 y1 y2 y3) (ebbtideref05_Check.l0 (k + 1) y0 y1 y2 y3))
 | 0 => fun _ _ _ _ r h => by simp [ebbtideref05_Check.l0] at h
 | k + 1 => by
  have ih0 := ebbtideref05_Check.mono_l k
  ·intro y0 y1 y2 y3
   unfold ebbtideref05_Check.l0
   repeat' first
   | (with_reducible exact ih0 _ _ _ _)
   | (with_reducible exact ebbtideref05_Arc.mono _ _ _ _ _ _)
   | (with_reducible exact LeO.refl _)
   | (with_reducible exact LeO.none _)
   | (with_reducible refine LeO.ite ?_ ?_)
   | (with_reducible refine LeO.bind ?_ (fun _ => ?_))
   | exact ih0 _ _ _ _
   | exact ebbtideref05_Arc.mono _ _ _ _ _ _
   | exact LeO.none _
   | refine LeO.ite ?_ ?_
   | refine LeO.bind ?_ (fun _ => ?_)
theorem ebbtideref05_Check.mono : ∀ a0 a1 a2 k, LeO (ebbtideref05_Check.f k a0 a1 a2) (ebbtideref05_Check.f (k + 1) a0 a1 a2) := by
 intro a0 a1 a2 k
 have ih0 := ebbtideref05_Check.mono_l k
 unfold ebbtideref05_Check.f
 repeat' first
   | (with_reducible exact ih0 _ _ _ _)
   | (with_reducible exact ebbtideref05_Arc.mono _ _ _ _ _ _)
   | (with_reducible exact LeO.refl _)
   | (with_reducible exact LeO.none _)
   | (with_reducible refine LeO.ite ?_ ?_)
   | (with_reducible refine LeO.bind ?_ (fun _ => ?_))
   | exact ih0 _ _ _ _
   | exact ebbtideref05_Arc.mono _ _ _ _ _ _
   | exact LeO.none _
   | refine LeO.ite ?_ ?_
   | refine LeO.bind ?_ (fun _ => ?_)
end Go.Proofs.Ytkcpanpdipmmmaa.P
namespace Go.Proofs.Ytkcpanpdipmmmaa.P
open Go.RowKit Go.Proofs.YtkcpanpdipmmmaaW.PrintWords Go.Proofs.YtkcpanpdipmmmaaW.PrintLast Go.Proofs.YtkcpanpdipmmmaaW.PrintMore
attribute [local go_sem] max2_int min2_int max_two min_two max_three min_three max_four min_four
def ebbtideref07_Within.l0 : Nat → List Int → Int → Int → Bool → List (S74) → Option (Bool)
 | 0, _, _, _, _, _ => none
 | k + 1, x1, x5, x160000, x160001, x160002 => if x5 < (x1.length : Int) then (if 0 ≤ x5 then (if (rd x1 x5) < 0 then (some false) else (if x5 < (x160002.length : Int) then (if (rd x1 x5) > ((rd_T74 x160002 x5).f2) then (some false) else (ebbtideref07_Within.l0 k x1 (wrap64 (x5 + 1)) x160000 x160001 x160002)) else (none))) else (none)) else (some true)
def ebbtideref07_Within.f (k : Nat) (a0_0 : Int) (a0_1 : Bool) (l0_2 : List (S74)) (l1 : List Int) : Option (Bool) := if (l1.length : Int) = (l0_2.length : Int) then (ebbtideref07_Within.l0 k l1 0 a0_0 a0_1 l0_2) else (some false)
theorem ebbtideref07_Within.mono_l : ∀ k, (∀ y0 y1 y2 y3 y4, LeO (ebbtideref07_Within.l0 k y0 y1 y2 y3 y4) (ebbtideref07_Within.l0 (k + 1) y0 y1 y2 y3 y4))
 | 0 => fun _ _ _ _ _ r h => by simp [ebbtideref07_Within.l0] at h
 | k + 1 => by
  have ih0 := ebbtideref07_Within.mono_l k
  ·intro y0 y1 y2 y3 y4
   unfold ebbtideref07_Within.l0
   repeat' first
   | (with_reducible exact ih0 _ _ _ _ _)
   | (with_reducible exact LeO.refl _)
   | (with_reducible exact LeO.none _)
   | (with_reducible refine LeO.ite ?_ ?_)
   | (with_reducible refine LeO.bind ?_ (fun _ => ?_))
   | exact ih0 _ _ _ _ _
   | exact LeO.none _
   | refine LeO.ite ?_ ?_
   | refine LeO.bind ?_ (fun _ => ?_)
theorem ebbtideref07_Within.mono : ∀ a0 a1 a2 a3 k, LeO (ebbtideref07_Within.f k a0 a1 a2 a3) (ebbtideref07_Within.f (k + 1) a0 a1 a2 a3) := by
 intro a0 a1 a2 a3 k
 have ih0 := ebbtideref07_Within.mono_l k
 unfold ebbtideref07_Within.f
 repeat' first
   | (with_reducible exact ih0 _ _ _ _ _)
   | (with_reducible exact LeO.refl _)
   | (with_reducible exact LeO.none _)
   | (with_reducible refine LeO.ite ?_ ?_)
   | (with_reducible refine LeO.bind ?_ (fun _ => ?_))
   | exact ih0 _ _ _ _ _
   | exact LeO.none _
   | refine LeO.ite ?_ ?_
   | refine LeO.bind ?_ (fun _ => ?_)
end Go.Proofs.Ytkcpanpdipmmmaa.P
namespace Go.Proofs.Ytkcpanpdipmmmaa.P
open Go.RowKit Go.Proofs.YtkcpanpdipmmmaaW.PrintWords Go.Proofs.YtkcpanpdipmmmaaW.PrintLast Go.Proofs.YtkcpanpdipmmmaaW.PrintMore
attribute [local go_sem] max2_int min2_int max_two min_two max_three min_three max_four min_four
def ebbtideref07_Asked.f (k : Nat) (a0_0 : Int) (a0_1 : Bool) (l0_2 : List (S74)) (l1 : List Int) : Option (Int) := (ebbtideref05_Check.f k a0_0 a0_1 l0_2).bind fun t164 => (if t164 = 0 then ((ebbtideref07_Within.f k a0_0 a0_1 l0_2 l1).bind fun t165 => (if t165 = true then (some 0) else (some 71))) else (some t164))
theorem ebbtideref07_Asked.mono : ∀ a0 a1 a2 a3 k, LeO (ebbtideref07_Asked.f k a0 a1 a2 a3) (ebbtideref07_Asked.f (k + 1) a0 a1 a2 a3) := by
 intro a0 a1 a2 a3 k
 unfold ebbtideref07_Asked.f
 repeat' first
   | (with_reducible exact ebbtideref05_Check.mono _ _ _ _)
   | (with_reducible exact ebbtideref07_Within.mono _ _ _ _ _)
   | (with_reducible exact LeO.refl _)
   | (with_reducible exact LeO.none _)
   | (with_reducible refine LeO.ite ?_ ?_)
   | (with_reducible refine LeO.bind ?_ (fun _ => ?_))
   | exact ebbtideref05_Check.mono _ _ _ _
   | exact ebbtideref07_Within.mono _ _ _ _ _
   | exact LeO.none _
   | refine LeO.ite ?_ ?_
   | refine LeO.bind ?_ (fun _ => ?_)
end Go.Proofs.Ytkcpanpdipmmmaa.P
namespace Go.Proofs.Ytkcpanpdipmmmaa.P
open Go.RowKit Go.Proofs.YtkcpanpdipmmmaaW.PrintWords Go.Proofs.YtkcpanpdipmmmaaW.PrintLast Go.Proofs.YtkcpanpdipmmmaaW.PrintMore
attribute [local go_sem] max2_int min2_int max_two min_two max_three min_three max_four min_four
def static_Flowing_From.f (a0_0 : Int) (a0_1 : Bool) (l0_2 : List (S74)) (l0_3 : List Int) (a1_0 : Int) (a1_1 : Bool) : Option (Int) := if a1_1 = true then (if 0 ≤ a1_0 then (if a1_0 < (l0_2.length : Int) then (some ((rd_T74 l0_2 a1_0).f1)) else (none)) else (none)) else (if 0 ≤ a1_0 then (if a1_0 < (l0_2.length : Int) then (some ((rd_T74 l0_2 a1_0).f0)) else (none)) else (none))
set_option maxHeartbeats 8000000 in
set_option maxRecDepth 100000 in
theorem static_Flowing_From.calls (a0_0 : Int) (a0_1 : Bool) (A0_2 : Option Addr) (c0_2 : Nat) (l0_2 : List (S74)) (A0_3 : Option Addr) (c0_3 : Nat) (l0_3 : List Int) (a1_0 : Int) (a1_1 : Bool) (r : Int) (w : World) (hr0_2 : Kd.C k74 w A0_2 l0_2.length l0_2) (hc0_2 : l0_2.length ≤ c0_2) (hr0_3 : Kd.C (Kd.int .i64) w A0_3 l0_3.length l0_3) (hc0_3 : l0_3.length ≤ c0_3) (h : static_Flowing_From.f a0_0 a0_1 l0_2 l0_3 a1_0 a1_1 = some r) :
  Calls Try.prog 106 #[.agg #[.int .i64 a0_0, .bool a0_1, .slice A0_2 l0_2.length c0_2, .slice A0_3 l0_3.length c0_3], .agg #[.int .i64 a1_0, .bool a1_1]] w fun e w' => e = .returned (.int .i64 r) ∧ Below w.heap.size w w' := by
 have hu115 := Try.underlying115
 have hu38 := Try.underlying38
 have HR0_2 := Aside0.mk hr0_2
 have HC0_2 := Aside0.mk hc0_2
 clear hr0_2 hc0_2
 have HR0_3 := Aside0.mk hr0_3
 have HC0_3 := Aside0.mk hc0_3
 clear hr0_3 hc0_3
 have HB := Aside0.mk (Below.refl w.heap.size w)
 have H : (if a1_1 = true then (if 0 ≤ a1_0 then (if a1_0 < (l0_2.length : Int) then (some ((rd_T74 l0_2 a1_0).f1)) else (none)) else (none)) else (if 0 ≤ a1_0 then (if a1_0 < (l0_2.length : Int) then (some ((rd_T74 l0_2 a1_0).f0)) else (none)) else (none))) = some r := h
 clear h
 by_cases c3 : a1_1 = true
 ·subst c3
  have H1 : (if 0 ≤ a1_0 then (if a1_0 < (l0_2.length : Int) then (some ((rd_T74 l0_2 a1_0).f1)) else (none)) else (none)) = some r := by rw [if_pos rfl] at H; exact H
  clear H
  have H := H1
  clear H1
  by_cases c4 : 0 ≤ a1_0
  rotate_left
  ·rw [if_neg c4] at H
   exact absurd H (by simp)
  rw [if_pos c4] at H
  have c4b0 : decide (0 ≤ a1_0) = true := decide_eq_true c4
  clear c4
  by_cases c5 : a1_0 < (l0_2.length : Int)
  rotate_left
  ·rw [if_neg c5] at H
   exact absurd H (by simp)
  rw [if_pos c5] at H
  have c5b0 : decide (a1_0 < (l0_2.length : Int)) = true := decide_eq_true c5
  clear c5
  obtain rfl := Option.some.inj H
  go_enter Try.func106, Try.ntmps106
  go_wp2_with (first | ((with_reducible refine gate_dst (N := 2) rfl ?_); refine box_event ?hg (N := 2) ?hd (cs := #[.int .i64 a0_0, .bool a0_1, .slice A0_2 l0_2.length c0_2, .slice A0_3 l0_3.length c0_3]) (t := 115) ?hr ?_; (case hd => rfl); (case hg => rfl); (case hr => first | (go_simp; done) | (go_simp; rfl)); intro gb380 hg w6 hbox hb; have n0_ := Aside0.mk (below_step (by repeat (first | (with_reducible first | exact HB.out | apply below_alloc | apply pw_below_drewN | apply below_drew1) | exact HB.out)) hb); have n1_ := Aside0.mk (hbox); have n2_ := Aside0.mk ((by rw [hg]; exact (below_size (by repeat (first | (with_reducible first | exact HB.out | apply below_alloc | apply pw_below_drewN | apply below_drew1) | exact HB.out))) : w.heap.size ≤ gb380)); have n3_ := Aside0.mk ((by rw [hg]; exact (below_size (by repeat (first | (with_reducible first | exact HB.out | apply below_alloc | apply pw_below_drewN | apply below_drew1) | exact HB.out))) : w.heap.size ≤ gb380)); clear HB; have HB := n0_; have BK380 := n1_; have GW380 := n2_; have GE380 := n3_; clear n0_ n1_ n2_ n3_; clear hb hbox hg) | ((with_reducible refine gate_dst (N := 3) rfl ?_); refine box_event ?hg (N := 3) ?hd (cs := #[.int .i64 a1_0, .bool true]) (t := 38) ?hr ?_; (case hd => rfl); (case hg => rfl); (case hr => first | (go_simp; done) | (go_simp; rfl)); intro gb381 hg w7 hbox hb; have n0_ := Aside0.mk (blk_below (g := gb380) (o := .cells #[.int .i64 a0_0, .bool a0_1, .slice A0_2 l0_2.length c0_2, .slice A0_3 l0_3.length c0_3] 115 (0, 0)) (by (with_reducible repeat (first | refine blk_drewN ?_ _ | refine blk_drew ?_ | refine blk_alloc ?_ _)); exact BK380.out) hb); have n1_ := Aside0.mk (below_step (by repeat (first | (with_reducible first | exact HB.out | apply below_alloc | apply pw_below_drewN | apply below_drew1 | refine below_set ?_ GE380.out) | exact HB.out)) hb); have n2_ := Aside0.mk (hbox); have n3_ := Aside0.mk ((by rw [hg]; exact (below_size (by repeat (first | (with_reducible first | exact HB.out | apply below_alloc | apply pw_below_drewN | apply below_drew1 | refine below_set ?_ GE380.out) | exact HB.out))) : w.heap.size ≤ gb381)); have n4_ := Aside0.mk ((by rw [hg]; exact (below_size (by repeat (first | (with_reducible first | exact HB.out | apply below_alloc | apply pw_below_drewN | apply below_drew1 | refine below_set ?_ GE380.out) | exact HB.out))) : w.heap.size ≤ gb381)); have n5_ := Aside0.mk ((by rw [hg]; exact Nat.ne_of_lt (blk_lt (g := gb380) (o := .cells #[.int .i64 a0_0, .bool a0_1, .slice A0_2 l0_2.length c0_2, .slice A0_3 l0_3.length c0_3] 115 (0, 0)) (by (with_reducible repeat (first | refine blk_drewN ?_ _ | refine blk_drew ?_ | refine blk_alloc ?_ _)); exact BK380.out)) : gb380 ≠ gb381)); have n6_ := Aside0.mk ((by rw [hg]; exact Nat.ne_of_gt (blk_lt (g := gb380) (o := .cells #[.int .i64 a0_0, .bool a0_1, .slice A0_2 l0_2.length c0_2, .slice A0_3 l0_3.length c0_3] 115 (0, 0)) (by (with_reducible repeat (first | refine blk_drewN ?_ _ | refine blk_drew ?_ | refine blk_alloc ?_ _)); exact BK380.out)) : gb381 ≠ gb380)); clear BK380; clear HB; have BK380 := n0_; have HB := n1_; have BK381 := n2_; have GW381 := n3_; have GE381 := n4_; have NB380_381 := n5_; have NB381_380 := n6_; clear n0_ n1_ n2_ n3_ n4_ n5_ n6_; clear hb hbox hg; have hnb8 := NB381_380.out; have hnc8 := NB380_381.out; have hcz9_0 : w7.cell? ⟨gb381, 0, none⟩ = some (.int .i64 a1_0) := (blk_cell BK381.out 0).trans rfl; have hcz9_1 : w7.cell? ⟨gb381, 1, none⟩ = some (.bool true) := (blk_cell BK381.out 1).trans rfl; have hfz9_0 := blk_frozen BK381.out 0; have hfz9_1 := blk_frozen BK381.out 1; have hcz10_0 : w7.cell? ⟨gb380, 0, none⟩ = some (.int .i64 a0_0) := (blk_cell BK380.out 0).trans rfl; have hcz10_1 : w7.cell? ⟨gb380, 1, none⟩ = some (.bool a0_1) := (blk_cell BK380.out 1).trans rfl; have hcz10_2 : w7.cell? ⟨gb380, 2, none⟩ = some (.slice A0_2 l0_2.length c0_2) := (blk_cell BK380.out 2).trans rfl; have hcz10_3 : w7.cell? ⟨gb380, 3, none⟩ = some (.slice A0_3 l0_3.length c0_3) := (blk_cell BK380.out 3).trans rfl; have hfz10_0 := blk_frozen BK380.out 0; have hfz10_1 := blk_frozen BK380.out 1; have hfz10_2 := blk_frozen BK380.out 2; have hfz10_3 := blk_frozen BK380.out 3; have p382 : 0 ≤ (a1_0 : Int) := of_decide_eq_true (by first | (with_reducible assumption) | assumption); have q382 : a1_0 < (l0_2.length : Int) := of_decide_eq_true (by first | (with_reducible assumption) | assumption); obtain ⟨ad382, e382, hx382_0, hx382_1, hx382_2, hx382_3⟩ := at_T74 HR0_2.out a1_0 p382 q382; cases e382; replace hx382_0 := (HB.out.cell (World.block_lt_of_cell? w _ hx382_0)).trans hx382_0; replace hx382_1 := (HB.out.cell (World.block_lt_of_cell? w _ hx382_1)).trans hx382_1; replace hx382_2 := (HB.out.cell (World.block_lt_of_cell? w _ hx382_2)).trans hx382_2; replace hx382_3 := (HB.out.cell (World.block_lt_of_cell? w _ hx382_3)).trans hx382_3; replace p382 := eq_true p382; replace q382 := eq_true q382))
  go_ret
  exact ⟨by first | rfl | (simp [errW_none, errW_some] <;> rfl) | (simp [*, errW_none, errW_some] <;> rfl), by repeat (first | (with_reducible first | exact HB.out | apply below_alloc | apply pw_below_drewN | apply below_drew1 | refine below_set ?_ GE380.out | refine below_set ?_ GE381.out) | exact HB.out)⟩
 replace c3 := Bool.eq_false_iff.mpr c3
 subst c3
 have H1 : (if 0 ≤ a1_0 then (if a1_0 < (l0_2.length : Int) then (some ((rd_T74 l0_2 a1_0).f0)) else (none)) else (none)) = some r := by rw [if_neg (show ¬ (false = true) by decide)] at H; exact H
 clear H
 have H := H1
 clear H1
 by_cases c11 : 0 ≤ a1_0
 rotate_left
 ·rw [if_neg c11] at H
  exact absurd H (by simp)
 rw [if_pos c11] at H
 have c11b0 : decide (0 ≤ a1_0) = true := decide_eq_true c11
 clear c11
 by_cases c12 : a1_0 < (l0_2.length : Int)
 rotate_left
 ·rw [if_neg c12] at H
  exact absurd H (by simp)
 rw [if_pos c12] at H
 have c12b0 : decide (a1_0 < (l0_2.length : Int)) = true := decide_eq_true c12
 clear c12
 obtain rfl := Option.some.inj H
 go_enter Try.func106, Try.ntmps106
 go_wp2_with (first | ((with_reducible refine gate_dst (N := 2) rfl ?_); refine box_event ?hg (N := 2) ?hd (cs := #[.int .i64 a0_0, .bool a0_1, .slice A0_2 l0_2.length c0_2, .slice A0_3 l0_3.length c0_3]) (t := 115) ?hr ?_; (case hd => rfl); (case hg => rfl); (case hr => first | (go_simp; done) | (go_simp; rfl)); intro gb380 hg w13 hbox hb; have n0_ := Aside0.mk (below_step (by repeat (first | (with_reducible first | exact HB.out | apply below_alloc | apply pw_below_drewN | apply below_drew1) | exact HB.out)) hb); have n1_ := Aside0.mk (hbox); have n2_ := Aside0.mk ((by rw [hg]; exact (below_size (by repeat (first | (with_reducible first | exact HB.out | apply below_alloc | apply pw_below_drewN | apply below_drew1) | exact HB.out))) : w.heap.size ≤ gb380)); have n3_ := Aside0.mk ((by rw [hg]; exact (below_size (by repeat (first | (with_reducible first | exact HB.out | apply below_alloc | apply pw_below_drewN | apply below_drew1) | exact HB.out))) : w.heap.size ≤ gb380)); clear HB; have HB := n0_; have BK380 := n1_; have GW380 := n2_; have GE380 := n3_; clear n0_ n1_ n2_ n3_; clear hb hbox hg) | ((with_reducible refine gate_dst (N := 3) rfl ?_); refine box_event ?hg (N := 3) ?hd (cs := #[.int .i64 a1_0, .bool false]) (t := 38) ?hr ?_; (case hd => rfl); (case hg => rfl); (case hr => first | (go_simp; done) | (go_simp; rfl)); intro gb381 hg w14 hbox hb; have n0_ := Aside0.mk (blk_below (g := gb380) (o := .cells #[.int .i64 a0_0, .bool a0_1, .slice A0_2 l0_2.length c0_2, .slice A0_3 l0_3.length c0_3] 115 (0, 0)) (by (with_reducible repeat (first | refine blk_drewN ?_ _ | refine blk_drew ?_ | refine blk_alloc ?_ _)); exact BK380.out) hb); have n1_ := Aside0.mk (below_step (by repeat (first | (with_reducible first | exact HB.out | apply below_alloc | apply pw_below_drewN | apply below_drew1 | refine below_set ?_ GE380.out) | exact HB.out)) hb); have n2_ := Aside0.mk (hbox); have n3_ := Aside0.mk ((by rw [hg]; exact (below_size (by repeat (first | (with_reducible first | exact HB.out | apply below_alloc | apply pw_below_drewN | apply below_drew1 | refine below_set ?_ GE380.out) | exact HB.out))) : w.heap.size ≤ gb381)); have n4_ := Aside0.mk ((by rw [hg]; exact (below_size (by repeat (first | (with_reducible first | exact HB.out | apply below_alloc | apply pw_below_drewN | apply below_drew1 | refine below_set ?_ GE380.out) | exact HB.out))) : w.heap.size ≤ gb381)); have n5_ := Aside0.mk ((by rw [hg]; exact Nat.ne_of_lt (blk_lt (g := gb380) (o := .cells #[.int .i64 a0_0, .bool a0_1, .slice A0_2 l0_2.length c0_2, .slice A0_3 l0_3.length c0_3] 115 (0, 0)) (by (with_reducible repeat (first | refine blk_drewN ?_ _ | refine blk_drew ?_ | refine blk_alloc ?_ _)); exact BK380.out)) : gb380 ≠ gb381)); have n6_ := Aside0.mk ((by rw [hg]; exact Nat.ne_of_gt (blk_lt (g := gb380) (o := .cells #[.int .i64 a0_0, .bool a0_1, .slice A0_2 l0_2.length c0_2, .slice A0_3 l0_3.length c0_3] 115 (0, 0)) (by (with_reducible repeat (first | refine blk_drewN ?_ _ | refine blk_drew ?_ | refine blk_alloc ?_ _)); exact BK380.out)) : gb381 ≠ gb380)); clear BK380; clear HB; have BK380 := n0_; have HB := n1_; have BK381 := n2_; have GW381 := n3_; have GE381 := n4_; have NB380_381 := n5_; have NB381_380 := n6_; clear n0_ n1_ n2_ n3_ n4_ n5_ n6_; clear hb hbox hg; have hnb15 := NB381_380.out; have hnc15 := NB380_381.out; have hcz16_0 : w14.cell? ⟨gb381, 0, none⟩ = some (.int .i64 a1_0) := (blk_cell BK381.out 0).trans rfl; have hcz16_1 : w14.cell? ⟨gb381, 1, none⟩ = some (.bool false) := (blk_cell BK381.out 1).trans rfl; have hfz16_0 := blk_frozen BK381.out 0; have hfz16_1 := blk_frozen BK381.out 1; have hcz17_0 : w14.cell? ⟨gb380, 0, none⟩ = some (.int .i64 a0_0) := (blk_cell BK380.out 0).trans rfl; have hcz17_1 : w14.cell? ⟨gb380, 1, none⟩ = some (.bool a0_1) := (blk_cell BK380.out 1).trans rfl; have hcz17_2 : w14.cell? ⟨gb380, 2, none⟩ = some (.slice A0_2 l0_2.length c0_2) := (blk_cell BK380.out 2).trans rfl; have hcz17_3 : w14.cell? ⟨gb380, 3, none⟩ = some (.slice A0_3 l0_3.length c0_3) := (blk_cell BK380.out 3).trans rfl; have hfz17_0 := blk_frozen BK380.out 0; have hfz17_1 := blk_frozen BK380.out 1; have hfz17_2 := blk_frozen BK380.out 2; have hfz17_3 := blk_frozen BK380.out 3; have p383 : 0 ≤ (a1_0 : Int) := of_decide_eq_true (by first | (with_reducible assumption) | assumption); have q383 : a1_0 < (l0_2.length : Int) := of_decide_eq_true (by first | (with_reducible assumption) | assumption); obtain ⟨ad383, e383, hx383_0, hx383_1, hx383_2, hx383_3⟩ := at_T74 HR0_2.out a1_0 p383 q383; cases e383; replace hx383_0 := (HB.out.cell (World.block_lt_of_cell? w _ hx383_0)).trans hx383_0; replace hx383_1 := (HB.out.cell (World.block_lt_of_cell? w _ hx383_1)).trans hx383_1; replace hx383_2 := (HB.out.cell (World.block_lt_of_cell? w _ hx383_2)).trans hx383_2; replace hx383_3 := (HB.out.cell (World.block_lt_of_cell? w _ hx383_3)).trans hx383_3; replace p383 := eq_true p383; replace q383 := eq_true q383))
 go_ret
 exact ⟨by first | rfl | (simp [errW_none, errW_some] <;> rfl) | (simp [*, errW_none, errW_some] <;> rfl), by repeat (first | (with_reducible first | exact HB.out | apply below_alloc | apply pw_below_drewN | apply below_drew1 | refine below_set ?_ GE380.out | refine below_set ?_ GE381.out) | exact HB.out)⟩
end Go.Proofs.Ytkcpanpdipmmmaa.P
namespace Go.Proofs.Ytkcpanpdipmmmaa.P
open Go.RowKit Go.Proofs.YtkcpanpdipmmmaaW.PrintWords Go.Proofs.YtkcpanpdipmmmaaW.PrintLast Go.Proofs.YtkcpanpdipmmmaaW.PrintMore
attribute [local go_sem] max2_int min2_int max_two min_two max_three min_three max_four min_four
def static_Flowing_To.f (a0_0 : Int) (a0_1 : Bool) (l0_2 : List (S74)) (l0_3 : List Int) (a1_0 : Int) (a1_1 : Bool) : Option (Int) := (static_Flowing_From.f a0_0 a0_1 l0_2 l0_3 a1_0 (!a1_1)).bind fun t386 => (some t386)
set_option maxHeartbeats 8000000 in
set_option maxRecDepth 100000 in
theorem static_Flowing_To.calls (a0_0 : Int) (a0_1 : Bool) (A0_2 : Option Addr) (c0_2 : Nat) (l0_2 : List (S74)) (A0_3 : Option Addr) (c0_3 : Nat) (l0_3 : List Int) (a1_0 : Int) (a1_1 : Bool) (r : Int) (w : World) (hr0_2 : Kd.C k74 w A0_2 l0_2.length l0_2) (hc0_2 : l0_2.length ≤ c0_2) (hr0_3 : Kd.C (Kd.int .i64) w A0_3 l0_3.length l0_3) (hc0_3 : l0_3.length ≤ c0_3) (h : static_Flowing_To.f a0_0 a0_1 l0_2 l0_3 a1_0 a1_1 = some r) :
  Calls Try.prog 105 #[.agg #[.int .i64 a0_0, .bool a0_1, .slice A0_2 l0_2.length c0_2, .slice A0_3 l0_3.length c0_3], .agg #[.int .i64 a1_0, .bool a1_1]] w fun e w' => e = .returned (.int .i64 r) ∧ Below w.heap.size w w' := by
 have hu115 := Try.underlying115
 have hu38 := Try.underlying38
 have HR0_2 := Aside0.mk hr0_2
 have HC0_2 := Aside0.mk hc0_2
 clear hr0_2 hc0_2
 have HR0_3 := Aside0.mk hr0_3
 have HC0_3 := Aside0.mk hc0_3
 clear hr0_3 hc0_3
 have HB := Aside0.mk (Below.refl w.heap.size w)
 have H : ((static_Flowing_From.f a0_0 a0_1 l0_2 l0_3 a1_0 (!a1_1)).bind fun t386 => (some t386)) = some r := h
 clear h
 replace H := Option.bind_eq_some_iff.mp H
 obtain ⟨t386, A30, H⟩ := H
 replace H : (some t386) = some r := H
 have A3 := Aside0.mk A30
 clear A30
 obtain rfl := Option.some.inj H
 go_enter Try.func105, Try.ntmps105
 go_wp2_with (first | ((with_reducible refine gate_dst (N := 2) rfl ?_); refine box_event ?hg (N := 2) ?hd (cs := #[.int .i64 a0_0, .bool a0_1, .slice A0_2 l0_2.length c0_2, .slice A0_3 l0_3.length c0_3]) (t := 115) ?hr ?_; (case hd => rfl); (case hg => rfl); (case hr => first | (go_simp; done) | (go_simp; rfl)); intro gb384 hg w4 hbox hb; have n0_ := Aside0.mk (below_step (by repeat (first | (with_reducible first | exact HB.out | apply below_alloc | apply pw_below_drewN | apply below_drew1) | exact HB.out)) hb); have n1_ := Aside0.mk (hbox); have n2_ := Aside0.mk ((by rw [hg]; exact (below_size (by repeat (first | (with_reducible first | exact HB.out | apply below_alloc | apply pw_below_drewN | apply below_drew1) | exact HB.out))) : w.heap.size ≤ gb384)); have n3_ := Aside0.mk ((by rw [hg]; exact (below_size (by repeat (first | (with_reducible first | exact HB.out | apply below_alloc | apply pw_below_drewN | apply below_drew1) | exact HB.out))) : w.heap.size ≤ gb384)); clear HB; have HB := n0_; have BK384 := n1_; have GW384 := n2_; have GE384 := n3_; clear n0_ n1_ n2_ n3_; clear hb hbox hg) | ((with_reducible refine gate_dst (N := 3) rfl ?_); refine box_event ?hg (N := 3) ?hd (cs := #[.int .i64 a1_0, .bool a1_1]) (t := 38) ?hr ?_; (case hd => rfl); (case hg => rfl); (case hr => first | (go_simp; done) | (go_simp; rfl)); intro gb385 hg w5 hbox hb; have n0_ := Aside0.mk (blk_below (g := gb384) (o := .cells #[.int .i64 a0_0, .bool a0_1, .slice A0_2 l0_2.length c0_2, .slice A0_3 l0_3.length c0_3] 115 (0, 0)) (by (with_reducible repeat (first | refine blk_drewN ?_ _ | refine blk_drew ?_ | refine blk_alloc ?_ _)); exact BK384.out) hb); have n1_ := Aside0.mk (below_step (by repeat (first | (with_reducible first | exact HB.out | apply below_alloc | apply pw_below_drewN | apply below_drew1 | refine below_set ?_ GE384.out) | exact HB.out)) hb); have n2_ := Aside0.mk (hbox); have n3_ := Aside0.mk ((by rw [hg]; exact (below_size (by repeat (first | (with_reducible first | exact HB.out | apply below_alloc | apply pw_below_drewN | apply below_drew1 | refine below_set ?_ GE384.out) | exact HB.out))) : w.heap.size ≤ gb385)); have n4_ := Aside0.mk ((by rw [hg]; exact (below_size (by repeat (first | (with_reducible first | exact HB.out | apply below_alloc | apply pw_below_drewN | apply below_drew1 | refine below_set ?_ GE384.out) | exact HB.out))) : w.heap.size ≤ gb385)); have n5_ := Aside0.mk ((by rw [hg]; exact Nat.ne_of_lt (blk_lt (g := gb384) (o := .cells #[.int .i64 a0_0, .bool a0_1, .slice A0_2 l0_2.length c0_2, .slice A0_3 l0_3.length c0_3] 115 (0, 0)) (by (with_reducible repeat (first | refine blk_drewN ?_ _ | refine blk_drew ?_ | refine blk_alloc ?_ _)); exact BK384.out)) : gb384 ≠ gb385)); have n6_ := Aside0.mk ((by rw [hg]; exact Nat.ne_of_gt (blk_lt (g := gb384) (o := .cells #[.int .i64 a0_0, .bool a0_1, .slice A0_2 l0_2.length c0_2, .slice A0_3 l0_3.length c0_3] 115 (0, 0)) (by (with_reducible repeat (first | refine blk_drewN ?_ _ | refine blk_drew ?_ | refine blk_alloc ?_ _)); exact BK384.out)) : gb385 ≠ gb384)); clear BK384; clear HB; have BK384 := n0_; have HB := n1_; have BK385 := n2_; have GW385 := n3_; have GE385 := n4_; have NB384_385 := n5_; have NB385_384 := n6_; clear n0_ n1_ n2_ n3_ n4_ n5_ n6_; clear hb hbox hg; have hnb6 := NB385_384.out; have hnc6 := NB384_385.out; have hcz7_0 : w5.cell? ⟨gb385, 0, none⟩ = some (.int .i64 a1_0) := (blk_cell BK385.out 0).trans rfl; have hcz7_1 : w5.cell? ⟨gb385, 1, none⟩ = some (.bool a1_1) := (blk_cell BK385.out 1).trans rfl; have hfz7_0 := blk_frozen BK385.out 0; have hfz7_1 := blk_frozen BK385.out 1; have hcz8_0 : w5.cell? ⟨gb384, 0, none⟩ = some (.int .i64 a0_0) := (blk_cell BK384.out 0).trans rfl; have hcz8_1 : w5.cell? ⟨gb384, 1, none⟩ = some (.bool a0_1) := (blk_cell BK384.out 1).trans rfl; have hcz8_2 : w5.cell? ⟨gb384, 2, none⟩ = some (.slice A0_2 l0_2.length c0_2) := (blk_cell BK384.out 2).trans rfl; have hcz8_3 : w5.cell? ⟨gb384, 3, none⟩ = some (.slice A0_3 l0_3.length c0_3) := (blk_cell BK384.out 3).trans rfl; have hfz8_0 := blk_frozen BK384.out 0; have hfz8_1 := blk_frozen BK384.out 1; have hfz8_2 := blk_frozen BK384.out 2; have hfz8_3 := blk_frozen BK384.out 3) | ((with_reducible refine gate_callee (f := 106) rfl ?_); refine goesL_ (some 11) rfl rfl Try.func106 (by kernel_rfl) rfl #[.agg #[.int .i64 a0_0, .bool a0_1, .slice A0_2 l0_2.length c0_2, .slice A0_3 l0_3.length c0_3], .agg #[.int .i64 a1_0, .bool (!a1_1)]] rfl (by (try simp only [List.map_toArray, List.map_cons, List.map_nil]); first | done | rfl | (simp only [List.length_drop, List.length_take]; rfl)) ?_; (with_reducible refine (static_Flowing_From.calls a0_0 a0_1 _ _ l0_2 _ _ l0_3 a1_0 (!a1_1) t386 _ ?side1 ?side2 ?side3 ?side4 A3.out).mono ?_); (case side1 => exact Kd.C_below HR0_2.out (by repeat (first | (with_reducible first | exact HB.out | apply below_alloc | apply pw_below_drewN | apply below_drew1 | refine below_set ?_ GE384.out | refine below_set ?_ GE385.out) | exact HB.out))); (case side2 => exact HC0_2.out); (case side3 => exact Kd.C_below HR0_3.out (by repeat (first | (with_reducible first | exact HB.out | apply below_alloc | apply pw_below_drewN | apply below_drew1 | refine below_set ?_ GE384.out | refine below_set ?_ GE385.out) | exact HB.out))); (case side4 => exact HC0_3.out); rintro e w9 ⟨rfl, hb⟩; refine ⟨_, rfl, ?_⟩; have n0_ := Aside0.mk (blk_below (g := gb384) (o := .cells #[.int .i64 a0_0, .bool a0_1, .slice A0_2 l0_2.length c0_2, .slice A0_3 l0_3.length c0_3] 115 (0, 0)) (by (with_reducible repeat (first | refine blk_drewN ?_ _ | refine blk_drew ?_ | refine blk_alloc ?_ _)); refine blk_far ?_ NB384_385.out _; (with_reducible repeat (first | refine blk_drewN ?_ _ | refine blk_drew ?_ | refine blk_alloc ?_ _)); exact BK384.out) hb); have n1_ := Aside0.mk (blk_below (g := gb385) (o := .cells #[.int .i64 a1_0, .bool (!a1_1)] 38 (0, 0)) (by (with_reducible repeat (first | refine blk_drewN ?_ _ | refine blk_drew ?_ | refine blk_alloc ?_ _)); refine blk_put (cs := #[.int .i64 a1_0, .bool a1_1]) ?_ 1 _ rfl; (with_reducible repeat (first | refine blk_drewN ?_ _ | refine blk_drew ?_ | refine blk_alloc ?_ _)); exact BK385.out) hb); have n2_ := Aside0.mk (below_step (by repeat (first | (with_reducible first | exact HB.out | apply below_alloc | apply pw_below_drewN | apply below_drew1 | refine below_set ?_ GE384.out | refine below_set ?_ GE385.out) | exact HB.out)) hb); clear BK384; clear BK385; clear HB; have BK384 := n0_; have BK385 := n1_; have HB := n2_; clear n0_ n1_ n2_; (try clear hb); (try clear hb2); (try clear hk); (try clear hi)))
 go_ret
 exact ⟨by first | rfl | (simp [errW_none, errW_some] <;> rfl) | (simp [*, errW_none, errW_some] <;> rfl), by repeat (first | (with_reducible first | exact HB.out | apply below_alloc | apply pw_below_drewN | apply below_drew1 | refine below_set ?_ GE384.out | refine below_set ?_ GE385.out) | exact HB.out)⟩
end Go.Proofs.Ytkcpanpdipmmmaa.P
namespace Go.Proofs.Ytkcpanpdipmmmaa.P
open Go.RowKit Go.Proofs.YtkcpanpdipmmmaaW.PrintWords Go.Proofs.YtkcpanpdipmmmaaW.PrintLast Go.Proofs.YtkcpanpdipmmmaaW.PrintMore
attribute [local go_sem] max2_int min2_int max_two min_two max_three min_three max_four min_four
def static_Flowing_Time.f (a0_0 : Int) (a0_1 : Bool) (l0_2 : List (S74)) (l0_3 : List Int) (a1_0 : Int) (a1_1 : Bool) : Option (Int) := if a1_1 = true then (if 0 ≤ a1_0 then (if a1_0 < (l0_2.length : Int) then (some (wrap64 (-((rd_T74 l0_2 a1_0).f3)))) else (none)) else (none)) else (if 0 ≤ a1_0 then (if a1_0 < (l0_2.length : Int) then (some ((rd_T74 l0_2 a1_0).f3)) else (none)) else (none))
set_option maxHeartbeats 8000000 in
set_option maxRecDepth 100000 in
theorem static_Flowing_Time.calls (a0_0 : Int) (a0_1 : Bool) (A0_2 : Option Addr) (c0_2 : Nat) (l0_2 : List (S74)) (A0_3 : Option Addr) (c0_3 : Nat) (l0_3 : List Int) (a1_0 : Int) (a1_1 : Bool) (r : Int) (w : World) (hr0_2 : Kd.C k74 w A0_2 l0_2.length l0_2) (hc0_2 : l0_2.length ≤ c0_2) (hr0_3 : Kd.C (Kd.int .i64) w A0_3 l0_3.length l0_3) (hc0_3 : l0_3.length ≤ c0_3) (h : static_Flowing_Time.f a0_0 a0_1 l0_2 l0_3 a1_0 a1_1 = some r) :
  Calls Try.prog 107 #[.agg #[.int .i64 a0_0, .bool a0_1, .slice A0_2 l0_2.length c0_2, .slice A0_3 l0_3.length c0_3], .agg #[.int .i64 a1_0, .bool a1_1]] w fun e w' => e = .returned (.int .i64 r) ∧ Below w.heap.size w w' := by
 have hu115 := Try.underlying115
 have hu38 := Try.underlying38
 have HR0_2 := Aside0.mk hr0_2
 have HC0_2 := Aside0.mk hc0_2
 clear hr0_2 hc0_2
 have HR0_3 := Aside0.mk hr0_3
 have HC0_3 := Aside0.mk hc0_3
 clear hr0_3 hc0_3
 have HB := Aside0.mk (Below.refl w.heap.size w)
 have H : (if a1_1 = true then (if 0 ≤ a1_0 then (if a1_0 < (l0_2.length : Int) then (some (wrap64 (-((rd_T74 l0_2 a1_0).f3)))) else (none)) else (none)) else (if 0 ≤ a1_0 then (if a1_0 < (l0_2.length : Int) then (some ((rd_T74 l0_2 a1_0).f3)) else (none)) else (none))) = some r := h
 clear h
 by_cases c3 : a1_1 = true
 ·subst c3
  have H1 : (if 0 ≤ a1_0 then (if a1_0 < (l0_2.length : Int) then (some (wrap64 (-((rd_T74 l0_2 a1_0).f3)))) else (none)) else (none)) = some r := by rw [if_pos rfl] at H; exact H
  clear H
  have H := H1
  clear H1
  by_cases c4 : 0 ≤ a1_0
  rotate_left
  ·rw [if_neg c4] at H
   exact absurd H (by simp)
  rw [if_pos c4] at H
  have c4b0 : decide (0 ≤ a1_0) = true := decide_eq_true c4
  clear c4
  by_cases c5 : a1_0 < (l0_2.length : Int)
  rotate_left
  ·rw [if_neg c5] at H
   exact absurd H (by simp)
  rw [if_pos c5] at H
  have c5b0 : decide (a1_0 < (l0_2.length : Int)) = true := decide_eq_true c5
  clear c5
  obtain rfl := Option.some.inj H
  go_enter Try.func107, Try.ntmps107
  go_wp2_with (first | ((with_reducible refine gate_dst (N := 2) rfl ?_); refine box_event ?hg (N := 2) ?hd (cs := #[.int .i64 a0_0, .bool a0_1, .slice A0_2 l0_2.length c0_2, .slice A0_3 l0_3.length c0_3]) (t := 115) ?hr ?_; (case hd => rfl); (case hg => rfl); (case hr => first | (go_simp; done) | (go_simp; rfl)); intro gb387 hg w6 hbox hb; have n0_ := Aside0.mk (below_step (by repeat (first | (with_reducible first | exact HB.out | apply below_alloc | apply pw_below_drewN | apply below_drew1) | exact HB.out)) hb); have n1_ := Aside0.mk (hbox); have n2_ := Aside0.mk ((by rw [hg]; exact (below_size (by repeat (first | (with_reducible first | exact HB.out | apply below_alloc | apply pw_below_drewN | apply below_drew1) | exact HB.out))) : w.heap.size ≤ gb387)); have n3_ := Aside0.mk ((by rw [hg]; exact (below_size (by repeat (first | (with_reducible first | exact HB.out | apply below_alloc | apply pw_below_drewN | apply below_drew1) | exact HB.out))) : w.heap.size ≤ gb387)); clear HB; have HB := n0_; have BK387 := n1_; have GW387 := n2_; have GE387 := n3_; clear n0_ n1_ n2_ n3_; clear hb hbox hg) | ((with_reducible refine gate_dst (N := 3) rfl ?_); refine box_event ?hg (N := 3) ?hd (cs := #[.int .i64 a1_0, .bool true]) (t := 38) ?hr ?_; (case hd => rfl); (case hg => rfl); (case hr => first | (go_simp; done) | (go_simp; rfl)); intro gb388 hg w7 hbox hb; have n0_ := Aside0.mk (blk_below (g := gb387) (o := .cells #[.int .i64 a0_0, .bool a0_1, .slice A0_2 l0_2.length c0_2, .slice A0_3 l0_3.length c0_3] 115 (0, 0)) (by (with_reducible repeat (first | refine blk_drewN ?_ _ | refine blk_drew ?_ | refine blk_alloc ?_ _)); exact BK387.out) hb); have n1_ := Aside0.mk (below_step (by repeat (first | (with_reducible first | exact HB.out | apply below_alloc | apply pw_below_drewN | apply below_drew1 | refine below_set ?_ GE387.out) | exact HB.out)) hb); have n2_ := Aside0.mk (hbox); have n3_ := Aside0.mk ((by rw [hg]; exact (below_size (by repeat (first | (with_reducible first | exact HB.out | apply below_alloc | apply pw_below_drewN | apply below_drew1 | refine below_set ?_ GE387.out) | exact HB.out))) : w.heap.size ≤ gb388)); have n4_ := Aside0.mk ((by rw [hg]; exact (below_size (by repeat (first | (with_reducible first | exact HB.out | apply below_alloc | apply pw_below_drewN | apply below_drew1 | refine below_set ?_ GE387.out) | exact HB.out))) : w.heap.size ≤ gb388)); have n5_ := Aside0.mk ((by rw [hg]; exact Nat.ne_of_lt (blk_lt (g := gb387) (o := .cells #[.int .i64 a0_0, .bool a0_1, .slice A0_2 l0_2.length c0_2, .slice A0_3 l0_3.length c0_3] 115 (0, 0)) (by (with_reducible repeat (first | refine blk_drewN ?_ _ | refine blk_drew ?_ | refine blk_alloc ?_ _)); exact BK387.out)) : gb387 ≠ gb388)); have n6_ := Aside0.mk ((by rw [hg]; exact Nat.ne_of_gt (blk_lt (g := gb387) (o := .cells #[.int .i64 a0_0, .bool a0_1, .slice A0_2 l0_2.length c0_2, .slice A0_3 l0_3.length c0_3] 115 (0, 0)) (by (with_reducible repeat (first | refine blk_drewN ?_ _ | refine blk_drew ?_ | refine blk_alloc ?_ _)); exact BK387.out)) : gb388 ≠ gb387)); clear BK387; clear HB; have BK387 := n0_; have HB := n1_; have BK388 := n2_; have GW388 := n3_; have GE388 := n4_; have NB387_388 := n5_; have NB388_387 := n6_; clear n0_ n1_ n2_ n3_ n4_ n5_ n6_; clear hb hbox hg; have hnb8 := NB388_387.out; have hnc8 := NB387_388.out; have hcz9_0 : w7.cell? ⟨gb388, 0, none⟩ = some (.int .i64 a1_0) := (blk_cell BK388.out 0).trans rfl; have hcz9_1 : w7.cell? ⟨gb388, 1, none⟩ = some (.bool true) := (blk_cell BK388.out 1).trans rfl; have hfz9_0 := blk_frozen BK388.out 0; have hfz9_1 := blk_frozen BK388.out 1; have hcz10_0 : w7.cell? ⟨gb387, 0, none⟩ = some (.int .i64 a0_0) := (blk_cell BK387.out 0).trans rfl; have hcz10_1 : w7.cell? ⟨gb387, 1, none⟩ = some (.bool a0_1) := (blk_cell BK387.out 1).trans rfl; have hcz10_2 : w7.cell? ⟨gb387, 2, none⟩ = some (.slice A0_2 l0_2.length c0_2) := (blk_cell BK387.out 2).trans rfl; have hcz10_3 : w7.cell? ⟨gb387, 3, none⟩ = some (.slice A0_3 l0_3.length c0_3) := (blk_cell BK387.out 3).trans rfl; have hfz10_0 := blk_frozen BK387.out 0; have hfz10_1 := blk_frozen BK387.out 1; have hfz10_2 := blk_frozen BK387.out 2; have hfz10_3 := blk_frozen BK387.out 3; have p389 : 0 ≤ (a1_0 : Int) := of_decide_eq_true (by first | (with_reducible assumption) | assumption); have q389 : a1_0 < (l0_2.length : Int) := of_decide_eq_true (by first | (with_reducible assumption) | assumption); obtain ⟨ad389, e389, hx389_0, hx389_1, hx389_2, hx389_3⟩ := at_T74 HR0_2.out a1_0 p389 q389; cases e389; replace hx389_0 := (HB.out.cell (World.block_lt_of_cell? w _ hx389_0)).trans hx389_0; replace hx389_1 := (HB.out.cell (World.block_lt_of_cell? w _ hx389_1)).trans hx389_1; replace hx389_2 := (HB.out.cell (World.block_lt_of_cell? w _ hx389_2)).trans hx389_2; replace hx389_3 := (HB.out.cell (World.block_lt_of_cell? w _ hx389_3)).trans hx389_3; replace p389 := eq_true p389; replace q389 := eq_true q389))
  go_ret
  exact ⟨by first | rfl | (simp [errW_none, errW_some] <;> rfl) | (simp [*, errW_none, errW_some] <;> rfl), by repeat (first | (with_reducible first | exact HB.out | apply below_alloc | apply pw_below_drewN | apply below_drew1 | refine below_set ?_ GE387.out | refine below_set ?_ GE388.out) | exact HB.out)⟩
 replace c3 := Bool.eq_false_iff.mpr c3
 subst c3
 have H1 : (if 0 ≤ a1_0 then (if a1_0 < (l0_2.length : Int) then (some ((rd_T74 l0_2 a1_0).f3)) else (none)) else (none)) = some r := by rw [if_neg (show ¬ (false = true) by decide)] at H; exact H
 clear H
 have H := H1
 clear H1
 by_cases c11 : 0 ≤ a1_0
 rotate_left
 ·rw [if_neg c11] at H
  exact absurd H (by simp)
 rw [if_pos c11] at H
 have c11b0 : decide (0 ≤ a1_0) = true := decide_eq_true c11
 clear c11
 by_cases c12 : a1_0 < (l0_2.length : Int)
 rotate_left
 ·rw [if_neg c12] at H
  exact absurd H (by simp)
 rw [if_pos c12] at H
 have c12b0 : decide (a1_0 < (l0_2.length : Int)) = true := decide_eq_true c12
 clear c12
 obtain rfl := Option.some.inj H
 go_enter Try.func107, Try.ntmps107
 go_wp2_with (first | ((with_reducible refine gate_dst (N := 2) rfl ?_); refine box_event ?hg (N := 2) ?hd (cs := #[.int .i64 a0_0, .bool a0_1, .slice A0_2 l0_2.length c0_2, .slice A0_3 l0_3.length c0_3]) (t := 115) ?hr ?_; (case hd => rfl); (case hg => rfl); (case hr => first | (go_simp; done) | (go_simp; rfl)); intro gb387 hg w13 hbox hb; have n0_ := Aside0.mk (below_step (by repeat (first | (with_reducible first | exact HB.out | apply below_alloc | apply pw_below_drewN | apply below_drew1) | exact HB.out)) hb); have n1_ := Aside0.mk (hbox); have n2_ := Aside0.mk ((by rw [hg]; exact (below_size (by repeat (first | (with_reducible first | exact HB.out | apply below_alloc | apply pw_below_drewN | apply below_drew1) | exact HB.out))) : w.heap.size ≤ gb387)); have n3_ := Aside0.mk ((by rw [hg]; exact (below_size (by repeat (first | (with_reducible first | exact HB.out | apply below_alloc | apply pw_below_drewN | apply below_drew1) | exact HB.out))) : w.heap.size ≤ gb387)); clear HB; have HB := n0_; have BK387 := n1_; have GW387 := n2_; have GE387 := n3_; clear n0_ n1_ n2_ n3_; clear hb hbox hg) | ((with_reducible refine gate_dst (N := 3) rfl ?_); refine box_event ?hg (N := 3) ?hd (cs := #[.int .i64 a1_0, .bool false]) (t := 38) ?hr ?_; (case hd => rfl); (case hg => rfl); (case hr => first | (go_simp; done) | (go_simp; rfl)); intro gb388 hg w14 hbox hb; have n0_ := Aside0.mk (blk_below (g := gb387) (o := .cells #[.int .i64 a0_0, .bool a0_1, .slice A0_2 l0_2.length c0_2, .slice A0_3 l0_3.length c0_3] 115 (0, 0)) (by (with_reducible repeat (first | refine blk_drewN ?_ _ | refine blk_drew ?_ | refine blk_alloc ?_ _)); exact BK387.out) hb); have n1_ := Aside0.mk (below_step (by repeat (first | (with_reducible first | exact HB.out | apply below_alloc | apply pw_below_drewN | apply below_drew1 | refine below_set ?_ GE387.out) | exact HB.out)) hb); have n2_ := Aside0.mk (hbox); have n3_ := Aside0.mk ((by rw [hg]; exact (below_size (by repeat (first | (with_reducible first | exact HB.out | apply below_alloc | apply pw_below_drewN | apply below_drew1 | refine below_set ?_ GE387.out) | exact HB.out))) : w.heap.size ≤ gb388)); have n4_ := Aside0.mk ((by rw [hg]; exact (below_size (by repeat (first | (with_reducible first | exact HB.out | apply below_alloc | apply pw_below_drewN | apply below_drew1 | refine below_set ?_ GE387.out) | exact HB.out))) : w.heap.size ≤ gb388)); have n5_ := Aside0.mk ((by rw [hg]; exact Nat.ne_of_lt (blk_lt (g := gb387) (o := .cells #[.int .i64 a0_0, .bool a0_1, .slice A0_2 l0_2.length c0_2, .slice A0_3 l0_3.length c0_3] 115 (0, 0)) (by (with_reducible repeat (first | refine blk_drewN ?_ _ | refine blk_drew ?_ | refine blk_alloc ?_ _)); exact BK387.out)) : gb387 ≠ gb388)); have n6_ := Aside0.mk ((by rw [hg]; exact Nat.ne_of_gt (blk_lt (g := gb387) (o := .cells #[.int .i64 a0_0, .bool a0_1, .slice A0_2 l0_2.length c0_2, .slice A0_3 l0_3.length c0_3] 115 (0, 0)) (by (with_reducible repeat (first | refine blk_drewN ?_ _ | refine blk_drew ?_ | refine blk_alloc ?_ _)); exact BK387.out)) : gb388 ≠ gb387)); clear BK387; clear HB; have BK387 := n0_; have HB := n1_; have BK388 := n2_; have GW388 := n3_; have GE388 := n4_; have NB387_388 := n5_; have NB388_387 := n6_; clear n0_ n1_ n2_ n3_ n4_ n5_ n6_; clear hb hbox hg; have hnb15 := NB388_387.out; have hnc15 := NB387_388.out; have hcz16_0 : w14.cell? ⟨gb388, 0, none⟩ = some (.int .i64 a1_0) := (blk_cell BK388.out 0).trans rfl; have hcz16_1 : w14.cell? ⟨gb388, 1, none⟩ = some (.bool false) := (blk_cell BK388.out 1).trans rfl; have hfz16_0 := blk_frozen BK388.out 0; have hfz16_1 := blk_frozen BK388.out 1; have hcz17_0 : w14.cell? ⟨gb387, 0, none⟩ = some (.int .i64 a0_0) := (blk_cell BK387.out 0).trans rfl; have hcz17_1 : w14.cell? ⟨gb387, 1, none⟩ = some (.bool a0_1) := (blk_cell BK387.out 1).trans rfl; have hcz17_2 : w14.cell? ⟨gb387, 2, none⟩ = some (.slice A0_2 l0_2.length c0_2) := (blk_cell BK387.out 2).trans rfl; have hcz17_3 : w14.cell? ⟨gb387, 3, none⟩ = some (.slice A0_3 l0_3.length c0_3) := (blk_cell BK387.out 3).trans rfl; have hfz17_0 := blk_frozen BK387.out 0; have hfz17_1 := blk_frozen BK387.out 1; have hfz17_2 := blk_frozen BK387.out 2; have hfz17_3 := blk_frozen BK387.out 3; have p390 : 0 ≤ (a1_0 : Int) := of_decide_eq_true (by first | (with_reducible assumption) | assumption); have q390 : a1_0 < (l0_2.length : Int) := of_decide_eq_true (by first | (with_reducible assumption) | assumption); obtain ⟨ad390, e390, hx390_0, hx390_1, hx390_2, hx390_3⟩ := at_T74 HR0_2.out a1_0 p390 q390; cases e390; replace hx390_0 := (HB.out.cell (World.block_lt_of_cell? w _ hx390_0)).trans hx390_0; replace hx390_1 := (HB.out.cell (World.block_lt_of_cell? w _ hx390_1)).trans hx390_1; replace hx390_2 := (HB.out.cell (World.block_lt_of_cell? w _ hx390_2)).trans hx390_2; replace hx390_3 := (HB.out.cell (World.block_lt_of_cell? w _ hx390_3)).trans hx390_3; replace p390 := eq_true p390; replace q390 := eq_true q390))
 go_ret
 exact ⟨by first | rfl | (simp [errW_none, errW_some] <;> rfl) | (simp [*, errW_none, errW_some] <;> rfl), by repeat (first | (with_reducible first | exact HB.out | apply below_alloc | apply pw_below_drewN | apply below_drew1 | refine below_set ?_ GE387.out | refine below_set ?_ GE388.out) | exact HB.out)⟩
end Go.Proofs.Ytkcpanpdipmmmaa.P
namespace Go.Proofs.Ytkcpanpdipmmmaa.P
open Go.RowKit Go.Proofs.YtkcpanpdipmmmaaW.PrintWords Go.Proofs.YtkcpanpdipmmmaaW.PrintLast Go.Proofs.YtkcpanpdipmmmaaW.PrintMore
attribute [local go_sem] max2_int min2_int max_two min_two max_three min_three max_four min_four
def static_Flowing_Room.f (a0_0 : Int) (a0_1 : Bool) (l0_2 : List (S74)) (l0_3 : List Int) (a1_0 : Int) (a1_1 : Bool) : Option (Int) := if a1_1 = true then (if 0 ≤ a1_0 then (if a1_0 < (l0_3.length : Int) then (some (rd l0_3 a1_0)) else (none)) else (none)) else (if 0 ≤ a1_0 then (if a1_0 < (l0_2.length : Int) then (if a1_0 < (l0_3.length : Int) then (some (wrap64 (((rd_T74 l0_2 a1_0).f2) - (rd l0_3 a1_0)))) else (none)) else (none)) else (none))
set_option maxHeartbeats 8000000 in
set_option maxRecDepth 100000 in
theorem static_Flowing_Room.calls (a0_0 : Int) (a0_1 : Bool) (A0_2 : Option Addr) (c0_2 : Nat) (l0_2 : List (S74)) (A0_3 : Option Addr) (c0_3 : Nat) (l0_3 : List Int) (a1_0 : Int) (a1_1 : Bool) (r : Int) (w : World) (hr0_2 : Kd.C k74 w A0_2 l0_2.length l0_2) (hc0_2 : l0_2.length ≤ c0_2) (hr0_3 : Kd.C (Kd.int .i64) w A0_3 l0_3.length l0_3) (hc0_3 : l0_3.length ≤ c0_3) (h : static_Flowing_Room.f a0_0 a0_1 l0_2 l0_3 a1_0 a1_1 = some r) :
  Calls Try.prog 104 #[.agg #[.int .i64 a0_0, .bool a0_1, .slice A0_2 l0_2.length c0_2, .slice A0_3 l0_3.length c0_3], .agg #[.int .i64 a1_0, .bool a1_1]] w fun e w' => e = .returned (.int .i64 r) ∧ Below w.heap.size w w' := by
 have hu115 := Try.underlying115
 have hu38 := Try.underlying38
 have HR0_2 := Aside0.mk hr0_2
 have HC0_2 := Aside0.mk hc0_2
 clear hr0_2 hc0_2
 have HR0_3 := Aside0.mk hr0_3
 have HC0_3 := Aside0.mk hc0_3
 clear hr0_3 hc0_3
 have HB := Aside0.mk (Below.refl w.heap.size w)
 have H : (if a1_1 = true then (if 0 ≤ a1_0 then (if a1_0 < (l0_3.length : Int) then (some (rd l0_3 a1_0)) else (none)) else (none)) else (if 0 ≤ a1_0 then (if a1_0 < (l0_2.length : Int) then (if a1_0 < (l0_3.length : Int) then (some (wrap64 (((rd_T74 l0_2 a1_0).f2) - (rd l0_3 a1_0)))) else (none)) else (none)) else (none))) = some r := h
 clear h
 by_cases c3 : a1_1 = true
 ·subst c3
  have H1 : (if 0 ≤ a1_0 then (if a1_0 < (l0_3.length : Int) then (some (rd l0_3 a1_0)) else (none)) else (none)) = some r := by rw [if_pos rfl] at H; exact H
  clear H
  have H := H1
  clear H1
  by_cases c4 : 0 ≤ a1_0
  rotate_left
  ·rw [if_neg c4] at H
   exact absurd H (by simp)
  rw [if_pos c4] at H
  have c4b0 : decide (0 ≤ a1_0) = true := decide_eq_true c4
  clear c4
  by_cases c5 : a1_0 < (l0_3.length : Int)
  rotate_left
  ·rw [if_neg c5] at H
   exact absurd H (by simp)
  rw [if_pos c5] at H
  have c5b0 : decide (a1_0 < (l0_3.length : Int)) = true := decide_eq_true c5
  clear c5
  obtain rfl := Option.some.inj H
  go_enter Try.func104, Try.ntmps104
  go_wp2_with (first | ((with_reducible refine gate_dst (N := 2) rfl ?_); refine box_event ?hg (N := 2) ?hd (cs := #[.int .i64 a0_0, .bool a0_1, .slice A0_2 l0_2.length c0_2, .slice A0_3 l0_3.length c0_3]) (t := 115) ?hr ?_; (case hd => rfl); (case hg => rfl); (case hr => first | (go_simp; done) | (go_simp; rfl)); intro gb375 hg w6 hbox hb; have n0_ := Aside0.mk (below_step (by repeat (first | (with_reducible first | exact HB.out | apply below_alloc | apply pw_below_drewN | apply below_drew1) | exact HB.out)) hb); have n1_ := Aside0.mk (hbox); have n2_ := Aside0.mk ((by rw [hg]; exact (below_size (by repeat (first | (with_reducible first | exact HB.out | apply below_alloc | apply pw_below_drewN | apply below_drew1) | exact HB.out))) : w.heap.size ≤ gb375)); have n3_ := Aside0.mk ((by rw [hg]; exact (below_size (by repeat (first | (with_reducible first | exact HB.out | apply below_alloc | apply pw_below_drewN | apply below_drew1) | exact HB.out))) : w.heap.size ≤ gb375)); clear HB; have HB := n0_; have BK375 := n1_; have GW375 := n2_; have GE375 := n3_; clear n0_ n1_ n2_ n3_; clear hb hbox hg) | ((with_reducible refine gate_dst (N := 3) rfl ?_); refine box_event ?hg (N := 3) ?hd (cs := #[.int .i64 a1_0, .bool true]) (t := 38) ?hr ?_; (case hd => rfl); (case hg => rfl); (case hr => first | (go_simp; done) | (go_simp; rfl)); intro gb376 hg w7 hbox hb; have n0_ := Aside0.mk (blk_below (g := gb375) (o := .cells #[.int .i64 a0_0, .bool a0_1, .slice A0_2 l0_2.length c0_2, .slice A0_3 l0_3.length c0_3] 115 (0, 0)) (by (with_reducible repeat (first | refine blk_drewN ?_ _ | refine blk_drew ?_ | refine blk_alloc ?_ _)); exact BK375.out) hb); have n1_ := Aside0.mk (below_step (by repeat (first | (with_reducible first | exact HB.out | apply below_alloc | apply pw_below_drewN | apply below_drew1 | refine below_set ?_ GE375.out) | exact HB.out)) hb); have n2_ := Aside0.mk (hbox); have n3_ := Aside0.mk ((by rw [hg]; exact (below_size (by repeat (first | (with_reducible first | exact HB.out | apply below_alloc | apply pw_below_drewN | apply below_drew1 | refine below_set ?_ GE375.out) | exact HB.out))) : w.heap.size ≤ gb376)); have n4_ := Aside0.mk ((by rw [hg]; exact (below_size (by repeat (first | (with_reducible first | exact HB.out | apply below_alloc | apply pw_below_drewN | apply below_drew1 | refine below_set ?_ GE375.out) | exact HB.out))) : w.heap.size ≤ gb376)); have n5_ := Aside0.mk ((by rw [hg]; exact Nat.ne_of_lt (blk_lt (g := gb375) (o := .cells #[.int .i64 a0_0, .bool a0_1, .slice A0_2 l0_2.length c0_2, .slice A0_3 l0_3.length c0_3] 115 (0, 0)) (by (with_reducible repeat (first | refine blk_drewN ?_ _ | refine blk_drew ?_ | refine blk_alloc ?_ _)); exact BK375.out)) : gb375 ≠ gb376)); have n6_ := Aside0.mk ((by rw [hg]; exact Nat.ne_of_gt (blk_lt (g := gb375) (o := .cells #[.int .i64 a0_0, .bool a0_1, .slice A0_2 l0_2.length c0_2, .slice A0_3 l0_3.length c0_3] 115 (0, 0)) (by (with_reducible repeat (first | refine blk_drewN ?_ _ | refine blk_drew ?_ | refine blk_alloc ?_ _)); exact BK375.out)) : gb376 ≠ gb375)); clear BK375; clear HB; have BK375 := n0_; have HB := n1_; have BK376 := n2_; have GW376 := n3_; have GE376 := n4_; have NB375_376 := n5_; have NB376_375 := n6_; clear n0_ n1_ n2_ n3_ n4_ n5_ n6_; clear hb hbox hg; have hnb8 := NB376_375.out; have hnc8 := NB375_376.out; have hcz9_0 : w7.cell? ⟨gb376, 0, none⟩ = some (.int .i64 a1_0) := (blk_cell BK376.out 0).trans rfl; have hcz9_1 : w7.cell? ⟨gb376, 1, none⟩ = some (.bool true) := (blk_cell BK376.out 1).trans rfl; have hfz9_0 := blk_frozen BK376.out 0; have hfz9_1 := blk_frozen BK376.out 1; have hcz10_0 : w7.cell? ⟨gb375, 0, none⟩ = some (.int .i64 a0_0) := (blk_cell BK375.out 0).trans rfl; have hcz10_1 : w7.cell? ⟨gb375, 1, none⟩ = some (.bool a0_1) := (blk_cell BK375.out 1).trans rfl; have hcz10_2 : w7.cell? ⟨gb375, 2, none⟩ = some (.slice A0_2 l0_2.length c0_2) := (blk_cell BK375.out 2).trans rfl; have hcz10_3 : w7.cell? ⟨gb375, 3, none⟩ = some (.slice A0_3 l0_3.length c0_3) := (blk_cell BK375.out 3).trans rfl; have hfz10_0 := blk_frozen BK375.out 0; have hfz10_1 := blk_frozen BK375.out 1; have hfz10_2 := blk_frozen BK375.out 2; have hfz10_3 := blk_frozen BK375.out 3; have p377 : 0 ≤ (a1_0 : Int) := of_decide_eq_true (by first | (with_reducible assumption) | assumption); have q377 : a1_0 < (l0_3.length : Int) := of_decide_eq_true (by first | (with_reducible assumption) | assumption); obtain ⟨ad377, e377, hx377_0⟩ := Kd.at_int HR0_3.out a1_0 p377 q377; cases e377; replace hx377_0 := (HB.out.cell (World.block_lt_of_cell? w _ hx377_0)).trans hx377_0; replace p377 := eq_true p377; replace q377 := eq_true q377))
  repeat (go_quiet (first | ((with_reducible refine gate_dst (N := 2) rfl ?_); refine box_event ?hg (N := 2) ?hd (cs := #[.int .i64 a0_0, .bool a0_1, .slice A0_2 l0_2.length c0_2, .slice A0_3 l0_3.length c0_3]) (t := 115) ?hr ?_; (case hd => rfl); (case hg => rfl); (case hr => first | (go_simp; done) | (go_simp; rfl)); intro gb375 hg w6 hbox hb; have n0_ := Aside0.mk (below_step (by repeat (first | (with_reducible first | exact HB.out | apply below_alloc | apply pw_below_drewN | apply below_drew1) | exact HB.out)) hb); have n1_ := Aside0.mk (hbox); have n2_ := Aside0.mk ((by rw [hg]; exact (below_size (by repeat (first | (with_reducible first | exact HB.out | apply below_alloc | apply pw_below_drewN | apply below_drew1) | exact HB.out))) : w.heap.size ≤ gb375)); have n3_ := Aside0.mk ((by rw [hg]; exact (below_size (by repeat (first | (with_reducible first | exact HB.out | apply below_alloc | apply pw_below_drewN | apply below_drew1) | exact HB.out))) : w.heap.size ≤ gb375)); clear HB; have HB := n0_; have BK375 := n1_; have GW375 := n2_; have GE375 := n3_; clear n0_ n1_ n2_ n3_; clear hb hbox hg) | ((with_reducible refine gate_dst (N := 3) rfl ?_); refine box_event ?hg (N := 3) ?hd (cs := #[.int .i64 a1_0, .bool true]) (t := 38) ?hr ?_; (case hd => rfl); (case hg => rfl); (case hr => first | (go_simp; done) | (go_simp; rfl)); intro gb376 hg w7 hbox hb; have n0_ := Aside0.mk (blk_below (g := gb375) (o := .cells #[.int .i64 a0_0, .bool a0_1, .slice A0_2 l0_2.length c0_2, .slice A0_3 l0_3.length c0_3] 115 (0, 0)) (by (with_reducible repeat (first | refine blk_drewN ?_ _ | refine blk_drew ?_ | refine blk_alloc ?_ _)); exact BK375.out) hb); have n1_ := Aside0.mk (below_step (by repeat (first | (with_reducible first | exact HB.out | apply below_alloc | apply pw_below_drewN | apply below_drew1 | refine below_set ?_ GE375.out) | exact HB.out)) hb); have n2_ := Aside0.mk (hbox); have n3_ := Aside0.mk ((by rw [hg]; exact (below_size (by repeat (first | (with_reducible first | exact HB.out | apply below_alloc | apply pw_below_drewN | apply below_drew1 | refine below_set ?_ GE375.out) | exact HB.out))) : w.heap.size ≤ gb376)); have n4_ := Aside0.mk ((by rw [hg]; exact (below_size (by repeat (first | (with_reducible first | exact HB.out | apply below_alloc | apply pw_below_drewN | apply below_drew1 | refine below_set ?_ GE375.out) | exact HB.out))) : w.heap.size ≤ gb376)); have n5_ := Aside0.mk ((by rw [hg]; exact Nat.ne_of_lt (blk_lt (g := gb375) (o := .cells #[.int .i64 a0_0, .bool a0_1, .slice A0_2 l0_2.length c0_2, .slice A0_3 l0_3.length c0_3] 115 (0, 0)) (by (with_reducible repeat (first | refine blk_drewN ?_ _ | refine blk_drew ?_ | refine blk_alloc ?_ _)); exact BK375.out)) : gb375 ≠ gb376)); have n6_ := Aside0.mk ((by rw [hg]; exact Nat.ne_of_gt (blk_lt (g := gb375) (o := .cells #[.int .i64 a0_0, .bool a0_1, .slice A0_2 l0_2.length c0_2, .slice A0_3 l0_3.length c0_3] 115 (0, 0)) (by (with_reducible repeat (first | refine blk_drewN ?_ _ | refine blk_drew ?_ | refine blk_alloc ?_ _)); exact BK375.out)) : gb376 ≠ gb375)); clear BK375; clear HB; have BK375 := n0_; have HB := n1_; have BK376 := n2_; have GW376 := n3_; have GE376 := n4_; have NB375_376 := n5_; have NB376_375 := n6_; clear n0_ n1_ n2_ n3_ n4_ n5_ n6_; clear hb hbox hg; have hnb8 := NB376_375.out; have hnc8 := NB375_376.out; have hcz9_0 : w7.cell? ⟨gb376, 0, none⟩ = some (.int .i64 a1_0) := (blk_cell BK376.out 0).trans rfl; have hcz9_1 : w7.cell? ⟨gb376, 1, none⟩ = some (.bool true) := (blk_cell BK376.out 1).trans rfl; have hfz9_0 := blk_frozen BK376.out 0; have hfz9_1 := blk_frozen BK376.out 1; have hcz10_0 : w7.cell? ⟨gb375, 0, none⟩ = some (.int .i64 a0_0) := (blk_cell BK375.out 0).trans rfl; have hcz10_1 : w7.cell? ⟨gb375, 1, none⟩ = some (.bool a0_1) := (blk_cell BK375.out 1).trans rfl; have hcz10_2 : w7.cell? ⟨gb375, 2, none⟩ = some (.slice A0_2 l0_2.length c0_2) := (blk_cell BK375.out 2).trans rfl; have hcz10_3 : w7.cell? ⟨gb375, 3, none⟩ = some (.slice A0_3 l0_3.length c0_3) := (blk_cell BK375.out 3).trans rfl; have hfz10_0 := blk_frozen BK375.out 0; have hfz10_1 := blk_frozen BK375.out 1; have hfz10_2 := blk_frozen BK375.out 2; have hfz10_3 := blk_frozen BK375.out 3; have p377 : 0 ≤ (a1_0 : Int) := of_decide_eq_true (by first | (with_reducible assumption) | assumption); have q377 : a1_0 < (l0_3.length : Int) := of_decide_eq_true (by first | (with_reducible assumption) | assumption); obtain ⟨ad377, e377, hx377_0⟩ := Kd.at_int HR0_3.out a1_0 p377 q377; cases e377; replace hx377_0 := (HB.out.cell (World.block_lt_of_cell? w _ hx377_0)).trans hx377_0; replace p377 := eq_true p377; replace q377 := eq_true q377)); try go_wp2_with (first | ((with_reducible refine gate_dst (N := 2) rfl ?_); refine box_event ?hg (N := 2) ?hd (cs := #[.int .i64 a0_0, .bool a0_1, .slice A0_2 l0_2.length c0_2, .slice A0_3 l0_3.length c0_3]) (t := 115) ?hr ?_; (case hd => rfl); (case hg => rfl); (case hr => first | (go_simp; done) | (go_simp; rfl)); intro gb375 hg w6 hbox hb; have n0_ := Aside0.mk (below_step (by repeat (first | (with_reducible first | exact HB.out | apply below_alloc | apply pw_below_drewN | apply below_drew1) | exact HB.out)) hb); have n1_ := Aside0.mk (hbox); have n2_ := Aside0.mk ((by rw [hg]; exact (below_size (by repeat (first | (with_reducible first | exact HB.out | apply below_alloc | apply pw_below_drewN | apply below_drew1) | exact HB.out))) : w.heap.size ≤ gb375)); have n3_ := Aside0.mk ((by rw [hg]; exact (below_size (by repeat (first | (with_reducible first | exact HB.out | apply below_alloc | apply pw_below_drewN | apply below_drew1) | exact HB.out))) : w.heap.size ≤ gb375)); clear HB; have HB := n0_; have BK375 := n1_; have GW375 := n2_; have GE375 := n3_; clear n0_ n1_ n2_ n3_; clear hb hbox hg) | ((with_reducible refine gate_dst (N := 3) rfl ?_); refine box_event ?hg (N := 3) ?hd (cs := #[.int .i64 a1_0, .bool true]) (t := 38) ?hr ?_; (case hd => rfl); (case hg => rfl); (case hr => first | (go_simp; done) | (go_simp; rfl)); intro gb376 hg w7 hbox hb; have n0_ := Aside0.mk (blk_below (g := gb375) (o := .cells #[.int .i64 a0_0, .bool a0_1, .slice A0_2 l0_2.length c0_2, .slice A0_3 l0_3.length c0_3] 115 (0, 0)) (by (with_reducible repeat (first | refine blk_drewN ?_ _ | refine blk_drew ?_ | refine blk_alloc ?_ _)); exact BK375.out) hb); have n1_ := Aside0.mk (below_step (by repeat (first | (with_reducible first | exact HB.out | apply below_alloc | apply pw_below_drewN | apply below_drew1 | refine below_set ?_ GE375.out) | exact HB.out)) hb); have n2_ := Aside0.mk (hbox); have n3_ := Aside0.mk ((by rw [hg]; exact (below_size (by repeat (first | (with_reducible first | exact HB.out | apply below_alloc | apply pw_below_drewN | apply below_drew1 | refine below_set ?_ GE375.out) | exact HB.out))) : w.heap.size ≤ gb376)); have n4_ := Aside0.mk ((by rw [hg]; exact (below_size (by repeat (first | (with_reducible first | exact HB.out | apply below_alloc | apply pw_below_drewN | apply below_drew1 | refine below_set ?_ GE375.out) | exact HB.out))) : w.heap.size ≤ gb376)); have n5_ := Aside0.mk ((by rw [hg]; exact Nat.ne_of_lt (blk_lt (g := gb375) (o := .cells #[.int .i64 a0_0, .bool a0_1, .slice A0_2 l0_2.length c0_2, .slice A0_3 l0_3.length c0_3] 115 (0, 0)) (by (with_reducible repeat (first | refine blk_drewN ?_ _ | refine blk_drew ?_ | refine blk_alloc ?_ _)); exact BK375.out)) : gb375 ≠ gb376)); have n6_ := Aside0.mk ((by rw [hg]; exact Nat.ne_of_gt (blk_lt (g := gb375) (o := .cells #[.int .i64 a0_0, .bool a0_1, .slice A0_2 l0_2.length c0_2, .slice A0_3 l0_3.length c0_3] 115 (0, 0)) (by (with_reducible repeat (first | refine blk_drewN ?_ _ | refine blk_drew ?_ | refine blk_alloc ?_ _)); exact BK375.out)) : gb376 ≠ gb375)); clear BK375; clear HB; have BK375 := n0_; have HB := n1_; have BK376 := n2_; have GW376 := n3_; have GE376 := n4_; have NB375_376 := n5_; have NB376_375 := n6_; clear n0_ n1_ n2_ n3_ n4_ n5_ n6_; clear hb hbox hg; have hnb8 := NB376_375.out; have hnc8 := NB375_376.out; have hcz9_0 : w7.cell? ⟨gb376, 0, none⟩ = some (.int .i64 a1_0) := (blk_cell BK376.out 0).trans rfl; have hcz9_1 : w7.cell? ⟨gb376, 1, none⟩ = some (.bool true) := (blk_cell BK376.out 1).trans rfl; have hfz9_0 := blk_frozen BK376.out 0; have hfz9_1 := blk_frozen BK376.out 1; have hcz10_0 : w7.cell? ⟨gb375, 0, none⟩ = some (.int .i64 a0_0) := (blk_cell BK375.out 0).trans rfl; have hcz10_1 : w7.cell? ⟨gb375, 1, none⟩ = some (.bool a0_1) := (blk_cell BK375.out 1).trans rfl; have hcz10_2 : w7.cell? ⟨gb375, 2, none⟩ = some (.slice A0_2 l0_2.length c0_2) := (blk_cell BK375.out 2).trans rfl; have hcz10_3 : w7.cell? ⟨gb375, 3, none⟩ = some (.slice A0_3 l0_3.length c0_3) := (blk_cell BK375.out 3).trans rfl; have hfz10_0 := blk_frozen BK375.out 0; have hfz10_1 := blk_frozen BK375.out 1; have hfz10_2 := blk_frozen BK375.out 2; have hfz10_3 := blk_frozen BK375.out 3; have p377 : 0 ≤ (a1_0 : Int) := of_decide_eq_true (by first | (with_reducible assumption) | assumption); have q377 : a1_0 < (l0_3.length : Int) := of_decide_eq_true (by first | (with_reducible assumption) | assumption); obtain ⟨ad377, e377, hx377_0⟩ := Kd.at_int HR0_3.out a1_0 p377 q377; cases e377; replace hx377_0 := (HB.out.cell (World.block_lt_of_cell? w _ hx377_0)).trans hx377_0; replace p377 := eq_true p377; replace q377 := eq_true q377)))
  go_ret
  exact ⟨by first | rfl | (simp [errW_none, errW_some] <;> rfl) | (simp [*, errW_none, errW_some] <;> rfl), by repeat (first | (with_reducible first | exact HB.out | apply below_alloc | apply pw_below_drewN | apply below_drew1 | refine below_set ?_ GE375.out | refine below_set ?_ GE376.out) | exact HB.out)⟩
 replace c3 := Bool.eq_false_iff.mpr c3
 subst c3
 have H1 : (if 0 ≤ a1_0 then (if a1_0 < (l0_2.length : Int) then (if a1_0 < (l0_3.length : Int) then (some (wrap64 (((rd_T74 l0_2 a1_0).f2) - (rd l0_3 a1_0)))) else (none)) else (none)) else (none)) = some r := by rw [if_neg (show ¬ (false = true) by decide)] at H; exact H
 clear H
 have H := H1
 clear H1
 by_cases c11 : 0 ≤ a1_0
 rotate_left
 ·rw [if_neg c11] at H
  exact absurd H (by simp)
 rw [if_pos c11] at H
 have c11b0 : decide (0 ≤ a1_0) = true := decide_eq_true c11
 clear c11
 by_cases c12 : a1_0 < (l0_2.length : Int)
 rotate_left
 ·rw [if_neg c12] at H
  exact absurd H (by simp)
 rw [if_pos c12] at H
 have c12b0 : decide (a1_0 < (l0_2.length : Int)) = true := decide_eq_true c12
 clear c12
 by_cases c13 : a1_0 < (l0_3.length : Int)
 rotate_left
 ·rw [if_neg c13] at H
  exact absurd H (by simp)
 rw [if_pos c13] at H
 have c13b0 : decide (a1_0 < (l0_3.length : Int)) = true := decide_eq_true c13
 clear c13
 obtain rfl := Option.some.inj H
 go_enter Try.func104, Try.ntmps104
 go_wp2_with (first | ((with_reducible refine gate_dst (N := 2) rfl ?_); refine box_event ?hg (N := 2) ?hd (cs := #[.int .i64 a0_0, .bool a0_1, .slice A0_2 l0_2.length c0_2, .slice A0_3 l0_3.length c0_3]) (t := 115) ?hr ?_; (case hd => rfl); (case hg => rfl); (case hr => first | (go_simp; done) | (go_simp; rfl)); intro gb375 hg w14 hbox hb; have n0_ := Aside0.mk (below_step (by repeat (first | (with_reducible first | exact HB.out | apply below_alloc | apply pw_below_drewN | apply below_drew1) | exact HB.out)) hb); have n1_ := Aside0.mk (hbox); have n2_ := Aside0.mk ((by rw [hg]; exact (below_size (by repeat (first | (with_reducible first | exact HB.out | apply below_alloc | apply pw_below_drewN | apply below_drew1) | exact HB.out))) : w.heap.size ≤ gb375)); have n3_ := Aside0.mk ((by rw [hg]; exact (below_size (by repeat (first | (with_reducible first | exact HB.out | apply below_alloc | apply pw_below_drewN | apply below_drew1) | exact HB.out))) : w.heap.size ≤ gb375)); clear HB; have HB := n0_; have BK375 := n1_; have GW375 := n2_; have GE375 := n3_; clear n0_ n1_ n2_ n3_; clear hb hbox hg) | ((with_reducible refine gate_dst (N := 3) rfl ?_); refine box_event ?hg (N := 3) ?hd (cs := #[.int .i64 a1_0, .bool false]) (t := 38) ?hr ?_; (case hd => rfl); (case hg => rfl); (case hr => first | (go_simp; done) | (go_simp; rfl)); intro gb376 hg w15 hbox hb; have n0_ := Aside0.mk (blk_below (g := gb375) (o := .cells #[.int .i64 a0_0, .bool a0_1, .slice A0_2 l0_2.length c0_2, .slice A0_3 l0_3.length c0_3] 115 (0, 0)) (by (with_reducible repeat (first | refine blk_drewN ?_ _ | refine blk_drew ?_ | refine blk_alloc ?_ _)); exact BK375.out) hb); have n1_ := Aside0.mk (below_step (by repeat (first | (with_reducible first | exact HB.out | apply below_alloc | apply pw_below_drewN | apply below_drew1 | refine below_set ?_ GE375.out) | exact HB.out)) hb); have n2_ := Aside0.mk (hbox); have n3_ := Aside0.mk ((by rw [hg]; exact (below_size (by repeat (first | (with_reducible first | exact HB.out | apply below_alloc | apply pw_below_drewN | apply below_drew1 | refine below_set ?_ GE375.out) | exact HB.out))) : w.heap.size ≤ gb376)); have n4_ := Aside0.mk ((by rw [hg]; exact (below_size (by repeat (first | (with_reducible first | exact HB.out | apply below_alloc | apply pw_below_drewN | apply below_drew1 | refine below_set ?_ GE375.out) | exact HB.out))) : w.heap.size ≤ gb376)); have n5_ := Aside0.mk ((by rw [hg]; exact Nat.ne_of_lt (blk_lt (g := gb375) (o := .cells #[.int .i64 a0_0, .bool a0_1, .slice A0_2 l0_2.length c0_2, .slice A0_3 l0_3.length c0_3] 115 (0, 0)) (by (with_reducible repeat (first | refine blk_drewN ?_ _ | refine blk_drew ?_ | refine blk_alloc ?_ _)); exact BK375.out)) : gb375 ≠ gb376)); have n6_ := Aside0.mk ((by rw [hg]; exact Nat.ne_of_gt (blk_lt (g := gb375) (o := .cells #[.int .i64 a0_0, .bool a0_1, .slice A0_2 l0_2.length c0_2, .slice A0_3 l0_3.length c0_3] 115 (0, 0)) (by (with_reducible repeat (first | refine blk_drewN ?_ _ | refine blk_drew ?_ | refine blk_alloc ?_ _)); exact BK375.out)) : gb376 ≠ gb375)); clear BK375; clear HB; have BK375 := n0_; have HB := n1_; have BK376 := n2_; have GW376 := n3_; have GE376 := n4_; have NB375_376 := n5_; have NB376_375 := n6_; clear n0_ n1_ n2_ n3_ n4_ n5_ n6_; clear hb hbox hg; have hnb16 := NB376_375.out; have hnc16 := NB375_376.out; have hcz17_0 : w15.cell? ⟨gb376, 0, none⟩ = some (.int .i64 a1_0) := (blk_cell BK376.out 0).trans rfl; have hcz17_1 : w15.cell? ⟨gb376, 1, none⟩ = some (.bool false) := (blk_cell BK376.out 1).trans rfl; have hfz17_0 := blk_frozen BK376.out 0; have hfz17_1 := blk_frozen BK376.out 1; have hcz18_0 : w15.cell? ⟨gb375, 0, none⟩ = some (.int .i64 a0_0) := (blk_cell BK375.out 0).trans rfl; have hcz18_1 : w15.cell? ⟨gb375, 1, none⟩ = some (.bool a0_1) := (blk_cell BK375.out 1).trans rfl; have hcz18_2 : w15.cell? ⟨gb375, 2, none⟩ = some (.slice A0_2 l0_2.length c0_2) := (blk_cell BK375.out 2).trans rfl; have hcz18_3 : w15.cell? ⟨gb375, 3, none⟩ = some (.slice A0_3 l0_3.length c0_3) := (blk_cell BK375.out 3).trans rfl; have hfz18_0 := blk_frozen BK375.out 0; have hfz18_1 := blk_frozen BK375.out 1; have hfz18_2 := blk_frozen BK375.out 2; have hfz18_3 := blk_frozen BK375.out 3; have p378 : 0 ≤ (a1_0 : Int) := of_decide_eq_true (by first | (with_reducible assumption) | assumption); have q378 : a1_0 < (l0_2.length : Int) := of_decide_eq_true (by first | (with_reducible assumption) | assumption); obtain ⟨ad378, e378, hx378_0, hx378_1, hx378_2, hx378_3⟩ := at_T74 HR0_2.out a1_0 p378 q378; cases e378; replace hx378_0 := (HB.out.cell (World.block_lt_of_cell? w _ hx378_0)).trans hx378_0; replace hx378_1 := (HB.out.cell (World.block_lt_of_cell? w _ hx378_1)).trans hx378_1; replace hx378_2 := (HB.out.cell (World.block_lt_of_cell? w _ hx378_2)).trans hx378_2; replace hx378_3 := (HB.out.cell (World.block_lt_of_cell? w _ hx378_3)).trans hx378_3; replace p378 := eq_true p378; replace q378 := eq_true q378; have p379 : 0 ≤ (a1_0 : Int) := of_decide_eq_true (by first | (with_reducible assumption) | assumption); have q379 : a1_0 < (l0_3.length : Int) := of_decide_eq_true (by first | (with_reducible assumption) | assumption); obtain ⟨ad379, e379, hx379_0⟩ := Kd.at_int HR0_3.out a1_0 p379 q379; cases e379; replace hx379_0 := (HB.out.cell (World.block_lt_of_cell? w _ hx379_0)).trans hx379_0; replace p379 := eq_true p379; replace q379 := eq_true q379))
 repeat (go_quiet (first | ((with_reducible refine gate_dst (N := 2) rfl ?_); refine box_event ?hg (N := 2) ?hd (cs := #[.int .i64 a0_0, .bool a0_1, .slice A0_2 l0_2.length c0_2, .slice A0_3 l0_3.length c0_3]) (t := 115) ?hr ?_; (case hd => rfl); (case hg => rfl); (case hr => first | (go_simp; done) | (go_simp; rfl)); intro gb375 hg w14 hbox hb; have n0_ := Aside0.mk (below_step (by repeat (first | (with_reducible first | exact HB.out | apply below_alloc | apply pw_below_drewN | apply below_drew1) | exact HB.out)) hb); have n1_ := Aside0.mk (hbox); have n2_ := Aside0.mk ((by rw [hg]; exact (below_size (by repeat (first | (with_reducible first | exact HB.out | apply below_alloc | apply pw_below_drewN | apply below_drew1) | exact HB.out))) : w.heap.size ≤ gb375)); have n3_ := Aside0.mk ((by rw [hg]; exact (below_size (by repeat (first | (with_reducible first | exact HB.out | apply below_alloc | apply pw_below_drewN | apply below_drew1) | exact HB.out))) : w.heap.size ≤ gb375)); clear HB; have HB := n0_; have BK375 := n1_; have GW375 := n2_; have GE375 := n3_; clear n0_ n1_ n2_ n3_; clear hb hbox hg) | ((with_reducible refine gate_dst (N := 3) rfl ?_); refine box_event ?hg (N := 3) ?hd (cs := #[.int .i64 a1_0, .bool false]) (t := 38) ?hr ?_; (case hd => rfl); (case hg => rfl); (case hr => first | (go_simp; done) | (go_simp; rfl)); intro gb376 hg w15 hbox hb; have n0_ := Aside0.mk (blk_below (g := gb375) (o := .cells #[.int .i64 a0_0, .bool a0_1, .slice A0_2 l0_2.length c0_2, .slice A0_3 l0_3.length c0_3] 115 (0, 0)) (by (with_reducible repeat (first | refine blk_drewN ?_ _ | refine blk_drew ?_ | refine blk_alloc ?_ _)); exact BK375.out) hb); have n1_ := Aside0.mk (below_step (by repeat (first | (with_reducible first | exact HB.out | apply below_alloc | apply pw_below_drewN | apply below_drew1 | refine below_set ?_ GE375.out) | exact HB.out)) hb); have n2_ := Aside0.mk (hbox); have n3_ := Aside0.mk ((by rw [hg]; exact (below_size (by repeat (first | (with_reducible first | exact HB.out | apply below_alloc | apply pw_below_drewN | apply below_drew1 | refine below_set ?_ GE375.out) | exact HB.out))) : w.heap.size ≤ gb376)); have n4_ := Aside0.mk ((by rw [hg]; exact (below_size (by repeat (first | (with_reducible first | exact HB.out | apply below_alloc | apply pw_below_drewN | apply below_drew1 | refine below_set ?_ GE375.out) | exact HB.out))) : w.heap.size ≤ gb376)); have n5_ := Aside0.mk ((by rw [hg]; exact Nat.ne_of_lt (blk_lt (g := gb375) (o := .cells #[.int .i64 a0_0, .bool a0_1, .slice A0_2 l0_2.length c0_2, .slice A0_3 l0_3.length c0_3] 115 (0, 0)) (by (with_reducible repeat (first | refine blk_drewN ?_ _ | refine blk_drew ?_ | refine blk_alloc ?_ _)); exact BK375.out)) : gb375 ≠ gb376)); have n6_ := Aside0.mk ((by rw [hg]; exact Nat.ne_of_gt (blk_lt (g := gb375) (o := .cells #[.int .i64 a0_0, .bool a0_1, .slice A0_2 l0_2.length c0_2, .slice A0_3 l0_3.length c0_3] 115 (0, 0)) (by (with_reducible repeat (first | refine blk_drewN ?_ _ | refine blk_drew ?_ | refine blk_alloc ?_ _)); exact BK375.out)) : gb376 ≠ gb375)); clear BK375; clear HB; have BK375 := n0_; have HB := n1_; have BK376 := n2_; have GW376 := n3_; have GE376 := n4_; have NB375_376 := n5_; have NB376_375 := n6_; clear n0_ n1_ n2_ n3_ n4_ n5_ n6_; clear hb hbox hg; have hnb16 := NB376_375.out; have hnc16 := NB375_376.out; have hcz17_0 : w15.cell? ⟨gb376, 0, none⟩ = some (.int .i64 a1_0) := (blk_cell BK376.out 0).trans rfl; have hcz17_1 : w15.cell? ⟨gb376, 1, none⟩ = some (.bool false) := (blk_cell BK376.out 1).trans rfl; have hfz17_0 := blk_frozen BK376.out 0; have hfz17_1 := blk_frozen BK376.out 1; have hcz18_0 : w15.cell? ⟨gb375, 0, none⟩ = some (.int .i64 a0_0) := (blk_cell BK375.out 0).trans rfl; have hcz18_1 : w15.cell? ⟨gb375, 1, none⟩ = some (.bool a0_1) := (blk_cell BK375.out 1).trans rfl; have hcz18_2 : w15.cell? ⟨gb375, 2, none⟩ = some (.slice A0_2 l0_2.length c0_2) := (blk_cell BK375.out 2).trans rfl; have hcz18_3 : w15.cell? ⟨gb375, 3, none⟩ = some (.slice A0_3 l0_3.length c0_3) := (blk_cell BK375.out 3).trans rfl; have hfz18_0 := blk_frozen BK375.out 0; have hfz18_1 := blk_frozen BK375.out 1; have hfz18_2 := blk_frozen BK375.out 2; have hfz18_3 := blk_frozen BK375.out 3; have p378 : 0 ≤ (a1_0 : Int) := of_decide_eq_true (by first | (with_reducible assumption) | assumption); have q378 : a1_0 < (l0_2.length : Int) := of_decide_eq_true (by first | (with_reducible assumption) | assumption); obtain ⟨ad378, e378, hx378_0, hx378_1, hx378_2, hx378_3⟩ := at_T74 HR0_2.out a1_0 p378 q378; cases e378; replace hx378_0 := (HB.out.cell (World.block_lt_of_cell? w _ hx378_0)).trans hx378_0; replace hx378_1 := (HB.out.cell (World.block_lt_of_cell? w _ hx378_1)).trans hx378_1; replace hx378_2 := (HB.out.cell (World.block_lt_of_cell? w _ hx378_2)).trans hx378_2; replace hx378_3 := (HB.out.cell (World.block_lt_of_cell? w _ hx378_3)).trans hx378_3; replace p378 := eq_true p378; replace q378 := eq_true q378; have p379 : 0 ≤ (a1_0 : Int) := of_decide_eq_true (by first | (with_reducible assumption) | assumption); have q379 : a1_0 < (l0_3.length : Int) := of_decide_eq_true (by first | (with_reducible assumption) | assumption); obtain ⟨ad379, e379, hx379_0⟩ := Kd.at_int HR0_3.out a1_0 p379 q379; cases e379; replace hx379_0 := (HB.out.cell (World.block_lt_of_cell? w _ hx379_0)).trans hx379_0; replace p379 := eq_true p379; replace q379 := eq_true q379)); try go_wp2_with (first | ((with_reducible refine gate_dst (N := 2) rfl ?_); refine box_event ?hg (N := 2) ?hd (cs := #[.int .i64 a0_0, .bool a0_1, .slice A0_2 l0_2.length c0_2, .slice A0_3 l0_3.length c0_3]) (t := 115) ?hr ?_; (case hd => rfl); (case hg => rfl); (case hr => first | (go_simp; done) | (go_simp; rfl)); intro gb375 hg w14 hbox hb; have n0_ := Aside0.mk (below_step (by repeat (first | (with_reducible first | exact HB.out | apply below_alloc | apply pw_below_drewN | apply below_drew1) | exact HB.out)) hb); have n1_ := Aside0.mk (hbox); have n2_ := Aside0.mk ((by rw [hg]; exact (below_size (by repeat (first | (with_reducible first | exact HB.out | apply below_alloc | apply pw_below_drewN | apply below_drew1) | exact HB.out))) : w.heap.size ≤ gb375)); have n3_ := Aside0.mk ((by rw [hg]; exact (below_size (by repeat (first | (with_reducible first | exact HB.out | apply below_alloc | apply pw_below_drewN | apply below_drew1) | exact HB.out))) : w.heap.size ≤ gb375)); clear HB; have HB := n0_; have BK375 := n1_; have GW375 := n2_; have GE375 := n3_; clear n0_ n1_ n2_ n3_; clear hb hbox hg) | ((with_reducible refine gate_dst (N := 3) rfl ?_); refine box_event ?hg (N := 3) ?hd (cs := #[.int .i64 a1_0, .bool false]) (t := 38) ?hr ?_; (case hd => rfl); (case hg => rfl); (case hr => first | (go_simp; done) | (go_simp; rfl)); intro gb376 hg w15 hbox hb; have n0_ := Aside0.mk (blk_below (g := gb375) (o := .cells #[.int .i64 a0_0, .bool a0_1, .slice A0_2 l0_2.length c0_2, .slice A0_3 l0_3.length c0_3] 115 (0, 0)) (by (with_reducible repeat (first | refine blk_drewN ?_ _ | refine blk_drew ?_ | refine blk_alloc ?_ _)); exact BK375.out) hb); have n1_ := Aside0.mk (below_step (by repeat (first | (with_reducible first | exact HB.out | apply below_alloc | apply pw_below_drewN | apply below_drew1 | refine below_set ?_ GE375.out) | exact HB.out)) hb); have n2_ := Aside0.mk (hbox); have n3_ := Aside0.mk ((by rw [hg]; exact (below_size (by repeat (first | (with_reducible first | exact HB.out | apply below_alloc | apply pw_below_drewN | apply below_drew1 | refine below_set ?_ GE375.out) | exact HB.out))) : w.heap.size ≤ gb376)); have n4_ := Aside0.mk ((by rw [hg]; exact (below_size (by repeat (first | (with_reducible first | exact HB.out | apply below_alloc | apply pw_below_drewN | apply below_drew1 | refine below_set ?_ GE375.out) | exact HB.out))) : w.heap.size ≤ gb376)); have n5_ := Aside0.mk ((by rw [hg]; exact Nat.ne_of_lt (blk_lt (g := gb375) (o := .cells #[.int .i64 a0_0, .bool a0_1, .slice A0_2 l0_2.length c0_2, .slice A0_3 l0_3.length c0_3] 115 (0, 0)) (by (with_reducible repeat (first | refine blk_drewN ?_ _ | refine blk_drew ?_ | refine blk_alloc ?_ _)); exact BK375.out)) : gb375 ≠ gb376)); have n6_ := Aside0.mk ((by rw [hg]; exact Nat.ne_of_gt (blk_lt (g := gb375) (o := .cells #[.int .i64 a0_0, .bool a0_1, .slice A0_2 l0_2.length c0_2, .slice A0_3 l0_3.length c0_3] 115 (0, 0)) (by (with_reducible repeat (first | refine blk_drewN ?_ _ | refine blk_drew ?_ | refine blk_alloc ?_ _)); exact BK375.out)) : gb376 ≠ gb375)); clear BK375; clear HB; have BK375 := n0_; have HB := n1_; have BK376 := n2_; have GW376 := n3_; have GE376 := n4_; have NB375_376 := n5_; have NB376_375 := n6_; clear n0_ n1_ n2_ n3_ n4_ n5_ n6_; clear hb hbox hg; have hnb16 := NB376_375.out; have hnc16 := NB375_376.out; have hcz17_0 : w15.cell? ⟨gb376, 0, none⟩ = some (.int .i64 a1_0) := (blk_cell BK376.out 0).trans rfl; have hcz17_1 : w15.cell? ⟨gb376, 1, none⟩ = some (.bool false) := (blk_cell BK376.out 1).trans rfl; have hfz17_0 := blk_frozen BK376.out 0; have hfz17_1 := blk_frozen BK376.out 1; have hcz18_0 : w15.cell? ⟨gb375, 0, none⟩ = some (.int .i64 a0_0) := (blk_cell BK375.out 0).trans rfl; have hcz18_1 : w15.cell? ⟨gb375, 1, none⟩ = some (.bool a0_1) := (blk_cell BK375.out 1).trans rfl; have hcz18_2 : w15.cell? ⟨gb375, 2, none⟩ = some (.slice A0_2 l0_2.length c0_2) := (blk_cell BK375.out 2).trans rfl; have hcz18_3 : w15.cell? ⟨gb375, 3, none⟩ = some (.slice A0_3 l0_3.length c0_3) := (blk_cell BK375.out 3).trans rfl; have hfz18_0 := blk_frozen BK375.out 0; have hfz18_1 := blk_frozen BK375.out 1; have hfz18_2 := blk_frozen BK375.out 2; have hfz18_3 := blk_frozen BK375.out 3; have p378 : 0 ≤ (a1_0 : Int) := of_decide_eq_true (by first | (with_reducible assumption) | assumption); have q378 : a1_0 < (l0_2.length : Int) := of_decide_eq_true (by first | (with_reducible assumption) | assumption); obtain ⟨ad378, e378, hx378_0, hx378_1, hx378_2, hx378_3⟩ := at_T74 HR0_2.out a1_0 p378 q378; cases e378; replace hx378_0 := (HB.out.cell (World.block_lt_of_cell? w _ hx378_0)).trans hx378_0; replace hx378_1 := (HB.out.cell (World.block_lt_of_cell? w _ hx378_1)).trans hx378_1; replace hx378_2 := (HB.out.cell (World.block_lt_of_cell? w _ hx378_2)).trans hx378_2; replace hx378_3 := (HB.out.cell (World.block_lt_of_cell? w _ hx378_3)).trans hx378_3; replace p378 := eq_true p378; replace q378 := eq_true q378; have p379 : 0 ≤ (a1_0 : Int) := of_decide_eq_true (by first | (with_reducible assumption) | assumption); have q379 : a1_0 < (l0_3.length : Int) := of_decide_eq_true (by first | (with_reducible assumption) | assumption); obtain ⟨ad379, e379, hx379_0⟩ := Kd.at_int HR0_3.out a1_0 p379 q379; cases e379; replace hx379_0 := (HB.out.cell (World.block_lt_of_cell? w _ hx379_0)).trans hx379_0; replace p379 := eq_true p379; replace q379 := eq_true q379)))
 go_ret
 exact ⟨by first | rfl | (simp [errW_none, errW_some] <;> rfl) | (simp [*, errW_none, errW_some] <;> rfl), by repeat (first | (with_reducible first | exact HB.out | apply below_alloc | apply pw_below_drewN | apply below_drew1 | refine below_set ?_ GE375.out | refine below_set ?_ GE376.out) | exact HB.out)⟩
end Go.Proofs.Ytkcpanpdipmmmaa.P
namespace Go.Proofs.Ytkcpanpdipmmmaa.H
abbrev Ed := Nat × Nat × Int
abbrev Tm := Nat → Option Int
def trig (σ : Tm) (e : Ed) : Bool :=
 match σ e.1 with
 | none => false
 | some x => match σ e.2.1 with
  | none => true
  | some y => decide (x + e.2.2 < y)
def relax (σ : Tm) (e : Ed) : Tm := if trig σ e then (fun v => if v = e.2.1 then some ((σ e.1).getD 0 + e.2.2) else σ v) else σ
def Bet (σ τ : Tm) : Prop := ∀ v y, τ v = some y → ∃ x, σ v = some x ∧ x ≤ y
theorem Bet.refl (σ : Tm) : Bet σ σ := fun _ y h => ⟨y, h, Int.le_refl _⟩
theorem Bet.trans {a b c : Tm} (h1 : Bet a b) (h2 : Bet b c) : Bet a c := fun v y h => by
 obtain ⟨x, hx, hl⟩ := h2 v y h
 obtain ⟨z, hz, hm⟩ := h1 v x hx
 exact ⟨z, hz, Int.le_trans hm hl⟩
theorem relax_off {σ : Tm} {e : Ed} (h : trig σ e = false) : relax σ e = σ := by unfold relax; rw [h]; rfl
theorem trig_some {σ : Tm} {e : Ed} (h : trig σ e = true) : ∃ x, σ e.1 = some x ∧ ∀ y, σ e.2.1 = some y → x + e.2.2 < y := by
 unfold trig at h
 cases h1 : σ e.1 with
 | none => rw [h1] at h; cases h
 | some x =>
  rw [h1] at h
  refine ⟨x, rfl, fun y hy => ?_⟩
  rw [hy] at h
  exact of_decide_eq_true h
theorem trig_off {σ : Tm} {e : Ed} (h : trig σ e = false) {x : Int} (hx : σ e.1 = some x) : ∃ y, σ e.2.1 = some y ∧ y ≤ x + e.2.2 := by
 unfold trig at h
 rw [hx] at h
 cases h2 : σ e.2.1 with
 | none => rw [h2] at h; cases h
 | some y =>
  rw [h2] at h
  have := of_decide_eq_false h
  exact ⟨y, rfl, by omega⟩
theorem relax_on {σ : Tm} {e : Ed} (h : trig σ e = true) {x : Int} (hx : σ e.1 = some x) (v : Nat) : relax σ e v = if v = e.2.1 then some (x + e.2.2) else σ v := by
 unfold relax
 rw [if_pos h, hx]
 rfl
theorem relax_bet (σ : Tm) (e : Ed) : Bet (relax σ e) σ := by
 cases h : trig σ e with
 | false => rw [relax_off h]; exact Bet.refl _
 | true =>
  obtain ⟨x, hx, hl⟩ := trig_some h
  intro v y hy
  rw [relax_on h hx]
  by_cases hv : v = e.2.1
  ·subst hv
   rw [if_pos rfl]
   have := hl y hy
   exact ⟨_, rfl, by omega⟩
  ·rw [if_neg hv]
   exact ⟨y, hy, Int.le_refl _⟩
theorem relax_hits {σ : Tm} {e : Ed} {x : Int} (hx : σ e.1 = some x) : ∃ y, relax σ e e.2.1 = some y ∧ y ≤ x + e.2.2 := by
 cases h : trig σ e with
 | false => rw [relax_off h]; exact trig_off h hx
 | true => rw [relax_on h hx, if_pos rfl]; exact ⟨_, rfl, Int.le_refl _⟩
def pass (E : List Ed) (σ : Tm) : Tm := E.foldl relax σ
theorem pass_bet (E : List Ed) (σ : Tm) : Bet (pass E σ) σ := by
 induction E generalizing σ with
 | nil => exact Bet.refl _
 | cons e E ih => exact (ih (relax σ e)).trans (relax_bet σ e)
theorem pass_hits {E : List Ed} {e : Ed} (he : e ∈ E) {σ : Tm} {x : Int} (hx : σ e.1 = some x) : ∃ y, pass E σ e.2.1 = some y ∧ y ≤ x + e.2.2 := by
 induction E generalizing σ x with
 | nil => cases he
 | cons h E ih =>
  rcases List.mem_cons.1 he with rfl | he
  ·obtain ⟨y, hy, hl⟩ := relax_hits hx
   obtain ⟨z, hz, hm⟩ := pass_bet E (relax σ e) _ y hy
   exact ⟨z, hz, by omega⟩
  ·obtain ⟨x', hx', hl⟩ := relax_bet σ h _ x hx
   obtain ⟨y, hy, hm⟩ := ih he hx'
   exact ⟨y, hy, by omega⟩
def Path (E : List Ed) : Nat → List Ed → Nat → Prop
 | a, [], b => a = b
 | a, e :: l, b => e ∈ E ∧ e.1 = a ∧ Path E e.2.1 l b
def long : List Ed → Int
 | [] => 0
 | e :: l => e.2.2 + long l
theorem Path.app {E : List Ed} {a b c : Nat} {l m : List Ed} (h1 : Path E a l b) (h2 : Path E b m c) : Path E a (l ++ m) c := by
 induction l generalizing a with
 | nil => cases h1; exact h2
 | cons e l ih => exact ⟨h1.1, h1.2.1, ih h1.2.2⟩
theorem long_app (l m : List Ed) : long (l ++ m) = long l + long m := by
 induction l with
 | nil => simp [long]
 | cons e l ih => simp only [List.cons_append, long, ih]; omega
theorem Path.mono {E F : List Ed} (hEF : ∀ e, e ∈ E → e ∈ F) {a b : Nat} {l : List Ed} (h : Path E a l b) : Path F a l b := by
 induction l generalizing a with
 | nil => exact h
 | cons e l ih => exact ⟨hEF _ h.1, h.2.1, ih h.2.2⟩
def Real (E : List Ed) (σ0 : Tm) (v : Nat) (x : Int) : Prop := ∃ u c l, σ0 u = some c ∧ Path E u l v ∧ x = c + long l
theorem real_start {E : List Ed} {σ0 : Tm} {v : Nat} {x : Int} (h : σ0 v = some x) : Real E σ0 v x := ⟨v, x, [], h, rfl, by simp [long]⟩
theorem real_relax {E : List Ed} {σ0 σ : Tm} {e : Ed} (he : e ∈ E) (h : ∀ v x, σ v = some x → Real E σ0 v x) : ∀ v x, relax σ e v = some x → Real E σ0 v x := by
 cases ht : trig σ e with
 | false => rw [relax_off ht]; exact h
 | true =>
  obtain ⟨y, hy, _⟩ := trig_some ht
  intro v x hx
  rw [relax_on ht hy] at hx
  by_cases hv : v = e.2.1
  ·rw [if_pos hv] at hx
   injection hx with hx
   obtain ⟨u, c, l, h0, hp, hl⟩ := h _ _ hy
   refine ⟨u, c, l ++ [e], h0, hp.app ⟨he, rfl, hv.symm⟩, ?_⟩
   rw [long_app, ← hx, hl]
   simp only [long]
   omega
  ·rw [if_neg hv] at hx
   exact h v x hx
theorem real_pass {E : List Ed} {σ0 : Tm} (F : List Ed) (hF : ∀ e, e ∈ F → e ∈ E) {σ : Tm} (h : ∀ v x, σ v = some x → Real E σ0 v x) : ∀ v x, pass F σ v = some x → Real E σ0 v x := by
 induction F generalizing σ with
 | nil => exact h
 | cons e F ih => exact ih (fun e he => hF e (List.mem_cons_of_mem _ he)) (real_relax (hF e List.mem_cons_self) h)
def its (E : List Ed) : Nat → Tm → Tm
 | 0, σ => σ
 | k + 1, σ => its E k (pass E σ)
theorem its_succ (E : List Ed) (k : Nat) (σ : Tm) : its E (k + 1) σ = pass E (its E k σ) := by
 induction k generalizing σ with
 | zero => rfl
 | succ k ih => show its E (k + 1) (pass E σ) = _; rw [ih]; rfl
theorem its_bet (E : List Ed) (k m : Nat) (σ : Tm) : Bet (its E (k + m) σ) (its E k σ) := by
 induction m with
 | zero => exact Bet.refl _
 | succ m ih => rw [← Nat.add_assoc, its_succ]; exact (pass_bet E _).trans ih
theorem its_real (E : List Ed) (k : Nat) (σ : Tm) : ∀ v x, its E k σ v = some x → Real E σ v x := by
 induction k with
 | zero => exact fun v x h => real_start h
 | succ k ih => rw [its_succ]; exact real_pass E (fun _ h => h) ih
theorem its_path {E : List Ed} {u v : Nat} {l : List Ed} (h : Path E u l v) {σ : Tm} {c : Int} (hc : σ u = some c) : ∃ y, its E l.length σ v = some y ∧ y ≤ c + long l := by
 induction l generalizing u σ c with
 | nil => cases h; exact ⟨c, hc, by simp [long]⟩
 | cons e l ih =>
  obtain ⟨he, hu, hp⟩ := h
  subst hu
  obtain ⟨y, hy, hl⟩ := pass_hits he hc
  obtain ⟨z, hz, hm⟩ := ih hp hy
  refine ⟨z, hz, ?_⟩
  simp only [long]
  omega
def Tight (E : List Ed) (r : Nat → Prop) (p : Nat → Int) : Prop := ∀ e, e ∈ E → r e.1 → r e.2.1 ∧ p e.2.1 ≤ p e.1 + e.2.2
theorem Tight.path {E : List Ed} {r : Nat → Prop} {p : Nat → Int} (ht : Tight E r p) {a b : Nat} {l : List Ed} (h : Path E a l b) (ha : r a) : r b ∧ p b ≤ p a + long l := by
 induction l generalizing a with
 | nil => cases h; exact ⟨ha, by simp [long]⟩
 | cons e l ih =>
  obtain ⟨he, hu, hp⟩ := h
  subst hu
  obtain ⟨h1, h2⟩ := ht e he ha
  obtain ⟨h3, h4⟩ := ih hp h1
  refine ⟨h3, ?_⟩
  simp only [long]
  omega
structure NoGain (E : List Ed) (r : Nat → Prop) : Prop where
 on : ∀ e, e ∈ E → r e.1 → r e.2.1
 cyc : ∀ (a : Nat) (l : List Ed), r a → Path E a l a → 0 ≤ long l
theorem Tight.noGain {E : List Ed} {r : Nat → Prop} {p : Nat → Int} (ht : Tight E r p) : NoGain E r :=
 ⟨fun e he hr => (ht e he hr).1, fun a l ha hp => by have := (ht.path hp ha).2; omega⟩
theorem NoGain.mono {E F : List Ed} {r : Nat → Prop} (h : NoGain E r) (hEF : ∀ e, e ∈ F → e ∈ E) : NoGain F r :=
 ⟨fun e he hr => h.on e (hEF e he) hr, fun a l ha hp => h.cyc a l ha (hp.mono hEF)⟩
def visits (a : Nat) (l : List Ed) : List Nat := a :: l.map (fun e => e.2.1)
theorem path_split {E : List Ed} {a b x : Nat} {l : List Ed} (h : Path E a l b) (hx : x ∈ visits a l) : ∃ l1 l2, l = l1 ++ l2 ∧ Path E a l1 x ∧ Path E x l2 b := by
 induction l generalizing a with
 | nil =>
  rcases List.mem_cons.1 hx with rfl | hx
  ·exact ⟨[], [], rfl, rfl, h⟩
  ·cases hx
 | cons e l ih =>
  rcases List.mem_cons.1 hx with rfl | hx
  ·exact ⟨[], e :: l, rfl, rfl, h⟩
  ·obtain ⟨he, hu, hp⟩ := h
   have hx' : x ∈ visits e.2.1 l := by simpa [visits] using hx
   obtain ⟨l1, l2, e1, h1, h2⟩ := ih hp hx'
   exact ⟨e :: l1, l2, by rw [e1]; rfl, ⟨he, hu, h1⟩, h2⟩
theorem cut_or {E : List Ed} {r : Nat → Prop} (ht : NoGain E r) {a b : Nat} {l : List Ed} (h : Path E a l b) (ha : r a) :
  (∃ l', l'.length < l.length ∧ Path E a l' b ∧ long l' ≤ long l) ∨ (visits a l).Nodup := by
 induction l generalizing a with
 | nil => right; simp [visits]
 | cons e l ih =>
  obtain ⟨he, hu, hp⟩ := h
  have hr := ht.on e he (hu ▸ ha)
  by_cases hm : a ∈ visits e.2.1 l
  ·left
   obtain ⟨l1, l2, e1, h1, h2⟩ := path_split hp hm
   refine ⟨l2, by rw [e1]; simp; omega, h2, ?_⟩
   have hc := ht.cyc a (e :: l1) ha ⟨he, hu, h1⟩
   rw [e1]
   simp only [long, long_app] at hc ⊢
   omega
  ·rcases ih hp hr with ⟨l', h1, h2, h3⟩ | hn
   ·left
    refine ⟨e :: l', by simp; omega, ⟨he, hu, h2⟩, ?_⟩
    simp only [long]
    omega
   ·right
    show (a :: visits e.2.1 l).Nodup
    exact List.nodup_cons.2 ⟨hm, hn⟩
theorem pigeon (n : Nat) : ∀ L : List Nat, L.Nodup → (∀ x, x ∈ L → x < n) → L.length ≤ n := by
 induction n with
 | zero =>
  intro L _ h
  cases L with
  | nil => simp
  | cons x L => exact absurd (h x List.mem_cons_self) (Nat.not_lt_zero _)
 | succ n ih =>
  intro L hn h
  by_cases hm : n ∈ L
  ·have h1 := ih (L.erase n) (hn.erase n) (fun x hx => by
    have h2 := (hn.mem_erase_iff).1 hx
    have := h x h2.2
    have := h2.1
    omega)
   rw [List.length_erase_of_mem hm] at h1
   omega
  ·have := ih L hn (fun x hx => by
    have h1 := h x hx
    have : x ≠ n := fun e => hm (e ▸ hx)
    omega)
   omega
theorem path_nodes {E : List Ed} {n : Nat} (hE : ∀ e, e ∈ E → e.1 < n ∧ e.2.1 < n) {a b : Nat} {l : List Ed} (h : Path E a l b) (ha : a < n) : ∀ x, x ∈ visits a l → x < n := by
 induction l generalizing a with
 | nil => intro x hx; rcases List.mem_cons.1 hx with rfl | hx; exact ha; cases hx
 | cons e l ih =>
  intro x hx
  obtain ⟨he, hu, hp⟩ := h
  rcases List.mem_cons.1 hx with rfl | hx
  ·exact ha
  ·exact ih hp (hE e he).2 x (by simpa [visits] using hx)
theorem short {E : List Ed} {n : Nat} (hE : ∀ e, e ∈ E → e.1 < n ∧ e.2.1 < n) {r : Nat → Prop} (ht : NoGain E r) {a b : Nat} (ha : r a) (han : a < n) :
  ∀ (m : Nat) (l : List Ed), l.length ≤ m → Path E a l b → ∃ l', l'.length < n ∧ Path E a l' b ∧ long l' ≤ long l := by
 intro m
 induction m with
 | zero =>
  intro l hl h
  exact ⟨l, by omega, h, Int.le_refl _⟩
 | succ m ih =>
  intro l hl h
  rcases cut_or ht h ha with ⟨l', h1, h2, h3⟩ | hn
  ·obtain ⟨l2, h4, h5, h6⟩ := ih l' (by omega) h2
   exact ⟨l2, h4, h5, Int.le_trans h6 h3⟩
  ·refine ⟨l, ?_, h, Int.le_refl _⟩
   have := pigeon n _ hn (path_nodes hE h han)
   simp [visits] at this
   omega
theorem settles {E : List Ed} {n : Nat} (hE : ∀ e, e ∈ E → e.1 < n ∧ e.2.1 < n) {r : Nat → Prop} (ht : NoGain E r) {σ : Tm} (h0 : ∀ v x, σ v = some x → v < n ∧ r v) (k : Nat) (hk : n ≤ k + 1) :
  pass E (its E k σ) = its E k σ := by
 funext v
 have hb := pass_bet E (its E k σ)
 cases h1 : pass E (its E k σ) v with
 | none =>
  cases h2 : its E k σ v with
  | none => rfl
  | some y => obtain ⟨x, hx, _⟩ := hb v y h2; rw [h1] at hx; cases hx
 | some x =>
  have h1' : its E (k + 1) σ v = some x := by rw [its_succ]; exact h1
  obtain ⟨u, c, l, hc, hp, hx⟩ := its_real E (k + 1) σ v x h1'
  obtain ⟨l', h2, h3, h4⟩ := short hE ht (h0 u c hc).2 (h0 u c hc).1 l.length l (Nat.le_refl _) hp
  obtain ⟨y, hy, hl⟩ := its_path h3 hc
  obtain ⟨z, hz, hm⟩ := its_bet E l'.length (k - l'.length) σ v y hy
  rw [show l'.length + (k - l'.length) = k by omega] at hz
  obtain ⟨x', hx', hl'⟩ := hb v z hz
  rw [h1] at hx'
  injection hx' with hx'
  rw [hz]
  congr 1
  omega
def passT (E : List Ed) (σ : Tm) (b : Bool) : Tm × Bool := E.foldl (fun s e => (relax s.1 e, s.2 || trig s.1 e)) (σ, b)
theorem passT_fst (E : List Ed) (σ : Tm) (b : Bool) : (passT E σ b).1 = pass E σ := by
 induction E generalizing σ b with
 | nil => rfl
 | cons e E ih => exact ih (relax σ e) (b || trig σ e)
theorem passT_true (E : List Ed) (σ : Tm) : (passT E σ true).2 = true := by
 induction E generalizing σ with
 | nil => rfl
 | cons e E ih => show (passT E (relax σ e) (true || trig σ e)).2 = true; rw [Bool.true_or]; exact ih _
theorem passT_false {E : List Ed} {σ : Tm} (h : (passT E σ false).2 = false) : ∀ e, e ∈ E → trig σ e = false := by
 induction E with
 | nil => intro e he; cases he
 | cons e E ih =>
  have h' : (passT E (relax σ e) (false || trig σ e)).2 = false := h
  rw [Bool.false_or] at h'
  cases ht : trig σ e with
  | true => rw [ht, passT_true] at h'; cases h'
  | false =>
   rw [ht, relax_off ht] at h'
   intro x hx
   rcases List.mem_cons.1 hx with rfl | hx
   ·exact ht
   ·exact ih h' x hx
theorem passT_still {E : List Ed} {σ : Tm} (h : ∀ e, e ∈ E → trig σ e = false) : passT E σ false = (σ, false) := by
 induction E with
 | nil => rfl
 | cons e E ih =>
  have h1 := h e List.mem_cons_self
  show passT E (relax σ e) (false || trig σ e) = _
  rw [h1, relax_off h1]
  exact ih (fun e he => h e (List.mem_cons_of_mem _ he))
theorem pass_fix {E : List Ed} {σ : Tm} (h : pass E σ = σ) : ∀ e, e ∈ E → trig σ e = false := by
 intro e he
 cases ht : trig σ e with
 | false => rfl
 | true =>
  obtain ⟨x, hx, hl⟩ := trig_some ht
  obtain ⟨y, hy, hm⟩ := pass_hits he hx
  rw [h] at hy
  have := hl y hy
  omega
theorem still_bound {E : List Ed} {σ : Tm} (h : ∀ e, e ∈ E → trig σ e = false) {a b : Nat} {l : List Ed} (hp : Path E a l b) {x : Int} (hx : σ a = some x) : ∃ y, σ b = some y ∧ y ≤ x + long l := by
 induction l generalizing a x with
 | nil => cases hp; exact ⟨x, hx, by simp [long]⟩
 | cons e l ih =>
  obtain ⟨he, hu, hp⟩ := hp
  subst hu
  obtain ⟨y, hy, hl⟩ := trig_off (h e he) hx
  obtain ⟨z, hz, hm⟩ := ih hp hy
  refine ⟨z, hz, ?_⟩
  simp only [long]
  omega
theorem still_tight {E : List Ed} {σ : Tm} (h : ∀ e, e ∈ E → trig σ e = false) : Tight E (fun v => ∃ x, σ v = some x) (fun v => (σ v).getD 0) := by
 rintro e he ⟨x, hx⟩
 obtain ⟨y, hy, hl⟩ := trig_off (h e he) hx
 refine ⟨⟨y, hy⟩, ?_⟩
 show (σ e.2.1).getD 0 ≤ (σ e.1).getD 0 + e.2.2
 rw [hx, hy]
 exact hl
theorem still_uniq {E F : List Ed} (hEF : ∀ e, e ∈ E ↔ e ∈ F) {σ0 σ τ : Tm} (h1 : ∀ e, e ∈ E → trig σ e = false) (h2 : ∀ e, e ∈ F → trig τ e = false) (hr1 : ∀ v x, σ v = some x → Real E σ0 v x) (hr2 : ∀ v x, τ v = some x → Real F σ0 v x)
  (hb1 : Bet σ σ0) (hb2 : Bet τ σ0) : σ = τ := by
 have half : ∀ {E F : List Ed} (hEF : ∀ e, e ∈ E → e ∈ F) {σ τ : Tm} (h2 : ∀ e, e ∈ F → trig τ e = false) (hr1 : ∀ v x, σ v = some x → Real E σ0 v x) (hb2 : Bet τ σ0), Bet τ σ := by
  intro E F hEF σ τ h2 hr1 hb2 v x hx
  obtain ⟨u, c, l, hc, hp, hl⟩ := hr1 v x hx
  obtain ⟨c', hc', hcl⟩ := hb2 u c hc
  obtain ⟨y, hy, hm⟩ := still_bound h2 (hp.mono hEF) hc'
  exact ⟨y, hy, by omega⟩
 have b1 := half (fun e he => (hEF e).1 he) h2 hr1 hb2
 have b2 := half (fun e he => (hEF e).2 he) h1 hr2 hb1
 funext v
 cases hs : σ v with
 | none =>
  cases hτ : τ v with
  | none => rfl
  | some y => obtain ⟨x, hx, _⟩ := b2 v y hτ; rw [hs] at hx; cases hx
 | some x =>
  obtain ⟨y, hy, hl⟩ := b1 v x hs
  obtain ⟨z, hz, hm⟩ := b2 v y hy
  rw [hs] at hz
  injection hz with hz
  rw [hy]
  congr 1
  omega
theorem still_start {E : List Ed} {σ0 σ : Tm} (h : ∀ e, e ∈ E → trig σ e = false) (hr : ∀ v x, σ v = some x → Real E σ0 v x) (hb : Bet σ σ0) {s : Nat} {c : Int} (hs : σ0 s = some c) (ho : ∀ u x, σ0 u = some x → u = s) : σ s = some c := by
 obtain ⟨x, hx, hl⟩ := hb s c hs
 obtain ⟨u, c', l, hc', hp, he⟩ := hr s x hx
 have hus := ho u c' hc'
 subst hus
 rw [hs] at hc'
 injection hc' with hc'
 obtain ⟨y, hy, hm⟩ := still_bound h hp hx
 rw [hx] at hy
 injection hy with hy
 rw [hx]
 congr 1
 omega
end Go.Proofs.Ytkcpanpdipmmmaa.H
namespace Go.Proofs.Ytkcpanpdipmmmaa.H
open Go.RowKit Go.Proofs.YtkcpanpdipmmmaaW.PrintWords Go.Proofs.YtkcpanpdipmmmaaW.PrintLast Go.Proofs.YtkcpanpdipmmmaaW.PrintMore Go.Proofs.Ytkcpanpdipmmmaa.P
def Arr (w : World) (g N : Nat) (M : Nat → S38) : Prop :=
 ∃ cells : Array Value, w.heap[g]? = some (.cells cells 38 (0, 0)) ∧ ∀ x, x < N → cells[x * 2]? = some (.int .i64 (M x).f0) ∧ cells[x * 2 + 1]? = some (.bool (M x).f1)
theorem Arr.cell0 {w : World} {g N : Nat} {M : Nat → S38} (h : Arr w g N M) {x : Nat} (hx : x < N) : w.cell? ⟨g, x * 2, none⟩ = some (.int .i64 (M x).f0) := by
 obtain ⟨cells, hb, hc⟩ := h
 simp [World.cell?, hb, (hc x hx).1]
theorem Arr.cell1 {w : World} {g N : Nat} {M : Nat → S38} (h : Arr w g N M) {x : Nat} (hx : x < N) : w.cell? ⟨g, x * 2 + 1, none⟩ = some (.bool (M x).f1) := by
 obtain ⟨cells, hb, hc⟩ := h
 simp [World.cell?, hb, (hc x hx).2]
theorem Arr.free {w : World} {g N : Nat} {M : Nat → S38} (h : Arr w g N M) (j : Nat) : w.frozen? ⟨g, j, none⟩ = false := by
 obtain ⟨cells, hb, _⟩ := h
 simp [World.frozen?, hb]
theorem Arr.lt {w : World} {g N : Nat} {M : Nat → S38} (h : Arr w g N M) : g < w.heap.size := by
 obtain ⟨cells, hb, _⟩ := h
 exact (Array.getElem?_eq_some_iff.1 hb).1
theorem Arr.congr {w : World} {g N : Nat} {M M' : Nat → S38} (h : Arr w g N M) (e : ∀ x, x < N → M' x = M x) : Arr w g N M' := by
 obtain ⟨cells, hb, hc⟩ := h
 exact ⟨cells, hb, fun x hx => by rw [e x hx]; exact hc x hx⟩
theorem Arr.same {w w' : World} {g N : Nat} {M : Nat → S38} (h : Arr w g N M) (e : w'.heap[g]? = w.heap[g]?) : Arr w' g N M := by
 obtain ⟨cells, hb, hc⟩ := h
 exact ⟨cells, e.trans hb, hc⟩
theorem Arr.below {w w' : World} {g N : Nat} {M : Nat → S38} (h : Arr w g N M) (hb : Below w.heap.size w w') : Arr w' g N M := h.same (hb.block g h.lt)
def upd (M : Nat → S38) (x : Nat) (s : S38) (y : Nat) : S38 := if y = x then s else M y
theorem Arr.put {w : World} {g N : Nat} {M : Nat → S38} (h : Arr w g N M) {x : Nat} (hx : x < N) (s : S38) : Arr ((w.setCell ⟨g, x * 2, none⟩ (.int .i64 s.f0)).setCell ⟨g, x * 2 + 1, none⟩ (.bool s.f1)) g N (upd M x s) := by
 obtain ⟨cells, hb, hc⟩ := h
 refine ⟨_, blk_set (blk_set hb _ _) _ _, fun y hy => ?_⟩
 have hs0 := (Array.getElem?_eq_some_iff.1 (hc x hx).1).1
 have hs1 := (Array.getElem?_eq_some_iff.1 (hc x hx).2).1
 simp only [Array.getElem?_setIfInBounds, Array.size_setIfInBounds]
 unfold upd
 by_cases e : y = x
 ·subst e
  constructor
  ·rw [if_neg (by omega), if_pos rfl, if_pos hs0, if_pos rfl]
  ·rw [if_pos rfl, if_pos hs1, if_pos rfl]
 ·rw [if_neg e]
  constructor
  ·rw [if_neg (by omega), if_neg (by omega)]; exact (hc y hy).1
  ·rw [if_neg (by omega), if_neg (by omega)]; exact (hc y hy).2
theorem Arr.drew {w : World} {g N : Nat} {M : Nat → S38} (h : Arr w g N M) : Arr w.drew g N M := h.same rfl
def Fr (w w' : World) (g : Nat) : Prop := w.grownBy w' (some g) ∧ ∀ cells t ro, w.heap[g]? = some (.cells cells t ro) → ∃ cells', w'.heap[g]? = some (.cells cells' t ro) ∧ cells'.size = cells.size
theorem grow_set {w w' : World} {g : Nat} (h : Fr w w' g) (j : Nat) (u : Value) : Fr w (w'.setCell ⟨g, j, none⟩ u) g :=
 ⟨⟨h.1.os, h.1.tape, h.1.output, by simpa [World.setCell] using h.1.size, fun k hk hne => (Below.heap_setCell w' ⟨g, j, none⟩ u k (fun e => hne (by rw [e]))).trans (h.1.block k hk hne)⟩,
  fun cells t ro hb => by
  obtain ⟨c', h1, h2⟩ := h.2 cells t ro hb
  refine ⟨c'.setIfInBounds j u, ?_, by simpa using h2⟩
  simp [World.setCell, Array.getElem?_modify, h1]⟩
theorem grow_drew {w w' : World} {g : Nat} (h : Fr w w' g) : Fr w w'.drew g := ⟨⟨h.1.os, h.1.tape, h.1.output, h.1.size, h.1.block⟩, h.2⟩
theorem grow_refl (w : World) (g : Nat) : Fr w w g := ⟨⟨rfl, rfl, rfl, Nat.le_refl _, fun _ _ _ => rfl⟩, fun cells t ro hb => ⟨cells, hb, rfl⟩⟩
theorem grow_trans {w w' w'' : World} {g : Nat} (h : Fr w w' g) (k : Fr w' w'' g) : Fr w w'' g :=
 ⟨⟨k.1.os.trans h.1.os, k.1.tape.trans h.1.tape, k.1.output.trans h.1.output, Nat.le_trans h.1.size k.1.size, fun i hi hne => (k.1.block i (Nat.lt_of_lt_of_le hi h.1.size) hne).trans (h.1.block i hi hne)⟩,
  fun cells t ro hb => by
  obtain ⟨c', h1, h2⟩ := h.2 cells t ro hb
  obtain ⟨c2, h3, h4⟩ := k.2 c' t ro h1
  exact ⟨c2, h3, h4.trans h2⟩⟩
theorem grow_below {w w' : World} {g : Nat} (h : Below w.heap.size w w') : Fr w w' g :=
 ⟨grown_of_below h _, fun cells t ro hb => ⟨cells, (h.block g (Array.getElem?_eq_some_iff.1 hb).1).trans hb, rfl⟩⟩
def swapM (M : Nat → S38) (a b n : Nat) (x : Nat) : S38 := if a ≤ x ∧ x < a + n then M (x - a + b) else if b ≤ x ∧ x < b + n then M (x - b + a) else M x
set_option maxHeartbeats 2000000 in
set_option maxRecDepth 100000 in
theorem swapRange_calls (g N cap : Nat) (M : Nat → S38) (a b n : Nat) (f : Value) (w : World) (h : Arr w g N M) (hN : N ≤ 1000000) (ha : a + n ≤ b) (hb : b + n ≤ N) :
  Calls Try.prog 178 #[.slice (some ⟨g, 0, none⟩) N cap, .int .i64 (a : Int), .int .i64 (b : Int), .int .i64 (n : Int), f] w fun e w' => e = .returned (.tuple #[]) ∧ Arr w' g N (swapM M a b n) ∧ Fr w w' g := by
 have HA := Aside0.mk h
 clear h
 go_enter Try.func178, Try.ntmps178
 go_wp2
 go_loopw [10] (fun i wr => ∃ k : Nat, k ≤ n ∧ i = .int .i64 k ∧ Aside0 (Arr wr g N (swapM M a b k)) ∧ Aside0 (Fr w wr g)) (fun i _ => n - (intOf i).toNat)
 case atStart => exact ⟨0, Nat.zero_le _, rfl, ⟨HA.out.congr fun x _ => by unfold swapM; rw [if_neg (by omega), if_neg (by omega)]⟩, ⟨grow_refl _ _⟩⟩
 case round =>
  obtain ⟨k, hk, rfl, HA1, HG⟩ := hrel
  by_cases hlt : k < n
  ·have c0 := HA1.out.cell0 (x := b + k) (by omega)
   have c1 := HA1.out.cell1 (x := b + k) (by omega)
   have d0 := HA1.out.cell0 (x := a + k) (by omega)
   have d1 := HA1.out.cell1 (x := a + k) (by omega)
   have f0 := HA1.out.free
   obtain ⟨s1, hs1⟩ : ∃ s, swapM M a b k (b + k) = s := ⟨_, rfl⟩
   obtain ⟨s2, hs2⟩ : ∃ s, swapM M a b k (a + k) = s := ⟨_, rfl⟩
   rw [hs1] at c0 c1
   rw [hs2] at d0 d1
   have HE : Aside0 (∀ x, upd (upd (swapM M a b k) (a + k) s1) (b + k) s2 x = swapM M a b (k + 1) x) := ⟨fun x => by
    rw [← hs1, ← hs2]
    unfold upd swapM
    by_cases e1 : x = b + k
    ·subst e1
     rw [if_pos rfl, if_neg (by omega), if_neg (by omega), if_neg (by omega), if_pos (by omega)]
     congr 1; omega
    ·rw [if_neg e1]
     by_cases e2 : x = a + k
     ·subst e2
      rw [if_pos rfl, if_neg (by omega), if_neg (by omega), if_pos (by omega)]
      congr 1; omega
     ·rw [if_neg e2]
      by_cases e3 : a ≤ x ∧ x < a + k
      ·rw [if_pos e3, if_pos (by omega)]
      ·rw [if_neg e3, if_neg (show ¬ (a ≤ x ∧ x < a + (k + 1)) by omega)]
       by_cases e4 : b ≤ x ∧ x < b + k
       ·rw [if_pos e4, if_pos (by omega)]
       ·rw [if_neg e4, if_neg (by omega)]⟩
   clear hs1 hs2
   go_wp2
   go_region
   have HA2 : Aside0 (Arr (((((wr.setCell ⟨g, (a + k) * 2, none⟩ (.int .i64 s1.f0)).setCell ⟨g, (a + k) * 2 + 1, none⟩ (.bool s1.f1)).setCell ⟨g, (b + k) * 2, none⟩ (.int .i64 s2.f0)).setCell ⟨g, (b + k) * 2 + 1, none⟩ (.bool s2.f1)).drew) g N (swapM M a b (k + 1))) :=
    ⟨(((HA1.out.put (by omega) s1).put (by omega) s2).drew).congr fun x _ => (HE.out x).symm⟩
   have HG2 := Aside0.mk (grow_drew (grow_set (grow_set (grow_set (grow_set HG.out ((a + k) * 2) (.int .i64 s1.f0)) ((a + k) * 2 + 1) (.bool s1.f1)) ((b + k) * 2) (.int .i64 s2.f0)) ((b + k) * 2 + 1) (.bool s2.f1)))
   clear c0 c1 d0 d1 f0 HA1 HG HE
   go_wp2
   go_roundw
   case rel => exact ⟨k + 1, by omega, by go_num, HA2, HG2⟩
   case measure => simp [intOf]; omega
  ·have e : k = n := by omega
   subst e
   go_wp2
   go_end0
   exact ⟨rfl, HA1.out, HG.out⟩
def rotM (M : Nat → S38) (a m b : Nat) (x : Nat) : S38 := if a ≤ x ∧ x < b then (if x < a + (b - m) then M (x + (m - a)) else M (x - (b - m))) else M x
def RotAt (M K : Nat → S38) (a m b i j : Nat) : Prop :=
 (∀ x, ¬ (m - i ≤ x ∧ x < m + j) → K x = rotM M a m b x) ∧ (∀ x, m - i ≤ x → x < m - i + j → rotM M a m b x = K (x + i)) ∧ (∀ x, m - i + j ≤ x → x < m + j → rotM M a m b x = K (x - j))
theorem rot_start (M : Nat → S38) {a m b : Nat} (h1 : a ≤ m) (h2 : m ≤ b) : RotAt M M a m b (m - a) (b - m) := by
 refine ⟨fun x hx => ?_, fun x h3 h4 => ?_, fun x h3 h4 => ?_⟩
 ·unfold rotM; rw [if_neg (by omega)]
 ·unfold rotM; rw [if_pos (by omega), if_pos (by omega)]
 ·unfold rotM; rw [if_pos (by omega), if_neg (by omega)]
theorem rot_left {M K : Nat → S38} {a m b i j : Nat} (h : RotAt M K a m b i j) (hj : 0 < j) (hij : j < i) (him : i ≤ m) : RotAt M (swapM K (m - i) m j) a m b (i - j) j := by
 obtain ⟨h1, h2, h3⟩ := h
 refine ⟨fun x hx => ?_, fun x h4 h5 => ?_, fun x h4 h5 => ?_⟩
 ·unfold swapM
  by_cases e : m - i ≤ x ∧ x < m - i + j
  ·rw [if_pos e, h2 x e.1 e.2]
   congr 1; omega
  ·rw [if_neg e, if_neg (by omega)]
   exact h1 x (by omega)
 ·rw [h3 x (by omega) (by omega)]
  unfold swapM
  rw [if_neg (by omega), if_pos (by omega)]
  congr 1; omega
 ·rw [h3 x (by omega) (by omega)]
  unfold swapM
  rw [if_neg (by omega), if_neg (by omega)]
theorem rot_right {M K : Nat → S38} {a m b i j : Nat} (h : RotAt M K a m b i j) (hi : 0 < i) (hij : i < j) (him : i ≤ m) : RotAt M (swapM K (m - i) (m + j - i) i) a m b i (j - i) := by
 obtain ⟨h1, h2, h3⟩ := h
 refine ⟨fun x hx => ?_, fun x h4 h5 => ?_, fun x h4 h5 => ?_⟩
 ·unfold swapM
  rw [if_neg (by omega)]
  by_cases e : m + j - i ≤ x ∧ x < m + j - i + i
  ·rw [if_pos e, h3 x (by omega) (by omega)]
   congr 1; omega
  ·rw [if_neg e]
   exact h1 x (by omega)
 ·rw [h2 x (by omega) (by omega)]
  unfold swapM
  rw [if_neg (by omega), if_neg (by omega)]
 ·rw [h2 x (by omega) (by omega)]
  unfold swapM
  rw [if_pos (by omega)]
  congr 1; omega
theorem rot_last {M K : Nat → S38} {a m b i : Nat} (h : RotAt M K a m b i i) (him : i ≤ m) (x : Nat) : swapM K (m - i) m i x = rotM M a m b x := by
 obtain ⟨h1, h2, h3⟩ := h
 unfold swapM
 by_cases e : m - i ≤ x ∧ x < m - i + i
 ·rw [if_pos e, h2 x e.1 e.2]
  congr 1; omega
 ·rw [if_neg e]
  by_cases e2 : m ≤ x ∧ x < m + i
  ·rw [if_pos e2, h3 x (by omega) (by omega)]
   congr 1; omega
  ·rw [if_neg e2]
   exact h1 x (by omega)
set_option maxHeartbeats 2000000 in
set_option maxRecDepth 100000 in
theorem rotate_calls (g N cap : Nat) (M : Nat → S38) (a m b : Nat) (f : Value) (w : World) (h : Arr w g N M) (hN : N ≤ 1000000) (ham : a < m) (hmb : m < b) (hb : b ≤ N) :
  Calls Try.prog 175 #[.slice (some ⟨g, 0, none⟩) N cap, .int .i64 (a : Int), .int .i64 (m : Int), .int .i64 (b : Int), f] w fun e w' => e = .returned (.tuple #[]) ∧ Arr w' g N (rotM M a m b) ∧ Fr w w' g := by
 have HA := Aside0.mk h
 clear h
 go_enter Try.func175, Try.ntmps175
 go_wp2
 go_loopw [10, 11] (fun vi vj wr => ∃ i j : Nat, 0 < i ∧ 0 < j ∧ i ≤ m - a ∧ j ≤ b - m ∧ vi = .int .i64 i ∧ vj = .int .i64 j ∧ (∃ K, Aside0 (RotAt M K a m b i j) ∧ Aside0 (Arr wr g N K)) ∧ Aside0 (Fr w wr g)) (fun vi vj _ => (intOf vi).toNat + (intOf vj).toNat)
 case atStart => exact ⟨m - a, b - m, by omega, by omega, Nat.le_refl _, Nat.le_refl _, by rw [Int.natCast_sub (by omega)], by rw [Int.natCast_sub (by omega)], ⟨M, ⟨rot_start M (by omega) (by omega)⟩, HA⟩, ⟨grow_refl _ _⟩⟩
 case round =>
  obtain ⟨i, j, hi, hj, him, hjb, rfl, rfl, ⟨K, HK, HA1⟩, HG⟩ := hrel
  have e0 : (m : Int) - (i : Int) = ((m - i : Nat) : Int) := by omega
  have E0 := Aside0.mk e0
  by_cases hij : i = j
  ·subst hij
   have hne : ((i : Int) != (i : Int)) = false := by simp
   clear e0
   go_wp2_with fail
   rw [E0.out]
   refine (swapRange_calls g N cap K (m - i) m i f _ HA1.out hN (by omega) (by omega)).mono ?_
   rintro e w1 ⟨rfl, ha1, hg1⟩
   have HA2 := Aside0.mk ha1
   have HG2 := Aside0.mk (grow_trans HG.out hg1)
   clear ha1 hg1
   go_wp2_with fail
   go_end0
   exact ⟨rfl, HA2.out.congr fun x _ => (rot_last HK.out (by omega) x).symm, HG2.out⟩
  ·have hne : ((i : Int) != (j : Int)) = true := by rw [bne_iff_ne]; omega
   by_cases hlt : j < i
   ·have e1 : (i : Int) - (j : Int) = ((i - j : Nat) : Int) := by omega
    have E1 := Aside0.mk e1
    clear e0 e1
    go_wp2_with fail
    rw [E0.out]
    refine (swapRange_calls g N cap K (m - i) m j f _ HA1.out hN (by omega) (by omega)).mono ?_
    rintro e w1 ⟨rfl, ha1, hg1⟩
    have HA2 := Aside0.mk ha1
    have HG2 := Aside0.mk (grow_trans HG.out hg1)
    clear ha1 hg1
    go_wp2_with fail
    go_roundw
    case rel => exact ⟨i - j, j, by omega, hj, by omega, hjb, by rw [E1.out], rfl, ⟨_, ⟨rot_left HK.out hj hlt (by omega)⟩, HA2⟩, HG2⟩
    case measure => simp [intOf]; omega
   ·have e1 : (j : Int) - (i : Int) = ((j - i : Nat) : Int) := by omega
    have E1 := Aside0.mk e1
    have e2 : (m : Int) + (j : Int) - (i : Int) = ((m + j - i : Nat) : Int) := by omega
    have E2 := Aside0.mk e2
    clear e0 e1 e2
    go_wp2_with fail
    rw [E0.out, E2.out]
    refine (swapRange_calls g N cap K (m - i) (m + j - i) i f _ HA1.out hN (by omega) (by omega)).mono ?_
    rintro e w1 ⟨rfl, ha1, hg1⟩
    have HA2 := Aside0.mk ha1
    have HG2 := Aside0.mk (grow_trans HG.out hg1)
    clear ha1 hg1
    go_wp2_with fail
    go_roundw
    case rel => exact ⟨i, j - i, hi, by omega, him, by omega, rfl, by rw [E1.out], ⟨_, ⟨rot_right HK.out hi (by omega) (by omega)⟩, HA2⟩, HG2⟩
    case measure => simp [intOf]; omega
end Go.Proofs.Ytkcpanpdipmmmaa.H
namespace Go.Proofs.Ytkcpanpdipmmmaa.H
open Go.RowKit Go.Proofs.YtkcpanpdipmmmaaW.PrintWords Go.Proofs.YtkcpanpdipmmmaaW.PrintLast Go.Proofs.YtkcpanpdipmmmaaW.PrintMore Go.Proofs.Ytkcpanpdipmmmaa.P
def Le (K : Nat → S38) (a b : Nat) : Prop := ∀ i j, a ≤ i → i < j → j < b → (K i).f0 ≤ (K j).f0
def Stab (M : Nat → S38) (N : Nat) : Prop := ∀ i j, i < j → j < N → (M i).f0 = (M j).f0 → (M i).f1 = false ∧ (M j).f1 = true
def Small (M : Nat → S38) (N : Nat) : Prop := ∀ i, i < N → 0 ≤ (M i).f0 ∧ (M i).f0 ≤ 1000000
def Mix (M K : Nat → S38) (a b : Nat) : Prop :=
 (∀ x, ¬ (a ≤ x ∧ x < b) → K x = M x) ∧ (∀ x, a ≤ x → x < b → ∃ y, a ≤ y ∧ y < b ∧ K x = M y) ∧ (∀ y, a ≤ y → y < b → ∃ x, a ≤ x ∧ x < b ∧ K x = M y)
theorem mix_refl (M : Nat → S38) (a b : Nat) : Mix M M a b := ⟨fun _ _ => rfl, fun x h1 h2 => ⟨x, h1, h2, rfl⟩, fun x h1 h2 => ⟨x, h1, h2, rfl⟩⟩
theorem mix_trans {M K L : Nat → S38} {a b : Nat} (h : Mix M K a b) (k : Mix K L a b) : Mix M L a b := by
 refine ⟨fun x hx => (k.1 x hx).trans (h.1 x hx), fun x h1 h2 => ?_, fun y h1 h2 => ?_⟩
 ·obtain ⟨y, h3, h4, e⟩ := k.2.1 x h1 h2
  obtain ⟨z, h5, h6, e2⟩ := h.2.1 y h3 h4
  exact ⟨z, h5, h6, e.trans e2⟩
 ·obtain ⟨x, h3, h4, e⟩ := h.2.2 y h1 h2
  obtain ⟨z, h5, h6, e2⟩ := k.2.2 x h3 h4
  exact ⟨z, h5, h6, e2.trans e⟩
theorem mix_wide {M K : Nat → S38} {a b a' b' : Nat} (h : Mix M K a b) (ha : a' ≤ a) (hb : b ≤ b') : Mix M K a' b' := by
 refine ⟨fun x hx => h.1 x (by omega), fun x h1 h2 => ?_, fun y h1 h2 => ?_⟩
 ·by_cases e : a ≤ x ∧ x < b
  ·obtain ⟨y, h3, h4, e⟩ := h.2.1 x e.1 e.2
   exact ⟨y, by omega, by omega, e⟩
  ·exact ⟨x, h1, h2, h.1 x e⟩
 ·by_cases e : a ≤ y ∧ y < b
  ·obtain ⟨x, h3, h4, e⟩ := h.2.2 y e.1 e.2
   exact ⟨x, by omega, by omega, e⟩
  ·exact ⟨y, h1, h2, h.1 y e⟩
theorem mix_small {M K : Nat → S38} {a b N : Nat} (h : Mix M K a b) (hb : b ≤ N) (hs : Small M N) : Small K N := fun x hx => by
 by_cases e : a ≤ x ∧ x < b
 ·obtain ⟨y, h3, h4, e⟩ := h.2.1 x e.1 e.2
  rw [e]; exact hs y (by omega)
 ·rw [h.1 x e]; exact hs x hx
def sw (K : Nat → S38) (p x : Nat) : S38 := if x = p then K (p + 1) else if x = p + 1 then K p else K x
theorem sw_put1 (K : Nat → S38) (p x : Nat) : upd (upd K (p + 1) (K p)) p (K (p + 1)) x = sw K p x := by
 unfold upd sw; rfl
theorem sw_put2 (K : Nat → S38) (p x : Nat) : upd (upd K p (K (p + 1))) (p + 1) (K p) x = sw K p x := by
 unfold upd sw
 by_cases e : x = p
 ·subst e; rw [if_neg (by omega), if_pos rfl, if_pos rfl]
 ·by_cases e2 : x = p + 1
  ·rw [if_pos e2, if_neg e, if_pos e2]
  ·rw [if_neg e2, if_neg e, if_neg e, if_neg e2]
theorem sw_at (K : Nat → S38) (p : Nat) : sw K p p = K (p + 1) := if_pos rfl
theorem sw_at1 (K : Nat → S38) (p : Nat) : sw K p (p + 1) = K p := by unfold sw; rw [if_neg (by omega), if_pos rfl]
theorem sw_off (K : Nat → S38) (p x : Nat) (h : x ≠ p) (h1 : x ≠ p + 1) : sw K p x = K x := by unfold sw; rw [if_neg h, if_neg h1]
theorem sw_mix (K : Nat → S38) (p a b : Nat) (ha : a ≤ p) (hb : p + 1 < b) : Mix K (sw K p) a b := by
 refine ⟨fun x hx => sw_off K p x (by omega) (by omega), fun x h1 h2 => ?_, fun x h1 h2 => ?_⟩
 ·by_cases e : x = p
  ·subst e; exact ⟨x + 1, by omega, by omega, sw_at K x⟩
  ·by_cases e2 : x = p + 1
   ·subst e2; exact ⟨p, by omega, by omega, sw_at1 K p⟩
   ·exact ⟨x, h1, h2, sw_off K p x e e2⟩
 ·by_cases e : x = p
  ·subst e; exact ⟨x + 1, by omega, by omega, sw_at1 K x⟩
  ·by_cases e2 : x = p + 1
   ·subst e2; exact ⟨p, by omega, by omega, sw_at K p⟩
   ·exact ⟨x, h1, h2, sw_off K p x e e2⟩
theorem sw_stab {K : Nat → S38} {p N : Nat} (h : Stab K N) (hp : p + 1 < N) (hlt : (K (p + 1)).f0 < (K p).f0) : Stab (sw K p) N := by
 intro i j hij hj he
 have h0 : ∀ x, x = p ∨ x = p + 1 ∨ (x ≠ p ∧ x ≠ p + 1) := fun x => by omega
 rcases h0 i with rfl | rfl | ⟨i1, i2⟩ <;> rcases h0 j with e | e | ⟨j1, j2⟩
 ·omega
 ·subst e; rw [sw_at, sw_at1] at he; omega
 ·rw [sw_at, sw_off _ _ _ j1 j2] at he ⊢; exact h _ _ (by omega) hj he
 ·omega
 ·omega
 ·rw [sw_at1, sw_off _ _ _ j1 j2] at he ⊢; exact h _ _ (by omega) hj he
 ·subst e; rw [sw_at, sw_off _ _ _ i1 i2] at he ⊢; exact h _ _ (by omega) (by omega) he
 ·subst e; rw [sw_at1, sw_off _ _ _ i1 i2] at he ⊢; exact h _ _ (by omega) (by omega) he
 ·rw [sw_off _ _ _ i1 i2, sw_off _ _ _ j1 j2] at he ⊢; exact h _ _ hij hj he
def Hole (K : Nat → S38) (a k j : Nat) : Prop :=
 (∀ x y, a ≤ x → x < y → y ≤ k → x ≠ j → y ≠ j → (K x).f0 ≤ (K y).f0) ∧ (∀ y, j < y → y ≤ k → (K j).f0 ≤ (K y).f0)
theorem hole_start {K : Nat → S38} {a k : Nat} (h : Le K a k) : Hole K a k k := ⟨fun x y h1 h2 h3 h4 h5 => h x y h1 h2 (by omega), fun y h1 h2 => by omega⟩
theorem hole_stop {K : Nat → S38} {a k j : Nat} (h : Hole K a k j) (hj : j = a ∨ (a < j ∧ (K (j - 1)).f0 ≤ (K j).f0)) : Le K a (k + 1) := by
 intro x y h1 h2 h3
 by_cases e1 : x = j
 ·subst e1; exact h.2 y h2 (by omega)
 ·by_cases e2 : y = j
  ·subst e2
   rcases hj with hj | ⟨hj, hle⟩
   ·omega
   ·by_cases e3 : x = y - 1
    ·subst e3; exact hle
    ·exact Int.le_trans (h.1 x (y - 1) h1 (by omega) (by omega) e1 (by omega)) hle
  ·exact h.1 x y h1 h2 (by omega) e1 e2
theorem hole_swap {K : Nat → S38} {a k p : Nat} (h : Hole K a k (p + 1)) (ha : a ≤ p) (hk : p + 1 ≤ k) (hlt : (K (p + 1)).f0 < (K p).f0) : Hole (sw K p) a k p := by
 refine ⟨fun x y h1 h2 h3 h4 h5 => ?_, fun y h1 h2 => ?_⟩
 ·by_cases e1 : x = p + 1
  ·subst e1; rw [sw_at1, sw_off _ _ _ h5 (by omega)]; exact h.1 p y (by omega) (by omega) h3 (by omega) (by omega)
  ·by_cases e2 : y = p + 1
   ·subst e2; rw [sw_at1, sw_off _ _ _ h4 e1]; exact h.1 x p h1 (by omega) (by omega) e1 (by omega)
   ·rw [sw_off _ _ _ h4 e1, sw_off _ _ _ h5 e2]; exact h.1 x y h1 h2 h3 e1 e2
 ·rw [sw_at]
  by_cases e2 : y = p + 1
  ·subst e2; rw [sw_at1]; omega
  ·rw [sw_off _ _ _ (by omega) e2]; exact h.2 y (by omega) h2
def Sorted (M K : Nat → S38) (N a b : Nat) : Prop := Mix M K a b ∧ Stab K N ∧ Small K N ∧ Le K a b
theorem le_one (K : Nat → S38) (a b : Nat) (h : b ≤ a + 1) : Le K a b := fun i j h1 h2 h3 => by omega
theorem rot_lo (M : Nat → S38) {s m e x : Nat} (h1 : s ≤ x) (h2 : x < s + (e - m)) (h3 : m ≤ e) (h4 : s ≤ m) : rotM M s m e x = M (x + (m - s)) := by
 unfold rotM; rw [if_pos (by omega), if_pos h2]
theorem rot_hi (M : Nat → S38) {s m e x : Nat} (h1 : s + (e - m) ≤ x) (h2 : x < e) (h4 : s ≤ m) : rotM M s m e x = M (x - (e - m)) := by
 unfold rotM; rw [if_pos (by omega), if_neg (by omega)]
theorem rot_off (M : Nat → S38) {s m e x : Nat} (h : ¬ (s ≤ x ∧ x < e)) : rotM M s m e x = M x := by
 unfold rotM; rw [if_neg h]
theorem rot_mix (M : Nat → S38) {s m e : Nat} (h1 : s ≤ m) (h2 : m ≤ e) : Mix M (rotM M s m e) s e := by
 refine ⟨fun x hx => rot_off M hx, fun x h3 h4 => ?_, fun x h3 h4 => ?_⟩
 ·by_cases c : x < s + (e - m)
  ·exact ⟨x + (m - s), by omega, by omega, rot_lo M h3 c h2 h1⟩
  ·exact ⟨x - (e - m), by omega, by omega, rot_hi M (by omega) h4 h1⟩
 ·by_cases c : x < m
  ·refine ⟨x + (e - m), by omega, by omega, ?_⟩
   rw [rot_hi M (by omega) (by omega) h1]; congr 1; omega
  ·refine ⟨x - (m - s), by omega, by omega, ?_⟩
   rw [rot_lo M (by omega) (by omega) h2 h1]; congr 1; omega
theorem rot_stab {M : Nat → S38} {N s m e : Nat} (h : Stab M N) (h1 : s ≤ m) (h2 : m ≤ e) (he : e ≤ N) (hc : ∀ x y, s ≤ x → x < m → m ≤ y → y < e → (M y).f0 < (M x).f0) : Stab (rotM M s m e) N := by
 intro i j hij hj heq
 have h0 : ∀ x, ¬ (s ≤ x ∧ x < e) ∨ (s ≤ x ∧ x < s + (e - m)) ∨ (s + (e - m) ≤ x ∧ x < e) := fun x => by omega
 rcases h0 i with a1 | ⟨a1, a2⟩ | ⟨a1, a2⟩ <;> rcases h0 j with b1 | ⟨b1, b2⟩ | ⟨b1, b2⟩
 ·rw [rot_off M a1, rot_off M b1] at heq ⊢; exact h _ _ hij hj heq
 ·rw [rot_off M a1, rot_lo M b1 b2 h2 h1] at heq ⊢; exact h _ _ (by omega) (by omega) heq
 ·rw [rot_off M a1, rot_hi M b1 b2 h1] at heq ⊢; exact h _ _ (by omega) (by omega) heq
 ·rw [rot_lo M a1 a2 h2 h1, rot_off M b1] at heq ⊢; exact h _ _ (by omega) (by omega) heq
 ·rw [rot_lo M a1 a2 h2 h1, rot_lo M b1 b2 h2 h1] at heq ⊢; exact h _ _ (by omega) (by omega) heq
 ·rw [rot_lo M a1 a2 h2 h1, rot_hi M b1 b2 h1] at heq; have := hc (j - (e - m)) (i + (m - s)) (by omega) (by omega) (by omega) (by omega); omega
 ·rw [rot_hi M a1 a2 h1, rot_off M b1] at heq ⊢; exact h _ _ (by omega) (by omega) heq
 ·omega
 ·rw [rot_hi M a1 a2 h1, rot_hi M b1 b2 h1] at heq ⊢; exact h _ _ (by omega) (by omega) heq
theorem rot_none (M : Nat → S38) {s m e : Nat} (h1 : s ≤ m) (h2 : m ≤ e) (h : s = m ∨ m = e) (x : Nat) : rotM M s m e x = M x := by
 by_cases c : s ≤ x ∧ x < e
 ·rcases h with h | h
  ·subst h; rw [rot_lo M c.1 (by omega) h2 h1]; congr 1; omega
  ·subst h; rw [rot_hi M (by omega) c.2 h1]; congr 1; omega
 ·exact rot_off M c
theorem le_le {K : Nat → S38} {a b x y : Nat} (h : Le K a b) (h1 : a ≤ x) (h2 : x ≤ y) (h3 : y < b) : (K x).f0 ≤ (K y).f0 := by
 by_cases e : x = y
 ·subst e; exact Int.le_refl _
 ·exact h x y h1 (by omega) h3
theorem le_join {K : Nat → S38} {a m b : Nat} (h1 : Le K a m) (h2 : Le K m b) (hc : ∀ x y, a ≤ x → x < m → m ≤ y → y < b → (K x).f0 ≤ (K y).f0) : Le K a b := by
 intro i j hi hij hj
 by_cases e : j < m
 ·exact h1 i j hi hij e
 ·by_cases e2 : i < m
  ·exact hc i j hi e2 (by omega) hj
  ·exact h2 i j (by omega) hij hj
theorem rot_one_lo {M : Nat → S38} {a b i : Nat} (h : Le M (a + 1) b) (h1 : a + 1 ≤ i) (h2 : i ≤ b) (hlt : ∀ y, a + 1 ≤ y → y < i → (M y).f0 < (M a).f0) (hge : ∀ y, i ≤ y → y < b → (M a).f0 ≤ (M y).f0) : Le (rotM M a (a + 1) i) a b := by
 have lo : ∀ x, a ≤ x → x + 1 < i → rotM M a (a + 1) i x = M (x + 1) := fun x h3 h4 => by rw [rot_lo M h3 (by omega) h1 (by omega)]; congr 1; omega
 have at_ : rotM M a (a + 1) i (i - 1) = M a := by rw [rot_hi M (by omega) (by omega) (by omega)]; congr 1; omega
 have hi : ∀ x, i ≤ x → rotM M a (a + 1) i x = M x := fun x h3 => rot_off M (by omega)
 intro x y h3 h4 h5
 by_cases c1 : x + 1 < i
 ·rw [lo x h3 c1]
  by_cases c2 : y + 1 < i
  ·rw [lo y (by omega) c2]; exact h _ _ (by omega) (by omega) (by omega)
  ·by_cases c3 : y = i - 1
   ·subst c3; rw [at_]; have := hlt (x + 1) (by omega) c1; omega
   ·rw [hi y (by omega)]; exact h _ _ (by omega) (by omega) (by omega)
 ·by_cases c2 : x = i - 1
  ·subst c2; rw [at_, hi y (by omega)]; exact hge y (by omega) h5
  ·rw [hi x (by omega), hi y (by omega)]; exact h _ _ (by omega) h4 h5
theorem rot_one_hi {M : Nat → S38} {a m i : Nat} (h : Le M a m) (h1 : a ≤ i) (h2 : i ≤ m) (hle : ∀ y, a ≤ y → y < i → (M y).f0 ≤ (M m).f0) (hgt : ∀ y, i ≤ y → y < m → (M m).f0 < (M y).f0) : Le (rotM M i m (m + 1)) a (m + 1) := by
 have lo : ∀ x, x < i → rotM M i m (m + 1) x = M x := fun x h3 => rot_off M (by omega)
 have at_ : rotM M i m (m + 1) i = M m := by rw [rot_lo M (Nat.le_refl _) (by omega) (by omega) h2]; congr 1; omega
 have hi : ∀ x, i < x → x < m + 1 → rotM M i m (m + 1) x = M (x - 1) := fun x h3 h4 => by rw [rot_hi M (by omega) h4 h2]; congr 1; omega
 intro x y h3 h4 h5
 by_cases c1 : x < i
 ·rw [lo x c1]
  by_cases c2 : y < i
  ·rw [lo y c2]; exact h _ _ h3 h4 (by omega)
  ·by_cases c3 : y = i
   ·subst c3; rw [at_]; exact hle x h3 c1
   ·rw [hi y (by omega) h5]; exact h _ _ h3 (by omega) (by omega)
 ·by_cases c2 : x = i
  ·subst c2; rw [at_, hi y h4 h5]; have := hgt (y - 1) (by omega) (by omega); omega
  ·rw [hi x (by omega) (by omega), hi y (by omega) h5]; exact h _ _ (by omega) (by omega) (by omega)
theorem sym_rot {M : Nat → S38} {a m b mid s e N : Nat} (h1 : Le M a m) (h2 : Le M m b) (has : a ≤ s) (hsm : s ≤ m) (hme : m ≤ e) (heb : e ≤ b) (hsum : s + e = mid + m) (hsmid : s ≤ mid) (hmide : mid ≤ e)
  (hge : a < s → e < b → (M (s - 1)).f0 ≤ (M e).f0) (hlt : s < m → m < e → (M (e - 1)).f0 < (M s).f0) (hst : Stab M N) (hb : b ≤ N) :
  Stab (rotM M s m e) N ∧ Le (rotM M s m e) a s ∧ Le (rotM M s m e) s mid ∧ Le (rotM M s m e) mid e ∧ Le (rotM M s m e) e b ∧ ∀ x y, a ≤ x → x < mid → mid ≤ y → y < b → (rotM M s m e x).f0 ≤ (rotM M s m e y).f0 := by
 have hx : ∀ x y, s ≤ x → x < m → m ≤ y → y < e → (M y).f0 < (M x).f0 := fun x y h3 h4 h5 h6 => by
  have k1 := hlt (by omega) (by omega)
  have k2 : (M y).f0 ≤ (M (e - 1)).f0 := le_le h2 h5 (by omega) (by omega)
  have k3 : (M s).f0 ≤ (M x).f0 := le_le h1 has h3 h4
  omega
 have hy : ∀ x y, a ≤ x → x < s → e ≤ y → y < b → (M x).f0 ≤ (M y).f0 := fun x y h3 h4 h5 h6 => by
  have k1 := hge (by omega) (by omega)
  have k2 : (M x).f0 ≤ (M (s - 1)).f0 := le_le h1 h3 (by omega) (by omega)
  have k3 : (M e).f0 ≤ (M y).f0 := le_le h2 hme h5 h6
  omega
 have p1 : ∀ x, x < s → rotM M s m e x = M x := fun x h => rot_off M (by omega)
 have p2 : ∀ x, s ≤ x → x < mid → rotM M s m e x = M (x + (m - s)) := fun x h3 h4 => rot_lo M h3 (by omega) hme hsm
 have p3 : ∀ x, mid ≤ x → x < e → rotM M s m e x = M (x - (e - m)) := fun x h3 h4 => rot_hi M (by omega) h4 hsm
 have p4 : ∀ x, e ≤ x → rotM M s m e x = M x := fun x h => rot_off M (by omega)
 refine ⟨rot_stab hst hsm hme (by omega) hx, ?_, ?_, ?_, ?_, ?_⟩
 ·intro x y h3 h4 h5; rw [p1 x (by omega), p1 y h5]; exact h1 _ _ h3 h4 (by omega)
 ·intro x y h3 h4 h5; rw [p2 x h3 (by omega), p2 y (by omega) h5]; exact h2 _ _ (by omega) (by omega) (by omega)
 ·intro x y h3 h4 h5; rw [p3 x h3 (by omega), p3 y (by omega) h5]; exact h1 _ _ (by omega) (by omega) (by omega)
 ·intro x y h3 h4 h5; rw [p4 x h3, p4 y (by omega)]; exact h2 _ _ (by omega) h4 h5
 ·intro x y h3 h4 h5 h6
  by_cases c1 : x < s
  ·rw [p1 x c1]
   by_cases c2 : y < e
   ·rw [p3 y h5 c2]; exact le_le h1 h3 (by omega) (by omega)
   ·rw [p4 y (by omega)]; exact hy x y h3 c1 (by omega) h6
  ·rw [p2 x (by omega) h4]
   by_cases c2 : y < e
   ·rw [p3 y h5 c2]; exact Int.le_of_lt (hx _ _ (by omega) (by omega) (by omega) (by omega))
   ·rw [p4 y (by omega)]; exact le_le h2 (by omega) (by omega) h6
theorem mix_cross {K L : Nat → S38} {a m b : Nat} (hc : ∀ x y, a ≤ x → x < m → m ≤ y → y < b → (K x).f0 ≤ (K y).f0) (h : Mix K L a m ∨ Mix K L m b) :
  ∀ x y, a ≤ x → x < m → m ≤ y → y < b → (L x).f0 ≤ (L y).f0 := by
 intro x y h1 h2 h3 h4
 rcases h with h | h
 ·obtain ⟨z, h5, h6, e⟩ := h.2.1 x h1 h2
  rw [e, h.1 y (by omega)]; exact hc z y h5 h6 h3 h4
 ·obtain ⟨z, h5, h6, e⟩ := h.2.1 y h3 h4
  rw [e, h.1 x (by omega)]; exact hc x z h1 h2 h5 h6
theorem mix_le {K L : Nat → S38} {a b c d : Nat} (h : Mix K L c d) (hd : b ≤ c ∨ d ≤ a) (hl : Le K a b) : Le L a b := fun i j h1 h2 h3 => by
 rw [h.1 i (by omega), h.1 j (by omega)]; exact hl i j h1 h2 h3
theorem sw_rot_lo (M : Nat → S38) {a k : Nat} (h : a ≤ k) (x : Nat) : sw (rotM M a (a + 1) (k + 1)) k x = rotM M a (a + 1) (k + 2) x := by
 unfold sw rotM
 by_cases e1 : x = k
 ·subst e1; rw [if_pos rfl, if_neg (by omega), if_pos (by omega), if_pos (by omega)]; congr 1; omega
 ·rw [if_neg e1]
  by_cases e2 : x = k + 1
  ·subst e2; rw [if_pos rfl, if_pos (by omega), if_neg (by omega), if_pos (by omega), if_neg (by omega)]; congr 1; omega
  ·rw [if_neg e2]
   by_cases e3 : a ≤ x ∧ x < k
   ·rw [if_pos (by omega), if_pos (by omega), if_pos (by omega), if_pos (by omega)]
   ·rw [if_neg (by omega), if_neg (by omega)]
theorem sw_rot_hi (M : Nat → S38) {k m : Nat} (h : k < m) (x : Nat) : sw (rotM M (k + 1) m (m + 1)) k x = rotM M k m (m + 1) x := by
 unfold sw rotM
 by_cases e1 : x = k
 ·subst e1; rw [if_pos rfl, if_pos (by omega), if_pos (by omega), if_pos (by omega), if_pos (by omega)]; congr 1; omega
 ·rw [if_neg e1]
  by_cases e2 : x = k + 1
  ·subst e2; rw [if_pos rfl, if_neg (by omega), if_pos (by omega), if_neg (by omega)]; congr 1; omega
  ·rw [if_neg e2]
   by_cases e3 : k ≤ x ∧ x < m + 1
   ·rw [if_pos (by omega), if_neg (by omega), if_pos (by omega), if_neg (by omega)]
   ·rw [if_neg (by omega), if_neg (by omega)]
end Go.Proofs.Ytkcpanpdipmmmaa.H
namespace Go.Proofs.Ytkcpanpdipmmmaa.P
open Go.RowKit Go.Proofs.YtkcpanpdipmmmaaW.PrintWords Go.Proofs.YtkcpanpdipmmmaaW.PrintLast Go.Proofs.YtkcpanpdipmmmaaW.PrintMore
attribute [local go_sem] max2_int min2_int max_two min_two max_three min_three max_four min_four
def adj_from.f (a0_0 : Int) (a0_1 : Int) (a0_2 : Int) (a0_3 : Int) : Option (Int) := some a0_0
set_option maxHeartbeats 8000000 in
set_option maxRecDepth 100000 in
theorem adj_from.calls (a0_0 : Int) (a0_1 : Int) (a0_2 : Int) (a0_3 : Int) (r : Int) (w : World) (h : adj_from.f a0_0 a0_1 a0_2 a0_3 = some r) :
  Calls Try.prog 160 #[.agg #[.int .i64 a0_0, .int .i64 a0_1, .int .i64 a0_2, .int .i64 a0_3]] w fun e w' => e = .returned (.int .i64 r) ∧ Below w.heap.size w w' := by
 have hu74 := Try.underlying74
 have HB := Aside0.mk (Below.refl w.heap.size w)
 have H : (some a0_0) = some r := h
 clear h
 obtain rfl := Option.some.inj H
 go_enter Try.func160, Try.ntmps160
 go_wp2_with (first | ((with_reducible refine gate_dst (N := 1) rfl ?_); refine box_event ?hg (N := 1) ?hd (cs := #[.int .i64 a0_0, .int .i64 a0_1, .int .i64 a0_2, .int .i64 a0_3]) (t := 74) ?hr ?_; (case hd => rfl); (case hg => rfl); (case hr => first | (go_simp; done) | (go_simp; rfl)); intro gb192 hg w2 hbox hb; have n0_ := Aside0.mk (below_step (by repeat (first | (with_reducible first | exact HB.out | apply below_alloc | apply pw_below_drewN | apply below_drew1) | exact HB.out)) hb); have n1_ := Aside0.mk (hbox); have n2_ := Aside0.mk ((by rw [hg]; exact (below_size (by repeat (first | (with_reducible first | exact HB.out | apply below_alloc | apply pw_below_drewN | apply below_drew1) | exact HB.out))) : w.heap.size ≤ gb192)); have n3_ := Aside0.mk ((by rw [hg]; exact (below_size (by repeat (first | (with_reducible first | exact HB.out | apply below_alloc | apply pw_below_drewN | apply below_drew1) | exact HB.out))) : w.heap.size ≤ gb192)); clear HB; have HB := n0_; have BK192 := n1_; have GW192 := n2_; have GE192 := n3_; clear n0_ n1_ n2_ n3_; clear hb hbox hg; have hcz3_0 : w2.cell? ⟨gb192, 0, none⟩ = some (.int .i64 a0_0) := (blk_cell BK192.out 0).trans rfl; have hcz3_1 : w2.cell? ⟨gb192, 1, none⟩ = some (.int .i64 a0_1) := (blk_cell BK192.out 1).trans rfl; have hcz3_2 : w2.cell? ⟨gb192, 2, none⟩ = some (.int .i64 a0_2) := (blk_cell BK192.out 2).trans rfl; have hcz3_3 : w2.cell? ⟨gb192, 3, none⟩ = some (.int .i64 a0_3) := (blk_cell BK192.out 3).trans rfl; have hfz3_0 := blk_frozen BK192.out 0; have hfz3_1 := blk_frozen BK192.out 1; have hfz3_2 := blk_frozen BK192.out 2; have hfz3_3 := blk_frozen BK192.out 3))
 go_ret
 exact ⟨by first | rfl | (simp [errW_none, errW_some] <;> rfl) | (simp [*, errW_none, errW_some] <;> rfl), by repeat (first | (with_reducible first | exact HB.out | apply below_alloc | apply pw_below_drewN | apply below_drew1 | refine below_set ?_ GE192.out) | exact HB.out)⟩
end Go.Proofs.Ytkcpanpdipmmmaa.P
namespace Go.Proofs.Ytkcpanpdipmmmaa.P
open Go.RowKit Go.Proofs.YtkcpanpdipmmmaaW.PrintWords Go.Proofs.YtkcpanpdipmmmaaW.PrintLast Go.Proofs.YtkcpanpdipmmmaaW.PrintMore
attribute [local go_sem] max2_int min2_int max_two min_two max_three min_three max_four min_four
def adj_to.f (a0_0 : Int) (a0_1 : Int) (a0_2 : Int) (a0_3 : Int) : Option (Int) := some a0_1
set_option maxHeartbeats 8000000 in
set_option maxRecDepth 100000 in
theorem adj_to.calls (a0_0 : Int) (a0_1 : Int) (a0_2 : Int) (a0_3 : Int) (r : Int) (w : World) (h : adj_to.f a0_0 a0_1 a0_2 a0_3 = some r) :
  Calls Try.prog 161 #[.agg #[.int .i64 a0_0, .int .i64 a0_1, .int .i64 a0_2, .int .i64 a0_3]] w fun e w' => e = .returned (.int .i64 r) ∧ Below w.heap.size w w' := by
 have hu74 := Try.underlying74
 have HB := Aside0.mk (Below.refl w.heap.size w)
 have H : (some a0_1) = some r := h
 clear h
 obtain rfl := Option.some.inj H
 go_enter Try.func161, Try.ntmps161
 go_wp2_with (first | ((with_reducible refine gate_dst (N := 1) rfl ?_); refine box_event ?hg (N := 1) ?hd (cs := #[.int .i64 a0_0, .int .i64 a0_1, .int .i64 a0_2, .int .i64 a0_3]) (t := 74) ?hr ?_; (case hd => rfl); (case hg => rfl); (case hr => first | (go_simp; done) | (go_simp; rfl)); intro gb194 hg w2 hbox hb; have n0_ := Aside0.mk (below_step (by repeat (first | (with_reducible first | exact HB.out | apply below_alloc | apply pw_below_drewN | apply below_drew1) | exact HB.out)) hb); have n1_ := Aside0.mk (hbox); have n2_ := Aside0.mk ((by rw [hg]; exact (below_size (by repeat (first | (with_reducible first | exact HB.out | apply below_alloc | apply pw_below_drewN | apply below_drew1) | exact HB.out))) : w.heap.size ≤ gb194)); have n3_ := Aside0.mk ((by rw [hg]; exact (below_size (by repeat (first | (with_reducible first | exact HB.out | apply below_alloc | apply pw_below_drewN | apply below_drew1) | exact HB.out))) : w.heap.size ≤ gb194)); clear HB; have HB := n0_; have BK194 := n1_; have GW194 := n2_; have GE194 := n3_; clear n0_ n1_ n2_ n3_; clear hb hbox hg; have hcz3_0 : w2.cell? ⟨gb194, 0, none⟩ = some (.int .i64 a0_0) := (blk_cell BK194.out 0).trans rfl; have hcz3_1 : w2.cell? ⟨gb194, 1, none⟩ = some (.int .i64 a0_1) := (blk_cell BK194.out 1).trans rfl; have hcz3_2 : w2.cell? ⟨gb194, 2, none⟩ = some (.int .i64 a0_2) := (blk_cell BK194.out 2).trans rfl; have hcz3_3 : w2.cell? ⟨gb194, 3, none⟩ = some (.int .i64 a0_3) := (blk_cell BK194.out 3).trans rfl; have hfz3_0 := blk_frozen BK194.out 0; have hfz3_1 := blk_frozen BK194.out 1; have hfz3_2 := blk_frozen BK194.out 2; have hfz3_3 := blk_frozen BK194.out 3))
 go_ret
 exact ⟨by first | rfl | (simp [errW_none, errW_some] <;> rfl) | (simp [*, errW_none, errW_some] <;> rfl), by repeat (first | (with_reducible first | exact HB.out | apply below_alloc | apply pw_below_drewN | apply below_drew1 | refine below_set ?_ GE194.out) | exact HB.out)⟩
end Go.Proofs.Ytkcpanpdipmmmaa.P
namespace Go.Proofs.Ytkcpanpdipmmmaa.H
open Go.RowKit Go.Proofs.YtkcpanpdipmmmaaW.PrintWords Go.Proofs.YtkcpanpdipmmmaaW.PrintLast Go.Proofs.YtkcpanpdipmmmaaW.PrintMore Go.Proofs.Ytkcpanpdipmmmaa.P
theorem infoRow : (Try.prog.info? 25).map (fun i => (i.zero, i.size, i.bytes)) = some (some (.slice none 0 0), 1, 24) := by kernel_rfl
def eFrom (x : S74) : Int := x.f0
def eTo (x : S74) : Int := x.f1
def lsAt (E : S74 → Int) (l : List S74) (n : Nat) : Nat → List (List Int)
 | 0 => List.replicate n []
 | k + 1 => (lsAt E l n k).set (E (rd_T74 l k)).toNat (rd_L7 (lsAt E l n k) (E (rd_T74 l k)) ++ [(k : Int)])
theorem lsAt_len (E : S74 → Int) (l : List S74) (n k : Nat) : (lsAt E l n k).length = n := by
 induction k with
 | zero => exact List.length_replicate
 | succ k ih => show (List.set _ _ _).length = n; rw [List.length_set, ih]
theorem lsAt_row (E : S74 → Int) (l : List S74) (n k : Nat) (i : Int) : (rd_L7 (lsAt E l n k) i).length ≤ k := by
 induction k generalizing i with
 | zero =>
  unfold rd_L7 lsAt
  rw [List.getD_eq_getElem?_getD, List.getElem?_replicate]
  split <;> simp
 | succ k ih =>
  unfold rd_L7
  show ((List.set _ _ _).getD i.toNat []).length ≤ k + 1
  rw [List.getD_eq_getElem?_getD, List.getElem?_set]
  have hi := ih i
  unfold rd_L7 at hi
  rw [List.getD_eq_getElem?_getD] at hi
  split
  ·split
   ·have := ih (E (rd_T74 l k))
    simp only [Option.getD_some, List.length_append, List.length_cons, List.length_nil]
    omega
   ·simp
  ·omega
set_option maxHeartbeats 4000000 in
set_option maxRecDepth 100000 in
theorem listsFrom_calls (a0_0 : Int) (a0_1 : Bool) (A0_2 : Option Addr) (c0_2 : Nat) (l0_2 : List S74) (w : World) (hr0_2 : Kd.C k74 w A0_2 l0_2.length l0_2) (hc0_2 : l0_2.length ≤ c0_2) (h0 : 0 ≤ a0_0) (h1 : a0_0 ≤ 1000000) (hl : l0_2.length ≤ 1000000) (hE : ∀ k : Nat, k < l0_2.length → 0 ≤ eFrom (rd_T74 l0_2 k) ∧ eFrom (rd_T74 l0_2 k) < a0_0) :
  Calls Try.prog 159 #[.agg #[.int .i64 a0_0, .bool a0_1, .slice A0_2 l0_2.length c0_2], .func (.func 160) #[] #[]] w fun e w' => ∃ v0_ : Value, e = .returned v0_ ∧ Kd.S (Kd.slice 3 (Kd.int .i64)) 25 w' w.heap.size (fun _ => True) v0_ (lsAt eFrom l0_2 a0_0.toNat l0_2.length) ∧ Below w.heap.size w w' := by
 have hu24 := Try.underlying24
 have hu74 := Try.underlying74
 have HR0_2 := Aside0.mk hr0_2
 have HC0_2 := Aside0.mk hc0_2
 have HE := Aside0.mk hE
 clear hr0_2 hc0_2 hE
 have HB := Aside0.mk (Below.refl w.heap.size w)
 have c2b1 : decide (0 ≤ a0_0) = true := decide_eq_true h0
 have c3b1 : decide ((a0_0 : Int).toNat ≤ 11728124029610) = true := decide_eq_true (by omega)
 have c2b0 := eq_true h0
 have c3b0 : ((a0_0 : Int).toNat ≤ 11728124029610) = True := eq_true (by omega)
 have HH0 := Aside0.mk h0
 have HH1 := Aside0.mk h1
 clear h0 h1
 go_enter Try.func159, Try.ntmps159
 go_wp2_with (first | ((with_reducible refine gate_dst (N := 2) rfl ?_); refine box_event ?hg (N := 2) ?hd (cs := #[.int .i64 a0_0, .bool a0_1, .slice A0_2 l0_2.length c0_2]) (t := 24) ?hr ?_; (case hd => rfl); (case hg => rfl); (case hr => first | (go_simp; done) | (go_simp; rfl)); intro gb111 hg w4 hbox hb; have n0_ := Aside0.mk (below_step (by repeat (first | (with_reducible first | exact HB.out | apply below_alloc | apply pw_below_drewN | apply below_drew1) | exact HB.out)) hb); have n1_ := Aside0.mk (hbox); have n3_ := Aside0.mk ((by rw [hg]; exact (below_size (by repeat (first | (with_reducible first | exact HB.out | apply below_alloc | apply pw_below_drewN | apply below_drew1) | exact HB.out))) : w.heap.size ≤ gb111)); clear HB; have HB := n0_; have BK111 := n1_; have GE111 := n3_; clear n0_ n1_ n3_; clear hb hbox hg; have hcz5_0 : w4.cell? ⟨gb111, 0, none⟩ = some (.int .i64 a0_0) := (blk_cell BK111.out 0).trans rfl; have hcz5_1 : w4.cell? ⟨gb111, 1, none⟩ = some (.bool a0_1) := (blk_cell BK111.out 1).trans rfl; have hcz5_2 : w4.cell? ⟨gb111, 2, none⟩ = some (.slice A0_2 l0_2.length c0_2) := (blk_cell BK111.out 2).trans rfl; have hfz5_0 := blk_frozen BK111.out 0; have hfz5_1 := blk_frozen BK111.out 1; have hfz5_2 := blk_frozen BK111.out 2) | ((with_reducible refine gate_dst (N := 11) rfl ?_); refine Kd.S_make (Kd.slice 3 (Kd.int .i64)) _ 25 rfl (N := 11) rfl 154 _ _ rfl a0_0 rfl rfl Try.underlying154 (.slice none 0 0) 24 infoRow rfl (by decide) (by omega) [] (ok := fun _ => True) (okp := fun _ => True) ⟨_, rfl, Kd.R_nil _ _ _ _ _⟩ (fun _ hk => hk) trivial (of_decide_eq_true (by first | (with_reducible assumption) | assumption)) (Nat.le_trans (Nat.mul_le_mul_right _ (of_decide_eq_true (by first | (with_reducible assumption) | assumption) : a0_0.toNat ≤ 11728124029610)) (by omega)) (Below.refl _ _) (Nat.le_refl _) ?_; intro v113 w6 ho7 hb hg_ hnew_; clear hg_ hnew_; have n0_ := Aside0.mk (Kd.S_lower ho7 (below_size (by repeat (first | (with_reducible first | exact HB.out | apply below_alloc | apply pw_below_drewN | apply below_drew1 | refine below_set ?_ GE111.out) | exact HB.out)))); have n1_ := Aside0.mk (blk_below (g := gb111) (o := .cells #[.int .i64 a0_0, .bool a0_1, .slice A0_2 l0_2.length c0_2] 24 (0, 0)) (by (with_reducible repeat (first | refine blk_drewN ?_ _ | refine blk_drew ?_ | refine blk_alloc ?_ _)); exact BK111.out) hb); have n2_ := Aside0.mk (below_step (by repeat (first | (with_reducible first | exact HB.out | apply below_alloc | apply pw_below_drewN | apply below_drew1 | refine below_set ?_ GE111.out) | exact HB.out)) hb); clear BK111; clear HB; have HO114 := n0_; have BK111 := n1_; have HB := n2_; clear n0_ n1_ n2_; clear hb ho7; have hcz8_0 : w6.cell? ⟨gb111, 0, none⟩ = some (.int .i64 a0_0) := (blk_cell BK111.out 0).trans rfl; have hcz8_1 : w6.cell? ⟨gb111, 1, none⟩ = some (.bool a0_1) := (blk_cell BK111.out 1).trans rfl; have hcz8_2 : w6.cell? ⟨gb111, 2, none⟩ = some (.slice A0_2 l0_2.length c0_2) := (blk_cell BK111.out 2).trans rfl; have hfz8_0 := blk_frozen BK111.out 0; have hfz8_1 := blk_frozen BK111.out 1; have hfz8_2 := blk_frozen BK111.out 2))
 go_loopw [15] (fun v15 w' => ∃ k : Nat, k ≤ l0_2.length ∧ v15 = .int .i64 k ∧ Aside0 (Kd.S (Kd.slice 3 (Kd.int .i64)) 25 w' w.heap.size (fun _ => True) v113 (lsAt eFrom l0_2 a0_0.toNat k)) ∧ Aside0 (w'.heap[gb111]? = some (.cells #[.int .i64 a0_0, .bool a0_1, (.slice A0_2 l0_2.length c0_2)] 24 (0, 0))) ∧ Aside0 (Below w.heap.size w w')) (fun v15 _ => l0_2.length - (intOf v15).toNat)
 case atStart => exact ⟨0, Nat.zero_le _, rfl, ⟨by (with_reducible repeat (first | apply Kd.S_alloc | apply Kd.S_drewN | apply Kd.S_drew)); exact HO114.out⟩, ⟨by (with_reducible repeat (first | refine blk_drewN ?_ _ | refine blk_drew ?_ | refine blk_alloc ?_ _)); exact BK111.out⟩, ⟨(by repeat (first | (with_reducible first | exact HB.out | apply below_alloc | apply pw_below_drewN | apply below_drew1 | refine below_set ?_ GE111.out) | exact HB.out))⟩⟩
 case round =>
  try clear c2b0
  try clear c2b1
  try clear c3b0
  try clear c3b1
  try clear hcz5_0 hcz5_1 hcz5_2 hcz8_0 hcz8_1 hcz8_2 hfz5_0 hfz5_1 hfz5_2 hfz8_0 hfz8_1 hfz8_2
  clear HO114 BK111 HB
  obtain ⟨k, hk, rfl, HO_3, BK111, HB⟩ := hrel
  by_cases hlt : k < l0_2.length
  ·have hEk := HE.out k hlt
   obtain ⟨ex, hex0⟩ : ∃ ex, eFrom (rd_T74 l0_2 (k : Int)) = ex := ⟨_, rfl⟩
   have hex := Aside0.mk hex0
   have LSN : Aside0 (lsAt eFrom l0_2 a0_0.toNat (k + 1) = (lsAt eFrom l0_2 a0_0.toNat k).set (ex : Int).toNat (rd_L7 (lsAt eFrom l0_2 a0_0.toNat k) ex ++ [(k : Int)])) := ⟨by rw [← hex0]; rfl⟩
   rw [hex0] at hEk
   clear hex0
   have hlen := lsAt_len eFrom l0_2 a0_0.toNat k
   have c12b0 : decide (0 ≤ ex) = true := decide_eq_true hEk.1
   have c13b0 : decide (ex < ((lsAt eFrom l0_2 a0_0.toNat k).length : Int)) = true := decide_eq_true (by rw [hlen]; have := HH0.out; omega)
   have LMc14 : Aside0 ((rd_L7 (lsAt eFrom l0_2 a0_0.toNat k) ex).length < 17592186044416) := ⟨by have := lsAt_row eFrom l0_2 a0_0.toNat k ex; omega⟩
   clear hEk hlen
   have p115 : 0 ≤ ((k : Nat) : Int) := by omega
   have q115 : ((k : Nat) : Int) < (l0_2.length : Int) := by omega
   obtain ⟨ad115, e115, hx115_0, hx115_1, hx115_2, hx115_3⟩ := at_T74 HR0_2.out (k : Int) p115 q115
   simp only [Int.toNat_natCast] at hx115_0 hx115_1 hx115_2 hx115_3
   cases e115
   replace hx115_0 := (HB.out.cell (World.block_lt_of_cell? w _ hx115_0)).trans hx115_0
   replace hx115_1 := (HB.out.cell (World.block_lt_of_cell? w _ hx115_1)).trans hx115_1
   replace hx115_2 := (HB.out.cell (World.block_lt_of_cell? w _ hx115_2)).trans hx115_2
   replace hx115_3 := (HB.out.cell (World.block_lt_of_cell? w _ hx115_3)).trans hx115_3
   have c9b0 : decide ((k : Int) < (l0_2.length : Int)) = true := decide_eq_true q115
   go_wp2_with (first | ((with_reducible refine gate_dst (N := 7) rfl ?_); refine box_event ?hg (N := 7) ?hd (cs := #[.int .i64 0, .int .i64 0, .int .i64 0, .int .i64 0]) (t := 74) ?hr ?_; (case hd => rfl); (case hg => rfl); (case hr => first | (go_simp; done) | (go_simp; rfl)); intro gb116 hg w16 hbox hb; have n0_ := Aside0.mk (Kd.S_below (by (with_reducible repeat (first | apply Kd.S_alloc | apply Kd.S_drewN | apply Kd.S_drew)); exact HO_3.out) hb); have n1_ := Aside0.mk (blk_below (g := gb111) (o := (.cells #[.int .i64 a0_0, .bool a0_1, .slice (some ad115) l0_2.length c0_2] 24 (0, 0))) (by (with_reducible repeat (first | refine blk_drewN ?_ _ | refine blk_drew ?_ | refine blk_alloc ?_ _)); exact BK111.out) hb); have n2_ := Aside0.mk (below_step (by repeat (first | (with_reducible first | exact HB.out | apply below_alloc | apply pw_below_drewN | apply below_drew1 | refine below_set ?_ GE111.out) | exact HB.out)) hb); have n3_ := Aside0.mk (hbox); have n5_ := Aside0.mk ((by rw [hg]; exact (below_size (by repeat (first | (with_reducible first | exact HB.out | apply below_alloc | apply pw_below_drewN | apply below_drew1 | refine below_set ?_ GE111.out) | exact HB.out))) : w.heap.size ≤ gb116)); have n6_ := Aside0.mk ((by rw [hg]; exact Nat.ne_of_lt (blk_lt (g := gb111) (o := (.cells #[.int .i64 a0_0, .bool a0_1, .slice (some ad115) l0_2.length c0_2] 24 (0, 0))) (by (with_reducible repeat (first | refine blk_drewN ?_ _ | refine blk_drew ?_ | refine blk_alloc ?_ _)); exact BK111.out)) : gb111 ≠ gb116)); have n7_ := Aside0.mk ((by rw [hg]; exact Nat.ne_of_gt (blk_lt (g := gb111) (o := (.cells #[.int .i64 a0_0, .bool a0_1, .slice (some ad115) l0_2.length c0_2] 24 (0, 0))) (by (with_reducible repeat (first | refine blk_drewN ?_ _ | refine blk_drew ?_ | refine blk_alloc ?_ _)); exact BK111.out)) : gb116 ≠ gb111)); clear HO_3; clear BK111; clear HB; have HO_3 := n0_; have BK111 := n1_; have HB := n2_; have BK116 := n3_; have GE116 := n5_; have NB111_116 := n6_; have NB116_111 := n7_; clear n0_ n1_ n2_ n3_ n5_ n6_ n7_; clear hb hbox hg; have hnb17 := NB116_111.out; have hnc17 := NB111_116.out; have hcz18_0 : w16.cell? ⟨gb116, 0, none⟩ = some (.int .i64 0) := (blk_cell BK116.out 0).trans rfl; have hcz18_1 : w16.cell? ⟨gb116, 1, none⟩ = some (.int .i64 0) := (blk_cell BK116.out 1).trans rfl; have hcz18_2 : w16.cell? ⟨gb116, 2, none⟩ = some (.int .i64 0) := (blk_cell BK116.out 2).trans rfl; have hcz18_3 : w16.cell? ⟨gb116, 3, none⟩ = some (.int .i64 0) := (blk_cell BK116.out 3).trans rfl; have hfz18_0 := blk_frozen BK116.out 0; have hfz18_1 := blk_frozen BK116.out 1; have hfz18_2 := blk_frozen BK116.out 2; have hfz18_3 := blk_frozen BK116.out 3) | ((with_reducible refine gate_store (t := 74) (p := 7) rfl ?_); refine store_event (t := 74) (p := 7) (v := ?vo_w19) (w1 := ((((w16.setCell ⟨gb116, 0, none⟩ (.int .i64 (rd_T74 l0_2 (k : Int)).f0)).setCell ⟨gb116, 1, none⟩ (.int .i64 (rd_T74 l0_2 (k : Int)).f1)).setCell ⟨gb116, 2, none⟩ (.int .i64 (rd_T74 l0_2 (k : Int)).f2)).setCell ⟨gb116, 3, none⟩ (.int .i64 (rd_T74 l0_2 (k : Int)).f3))) ?hg ?ho ?hn ?hr ?_; (case ho => rfl); (case hg => rfl); (case hn => rfl); (case hr => first | (go_simp; done) | (go_simp; rfl)); intro w19 hw; have n0_ : Aside0 (Kd.S (Kd.slice 3 (Kd.int .i64)) 25 w19 w.heap.size (fun _ => True) v113 (lsAt eFrom l0_2 a0_0.toNat k)) := ⟨(by rw [hw]; exact (by (with_reducible repeat (first | apply Kd.S_alloc | apply Kd.S_drewN | apply Kd.S_drew)); exact Kd.S_mono (Kd.S_far (p := ⟨gb116, 3, none⟩) (Kd.S_far (p := ⟨gb116, 2, none⟩) (Kd.S_far (p := ⟨gb116, 1, none⟩) (Kd.S_far (p := ⟨gb116, 0, none⟩) (Kd.S_types HO_3.out BK116.out (by decide)) (fun _ hk => hk.2) (.int .i64 (rd_T74 l0_2 (k : Int)).f0)) (fun _ hk => hk.2) (.int .i64 (rd_T74 l0_2 (k : Int)).f1)) (fun _ hk => hk.2) (.int .i64 (rd_T74 l0_2 (k : Int)).f2)) (fun _ hk => hk.2) (.int .i64 (rd_T74 l0_2 (k : Int)).f3)) (fun _ hk => trivial)))⟩; have n1_ : Aside0 (w19.heap[gb111]? = some (.cells #[.int .i64 a0_0, .bool a0_1, .slice (some ad115) l0_2.length c0_2] 24 (0, 0))) := ⟨(by rw [hw]; exact (by (with_reducible repeat (first | refine blk_drewN ?_ _ | refine blk_drew ?_ | refine blk_alloc ?_ _)); refine blk_far ?_ NB111_116.out _; (with_reducible repeat (first | refine blk_drewN ?_ _ | refine blk_drew ?_ | refine blk_alloc ?_ _)); refine blk_far ?_ NB111_116.out _; (with_reducible repeat (first | refine blk_drewN ?_ _ | refine blk_drew ?_ | refine blk_alloc ?_ _)); refine blk_far ?_ NB111_116.out _; (with_reducible repeat (first | refine blk_drewN ?_ _ | refine blk_drew ?_ | refine blk_alloc ?_ _)); refine blk_far ?_ NB111_116.out _; (with_reducible repeat (first | refine blk_drewN ?_ _ | refine blk_drew ?_ | refine blk_alloc ?_ _)); exact BK111.out))⟩; have n2_ : Aside0 (w19.heap[gb116]? = some (.cells #[.int .i64 (rd_T74 l0_2 (k : Int)).f0, .int .i64 (rd_T74 l0_2 (k : Int)).f1, .int .i64 (rd_T74 l0_2 (k : Int)).f2, .int .i64 (rd_T74 l0_2 (k : Int)).f3] 74 (0, 0))) := ⟨(by rw [hw]; exact (by (with_reducible repeat (first | refine blk_drewN ?_ _ | refine blk_drew ?_ | refine blk_alloc ?_ _)); refine blk_put (cs := #[.int .i64 (rd_T74 l0_2 (k : Int)).f0, .int .i64 (rd_T74 l0_2 (k : Int)).f1, .int .i64 (rd_T74 l0_2 (k : Int)).f2, .int .i64 0]) ?_ 3 _ rfl; (with_reducible repeat (first | refine blk_drewN ?_ _ | refine blk_drew ?_ | refine blk_alloc ?_ _)); refine blk_put (cs := #[.int .i64 (rd_T74 l0_2 (k : Int)).f0, .int .i64 (rd_T74 l0_2 (k : Int)).f1, .int .i64 0, .int .i64 0]) ?_ 2 _ rfl; (with_reducible repeat (first | refine blk_drewN ?_ _ | refine blk_drew ?_ | refine blk_alloc ?_ _)); refine blk_put (cs := #[.int .i64 (rd_T74 l0_2 (k : Int)).f0, .int .i64 0, .int .i64 0, .int .i64 0]) ?_ 1 _ rfl; (with_reducible repeat (first | refine blk_drewN ?_ _ | refine blk_drew ?_ | refine blk_alloc ?_ _)); refine blk_put (cs := #[.int .i64 0, .int .i64 0, .int .i64 0, .int .i64 0]) ?_ 0 _ rfl; (with_reducible repeat (first | refine blk_drewN ?_ _ | refine blk_drew ?_ | refine blk_alloc ?_ _)); exact BK116.out))⟩; have n3_ : Aside0 (Below w.heap.size w w19) := ⟨(by rw [hw]; exact (by repeat (first | (with_reducible first | exact HB.out | apply below_alloc | apply pw_below_drewN | apply below_drew1 | refine below_set ?_ GE111.out | refine below_set ?_ GE116.out) | exact HB.out)))⟩; clear hw; clear HO_3; clear BK111; clear BK116; clear HB; have HO_3 := n0_; have BK111 := n1_; have BK116 := n2_; have HB := n3_; clear n0_ n1_ n2_ n3_; have hcz20_0 : w19.cell? ⟨gb116, 0, none⟩ = some (.int .i64 (rd_T74 l0_2 (k : Int)).f0) := (blk_cell BK116.out 0).trans rfl; have hcz20_1 : w19.cell? ⟨gb116, 1, none⟩ = some (.int .i64 (rd_T74 l0_2 (k : Int)).f1) := (blk_cell BK116.out 1).trans rfl; have hcz20_2 : w19.cell? ⟨gb116, 2, none⟩ = some (.int .i64 (rd_T74 l0_2 (k : Int)).f2) := (blk_cell BK116.out 2).trans rfl; have hcz20_3 : w19.cell? ⟨gb116, 3, none⟩ = some (.int .i64 (rd_T74 l0_2 (k : Int)).f3) := (blk_cell BK116.out 3).trans rfl; have hfz20_0 := blk_frozen BK116.out 0; have hfz20_1 := blk_frozen BK116.out 1; have hfz20_2 := blk_frozen BK116.out 2; have hfz20_3 := blk_frozen BK116.out 3) | (go_at_call 160; refine (adj_from.calls (rd_T74 l0_2 (k : Int)).f0 (rd_T74 l0_2 (k : Int)).f1 (rd_T74 l0_2 (k : Int)).f2 (rd_T74 l0_2 (k : Int)).f3 _ _ rfl).mono ?_; rintro e_ w20 ⟨rfl, hb⟩; rw [show (rd_T74 l0_2 (k : Int)).f0 = ex from hex.out]; have n0_ := Aside0.mk (Kd.S_below (by (with_reducible repeat (first | apply Kd.S_alloc | apply Kd.S_drewN | apply Kd.S_drew)); exact HO_3.out) hb); have n1_ := Aside0.mk (blk_below (g := gb111) (o := (.cells #[.int .i64 a0_0, .bool a0_1, .slice (some ad115) l0_2.length c0_2] 24 (0, 0))) (by (with_reducible repeat (first | refine blk_drewN ?_ _ | refine blk_drew ?_ | refine blk_alloc ?_ _)); exact BK111.out) hb); have n2_ := Aside0.mk (below_step (by repeat (first | (with_reducible first | exact HB.out | apply below_alloc | apply pw_below_drewN | apply below_drew1 | refine below_set ?_ GE111.out | refine below_set ?_ GE116.out) | exact HB.out)) hb); clear HO_3 BK111 HB BK116 hcz20_0 hcz20_1 hcz20_2 hcz20_3 hfz20_0 hfz20_1 hfz20_2 hfz20_3 hb; have HO_3 := n0_; have BK111 := n1_; have HB := n2_; clear n0_ n1_ n2_; obtain ⟨Ao21, co21, eo21⟩ := Kd.S_slice HO_3.out; subst eo21; have p117 : 0 ≤ (ex : Int) := (of_decide_eq_true (by first | (with_reducible assumption) | assumption)); have q117 : ex < ((lsAt eFrom l0_2 a0_0.toNat k).length : Int) := (of_decide_eq_true (by first | (with_reducible assumption) | assumption)); obtain ⟨ad117, A117_0, c117_0, e117, hx117_0, hl117_0, hi117_0⟩ := at_L7 (Kd.S_reads' HO_3.out).2.2 ex p117 q117; cases e117; obtain ⟨ce117, hce117, hMe117, hcc117⟩ := Kd.S_get HO_3.out [] ex p117 (by first | exact q117 | (have e_ := (Kd.S_reads' HO_3.out).1; omega)); obtain ⟨ve117_0, rfl, ge117_0⟩ := hMe117; have hv117_0 := hcc117 0 _ rfl; rw [Nat.add_zero, show ((Kd.slice 3 (Kd.int .i64))).sz = 1 from rfl, Nat.mul_one] at hv117_0; replace hv117_0 := Option.some.inj (hv117_0.symm.trans hx117_0); rw [hv117_0] at ge117_0; have HL117_0 := Aside0.mk (show Kd.R (Kd.int .i64) 3 _ _ _ _ (rd_L7 (lsAt eFrom l0_2 a0_0.toNat k) ex) from ge117_0); clear hv117_0 ge117_0; have HX117_0 := Aside0.mk hx117_0; clear hcc117 hce117; have HR117_0 := Aside0.mk hi117_0; have HC117_0 := Aside0.mk hl117_0; clear hi117_0 hl117_0; replace p117 := eq_true p117; replace q117 := eq_true q117; obtain ⟨go22, co22, eo22, gb22, gl22, cl22, HG22⟩ := Kd.S_form HO_3.out (by have h_ : (ex : Int) < ((lsAt eFrom l0_2 a0_0.toNat k).length : Int) := (of_decide_eq_true (by first | (with_reducible assumption) | assumption)); have h2_ : 0 ≤ (ex : Int) := (of_decide_eq_true (by first | (with_reducible assumption) | assumption)); omega); (first | cases eo22 | (injection eo22 with ea_ en_ ec_; (first | subst ea_ | (injection ea_ with ea_; subst ea_)); subst ec_; clear en_)); have GB22 := Aside0.mk gb22; have GG22 := Aside0.mk HG22; clear gb22 gl22 HG22; (first | simp only [add_plain] at hx117_0 | skip); obtain ⟨oki22, ce22, hcl22, hM22, hcc22, _, _, hH22⟩ := Kd.S_elem HO_3.out [] (ex : Int) (of_decide_eq_true (by first | (with_reducible assumption) | assumption)) (by have h_ : (ex : Int) < ((lsAt eFrom l0_2 a0_0.toNat k).length : Int) := of_decide_eq_true (by first | (with_reducible assumption) | assumption); first | exact h_ | (have e_ := (Kd.S_reads' HO_3.out).1; omega) | simpa using h_); obtain ⟨ve22_0, rfl, ge22_0⟩ := hM22; have hv22 := hcc22 0 _ rfl; have hX22 := HX117_0.out; (try simp only [add_plain] at hX22); (try simp only [Nat.add_zero] at hv22); (try rw [show ((Kd.slice 3 (Kd.int .i64))).sz = 1 from rfl, Nat.mul_one] at hv22); replace hv22 := Option.some.inj (hv22.symm.trans hX22); subst hv22; clear hX22 hcc22 hcl22; have UU22 := Aside0.mk (show Kd.R (Kd.int .i64) 3 _ w.heap.size oki22 (.slice A117_0 (rd_L7 (lsAt eFrom l0_2 a0_0.toNat k) ex).length c117_0) (rd_L7 (lsAt eFrom l0_2 a0_0.toNat k) ex) from ge22_0); have HH22 := Aside0.mk hH22; have HN22 := Aside0.mk (Kd.S_reads' HO_3.out).1; clear hH22 ge22_0) | ((with_reducible refine gate_builtin (b := .append) (xs := #[.tmp 28, .tmp 30]) rfl ?_); at_builtin; refine Kd.R_append (Kd.int .i64) (w0 := w) w.heap.size rfl (.tmp 28) (.tmp 30) 25 3 (.int .i64 0) 8 rfl Try.underlying25 info3 rfl (by decide) (by omega) (.slice A117_0 (rd_L7 (lsAt eFrom l0_2 a0_0.toNat k) ex).length c117_0) (rd_L7 (lsAt eFrom l0_2 a0_0.toNat k) ex) (k : Int) [.int .i64 (k : Int)] (fun k_ => oki22 k_ ∨ ((fun _ => True)) k_ ∧ w20.heap.size ≤ k_) (fun _ => False) rfl rfl ?aP (fun _ hk => hk.elim) ?aF ?aO ?aB ?aS ?aL ?_; (case aP => exact rfl); (case aB => exact (by repeat (first | (with_reducible first | exact HB.out | apply below_alloc | apply pw_below_drewN | apply below_drew1 | refine below_set ?_ GE111.out) | exact HB.out))); (case aF => exact (fun k_ hk => .inr ⟨trivial, hk⟩)); (case aO => exact (by (with_reducible repeat (first | apply Kd.R_alloc | apply Kd.R_drewN | apply Kd.R_drew)); exact Kd.R_mono UU22.out (fun _ hk => .inl hk))); (case aS => exact (below_size (by repeat (first | (with_reducible first | exact HB.out | apply below_alloc | apply pw_below_drewN | apply below_drew1 | refine below_set ?_ GE111.out) | exact HB.out)))); (case aL => have := LMc14.out; omega); intro v119 w23 ho hb hg hat; have n0_ := Aside0.mk (blk_grown (g := gb111) (o := (.cells #[.int .i64 a0_0, .bool a0_1, .slice (some ad115) l0_2.length c0_2] 24 (0, 0))) (by (with_reducible repeat (first | refine blk_drewN ?_ _ | refine blk_drew ?_ | refine blk_alloc ?_ _)); exact BK111.out) hg (Kd.R_ne HL117_0.out BK111.out (by decide))); have n2_ := Aside0.mk (hb); have n3_ := Aside0.mk (Kd.H_grown (Kd.H_widen (by repeat (first | exact HH22.out | refine Kd.H_alloc ?_ _ | refine Kd.H_drewN ?_ _ | refine Kd.H_drew ?_))) hg (fun k_ e_ => .inl (UU22.out.1 k_ e_))); have n4_ := Aside0.mk (ho); clear BK111; clear HB; clear HH22; clear HO_3; clear UU22; clear HL117_0; have BK111 := n0_; have HB := n2_; have HH22 := n3_; have HO120 := n4_; clear n0_ n2_ n3_ n4_; clear ho hb hg hat; have p15 : 0 ≤ (ex : Int) := (of_decide_eq_true (by first | (with_reducible assumption) | assumption)); have q15 : (ex : Int) < ((lsAt eFrom l0_2 a0_0.toNat k).length : Int) := (of_decide_eq_true (by first | (with_reducible assumption) | assumption)); replace p15 := eq_true p15; replace q15 := eq_true q15; obtain ⟨Ao26, co26, eo26⟩ := Kd.R_slice HO120.out; subst eo26; obtain ⟨_, _, hraw24, _, _, hcc24, _⟩ := Kd.H_raw HH22.out (of_decide_eq_true (by first | (with_reducible assumption) | assumption)) (by have h_ : (ex : Int) < ((lsAt eFrom l0_2 a0_0.toNat k).length : Int) := of_decide_eq_true (by first | (with_reducible assumption) | assumption); first | exact h_ | (have e_ := (HN22.out); omega) | simpa using h_); obtain ⟨_, hfr24⟩ := Kd.H_at HH22.out (of_decide_eq_true (by first | (with_reducible assumption) | assumption)) (by have h_ : (ex : Int) < ((lsAt eFrom l0_2 a0_0.toNat k).length : Int) := of_decide_eq_true (by first | (with_reducible assumption) | assumption); first | exact h_ | (have e_ := (HN22.out); omega) | simpa using h_); have hx24_0 := hcc24 0 _ rfl; have hf24_0 := hfr24 0; (try simp only [Nat.add_zero] at hx24_0 hf24_0); (try rw [show ((Kd.slice 3 (Kd.int .i64))).sz = 1 from rfl, Nat.mul_one] at hx24_0); (try rw [show ((Kd.slice 3 (Kd.int .i64))).sz = 1 from rfl, Nat.mul_one] at hf24_0); have HP24 := Kd.S_seg0 HH22.out (of_decide_eq_true (by first | (with_reducible assumption) | assumption)) (by have h_ : (ex : Int) < ((lsAt eFrom l0_2 a0_0.toNat k).length : Int) := of_decide_eq_true (by first | (with_reducible assumption) | assumption); first | exact h_ | (have e_ := (HN22.out); omega) | simpa using h_) (seg := [.slice Ao26 (rd_L7 (lsAt eFrom l0_2 a0_0.toNat k) ex ++ [(k : Int)]).length co26]) (j := 0) (show 1 ≤ 1 from by decide) (x' := rd_L7 (lsAt eFrom l0_2 a0_0.toNat k) ex ++ [(k : Int)]) (Kd.M_row HO120.out) (fun _ hk => hk); (try simp only [show ((Kd.slice 3 (Kd.int .i64))).sz = 1 from rfl, Nat.mul_one, Nat.add_zero] at HP24); clear hcc24 hfr24) | ((with_reducible refine gate_store (t := 25) (p := 32) rfl ?_); refine store_event (t := 25) (p := 32) (v := ?vo_w25) (w1 := (w23.setCell ⟨go22, (ex : Int).toNat, none⟩ (.slice Ao26 (rd_L7 (lsAt eFrom l0_2 a0_0.toNat k) ex ++ [(k : Int)]).length co26))) ?hg ?ho ?hn ?hr ?_; (case ho => rfl); (case hg => rfl); (case hn => rfl); (case hr => first | (go_simp; done) | (go_simp; rfl)); intro w25 hw; have hg : w23.grownBy w25 (some go22) := (by rw [hw]; exact HP24.2); have hp_ : Kd.S (Kd.slice 3 (Kd.int .i64)) 25 w25 w.heap.size (fun _ => True) (.slice (some ⟨go22, 0, none⟩) (lsAt eFrom l0_2 a0_0.toNat k).length co21) (lsAt eFrom l0_2 a0_0.toNat (k + 1)) := (by rw [hw, LSN.out]; exact HP24.1); clear HP24; have n0_ := Aside0.mk (blk_grown (g := gb111) (o := (.cells #[.int .i64 a0_0, .bool a0_1, .slice (some ad115) l0_2.length c0_2] 24 (0, 0))) (by (with_reducible repeat (first | refine blk_drewN ?_ _ | refine blk_drew ?_ | refine blk_alloc ?_ _)); exact BK111.out) hg (Kd.R_ne hraw24 BK111.out (by decide))); have n2_ := Aside0.mk ((by rw [hw]; exact below_set HB.out GB22.out : Below w.heap.size w w25)); have n3_ := Aside0.mk (hp_); clear BK111; clear HB; clear HO120; clear HH22; have BK111 := n0_; have HB := n2_; have HO_3 := n3_; clear n0_ n2_ n3_; clear hg hw hp_ hraw24))
   go_roundw
   case rel => exact ⟨k + 1, by omega, by first | rfl | go_num, ⟨by (with_reducible repeat (first | apply Kd.S_alloc | apply Kd.S_drewN | apply Kd.S_drew)); exact HO_3.out⟩, ⟨by (with_reducible repeat (first | refine blk_drewN ?_ _ | refine blk_drew ?_ | refine blk_alloc ?_ _)); exact BK111.out⟩, ⟨(by repeat (first | (with_reducible first | exact HB.out | apply below_alloc | apply pw_below_drewN | apply below_drew1 | refine below_set ?_ GE111.out) | exact HB.out))⟩⟩
   case measure => simp [intOf] <;> omega
  ·have ek : k = l0_2.length := by omega
   subst ek
   have c9b0 : decide ((l0_2.length : Int) < (l0_2.length : Int)) = false := decide_eq_false (by omega)
   go_wp2
   go_ret
   exact ⟨_, rfl, by (with_reducible repeat (first | apply Kd.S_alloc | apply Kd.S_drewN | apply Kd.S_drew)); exact HO_3.out, (by repeat (first | (with_reducible first | exact HB.out | apply below_alloc | apply pw_below_drewN | apply below_drew1 | refine below_set ?_ GE111.out) | exact HB.out))⟩
set_option maxHeartbeats 4000000 in
set_option maxRecDepth 100000 in
theorem listsTo_calls (a0_0 : Int) (a0_1 : Bool) (A0_2 : Option Addr) (c0_2 : Nat) (l0_2 : List S74) (w : World) (hr0_2 : Kd.C k74 w A0_2 l0_2.length l0_2) (hc0_2 : l0_2.length ≤ c0_2) (h0 : 0 ≤ a0_0) (h1 : a0_0 ≤ 1000000) (hl : l0_2.length ≤ 1000000) (hE : ∀ k : Nat, k < l0_2.length → 0 ≤ eTo (rd_T74 l0_2 k) ∧ eTo (rd_T74 l0_2 k) < a0_0) :
  Calls Try.prog 159 #[.agg #[.int .i64 a0_0, .bool a0_1, .slice A0_2 l0_2.length c0_2], .func (.func 161) #[] #[]] w fun e w' => ∃ v0_ : Value, e = .returned v0_ ∧ Kd.S (Kd.slice 3 (Kd.int .i64)) 25 w' w.heap.size (fun _ => True) v0_ (lsAt eTo l0_2 a0_0.toNat l0_2.length) ∧ Below w.heap.size w w' := by
 have hu24 := Try.underlying24
 have hu74 := Try.underlying74
 have HR0_2 := Aside0.mk hr0_2
 have HC0_2 := Aside0.mk hc0_2
 have HE := Aside0.mk hE
 clear hr0_2 hc0_2 hE
 have HB := Aside0.mk (Below.refl w.heap.size w)
 have c2b1 : decide (0 ≤ a0_0) = true := decide_eq_true h0
 have c3b1 : decide ((a0_0 : Int).toNat ≤ 11728124029610) = true := decide_eq_true (by omega)
 have c2b0 := eq_true h0
 have c3b0 : ((a0_0 : Int).toNat ≤ 11728124029610) = True := eq_true (by omega)
 have HH0 := Aside0.mk h0
 have HH1 := Aside0.mk h1
 clear h0 h1
 go_enter Try.func159, Try.ntmps159
 go_wp2_with (first | ((with_reducible refine gate_dst (N := 2) rfl ?_); refine box_event ?hg (N := 2) ?hd (cs := #[.int .i64 a0_0, .bool a0_1, .slice A0_2 l0_2.length c0_2]) (t := 24) ?hr ?_; (case hd => rfl); (case hg => rfl); (case hr => first | (go_simp; done) | (go_simp; rfl)); intro gb111 hg w4 hbox hb; have n0_ := Aside0.mk (below_step (by repeat (first | (with_reducible first | exact HB.out | apply below_alloc | apply pw_below_drewN | apply below_drew1) | exact HB.out)) hb); have n1_ := Aside0.mk (hbox); have n3_ := Aside0.mk ((by rw [hg]; exact (below_size (by repeat (first | (with_reducible first | exact HB.out | apply below_alloc | apply pw_below_drewN | apply below_drew1) | exact HB.out))) : w.heap.size ≤ gb111)); clear HB; have HB := n0_; have BK111 := n1_; have GE111 := n3_; clear n0_ n1_ n3_; clear hb hbox hg; have hcz5_0 : w4.cell? ⟨gb111, 0, none⟩ = some (.int .i64 a0_0) := (blk_cell BK111.out 0).trans rfl; have hcz5_1 : w4.cell? ⟨gb111, 1, none⟩ = some (.bool a0_1) := (blk_cell BK111.out 1).trans rfl; have hcz5_2 : w4.cell? ⟨gb111, 2, none⟩ = some (.slice A0_2 l0_2.length c0_2) := (blk_cell BK111.out 2).trans rfl; have hfz5_0 := blk_frozen BK111.out 0; have hfz5_1 := blk_frozen BK111.out 1; have hfz5_2 := blk_frozen BK111.out 2) | ((with_reducible refine gate_dst (N := 11) rfl ?_); refine Kd.S_make (Kd.slice 3 (Kd.int .i64)) _ 25 rfl (N := 11) rfl 154 _ _ rfl a0_0 rfl rfl Try.underlying154 (.slice none 0 0) 24 infoRow rfl (by decide) (by omega) [] (ok := fun _ => True) (okp := fun _ => True) ⟨_, rfl, Kd.R_nil _ _ _ _ _⟩ (fun _ hk => hk) trivial (of_decide_eq_true (by first | (with_reducible assumption) | assumption)) (Nat.le_trans (Nat.mul_le_mul_right _ (of_decide_eq_true (by first | (with_reducible assumption) | assumption) : a0_0.toNat ≤ 11728124029610)) (by omega)) (Below.refl _ _) (Nat.le_refl _) ?_; intro v113 w6 ho7 hb hg_ hnew_; clear hg_ hnew_; have n0_ := Aside0.mk (Kd.S_lower ho7 (below_size (by repeat (first | (with_reducible first | exact HB.out | apply below_alloc | apply pw_below_drewN | apply below_drew1 | refine below_set ?_ GE111.out) | exact HB.out)))); have n1_ := Aside0.mk (blk_below (g := gb111) (o := .cells #[.int .i64 a0_0, .bool a0_1, .slice A0_2 l0_2.length c0_2] 24 (0, 0)) (by (with_reducible repeat (first | refine blk_drewN ?_ _ | refine blk_drew ?_ | refine blk_alloc ?_ _)); exact BK111.out) hb); have n2_ := Aside0.mk (below_step (by repeat (first | (with_reducible first | exact HB.out | apply below_alloc | apply pw_below_drewN | apply below_drew1 | refine below_set ?_ GE111.out) | exact HB.out)) hb); clear BK111; clear HB; have HO114 := n0_; have BK111 := n1_; have HB := n2_; clear n0_ n1_ n2_; clear hb ho7; have hcz8_0 : w6.cell? ⟨gb111, 0, none⟩ = some (.int .i64 a0_0) := (blk_cell BK111.out 0).trans rfl; have hcz8_1 : w6.cell? ⟨gb111, 1, none⟩ = some (.bool a0_1) := (blk_cell BK111.out 1).trans rfl; have hcz8_2 : w6.cell? ⟨gb111, 2, none⟩ = some (.slice A0_2 l0_2.length c0_2) := (blk_cell BK111.out 2).trans rfl; have hfz8_0 := blk_frozen BK111.out 0; have hfz8_1 := blk_frozen BK111.out 1; have hfz8_2 := blk_frozen BK111.out 2))
 go_loopw [15] (fun v15 w' => ∃ k : Nat, k ≤ l0_2.length ∧ v15 = .int .i64 k ∧ Aside0 (Kd.S (Kd.slice 3 (Kd.int .i64)) 25 w' w.heap.size (fun _ => True) v113 (lsAt eTo l0_2 a0_0.toNat k)) ∧ Aside0 (w'.heap[gb111]? = some (.cells #[.int .i64 a0_0, .bool a0_1, (.slice A0_2 l0_2.length c0_2)] 24 (0, 0))) ∧ Aside0 (Below w.heap.size w w')) (fun v15 _ => l0_2.length - (intOf v15).toNat)
 case atStart => exact ⟨0, Nat.zero_le _, rfl, ⟨by (with_reducible repeat (first | apply Kd.S_alloc | apply Kd.S_drewN | apply Kd.S_drew)); exact HO114.out⟩, ⟨by (with_reducible repeat (first | refine blk_drewN ?_ _ | refine blk_drew ?_ | refine blk_alloc ?_ _)); exact BK111.out⟩, ⟨(by repeat (first | (with_reducible first | exact HB.out | apply below_alloc | apply pw_below_drewN | apply below_drew1 | refine below_set ?_ GE111.out) | exact HB.out))⟩⟩
 case round =>
  try clear c2b0
  try clear c2b1
  try clear c3b0
  try clear c3b1
  try clear hcz5_0 hcz5_1 hcz5_2 hcz8_0 hcz8_1 hcz8_2 hfz5_0 hfz5_1 hfz5_2 hfz8_0 hfz8_1 hfz8_2
  clear HO114 BK111 HB
  obtain ⟨k, hk, rfl, HO_3, BK111, HB⟩ := hrel
  by_cases hlt : k < l0_2.length
  ·have hEk := HE.out k hlt
   obtain ⟨ex, hex0⟩ : ∃ ex, eTo (rd_T74 l0_2 (k : Int)) = ex := ⟨_, rfl⟩
   have hex := Aside0.mk hex0
   have LSN : Aside0 (lsAt eTo l0_2 a0_0.toNat (k + 1) = (lsAt eTo l0_2 a0_0.toNat k).set (ex : Int).toNat (rd_L7 (lsAt eTo l0_2 a0_0.toNat k) ex ++ [(k : Int)])) := ⟨by rw [← hex0]; rfl⟩
   rw [hex0] at hEk
   clear hex0
   have hlen := lsAt_len eTo l0_2 a0_0.toNat k
   have c12b0 : decide (0 ≤ ex) = true := decide_eq_true hEk.1
   have c13b0 : decide (ex < ((lsAt eTo l0_2 a0_0.toNat k).length : Int)) = true := decide_eq_true (by rw [hlen]; have := HH0.out; omega)
   have LMc14 : Aside0 ((rd_L7 (lsAt eTo l0_2 a0_0.toNat k) ex).length < 17592186044416) := ⟨by have := lsAt_row eTo l0_2 a0_0.toNat k ex; omega⟩
   clear hEk hlen
   have p115 : 0 ≤ ((k : Nat) : Int) := by omega
   have q115 : ((k : Nat) : Int) < (l0_2.length : Int) := by omega
   obtain ⟨ad115, e115, hx115_0, hx115_1, hx115_2, hx115_3⟩ := at_T74 HR0_2.out (k : Int) p115 q115
   simp only [Int.toNat_natCast] at hx115_0 hx115_1 hx115_2 hx115_3
   cases e115
   replace hx115_0 := (HB.out.cell (World.block_lt_of_cell? w _ hx115_0)).trans hx115_0
   replace hx115_1 := (HB.out.cell (World.block_lt_of_cell? w _ hx115_1)).trans hx115_1
   replace hx115_2 := (HB.out.cell (World.block_lt_of_cell? w _ hx115_2)).trans hx115_2
   replace hx115_3 := (HB.out.cell (World.block_lt_of_cell? w _ hx115_3)).trans hx115_3
   have c9b0 : decide ((k : Int) < (l0_2.length : Int)) = true := decide_eq_true q115
   go_wp2_with (first | ((with_reducible refine gate_dst (N := 7) rfl ?_); refine box_event ?hg (N := 7) ?hd (cs := #[.int .i64 0, .int .i64 0, .int .i64 0, .int .i64 0]) (t := 74) ?hr ?_; (case hd => rfl); (case hg => rfl); (case hr => first | (go_simp; done) | (go_simp; rfl)); intro gb116 hg w16 hbox hb; have n0_ := Aside0.mk (Kd.S_below (by (with_reducible repeat (first | apply Kd.S_alloc | apply Kd.S_drewN | apply Kd.S_drew)); exact HO_3.out) hb); have n1_ := Aside0.mk (blk_below (g := gb111) (o := (.cells #[.int .i64 a0_0, .bool a0_1, .slice (some ad115) l0_2.length c0_2] 24 (0, 0))) (by (with_reducible repeat (first | refine blk_drewN ?_ _ | refine blk_drew ?_ | refine blk_alloc ?_ _)); exact BK111.out) hb); have n2_ := Aside0.mk (below_step (by repeat (first | (with_reducible first | exact HB.out | apply below_alloc | apply pw_below_drewN | apply below_drew1 | refine below_set ?_ GE111.out) | exact HB.out)) hb); have n3_ := Aside0.mk (hbox); have n5_ := Aside0.mk ((by rw [hg]; exact (below_size (by repeat (first | (with_reducible first | exact HB.out | apply below_alloc | apply pw_below_drewN | apply below_drew1 | refine below_set ?_ GE111.out) | exact HB.out))) : w.heap.size ≤ gb116)); have n6_ := Aside0.mk ((by rw [hg]; exact Nat.ne_of_lt (blk_lt (g := gb111) (o := (.cells #[.int .i64 a0_0, .bool a0_1, .slice (some ad115) l0_2.length c0_2] 24 (0, 0))) (by (with_reducible repeat (first | refine blk_drewN ?_ _ | refine blk_drew ?_ | refine blk_alloc ?_ _)); exact BK111.out)) : gb111 ≠ gb116)); have n7_ := Aside0.mk ((by rw [hg]; exact Nat.ne_of_gt (blk_lt (g := gb111) (o := (.cells #[.int .i64 a0_0, .bool a0_1, .slice (some ad115) l0_2.length c0_2] 24 (0, 0))) (by (with_reducible repeat (first | refine blk_drewN ?_ _ | refine blk_drew ?_ | refine blk_alloc ?_ _)); exact BK111.out)) : gb116 ≠ gb111)); clear HO_3; clear BK111; clear HB; have HO_3 := n0_; have BK111 := n1_; have HB := n2_; have BK116 := n3_; have GE116 := n5_; have NB111_116 := n6_; have NB116_111 := n7_; clear n0_ n1_ n2_ n3_ n5_ n6_ n7_; clear hb hbox hg; have hnb17 := NB116_111.out; have hnc17 := NB111_116.out; have hcz18_0 : w16.cell? ⟨gb116, 0, none⟩ = some (.int .i64 0) := (blk_cell BK116.out 0).trans rfl; have hcz18_1 : w16.cell? ⟨gb116, 1, none⟩ = some (.int .i64 0) := (blk_cell BK116.out 1).trans rfl; have hcz18_2 : w16.cell? ⟨gb116, 2, none⟩ = some (.int .i64 0) := (blk_cell BK116.out 2).trans rfl; have hcz18_3 : w16.cell? ⟨gb116, 3, none⟩ = some (.int .i64 0) := (blk_cell BK116.out 3).trans rfl; have hfz18_0 := blk_frozen BK116.out 0; have hfz18_1 := blk_frozen BK116.out 1; have hfz18_2 := blk_frozen BK116.out 2; have hfz18_3 := blk_frozen BK116.out 3) | ((with_reducible refine gate_store (t := 74) (p := 7) rfl ?_); refine store_event (t := 74) (p := 7) (v := ?vo_w19) (w1 := ((((w16.setCell ⟨gb116, 0, none⟩ (.int .i64 (rd_T74 l0_2 (k : Int)).f0)).setCell ⟨gb116, 1, none⟩ (.int .i64 (rd_T74 l0_2 (k : Int)).f1)).setCell ⟨gb116, 2, none⟩ (.int .i64 (rd_T74 l0_2 (k : Int)).f2)).setCell ⟨gb116, 3, none⟩ (.int .i64 (rd_T74 l0_2 (k : Int)).f3))) ?hg ?ho ?hn ?hr ?_; (case ho => rfl); (case hg => rfl); (case hn => rfl); (case hr => first | (go_simp; done) | (go_simp; rfl)); intro w19 hw; have n0_ : Aside0 (Kd.S (Kd.slice 3 (Kd.int .i64)) 25 w19 w.heap.size (fun _ => True) v113 (lsAt eTo l0_2 a0_0.toNat k)) := ⟨(by rw [hw]; exact (by (with_reducible repeat (first | apply Kd.S_alloc | apply Kd.S_drewN | apply Kd.S_drew)); exact Kd.S_mono (Kd.S_far (p := ⟨gb116, 3, none⟩) (Kd.S_far (p := ⟨gb116, 2, none⟩) (Kd.S_far (p := ⟨gb116, 1, none⟩) (Kd.S_far (p := ⟨gb116, 0, none⟩) (Kd.S_types HO_3.out BK116.out (by decide)) (fun _ hk => hk.2) (.int .i64 (rd_T74 l0_2 (k : Int)).f0)) (fun _ hk => hk.2) (.int .i64 (rd_T74 l0_2 (k : Int)).f1)) (fun _ hk => hk.2) (.int .i64 (rd_T74 l0_2 (k : Int)).f2)) (fun _ hk => hk.2) (.int .i64 (rd_T74 l0_2 (k : Int)).f3)) (fun _ hk => trivial)))⟩; have n1_ : Aside0 (w19.heap[gb111]? = some (.cells #[.int .i64 a0_0, .bool a0_1, .slice (some ad115) l0_2.length c0_2] 24 (0, 0))) := ⟨(by rw [hw]; exact (by (with_reducible repeat (first | refine blk_drewN ?_ _ | refine blk_drew ?_ | refine blk_alloc ?_ _)); refine blk_far ?_ NB111_116.out _; (with_reducible repeat (first | refine blk_drewN ?_ _ | refine blk_drew ?_ | refine blk_alloc ?_ _)); refine blk_far ?_ NB111_116.out _; (with_reducible repeat (first | refine blk_drewN ?_ _ | refine blk_drew ?_ | refine blk_alloc ?_ _)); refine blk_far ?_ NB111_116.out _; (with_reducible repeat (first | refine blk_drewN ?_ _ | refine blk_drew ?_ | refine blk_alloc ?_ _)); refine blk_far ?_ NB111_116.out _; (with_reducible repeat (first | refine blk_drewN ?_ _ | refine blk_drew ?_ | refine blk_alloc ?_ _)); exact BK111.out))⟩; have n2_ : Aside0 (w19.heap[gb116]? = some (.cells #[.int .i64 (rd_T74 l0_2 (k : Int)).f0, .int .i64 (rd_T74 l0_2 (k : Int)).f1, .int .i64 (rd_T74 l0_2 (k : Int)).f2, .int .i64 (rd_T74 l0_2 (k : Int)).f3] 74 (0, 0))) := ⟨(by rw [hw]; exact (by (with_reducible repeat (first | refine blk_drewN ?_ _ | refine blk_drew ?_ | refine blk_alloc ?_ _)); refine blk_put (cs := #[.int .i64 (rd_T74 l0_2 (k : Int)).f0, .int .i64 (rd_T74 l0_2 (k : Int)).f1, .int .i64 (rd_T74 l0_2 (k : Int)).f2, .int .i64 0]) ?_ 3 _ rfl; (with_reducible repeat (first | refine blk_drewN ?_ _ | refine blk_drew ?_ | refine blk_alloc ?_ _)); refine blk_put (cs := #[.int .i64 (rd_T74 l0_2 (k : Int)).f0, .int .i64 (rd_T74 l0_2 (k : Int)).f1, .int .i64 0, .int .i64 0]) ?_ 2 _ rfl; (with_reducible repeat (first | refine blk_drewN ?_ _ | refine blk_drew ?_ | refine blk_alloc ?_ _)); refine blk_put (cs := #[.int .i64 (rd_T74 l0_2 (k : Int)).f0, .int .i64 0, .int .i64 0, .int .i64 0]) ?_ 1 _ rfl; (with_reducible repeat (first | refine blk_drewN ?_ _ | refine blk_drew ?_ | refine blk_alloc ?_ _)); refine blk_put (cs := #[.int .i64 0, .int .i64 0, .int .i64 0, .int .i64 0]) ?_ 0 _ rfl; (with_reducible repeat (first | refine blk_drewN ?_ _ | refine blk_drew ?_ | refine blk_alloc ?_ _)); exact BK116.out))⟩; have n3_ : Aside0 (Below w.heap.size w w19) := ⟨(by rw [hw]; exact (by repeat (first | (with_reducible first | exact HB.out | apply below_alloc | apply pw_below_drewN | apply below_drew1 | refine below_set ?_ GE111.out | refine below_set ?_ GE116.out) | exact HB.out)))⟩; clear hw; clear HO_3; clear BK111; clear BK116; clear HB; have HO_3 := n0_; have BK111 := n1_; have BK116 := n2_; have HB := n3_; clear n0_ n1_ n2_ n3_; have hcz20_0 : w19.cell? ⟨gb116, 0, none⟩ = some (.int .i64 (rd_T74 l0_2 (k : Int)).f0) := (blk_cell BK116.out 0).trans rfl; have hcz20_1 : w19.cell? ⟨gb116, 1, none⟩ = some (.int .i64 (rd_T74 l0_2 (k : Int)).f1) := (blk_cell BK116.out 1).trans rfl; have hcz20_2 : w19.cell? ⟨gb116, 2, none⟩ = some (.int .i64 (rd_T74 l0_2 (k : Int)).f2) := (blk_cell BK116.out 2).trans rfl; have hcz20_3 : w19.cell? ⟨gb116, 3, none⟩ = some (.int .i64 (rd_T74 l0_2 (k : Int)).f3) := (blk_cell BK116.out 3).trans rfl; have hfz20_0 := blk_frozen BK116.out 0; have hfz20_1 := blk_frozen BK116.out 1; have hfz20_2 := blk_frozen BK116.out 2; have hfz20_3 := blk_frozen BK116.out 3) | (go_at_call 161; refine (adj_to.calls (rd_T74 l0_2 (k : Int)).f0 (rd_T74 l0_2 (k : Int)).f1 (rd_T74 l0_2 (k : Int)).f2 (rd_T74 l0_2 (k : Int)).f3 _ _ rfl).mono ?_; rintro e_ w20 ⟨rfl, hb⟩; rw [show (rd_T74 l0_2 (k : Int)).f1 = ex from hex.out]; have n0_ := Aside0.mk (Kd.S_below (by (with_reducible repeat (first | apply Kd.S_alloc | apply Kd.S_drewN | apply Kd.S_drew)); exact HO_3.out) hb); have n1_ := Aside0.mk (blk_below (g := gb111) (o := (.cells #[.int .i64 a0_0, .bool a0_1, .slice (some ad115) l0_2.length c0_2] 24 (0, 0))) (by (with_reducible repeat (first | refine blk_drewN ?_ _ | refine blk_drew ?_ | refine blk_alloc ?_ _)); exact BK111.out) hb); have n2_ := Aside0.mk (below_step (by repeat (first | (with_reducible first | exact HB.out | apply below_alloc | apply pw_below_drewN | apply below_drew1 | refine below_set ?_ GE111.out | refine below_set ?_ GE116.out) | exact HB.out)) hb); clear HO_3 BK111 HB BK116 hcz20_0 hcz20_1 hcz20_2 hcz20_3 hfz20_0 hfz20_1 hfz20_2 hfz20_3 hb; have HO_3 := n0_; have BK111 := n1_; have HB := n2_; clear n0_ n1_ n2_; obtain ⟨Ao21, co21, eo21⟩ := Kd.S_slice HO_3.out; subst eo21; have p117 : 0 ≤ (ex : Int) := (of_decide_eq_true (by first | (with_reducible assumption) | assumption)); have q117 : ex < ((lsAt eTo l0_2 a0_0.toNat k).length : Int) := (of_decide_eq_true (by first | (with_reducible assumption) | assumption)); obtain ⟨ad117, A117_0, c117_0, e117, hx117_0, hl117_0, hi117_0⟩ := at_L7 (Kd.S_reads' HO_3.out).2.2 ex p117 q117; cases e117; obtain ⟨ce117, hce117, hMe117, hcc117⟩ := Kd.S_get HO_3.out [] ex p117 (by first | exact q117 | (have e_ := (Kd.S_reads' HO_3.out).1; omega)); obtain ⟨ve117_0, rfl, ge117_0⟩ := hMe117; have hv117_0 := hcc117 0 _ rfl; rw [Nat.add_zero, show ((Kd.slice 3 (Kd.int .i64))).sz = 1 from rfl, Nat.mul_one] at hv117_0; replace hv117_0 := Option.some.inj (hv117_0.symm.trans hx117_0); rw [hv117_0] at ge117_0; have HL117_0 := Aside0.mk (show Kd.R (Kd.int .i64) 3 _ _ _ _ (rd_L7 (lsAt eTo l0_2 a0_0.toNat k) ex) from ge117_0); clear hv117_0 ge117_0; have HX117_0 := Aside0.mk hx117_0; clear hcc117 hce117; have HR117_0 := Aside0.mk hi117_0; have HC117_0 := Aside0.mk hl117_0; clear hi117_0 hl117_0; replace p117 := eq_true p117; replace q117 := eq_true q117; obtain ⟨go22, co22, eo22, gb22, gl22, cl22, HG22⟩ := Kd.S_form HO_3.out (by have h_ : (ex : Int) < ((lsAt eTo l0_2 a0_0.toNat k).length : Int) := (of_decide_eq_true (by first | (with_reducible assumption) | assumption)); have h2_ : 0 ≤ (ex : Int) := (of_decide_eq_true (by first | (with_reducible assumption) | assumption)); omega); (first | cases eo22 | (injection eo22 with ea_ en_ ec_; (first | subst ea_ | (injection ea_ with ea_; subst ea_)); subst ec_; clear en_)); have GB22 := Aside0.mk gb22; have GG22 := Aside0.mk HG22; clear gb22 gl22 HG22; (first | simp only [add_plain] at hx117_0 | skip); obtain ⟨oki22, ce22, hcl22, hM22, hcc22, _, _, hH22⟩ := Kd.S_elem HO_3.out [] (ex : Int) (of_decide_eq_true (by first | (with_reducible assumption) | assumption)) (by have h_ : (ex : Int) < ((lsAt eTo l0_2 a0_0.toNat k).length : Int) := of_decide_eq_true (by first | (with_reducible assumption) | assumption); first | exact h_ | (have e_ := (Kd.S_reads' HO_3.out).1; omega) | simpa using h_); obtain ⟨ve22_0, rfl, ge22_0⟩ := hM22; have hv22 := hcc22 0 _ rfl; have hX22 := HX117_0.out; (try simp only [add_plain] at hX22); (try simp only [Nat.add_zero] at hv22); (try rw [show ((Kd.slice 3 (Kd.int .i64))).sz = 1 from rfl, Nat.mul_one] at hv22); replace hv22 := Option.some.inj (hv22.symm.trans hX22); subst hv22; clear hX22 hcc22 hcl22; have UU22 := Aside0.mk (show Kd.R (Kd.int .i64) 3 _ w.heap.size oki22 (.slice A117_0 (rd_L7 (lsAt eTo l0_2 a0_0.toNat k) ex).length c117_0) (rd_L7 (lsAt eTo l0_2 a0_0.toNat k) ex) from ge22_0); have HH22 := Aside0.mk hH22; have HN22 := Aside0.mk (Kd.S_reads' HO_3.out).1; clear hH22 ge22_0) | ((with_reducible refine gate_builtin (b := .append) (xs := #[.tmp 28, .tmp 30]) rfl ?_); at_builtin; refine Kd.R_append (Kd.int .i64) (w0 := w) w.heap.size rfl (.tmp 28) (.tmp 30) 25 3 (.int .i64 0) 8 rfl Try.underlying25 info3 rfl (by decide) (by omega) (.slice A117_0 (rd_L7 (lsAt eTo l0_2 a0_0.toNat k) ex).length c117_0) (rd_L7 (lsAt eTo l0_2 a0_0.toNat k) ex) (k : Int) [.int .i64 (k : Int)] (fun k_ => oki22 k_ ∨ ((fun _ => True)) k_ ∧ w20.heap.size ≤ k_) (fun _ => False) rfl rfl ?aP (fun _ hk => hk.elim) ?aF ?aO ?aB ?aS ?aL ?_; (case aP => exact rfl); (case aB => exact (by repeat (first | (with_reducible first | exact HB.out | apply below_alloc | apply pw_below_drewN | apply below_drew1 | refine below_set ?_ GE111.out) | exact HB.out))); (case aF => exact (fun k_ hk => .inr ⟨trivial, hk⟩)); (case aO => exact (by (with_reducible repeat (first | apply Kd.R_alloc | apply Kd.R_drewN | apply Kd.R_drew)); exact Kd.R_mono UU22.out (fun _ hk => .inl hk))); (case aS => exact (below_size (by repeat (first | (with_reducible first | exact HB.out | apply below_alloc | apply pw_below_drewN | apply below_drew1 | refine below_set ?_ GE111.out) | exact HB.out)))); (case aL => have := LMc14.out; omega); intro v119 w23 ho hb hg hat; have n0_ := Aside0.mk (blk_grown (g := gb111) (o := (.cells #[.int .i64 a0_0, .bool a0_1, .slice (some ad115) l0_2.length c0_2] 24 (0, 0))) (by (with_reducible repeat (first | refine blk_drewN ?_ _ | refine blk_drew ?_ | refine blk_alloc ?_ _)); exact BK111.out) hg (Kd.R_ne HL117_0.out BK111.out (by decide))); have n2_ := Aside0.mk (hb); have n3_ := Aside0.mk (Kd.H_grown (Kd.H_widen (by repeat (first | exact HH22.out | refine Kd.H_alloc ?_ _ | refine Kd.H_drewN ?_ _ | refine Kd.H_drew ?_))) hg (fun k_ e_ => .inl (UU22.out.1 k_ e_))); have n4_ := Aside0.mk (ho); clear BK111; clear HB; clear HH22; clear HO_3; clear UU22; clear HL117_0; have BK111 := n0_; have HB := n2_; have HH22 := n3_; have HO120 := n4_; clear n0_ n2_ n3_ n4_; clear ho hb hg hat; have p15 : 0 ≤ (ex : Int) := (of_decide_eq_true (by first | (with_reducible assumption) | assumption)); have q15 : (ex : Int) < ((lsAt eTo l0_2 a0_0.toNat k).length : Int) := (of_decide_eq_true (by first | (with_reducible assumption) | assumption)); replace p15 := eq_true p15; replace q15 := eq_true q15; obtain ⟨Ao26, co26, eo26⟩ := Kd.R_slice HO120.out; subst eo26; obtain ⟨_, _, hraw24, _, _, hcc24, _⟩ := Kd.H_raw HH22.out (of_decide_eq_true (by first | (with_reducible assumption) | assumption)) (by have h_ : (ex : Int) < ((lsAt eTo l0_2 a0_0.toNat k).length : Int) := of_decide_eq_true (by first | (with_reducible assumption) | assumption); first | exact h_ | (have e_ := (HN22.out); omega) | simpa using h_); obtain ⟨_, hfr24⟩ := Kd.H_at HH22.out (of_decide_eq_true (by first | (with_reducible assumption) | assumption)) (by have h_ : (ex : Int) < ((lsAt eTo l0_2 a0_0.toNat k).length : Int) := of_decide_eq_true (by first | (with_reducible assumption) | assumption); first | exact h_ | (have e_ := (HN22.out); omega) | simpa using h_); have hx24_0 := hcc24 0 _ rfl; have hf24_0 := hfr24 0; (try simp only [Nat.add_zero] at hx24_0 hf24_0); (try rw [show ((Kd.slice 3 (Kd.int .i64))).sz = 1 from rfl, Nat.mul_one] at hx24_0); (try rw [show ((Kd.slice 3 (Kd.int .i64))).sz = 1 from rfl, Nat.mul_one] at hf24_0); have HP24 := Kd.S_seg0 HH22.out (of_decide_eq_true (by first | (with_reducible assumption) | assumption)) (by have h_ : (ex : Int) < ((lsAt eTo l0_2 a0_0.toNat k).length : Int) := of_decide_eq_true (by first | (with_reducible assumption) | assumption); first | exact h_ | (have e_ := (HN22.out); omega) | simpa using h_) (seg := [.slice Ao26 (rd_L7 (lsAt eTo l0_2 a0_0.toNat k) ex ++ [(k : Int)]).length co26]) (j := 0) (show 1 ≤ 1 from by decide) (x' := rd_L7 (lsAt eTo l0_2 a0_0.toNat k) ex ++ [(k : Int)]) (Kd.M_row HO120.out) (fun _ hk => hk); (try simp only [show ((Kd.slice 3 (Kd.int .i64))).sz = 1 from rfl, Nat.mul_one, Nat.add_zero] at HP24); clear hcc24 hfr24) | ((with_reducible refine gate_store (t := 25) (p := 32) rfl ?_); refine store_event (t := 25) (p := 32) (v := ?vo_w25) (w1 := (w23.setCell ⟨go22, (ex : Int).toNat, none⟩ (.slice Ao26 (rd_L7 (lsAt eTo l0_2 a0_0.toNat k) ex ++ [(k : Int)]).length co26))) ?hg ?ho ?hn ?hr ?_; (case ho => rfl); (case hg => rfl); (case hn => rfl); (case hr => first | (go_simp; done) | (go_simp; rfl)); intro w25 hw; have hg : w23.grownBy w25 (some go22) := (by rw [hw]; exact HP24.2); have hp_ : Kd.S (Kd.slice 3 (Kd.int .i64)) 25 w25 w.heap.size (fun _ => True) (.slice (some ⟨go22, 0, none⟩) (lsAt eTo l0_2 a0_0.toNat k).length co21) (lsAt eTo l0_2 a0_0.toNat (k + 1)) := (by rw [hw, LSN.out]; exact HP24.1); clear HP24; have n0_ := Aside0.mk (blk_grown (g := gb111) (o := (.cells #[.int .i64 a0_0, .bool a0_1, .slice (some ad115) l0_2.length c0_2] 24 (0, 0))) (by (with_reducible repeat (first | refine blk_drewN ?_ _ | refine blk_drew ?_ | refine blk_alloc ?_ _)); exact BK111.out) hg (Kd.R_ne hraw24 BK111.out (by decide))); have n2_ := Aside0.mk ((by rw [hw]; exact below_set HB.out GB22.out : Below w.heap.size w w25)); have n3_ := Aside0.mk (hp_); clear BK111; clear HB; clear HO120; clear HH22; have BK111 := n0_; have HB := n2_; have HO_3 := n3_; clear n0_ n2_ n3_; clear hg hw hp_ hraw24))
   go_roundw
   case rel => exact ⟨k + 1, by omega, by first | rfl | go_num, ⟨by (with_reducible repeat (first | apply Kd.S_alloc | apply Kd.S_drewN | apply Kd.S_drew)); exact HO_3.out⟩, ⟨by (with_reducible repeat (first | refine blk_drewN ?_ _ | refine blk_drew ?_ | refine blk_alloc ?_ _)); exact BK111.out⟩, ⟨(by repeat (first | (with_reducible first | exact HB.out | apply below_alloc | apply pw_below_drewN | apply below_drew1 | refine below_set ?_ GE111.out) | exact HB.out))⟩⟩
   case measure => simp [intOf] <;> omega
  ·have ek : k = l0_2.length := by omega
   subst ek
   have c9b0 : decide ((l0_2.length : Int) < (l0_2.length : Int)) = false := decide_eq_false (by omega)
   go_wp2
   go_ret
   exact ⟨_, rfl, by (with_reducible repeat (first | apply Kd.S_alloc | apply Kd.S_drewN | apply Kd.S_drew)); exact HO_3.out, (by repeat (first | (with_reducible first | exact HB.out | apply below_alloc | apply pw_below_drewN | apply below_drew1 | refine below_set ?_ GE111.out) | exact HB.out))⟩
set_option maxHeartbeats 1000000 in
set_option maxRecDepth 100000 in
theorem leaving_calls (a0_0 : Int) (a0_1 : Bool) (A0_2 : Option Addr) (c0_2 : Nat) (l0_2 : List S74) (w : World) (hr0_2 : Kd.C k74 w A0_2 l0_2.length l0_2) (hc0_2 : l0_2.length ≤ c0_2) (h0 : 0 ≤ a0_0) (h1 : a0_0 ≤ 1000000) (hl : l0_2.length ≤ 1000000) (hE : ∀ k : Nat, k < l0_2.length → 0 ≤ eFrom (rd_T74 l0_2 k) ∧ eFrom (rd_T74 l0_2 k) < a0_0) :
  Calls Try.prog 141 #[.agg #[.int .i64 a0_0, .bool a0_1, .slice A0_2 l0_2.length c0_2]] w fun e w' => ∃ v0_ : Value, e = .returned v0_ ∧ Kd.S (Kd.slice 3 (Kd.int .i64)) 25 w' w.heap.size (fun _ => True) v0_ (lsAt eFrom l0_2 a0_0.toNat l0_2.length) ∧ Below w.heap.size w w' := by
 have hu24 := Try.underlying24
 have HR0_2 := Aside0.mk hr0_2
 have HC0_2 := Aside0.mk hc0_2
 have HE := Aside0.mk hE
 clear hr0_2 hc0_2 hE
 have HB := Aside0.mk (Below.refl w.heap.size w)
 go_enter Try.func141, Try.ntmps141
 go_wp2_with (first | ((with_reducible refine gate_dst (N := 1) rfl ?_); refine box_event ?hg (N := 1) ?hd (cs := #[.int .i64 a0_0, .bool a0_1, .slice A0_2 l0_2.length c0_2]) (t := 24) ?hr ?_; (case hd => rfl); (case hg => rfl); (case hr => first | (go_simp; done) | (go_simp; rfl)); intro gb111 hg w4 hbox hb; have n0_ := Aside0.mk (below_step (by repeat (first | (with_reducible first | exact HB.out | apply below_alloc | apply pw_below_drewN | apply below_drew1) | exact HB.out)) hb); have n1_ := Aside0.mk (hbox); have n2_ := Aside0.mk (Kd.C_below HR0_2.out hb); clear HB HR0_2; have HB := n0_; have BK111 := n1_; have HR0_2 := n2_; clear n0_ n1_ n2_; clear hb hbox hg; have hcz5_0 : w4.cell? ⟨gb111, 0, none⟩ = some (.int .i64 a0_0) := (blk_cell BK111.out 0).trans rfl; have hcz5_1 : w4.cell? ⟨gb111, 1, none⟩ = some (.bool a0_1) := (blk_cell BK111.out 1).trans rfl; have hcz5_2 : w4.cell? ⟨gb111, 2, none⟩ = some (.slice A0_2 l0_2.length c0_2) := (blk_cell BK111.out 2).trans rfl) | fail)
 refine (listsFrom_calls a0_0 a0_1 A0_2 c0_2 l0_2 _ HR0_2.out HC0_2.out h0 h1 hl HE.out).mono ?_
 rintro e w5 ⟨v0, rfl, hS, hb⟩
 have HS := Aside0.mk (Kd.S_lower hS HB.out.size)
 have HB5 := Aside0.mk (below_step HB.out hb)
 clear hS hb hcz5_0 hcz5_1 hcz5_2 BK111
 go_wp2
 go_ret
 exact ⟨_, rfl, HS.out, HB5.out⟩
set_option maxHeartbeats 1000000 in
set_option maxRecDepth 100000 in
theorem coming_calls (a0_0 : Int) (a0_1 : Bool) (A0_2 : Option Addr) (c0_2 : Nat) (l0_2 : List S74) (w : World) (hr0_2 : Kd.C k74 w A0_2 l0_2.length l0_2) (hc0_2 : l0_2.length ≤ c0_2) (h0 : 0 ≤ a0_0) (h1 : a0_0 ≤ 1000000) (hl : l0_2.length ≤ 1000000) (hE : ∀ k : Nat, k < l0_2.length → 0 ≤ eTo (rd_T74 l0_2 k) ∧ eTo (rd_T74 l0_2 k) < a0_0) :
  Calls Try.prog 142 #[.agg #[.int .i64 a0_0, .bool a0_1, .slice A0_2 l0_2.length c0_2]] w fun e w' => ∃ v0_ : Value, e = .returned v0_ ∧ Kd.S (Kd.slice 3 (Kd.int .i64)) 25 w' w.heap.size (fun _ => True) v0_ (lsAt eTo l0_2 a0_0.toNat l0_2.length) ∧ Below w.heap.size w w' := by
 have hu24 := Try.underlying24
 have HR0_2 := Aside0.mk hr0_2
 have HC0_2 := Aside0.mk hc0_2
 have HE := Aside0.mk hE
 clear hr0_2 hc0_2 hE
 have HB := Aside0.mk (Below.refl w.heap.size w)
 go_enter Try.func142, Try.ntmps142
 go_wp2_with (first | ((with_reducible refine gate_dst (N := 1) rfl ?_); refine box_event ?hg (N := 1) ?hd (cs := #[.int .i64 a0_0, .bool a0_1, .slice A0_2 l0_2.length c0_2]) (t := 24) ?hr ?_; (case hd => rfl); (case hg => rfl); (case hr => first | (go_simp; done) | (go_simp; rfl)); intro gb111 hg w4 hbox hb; have n0_ := Aside0.mk (below_step (by repeat (first | (with_reducible first | exact HB.out | apply below_alloc | apply pw_below_drewN | apply below_drew1) | exact HB.out)) hb); have n1_ := Aside0.mk (hbox); have n2_ := Aside0.mk (Kd.C_below HR0_2.out hb); clear HB HR0_2; have HB := n0_; have BK111 := n1_; have HR0_2 := n2_; clear n0_ n1_ n2_; clear hb hbox hg; have hcz5_0 : w4.cell? ⟨gb111, 0, none⟩ = some (.int .i64 a0_0) := (blk_cell BK111.out 0).trans rfl; have hcz5_1 : w4.cell? ⟨gb111, 1, none⟩ = some (.bool a0_1) := (blk_cell BK111.out 1).trans rfl; have hcz5_2 : w4.cell? ⟨gb111, 2, none⟩ = some (.slice A0_2 l0_2.length c0_2) := (blk_cell BK111.out 2).trans rfl) | fail)
 refine (listsTo_calls a0_0 a0_1 A0_2 c0_2 l0_2 _ HR0_2.out HC0_2.out h0 h1 hl HE.out).mono ?_
 rintro e w5 ⟨v0, rfl, hS, hb⟩
 have HS := Aside0.mk (Kd.S_lower hS HB.out.size)
 have HB5 := Aside0.mk (below_step HB.out hb)
 clear hS hb hcz5_0 hcz5_1 hcz5_2 BK111
 go_wp2
 go_ret
 exact ⟨_, rfl, HS.out, HB5.out⟩
end Go.Proofs.Ytkcpanpdipmmmaa.H
namespace Go.Proofs.Ytkcpanpdipmmmaa.H
open Go.RowKit Go.Proofs.YtkcpanpdipmmmaaW.PrintWords Go.Proofs.YtkcpanpdipmmmaaW.PrintLast Go.Proofs.YtkcpanpdipmmmaaW.PrintMore Go.Proofs.Ytkcpanpdipmmmaa.P
def stL (l : List S74) (v : Int) : Nat → List S38
 | 0 => []
 | k + 1 => stL l v k ++ (if eFrom (rd_T74 l k) = v then [⟨k, false⟩] else []) ++ (if eTo (rd_T74 l k) = v then [⟨k, true⟩] else [])
def ltS (x y : S38) : Prop := x.f0 < y.f0 ∨ x.f0 = y.f0 ∧ x.f1 = false ∧ y.f1 = true
def IsSt (l : List S74) (v : Int) (k : Nat) (s : S38) : Prop := ∃ i : Nat, i < k ∧ s.f0 = i ∧ (s.f1 = false ∧ eFrom (rd_T74 l i) = v ∨ s.f1 = true ∧ eTo (rd_T74 l i) = v)
theorem mem_stL (l : List S74) (v : Int) (k : Nat) (s : S38) : s ∈ stL l v k ↔ IsSt l v k s := by
 induction k with
 | zero =>
  constructor
  ·intro h; cases h
  ·rintro ⟨i, h, _⟩; omega
 | succ k ih =>
  unfold stL
  rw [List.mem_append, List.mem_append, ih]
  constructor
  ·rintro ((⟨i, h1, h2⟩ | h) | h)
   ·exact ⟨i, by omega, h2⟩
   ·split at h
    ·rename_i he
     rw [List.mem_singleton] at h
     subst h
     exact ⟨k, by omega, rfl, Or.inl ⟨rfl, he⟩⟩
    ·cases h
   ·split at h
    ·rename_i he
     rw [List.mem_singleton] at h
     subst h
     exact ⟨k, by omega, rfl, Or.inr ⟨rfl, he⟩⟩
    ·cases h
  ·rintro ⟨i, h1, h2, h3⟩
   by_cases hi : i < k
   ·exact Or.inl (Or.inl ⟨i, hi, h2, h3⟩)
   ·have e : i = k := by omega
    subst e
    obtain ⟨x, y⟩ := s
    simp only at h2 h3
    subst h2
    rcases h3 with ⟨rfl, h4⟩ | ⟨rfl, h4⟩
    ·exact Or.inl (Or.inr (by rw [if_pos h4]; exact List.mem_singleton.2 rfl))
    ·exact Or.inr (by rw [if_pos h4]; exact List.mem_singleton.2 rfl)
theorem sorted_stL (l : List S74) (v : Int) (k : Nat) : (stL l v k).Pairwise ltS := by
 induction k with
 | zero => exact List.Pairwise.nil
 | succ k ih =>
  unfold stL
  rw [List.pairwise_append, List.pairwise_append]
  refine ⟨⟨ih, by split <;> simp, fun a ha b hb => ?_⟩, by split <;> simp, fun a ha b hb => ?_⟩
  ·obtain ⟨i, h1, h2, _⟩ := (mem_stL l v k a).1 ha
   split at hb
   ·rw [List.mem_singleton] at hb
    subst hb
    exact Or.inl (by show a.f0 < (k : Int); omega)
   ·cases hb
  ·split at hb
   ·rw [List.mem_singleton] at hb
    subst hb
    rcases List.mem_append.1 ha with ha | ha
    ·obtain ⟨i, h1, h2, _⟩ := (mem_stL l v k a).1 ha
     exact Or.inl (by show a.f0 < (k : Int); omega)
    ·split at ha
     ·rw [List.mem_singleton] at ha
      subst ha
      exact Or.inr ⟨rfl, rfl, rfl⟩
     ·cases ha
   ·cases hb
theorem ltS_irr (x : S38) : ¬ ltS x x := by
 rintro (h | ⟨_, h1, h2⟩)
 ·omega
 ·rw [h1] at h2; cases h2
theorem ltS_trans {x y z : S38} (h : ltS x y) (k : ltS y z) : ltS x z := by
 rcases h with h | ⟨h1, h2, h3⟩ <;> rcases k with k | ⟨k1, k2, k3⟩
 ·exact Or.inl (by omega)
 ·exact Or.inl (by omega)
 ·exact Or.inl (by omega)
 ·rw [h3] at k2; cases k2
theorem sorted_uniq : ∀ (a b : List S38), a.Pairwise ltS → b.Pairwise ltS → (∀ s, s ∈ a ↔ s ∈ b) → a = b
 | [], [], _, _, _ => rfl
 | [], y :: b, _, _, h => by have := (h y).2 (List.mem_cons_self ..); cases this
 | x :: a, [], _, _, h => by have := (h x).1 (List.mem_cons_self ..); cases this
 | x :: a, y :: b, ha, hb, h => by
  rw [List.pairwise_cons] at ha hb
  have e : x = y := by
   rcases List.mem_cons.1 ((h x).1 (List.mem_cons_self ..)) with e | h1
   ·exact e
   ·rcases List.mem_cons.1 ((h y).2 (List.mem_cons_self ..)) with e | h2
    ·exact e.symm
    ·exact absurd (ltS_trans (ha.1 y h2) (hb.1 x h1)) (ltS_irr x)
  subst e
  rw [sorted_uniq a b ha.2 hb.2 fun s => ⟨fun hs => ?_, fun hs => ?_⟩]
  ·rcases List.mem_cons.1 ((h s).1 (List.mem_cons_of_mem _ hs)) with e | h1
   ·subst e; exact absurd (ha.1 s hs) (ltS_irr s)
   ·exact h1
  ·rcases List.mem_cons.1 ((h s).2 (List.mem_cons_of_mem _ hs)) with e | h1
   ·subst e; exact absurd (hb.1 s hs) (ltS_irr s)
   ·exact h1
theorem lsAt_spec (E : S74 → Int) (l : List S74) (n : Nat) (v : Int) (hv0 : 0 ≤ v) (hv : v < n) : ∀ k : Nat, (∀ i : Nat, i < k → 0 ≤ E (rd_T74 l i) ∧ E (rd_T74 l i) < n) →
  (∀ x, x ∈ rd_L7 (lsAt E l n k) v ↔ ∃ i : Nat, i < k ∧ x = i ∧ E (rd_T74 l i) = v) ∧ (rd_L7 (lsAt E l n k) v).Pairwise (· < ·) := by
 intro k
 induction k with
 | zero =>
  intro _
  have e : rd_L7 (lsAt E l n 0) v = [] := by
   unfold rd_L7 lsAt
   rw [List.getD_eq_getElem?_getD, List.getElem?_replicate]
   split <;> rfl
  rw [e]
  refine ⟨fun x => Iff.intro (fun h => by cases h) ?_, List.Pairwise.nil⟩
  rintro ⟨i, h, _⟩; omega
 | succ k ih =>
  intro hE
  obtain ⟨h1, h2⟩ := ih fun i hi => hE i (by omega)
  have hk := hE k (by omega)
  by_cases c : E (rd_T74 l k) = v
  ·have e : rd_L7 (lsAt E l n (k + 1)) v = rd_L7 (lsAt E l n k) v ++ [(k : Int)] := by
    show (List.set _ _ _).getD v.toNat [] = _
    rw [c, List.getD_eq_getElem?_getD, List.getElem?_set_self (by rw [lsAt_len]; omega)]
    rfl
   rw [e]
   refine ⟨fun x => ?_, ?_⟩
   ·rw [List.mem_append, h1, List.mem_singleton]
    constructor
    ·rintro (⟨i, a, b, d⟩ | rfl)
     ·exact ⟨i, by omega, b, d⟩
     ·exact ⟨k, by omega, rfl, c⟩
    ·rintro ⟨i, a, b, d⟩
     by_cases hi : i < k
     ·exact Or.inl ⟨i, hi, b, d⟩
     ·exact Or.inr (by rw [b]; congr 1; omega)
   ·rw [List.pairwise_append]
    refine ⟨h2, List.pairwise_singleton _ _, fun a ha b hb => ?_⟩
    rw [List.mem_singleton] at hb
    obtain ⟨i, q1, q2, _⟩ := (h1 a).1 ha
    omega
  ·have e : rd_L7 (lsAt E l n (k + 1)) v = rd_L7 (lsAt E l n k) v := by
    show (List.set _ _ _).getD v.toNat [] = _
    rw [List.getD_eq_getElem?_getD, List.getElem?_set_ne (by omega), ← List.getD_eq_getElem?_getD]
    rfl
   rw [e]
   refine ⟨fun x => ?_, h2⟩
   rw [h1]
   constructor
   ·rintro ⟨i, a, b, d⟩; exact ⟨i, by omega, b, d⟩
   ·rintro ⟨i, a, b, d⟩
    by_cases hi : i < k
    ·exact ⟨i, hi, b, d⟩
    ·have e2 : i = k := by omega
     subst e2; exact absurd d c
def stepsU (l : List S74) (n : Nat) (v : Int) : List S38 :=
 (rd_L7 (lsAt eFrom l n l.length) v).map (fun i => ⟨i, false⟩) ++ (rd_L7 (lsAt eTo l n l.length) v).map (fun i => ⟨i, true⟩)
def ends (l : List S74) (n : Nat) : Prop := ∀ i : Nat, i < l.length → (0 ≤ eFrom (rd_T74 l i) ∧ eFrom (rd_T74 l i) < n) ∧ (0 ≤ eTo (rd_T74 l i) ∧ eTo (rd_T74 l i) < n)
theorem mem_stepsU (l : List S74) (n : Nat) (v : Int) (hv0 : 0 ≤ v) (hv : v < n) (h : ends l n) (s : S38) : s ∈ stepsU l n v ↔ IsSt l v l.length s := by
 have hf := (lsAt_spec eFrom l n v hv0 hv l.length fun i hi => (h i hi).1).1
 have ht := (lsAt_spec eTo l n v hv0 hv l.length fun i hi => (h i hi).2).1
 unfold stepsU
 rw [List.mem_append, List.mem_map, List.mem_map]
 constructor
 ·rintro (⟨x, hx, rfl⟩ | ⟨x, hx, rfl⟩)
  ·obtain ⟨i, a, b, d⟩ := (hf x).1 hx
   exact ⟨i, a, b, Or.inl ⟨rfl, d⟩⟩
  ·obtain ⟨i, a, b, d⟩ := (ht x).1 hx
   exact ⟨i, a, b, Or.inr ⟨rfl, d⟩⟩
 ·rintro ⟨i, a, b, ⟨c, d⟩ | ⟨c, d⟩⟩
  ·exact Or.inl ⟨s.f0, (hf _).2 ⟨i, a, b, d⟩, by obtain ⟨x, y⟩ := s; simp only at c; subst c; rfl⟩
  ·exact Or.inr ⟨s.f0, (ht _).2 ⟨i, a, b, d⟩, by obtain ⟨x, y⟩ := s; simp only at c; subst c; rfl⟩
theorem stab_stepsU (l : List S74) (n : Nat) (v : Int) (hv0 : 0 ≤ v) (hv : v < n) (h : ends l n) : (stepsU l n v).Pairwise fun x y => x.f0 = y.f0 → x.f1 = false ∧ y.f1 = true := by
 have hf := (lsAt_spec eFrom l n v hv0 hv l.length fun i hi => (h i hi).1).2
 have ht := (lsAt_spec eTo l n v hv0 hv l.length fun i hi => (h i hi).2).2
 unfold stepsU
 rw [List.pairwise_append, List.pairwise_map, List.pairwise_map]
 refine ⟨hf.imp fun {a b} hab e => ?_, ht.imp fun {a b} hab e => ?_, fun a ha b hb e => ?_⟩
 ·simp only at e; omega
 ·simp only at e; omega
 ·obtain ⟨x, _, rfl⟩ := List.mem_map.1 ha
  obtain ⟨y, _, rfl⟩ := List.mem_map.1 hb
  exact ⟨rfl, rfl⟩
end Go.Proofs.Ytkcpanpdipmmmaa.H
namespace Go.Proofs.Ytkcpanpdipmmmaa.H
open Go.RowKit Go.Proofs.YtkcpanpdipmmmaaW.PrintWords Go.Proofs.YtkcpanpdipmmmaaW.PrintLast Go.Proofs.YtkcpanpdipmmmaaW.PrintMore Go.Proofs.Ytkcpanpdipmmmaa.P
def stFrom (l : List S74) (s : S38) : Int := if s.f1 then eTo (rd_T74 l s.f0) else eFrom (rd_T74 l s.f0)
def stTo (l : List S74) (s : S38) : Int := if s.f1 then eFrom (rd_T74 l s.f0) else eTo (rd_T74 l s.f0)
def stTime (l : List S74) (s : S38) : Int := if s.f1 then -(rd_T74 l s.f0).f3 else (rd_T74 l s.f0).f3
def stRoom (l : List S74) (F : List Int) (s : S38) : Int := if s.f1 then F.getD s.f0.toNat 0 else (rd_T74 l s.f0).f2 - F.getD s.f0.toNat 0
structure Rch where
 D : List Int
 I : List Bool
 B : List S38
 still : Bool
def visC (l : List S74) (F : List Int) (v : Nat) (x : Rch) (s : S38) : Bool :=
 decide (0 < stRoom l F s) && (!x.I.getD (stTo l s).toNat false || decide (x.D.getD v 0 + stTime l s < x.D.getD (stTo l s).toNat 0))
def visR (l : List S74) (F : List Int) (v : Nat) (x : Rch) (s : S38) : Rch :=
 if visC l F v x s then ⟨x.D.set (stTo l s).toNat (x.D.getD v 0 + stTime l s), x.I.set (stTo l s).toNat true, x.B.set (stTo l s).toNat s, false⟩ else x
def rowR (l : List S74) (F : List Int) (x : Rch) (v : Nat) : Rch := if x.I.getD v false then (stL l v l.length).foldl (visR l F v) x else x
def roundR (l : List S74) (F : List Int) (n : Nat) (x : Rch) : Rch := (List.range n).foldl (rowR l F) { x with still := true }
def goesR (l : List S74) (F : List Int) (n : Nat) : Nat → Rch → Rch × Bool
 | 0, x => (x, false)
 | k + 1, x => if (roundR l F n x).still then (roundR l F n x, true) else goesR l F n k (roundR l F n x)
def absR (x : Rch) : Tm := fun v => if x.I.getD v false then some (x.D.getD v 0) else none
structure Rch.Ok (n : Nat) (x : Rch) : Prop where
 hD : x.D.length = n
 hI : x.I.length = n
 hB : x.B.length = n
theorem visR_ok {l : List S74} {F : List Int} {n v : Nat} {x : Rch} (h : x.Ok n) (s : S38) : (visR l F v x s).Ok n := by
 unfold visR
 split
 ·exact ⟨by simp [h.hD], by simp [h.hI], by simp [h.hB]⟩
 ·exact h
theorem foldR_ok {l : List S74} {F : List Int} {n v : Nat} (r : List S38) {x : Rch} (h : x.Ok n) : (r.foldl (visR l F v) x).Ok n := by
 induction r generalizing x with
 | nil => exact h
 | cons s r ih => exact ih (visR_ok h s)
theorem rowR_ok {l : List S74} {F : List Int} {n v : Nat} {x : Rch} (h : x.Ok n) : (rowR l F x v).Ok n := by
 unfold rowR
 split
 ·exact foldR_ok _ h
 ·exact h
def edgeS (l : List S74) (v : Nat) (s : S38) : Ed := (v, (stTo l s).toNat, stTime l s)
theorem getD_set_ne {β : Type} (L : List β) (i j : Nat) (x d : β) (h : i ≠ j) : (L.set i x).getD j d = L.getD j d := by
 rw [List.getD_eq_getElem?_getD, List.getElem?_set_ne h, List.getD_eq_getElem?_getD]
theorem getD_set_eq {β : Type} (L : List β) (i : Nat) (x d : β) (h : i < L.length) : (L.set i x).getD i d = x := by
 rw [List.getD_eq_getElem?_getD, List.getElem?_set_self h]
 rfl
theorem visR_abs {l : List S74} {F : List Int} {n v : Nat} {x : Rch} (h : x.Ok n) (s : S38) (hv : x.I.getD v false = true) (hw : (stTo l s).toNat < n) :
  absR (visR l F v x s) = (if 0 < stRoom l F s then relax (absR x) (edgeS l v s) else absR x) ∧ (visR l F v x s).still = (x.still && !(decide (0 < stRoom l F s) && trig (absR x) (edgeS l v s))) ∧ (visR l F v x s).I.getD v false = true := by
 have hσ : absR x v = some (x.D.getD v 0) := by unfold absR; rw [if_pos hv]
 have htr : trig (absR x) (edgeS l v s) = (!x.I.getD (stTo l s).toNat false || decide (x.D.getD v 0 + stTime l s < x.D.getD (stTo l s).toNat 0)) := by
  unfold trig edgeS
  simp only [hσ]
  cases hi : x.I.getD (stTo l s).toNat false with
  | false =>
   have h2 : absR x (stTo l s).toNat = none := by unfold absR; rw [hi]; rfl
   rw [h2]
   rfl
  | true =>
   have h2 : absR x (stTo l s).toNat = some (x.D.getD (stTo l s).toNat 0) := by unfold absR; rw [hi]; rfl
   rw [h2]
   rfl
 have hc : visC l F v x s = (decide (0 < stRoom l F s) && trig (absR x) (edgeS l v s)) := by rw [htr]; rfl
 unfold visR
 rw [hc]
 by_cases hr : 0 < stRoom l F s
 ·rw [if_pos hr, decide_eq_true hr, Bool.true_and]
  cases ht : trig (absR x) (edgeS l v s) with
  | false =>
   rw [relax_off ht]
   refine ⟨rfl, ?_, hv⟩
   simp
  | true =>
   refine ⟨?_, by simp, ?_⟩
   ·funext u
    rw [relax_on ht (show absR x (edgeS l v s).1 = _ from hσ)]
    show (if (x.I.set (stTo l s).toNat true).getD u false = true then some ((x.D.set (stTo l s).toNat (x.D.getD v 0 + stTime l s)).getD u 0) else none) = if u = (stTo l s).toNat then _ else absR x u
    by_cases hu : u = (stTo l s).toNat
    ·subst hu
     rw [if_pos rfl, getD_set_eq _ _ _ _ (by rw [h.hI]; exact hw), getD_set_eq _ _ _ _ (by rw [h.hD]; exact hw), if_pos rfl]
     rfl
    ·rw [if_neg hu, getD_set_ne _ _ _ _ _ (Ne.symm hu), getD_set_ne _ _ _ _ _ (Ne.symm hu)]
     rfl
   ·show (x.I.set (stTo l s).toNat true).getD v false = true
    by_cases hu : (stTo l s).toNat = v
    ·rw [hu, getD_set_eq _ _ _ _ (by rw [h.hI, ← hu]; exact hw)]
    ·rw [getD_set_ne _ _ _ _ _ hu]; exact hv
 ·rw [if_neg hr, decide_eq_false hr, Bool.false_and]
  refine ⟨rfl, by simp, hv⟩
def liveS (l : List S74) (F : List Int) (v : Nat) : List Ed := ((stL l v l.length).filter (fun s => decide (0 < stRoom l F s))).map (edgeS l v)
theorem passT_app (E G : List Ed) (σ : Tm) (b : Bool) : passT (E ++ G) σ b = passT G (passT E σ b).1 (passT E σ b).2 := by
 unfold passT
 rw [List.foldl_append]
theorem passT_or (E : List Ed) (σ : Tm) (b : Bool) : (passT E σ b).2 = (b || (passT E σ false).2) := by
 cases b with
 | false => rw [Bool.false_or]
 | true => rw [passT_true]; rfl
theorem foldR_abs {l : List S74} {F : List Int} {n v : Nat} (r : List S38) (hw : ∀ s, s ∈ r → (stTo l s).toNat < n) {x : Rch} (h : x.Ok n) (hv : x.I.getD v false = true) :
  absR (r.foldl (visR l F v) x) = pass ((r.filter (fun s => decide (0 < stRoom l F s))).map (edgeS l v)) (absR x) ∧
  (r.foldl (visR l F v) x).still = (x.still && !(passT ((r.filter (fun s => decide (0 < stRoom l F s))).map (edgeS l v)) (absR x) false).2) := by
 induction r generalizing x with
 | nil => exact ⟨rfl, by simp [passT]⟩
 | cons s r ih =>
  obtain ⟨h1, h2, h3⟩ := visR_abs (F := F) h s hv (hw s List.mem_cons_self)
  obtain ⟨h4, h5⟩ := ih (fun s hs => hw s (List.mem_cons_of_mem _ hs)) (visR_ok h s) h3
  rw [List.foldl_cons]
  rw [h1] at h4 h5
  rw [h2] at h5
  rw [h4, h5]
  by_cases hr : 0 < stRoom l F s
  ·rw [List.filter_cons_of_pos (p := fun s => decide (0 < stRoom l F s)) (decide_eq_true hr), List.map_cons, if_pos hr, decide_eq_true hr, Bool.true_and]
   refine ⟨rfl, ?_⟩
   show _ = (x.still && !(passT _ (relax (absR x) (edgeS l v s)) (false || trig (absR x) (edgeS l v s))).2)
   rw [passT_or _ _ (false || _), Bool.false_or]
   cases x.still <;> cases trig (absR x) (edgeS l v s) <;> simp
  ·rw [List.filter_cons_of_neg (p := fun s => decide (0 < stRoom l F s)) (by simpa using hr), if_neg hr, decide_eq_false hr, Bool.false_and]
   exact ⟨rfl, by simp⟩
theorem rowR_abs {l : List S74} {F : List Int} {n v : Nat} (hw : ∀ s, s ∈ stL l v l.length → (stTo l s).toNat < n) {x : Rch} (h : x.Ok n) :
  absR (rowR l F x v) = pass (liveS l F v) (absR x) ∧ (rowR l F x v).still = (x.still && !(passT (liveS l F v) (absR x) false).2) := by
 unfold rowR
 by_cases hv : x.I.getD v false = true
 ·rw [if_pos hv]
  exact foldR_abs _ hw h hv
 ·rw [if_neg hv]
  have h0 : absR x v = none := by unfold absR; rw [if_neg hv]
  have h1 : ∀ e, e ∈ liveS l F v → trig (absR x) e = false := by
   intro e he
   obtain ⟨s, _, rfl⟩ := List.mem_map.1 he
   unfold trig edgeS
   simp only [h0]
  have h2 := passT_still h1
  refine ⟨?_, by rw [h2]; simp⟩
  rw [← passT_fst _ _ false, h2]
def liveE (l : List S74) (F : List Int) (n : Nat) : List Ed := (List.range n).flatMap (liveS l F)
theorem rows_abs {l : List S74} {F : List Int} {n : Nat} (hw : ∀ (v : Nat) (s : S38), s ∈ stL l v l.length → (stTo l s).toNat < n) (vs : List Nat) {x : Rch} (h : x.Ok n) :
  (vs.foldl (rowR l F) x).Ok n ∧ absR (vs.foldl (rowR l F) x) = pass (vs.flatMap (liveS l F)) (absR x) ∧ (vs.foldl (rowR l F) x).still = (x.still && !(passT (vs.flatMap (liveS l F)) (absR x) false).2) := by
 induction vs generalizing x with
 | nil => exact ⟨h, rfl, by simp [passT]⟩
 | cons v vs ih =>
  obtain ⟨h1, h2⟩ := rowR_abs (F := F) (hw v) h
  obtain ⟨h3, h4, h5⟩ := ih (rowR_ok (l := l) (F := F) (v := v) h)
  rw [List.foldl_cons, List.flatMap_cons]
  refine ⟨h3, ?_, ?_⟩
  ·rw [h4, h1]
   unfold pass
   rw [List.foldl_append]
  ·rw [h5, h2, h1, passT_app, passT_or _ _ (passT (liveS l F v) (absR x) false).2, passT_fst]
   cases x.still <;> simp
theorem roundR_abs {l : List S74} {F : List Int} {n : Nat} (hw : ∀ (v : Nat) (s : S38), s ∈ stL l v l.length → (stTo l s).toNat < n) {x : Rch} (h : x.Ok n) :
  (roundR l F n x).Ok n ∧ absR (roundR l F n x) = pass (liveE l F n) (absR x) ∧ (roundR l F n x).still = !(passT (liveE l F n) (absR x) false).2 := by
 obtain ⟨h1, h2, h3⟩ := rows_abs (F := F) hw (List.range n) (x := { x with still := true }) ⟨h.hD, h.hI, h.hB⟩
 refine ⟨h1, h2, ?_⟩
 unfold roundR
 rw [h3]
 simp [liveE]
 rfl
theorem goesR_spec {l : List S74} {F : List Int} {n : Nat} (hw : ∀ (v : Nat) (s : S38), s ∈ stL l v l.length → (stTo l s).toNat < n) (k : Nat) {x : Rch} (h : x.Ok n) :
  (goesR l F n k x).1.Ok n ∧ (∃ m, m ≤ k ∧ absR (goesR l F n k x).1 = its (liveE l F n) m (absR x)) ∧ ((goesR l F n k x).2 = true → ∀ e, e ∈ liveE l F n → trig (absR (goesR l F n k x).1) e = false) ∧
  ((goesR l F n k x).2 = false → ∀ m, m < k → pass (liveE l F n) (its (liveE l F n) m (absR x)) ≠ its (liveE l F n) m (absR x)) := by
 induction k generalizing x with
 | zero => exact ⟨h, ⟨0, Nat.le_refl _, rfl⟩, fun h => (by cases h), fun _ m hm => absurd hm (Nat.not_lt_zero _)⟩
 | succ k ih =>
  obtain ⟨h1, h2, h3⟩ := roundR_abs (F := F) hw h
  unfold goesR
  cases hs : (roundR l F n x).still with
  | true =>
   rw [if_pos rfl]
   have hq : (passT (liveE l F n) (absR x) false).2 = false := by rw [hs] at h3; simpa using h3.symm
   have hq2 := passT_still (passT_false hq)
   have hq3 : pass (liveE l F n) (absR x) = absR x := by rw [← passT_fst _ _ false, hq2]
   refine ⟨h1, ⟨0, Nat.zero_le _, by show absR (roundR l F n x) = absR x; rw [h2, hq3]⟩, fun _ => ?_, fun h => (by cases h)⟩
   show ∀ e, e ∈ liveE l F n → trig (absR (roundR l F n x)) e = false
   rw [h2, hq3]
   exact passT_false hq
  | false =>
   rw [if_neg (by simp)]
   obtain ⟨g1, ⟨m, hm, g2⟩, g3, g4⟩ := ih h1
   refine ⟨g1, ⟨m + 1, by omega, ?_⟩, g3, fun hf m hm => ?_⟩
   ·rw [g2, h2]; rfl
   ·cases m with
    | zero =>
     show pass (liveE l F n) (absR x) ≠ absR x
     intro he
     have := passT_still (pass_fix he)
     rw [this, hs] at h3
     cases h3
    | succ m =>
     have := g4 hf m (by omega)
     rw [h2] at this
     exact this
end Go.Proofs.Ytkcpanpdipmmmaa.H
namespace Go.Proofs.Ytkcpanpdipmmmaa.H
open Go.RowKit Go.Proofs.YtkcpanpdipmmmaaW.PrintWords
structure BelowW (w : World) where
 at_ : World
 below : Below w.heap.size w at_
instance (w : World) : Inhabited (BelowW w) := ⟨⟨w, Below.refl _ _⟩⟩
theorem wp_region_quiet_below {P : Program} {id : Nat} {Q : Exit → Act → World → Prop} {a : Act} {w : World} {l : List Oper} (hm : P.follows .mixedOrders = true) (hB : Region.lexB .any l.toArray = true)
  (h : wpQuiet P l.toArray (fun w' => ∃ p : BelowW w, w' = p.at_) (fun a' => ∀ w', (∃ p : BelowW w, w' = p.at_) → Q .normal a' w') l a) : (Code.region id l.toArray true).wp P Q a w :=
 wp_region_quiet (C := fun w' => ∃ p : BelowW w, w' = p.at_) hm hB ⟨⟨w.drew, below_drew (Below.refl _ _)⟩, rfl⟩ (by simpa using h)
theorem calls_below_of {P : Program} {f : FuncId} {args : Array Value} {w : World} {p : BelowW w} {v : Value} (h : Calls P f args p.at_ fun e w' => e = .returned v ∧ Below p.at_.heap.size p.at_ w') :
  Calls P f args p.at_ fun e w'' => e = .returned v ∧ ∃ q : BelowW w, w'' = q.at_ :=
 h.mono fun _ w' ⟨he, hb⟩ => ⟨he, ⟨w', below_then p.below p.below.size hb⟩, rfl⟩
theorem BelowW.cell {w : World} (p : BelowW w) {a : Addr} {v : Value} (h : w.cell? a = some v) : p.at_.cell? a = some v := pw_cell_below p.below h
end Go.Proofs.Ytkcpanpdipmmmaa.H
