/- What the law's row needs of these texts, taken out of them by wip/tool/mini.py: QFillWalk P119 QBehindDef P131 QReachedLaw QBehindWalk P132 P134 P139 P141 QOpen QCheckRef QMostLaw QMinLaw QLMincut. -/
import Derived.Test.YtkcpanpdipmmmaaMkgljdo
import Derived.Deep.RegionHeld3
import Derived.Deep.DeepCutAuto
import Derived.Test.YtkcpanpdipmmmaaMigdkkc
import Derived.Test.YtkcpanpdipmmmaaMmdkeio
import Derived.Test.YtkcpanpdipmmmaaMeibooh
import Derived.Test.YtkcpanpdipmmmaaVdkphio
import Derived.Deep.Slices
import Derived.Deep.Fields
import Derived.ChangeSame
import Derived.ChangeArms
import Derived.OpenShut
set_option linter.unusedVariables false
set_option linter.unusedSimpArgs false
namespace Go.Proofs.Ytkcpanpdipmmmaa.H
open Go.RowKit Go.Proofs.YtkcpanpdipmmmaaW.PrintWords Go.Proofs.YtkcpanpdipmmmaaW.PrintLast Go.Proofs.YtkcpanpdipmmmaaW.PrintMore Go.Proofs.Ytkcpanpdipmmmaa.P
open Go.Proofs.Ytkcpanpdipmmmaa.Q (bal ends_zero)
theorem heap_k74 : Kd.Heap k74 := Kd.heap_iso _ (Kd.heap_pair (Kd.heap_int _) (Kd.heap_pair (Kd.heap_int _) (Kd.heap_pair (Kd.heap_int _) (Kd.heap_int _))))
theorem made_ints (n : Nat) (hn : n ≤ 500) : ∀ W : World, (Instr.makeSlice 25 (.int .i64 (n : Int)) (.int .i64 (n : Int))).run Try.prog W = .ok (.slice (some ⟨W.heap.size, 0, none⟩) n n) (W.alloc (.cells (nums .i64 (List.replicate n 0)).toArray 3)) := by
 intro W
 rw [print_make 25 3 .i64 8 Try.underlying25 (by kernel_rfl) (by omega) n (by omega) W]
 have hl : (madeCells #[Value.int .i64 0] n) = (nums .i64 (List.replicate n 0)).toArray := by
  apply Array.ext'
  apply List.ext_getElem
  ·simp [nums, madeCells]
  ·intro i h1 h2
   simp [nums, madeCells, Nat.mod_one]
 rw [hl]
section
variable {n0 : Nat} {a0_1 : Bool} {A2 : Option Addr} {c2 : Nat} {l : List S74} {gF cF : Nat} {A4 : Option Addr} {c4 gx gn B B' : Nat} {vd : Value} {F : List Int} {nx : List Nat} {w w5 w7 wf : World}
theorem Fo.raise (h : Fo n0 a0_1 A2 c2 l gF cF A4 c4 gx gn B vd F nx w) (h1 : B ≤ B') (h2 : B' ≤ w.heap.size) : Fo n0 a0_1 A2 c2 l gF cF A4 c4 gx gn B' vd F nx w := by
 have hl := h.low
 exact ⟨h.x, h.nx, h.fl, Kd.F_mono h.arcs (fun k hk => ⟨by omega, hk.2⟩), Kd.F_mono h.rows (fun k hk => ⟨by omega, hk.2⟩), h2, ⟨by omega, by omega, by omega⟩, h.apart, h.ca, h.cf⟩
theorem Fo.made {base : Nat} {ok : Nat → Prop} (hb : Below w5.heap.size w5 wf) (hF : IsI w5 gF F) (ha : Kd.F k74 w5 (fun k => k < w5.heap.size ∧ k ≠ gF) A2 l.length l) (hS : Kd.S (Kd.slice 38 k38) 34 w7 base ok (.slice A4 n0 c4) (rowsAt l n0 n0)) (hb7 : Below w7.heap.size w7 wf) (hbase : w5.heap.size ≤ base)
  (hx : wf.heap[gx]? = some (.cells #[.int .i64 (n0 : Int), .bool a0_1, .slice A2 l.length c2, .slice (some ⟨gF, 0, none⟩) F.length cF, .slice A4 n0 c4, .slice none 0 0, .slice (some ⟨gn, 0, none⟩) n0 n0] 184 (0, 0)))
  (hn : IsI wf gn (List.replicate n0 0)) (h1 : w5.heap.size ≤ gn) (h2 : w7.heap.size ≤ gx) (h3 : gn ≠ gx) (h4 : gn < base ∨ w7.heap.size ≤ gn) (h57 : w5.heap.size ≤ w7.heap.size) (hca : l.length ≤ c2) (hcf : F.length ≤ cF) : Fo n0 a0_1 A2 c2 l gF cF A4 c4 gx gn wf.heap.size (.slice none 0 0) F (List.replicate n0 0) wf := by
 have hl5 := hF.lt
 have hn2 := hn.lt
 have hx2 := blk_lt hx
 have hr := Kd.F_below (Kd.S_F (Kd.S_bound hS)) hb7
 refine ⟨hx, by unfold nI; rw [List.map_replicate]; exact hn, hF.below hb, Kd.F_mono (Kd.F_below ha hb) (fun k hk => ?_), Kd.F_mono hr (fun k hk => ?_), Nat.le_refl _, ⟨hx2, hn2, ?_⟩, ⟨Ne.symm h3, by omega, by omega⟩, hca, hcf⟩
 ·have := hb.size; exact ⟨by omega, hk.2, by omega, by omega⟩
 ·have h5 := hk.2.1
  have h6 := hk.2.2.1
  exact ⟨by omega, by omega, by omega, by omega⟩
 ·have := hb.size; omega
end
theorem refill_stop {l : List S74} {n s t k : Nat} {F : List Int} (h : (dOf n (bfP l F n s)).getD t 0 < 0) : refillF l n s t (k + 1) F = F := by rw [refillF, if_pos h]
theorem refill_go {l : List S74} {n s t k : Nat} {F : List Int} (h : ¬ (dOf n (bfP l F n s)).getD t 0 < 0) : refillF l n s t (k + 1) F = refillF l n s t k (phaseF l (dOf n (bfP l F n s)) s t 300000000 F (List.replicate n 0)) := by rw [refillF, if_neg h]
def Rs (n0 : Nat) (a0_1 : Bool) (A2 : Option Addr) (c2 : Nat) (l : List S74) (gF cF : Nat) (A4 : Option Addr) (c4 gx gn : Nat) (s t : Nat) (R : List Int) (w w' : World) (k : Nat) : Prop :=
 ∃ (F : List Int) (nx : List Nat) (vd : Value) (B : Nat), IsFlow l F n0 s t ∧ 0 ≤ bal l F s ∧ nx.length = n0 ∧ 209715200 < (k : Int) + bal l F s ∧ refillF l n0 s t k F = R ∧ Fo n0 a0_1 A2 c2 l gF cF A4 c4 gx gn B vd F nx w' ∧ Ks (fun b => b = gx ∨ b = gF ∨ b = gn) w w'
set_option maxHeartbeats 20000000 in
set_option maxRecDepth 100000 in
theorem refill_calls (n0 : Nat) (a0_1 : Bool) (A2 : Option Addr) (c2 : Nat) (l : List S74) (gF cF : Nat) (F : List Int) (s t : Nat) (w : World)
  (hf : IsFlow l F n0 s t) (hb0 : 0 ≤ bal l F s) (hs : s < n0) (ht : t < n0) (hst : s ≠ t) (hF : IsI w gF F) (hcF : F.length ≤ cF) (ha : Kd.F k74 w (fun k => k < w.heap.size ∧ k ≠ gF) A2 l.length l) (hca : l.length ≤ c2) :
  Calls Try.prog 155 #[.agg #[.int .i64 (n0 : Int), .bool a0_1, .slice A2 l.length c2], .slice (some ⟨gF, 0, none⟩) F.length cF, .int .i64 (s : Int), .int .i64 (t : Int)] w fun e w' => e = .returned (.tuple #[]) ∧ IsI w' gF (refillF l n0 s t 300000000 F) ∧ Ks (fun b => b = gF) w w' := by
 have hu24 := Try.underlying24
 have hu184 := Try.underlying184
 have hn50 := hf.right.fifty
 have hmk := made_ints n0 (by omega)
 have HFL := Aside0.mk hf
 have HB0 := Aside0.mk hb0
 have HIF := Aside0.mk hF
 have HCF := Aside0.mk hcF
 have HAF := Aside0.mk ha
 have HCA := Aside0.mk hca
 have hgF := hF.lt
 obtain ⟨R, hR⟩ : ∃ R, R = refillF l n0 s t 300000000 F := ⟨_, rfl⟩
 rw [← hR]
 have HRR := Aside0.mk hR
 clear hf hb0 hF hcF ha hca hR
 go_enter Try.func155, Try.ntmps155
 go_upto_region 1 with (first | ((with_reducible refine gate_dst (N := 4) rfl ?_); refine box_event ?hg (N := 4) ?hd (cs := #[.int .i64 (n0 : Int), .bool a0_1, .slice A2 l.length c2]) (t := 24) ?hr ?_; (case hd => rfl); (case hg => rfl); (case hr => first | (go_simp; done) | (go_simp; rfl)); intro g4 hg4 w5 hbox hb; have B4 := Aside0.mk hbox; have HB := Aside0.mk hb; have HG4 := Aside0.mk hg4; clear hg4 hbox hb) | fail)
 have h0 : w5.cell? ⟨g4, 0, none⟩ = some (.int .i64 (n0 : Int)) := (blk_cell B4.out 0).trans rfl
 have h1 : w5.cell? ⟨g4, 1, none⟩ = some (.bool a0_1) := (blk_cell B4.out 1).trans rfl
 have h2 : w5.cell? ⟨g4, 2, none⟩ = some (.slice A2 l.length c2) := (blk_cell B4.out 2).trans rfl
 have hsz := HB.out.size
 have HIF5 := Aside0.mk (HIF.out.below HB.out)
 have HAF5 : Aside0 (Kd.F k74 w5 (fun k => k < w5.heap.size ∧ k ≠ gF) A2 l.length l) := ⟨Kd.F_mono (Kd.F_below HAF.out HB.out) (fun k hk => ⟨by omega, hk.2⟩)⟩
 have HC5 := Aside0.mk (Kd.F_now HAF5.out)
 simp only [Act.put, List.setIfInBounds_toArray, List.set_cons_zero, List.set_cons_succ]
 go_cut [8] (fun v8 wx => ∃ (gx gn : Nat) (A4 : Option Addr) (c4 : Nat), v8 = .pointer (some ⟨gx, 0, none⟩) ∧ Aside0 (Fo n0 a0_1 A2 c2 l gF cF A4 c4 gx gn wx.heap.size (.slice none 0 0) F (List.replicate n0 0) wx) ∧ Aside0 (Below w5.heap.size w5 wx) ∧ Aside0 (w5.heap.size ≤ gx ∧ w5.heap.size ≤ gn))
 case first =>
  go_region_held3 (fun w' => w'.cell? ⟨g4, 0, none⟩ = some (.int .i64 (n0 : Int)) ∧ w'.cell? ⟨g4, 1, none⟩ = some (.bool a0_1) ∧ w'.cell? ⟨g4, 2, none⟩ = some (.slice A2 l.length c2))
   (first | ((try dsimp only); (refine ⟨?_, ?_, ?_⟩) <;> first | (exact pw_cell_below (below_drew (Below.refl _ _)) (by assumption)) | (exact pw_cell_below (below_alloc (Below.refl _ _) _) (by assumption)) | (exact pw_cell_below hbr (by assumption)) | (exact pw_cell_below (below_alloc (below_step (below_drew (Below.refl w5.heap.size w5)) hbr) _) (by assumption)) | (exact pw_cell_below (below_step (below_drew (below_alloc (Below.refl w5.heap.size w5) _)) hbr) (by assumption)) | (exact pw_cell_below (below_step (below_drew (Below.refl w5.heap.size w5)) hbr) (by assumption))) | go_keep)
   (first | (go_at_call 101; refine (at_calls n0 a0_1 A2 c2 l (some ⟨gF, 0, none⟩) cF F.length _ ?hC HCA.out (by omega) (by omega) (by have := HFL.out.right.arcs; omega) (fun k hk => (HFL.out.right.ends k hk).1) (fun k hk => (HFL.out.right.ends k hk).2)).mono ?_; (case hC => first | exact HC5.out | exact Kd.C_below HC5.out (below_drew (Below.refl _ _)) | exact Kd.C_below HC5.out (below_drew (below_alloc (Below.refl _ _) _))); rintro e_ w7 ⟨vr, rfl, hS, hbr⟩; obtain ⟨A4, c4, ev⟩ := Kd.S_slice hS; subst ev; rw [rowsAt_len] at hS ⊢))
  ·go_wp2_with fail
   go_meet
   have hbb : Below w5.heap.size w5 w7 := below_step (below_drew (Below.refl w5.heap.size w5)) hbr
   have hsz7 := hbb.size
   refine ⟨w7.heap.size + 1, w7.heap.size, A4, c4, rfl, ⟨Fo.made (below_alloc (below_alloc hbb _) _) HIF5.out HAF5.out hS (below_alloc (below_alloc (Below.refl _ _) _) _) (by simp) ?_ (IsI.below (w := w7.alloc (.cells (nums .i64 (List.replicate n0 0)).toArray 3)) (heap_alloc_new w7 _) (below_alloc (Below.refl _ _) _)) (by omega) (by omega) (by omega) (.inr (Nat.le_refl _)) (by omega) HCA.out HCF.out⟩, ⟨below_alloc (below_alloc hbb _) _⟩, ⟨by omega, by omega⟩⟩
   have h_ := heap_alloc_new (w7.alloc (.cells (nums .i64 (List.replicate n0 0)).toArray 3)) (.cells #[.int .i64 (n0 : Int), .bool a0_1, .slice A2 l.length c2, .slice (some ⟨gF, 0, none⟩) F.length cF, .slice A4 n0 c4, .slice none 0 0, .slice (some ⟨w7.heap.size, 0, none⟩) n0 n0] 184)
   rw [show (w7.alloc (.cells (nums .i64 (List.replicate n0 0)).toArray 3)).heap.size = w7.heap.size + 1 by simp] at h_
   exact h_
  ·go_wp2_with fail
   go_meet
   have hbb : Below w5.heap.size w5 w7 := below_step (below_drew (below_alloc (Below.refl w5.heap.size w5) _)) hbr
   have hsz7 := hbr.size
   rw [show (w5.alloc (.cells (nums .i64 (List.replicate n0 0)).toArray 3)).drew.heap.size = w5.heap.size + 1 by simp] at hsz7
   refine ⟨w7.heap.size, w5.heap.size, A4, c4, rfl, ⟨Fo.made (below_alloc hbb _) HIF5.out HAF5.out hS (below_alloc (Below.refl _ _) _) (by simp) (heap_alloc_new w7 _) (IsI.below (w := w7) (IsI.below (w := (w5.alloc (.cells (nums .i64 (List.replicate n0 0)).toArray 3)).drew) (IsI.below (w := w5.alloc (.cells (nums .i64 (List.replicate n0 0)).toArray 3)) (heap_alloc_new w5 _) (below_drew (Below.refl _ _))) hbr) (below_alloc (Below.refl _ _) _)) (by omega) (by omega) (by omega) (.inl (by simp)) (by omega) HCA.out HCF.out⟩, ⟨below_alloc hbb _⟩, ⟨by omega, by omega⟩⟩
 case rest =>
  obtain ⟨gx, gn, A4, c4, rfl, HFO, HBC, HGX⟩ := hcut
  have HBW : Aside0 (Below w.heap.size w wc) := ⟨below_step HB.out HBC.out⟩
  have HGW : Aside0 (w.heap.size ≤ gx ∧ w.heap.size ≤ gn) := ⟨by have := HGX.out; omega⟩
  clear h0 h1 h2 hmk HIF5 HAF5 HC5 HIF HAF HB HBC B4 HGX HG4 hsz
  go_wp2_with fail
  go_loopw [] (fun w' => ∃ k, Rs n0 a0_1 A2 c2 l gF cF A4 c4 gx gn s t R wc w' k) (fun w' => least (fun k => Rs n0 a0_1 A2 c2 l gF cF A4 c4 gx gn s t R wc w' k))
  case atStart => exact ⟨300000000, F, List.replicate n0 0, .slice none 0 0, _, HFL.out, HB0.out, by simp, by have := HB0.out; omega, HRR.out.symm, HFO.out, Ks.refl _ _⟩
  case round =>
   clear HFO
   have hmin := least_spec hrel
   obtain ⟨kk, hkk⟩ : ∃ k_, k_ = least (fun k => Rs n0 a0_1 A2 c2 l gF cF A4 c4 gx gn s t R wc wr k) := ⟨_, rfl⟩
   rw [← hkk] at hmin
   have HLE := Aside0.mk hkk
   clear hrel hkk
   obtain ⟨G, nx, vd, B, hgf, hg0, hnl, hgk, hgp, hF, hK⟩ := hmin
   have hgt := flow_top hgf hs hst
   obtain ⟨k, rfl⟩ : ∃ k, kk = k + 1 := ⟨kk - 1, by omega⟩
   have HGF := Aside0.mk hgf
   have HG0 := Aside0.mk hg0
   have HGK := Aside0.mk hgk
   have HK := Aside0.mk hK
   have HFO := Aside0.mk (hF.raise hF.size (Nat.le_refl _))
   clear hgf hg0 hgk hF hK hgt
   by_cases hy : (dOf n0 (bfP l G n0 s)).getD t 0 < 0
   ·have hq : G = R := by rw [← hgp, refill_stop hy]
    have HQ := Aside0.mk hq
    have HY := Aside0.mk hy
    clear hq hgp
    obtain ⟨b, hb⟩ : ∃ b_, b_ = (!decide ((dOf n0 (bfP l G n0 s)).getD t 0 < 0)) := ⟨_, rfl⟩
    have hbf : b = false := by rw [hb, decide_eq_true hy]; rfl
    have HBE := Aside0.mk hb
    clear hy hb
    go_wp2_with (first | (go_at_call 168; refine (phase_calls n0 a0_1 A2 c2 l gF cF A4 c4 gx gn vd G s t nx _ HGF.out HG0.out hs ht hst hnl HFO.out).mono ?_; rintro e_ w8 ⟨vd', nx', rfl, hnl', hfo, hks⟩; rw [if_pos HY.out] at hfo; rw [← HBE.out]) | fail)
    refine bodyPost_end (results_none rfl _ _ _) rfl ⟨rfl, ?_, ?_⟩
    ·rw [← HQ.out]; exact hfo.fl
    ·refine ((Ks.of_below HBW.out (fun b => b = gF)).trans (HK.out.trans hks (fun b hb _ => hb)) (fun b hb hlt => ?_))
     have := HGW.out
     rcases hb with h_ | h_ | h_
     ·omega
     ·exact h_
     ·omega
   ·have hq : refillF l n0 s t k (phaseF l (dOf n0 (bfP l G n0 s)) s t 300000000 G (List.replicate n0 0)) = R := by rw [← hgp, refill_go hy]
    have HQ := Aside0.mk hq
    have HY := Aside0.mk hy
    obtain ⟨m1, m2⟩ := phase_grows HGF.out hs ht hst (by omega) 299999999
    have HM1 := Aside0.mk m1
    have HM2 := Aside0.mk m2
    clear hq hgp m1 m2
    obtain ⟨b, hb⟩ : ∃ b_, b_ = (!decide ((dOf n0 (bfP l G n0 s)).getD t 0 < 0)) := ⟨_, rfl⟩
    have hbf : b = true := by rw [hb, decide_eq_false hy]; rfl
    have HBE := Aside0.mk hb
    clear hy hb
    go_wp2_with (first | (go_at_call 168; refine (phase_calls n0 a0_1 A2 c2 l gF cF A4 c4 gx gn vd G s t nx _ HGF.out HG0.out hs ht hst hnl HFO.out).mono ?_; rintro e_ w8 ⟨vd', nx', rfl, hnl', hfo, hks⟩; rw [if_neg HY.out] at hfo; rw [← HBE.out]; have HFN := Aside0.mk hfo; have HKN := Aside0.mk hks; clear hfo hks) | fail)
    have hRs : Rs n0 a0_1 A2 c2 l gF cF A4 c4 gx gn s t R wc w8 k := by
     obtain ⟨H, hH⟩ : ∃ H_, H_ = phaseF l (dOf n0 (bfP l G n0 s)) s t 300000000 G (List.replicate n0 0) := ⟨_, rfl⟩
     have q1 := HM1.out
     have q2 := HM2.out
     rw [show 299999999 + 1 = 300000000 from rfl, ← hH] at q1 q2
     have q3 := HG0.out
     have q4 := HGK.out
     have q5 := HQ.out
     have q6 := HFN.out
     rw [← hH] at q5 q6
     exact ⟨H, nx', vd', _, q1, by omega, hnl', by omega, q5, q6, HK.out.trans HKN.out (fun b hb _ => hb)⟩
    go_roundw
    case rel => exact ⟨k, hRs⟩
    case measure => exact least_lt hRs (by rw [← HLE.out]; exact Nat.lt_succ_self k)
set_option maxHeartbeats 4000000 in
set_option maxRecDepth 100000 in
theorem maxflow_Fill_calls (a0_0 : Int) (a0_1 : Bool) (A0_2 : Option Addr) (c0_2 : Nat) (l0_2 : List S74) (a1 : Int) (a2 : Int) (r : List Int) (w : World) (hr0_2 : Kd.C k74 w A0_2 l0_2.length l0_2) (hc0_2 : l0_2.length ≤ c0_2) (h : (if endsErr a0_0 l0_2 a1 a2 = 0 then some (fillF l0_2 a0_0.toNat a1.toNat a2.toNat) else none) = some r) :
  Calls Try.prog 121 #[.agg #[.int .i64 a0_0, .bool a0_1, .slice A0_2 l0_2.length c0_2], .int .i64 a1, .int .i64 a2] w fun e w' => ∃ v0_ : Value, e = .returned (v0_) ∧ Kd.R (Kd.int .i64) 3 w' w.heap.size (fun _ => True) v0_ r ∧ Below w.heap.size w w' := by
 by_cases he : endsErr a0_0 l0_2 a1 a2 = 0
 ·rw [if_pos he] at h
  injection h with h
  obtain ⟨n0, s0, t0, rfl, rfl, rfl, hs, ht, hst, hn, hr⟩ := ends_zero he
  simp only [Int.toNat_natCast] at h
  have hM := fill_max hr hs ht hst
  have hlen : r.length = l0_2.length := by rw [← h]; exact hM.flow.right.len
  have HRE := Aside0.mk h
  have harc := hr.arcs
  have hmk := made_ints l0_2.length (by omega)
  obtain ⟨z1, z2⟩ := zeros_of (s := s0) (t := t0) hr
  have HZ1 := Aside0.mk z1
  have HZ2 := Aside0.mk z2
  have H2 := Aside0.mk hr0_2
  have HC2 := Aside0.mk hc0_2
  clear z1 z2 h he hn hr hM hr0_2 hc0_2
  go_enter Try.func121, Try.ntmps121
  go_upto_region 2 with (first | ((with_reducible refine gate_dst (N := 3) rfl ?_); refine box_event ?hg (N := 3) ?hd (cs := #[.int .i64 (n0 : Int), .bool a0_1, .slice A0_2 l0_2.length c0_2]) (t := 24) ?hr ?_; (case hd => rfl); (case hg => rfl); (case hr => first | (go_simp; done) | (go_simp; rfl)); intro g4 hg4 w5 hbox hb; have B4 := Aside0.mk hbox; have HB := Aside0.mk hb; clear hg4 hbox hb; have h2 : w5.cell? ⟨g4, 2, none⟩ = some (.slice A0_2 l0_2.length c0_2) := (blk_cell B4.out 2).trans rfl) | fail)
  have hIA : IsI (w5.alloc (.cells (nums .i64 (List.replicate l0_2.length 0)).toArray 3)) w5.heap.size (List.replicate l0_2.length 0) := heap_alloc_new w5 _
  have HB6 : Aside0 (Below w.heap.size w (w5.alloc (.cells (nums .i64 (List.replicate l0_2.length 0)).toArray 3))) := ⟨below_alloc HB.out _⟩
  have B6 : Aside0 ((w5.alloc (.cells (nums .i64 (List.replicate l0_2.length 0)).toArray 3)).heap[g4]? = _) := ⟨blk_below B4.out (below_alloc (Below.refl _ _) _)⟩
  have hgb : w.heap.size ≤ w5.heap.size := HB.out.size
  clear HB B4 h2 hmk
  generalize w5.alloc (.cells (nums .i64 (List.replicate l0_2.length 0)).toArray 3) = w6 at *
  generalize w5.heap.size = gF at *
  have HIA := Aside0.mk hIA
  clear hIA
  have h0 : w6.cell? ⟨g4, 0, none⟩ = some (.int .i64 (n0 : Int)) := (blk_cell B6.out 0).trans rfl
  have h1 : w6.cell? ⟨g4, 1, none⟩ = some (.bool a0_1) := (blk_cell B6.out 1).trans rfl
  have h2 : w6.cell? ⟨g4, 2, none⟩ = some (.slice A0_2 l0_2.length c0_2) := (blk_cell B6.out 2).trans rfl
  have key := refill_calls n0 a0_1 A0_2 c0_2 l0_2 gF l0_2.length (List.replicate l0_2.length 0) s0 t0 w6 HZ1.out (by rw [HZ2.out]; exact Int.le_refl _) hs ht hst HIA.out (by simp) (Kd.F_mono (Kd.F_below (Kd.C_F heap_k74 H2.out) (below_low (Nat.le_refl _) HB6.out)) (fun k hk => ⟨by have := HB6.out.size; omega, by omega⟩)) HC2.out
  rw [List.length_replicate] at key
  have HKEY := Aside0.mk key
  clear key
  go_wp2_with (first | (go_at_call 155; refine HKEY.out.mono ?_; rintro e_ w9 ⟨rfl, hI, hk⟩) | fail)
  go_ret
  have hI2 : IsI w9 gF r := by rw [← HRE.out]; exact hI
  have hR := hI2.R (base := w.heap.size) (ok := fun _ => True) (by omega) hgb trivial
  rw [hlen] at hR
  exact ⟨_, rfl, hR, hk.toBelow HB6.out HB6.out.size (fun b hb => by have hb : b = gF := hb; omega)⟩
 ·rw [if_neg he] at h; cases h
end Go.Proofs.Ytkcpanpdipmmmaa.H
namespace Go.Proofs.Ytkcpanpdipmmmaa.P
open Go.RowKit Go.Proofs.YtkcpanpdipmmmaaW.PrintWords Go.Proofs.YtkcpanpdipmmmaaW.PrintLast Go.Proofs.YtkcpanpdipmmmaaW.PrintMore
attribute [local go_sem] max2_int min2_int max_two min_two max_three min_three max_four min_four
def maxflow_Fill.f (a0_0 : Int) (a0_1 : Bool) (l0_2 : List (S74)) (a1 : Int) (a2 : Int) : Option (List Int) := (if H.endsErr a0_0 l0_2 a1 a2 = 0 then some (H.fillF l0_2 a0_0.toNat a1.toNat a2.toNat) else none)
theorem maxflow_Fill.calls (a0_0 : Int) (a0_1 : Bool) (A0_2 : Option Addr) (c0_2 : Nat) (l0_2 : List (S74)) (a1 : Int) (a2 : Int) (r : List Int) (w : World) (hr0_2 : Kd.C k74 w A0_2 l0_2.length l0_2) (hc0_2 : l0_2.length ≤ c0_2) (h : maxflow_Fill.f a0_0 a0_1 l0_2 a1 a2 = some r) :
  Calls Try.prog 121 #[.agg #[.int .i64 a0_0, .bool a0_1, .slice A0_2 l0_2.length c0_2], .int .i64 a1, .int .i64 a2] w fun e w' => ∃ v0_ : Value, e = .returned (v0_) ∧ Kd.R (Kd.int .i64) 3 w' w.heap.size (fun _ => True) v0_ r ∧ Below w.heap.size w w' := H.maxflow_Fill_calls a0_0 a0_1 A0_2 c0_2 l0_2 a1 a2 r w hr0_2 hc0_2 h
end Go.Proofs.Ytkcpanpdipmmmaa.P
namespace Go.Proofs.Ytkcpanpdipmmmaa.H
open Go.Proofs.Ytkcpanpdipmmmaa.P
def behindF (l : List S74) (F : List Int) (n s : Nat) : List Bool := (dOf n (bfP l F n s)).map fun k => decide (k ≥ 0)
end Go.Proofs.Ytkcpanpdipmmmaa.H
namespace Go.Proofs.Ytkcpanpdipmmmaa.P
open Go.RowKit Go.Proofs.YtkcpanpdipmmmaaW.PrintWords Go.Proofs.YtkcpanpdipmmmaaW.PrintLast Go.Proofs.YtkcpanpdipmmmaaW.PrintMore
attribute [local go_sem] max2_int min2_int max_two min_two max_three min_three max_four min_four
def mincut_reached.l0 : Nat → List Bool → List Int → Int → Int → Option (List Bool)
 | 0, _, _, _, _ => none
 | k + 1, x3, x9, x10, x11 => if x11 < x10 then (if 0 ≤ x11 then (if x11 < (x9.length : Int) then (if x11 < (x3.length : Int) then (mincut_reached.l0 k (x3.set (x11 : Int).toNat (decide ((rd x9 x11) ≥ 0))) x9 x10 (wrap64 (x11 + 1))) else (none)) else (none)) else (none)) else (some x3)
def mincut_reached.f (k : Nat) (l0 : List Int) : Option (List Bool) := if 0 ≤ (l0.length : Int) then (if ((l0.length : Int) : Int).toNat ≤ 281474976710656 then (mincut_reached.l0 k (List.replicate ((l0.length : Int) : Int).toNat false) l0 (l0.length : Int) 0) else (none)) else (none)
set_option maxHeartbeats 8000000 in
set_option maxRecDepth 100000 in
theorem mincut_reached.calls (k : Nat) (A0 : Option Addr) (c0 : Nat) (l0 : List Int) (r : List Bool) (w : World) (hr0 : Kd.C (Kd.int .i64) w A0 l0.length l0) (hc0 : l0.length ≤ c0) (h : mincut_reached.f k l0 = some r) :
  Calls Try.prog 128 #[.slice A0 l0.length c0] w fun e w' => ∃ v0_ : Value, e = .returned (v0_) ∧ Kd.R Kd.bool 4 w' w.heap.size (fun _ => True) v0_ r ∧ Below w.heap.size w w' := by
 have HR0 := Aside0.mk hr0
 have HC0 := Aside0.mk hc0
 clear hr0 hc0
 have HB := Aside0.mk (Below.refl w.heap.size w)
 have H : (if 0 ≤ (l0.length : Int) then (if ((l0.length : Int) : Int).toNat ≤ 281474976710656 then (mincut_reached.l0 k (List.replicate ((l0.length : Int) : Int).toNat false) l0 (l0.length : Int) 0) else (none)) else (none)) = some r := h
 clear h
 by_cases c2 : 0 ≤ (l0.length : Int)
 rotate_left
 ·rw [if_neg c2] at H
  exact absurd H (by simp)
 rw [if_pos c2] at H
 have c2b0 := eq_true c2
 have c2b1 : decide (0 ≤ (l0.length : Int)) = true := decide_eq_true c2
 clear c2
 by_cases c3 : ((l0.length : Int) : Int).toNat ≤ 281474976710656
 rotate_left
 ·rw [if_neg c3] at H
  exact absurd H (by simp)
 rw [if_pos c3] at H
 have c3b0 := eq_true c3
 have c3b1 : decide (((l0.length : Int) : Int).toNat ≤ 281474976710656) = true := decide_eq_true c3
 clear c3
 obtain ⟨y977, hy977⟩ : ∃ y_ : List Bool, y_ = (List.replicate ((l0.length : Int) : Int).toNat false) := ⟨_, rfl⟩
 replace H : (mincut_reached.l0 k y977 l0 (l0.length : Int) 0) = some r := by first | (rw [hy977]; with_reducible exact H) | (have H2_ := (Option.bind_some _ _).symm.trans H; rw [hy977]; with_reducible exact H2_) | (have H2_ := (Option.bind_some _ _).symm.trans H; with_reducible exact H2_) | with_reducible exact H | (rw [hy977]; exact H) | exact H
 have Ny977 := Aside0.mk hy977
 clear hy977
 have H' := Aside0.mk H
 clear H
 go_enter Try.func128, Try.ntmps128
 go_wp2_with (first | ((with_reducible refine gate_dst (N := 8) rfl ?_); refine Kd.R_make Kd.bool _ 4 rfl (N := 8) rfl 26 _ _ rfl (l0.length : Int) rfl rfl Try.underlying26 (.bool false) 1 info4 rfl (by decide) (by omega) false (ok := fun _ => True) (okp := fun _ => True) rfl (fun _ hk => hk) trivial (of_decide_eq_true (by first | (with_reducible assumption) | assumption)) (Nat.le_trans (Nat.mul_le_mul_right _ (of_decide_eq_true (by first | (with_reducible assumption) | assumption) : (l0.length : Int).toNat ≤ 281474976710656)) (by omega)) (Below.refl _ _) (Nat.le_refl _) ?_; intro v978 w4 ho5 hb hg_ hnew_; clear hg_ hnew_; (first | rw [← Ny977.out] at ho5 | (simp only [Int.reduceToNat] at ho5; rw [← Ny977.out] at ho5)); have n0_ := Aside0.mk (Kd.R_lower ho5 (below_size (by repeat (first | (with_reducible first | exact HB.out | apply below_alloc | apply pw_below_drewN | apply below_drew1) | exact HB.out)))); have n1_ := Aside0.mk (below_step (by repeat (first | (with_reducible first | exact HB.out | apply below_alloc | apply pw_below_drewN | apply below_drew1) | exact HB.out)) hb); clear HB; have HO979 := n0_; have HB := n1_; clear n0_ n1_; clear hb ho5))
 go_loopg [11] k (fun kq v11 w' => ∃ (x3_1 : List Bool) (x11_1 : Int), v11 = .int .i64 x11_1 ∧ Aside0 (mincut_reached.l0 kq x3_1 l0 (l0.length : Int) x11_1 = some r) ∧ Aside0 (kq ≤ k) ∧ Aside0 (Kd.R Kd.bool 4 w' w.heap.size (fun _ => True) v978 x3_1) ∧ Aside0 (Below w.heap.size w w'))
 case atStart => exact ⟨(y977), (0), (by first | rfl | (simp; done) | (simp [*]; done)), H', ⟨Nat.le_refl _⟩, ⟨by (with_reducible repeat (first | apply Kd.R_alloc | apply Kd.R_drewN | apply Kd.R_drew)); exact HO979.out⟩, ⟨by repeat (first | (with_reducible first | exact HB.out | apply below_alloc | apply pw_below_drewN | apply below_drew1) | exact HB.out)⟩⟩
 case round =>
  clear H'
  try clear c1
  try clear c2
  try clear c2b0
  try clear c2b1
  try clear p2
  try clear c3
  try clear c3b0
  try clear c3b1
  obtain ⟨x3_1, x11_1, rfl, HA, HK1, HO_3, HB⟩ := hrel
  cases gk with
  | zero => exact absurd HA.out (by simp [mincut_reached.l0])
  | succ k1 =>
   have H := HA.out
   clear HA
   simp only [mincut_reached.l0] at H
   by_cases c6 : x11_1 < (l0.length : Int)
   rotate_left
   ·rw [if_neg c6] at H
    have c6b0 : decide (x11_1 < (l0.length : Int)) = false := decide_eq_false c6
    clear c6
    obtain rfl := Option.some.inj H
    go_wp2
    go_ret
    exact ⟨_, by first | rfl | (simp [errW_none, errW_some] <;> rfl) | (simp [*, errW_none, errW_some] <;> rfl), by (with_reducible repeat (first | apply Kd.R_alloc | apply Kd.R_drewN | apply Kd.R_drew)); exact HO_3.out, by repeat (first | (with_reducible first | exact HB.out | apply below_alloc | apply pw_below_drewN | apply below_drew1) | exact HB.out)⟩
   rw [if_pos c6] at H
   have c6b0 : decide (x11_1 < (l0.length : Int)) = true := decide_eq_true c6
   clear c6
   by_cases c7 : 0 ≤ x11_1
   rotate_left
   ·rw [if_neg c7] at H
    exact absurd H (by simp)
   rw [if_pos c7] at H
   have c7b0 : decide (0 ≤ x11_1) = true := decide_eq_true c7
   clear c7
   by_cases c8 : x11_1 < (l0.length : Int)
   rotate_left
   ·rw [if_neg c8] at H
    exact absurd H (by simp)
   rw [if_pos c8] at H
   have c8b0 : decide (x11_1 < (l0.length : Int)) = true := decide_eq_true c8
   clear c8
   by_cases c9 : x11_1 < (x3_1.length : Int)
   rotate_left
   ·rw [if_neg c9] at H
    exact absurd H (by simp)
   rw [if_pos c9] at H
   have c9b0 : decide (x11_1 < (x3_1.length : Int)) = true := decide_eq_true c9
   clear c9
   obtain ⟨y981, hy981⟩ : ∃ y_ : List Bool, y_ = (x3_1.set (x11_1 : Int).toNat (decide ((rd l0 x11_1) ≥ 0))) := ⟨_, rfl⟩
   replace H : (mincut_reached.l0 k1 y981 l0 (l0.length : Int) (wrap64 (x11_1 + 1))) = some r := by first | (rw [hy981]; with_reducible exact H) | (have H2_ := (Option.bind_some _ _).symm.trans H; rw [hy981]; with_reducible exact H2_) | (have H2_ := (Option.bind_some _ _).symm.trans H; with_reducible exact H2_) | with_reducible exact H | (rw [hy981]; exact H) | exact H
   have Ny981 := Aside0.mk hy981
   clear hy981
   have H' := Aside0.mk H
   clear H
   have p980 : 0 ≤ (x11_1 : Int) := of_decide_eq_true (by first | (with_reducible assumption) | assumption)
   have q980 : x11_1 < (l0.length : Int) := of_decide_eq_true (by first | (with_reducible assumption) | assumption)
   obtain ⟨ad980, e980, hx980_0⟩ := Kd.at_int HR0.out x11_1 p980 q980
   cases e980
   replace hx980_0 := (HB.out.cell (World.block_lt_of_cell? w _ hx980_0)).trans hx980_0
   replace p980 := eq_true p980
   replace q980 := eq_true q980
   have p10 : 0 ≤ (x11_1 : Int) := of_decide_eq_true (by first | (with_reducible assumption) | assumption)
   have q10 : (x11_1 : Int) < ((x3_1.length : Int) : Int) := of_decide_eq_true (by first | (with_reducible assumption) | assumption)
   obtain ⟨go10, co10, eo10, gb10, gl10, cl10, HG10⟩ := Kd.R_form HO_3.out (by omega)
   (first | cases eo10 | (injection eo10 with ea_ en_ ec_; (first | subst ea_ | (injection ea_ with ea_; subst ea_)); subst ec_; clear en_))
   have GB10 := Aside0.mk gb10
   have GG10 := Aside0.mk HG10
   clear gb10 gl10 HG10
   obtain ⟨hx10_0, hf10_0⟩ := Kd.R_celln false HO_3.out (x11_1 : Int) p10 q10
   replace p10 := eq_true p10
   replace q10 := eq_true q10
   have HP11 := Kd.R_putg HO_3.out (x11_1 : Int) (decide ((rd l0 x11_1) ≥ 0))
   go_wp2_with (first | ((with_reducible refine gate_store (t := 4) (p := 20) rfl ?_); refine store_event (t := 4) (p := 20) (v := ?vo_w12) (w1 := (wr.setCell ⟨go10, (x11_1 : Int).toNat, none⟩ (.bool (decide ((rd l0 x11_1) ≥ 0))))) ?hg ?ho ?hn ?hr ?_; (case ho => rfl); (case hg => rfl); (case hn => rfl); (case hr => first | (go_simp; done) | (go_simp; rfl)); intro w12 hw; have hg : wr.grownBy w12 (some go10) := (by rw [hw]; exact HP11.2); have hp_ : Kd.R Kd.bool 4 w12 w.heap.size (fun _ => True) (.slice (some ⟨go10, 0, none⟩) x3_1.length co10) y981 := (by rw [hw, Ny981.out]; exact HP11.1); clear HP11; have n0_ := Aside0.mk (hp_); have n1_ := Aside0.mk ((by rw [hw]; exact below_set (HB.out) GB10.out : Below w.heap.size w w12)); clear HO_3; clear HB; have HO_3 := n0_; have HB := n1_; clear n0_ n1_; clear hg hw hp_))
   go_roundg k1
   case measure => have := HK1.out; omega
   case rel => exact ⟨(y981), (wrap64 (x11_1 + 1)), (by first | rfl | (simp; done) | (simp [*]; done)), H', ⟨by have := HK1.out; omega⟩, ⟨by (with_reducible repeat (first | apply Kd.R_alloc | apply Kd.R_drewN | apply Kd.R_drew)); exact HO_3.out⟩, ⟨by repeat (first | (with_reducible first | exact HB.out | apply below_alloc | apply pw_below_drewN | apply below_drew1) | exact HB.out)⟩⟩
end Go.Proofs.Ytkcpanpdipmmmaa.P
namespace Go.Proofs.Ytkcpanpdipmmmaa.Q
open Go.RowKit Go.Proofs.YtkcpanpdipmmmaaW.PrintWords Go.Proofs.YtkcpanpdipmmmaaW.PrintLast Go.Proofs.YtkcpanpdipmmmaaW.PrintMore Go.Proofs.Ytkcpanpdipmmmaa.P
def farB (d : List Int) : List Bool := d.map fun k => decide (k ≥ 0)
theorem reached_l0 (d : List Int) (hd : d.length ≤ 1000000) (m : Nat) : ∀ i : Nat, i + m = d.length →
  Ev (fun k => mincut_reached.l0 k (farB (d.take i) ++ List.replicate (d.length - i) false) d (d.length : Int) (i : Int)) (farB d) := by
 induction m with
 | zero =>
  intro i hi
  refine Ev.succ ?_; simp only [mincut_reached.l0]
  refine Ev.neg (by omega) ?_
  refine Ev.done ?_
  rw [List.take_of_length_le (by omega), show d.length - i = 0 by omega, List.replicate_zero, List.append_nil]
 | succ m ih =>
  intro i hi
  have hnx := ih (i + 1) (by omega)
  have e : (farB (d.take i) ++ List.replicate (d.length - i) false).set i (decide (rd d (i : Int) ≥ 0)) = farB (d.take (i + 1)) ++ List.replicate (d.length - (i + 1)) false := by
   rw [rd_nat, List.getD_eq_getElem?_getD, List.getElem?_eq_getElem (by omega)]
   rw [show d.length - i = (d.length - (i + 1)) + 1 by omega, List.replicate_succ]
   have hl : (farB (d.take i)).length = i := by unfold farB; rw [List.length_map, List.length_take]; omega
   rw [List.set_append, if_neg (by omega), hl, Nat.sub_self, List.set_cons_zero]
   rw [List.take_add_one, List.getElem?_eq_getElem (by omega)]
   unfold farB
   rw [List.map_append, List.append_assoc]
   rfl
  rw [← e] at hnx
  refine Ev.succ ?_; simp only [mincut_reached.l0]
  refine Ev.pos (by omega) ?_
  refine Ev.pos (by omega) ?_
  refine Ev.pos (by omega) ?_
  refine Ev.pos (by unfold farB; rw [List.length_append, List.length_map, List.length_take, List.length_replicate]; omega) ?_
  rw [wrap_succ (n := d.length) (by omega) (by omega), Int.toNat_natCast]
  exact hnx
theorem reached_ev (d : List Int) (hd : d.length ≤ 1000000) : Ev (fun k => mincut_reached.f k d) (farB d) := by
 unfold mincut_reached.f
 refine Ev.pos (by omega) ?_
 refine Ev.pos (by omega) ?_
 rw [Int.toNat_natCast]
 exact reached_l0 d hd d.length 0 (by omega)
end Go.Proofs.Ytkcpanpdipmmmaa.Q
namespace Go.Proofs.Ytkcpanpdipmmmaa.H
open Go.RowKit Go.Proofs.YtkcpanpdipmmmaaW.PrintWords Go.Proofs.YtkcpanpdipmmmaaW.PrintLast Go.Proofs.YtkcpanpdipmmmaaW.PrintMore Go.Proofs.Ytkcpanpdipmmmaa.P Go.Proofs.Ytkcpanpdipmmmaa.Q
set_option maxHeartbeats 4000000 in
set_option maxRecDepth 100000 in
theorem mincut_Behind_calls (a0_0 : Int) (a0_1 : Bool) (A0_2 : Option Addr) (c0_2 : Nat) (l0_2 : List S74) (A1 : Option Addr) (c1 : Nat) (l1 : List Int) (a2 : Int) (r : List Bool) (w : World) (hr0_2 : Kd.C k74 w A0_2 l0_2.length l0_2) (hc0_2 : l0_2.length ≤ c0_2) (hr1 : Kd.C (Kd.int .i64) w A1 l1.length l1) (hc1 : l1.length ≤ c1) (h : (if askErr a0_0 l0_2 l1 = 0 ∧ 0 ≤ a2 ∧ a2 < a0_0 then some (behindF l0_2 l1 a0_0.toNat a2.toNat) else none) = some r) :
  Calls Try.prog 124 #[.agg #[.int .i64 a0_0, .bool a0_1, .slice A0_2 l0_2.length c0_2], .slice A1 l1.length c1, .int .i64 a2] w fun e w' => ∃ v0_ : Value, e = .returned (v0_) ∧ Kd.R Kd.bool 4 w' w.heap.size (fun _ => True) v0_ r ∧ Below w.heap.size w w' := by
 by_cases he : askErr a0_0 l0_2 l1 = 0 ∧ 0 ≤ a2 ∧ a2 < a0_0
 ·rw [if_pos he] at h
  injection h with h
  obtain ⟨h0, h1, h2⟩ := he
  obtain ⟨n0, rfl, hR⟩ := right_of h0
  obtain ⟨s0, rfl⟩ : ∃ s0 : Nat, a2 = s0 := ⟨a2.toNat, by omega⟩
  rw [Int.toNat_natCast, Int.toNat_natCast] at h
  have hs0 : s0 < n0 := by omega
  have hn50 := hR.fifty
  have harc := hR.arcs
  obtain ⟨K, hK⟩ := reached_ev (dOf n0 (bfP l0_2 l1 n0 s0)) (by rw [dOf_len]; omega)
  have hr := hK K (Nat.le_refl _)
  have hb : farB (dOf n0 (bfP l0_2 l1 n0 s0)) = r := h
  rw [hb] at hr
  have HRC := Aside0.mk hr
  have HR := Aside0.mk hR
  have H2 := Aside0.mk hr0_2
  have H3 := Aside0.mk hr1
  have HC2 := Aside0.mk hc0_2
  have HC1 := Aside0.mk hc1
  clear h h0 h1 h2 hK hr hb hR hr0_2 hr1 hc0_2 hc1
  go_enter Try.func124, Try.ntmps124
  go_wp2_with (first | ((with_reducible refine gate_dst (N := 3) rfl ?_); refine box_event ?hg (N := 3) ?hd (cs := #[.int .i64 (n0 : Int), .bool a0_1, .slice A0_2 l0_2.length c0_2]) (t := 24) ?hr ?_; (case hd => rfl); (case hg => rfl); (case hr => first | (go_simp; done) | (go_simp; rfl)); intro g4 hg4 w5 hbox hb; have B4 := Aside0.mk hbox; have HB := Aside0.mk hb; clear hg4 hbox hb; have h0 : w5.cell? ⟨g4, 0, none⟩ = some (.int .i64 (n0 : Int)) := (blk_cell B4.out 0).trans rfl; have h1 : w5.cell? ⟨g4, 1, none⟩ = some (.bool a0_1) := (blk_cell B4.out 1).trans rfl; have h2 : w5.cell? ⟨g4, 2, none⟩ = some (.slice A0_2 l0_2.length c0_2) := (blk_cell B4.out 2).trans rfl) | (go_at_call 101; refine (at_calls n0 a0_1 A0_2 c0_2 l0_2 A1 c1 l1.length _ (Kd.C_below H2.out HB.out) HC2.out (by omega) (by omega) (by omega) (fun k hk => (HR.out.ends k hk).1) (fun k hk => (HR.out.ends k hk).2)).mono ?_; rintro e_ w7 ⟨vr, rfl, hS, hb⟩; obtain ⟨A4, c4, ev⟩ := Kd.S_slice hS; subst ev; have H4 := Aside0.mk (Kd.S_reads' hS).2.2; rw [rowsAt_len] at H4 ⊢; have n0_ := Aside0.mk (below_step HB.out hb); clear HB hb hS h0 h1 h2; have HB := n0_; clear n0_) | (go_at_call 108; refine (far_calls n0 a0_1 A0_2 c0_2 l0_2 A1 c1 l1 A4 c4 s0 _ HR.out hs0 HC2.out HC1.out (Kd.C_below H2.out HB.out) (Kd.C_below H3.out HB.out) H4.out).mono ?_; rintro e_ w8 ⟨gd, rfl, hge, hd, hb⟩; have HD := Aside0.mk hd; have n0_ := Aside0.mk (below_step HB.out hb); clear HB hb hd hge; have HB := n0_; clear n0_; have HCD : Aside0 (Kd.C (Kd.int .i64) w8 (some ⟨gd, 0, none⟩) n0 (dOf n0 (bfP l0_2 l1 n0 s0))) := ⟨by have h_ := (Kd.R_reads' (HD.out.R (by rw [dOf_len]; omega) (base := 0) (Nat.zero_le _) (ok := fun _ => True) trivial)).2.2; rw [dOf_len] at h_; exact h_⟩) | (go_at_call 128; have key := mincut_reached.calls K (some ⟨gd, 0, none⟩) n0 (dOf n0 (bfP l0_2 l1 n0 s0)) r w8 (by rw [dOf_len]; exact HCD.out) (by rw [dOf_len]; exact Nat.le_refl _) HRC.out; rw [dOf_len] at key; refine key.mono ?_; rintro e_ w9 ⟨v0, rfl, hr9, hb⟩; have HR9 := Aside0.mk (Kd.R_lower hr9 HB.out.size); have n0_ := Aside0.mk (below_step HB.out hb); clear HB hb hr9; have HB := n0_; clear n0_) | fail)
  go_ret
  exact ⟨_, rfl, HR9.out, HB.out⟩
 ·rw [if_neg he] at h; cases h
end Go.Proofs.Ytkcpanpdipmmmaa.H
namespace Go.Proofs.Ytkcpanpdipmmmaa.P
open Go.RowKit Go.Proofs.YtkcpanpdipmmmaaW.PrintWords Go.Proofs.YtkcpanpdipmmmaaW.PrintLast Go.Proofs.YtkcpanpdipmmmaaW.PrintMore
attribute [local go_sem] max2_int min2_int max_two min_two max_three min_three max_four min_four
def mincut_Behind.f (a0_0 : Int) (a0_1 : Bool) (l0_2 : List (S74)) (l1 : List Int) (a2 : Int) : Option (List Bool) := (if Q.askErr a0_0 l0_2 l1 = 0 ∧ 0 ≤ a2 ∧ a2 < a0_0 then some (H.behindF l0_2 l1 a0_0.toNat a2.toNat) else none)
theorem mincut_Behind.calls (a0_0 : Int) (a0_1 : Bool) (A0_2 : Option Addr) (c0_2 : Nat) (l0_2 : List (S74)) (A1 : Option Addr) (c1 : Nat) (l1 : List Int) (a2 : Int) (r : List Bool) (w : World) (hr0_2 : Kd.C k74 w A0_2 l0_2.length l0_2) (hc0_2 : l0_2.length ≤ c0_2) (hr1 : Kd.C (Kd.int .i64) w A1 l1.length l1) (hc1 : l1.length ≤ c1) (h : mincut_Behind.f a0_0 a0_1 l0_2 l1 a2 = some r) :
  Calls Try.prog 124 #[.agg #[.int .i64 a0_0, .bool a0_1, .slice A0_2 l0_2.length c0_2], .slice A1 l1.length c1, .int .i64 a2] w fun e w' => ∃ v0_ : Value, e = .returned (v0_) ∧ Kd.R Kd.bool 4 w' w.heap.size (fun _ => True) v0_ r ∧ Below w.heap.size w w' := H.mincut_Behind_calls a0_0 a0_1 A0_2 c0_2 l0_2 A1 c1 l1 a2 r w hr0_2 hc0_2 hr1 hc1 h
end Go.Proofs.Ytkcpanpdipmmmaa.P
namespace Go.Proofs.Ytkcpanpdipmmmaa.P
open Go.RowKit Go.Proofs.YtkcpanpdipmmmaaW.PrintWords Go.Proofs.YtkcpanpdipmmmaaW.PrintLast Go.Proofs.YtkcpanpdipmmmaaW.PrintMore
attribute [local go_sem] max2_int min2_int max_two min_two max_three min_three max_four min_four
def mincut_Least.f (k : Nat) (a0_0 : Int) (a0_1 : Bool) (l0_2 : List (S74)) (a1 : Int) (a2 : Int) : Option (List Bool × Int × Int) := (static_Ends.f k a0_0 a0_1 l0_2 a1 a2).bind fun t989 => (if t989 = 0 then ((maxflow_Fill.f a0_0 a0_1 l0_2 a1 a2).bind fun t990 => ((mincut_Behind.f a0_0 a0_1 l0_2 t990 a1).bind fun t993 => ((mincut_takes.f k a0_0 a0_1 l0_2 t993).bind fun t996 => (some (t993, t996, 0))))) else (some (([] : List Bool), 0, t989)))
def mincut_Least.T4 : Bool × List (List Nat × List Nat) := (true, [([], []), ([], []), ([], []), ([], []), ([1, 2, 3], [1, 2, 3]), ([], []), ([0, 4, 5, 4], [0, 4, 5]), ([6, 6, 0, 1, 2, 3, 4, 5, 6], [6])])
def mincut_Least.B4 : List Nat := [0, 0, 0, 0, 14, 0, 63, 127]
theorem mincut_Least.tab4 : rtab .any (opsOf Try.f79 4) = mincut_Least.T4 := by kernel_rfl
theorem mincut_Least.bits4 : waitsOk mincut_Least.T4.2 mincut_Least.B4 = true := by kernel_rfl
set_option maxHeartbeats 8000000 in
set_option maxRecDepth 100000 in
theorem mincut_Least.calls (k : Nat) (a0_0 : Int) (a0_1 : Bool) (A0_2 : Option Addr) (c0_2 : Nat) (l0_2 : List (S74)) (a1 : Int) (a2 : Int) (r1 : List Bool) (r2 : Int) (r3 : Int) (w : World) (hr0_2 : Kd.C k74 w A0_2 l0_2.length l0_2) (hc0_2 : l0_2.length ≤ c0_2) (h : mincut_Least.f k a0_0 a0_1 l0_2 a1 a2 = some (r1, r2, r3)) :
  Calls Try.prog 79 #[.agg #[.int .i64 a0_0, .bool a0_1, .slice A0_2 l0_2.length c0_2], .int .i64 a1, .int .i64 a2] w fun e w' => ∃ v0_ : Value, e = .returned (.tuple #[v0_, .int .i64 r2, .int .i64 r3]) ∧ Kd.R Kd.bool 4 w' w.heap.size (fun _ => True) v0_ r1 ∧ Below w.heap.size w w' := by
 have hu24 := Try.underlying24
 have HR0_2 := Aside0.mk hr0_2
 have HC0_2 := Aside0.mk hc0_2
 clear hr0_2 hc0_2
 have HB := Aside0.mk (Below.refl w.heap.size w)
 have H : ((static_Ends.f k a0_0 a0_1 l0_2 a1 a2).bind fun t989 => (if t989 = 0 then ((maxflow_Fill.f a0_0 a0_1 l0_2 a1 a2).bind fun t990 => ((mincut_Behind.f a0_0 a0_1 l0_2 t990 a1).bind fun t993 => ((mincut_takes.f k a0_0 a0_1 l0_2 t993).bind fun t996 => (some (t993, t996, 0))))) else (some (([] : List Bool), 0, t989)))) = some (r1, r2, r3) := h
 clear h
 replace H := Option.bind_eq_some_iff.mp H
 obtain ⟨t989, A40, H⟩ := H
 replace H : (if t989 = 0 then ((maxflow_Fill.f a0_0 a0_1 l0_2 a1 a2).bind fun t990 => ((mincut_Behind.f a0_0 a0_1 l0_2 t990 a1).bind fun t993 => ((mincut_takes.f k a0_0 a0_1 l0_2 t993).bind fun t996 => (some (t993, t996, 0))))) else (some (([] : List Bool), 0, t989))) = some (r1, r2, r3) := H
 have A4 := Aside0.mk A40
 clear A40
 by_cases c5 : t989 = 0
 rotate_left
 ·rw [if_neg c5] at H
  have c5b0 : (t989 == 0) = false := beq_eq_false_iff_ne.mpr c5
  have c5b1 : (t989 != 0) = true := bne_iff_ne.mpr c5
  simp only [Option.some.injEq, Prod.mk.injEq] at H
  obtain ⟨rfl, rfl, rfl⟩ := H
  go_enter Try.func79, Try.ntmps79
  go_wp2_with (first | ((with_reducible refine gate_dst (N := 3) rfl ?_); refine box_event ?hg (N := 3) ?hd (cs := #[.int .i64 a0_0, .bool a0_1, .slice A0_2 l0_2.length c0_2]) (t := 24) ?hr ?_; (case hd => rfl); (case hg => rfl); (case hr => first | (go_simp; done) | (go_simp; rfl)); intro gb988 hg w19 hbox hb; have n0_ := Aside0.mk (below_step (by repeat (first | (with_reducible first | exact HB.out | apply below_alloc | apply pw_below_drewN | apply below_drew1) | exact HB.out)) hb); have n1_ := Aside0.mk (hbox); have n2_ := Aside0.mk ((by rw [hg]; exact (below_size (by repeat (first | (with_reducible first | exact HB.out | apply below_alloc | apply pw_below_drewN | apply below_drew1) | exact HB.out))) : w.heap.size ≤ gb988)); have n3_ := Aside0.mk ((by rw [hg]; exact (below_size (by repeat (first | (with_reducible first | exact HB.out | apply below_alloc | apply pw_below_drewN | apply below_drew1) | exact HB.out))) : w.heap.size ≤ gb988)); clear HB; have HB := n0_; have BK988 := n1_; have GW988 := n2_; have GE988 := n3_; clear n0_ n1_ n2_ n3_; clear hb hbox hg; have hcz20_0 : w19.cell? ⟨gb988, 0, none⟩ = some (.int .i64 a0_0) := (blk_cell BK988.out 0).trans rfl; have hcz20_1 : w19.cell? ⟨gb988, 1, none⟩ = some (.bool a0_1) := (blk_cell BK988.out 1).trans rfl; have hcz20_2 : w19.cell? ⟨gb988, 2, none⟩ = some (.slice A0_2 l0_2.length c0_2) := (blk_cell BK988.out 2).trans rfl; have hfz20_0 := blk_frozen BK988.out 0; have hfz20_1 := blk_frozen BK988.out 1; have hfz20_2 := blk_frozen BK988.out 2) | ((with_reducible refine gate_callee (f := 111) rfl ?_); refine goesL_ (some 12) rfl rfl Try.func111 (by kernel_rfl) rfl #[.agg #[.int .i64 a0_0, .bool a0_1, .slice A0_2 l0_2.length c0_2], .int .i64 a1, .int .i64 a2] rfl (by (try simp only [List.map_toArray, List.map_cons, List.map_nil]); first | done | rfl | (simp only [List.length_drop, List.length_take]; rfl)) ?_; (with_reducible refine (static_Ends.calls k a0_0 a0_1 _ _ l0_2 a1 a2 t989 _ ?side1 ?side2 A4.out).mono ?_); (case side1 => repeat (first | exact (Kd.C_below HR0_2.out HB.out) | (with_reducible refine Kd.C_alloc ?_ _) | (with_reducible refine Kd.C_drewN ?_ _) | (with_reducible refine Kd.C_drew ?_))); (case side2 => exact HC0_2.out); rintro e w21 ⟨rfl, hb⟩; refine ⟨_, rfl, ?_⟩; have n0_ := Aside0.mk (blk_below (g := gb988) (o := .cells #[.int .i64 a0_0, .bool a0_1, .slice A0_2 l0_2.length c0_2] 24 (0, 0)) (by (with_reducible repeat (first | refine blk_drewN ?_ _ | refine blk_drew ?_ | refine blk_alloc ?_ _)); exact BK988.out) hb); have n1_ := Aside0.mk (below_step (by repeat (first | (with_reducible first | exact HB.out | apply below_alloc | apply pw_below_drewN | apply below_drew1 | refine below_set ?_ GE988.out) | exact HB.out)) hb); clear BK988; clear HB; have BK988 := n0_; have HB := n1_; clear n0_ n1_; (try clear hb); (try clear hb2); (try clear hk); (try clear hi)))
  go_ret3
  exact ⟨_, by first | rfl | (simp [errW_none, errW_some] <;> rfl) | (simp [*, errW_none, errW_some] <;> rfl), by first | exact Kd.R_nil _ _ _ _ _ | exact Kd.N_nil _ _ _ _ _ | exact Kd.V_nil _ _ _ _ _ | exact Kd.Q_nil _ _ _ _ _ | exact Kd.S_nil _ _ _ _ _, by repeat (first | (with_reducible first | exact HB.out | apply below_alloc | apply pw_below_drewN | apply below_drew1 | refine below_set ?_ GE988.out) | exact HB.out)⟩
 rw [if_pos c5] at H
 have c5b0 : (t989 == 0) = true := beq_iff_eq.mpr c5
 have c5b1 : (t989 != 0) = false := bne_eq_false_iff_eq.mpr c5
 clear c5
 replace H := Option.bind_eq_some_iff.mp H
 obtain ⟨t990, A60, H⟩ := H
 replace H : ((mincut_Behind.f a0_0 a0_1 l0_2 t990 a1).bind fun t993 => ((mincut_takes.f k a0_0 a0_1 l0_2 t993).bind fun t996 => (some (t993, t996, 0)))) = some (r1, r2, r3) := H
 have A6 := Aside0.mk A60
 clear A60
 replace H := Option.bind_eq_some_iff.mp H
 obtain ⟨t993, A70, H⟩ := H
 replace H : ((mincut_takes.f k a0_0 a0_1 l0_2 t993).bind fun t996 => (some (t993, t996, 0))) = some (r1, r2, r3) := H
 have A7 := Aside0.mk A70
 clear A70
 replace H := Option.bind_eq_some_iff.mp H
 obtain ⟨t996, A80, H⟩ := H
 replace H : (some (t993, t996, 0)) = some (r1, r2, r3) := H
 have A8 := Aside0.mk A80
 clear A80
 simp only [Option.some.injEq, Prod.mk.injEq] at H
 obtain ⟨rfl, rfl, rfl⟩ := H
 go_enter Try.func79, Try.ntmps79
 try go_wp2_with (first | ((with_reducible refine gate_dst (N := 3) rfl ?_); refine box_event ?hg (N := 3) ?hd (cs := #[.int .i64 a0_0, .bool a0_1, .slice A0_2 l0_2.length c0_2]) (t := 24) ?hr ?_; (case hd => rfl); (case hg => rfl); (case hr => first | (go_simp; done) | (go_simp; rfl)); intro gb988 hg w9 hbox hb; have n0_ := Aside0.mk (below_step (by repeat (first | (with_reducible first | exact HB.out | apply below_alloc | apply pw_below_drewN | apply below_drew1) | exact HB.out)) hb); have n1_ := Aside0.mk (hbox); have n2_ := Aside0.mk ((by rw [hg]; exact (below_size (by repeat (first | (with_reducible first | exact HB.out | apply below_alloc | apply pw_below_drewN | apply below_drew1) | exact HB.out))) : w.heap.size ≤ gb988)); have n3_ := Aside0.mk ((by rw [hg]; exact (below_size (by repeat (first | (with_reducible first | exact HB.out | apply below_alloc | apply pw_below_drewN | apply below_drew1) | exact HB.out))) : w.heap.size ≤ gb988)); clear HB; have HB := n0_; have BK988 := n1_; have GW988 := n2_; have GE988 := n3_; clear n0_ n1_ n2_ n3_; clear hb hbox hg; have hcz10_0 : w9.cell? ⟨gb988, 0, none⟩ = some (.int .i64 a0_0) := (blk_cell BK988.out 0).trans rfl; have hcz10_1 : w9.cell? ⟨gb988, 1, none⟩ = some (.bool a0_1) := (blk_cell BK988.out 1).trans rfl; have hcz10_2 : w9.cell? ⟨gb988, 2, none⟩ = some (.slice A0_2 l0_2.length c0_2) := (blk_cell BK988.out 2).trans rfl; have hfz10_0 := blk_frozen BK988.out 0; have hfz10_1 := blk_frozen BK988.out 1; have hfz10_2 := blk_frozen BK988.out 2) | ((with_reducible refine gate_callee (f := 111) rfl ?_); refine goesL_ (some 12) rfl rfl Try.func111 (by kernel_rfl) rfl #[.agg #[.int .i64 a0_0, .bool a0_1, .slice A0_2 l0_2.length c0_2], .int .i64 a1, .int .i64 a2] rfl (by (try simp only [List.map_toArray, List.map_cons, List.map_nil]); first | done | rfl | (simp only [List.length_drop, List.length_take]; rfl)) ?_; (with_reducible refine (static_Ends.calls k a0_0 a0_1 _ _ l0_2 a1 a2 t989 _ ?side1 ?side2 A4.out).mono ?_); (case side1 => repeat (first | exact (Kd.C_below HR0_2.out HB.out) | (with_reducible refine Kd.C_alloc ?_ _) | (with_reducible refine Kd.C_drewN ?_ _) | (with_reducible refine Kd.C_drew ?_))); (case side2 => exact HC0_2.out); rintro e w11 ⟨rfl, hb⟩; refine ⟨_, rfl, ?_⟩; have n0_ := Aside0.mk (blk_below (g := gb988) (o := .cells #[.int .i64 a0_0, .bool a0_1, .slice A0_2 l0_2.length c0_2] 24 (0, 0)) (by (with_reducible repeat (first | refine blk_drewN ?_ _ | refine blk_drew ?_ | refine blk_alloc ?_ _)); exact BK988.out) hb); have n1_ := Aside0.mk (below_step (by repeat (first | (with_reducible first | exact HB.out | apply below_alloc | apply pw_below_drewN | apply below_drew1 | refine below_set ?_ GE988.out) | exact HB.out)) hb); clear BK988; clear HB; have BK988 := n0_; have HB := n1_; clear n0_ n1_; (try clear hb); (try clear hb2); (try clear hk); (try clear hi)))
 have n0_ := Aside0.mk (blk_drew BK988.out)
 have n1_ := Aside0.mk (below_drew1 HB.out)
 clear BK988
 clear HB
 have BK988 := n0_
 have HB := n1_
 clear n0_ n1_
 refine start_ (n := 8) (S := fun w' => w'.cell? ⟨gb988, 0, none⟩ = some (.int .i64 a0_0) ∧ w'.cell? ⟨gb988, 1, none⟩ = some (.bool a0_1) ∧ w'.cell? ⟨gb988, 2, none⟩ = some (.slice A0_2 l0_2.length c0_2)) (ds := []) #[false, false, false, false, false, false, false, false] (by kernel_rfl) rfl rfl ⟨(blk_cell BK988.out 0).trans rfl, (blk_cell BK988.out 1).trans rfl, (blk_cell BK988.out 2).trans rfl⟩ (fun hHeld => ?_); refine with_tabW mincut_Least.tab4 mincut_Least.bits4 (fun HT_ HW_ => ?_)
 generalize w11.drew = w12 at BK988 HB hHeld ⊢
 refine pure_ (i := 2) (N := some 18) (v := ?_) (a' := ?_) #[false, false, true, false, false, false, false, false] rfl rfl (any_of HT_.out (by kernel_rfl)) (fun _ _ _ h => h) (Or.inl ⟨by rfl, ?_⟩) ?_ ?_
 rotate_left
 ·intro w'
  go_simp
  with_reducible rfl
 rotate_left
 ·simp only [Act.put, List.setIfInBounds_toArray, List.set_cons_zero, List.set_cons_succ, i64_w, i32_w]
  rfl
 refine pure_ (i := 3) (N := some 19) (v := ?_) (a' := ?_) #[false, false, true, true, false, false, false, false] rfl rfl (any_of HT_.out (by kernel_rfl)) (fun _ _ _ h => h) (Or.inl ⟨by rfl, ?_⟩) ?_ ?_
 rotate_left
 ·intro w'
  go_simp
  with_reducible rfl
 rotate_left
 ·simp only [Act.put, List.setIfInBounds_toArray, List.set_cons_zero, List.set_cons_succ, i64_w, i32_w]
  rfl
 refine pure_ (i := 5) (N := some 21) (v := ?_) (a' := ?_) #[false, false, true, true, false, true, false, false] rfl rfl (any_of HT_.out (by kernel_rfl)) (fun _ _ _ h => h) (Or.inl ⟨by rfl, ?_⟩) ?_ ?_
 rotate_left
 ·intro w'
  go_simp
  with_reducible rfl
 rotate_left
 ·simp only [Act.put, List.setIfInBounds_toArray, List.set_cons_zero, List.set_cons_succ, i64_w, i32_w]
  rfl
 refine take_ (i := 0) (N := some 16) (v := ?_) (a' := ?_) #[true, false, true, true, false, true, false, false] rfl rfl (take_ofW HT_.out HW_.out (by kernel_rfl)) (fun _ _ _ h => h) (Or.inl ⟨by rfl, ?_⟩) hHeld ?_ ?_
 rotate_left
 ·rintro w' ⟨s0, s1, s2⟩
  go_simp
  with_reducible rfl
 rotate_left
 ·simp only [Act.put, List.setIfInBounds_toArray, List.set_cons_zero, List.set_cons_succ, i64_w, i32_w]
  rfl
 refine take_ (i := 1) (N := some 17) (v := ?_) (a' := ?_) #[true, true, true, true, false, true, false, false] rfl rfl (take_ofW HT_.out HW_.out (by kernel_rfl)) (fun _ _ _ h => h) (Or.inl ⟨by rfl, ?_⟩) hHeld ?_ ?_
 rotate_left
 ·rintro w' ⟨s0, s1, s2⟩
  go_simp
  with_reducible rfl
 rotate_left
 ·simp only [Act.put, List.setIfInBounds_toArray, List.set_cons_zero, List.set_cons_succ, i64_w, i32_w]
  rfl
 refine one_ (i := 4) (N := some 20) #[true, true, true, true, true, true, false, false] rfl rfl (one_of HT_.out (by kernel_rfl)) (by decide) (fun K hK => ?_)
 refine goes_ Try.func121 (by kernel_rfl) rfl #[.agg #[.int .i64 a0_0, .bool a0_1, .slice A0_2 l0_2.length c0_2], .int .i64 a1, .int .i64 a2] (by rfl) rfl rfl (by (try simp only [List.map_toArray, List.map_cons, List.map_nil]); first | done | rfl | (simp only [List.length_drop, List.length_take]; rfl)) ?_
 with_reducible refine (maxflow_Fill.calls a0_0 a0_1 _ _ l0_2 a1 a2 t990 _ ?side1 ?side2 A6.out).mono ?_
 (case side1 => repeat (first | exact (Kd.C_below HR0_2.out HB.out) | (with_reducible refine Kd.C_alloc ?_ _) | (with_reducible refine Kd.C_drewN ?_ _) | (with_reducible refine Kd.C_drew ?_)))
 (case side2 => exact HC0_2.out)
 rintro e w13 ⟨v991, rfl, ho0, hb⟩
 refine ⟨_, rfl, ?_⟩
 have n0_ := Aside0.mk (Kd.R_lower ho0 (below_size (by repeat (first | (with_reducible first | exact HB.out | apply below_alloc | apply pw_below_drewN | apply below_drew1 | refine below_set ?_ GE988.out) | exact HB.out))))
 have n1_ := Aside0.mk (blk_below (g := gb988) (o := .cells #[.int .i64 a0_0, .bool a0_1, .slice A0_2 l0_2.length c0_2] 24 (0, 0)) (by (with_reducible repeat (first | refine blk_drewN ?_ _ | refine blk_drew ?_ | refine blk_alloc ?_ _)); exact BK988.out) hb)
 have n2_ := Aside0.mk (below_step (by repeat (first | (with_reducible first | exact HB.out | apply below_alloc | apply pw_below_drewN | apply below_drew1 | refine below_set ?_ GE988.out) | exact HB.out)) hb)
 clear BK988
 clear HB
 have HO992 := n0_
 have BK988 := n1_
 have HB := n2_
 clear n0_ n1_ n2_
 (try clear hb)
 (try clear hb2)
 (try clear hk)
 (try clear hi)
 (try clear ho0)
 obtain ⟨Ao14, co14, eo14⟩ := Kd.R_slice HO992.out
 (first | subst eo14 | (injection eo14 with f1_ f2_ f3_; have f4_ := f1_.symm; have f5_ := f3_.symm; clear f1_ f2_ f3_; subst f4_; subst f5_))
 refine hK.out _ _ ⟨(blk_cell BK988.out 0).trans rfl, (blk_cell BK988.out 1).trans rfl, (blk_cell BK988.out 2).trans rfl⟩ (fun hHeld => ?_)
 clear hK K
 refine norm_ (a' := ?_) ?_ ?_
 rotate_left
 ·show Act.put _ (some 20) _ = _
  simp only [Act.put, List.setIfInBounds_toArray, List.set_cons_zero, List.set_cons_succ, i64_w, i32_w]
  rfl
 refine one_ (i := 6) (N := some 22) #[true, true, true, true, true, true, true, false] rfl rfl (one_of HT_.out (by kernel_rfl)) (by decide) (fun K hK => ?_)
 refine goes_ Try.func124 (by kernel_rfl) rfl #[.agg #[.int .i64 a0_0, .bool a0_1, .slice A0_2 l0_2.length c0_2], .slice Ao14 t990.length co14, .int .i64 a1] (by rfl) rfl rfl (by (try simp only [List.map_toArray, List.map_cons, List.map_nil]); first | done | rfl | (simp only [List.length_drop, List.length_take]; rfl)) ?_
 with_reducible refine (mincut_Behind.calls a0_0 a0_1 _ _ l0_2 _ _ t990 a1 t993 _ ?side1 ?side2 ?side3 ?side4 A7.out).mono ?_
 (case side1 => repeat (first | exact (Kd.C_below HR0_2.out HB.out) | (with_reducible refine Kd.C_alloc ?_ _) | (with_reducible refine Kd.C_drewN ?_ _) | (with_reducible refine Kd.C_drew ?_)))
 (case side2 => exact HC0_2.out)
 (case side3 => repeat (first | exact (Kd.R_reads' HO992.out).2.2 | (with_reducible refine Kd.C_alloc ?_ _) | (with_reducible refine Kd.C_drewN ?_ _) | (with_reducible refine Kd.C_drew ?_)))
 (case side4 => exact (Kd.R_reads' HO992.out).2.1)
 rintro e w15 ⟨v994, rfl, ho0, hb⟩
 refine ⟨_, rfl, ?_⟩
 have n0_ := Aside0.mk (Kd.R_below (by (with_reducible repeat (first | apply Kd.R_alloc | apply Kd.R_drewN | apply Kd.R_drew)); exact HO992.out) hb)
 have n1_ := Aside0.mk (Kd.R_lower ho0 (below_size (by repeat (first | (with_reducible first | exact HB.out | apply below_alloc | apply pw_below_drewN | apply below_drew1 | refine below_set ?_ GE988.out) | exact HB.out))))
 have n2_ := Aside0.mk (blk_below (g := gb988) (o := .cells #[.int .i64 a0_0, .bool a0_1, .slice A0_2 l0_2.length c0_2] 24 (0, 0)) (by (with_reducible repeat (first | refine blk_drewN ?_ _ | refine blk_drew ?_ | refine blk_alloc ?_ _)); exact BK988.out) hb)
 have n3_ := Aside0.mk (below_step (by repeat (first | (with_reducible first | exact HB.out | apply below_alloc | apply pw_below_drewN | apply below_drew1 | refine below_set ?_ GE988.out) | exact HB.out)) hb)
 clear HO992
 clear BK988
 clear HB
 have HO992 := n0_
 have HO995 := n1_
 have BK988 := n2_
 have HB := n3_
 clear n0_ n1_ n2_ n3_
 (try clear hb)
 (try clear hb2)
 (try clear hk)
 (try clear hi)
 (try clear ho0)
 refine hK.out _ _ ⟨(blk_cell BK988.out 0).trans rfl, (blk_cell BK988.out 1).trans rfl, (blk_cell BK988.out 2).trans rfl⟩ (fun hHeld => ?_)
 clear hK K
 refine norm_ (a' := ?_) ?_ ?_
 rotate_left
 ·show Act.put _ (some 22) _ = _
  simp only [Act.put, List.setIfInBounds_toArray, List.set_cons_zero, List.set_cons_succ, i64_w, i32_w]
  rfl
 refine pure_ (i := 7) (N := some 6) (v := ?_) (a' := ?_) #[true, true, true, true, true, true, true, true] rfl rfl (any_of HT_.out (by kernel_rfl)) (fun _ _ _ h => h) (Or.inl ⟨by rfl, ?_⟩) ?_ ?_
 rotate_left
 ·intro w'
  go_simp
  with_reducible rfl
 rotate_left
 ·simp only [Act.put, List.setIfInBounds_toArray, List.set_cons_zero, List.set_cons_succ, i64_w, i32_w]
  rfl
 refine done_ (done_of HT_.out (by kernel_rfl)) ?_
 have hcz16_0 : w15.cell? ⟨gb988, 0, none⟩ = some (.int .i64 a0_0) := (blk_cell BK988.out 0).trans rfl
 have hcz16_1 : w15.cell? ⟨gb988, 1, none⟩ = some (.bool a0_1) := (blk_cell BK988.out 1).trans rfl
 have hcz16_2 : w15.cell? ⟨gb988, 2, none⟩ = some (.slice A0_2 l0_2.length c0_2) := (blk_cell BK988.out 2).trans rfl
 have hfz16_0 := blk_frozen BK988.out 0
 have hfz16_1 := blk_frozen BK988.out 1
 have hfz16_2 := blk_frozen BK988.out 2
 obtain ⟨Ao17, co17, eo17⟩ := Kd.R_slice HO995.out
 subst eo17
 try go_wp2_with (first | ((with_reducible refine gate_callee (f := 125) rfl ?_); refine goesL_ (some 26) rfl rfl Try.func125 (by kernel_rfl) rfl #[.agg #[.int .i64 a0_0, .bool a0_1, .slice A0_2 l0_2.length c0_2], .slice Ao17 t993.length co17] rfl (by (try simp only [List.map_toArray, List.map_cons, List.map_nil]); first | done | rfl | (simp only [List.length_drop, List.length_take]; rfl)) ?_; (with_reducible refine (mincut_takes.calls k a0_0 a0_1 _ _ l0_2 _ _ t993 t996 _ ?side1 ?side2 ?side3 ?side4 A8.out).mono ?_); (case side1 => repeat (first | exact (Kd.C_below HR0_2.out HB.out) | (with_reducible refine Kd.C_alloc ?_ _) | (with_reducible refine Kd.C_drewN ?_ _) | (with_reducible refine Kd.C_drew ?_))); (case side2 => exact HC0_2.out); (case side3 => repeat (first | exact (Kd.R_reads' HO995.out).2.2 | (with_reducible refine Kd.C_alloc ?_ _) | (with_reducible refine Kd.C_drewN ?_ _) | (with_reducible refine Kd.C_drew ?_))); (case side4 => exact (Kd.R_reads' HO995.out).2.1); rintro e w18 ⟨rfl, hb⟩; refine ⟨_, rfl, ?_⟩; have n0_ := Aside0.mk (Kd.R_below (by (with_reducible repeat (first | apply Kd.R_alloc | apply Kd.R_drewN | apply Kd.R_drew)); exact HO992.out) hb); have n1_ := Aside0.mk (Kd.R_below (by (with_reducible repeat (first | apply Kd.R_alloc | apply Kd.R_drewN | apply Kd.R_drew)); exact HO995.out) hb); have n2_ := Aside0.mk (blk_below (g := gb988) (o := .cells #[.int .i64 a0_0, .bool a0_1, .slice A0_2 l0_2.length c0_2] 24 (0, 0)) (by (with_reducible repeat (first | refine blk_drewN ?_ _ | refine blk_drew ?_ | refine blk_alloc ?_ _)); exact BK988.out) hb); have n3_ := Aside0.mk (below_step (by repeat (first | (with_reducible first | exact HB.out | apply below_alloc | apply pw_below_drewN | apply below_drew1 | refine below_set ?_ GE988.out) | exact HB.out)) hb); clear HO992; clear HO995; clear BK988; clear HB; have HO992 := n0_; have HO995 := n1_; have BK988 := n2_; have HB := n3_; clear n0_ n1_ n2_ n3_; (try clear hb); (try clear hb2); (try clear hk); (try clear hi)))
 go_ret3
 exact ⟨_, by first | rfl | (simp [errW_none, errW_some] <;> rfl) | (simp [*, errW_none, errW_some] <;> rfl), by (with_reducible repeat (first | apply Kd.R_alloc | apply Kd.R_drewN | apply Kd.R_drew)); exact HO995.out, by repeat (first | (with_reducible first | exact HB.out | apply below_alloc | apply pw_below_drewN | apply below_drew1 | refine below_set ?_ GE988.out) | exact HB.out)⟩
end Go.Proofs.Ytkcpanpdipmmmaa.P
namespace Go.Proofs.Ytkcpanpdipmmmaa.P
open Go.RowKit Go.Proofs.YtkcpanpdipmmmaaW.PrintWords Go.Proofs.YtkcpanpdipmmmaaW.PrintLast Go.Proofs.YtkcpanpdipmmmaaW.PrintMore
attribute [local go_sem] max2_int min2_int max_two min_two max_three min_three max_four min_four
def ebbtidelaw10_awake.f (k : Nat)  : Option (Bool) := (some (([(⟨0, 1, 3, 0⟩ : S74), (⟨1, 2, 1, 0⟩ : S74)] : List (S74)) : List (S74))).bind fun y1025 => ((mincut_Least.f k 3 false y1025 0 2).bind fun bt1029 => ((mincut_Capacity.f k 3 false y1025 (([true, false, false] : List Bool))).bind fun bt1037 => (if bt1029.2.2 = 0 then (if bt1029.2.1 = 1 then ((ebbtideref10_Same.f k bt1029.1 (([true, true, false] : List Bool))).bind fun t1042 => (if t1042 = true then (if bt1037.2 = 0 then (some (bt1037.1 == 3)) else (some false)) else (some false))) else (some false)) else (some false))))
set_option maxHeartbeats 8000000 in
set_option maxRecDepth 100000 in
theorem ebbtidelaw10_awake.calls (k : Nat)  (r : Bool) (w : World) (h : ebbtidelaw10_awake.f k  = some r) (hrT_ : r = true := by first | rfl | exact Aside0.out (by assumption)) :
  Calls Try.prog 81 #[] w fun e w' => e = .returned (.bool r) ∧ Below w.heap.size w w' := by
 have HRT := Aside0.mk hrT_
 clear hrT_
 have hu74 := Try.underlying74
 have hu24 := Try.underlying24
 have HB := Aside0.mk (Below.refl w.heap.size w)
 have H : ((some (([(⟨0, 1, 3, 0⟩ : S74), (⟨1, 2, 1, 0⟩ : S74)] : List (S74)) : List (S74))).bind fun y1025 => ((mincut_Least.f k 3 false y1025 0 2).bind fun bt1029 => ((mincut_Capacity.f k 3 false y1025 (([true, false, false] : List Bool))).bind fun bt1037 => (if bt1029.2.2 = 0 then (if bt1029.2.1 = 1 then ((ebbtideref10_Same.f k bt1029.1 (([true, true, false] : List Bool))).bind fun t1042 => (if t1042 = true then (if bt1037.2 = 0 then (some (bt1037.1 == 3)) else (some false)) else (some false))) else (some false)) else (some false))))) = some r := h
 clear h
 obtain ⟨y1025, hy1025⟩ : ∃ y_ : List (S74), y_ = (([(⟨0, 1, 3, 0⟩ : S74), (⟨1, 2, 1, 0⟩ : S74)] : List (S74))) := ⟨_, rfl⟩
 replace H : ((mincut_Least.f k 3 false y1025 0 2).bind fun bt1029 => ((mincut_Capacity.f k 3 false y1025 (([true, false, false] : List Bool))).bind fun bt1037 => (if bt1029.2.2 = 0 then (if bt1029.2.1 = 1 then ((ebbtideref10_Same.f k bt1029.1 (([true, true, false] : List Bool))).bind fun t1042 => (if t1042 = true then (if bt1037.2 = 0 then (some (bt1037.1 == 3)) else (some false)) else (some false))) else (some false)) else (some false)))) = some r := by first | (rw [hy1025]; with_reducible exact H) | (have H2_ := (Option.bind_some _ _).symm.trans H; rw [hy1025]; with_reducible exact H2_) | (have H2_ := (Option.bind_some _ _).symm.trans H; with_reducible exact H2_) | with_reducible exact H | (rw [hy1025]; exact H) | exact H
 have Ny1025 := Aside0.mk hy1025
 clear hy1025
 replace H := Option.bind_eq_some_iff.mp H
 obtain ⟨⟨t1029, t1032, t1033⟩, A10, H⟩ := H
 replace H : ((mincut_Capacity.f k 3 false y1025 (([true, false, false] : List Bool))).bind fun bt1037 => (if t1033 = 0 then (if t1032 = 1 then ((ebbtideref10_Same.f k t1029 (([true, true, false] : List Bool))).bind fun t1042 => (if t1042 = true then (if bt1037.2 = 0 then (some (bt1037.1 == 3)) else (some false)) else (some false))) else (some false)) else (some false))) = some r := H
 have A1 := Aside0.mk A10
 clear A10
 obtain ⟨y1034, hy1034⟩ : ∃ y_ : List Bool, y_ = (([true, false, false] : List Bool)) := ⟨_, rfl⟩
 replace H : ((mincut_Capacity.f k 3 false y1025 y1034).bind fun bt1037 => (if t1033 = 0 then (if t1032 = 1 then ((ebbtideref10_Same.f k t1029 (([true, true, false] : List Bool))).bind fun t1042 => (if t1042 = true then (if bt1037.2 = 0 then (some (bt1037.1 == 3)) else (some false)) else (some false))) else (some false)) else (some false))) = some r := by first | (rw [hy1034]; with_reducible exact H) | (have H2_ := (Option.bind_some _ _).symm.trans H; rw [hy1034]; with_reducible exact H2_) | (have H2_ := (Option.bind_some _ _).symm.trans H; with_reducible exact H2_) | with_reducible exact H | (rw [hy1034]; exact H) | exact H
 have Ny1034 := Aside0.mk hy1034
 clear hy1034
 replace H := Option.bind_eq_some_iff.mp H
 obtain ⟨⟨t1037, t1038⟩, A20, H⟩ := H
 replace H : (if t1033 = 0 then (if t1032 = 1 then ((ebbtideref10_Same.f k t1029 (([true, true, false] : List Bool))).bind fun t1042 => (if t1042 = true then (if t1038 = 0 then (some (t1037 == 3)) else (some false)) else (some false))) else (some false)) else (some false)) = some r := H
 have A2 := Aside0.mk A20
 clear A20
 by_cases c3 : t1033 = 0
 rotate_left
 ·rw [if_neg c3] at H
  exact absurd (Option.some.inj H) (by rw [HRT.out]; decide)
 rw [if_pos c3] at H
 have c3b0 : (t1033 == 0) = true := beq_iff_eq.mpr c3
 have c3b1 : (t1033 != 0) = false := bne_eq_false_iff_eq.mpr c3
 clear c3
 by_cases c4 : t1032 = 1
 rotate_left
 ·rw [if_neg c4] at H
  exact absurd (Option.some.inj H) (by rw [HRT.out]; decide)
 rw [if_pos c4] at H
 have c4b0 : (t1032 == 1) = true := beq_iff_eq.mpr c4
 have c4b1 : (t1032 != 1) = false := bne_eq_false_iff_eq.mpr c4
 clear c4
 obtain ⟨y1039, hy1039⟩ : ∃ y_ : List Bool, y_ = (([true, true, false] : List Bool)) := ⟨_, rfl⟩
 replace H : ((ebbtideref10_Same.f k t1029 y1039).bind fun t1042 => (if t1042 = true then (if t1038 = 0 then (some (t1037 == 3)) else (some false)) else (some false))) = some r := by first | (rw [hy1039]; with_reducible exact H) | (have H2_ := (Option.bind_some _ _).symm.trans H; rw [hy1039]; with_reducible exact H2_) | (have H2_ := (Option.bind_some _ _).symm.trans H; with_reducible exact H2_) | with_reducible exact H | (rw [hy1039]; exact H) | exact H
 have Ny1039 := Aside0.mk hy1039
 clear hy1039
 replace H := Option.bind_eq_some_iff.mp H
 obtain ⟨t1042, A50, H⟩ := H
 replace H : (if t1042 = true then (if t1038 = 0 then (some (t1037 == 3)) else (some false)) else (some false)) = some r := H
 have A5 := Aside0.mk A50
 clear A50
 by_cases c6 : t1042 = true
 rotate_left
 ·replace c6 := Bool.eq_false_iff.mpr c6
  subst c6
  have H1 : (some false) = some r := by rw [if_neg (show ¬ (false = true) by decide)] at H; exact H
  exact absurd (Option.some.inj H1) (by rw [HRT.out]; decide)
 subst c6
 have H1 : (if t1038 = 0 then (some (t1037 == 3)) else (some false)) = some r := by first | (rw [if_pos rfl] at H; exact H) | (rw [if_pos trivial] at H; exact H)
 clear H
 have H := H1
 clear H1
 by_cases c7 : t1038 = 0
 rotate_left
 ·rw [if_neg c7] at H
  exact absurd (Option.some.inj H) (by rw [HRT.out]; decide)
 rw [if_pos c7] at H
 have c7b0 : (t1038 == 0) = true := beq_iff_eq.mpr c7
 have c7b1 : (t1038 != 0) = false := bne_eq_false_iff_eq.mpr c7
 clear c7
 obtain rfl := Option.some.inj H
 go_enter Try.func81, Try.ntmps81
 go_wp2_with (first | ((with_reducible refine gate_dst (N := 9) rfl ?_); (try (refine gate_guard (by rfl) ?_; dsimp only)); refine Kd.R_lit k74 _ 74 ?hg (N := 9) ?hd (xs := ([(⟨0, 1, 3, 0⟩ : S74), (⟨1, 2, 1, 0⟩ : S74)] : List (S74))) (inner := [.int .i64 0, .int .i64 1, .int .i64 3, .int .i64 0, .int .i64 1, .int .i64 2, .int .i64 1, .int .i64 0]) (ok := fun _ => True) (okp := fun _ => True) ?hr ?hp (fun _ hk => hk) trivial (Below.refl _ _) (Nat.le_refl _) (by simp) ?_; (case hd => rfl); (case hg => rfl); (case hr => first | (go_simp; done) | (go_simp; rfl)); (case hp => exact (Reps.c4 (show Kd.M k74 _ _ _ (⟨0, 1, 3, 0⟩ : S74) [.int .i64 0, .int .i64 1, .int .i64 3, .int .i64 0] from (k74_mkM _ _ _ (⟨0, 1, 3, 0⟩ : S74) )) (Reps.c4 (show Kd.M k74 _ _ _ (⟨1, 2, 1, 0⟩ : S74) [.int .i64 1, .int .i64 2, .int .i64 1, .int .i64 0] from (k74_mkM _ _ _ (⟨1, 2, 1, 0⟩ : S74) )) (Reps.none _ _)))); intro v1026 w8 ho9 hb hg_ hnew_; clear hg_ hnew_; (first | rw [← Ny1025.out] at ho9 | (simp only [Int.reduceToNat] at ho9; rw [← Ny1025.out] at ho9)); have n0_ := Aside0.mk (Kd.R_lower ho9 (below_size (by repeat (first | (with_reducible first | exact HB.out | apply below_alloc | apply pw_below_drewN | apply below_drew1) | exact HB.out)))); have n1_ := Aside0.mk (below_step (by repeat (first | (with_reducible first | exact HB.out | apply below_alloc | apply pw_below_drewN | apply below_drew1) | exact HB.out)) hb); clear HB; have HO1027 := n0_; have HB := n1_; clear n0_ n1_; clear hb ho9; obtain ⟨Ao10, co10, eo10⟩ := Kd.R_slice HO1027.out; subst eo10) | ((with_reducible refine gate_dst (N := 1) rfl ?_); (try (refine gate_guard (by rfl) ?_; dsimp only)); refine box_event ?hg (N := 1) ?hd (cs := #[.int .i64 0, .bool false, .slice none 0 0]) (t := 24) ?hr ?_; (case hd => rfl); (case hg => rfl); (case hr => first | (go_simp; done) | (go_simp; rfl)); intro gb1028 hg w11 hbox hb; have n0_ := Aside0.mk (Kd.R_below (by (with_reducible repeat (first | apply Kd.R_alloc | apply Kd.R_drewN | apply Kd.R_drew)); exact HO1027.out) hb); have n1_ := Aside0.mk (below_step (by repeat (first | (with_reducible first | exact HB.out | apply below_alloc | apply pw_below_drewN | apply below_drew1) | exact HB.out)) hb); have n2_ := Aside0.mk (hbox); have n3_ := Aside0.mk ((by rw [hg]; exact (below_size (by repeat (first | (with_reducible first | exact HB.out | apply below_alloc | apply pw_below_drewN | apply below_drew1) | exact HB.out))) : w.heap.size ≤ gb1028)); have n4_ := Aside0.mk ((by rw [hg]; exact (below_size (by repeat (first | (with_reducible first | exact HB.out | apply below_alloc | apply pw_below_drewN | apply below_drew1) | exact HB.out))) : w.heap.size ≤ gb1028)); clear HO1027; clear HB; have HO1027 := n0_; have HB := n1_; have BK1028 := n2_; have GW1028 := n3_; have GE1028 := n4_; clear n0_ n1_ n2_ n3_ n4_; clear hb hbox hg; have hcz12_0 : w11.cell? ⟨gb1028, 0, none⟩ = some (.int .i64 0) := (blk_cell BK1028.out 0).trans rfl; have hcz12_1 : w11.cell? ⟨gb1028, 1, none⟩ = some (.bool false) := (blk_cell BK1028.out 1).trans rfl; have hcz12_2 : w11.cell? ⟨gb1028, 2, none⟩ = some (.slice none 0 0) := (blk_cell BK1028.out 2).trans rfl; have hfz12_0 := blk_frozen BK1028.out 0; have hfz12_1 := blk_frozen BK1028.out 1; have hfz12_2 := blk_frozen BK1028.out 2) | ((with_reducible refine gate_callee (f := 79) rfl ?_); refine goesL_ (some 13) rfl rfl Try.func79 (by kernel_rfl) rfl #[.agg #[.int .i64 3, .bool false, .slice Ao10 y1025.length co10], .int .i64 0, .int .i64 2] rfl (by (try simp only [List.map_toArray, List.map_cons, List.map_nil]); first | done | rfl | (simp only [List.length_drop, List.length_take]; rfl)) ?_; (with_reducible refine (mincut_Least.calls k 3 false _ _ y1025 0 2 t1029 t1032 t1033 _ ?side1 ?side2 A1.out).mono ?_); (case side1 => refine (Kd.R_reads' (e := 74) (base := w.heap.size) (ok := fun k_ => True) (n := y1025.length) (c := co10) ?_).2.2; exact (by (with_reducible repeat (first | apply Kd.R_alloc | apply Kd.R_drewN | apply Kd.R_drew)); exact (Kd.R_mono (Kd.R_far (p := ⟨gb1028, 2, none⟩) (Kd.R_far (p := ⟨gb1028, 1, none⟩) (Kd.R_far (p := ⟨gb1028, 0, none⟩) (Kd.R_types HO1027.out BK1028.out (by decide)) (fun _ hk => hk.2) (.int .i64 3)) (fun _ hk => hk.2) (.bool false)) (fun _ hk => hk.2) (.slice Ao10 y1025.length co10)) (fun _ h_ => h_.1)))); (case side2 => exact (Kd.R_reads' HO1027.out).2.1); rintro e w13 ⟨v1030, rfl, ho0, hb⟩; refine ⟨_, rfl, ?_⟩; have n0_ := Aside0.mk (Kd.R_below (by (with_reducible repeat (first | apply Kd.R_alloc | apply Kd.R_drewN | apply Kd.R_drew)); exact (Kd.R_mono (Kd.R_far (p := ⟨gb1028, 2, none⟩) (Kd.R_far (p := ⟨gb1028, 1, none⟩) (Kd.R_far (p := ⟨gb1028, 0, none⟩) (Kd.R_types HO1027.out BK1028.out (by decide)) (fun _ hk => hk.2) (.int .i64 3)) (fun _ hk => hk.2) (.bool false)) (fun _ hk => hk.2) (.slice Ao10 y1025.length co10)) (fun _ h_ => h_.1))) hb); have n1_ := Aside0.mk (Kd.R_lower ho0 (below_size (by repeat (first | (with_reducible first | exact HB.out | apply below_alloc | apply pw_below_drewN | apply below_drew1 | refine below_set ?_ GE1028.out) | exact HB.out)))); have n2_ := Aside0.mk (blk_below (g := gb1028) (o := .cells #[.int .i64 3, .bool false, .slice Ao10 y1025.length co10] 24 (0, 0)) (by (with_reducible repeat (first | refine blk_drewN ?_ _ | refine blk_drew ?_ | refine blk_alloc ?_ _)); refine blk_put (cs := #[.int .i64 3, .bool false, .slice none 0 0]) ?_ 2 _ rfl; (with_reducible repeat (first | refine blk_drewN ?_ _ | refine blk_drew ?_ | refine blk_alloc ?_ _)); refine blk_put (cs := #[.int .i64 3, .bool false, .slice none 0 0]) ?_ 1 _ rfl; (with_reducible repeat (first | refine blk_drewN ?_ _ | refine blk_drew ?_ | refine blk_alloc ?_ _)); refine blk_put (cs := #[.int .i64 0, .bool false, .slice none 0 0]) ?_ 0 _ rfl; (with_reducible repeat (first | refine blk_drewN ?_ _ | refine blk_drew ?_ | refine blk_alloc ?_ _)); exact BK1028.out) hb); have n3_ := Aside0.mk (below_step (by repeat (first | (with_reducible first | exact HB.out | apply below_alloc | apply pw_below_drewN | apply below_drew1 | refine below_set ?_ GE1028.out) | exact HB.out)) hb); clear HO1027; clear BK1028; clear HB; have HO1027 := n0_; have HO1031 := n1_; have BK1028 := n2_; have HB := n3_; clear n0_ n1_ n2_ n3_; (try clear hb); (try clear hb2); (try clear hk); (try clear hi); (try clear ho0); have hcz14_0 : w13.cell? ⟨gb1028, 0, none⟩ = some (.int .i64 3) := (blk_cell BK1028.out 0).trans rfl; have hcz14_1 : w13.cell? ⟨gb1028, 1, none⟩ = some (.bool false) := (blk_cell BK1028.out 1).trans rfl; have hcz14_2 : w13.cell? ⟨gb1028, 2, none⟩ = some (.slice Ao10 y1025.length co10) := (blk_cell BK1028.out 2).trans rfl; have hfz14_0 := blk_frozen BK1028.out 0; have hfz14_1 := blk_frozen BK1028.out 1; have hfz14_2 := blk_frozen BK1028.out 2) | ((with_reducible refine gate_dst (N := 19) rfl ?_); (try (refine gate_guard (by rfl) ?_; dsimp only)); refine Kd.R_lit Kd.bool _ 4 ?hg (N := 19) ?hd (xs := ([true, false, false] : List Bool)) (inner := [.bool true, .bool false, .bool false]) (ok := fun _ => True) (okp := fun _ => True) ?hr ?hp (fun _ hk => hk) trivial (Below.refl _ _) (Nat.le_refl _) (by simp) ?_; (case hd => rfl); (case hg => rfl); (case hr => first | (go_simp; done) | (go_simp; rfl)); (case hp => exact (Reps.one (show Kd.M Kd.bool _ _ _ true [.bool true] from rfl) (Reps.one (show Kd.M Kd.bool _ _ _ false [.bool false] from rfl) (Reps.one (show Kd.M Kd.bool _ _ _ false [.bool false] from rfl) (Reps.none _ _))))); intro v1035 w15 ho16 hb hg_ hnew_; clear hg_ hnew_; (first | rw [← Ny1034.out] at ho16 | (simp only [Int.reduceToNat] at ho16; rw [← Ny1034.out] at ho16)); have n0_ := Aside0.mk (Kd.R_below (by (with_reducible repeat (first | apply Kd.R_alloc | apply Kd.R_drewN | apply Kd.R_drew)); exact HO1027.out) hb); have n1_ := Aside0.mk (Kd.R_elder' (by (with_reducible repeat (first | apply Kd.R_alloc | apply Kd.R_drewN | apply Kd.R_drew)); exact HO1031.out) (Kd.R_base ho16) hb); have n2_ := Aside0.mk (Kd.R_lower (Kd.R_new' ho16 (Kd.R_lt (by (with_reducible repeat (first | apply Kd.R_alloc | apply Kd.R_drewN | apply Kd.R_drew)); exact HO1031.out))) (below_size (by repeat (first | (with_reducible first | exact HB.out | apply below_alloc | apply pw_below_drewN | apply below_drew1 | refine below_set ?_ GE1028.out) | exact HB.out)))); have n3_ := Aside0.mk (blk_below (g := gb1028) (o := .cells #[.int .i64 3, .bool false, .slice Ao10 y1025.length co10] 24 (0, 0)) (by (with_reducible repeat (first | refine blk_drewN ?_ _ | refine blk_drew ?_ | refine blk_alloc ?_ _)); exact BK1028.out) hb); have n4_ := Aside0.mk (below_step (by repeat (first | (with_reducible first | exact HB.out | apply below_alloc | apply pw_below_drewN | apply below_drew1 | refine below_set ?_ GE1028.out) | exact HB.out)) hb); clear HO1027; clear HO1031; clear BK1028; clear HB; have HO1027 := n0_; have HO1031 := n1_; have HO1036 := n2_; have BK1028 := n3_; have HB := n4_; clear n0_ n1_ n2_ n3_ n4_; clear hb ho16; obtain ⟨Ao17, co17, eo17⟩ := Kd.R_slice HO1036.out; subst eo17) | ((with_reducible refine gate_callee (f := 82) rfl ?_); refine goesL_ (some 20) rfl rfl Try.func82 (by kernel_rfl) rfl #[.agg #[.int .i64 3, .bool false, .slice Ao10 y1025.length co10], .slice Ao17 y1034.length co17] rfl (by (try simp only [List.map_toArray, List.map_cons, List.map_nil]); first | done | rfl | (simp only [List.length_drop, List.length_take]; rfl)) ?_; (with_reducible refine (mincut_Capacity.calls k 3 false _ _ y1025 _ _ y1034 t1037 t1038 _ ?side1 ?side2 ?side3 ?side4 A2.out).mono ?_); (case side1 => repeat (first | exact (Kd.R_reads' HO1027.out).2.2 | (with_reducible refine Kd.C_alloc ?_ _) | (with_reducible refine Kd.C_drewN ?_ _) | (with_reducible refine Kd.C_drew ?_))); (case side2 => exact (Kd.R_reads' HO1027.out).2.1); (case side3 => repeat (first | exact (Kd.R_reads' HO1036.out).2.2 | (with_reducible refine Kd.C_alloc ?_ _) | (with_reducible refine Kd.C_drewN ?_ _) | (with_reducible refine Kd.C_drew ?_))); (case side4 => exact (Kd.R_reads' HO1036.out).2.1); rintro e w18 ⟨rfl, hb⟩; refine ⟨_, rfl, ?_⟩; have n0_ := Aside0.mk (Kd.R_below (by (with_reducible repeat (first | apply Kd.R_alloc | apply Kd.R_drewN | apply Kd.R_drew)); exact HO1027.out) hb); have n1_ := Aside0.mk (Kd.R_below (by (with_reducible repeat (first | apply Kd.R_alloc | apply Kd.R_drewN | apply Kd.R_drew)); exact HO1031.out) hb); have n2_ := Aside0.mk (Kd.R_below (by (with_reducible repeat (first | apply Kd.R_alloc | apply Kd.R_drewN | apply Kd.R_drew)); exact HO1036.out) hb); have n3_ := Aside0.mk (blk_below (g := gb1028) (o := .cells #[.int .i64 3, .bool false, .slice Ao10 y1025.length co10] 24 (0, 0)) (by (with_reducible repeat (first | refine blk_drewN ?_ _ | refine blk_drew ?_ | refine blk_alloc ?_ _)); exact BK1028.out) hb); have n4_ := Aside0.mk (below_step (by repeat (first | (with_reducible first | exact HB.out | apply below_alloc | apply pw_below_drewN | apply below_drew1 | refine below_set ?_ GE1028.out) | exact HB.out)) hb); clear HO1027; clear HO1031; clear HO1036; clear BK1028; clear HB; have HO1027 := n0_; have HO1031 := n1_; have HO1036 := n2_; have BK1028 := n3_; have HB := n4_; clear n0_ n1_ n2_ n3_ n4_; (try clear hb); (try clear hb2); (try clear hk); (try clear hi)) | ((with_reducible refine gate_dst (N := 31) rfl ?_); (try (refine gate_guard (by rfl) ?_; dsimp only)); refine Kd.R_lit Kd.bool _ 4 ?hg (N := 31) ?hd (xs := ([true, true, false] : List Bool)) (inner := [.bool true, .bool true, .bool false]) (ok := fun _ => True) (okp := fun _ => True) ?hr ?hp (fun _ hk => hk) trivial (Below.refl _ _) (Nat.le_refl _) (by simp) ?_; (case hd => rfl); (case hg => rfl); (case hr => first | (go_simp; done) | (go_simp; rfl)); (case hp => exact (Reps.one (show Kd.M Kd.bool _ _ _ true [.bool true] from rfl) (Reps.one (show Kd.M Kd.bool _ _ _ true [.bool true] from rfl) (Reps.one (show Kd.M Kd.bool _ _ _ false [.bool false] from rfl) (Reps.none _ _))))); intro v1040 w19 ho20 hb hg_ hnew_; clear hg_ hnew_; (first | rw [← Ny1039.out] at ho20 | (simp only [Int.reduceToNat] at ho20; rw [← Ny1039.out] at ho20)); have n0_ := Aside0.mk (Kd.R_below (by (with_reducible repeat (first | apply Kd.R_alloc | apply Kd.R_drewN | apply Kd.R_drew)); exact HO1027.out) hb); have n1_ := Aside0.mk (Kd.R_elder' (by (with_reducible repeat (first | apply Kd.R_alloc | apply Kd.R_drewN | apply Kd.R_drew)); exact HO1031.out) (Kd.R_base ho20) hb); have n2_ := Aside0.mk (Kd.R_elder' (by (with_reducible repeat (first | apply Kd.R_alloc | apply Kd.R_drewN | apply Kd.R_drew)); exact HO1036.out) (Kd.R_base ho20) hb); have n3_ := Aside0.mk (Kd.R_lower (Kd.R_new' (Kd.R_new' ho20 (Kd.R_lt (by (with_reducible repeat (first | apply Kd.R_alloc | apply Kd.R_drewN | apply Kd.R_drew)); exact HO1031.out))) (Kd.R_lt (by (with_reducible repeat (first | apply Kd.R_alloc | apply Kd.R_drewN | apply Kd.R_drew)); exact HO1036.out))) (below_size (by repeat (first | (with_reducible first | exact HB.out | apply below_alloc | apply pw_below_drewN | apply below_drew1 | refine below_set ?_ GE1028.out) | exact HB.out)))); have n4_ := Aside0.mk (blk_below (g := gb1028) (o := .cells #[.int .i64 3, .bool false, .slice Ao10 y1025.length co10] 24 (0, 0)) (by (with_reducible repeat (first | refine blk_drewN ?_ _ | refine blk_drew ?_ | refine blk_alloc ?_ _)); exact BK1028.out) hb); have n5_ := Aside0.mk (below_step (by repeat (first | (with_reducible first | exact HB.out | apply below_alloc | apply pw_below_drewN | apply below_drew1 | refine below_set ?_ GE1028.out) | exact HB.out)) hb); clear HO1027; clear HO1031; clear HO1036; clear BK1028; clear HB; have HO1027 := n0_; have HO1031 := n1_; have HO1036 := n2_; have HO1041 := n3_; have BK1028 := n4_; have HB := n5_; clear n0_ n1_ n2_ n3_ n4_ n5_; clear hb ho20; obtain ⟨Ao21, co21, eo21⟩ := Kd.R_slice HO1031.out; subst eo21; obtain ⟨Ao22, co22, eo22⟩ := Kd.R_slice HO1041.out; subst eo22) | (go_at_call 42; (with_reducible refine (ebbtideref10_Same.calls k _ _ t1029 _ _ y1039 true _ ?side1 ?side2 ?side3 ?side4 A5.out).mono ?_); (case side1 => repeat (first | exact (Kd.R_reads' HO1031.out).2.2 | (with_reducible refine Kd.C_alloc ?_ _) | (with_reducible refine Kd.C_drewN ?_ _) | (with_reducible refine Kd.C_drew ?_))); (case side2 => exact (Kd.R_reads' HO1031.out).2.1); (case side3 => repeat (first | exact (Kd.R_reads' HO1041.out).2.2 | (with_reducible refine Kd.C_alloc ?_ _) | (with_reducible refine Kd.C_drewN ?_ _) | (with_reducible refine Kd.C_drew ?_))); (case side4 => exact (Kd.R_reads' HO1041.out).2.1); rintro e w' ⟨rfl, ⟨nd, rfl⟩⟩))
 go_ret
 exact ⟨by first | rfl | (simp [errW_none, errW_some] <;> rfl) | (simp [*, errW_none, errW_some] <;> rfl), by repeat (first | (with_reducible first | exact HB.out | apply below_alloc | apply pw_below_drewN | apply below_drew1 | refine below_set ?_ GE1028.out) | exact HB.out)⟩
end Go.Proofs.Ytkcpanpdipmmmaa.P
namespace Go.Proofs.Ytkcpanpdipmmmaa.P
open Go.RowKit Go.Proofs.YtkcpanpdipmmmaaW.PrintWords Go.Proofs.YtkcpanpdipmmmaaW.PrintLast Go.Proofs.YtkcpanpdipmmmaaW.PrintMore
attribute [local go_sem] max2_int min2_int max_two min_two max_three min_three max_four min_four
def ebbtidelaw10_MincutBounds.f (k : Nat) (a0_0 : Int) (a0_1 : Bool) (l0_2 : List (S74)) (a1 : Int) (a2 : Int) (l3 : List Int) (l4 : List Bool) : Option (Bool) := (ebbtidelaw10_awake.f k).bind fun t1045 => (if t1045 = true then ((ebbtideref07_Check.f k a0_0 a0_1 l0_2 a1 a2 l3).bind fun bt1046 => ((mincut_Capacity.f k a0_0 a0_1 l0_2 l4).bind fun bt1048 => (if bt1046.2 = 0 then (if bt1048.2 = 0 then (if 0 ≤ a1 then (if a1 < (l4.length : Int) then (if rdOf false l4 a1 = true then (if 0 ≤ a2 then (if a2 < (l4.length : Int) then (if rdOf false l4 a2 = true then (some t1045) else (some (decide (bt1046.1 ≤ bt1048.1)))) else (none)) else (none)) else (some t1045)) else (none)) else (none)) else (some t1045)) else (some t1045)))) else (some false))
set_option maxHeartbeats 8000000 in
set_option maxRecDepth 100000 in
theorem ebbtidelaw10_MincutBounds.calls (k : Nat) (a0_0 : Int) (a0_1 : Bool) (A0_2 : Option Addr) (c0_2 : Nat) (l0_2 : List (S74)) (a1 : Int) (a2 : Int) (A3 : Option Addr) (c3 : Nat) (l3 : List Int) (A4 : Option Addr) (c4 : Nat) (l4 : List Bool) (r : Bool) (w : World) (hr0_2 : Kd.C k74 w A0_2 l0_2.length l0_2) (hc0_2 : l0_2.length ≤ c0_2) (hr3 : Kd.C (Kd.int .i64) w A3 l3.length l3) (hc3 : l3.length ≤ c3) (hr4 : Kd.C Kd.bool w A4 l4.length l4) (hc4 : l4.length ≤ c4) (h : ebbtidelaw10_MincutBounds.f k a0_0 a0_1 l0_2 a1 a2 l3 l4 = some r) (hrT_ : r = true := by first | rfl | exact Aside0.out (by assumption)) :
  Calls Try.prog 26 #[.agg #[.int .i64 a0_0, .bool a0_1, .slice A0_2 l0_2.length c0_2], .int .i64 a1, .int .i64 a2, .slice A3 l3.length c3, .slice A4 l4.length c4] w fun e w' => e = .returned (.bool r) ∧ Below w.heap.size w w' := by
 have HRT := Aside0.mk hrT_
 clear hrT_
 have hu24 := Try.underlying24
 have HR0_2 := Aside0.mk hr0_2
 have HC0_2 := Aside0.mk hc0_2
 clear hr0_2 hc0_2
 have HR3 := Aside0.mk hr3
 have HC3 := Aside0.mk hc3
 clear hr3 hc3
 have HR4 := Aside0.mk hr4
 have HC4 := Aside0.mk hc4
 clear hr4 hc4
 have HB := Aside0.mk (Below.refl w.heap.size w)
 have H : ((ebbtidelaw10_awake.f k).bind fun t1045 => (if t1045 = true then ((ebbtideref07_Check.f k a0_0 a0_1 l0_2 a1 a2 l3).bind fun bt1046 => ((mincut_Capacity.f k a0_0 a0_1 l0_2 l4).bind fun bt1048 => (if bt1046.2 = 0 then (if bt1048.2 = 0 then (if 0 ≤ a1 then (if a1 < (l4.length : Int) then (if rdOf false l4 a1 = true then (if 0 ≤ a2 then (if a2 < (l4.length : Int) then (if rdOf false l4 a2 = true then (some t1045) else (some (decide (bt1046.1 ≤ bt1048.1)))) else (none)) else (none)) else (some t1045)) else (none)) else (none)) else (some t1045)) else (some t1045)))) else (some false))) = some r := h
 clear h
 replace H := Option.bind_eq_some_iff.mp H
 obtain ⟨t1045, A60, H⟩ := H
 replace H : (if t1045 = true then ((ebbtideref07_Check.f k a0_0 a0_1 l0_2 a1 a2 l3).bind fun bt1046 => ((mincut_Capacity.f k a0_0 a0_1 l0_2 l4).bind fun bt1048 => (if bt1046.2 = 0 then (if bt1048.2 = 0 then (if 0 ≤ a1 then (if a1 < (l4.length : Int) then (if rdOf false l4 a1 = true then (if 0 ≤ a2 then (if a2 < (l4.length : Int) then (if rdOf false l4 a2 = true then (some t1045) else (some (decide (bt1046.1 ≤ bt1048.1)))) else (none)) else (none)) else (some t1045)) else (none)) else (none)) else (some t1045)) else (some t1045)))) else (some false)) = some r := H
 have A6 := Aside0.mk A60
 clear A60
 by_cases c7 : t1045 = true
 rotate_left
 ·replace c7 := Bool.eq_false_iff.mpr c7
  subst c7
  have H1 : (some false) = some r := by rw [if_neg (show ¬ (false = true) by decide)] at H; exact H
  exact absurd (Option.some.inj H1) (by rw [HRT.out]; decide)
 subst c7
 have H1 : ((ebbtideref07_Check.f k a0_0 a0_1 l0_2 a1 a2 l3).bind fun bt1046 => ((mincut_Capacity.f k a0_0 a0_1 l0_2 l4).bind fun bt1048 => (if bt1046.2 = 0 then (if bt1048.2 = 0 then (if 0 ≤ a1 then (if a1 < (l4.length : Int) then (if rdOf false l4 a1 = true then (if 0 ≤ a2 then (if a2 < (l4.length : Int) then (if rdOf false l4 a2 = true then (some true) else (some (decide (bt1046.1 ≤ bt1048.1)))) else (none)) else (none)) else (some true)) else (none)) else (none)) else (some true)) else (some true)))) = some r := by first | (rw [if_pos rfl] at H; exact H) | (rw [if_pos trivial] at H; exact H)
 clear H
 have H := H1
 clear H1
 replace H := Option.bind_eq_some_iff.mp H
 obtain ⟨⟨t1046, t1047⟩, A80, H⟩ := H
 replace H : ((mincut_Capacity.f k a0_0 a0_1 l0_2 l4).bind fun bt1048 => (if t1047 = 0 then (if bt1048.2 = 0 then (if 0 ≤ a1 then (if a1 < (l4.length : Int) then (if rdOf false l4 a1 = true then (if 0 ≤ a2 then (if a2 < (l4.length : Int) then (if rdOf false l4 a2 = true then (some true) else (some (decide (t1046 ≤ bt1048.1)))) else (none)) else (none)) else (some true)) else (none)) else (none)) else (some true)) else (some true))) = some r := H
 have A8 := Aside0.mk A80
 clear A80
 replace H := Option.bind_eq_some_iff.mp H
 obtain ⟨⟨t1048, t1049⟩, A90, H⟩ := H
 replace H : (if t1047 = 0 then (if t1049 = 0 then (if 0 ≤ a1 then (if a1 < (l4.length : Int) then (if rdOf false l4 a1 = true then (if 0 ≤ a2 then (if a2 < (l4.length : Int) then (if rdOf false l4 a2 = true then (some true) else (some (decide (t1046 ≤ t1048)))) else (none)) else (none)) else (some true)) else (none)) else (none)) else (some true)) else (some true)) = some r := H
 have A9 := Aside0.mk A90
 clear A90
 by_cases c10 : t1047 = 0
 rotate_left
 ·rw [if_neg c10] at H
  have c10b0 : (t1047 == 0) = false := beq_eq_false_iff_ne.mpr c10
  have c10b1 : (t1047 != 0) = true := bne_iff_ne.mpr c10
  obtain rfl := Option.some.inj H
  go_enter Try.func26, Try.ntmps26
  go_wp2_with (first | ((with_reducible refine gate_dst (N := 5) rfl ?_); refine box_event ?hg (N := 5) ?hd (cs := #[.int .i64 a0_0, .bool a0_1, .slice A0_2 l0_2.length c0_2]) (t := 24) ?hr ?_; (case hd => rfl); (case hg => rfl); (case hr => first | (go_simp; done) | (go_simp; rfl)); intro gb1044 hg w44 hbox hb; have n0_ := Aside0.mk (below_step (by repeat (first | (with_reducible first | exact HB.out | apply below_alloc | apply pw_below_drewN | apply below_drew1) | exact HB.out)) hb); have n1_ := Aside0.mk (hbox); have n2_ := Aside0.mk ((by rw [hg]; exact (below_size (by repeat (first | (with_reducible first | exact HB.out | apply below_alloc | apply pw_below_drewN | apply below_drew1) | exact HB.out))) : w.heap.size ≤ gb1044)); have n3_ := Aside0.mk ((by rw [hg]; exact (below_size (by repeat (first | (with_reducible first | exact HB.out | apply below_alloc | apply pw_below_drewN | apply below_drew1) | exact HB.out))) : w.heap.size ≤ gb1044)); clear HB; have HB := n0_; have BK1044 := n1_; have GW1044 := n2_; have GE1044 := n3_; clear n0_ n1_ n2_ n3_; clear hb hbox hg) | ((with_reducible refine gate_callee (f := 81) rfl ?_); refine goesL_ (some 16) rfl rfl Try.func81 (by kernel_rfl) rfl #[] rfl (by (try simp only [List.map_toArray, List.map_cons, List.map_nil]); first | done | rfl | (simp only [List.length_drop, List.length_take]; rfl)) ?_; (with_reducible refine (ebbtidelaw10_awake.calls k  true _ (by first | exact A6.out | (have h_ := A6.out; rw [← Nbq18.out] at h_; exact h_) | (have h_ := A6.out; rw [← Nbq14.out] at h_; exact h_))).mono ?_); rintro e w45 ⟨rfl, hb⟩; refine ⟨_, rfl, ?_⟩; have n0_ := Aside0.mk (blk_below (g := gb1044) (o := .cells #[.int .i64 a0_0, .bool a0_1, .slice A0_2 l0_2.length c0_2] 24 (0, 0)) (by (with_reducible repeat (first | refine blk_drewN ?_ _ | refine blk_drew ?_ | refine blk_alloc ?_ _)); exact BK1044.out) hb); have n1_ := Aside0.mk (below_step (by repeat (first | (with_reducible first | exact HB.out | apply below_alloc | apply pw_below_drewN | apply below_drew1 | refine below_set ?_ GE1044.out) | exact HB.out)) hb); clear BK1044; clear HB; have BK1044 := n0_; have HB := n1_; clear n0_ n1_; (try clear hb); (try clear hb2); (try clear hk); (try clear hi); have hcz46_0 : w45.cell? ⟨gb1044, 0, none⟩ = some (.int .i64 a0_0) := (blk_cell BK1044.out 0).trans rfl; have hcz46_1 : w45.cell? ⟨gb1044, 1, none⟩ = some (.bool a0_1) := (blk_cell BK1044.out 1).trans rfl; have hcz46_2 : w45.cell? ⟨gb1044, 2, none⟩ = some (.slice A0_2 l0_2.length c0_2) := (blk_cell BK1044.out 2).trans rfl; have hfz46_0 := blk_frozen BK1044.out 0; have hfz46_1 := blk_frozen BK1044.out 1; have hfz46_2 := blk_frozen BK1044.out 2) | ((with_reducible refine gate_callee (f := 60) rfl ?_); refine goesL_ (some 24) rfl rfl Try.func60 (by kernel_rfl) rfl #[.agg #[.int .i64 a0_0, .bool a0_1, .slice A0_2 l0_2.length c0_2], .int .i64 a1, .int .i64 a2, .slice A3 l3.length c3] rfl (by (try simp only [List.map_toArray, List.map_cons, List.map_nil]); first | done | rfl | (simp only [List.length_drop, List.length_take]; rfl)) ?_; (with_reducible refine (ebbtideref07_Check.calls k a0_0 a0_1 _ _ l0_2 a1 a2 _ _ l3 t1046 t1047 _ ?side1 ?side2 ?side3 ?side4 A8.out).mono ?_); (case side1 => repeat (first | exact (Kd.C_below HR0_2.out HB.out) | (with_reducible refine Kd.C_alloc ?_ _) | (with_reducible refine Kd.C_drewN ?_ _) | (with_reducible refine Kd.C_drew ?_))); (case side2 => exact HC0_2.out); (case side3 => repeat (first | exact (Kd.C_below HR3.out HB.out) | (with_reducible refine Kd.C_alloc ?_ _) | (with_reducible refine Kd.C_drewN ?_ _) | (with_reducible refine Kd.C_drew ?_))); (case side4 => exact HC3.out); rintro e w47 ⟨rfl, hb⟩; refine ⟨_, rfl, ?_⟩; have n0_ := Aside0.mk (blk_below (g := gb1044) (o := .cells #[.int .i64 a0_0, .bool a0_1, .slice A0_2 l0_2.length c0_2] 24 (0, 0)) (by (with_reducible repeat (first | refine blk_drewN ?_ _ | refine blk_drew ?_ | refine blk_alloc ?_ _)); exact BK1044.out) hb); have n1_ := Aside0.mk (below_step (by repeat (first | (with_reducible first | exact HB.out | apply below_alloc | apply pw_below_drewN | apply below_drew1 | refine below_set ?_ GE1044.out) | exact HB.out)) hb); clear BK1044; clear HB; have BK1044 := n0_; have HB := n1_; clear n0_ n1_; (try clear hb); (try clear hb2); (try clear hk); (try clear hi); have hcz48_0 : w47.cell? ⟨gb1044, 0, none⟩ = some (.int .i64 a0_0) := (blk_cell BK1044.out 0).trans rfl; have hcz48_1 : w47.cell? ⟨gb1044, 1, none⟩ = some (.bool a0_1) := (blk_cell BK1044.out 1).trans rfl; have hcz48_2 : w47.cell? ⟨gb1044, 2, none⟩ = some (.slice A0_2 l0_2.length c0_2) := (blk_cell BK1044.out 2).trans rfl; have hfz48_0 := blk_frozen BK1044.out 0; have hfz48_1 := blk_frozen BK1044.out 1; have hfz48_2 := blk_frozen BK1044.out 2) | ((with_reducible refine gate_callee (f := 82) rfl ?_); refine goesL_ (some 30) rfl rfl Try.func82 (by kernel_rfl) rfl #[.agg #[.int .i64 a0_0, .bool a0_1, .slice A0_2 l0_2.length c0_2], .slice A4 l4.length c4] rfl (by (try simp only [List.map_toArray, List.map_cons, List.map_nil]); first | done | rfl | (simp only [List.length_drop, List.length_take]; rfl)) ?_; (with_reducible refine (mincut_Capacity.calls k a0_0 a0_1 _ _ l0_2 _ _ l4 t1048 t1049 _ ?side1 ?side2 ?side3 ?side4 A9.out).mono ?_); (case side1 => repeat (first | exact (Kd.C_below HR0_2.out HB.out) | (with_reducible refine Kd.C_alloc ?_ _) | (with_reducible refine Kd.C_drewN ?_ _) | (with_reducible refine Kd.C_drew ?_))); (case side2 => exact HC0_2.out); (case side3 => repeat (first | exact (Kd.C_below HR4.out HB.out) | (with_reducible refine Kd.C_alloc ?_ _) | (with_reducible refine Kd.C_drewN ?_ _) | (with_reducible refine Kd.C_drew ?_))); (case side4 => exact HC4.out); rintro e w49 ⟨rfl, hb⟩; refine ⟨_, rfl, ?_⟩; have n0_ := Aside0.mk (blk_below (g := gb1044) (o := .cells #[.int .i64 a0_0, .bool a0_1, .slice A0_2 l0_2.length c0_2] 24 (0, 0)) (by (with_reducible repeat (first | refine blk_drewN ?_ _ | refine blk_drew ?_ | refine blk_alloc ?_ _)); exact BK1044.out) hb); have n1_ := Aside0.mk (below_step (by repeat (first | (with_reducible first | exact HB.out | apply below_alloc | apply pw_below_drewN | apply below_drew1 | refine below_set ?_ GE1044.out) | exact HB.out)) hb); clear BK1044; clear HB; have BK1044 := n0_; have HB := n1_; clear n0_ n1_; (try clear hb); (try clear hb2); (try clear hk); (try clear hi)))
  go_ret
  exact ⟨by first | rfl | (simp [errW_none, errW_some] <;> rfl) | (simp [*, errW_none, errW_some] <;> rfl), by repeat (first | (with_reducible first | exact HB.out | apply below_alloc | apply pw_below_drewN | apply below_drew1 | refine below_set ?_ GE1044.out) | exact HB.out)⟩
 rw [if_pos c10] at H
 have c10b0 : (t1047 == 0) = true := beq_iff_eq.mpr c10
 have c10b1 : (t1047 != 0) = false := bne_eq_false_iff_eq.mpr c10
 clear c10
 by_cases c11 : t1049 = 0
 rotate_left
 ·rw [if_neg c11] at H
  have c11b0 : (t1049 == 0) = false := beq_eq_false_iff_ne.mpr c11
  have c11b1 : (t1049 != 0) = true := bne_iff_ne.mpr c11
  obtain rfl := Option.some.inj H
  go_enter Try.func26, Try.ntmps26
  go_wp2_with (first | ((with_reducible refine gate_dst (N := 5) rfl ?_); refine box_event ?hg (N := 5) ?hd (cs := #[.int .i64 a0_0, .bool a0_1, .slice A0_2 l0_2.length c0_2]) (t := 24) ?hr ?_; (case hd => rfl); (case hg => rfl); (case hr => first | (go_simp; done) | (go_simp; rfl)); intro gb1044 hg w38 hbox hb; have n0_ := Aside0.mk (below_step (by repeat (first | (with_reducible first | exact HB.out | apply below_alloc | apply pw_below_drewN | apply below_drew1) | exact HB.out)) hb); have n1_ := Aside0.mk (hbox); have n2_ := Aside0.mk ((by rw [hg]; exact (below_size (by repeat (first | (with_reducible first | exact HB.out | apply below_alloc | apply pw_below_drewN | apply below_drew1) | exact HB.out))) : w.heap.size ≤ gb1044)); have n3_ := Aside0.mk ((by rw [hg]; exact (below_size (by repeat (first | (with_reducible first | exact HB.out | apply below_alloc | apply pw_below_drewN | apply below_drew1) | exact HB.out))) : w.heap.size ≤ gb1044)); clear HB; have HB := n0_; have BK1044 := n1_; have GW1044 := n2_; have GE1044 := n3_; clear n0_ n1_ n2_ n3_; clear hb hbox hg) | ((with_reducible refine gate_callee (f := 81) rfl ?_); refine goesL_ (some 16) rfl rfl Try.func81 (by kernel_rfl) rfl #[] rfl (by (try simp only [List.map_toArray, List.map_cons, List.map_nil]); first | done | rfl | (simp only [List.length_drop, List.length_take]; rfl)) ?_; (with_reducible refine (ebbtidelaw10_awake.calls k  true _ (by first | exact A6.out | (have h_ := A6.out; rw [← Nbq18.out] at h_; exact h_) | (have h_ := A6.out; rw [← Nbq14.out] at h_; exact h_))).mono ?_); rintro e w39 ⟨rfl, hb⟩; refine ⟨_, rfl, ?_⟩; have n0_ := Aside0.mk (blk_below (g := gb1044) (o := .cells #[.int .i64 a0_0, .bool a0_1, .slice A0_2 l0_2.length c0_2] 24 (0, 0)) (by (with_reducible repeat (first | refine blk_drewN ?_ _ | refine blk_drew ?_ | refine blk_alloc ?_ _)); exact BK1044.out) hb); have n1_ := Aside0.mk (below_step (by repeat (first | (with_reducible first | exact HB.out | apply below_alloc | apply pw_below_drewN | apply below_drew1 | refine below_set ?_ GE1044.out) | exact HB.out)) hb); clear BK1044; clear HB; have BK1044 := n0_; have HB := n1_; clear n0_ n1_; (try clear hb); (try clear hb2); (try clear hk); (try clear hi); have hcz40_0 : w39.cell? ⟨gb1044, 0, none⟩ = some (.int .i64 a0_0) := (blk_cell BK1044.out 0).trans rfl; have hcz40_1 : w39.cell? ⟨gb1044, 1, none⟩ = some (.bool a0_1) := (blk_cell BK1044.out 1).trans rfl; have hcz40_2 : w39.cell? ⟨gb1044, 2, none⟩ = some (.slice A0_2 l0_2.length c0_2) := (blk_cell BK1044.out 2).trans rfl; have hfz40_0 := blk_frozen BK1044.out 0; have hfz40_1 := blk_frozen BK1044.out 1; have hfz40_2 := blk_frozen BK1044.out 2) | ((with_reducible refine gate_callee (f := 60) rfl ?_); refine goesL_ (some 24) rfl rfl Try.func60 (by kernel_rfl) rfl #[.agg #[.int .i64 a0_0, .bool a0_1, .slice A0_2 l0_2.length c0_2], .int .i64 a1, .int .i64 a2, .slice A3 l3.length c3] rfl (by (try simp only [List.map_toArray, List.map_cons, List.map_nil]); first | done | rfl | (simp only [List.length_drop, List.length_take]; rfl)) ?_; (with_reducible refine (ebbtideref07_Check.calls k a0_0 a0_1 _ _ l0_2 a1 a2 _ _ l3 t1046 t1047 _ ?side1 ?side2 ?side3 ?side4 A8.out).mono ?_); (case side1 => repeat (first | exact (Kd.C_below HR0_2.out HB.out) | (with_reducible refine Kd.C_alloc ?_ _) | (with_reducible refine Kd.C_drewN ?_ _) | (with_reducible refine Kd.C_drew ?_))); (case side2 => exact HC0_2.out); (case side3 => repeat (first | exact (Kd.C_below HR3.out HB.out) | (with_reducible refine Kd.C_alloc ?_ _) | (with_reducible refine Kd.C_drewN ?_ _) | (with_reducible refine Kd.C_drew ?_))); (case side4 => exact HC3.out); rintro e w41 ⟨rfl, hb⟩; refine ⟨_, rfl, ?_⟩; have n0_ := Aside0.mk (blk_below (g := gb1044) (o := .cells #[.int .i64 a0_0, .bool a0_1, .slice A0_2 l0_2.length c0_2] 24 (0, 0)) (by (with_reducible repeat (first | refine blk_drewN ?_ _ | refine blk_drew ?_ | refine blk_alloc ?_ _)); exact BK1044.out) hb); have n1_ := Aside0.mk (below_step (by repeat (first | (with_reducible first | exact HB.out | apply below_alloc | apply pw_below_drewN | apply below_drew1 | refine below_set ?_ GE1044.out) | exact HB.out)) hb); clear BK1044; clear HB; have BK1044 := n0_; have HB := n1_; clear n0_ n1_; (try clear hb); (try clear hb2); (try clear hk); (try clear hi); have hcz42_0 : w41.cell? ⟨gb1044, 0, none⟩ = some (.int .i64 a0_0) := (blk_cell BK1044.out 0).trans rfl; have hcz42_1 : w41.cell? ⟨gb1044, 1, none⟩ = some (.bool a0_1) := (blk_cell BK1044.out 1).trans rfl; have hcz42_2 : w41.cell? ⟨gb1044, 2, none⟩ = some (.slice A0_2 l0_2.length c0_2) := (blk_cell BK1044.out 2).trans rfl; have hfz42_0 := blk_frozen BK1044.out 0; have hfz42_1 := blk_frozen BK1044.out 1; have hfz42_2 := blk_frozen BK1044.out 2) | ((with_reducible refine gate_callee (f := 82) rfl ?_); refine goesL_ (some 30) rfl rfl Try.func82 (by kernel_rfl) rfl #[.agg #[.int .i64 a0_0, .bool a0_1, .slice A0_2 l0_2.length c0_2], .slice A4 l4.length c4] rfl (by (try simp only [List.map_toArray, List.map_cons, List.map_nil]); first | done | rfl | (simp only [List.length_drop, List.length_take]; rfl)) ?_; (with_reducible refine (mincut_Capacity.calls k a0_0 a0_1 _ _ l0_2 _ _ l4 t1048 t1049 _ ?side1 ?side2 ?side3 ?side4 A9.out).mono ?_); (case side1 => repeat (first | exact (Kd.C_below HR0_2.out HB.out) | (with_reducible refine Kd.C_alloc ?_ _) | (with_reducible refine Kd.C_drewN ?_ _) | (with_reducible refine Kd.C_drew ?_))); (case side2 => exact HC0_2.out); (case side3 => repeat (first | exact (Kd.C_below HR4.out HB.out) | (with_reducible refine Kd.C_alloc ?_ _) | (with_reducible refine Kd.C_drewN ?_ _) | (with_reducible refine Kd.C_drew ?_))); (case side4 => exact HC4.out); rintro e w43 ⟨rfl, hb⟩; refine ⟨_, rfl, ?_⟩; have n0_ := Aside0.mk (blk_below (g := gb1044) (o := .cells #[.int .i64 a0_0, .bool a0_1, .slice A0_2 l0_2.length c0_2] 24 (0, 0)) (by (with_reducible repeat (first | refine blk_drewN ?_ _ | refine blk_drew ?_ | refine blk_alloc ?_ _)); exact BK1044.out) hb); have n1_ := Aside0.mk (below_step (by repeat (first | (with_reducible first | exact HB.out | apply below_alloc | apply pw_below_drewN | apply below_drew1 | refine below_set ?_ GE1044.out) | exact HB.out)) hb); clear BK1044; clear HB; have BK1044 := n0_; have HB := n1_; clear n0_ n1_; (try clear hb); (try clear hb2); (try clear hk); (try clear hi)))
  go_ret
  exact ⟨by first | rfl | (simp [errW_none, errW_some] <;> rfl) | (simp [*, errW_none, errW_some] <;> rfl), by repeat (first | (with_reducible first | exact HB.out | apply below_alloc | apply pw_below_drewN | apply below_drew1 | refine below_set ?_ GE1044.out) | exact HB.out)⟩
 rw [if_pos c11] at H
 have c11b0 : (t1049 == 0) = true := beq_iff_eq.mpr c11
 have c11b1 : (t1049 != 0) = false := bne_eq_false_iff_eq.mpr c11
 clear c11
 by_cases c12 : 0 ≤ a1
 rotate_left
 ·rw [if_neg c12] at H
  exact absurd H (by simp)
 rw [if_pos c12] at H
 have c12b0 : decide (0 ≤ a1) = true := decide_eq_true c12
 clear c12
 by_cases c13 : a1 < (l4.length : Int)
 rotate_left
 ·rw [if_neg c13] at H
  exact absurd H (by simp)
 rw [if_pos c13] at H
 have c13b0 : decide (a1 < (l4.length : Int)) = true := decide_eq_true c13
 clear c13
 obtain ⟨bq14, hbq14⟩ : ∃ b_ : Bool, b_ = (rdOf false l4 a1) := ⟨_, rfl⟩
 replace H : (if bq14 = true then (if 0 ≤ a2 then (if a2 < (l4.length : Int) then (if rdOf false l4 a2 = true then (some true) else (some (decide (t1046 ≤ t1048)))) else (none)) else (none)) else (some true)) = some r := by rw [← hbq14] at H; exact H
 have Nbq14 := Aside0.mk hbq14
 clear hbq14
 by_cases c15 : bq14 = true
 rotate_left
 ·replace c15 := Bool.eq_false_iff.mpr c15
  subst c15
  have H1 : (some true) = some r := by rw [if_neg (show ¬ (false = true) by decide)] at H; exact H
  clear H
  have H := H1
  clear H1
  obtain rfl := Option.some.inj H
  go_enter Try.func26, Try.ntmps26
  go_wp2_with (first | ((with_reducible refine gate_dst (N := 5) rfl ?_); refine box_event ?hg (N := 5) ?hd (cs := #[.int .i64 a0_0, .bool a0_1, .slice A0_2 l0_2.length c0_2]) (t := 24) ?hr ?_; (case hd => rfl); (case hg => rfl); (case hr => first | (go_simp; done) | (go_simp; rfl)); intro gb1044 hg w32 hbox hb; have n0_ := Aside0.mk (below_step (by repeat (first | (with_reducible first | exact HB.out | apply below_alloc | apply pw_below_drewN | apply below_drew1) | exact HB.out)) hb); have n1_ := Aside0.mk (hbox); have n2_ := Aside0.mk ((by rw [hg]; exact (below_size (by repeat (first | (with_reducible first | exact HB.out | apply below_alloc | apply pw_below_drewN | apply below_drew1) | exact HB.out))) : w.heap.size ≤ gb1044)); have n3_ := Aside0.mk ((by rw [hg]; exact (below_size (by repeat (first | (with_reducible first | exact HB.out | apply below_alloc | apply pw_below_drewN | apply below_drew1) | exact HB.out))) : w.heap.size ≤ gb1044)); clear HB; have HB := n0_; have BK1044 := n1_; have GW1044 := n2_; have GE1044 := n3_; clear n0_ n1_ n2_ n3_; clear hb hbox hg) | ((with_reducible refine gate_callee (f := 81) rfl ?_); refine goesL_ (some 16) rfl rfl Try.func81 (by kernel_rfl) rfl #[] rfl (by (try simp only [List.map_toArray, List.map_cons, List.map_nil]); first | done | rfl | (simp only [List.length_drop, List.length_take]; rfl)) ?_; (with_reducible refine (ebbtidelaw10_awake.calls k  true _ (by first | exact A6.out | (have h_ := A6.out; rw [← Nbq18.out] at h_; exact h_) | (have h_ := A6.out; rw [← Nbq14.out] at h_; exact h_))).mono ?_); rintro e w33 ⟨rfl, hb⟩; refine ⟨_, rfl, ?_⟩; have n0_ := Aside0.mk (blk_below (g := gb1044) (o := .cells #[.int .i64 a0_0, .bool a0_1, .slice A0_2 l0_2.length c0_2] 24 (0, 0)) (by (with_reducible repeat (first | refine blk_drewN ?_ _ | refine blk_drew ?_ | refine blk_alloc ?_ _)); exact BK1044.out) hb); have n1_ := Aside0.mk (below_step (by repeat (first | (with_reducible first | exact HB.out | apply below_alloc | apply pw_below_drewN | apply below_drew1 | refine below_set ?_ GE1044.out) | exact HB.out)) hb); clear BK1044; clear HB; have BK1044 := n0_; have HB := n1_; clear n0_ n1_; (try clear hb); (try clear hb2); (try clear hk); (try clear hi); have hcz34_0 : w33.cell? ⟨gb1044, 0, none⟩ = some (.int .i64 a0_0) := (blk_cell BK1044.out 0).trans rfl; have hcz34_1 : w33.cell? ⟨gb1044, 1, none⟩ = some (.bool a0_1) := (blk_cell BK1044.out 1).trans rfl; have hcz34_2 : w33.cell? ⟨gb1044, 2, none⟩ = some (.slice A0_2 l0_2.length c0_2) := (blk_cell BK1044.out 2).trans rfl; have hfz34_0 := blk_frozen BK1044.out 0; have hfz34_1 := blk_frozen BK1044.out 1; have hfz34_2 := blk_frozen BK1044.out 2) | ((with_reducible refine gate_callee (f := 60) rfl ?_); refine goesL_ (some 24) rfl rfl Try.func60 (by kernel_rfl) rfl #[.agg #[.int .i64 a0_0, .bool a0_1, .slice A0_2 l0_2.length c0_2], .int .i64 a1, .int .i64 a2, .slice A3 l3.length c3] rfl (by (try simp only [List.map_toArray, List.map_cons, List.map_nil]); first | done | rfl | (simp only [List.length_drop, List.length_take]; rfl)) ?_; (with_reducible refine (ebbtideref07_Check.calls k a0_0 a0_1 _ _ l0_2 a1 a2 _ _ l3 t1046 t1047 _ ?side1 ?side2 ?side3 ?side4 A8.out).mono ?_); (case side1 => repeat (first | exact (Kd.C_below HR0_2.out HB.out) | (with_reducible refine Kd.C_alloc ?_ _) | (with_reducible refine Kd.C_drewN ?_ _) | (with_reducible refine Kd.C_drew ?_))); (case side2 => exact HC0_2.out); (case side3 => repeat (first | exact (Kd.C_below HR3.out HB.out) | (with_reducible refine Kd.C_alloc ?_ _) | (with_reducible refine Kd.C_drewN ?_ _) | (with_reducible refine Kd.C_drew ?_))); (case side4 => exact HC3.out); rintro e w35 ⟨rfl, hb⟩; refine ⟨_, rfl, ?_⟩; have n0_ := Aside0.mk (blk_below (g := gb1044) (o := .cells #[.int .i64 a0_0, .bool a0_1, .slice A0_2 l0_2.length c0_2] 24 (0, 0)) (by (with_reducible repeat (first | refine blk_drewN ?_ _ | refine blk_drew ?_ | refine blk_alloc ?_ _)); exact BK1044.out) hb); have n1_ := Aside0.mk (below_step (by repeat (first | (with_reducible first | exact HB.out | apply below_alloc | apply pw_below_drewN | apply below_drew1 | refine below_set ?_ GE1044.out) | exact HB.out)) hb); clear BK1044; clear HB; have BK1044 := n0_; have HB := n1_; clear n0_ n1_; (try clear hb); (try clear hb2); (try clear hk); (try clear hi); have hcz36_0 : w35.cell? ⟨gb1044, 0, none⟩ = some (.int .i64 a0_0) := (blk_cell BK1044.out 0).trans rfl; have hcz36_1 : w35.cell? ⟨gb1044, 1, none⟩ = some (.bool a0_1) := (blk_cell BK1044.out 1).trans rfl; have hcz36_2 : w35.cell? ⟨gb1044, 2, none⟩ = some (.slice A0_2 l0_2.length c0_2) := (blk_cell BK1044.out 2).trans rfl; have hfz36_0 := blk_frozen BK1044.out 0; have hfz36_1 := blk_frozen BK1044.out 1; have hfz36_2 := blk_frozen BK1044.out 2) | ((with_reducible refine gate_callee (f := 82) rfl ?_); refine goesL_ (some 30) rfl rfl Try.func82 (by kernel_rfl) rfl #[.agg #[.int .i64 a0_0, .bool a0_1, .slice A0_2 l0_2.length c0_2], .slice A4 l4.length c4] rfl (by (try simp only [List.map_toArray, List.map_cons, List.map_nil]); first | done | rfl | (simp only [List.length_drop, List.length_take]; rfl)) ?_; (with_reducible refine (mincut_Capacity.calls k a0_0 a0_1 _ _ l0_2 _ _ l4 t1048 t1049 _ ?side1 ?side2 ?side3 ?side4 A9.out).mono ?_); (case side1 => repeat (first | exact (Kd.C_below HR0_2.out HB.out) | (with_reducible refine Kd.C_alloc ?_ _) | (with_reducible refine Kd.C_drewN ?_ _) | (with_reducible refine Kd.C_drew ?_))); (case side2 => exact HC0_2.out); (case side3 => repeat (first | exact (Kd.C_below HR4.out HB.out) | (with_reducible refine Kd.C_alloc ?_ _) | (with_reducible refine Kd.C_drewN ?_ _) | (with_reducible refine Kd.C_drew ?_))); (case side4 => exact HC4.out); rintro e w37 ⟨rfl, hb⟩; refine ⟨_, rfl, ?_⟩; have n0_ := Aside0.mk (blk_below (g := gb1044) (o := .cells #[.int .i64 a0_0, .bool a0_1, .slice A0_2 l0_2.length c0_2] 24 (0, 0)) (by (with_reducible repeat (first | refine blk_drewN ?_ _ | refine blk_drew ?_ | refine blk_alloc ?_ _)); exact BK1044.out) hb); have n1_ := Aside0.mk (below_step (by repeat (first | (with_reducible first | exact HB.out | apply below_alloc | apply pw_below_drewN | apply below_drew1 | refine below_set ?_ GE1044.out) | exact HB.out)) hb); clear BK1044; clear HB; have BK1044 := n0_; have HB := n1_; clear n0_ n1_; (try clear hb); (try clear hb2); (try clear hk); (try clear hi); have p1050 : 0 ≤ (a1 : Int) := of_decide_eq_true (by first | (with_reducible assumption) | assumption); have q1050 : a1 < (l4.length : Int) := of_decide_eq_true (by first | (with_reducible assumption) | assumption); obtain ⟨ad1050, e1050, hx1050_0⟩ := Kd.at_bool HR4.out a1 p1050 q1050; (try rw [← Nbq14.out] at hx1050_0); cases e1050; replace hx1050_0 := (HB.out.cell (World.block_lt_of_cell? w _ hx1050_0)).trans hx1050_0; replace p1050 := eq_true p1050; replace q1050 := eq_true q1050))
  go_ret
  exact ⟨by first | rfl | (simp [errW_none, errW_some] <;> rfl) | (simp [*, errW_none, errW_some] <;> rfl), by repeat (first | (with_reducible first | exact HB.out | apply below_alloc | apply pw_below_drewN | apply below_drew1 | refine below_set ?_ GE1044.out) | exact HB.out)⟩
 subst c15
 have H1 : (if 0 ≤ a2 then (if a2 < (l4.length : Int) then (if rdOf false l4 a2 = true then (some true) else (some (decide (t1046 ≤ t1048)))) else (none)) else (none)) = some r := by first | (rw [if_pos rfl] at H; exact H) | (rw [if_pos trivial] at H; exact H)
 clear H
 have H := H1
 clear H1
 by_cases c16 : 0 ≤ a2
 rotate_left
 ·rw [if_neg c16] at H
  exact absurd H (by simp)
 rw [if_pos c16] at H
 have c16b0 : decide (0 ≤ a2) = true := decide_eq_true c16
 clear c16
 by_cases c17 : a2 < (l4.length : Int)
 rotate_left
 ·rw [if_neg c17] at H
  exact absurd H (by simp)
 rw [if_pos c17] at H
 have c17b0 : decide (a2 < (l4.length : Int)) = true := decide_eq_true c17
 clear c17
 obtain ⟨bq18, hbq18⟩ : ∃ b_ : Bool, b_ = (rdOf false l4 a2) := ⟨_, rfl⟩
 replace H : (if bq18 = true then (some true) else (some (decide (t1046 ≤ t1048)))) = some r := by rw [← hbq18] at H; exact H
 have Nbq18 := Aside0.mk hbq18
 clear hbq18
 by_cases c19 : bq18 = true
 ·subst c19
  have H1 : (some true) = some r := by first | (rw [if_pos rfl] at H; exact H) | (rw [if_pos trivial] at H; exact H)
  clear H
  have H := H1
  clear H1
  obtain rfl := Option.some.inj H
  go_enter Try.func26, Try.ntmps26
  go_wp2_with (first | ((with_reducible refine gate_dst (N := 5) rfl ?_); refine box_event ?hg (N := 5) ?hd (cs := #[.int .i64 a0_0, .bool a0_1, .slice A0_2 l0_2.length c0_2]) (t := 24) ?hr ?_; (case hd => rfl); (case hg => rfl); (case hr => first | (go_simp; done) | (go_simp; rfl)); intro gb1044 hg w20 hbox hb; have n0_ := Aside0.mk (below_step (by repeat (first | (with_reducible first | exact HB.out | apply below_alloc | apply pw_below_drewN | apply below_drew1) | exact HB.out)) hb); have n1_ := Aside0.mk (hbox); have n2_ := Aside0.mk ((by rw [hg]; exact (below_size (by repeat (first | (with_reducible first | exact HB.out | apply below_alloc | apply pw_below_drewN | apply below_drew1) | exact HB.out))) : w.heap.size ≤ gb1044)); have n3_ := Aside0.mk ((by rw [hg]; exact (below_size (by repeat (first | (with_reducible first | exact HB.out | apply below_alloc | apply pw_below_drewN | apply below_drew1) | exact HB.out))) : w.heap.size ≤ gb1044)); clear HB; have HB := n0_; have BK1044 := n1_; have GW1044 := n2_; have GE1044 := n3_; clear n0_ n1_ n2_ n3_; clear hb hbox hg) | ((with_reducible refine gate_callee (f := 81) rfl ?_); refine goesL_ (some 16) rfl rfl Try.func81 (by kernel_rfl) rfl #[] rfl (by (try simp only [List.map_toArray, List.map_cons, List.map_nil]); first | done | rfl | (simp only [List.length_drop, List.length_take]; rfl)) ?_; (with_reducible refine (ebbtidelaw10_awake.calls k  true _ (by first | exact A6.out | (have h_ := A6.out; rw [← Nbq18.out] at h_; exact h_) | (have h_ := A6.out; rw [← Nbq14.out] at h_; exact h_))).mono ?_); rintro e w21 ⟨rfl, hb⟩; refine ⟨_, rfl, ?_⟩; have n0_ := Aside0.mk (blk_below (g := gb1044) (o := .cells #[.int .i64 a0_0, .bool a0_1, .slice A0_2 l0_2.length c0_2] 24 (0, 0)) (by (with_reducible repeat (first | refine blk_drewN ?_ _ | refine blk_drew ?_ | refine blk_alloc ?_ _)); exact BK1044.out) hb); have n1_ := Aside0.mk (below_step (by repeat (first | (with_reducible first | exact HB.out | apply below_alloc | apply pw_below_drewN | apply below_drew1 | refine below_set ?_ GE1044.out) | exact HB.out)) hb); clear BK1044; clear HB; have BK1044 := n0_; have HB := n1_; clear n0_ n1_; (try clear hb); (try clear hb2); (try clear hk); (try clear hi); have hcz22_0 : w21.cell? ⟨gb1044, 0, none⟩ = some (.int .i64 a0_0) := (blk_cell BK1044.out 0).trans rfl; have hcz22_1 : w21.cell? ⟨gb1044, 1, none⟩ = some (.bool a0_1) := (blk_cell BK1044.out 1).trans rfl; have hcz22_2 : w21.cell? ⟨gb1044, 2, none⟩ = some (.slice A0_2 l0_2.length c0_2) := (blk_cell BK1044.out 2).trans rfl; have hfz22_0 := blk_frozen BK1044.out 0; have hfz22_1 := blk_frozen BK1044.out 1; have hfz22_2 := blk_frozen BK1044.out 2) | ((with_reducible refine gate_callee (f := 60) rfl ?_); refine goesL_ (some 24) rfl rfl Try.func60 (by kernel_rfl) rfl #[.agg #[.int .i64 a0_0, .bool a0_1, .slice A0_2 l0_2.length c0_2], .int .i64 a1, .int .i64 a2, .slice A3 l3.length c3] rfl (by (try simp only [List.map_toArray, List.map_cons, List.map_nil]); first | done | rfl | (simp only [List.length_drop, List.length_take]; rfl)) ?_; (with_reducible refine (ebbtideref07_Check.calls k a0_0 a0_1 _ _ l0_2 a1 a2 _ _ l3 t1046 t1047 _ ?side1 ?side2 ?side3 ?side4 A8.out).mono ?_); (case side1 => repeat (first | exact (Kd.C_below HR0_2.out HB.out) | (with_reducible refine Kd.C_alloc ?_ _) | (with_reducible refine Kd.C_drewN ?_ _) | (with_reducible refine Kd.C_drew ?_))); (case side2 => exact HC0_2.out); (case side3 => repeat (first | exact (Kd.C_below HR3.out HB.out) | (with_reducible refine Kd.C_alloc ?_ _) | (with_reducible refine Kd.C_drewN ?_ _) | (with_reducible refine Kd.C_drew ?_))); (case side4 => exact HC3.out); rintro e w23 ⟨rfl, hb⟩; refine ⟨_, rfl, ?_⟩; have n0_ := Aside0.mk (blk_below (g := gb1044) (o := .cells #[.int .i64 a0_0, .bool a0_1, .slice A0_2 l0_2.length c0_2] 24 (0, 0)) (by (with_reducible repeat (first | refine blk_drewN ?_ _ | refine blk_drew ?_ | refine blk_alloc ?_ _)); exact BK1044.out) hb); have n1_ := Aside0.mk (below_step (by repeat (first | (with_reducible first | exact HB.out | apply below_alloc | apply pw_below_drewN | apply below_drew1 | refine below_set ?_ GE1044.out) | exact HB.out)) hb); clear BK1044; clear HB; have BK1044 := n0_; have HB := n1_; clear n0_ n1_; (try clear hb); (try clear hb2); (try clear hk); (try clear hi); have hcz24_0 : w23.cell? ⟨gb1044, 0, none⟩ = some (.int .i64 a0_0) := (blk_cell BK1044.out 0).trans rfl; have hcz24_1 : w23.cell? ⟨gb1044, 1, none⟩ = some (.bool a0_1) := (blk_cell BK1044.out 1).trans rfl; have hcz24_2 : w23.cell? ⟨gb1044, 2, none⟩ = some (.slice A0_2 l0_2.length c0_2) := (blk_cell BK1044.out 2).trans rfl; have hfz24_0 := blk_frozen BK1044.out 0; have hfz24_1 := blk_frozen BK1044.out 1; have hfz24_2 := blk_frozen BK1044.out 2) | ((with_reducible refine gate_callee (f := 82) rfl ?_); refine goesL_ (some 30) rfl rfl Try.func82 (by kernel_rfl) rfl #[.agg #[.int .i64 a0_0, .bool a0_1, .slice A0_2 l0_2.length c0_2], .slice A4 l4.length c4] rfl (by (try simp only [List.map_toArray, List.map_cons, List.map_nil]); first | done | rfl | (simp only [List.length_drop, List.length_take]; rfl)) ?_; (with_reducible refine (mincut_Capacity.calls k a0_0 a0_1 _ _ l0_2 _ _ l4 t1048 t1049 _ ?side1 ?side2 ?side3 ?side4 A9.out).mono ?_); (case side1 => repeat (first | exact (Kd.C_below HR0_2.out HB.out) | (with_reducible refine Kd.C_alloc ?_ _) | (with_reducible refine Kd.C_drewN ?_ _) | (with_reducible refine Kd.C_drew ?_))); (case side2 => exact HC0_2.out); (case side3 => repeat (first | exact (Kd.C_below HR4.out HB.out) | (with_reducible refine Kd.C_alloc ?_ _) | (with_reducible refine Kd.C_drewN ?_ _) | (with_reducible refine Kd.C_drew ?_))); (case side4 => exact HC4.out); rintro e w25 ⟨rfl, hb⟩; refine ⟨_, rfl, ?_⟩; have n0_ := Aside0.mk (blk_below (g := gb1044) (o := .cells #[.int .i64 a0_0, .bool a0_1, .slice A0_2 l0_2.length c0_2] 24 (0, 0)) (by (with_reducible repeat (first | refine blk_drewN ?_ _ | refine blk_drew ?_ | refine blk_alloc ?_ _)); exact BK1044.out) hb); have n1_ := Aside0.mk (below_step (by repeat (first | (with_reducible first | exact HB.out | apply below_alloc | apply pw_below_drewN | apply below_drew1 | refine below_set ?_ GE1044.out) | exact HB.out)) hb); clear BK1044; clear HB; have BK1044 := n0_; have HB := n1_; clear n0_ n1_; (try clear hb); (try clear hb2); (try clear hk); (try clear hi); have p1050 : 0 ≤ (a1 : Int) := of_decide_eq_true (by first | (with_reducible assumption) | assumption); have q1050 : a1 < (l4.length : Int) := of_decide_eq_true (by first | (with_reducible assumption) | assumption); obtain ⟨ad1050, e1050, hx1050_0⟩ := Kd.at_bool HR4.out a1 p1050 q1050; (try rw [← Nbq14.out] at hx1050_0); (try rw [← Nbq18.out] at hx1050_0); cases e1050; replace hx1050_0 := (HB.out.cell (World.block_lt_of_cell? w _ hx1050_0)).trans hx1050_0; replace p1050 := eq_true p1050; replace q1050 := eq_true q1050; have p1051 : 0 ≤ (a2 : Int) := of_decide_eq_true (by first | (with_reducible assumption) | assumption); have q1051 : a2 < (l4.length : Int) := of_decide_eq_true (by first | (with_reducible assumption) | assumption); obtain ⟨ad1051, e1051, hx1051_0⟩ := Kd.at_bool HR4.out a2 p1051 q1051; (try rw [← Nbq14.out] at hx1051_0); (try rw [← Nbq18.out] at hx1051_0); obtain rfl : ad1050 = ad1051 := (by injection e1051); replace hx1051_0 := (HB.out.cell (World.block_lt_of_cell? w _ hx1051_0)).trans hx1051_0; replace p1051 := eq_true p1051; replace q1051 := eq_true q1051))
  go_ret
  exact ⟨by first | rfl | (simp [errW_none, errW_some] <;> rfl) | (simp [*, errW_none, errW_some] <;> rfl), by repeat (first | (with_reducible first | exact HB.out | apply below_alloc | apply pw_below_drewN | apply below_drew1 | refine below_set ?_ GE1044.out) | exact HB.out)⟩
 replace c19 := Bool.eq_false_iff.mpr c19
 subst c19
 have H1 : (some (decide (t1046 ≤ t1048))) = some r := by rw [if_neg (show ¬ (false = true) by decide)] at H; exact H
 clear H
 have H := H1
 clear H1
 obtain rfl := Option.some.inj H
 go_enter Try.func26, Try.ntmps26
 go_wp2_with (first | ((with_reducible refine gate_dst (N := 5) rfl ?_); refine box_event ?hg (N := 5) ?hd (cs := #[.int .i64 a0_0, .bool a0_1, .slice A0_2 l0_2.length c0_2]) (t := 24) ?hr ?_; (case hd => rfl); (case hg => rfl); (case hr => first | (go_simp; done) | (go_simp; rfl)); intro gb1044 hg w26 hbox hb; have n0_ := Aside0.mk (below_step (by repeat (first | (with_reducible first | exact HB.out | apply below_alloc | apply pw_below_drewN | apply below_drew1) | exact HB.out)) hb); have n1_ := Aside0.mk (hbox); have n2_ := Aside0.mk ((by rw [hg]; exact (below_size (by repeat (first | (with_reducible first | exact HB.out | apply below_alloc | apply pw_below_drewN | apply below_drew1) | exact HB.out))) : w.heap.size ≤ gb1044)); have n3_ := Aside0.mk ((by rw [hg]; exact (below_size (by repeat (first | (with_reducible first | exact HB.out | apply below_alloc | apply pw_below_drewN | apply below_drew1) | exact HB.out))) : w.heap.size ≤ gb1044)); clear HB; have HB := n0_; have BK1044 := n1_; have GW1044 := n2_; have GE1044 := n3_; clear n0_ n1_ n2_ n3_; clear hb hbox hg) | ((with_reducible refine gate_callee (f := 81) rfl ?_); refine goesL_ (some 16) rfl rfl Try.func81 (by kernel_rfl) rfl #[] rfl (by (try simp only [List.map_toArray, List.map_cons, List.map_nil]); first | done | rfl | (simp only [List.length_drop, List.length_take]; rfl)) ?_; (with_reducible refine (ebbtidelaw10_awake.calls k  true _ (by first | exact A6.out | (have h_ := A6.out; rw [← Nbq18.out] at h_; exact h_) | (have h_ := A6.out; rw [← Nbq14.out] at h_; exact h_))).mono ?_); rintro e w27 ⟨rfl, hb⟩; refine ⟨_, rfl, ?_⟩; have n0_ := Aside0.mk (blk_below (g := gb1044) (o := .cells #[.int .i64 a0_0, .bool a0_1, .slice A0_2 l0_2.length c0_2] 24 (0, 0)) (by (with_reducible repeat (first | refine blk_drewN ?_ _ | refine blk_drew ?_ | refine blk_alloc ?_ _)); exact BK1044.out) hb); have n1_ := Aside0.mk (below_step (by repeat (first | (with_reducible first | exact HB.out | apply below_alloc | apply pw_below_drewN | apply below_drew1 | refine below_set ?_ GE1044.out) | exact HB.out)) hb); clear BK1044; clear HB; have BK1044 := n0_; have HB := n1_; clear n0_ n1_; (try clear hb); (try clear hb2); (try clear hk); (try clear hi); have hcz28_0 : w27.cell? ⟨gb1044, 0, none⟩ = some (.int .i64 a0_0) := (blk_cell BK1044.out 0).trans rfl; have hcz28_1 : w27.cell? ⟨gb1044, 1, none⟩ = some (.bool a0_1) := (blk_cell BK1044.out 1).trans rfl; have hcz28_2 : w27.cell? ⟨gb1044, 2, none⟩ = some (.slice A0_2 l0_2.length c0_2) := (blk_cell BK1044.out 2).trans rfl; have hfz28_0 := blk_frozen BK1044.out 0; have hfz28_1 := blk_frozen BK1044.out 1; have hfz28_2 := blk_frozen BK1044.out 2) | ((with_reducible refine gate_callee (f := 60) rfl ?_); refine goesL_ (some 24) rfl rfl Try.func60 (by kernel_rfl) rfl #[.agg #[.int .i64 a0_0, .bool a0_1, .slice A0_2 l0_2.length c0_2], .int .i64 a1, .int .i64 a2, .slice A3 l3.length c3] rfl (by (try simp only [List.map_toArray, List.map_cons, List.map_nil]); first | done | rfl | (simp only [List.length_drop, List.length_take]; rfl)) ?_; (with_reducible refine (ebbtideref07_Check.calls k a0_0 a0_1 _ _ l0_2 a1 a2 _ _ l3 t1046 t1047 _ ?side1 ?side2 ?side3 ?side4 A8.out).mono ?_); (case side1 => repeat (first | exact (Kd.C_below HR0_2.out HB.out) | (with_reducible refine Kd.C_alloc ?_ _) | (with_reducible refine Kd.C_drewN ?_ _) | (with_reducible refine Kd.C_drew ?_))); (case side2 => exact HC0_2.out); (case side3 => repeat (first | exact (Kd.C_below HR3.out HB.out) | (with_reducible refine Kd.C_alloc ?_ _) | (with_reducible refine Kd.C_drewN ?_ _) | (with_reducible refine Kd.C_drew ?_))); (case side4 => exact HC3.out); rintro e w29 ⟨rfl, hb⟩; refine ⟨_, rfl, ?_⟩; have n0_ := Aside0.mk (blk_below (g := gb1044) (o := .cells #[.int .i64 a0_0, .bool a0_1, .slice A0_2 l0_2.length c0_2] 24 (0, 0)) (by (with_reducible repeat (first | refine blk_drewN ?_ _ | refine blk_drew ?_ | refine blk_alloc ?_ _)); exact BK1044.out) hb); have n1_ := Aside0.mk (below_step (by repeat (first | (with_reducible first | exact HB.out | apply below_alloc | apply pw_below_drewN | apply below_drew1 | refine below_set ?_ GE1044.out) | exact HB.out)) hb); clear BK1044; clear HB; have BK1044 := n0_; have HB := n1_; clear n0_ n1_; (try clear hb); (try clear hb2); (try clear hk); (try clear hi); have hcz30_0 : w29.cell? ⟨gb1044, 0, none⟩ = some (.int .i64 a0_0) := (blk_cell BK1044.out 0).trans rfl; have hcz30_1 : w29.cell? ⟨gb1044, 1, none⟩ = some (.bool a0_1) := (blk_cell BK1044.out 1).trans rfl; have hcz30_2 : w29.cell? ⟨gb1044, 2, none⟩ = some (.slice A0_2 l0_2.length c0_2) := (blk_cell BK1044.out 2).trans rfl; have hfz30_0 := blk_frozen BK1044.out 0; have hfz30_1 := blk_frozen BK1044.out 1; have hfz30_2 := blk_frozen BK1044.out 2) | ((with_reducible refine gate_callee (f := 82) rfl ?_); refine goesL_ (some 30) rfl rfl Try.func82 (by kernel_rfl) rfl #[.agg #[.int .i64 a0_0, .bool a0_1, .slice A0_2 l0_2.length c0_2], .slice A4 l4.length c4] rfl (by (try simp only [List.map_toArray, List.map_cons, List.map_nil]); first | done | rfl | (simp only [List.length_drop, List.length_take]; rfl)) ?_; (with_reducible refine (mincut_Capacity.calls k a0_0 a0_1 _ _ l0_2 _ _ l4 t1048 t1049 _ ?side1 ?side2 ?side3 ?side4 A9.out).mono ?_); (case side1 => repeat (first | exact (Kd.C_below HR0_2.out HB.out) | (with_reducible refine Kd.C_alloc ?_ _) | (with_reducible refine Kd.C_drewN ?_ _) | (with_reducible refine Kd.C_drew ?_))); (case side2 => exact HC0_2.out); (case side3 => repeat (first | exact (Kd.C_below HR4.out HB.out) | (with_reducible refine Kd.C_alloc ?_ _) | (with_reducible refine Kd.C_drewN ?_ _) | (with_reducible refine Kd.C_drew ?_))); (case side4 => exact HC4.out); rintro e w31 ⟨rfl, hb⟩; refine ⟨_, rfl, ?_⟩; have n0_ := Aside0.mk (blk_below (g := gb1044) (o := .cells #[.int .i64 a0_0, .bool a0_1, .slice A0_2 l0_2.length c0_2] 24 (0, 0)) (by (with_reducible repeat (first | refine blk_drewN ?_ _ | refine blk_drew ?_ | refine blk_alloc ?_ _)); exact BK1044.out) hb); have n1_ := Aside0.mk (below_step (by repeat (first | (with_reducible first | exact HB.out | apply below_alloc | apply pw_below_drewN | apply below_drew1 | refine below_set ?_ GE1044.out) | exact HB.out)) hb); clear BK1044; clear HB; have BK1044 := n0_; have HB := n1_; clear n0_ n1_; (try clear hb); (try clear hb2); (try clear hk); (try clear hi); have p1050 : 0 ≤ (a1 : Int) := of_decide_eq_true (by first | (with_reducible assumption) | assumption); have q1050 : a1 < (l4.length : Int) := of_decide_eq_true (by first | (with_reducible assumption) | assumption); obtain ⟨ad1050, e1050, hx1050_0⟩ := Kd.at_bool HR4.out a1 p1050 q1050; (try rw [← Nbq14.out] at hx1050_0); (try rw [← Nbq18.out] at hx1050_0); cases e1050; replace hx1050_0 := (HB.out.cell (World.block_lt_of_cell? w _ hx1050_0)).trans hx1050_0; replace p1050 := eq_true p1050; replace q1050 := eq_true q1050; have p1051 : 0 ≤ (a2 : Int) := of_decide_eq_true (by first | (with_reducible assumption) | assumption); have q1051 : a2 < (l4.length : Int) := of_decide_eq_true (by first | (with_reducible assumption) | assumption); obtain ⟨ad1051, e1051, hx1051_0⟩ := Kd.at_bool HR4.out a2 p1051 q1051; (try rw [← Nbq14.out] at hx1051_0); (try rw [← Nbq18.out] at hx1051_0); obtain rfl : ad1050 = ad1051 := (by injection e1051); replace hx1051_0 := (HB.out.cell (World.block_lt_of_cell? w _ hx1051_0)).trans hx1051_0; replace p1051 := eq_true p1051; replace q1051 := eq_true q1051))
 go_ret
 exact ⟨by first | rfl | (simp [errW_none, errW_some] <;> rfl) | (simp [*, errW_none, errW_some] <;> rfl), by repeat (first | (with_reducible first | exact HB.out | apply below_alloc | apply pw_below_drewN | apply below_drew1 | refine below_set ?_ GE1044.out) | exact HB.out)⟩
end Go.Proofs.Ytkcpanpdipmmmaa.P
namespace Go.Proofs.Ytkcpanpdipmmmaa.Opn
open Go.RowKit Go.ChangeShapes Go.WideShapes Go.Deep Go.Proofs.YtkcpanpdipmmmaaW.PrintWords
def Opens (P : Program) (t : TypeId) {α : Type} (d : Kd α) (ok : α → Prop) : Prop :=
 ∀ (H : Type) (enc : TypeId × Value → H) (w : World) (base : Nat) (spare : Nat → Bool) (held : Bool) (fuel : Nat) (cs : List Value) (x : DataW H × List MemPlace),
  DataW.trod enc P w base spare held fuel t cs = some x → ∃ a : α, d.K w a cs ∧ ok a
theorem opens_int {P : Program} {t : TypeId} {k : IntKind} (ht : P.underlying t = some (.int k)) : Opens P t (Kd.int k) (fun n => (Lit.int k n).wf = true) := by
 intro H enc w base spare held fuel cs x h
 obtain ⟨n, rfl, _, hw⟩ := DataW.trod_int ht h
 exact ⟨n, rfl, hw⟩
theorem opens_bool {P : Program} {t : TypeId} (ht : P.underlying t = some .bool) : Opens P t Kd.bool (fun _ => True) := by
 intro H enc w base spare held fuel cs x h
 obtain ⟨b, rfl, _⟩ := DataW.trod_bool ht h
 exact ⟨b, rfl, trivial⟩
theorem opens_slice {P : Program} {t e : TypeId} {α : Type} {d : Kd α} {ok : α → Prop} (ht : P.underlying t = some (.slice e)) (hc : P.cellsOf e = d.sz) (h : Opens P e d ok) :
  Opens P t (Kd.slice e d) (fun l => l.length ≤ 9223372036854775807 ∧ ∀ x ∈ l, ok x) := by
 intro H enc w base spare held fuel cs x hx
 rcases open_slice ht hx with ⟨rfl, _⟩ | ⟨a, len, cap, m, n, D, Pl, rfl, hb, hl, hm, hmm, _, hi⟩
 ·exact ⟨[], ⟨none, 0, rfl, Nat.le_refl _, rfl, by simp, fun h => absurd h (by simp)⟩, by simp, by simp⟩
 ·have hlm : len ≤ m := by rw [hmm]; split <;> omega
  have hel : ∀ i : Nat, i < len → ∃ a' : α, ok a' ∧ ∃ c, c.length = d.sz ∧ d.K w a' c ∧ ∀ j u, c[j]? = some u → w.cell? (a.add (i * d.sz + j)) = some u := by
   intro i hil
   obtain ⟨cs', hcs, htr⟩ := hi i (by omega)
   obtain ⟨a', hK, hok⟩ := h H enc w base spare held n cs' _ htr
   rw [hc] at hcs
   obtain ⟨_, hcl, hat⟩ := World.cells?_some hcs
   refine ⟨a', hok, cs', hcl, hK, fun j u hu => ?_⟩
   have hj : j < d.sz := by have := (List.getElem?_eq_some_iff.1 hu).1; omega
   have := hat j hj
   rw [← Go.Deep.add_add, this, hu]
  have hrow : ∀ k : Nat, k ≤ len → ∃ xs : List α, xs.length = k ∧ (∀ x ∈ xs, ok x) ∧ ∀ j p, xs[j]? = some p → ∃ c, c.length = d.sz ∧ d.K w p c ∧ ∀ i u, c[i]? = some u → w.cell? (a.add (j * d.sz + i)) = some u := by
   intro k
   induction k with
   | zero => exact fun _ => ⟨[], rfl, by simp, by simp⟩
   | succ k ih =>
    intro hk
    obtain ⟨xs, h1, h2, h3⟩ := ih (by omega)
    obtain ⟨a', ho, c, hcl, hK, hcell⟩ := hel k (by omega)
    refine ⟨xs ++ [a'], by simp [h1], fun x hx => ?_, fun j p hj => ?_⟩
    ·rcases List.mem_append.1 hx with h | h
     ·exact h2 x h
     ·rw [List.mem_singleton.1 h]; exact ho
    ·by_cases hjk : j < xs.length
     ·rw [List.getElem?_append_left hjk] at hj
      exact h3 j p hj
     ·have hjl := (List.getElem?_eq_some_iff.1 hj).1
      simp at hjl
      have hje : j = k := by omega
      subst hje
      rw [← h1, List.getElem?_concat_length] at hj
      obtain rfl := Option.some.inj hj
      exact ⟨c, hcl, hK, hcell⟩
  obtain ⟨xs, h1, h2, h3⟩ := hrow len (Nat.le_refl _)
  have hmx : len ≤ 9223372036854775807 := by unfold maxLen at hm; omega
  subst h1
  exact ⟨xs, ⟨some a, cap, rfl, hl, rfl, hmx, fun _ => ⟨a, rfl, h3⟩⟩, hmx, h2⟩
theorem opens_iso {P : Program} {t : TypeId} {α β : Type} {d : Kd α} {ok : α → Prop} (h : Opens P t d ok) (f : β → α) (g : α → β) (hfg : ∀ x, f (g x) = x) : Opens P t (Kd.iso d f) (fun y => ok (f y)) := by
 intro H enc w base spare held fuel cs x hx
 obtain ⟨a, hK, hok⟩ := h H enc w base spare held fuel cs x hx
 exact ⟨g a, by show d.K w (f (g a)) cs; rw [hfg]; exact hK, by show ok (f (g a)); rw [hfg]; exact hok⟩
def OpensFs (P : Program) (fs : List Field) (off : Nat) {α : Type} (d : Kd α) (ok : α → Prop) : Prop :=
 ∀ (H : Type) (enc : TypeId × Value → H) (w : World) (base : Nat) (spare : Nat → Bool) (held : Bool) (n : Nat) (cs : List Value), cs.length = off + d.sz →
  (∀ f ∈ fs, ∃ y, DataW.trod enc P w base spare held n f.type ((cs.drop f.offset).take (P.cellsOf f.type)) = some y) → ∃ a : α, d.K w a (cs.drop off) ∧ ok a
theorem fs_one {P : Program} {f : Field} {off : Nat} {α : Type} {d : Kd α} {ok : α → Prop} (ho : f.offset = off) (hc : P.cellsOf f.type = d.sz) (h : Opens P f.type d ok) : OpensFs P [f] off d ok := by
 intro H enc w base spare held n cs hl hf
 obtain ⟨y, hy⟩ := hf f (by simp)
 rw [ho, hc, List.take_of_length_le (by simp; omega)] at hy
 exact h H enc w base spare held n _ y hy
theorem fs_cons {P : Program} {f : Field} {fs : List Field} {off : Nat} {α β : Type} {d : Kd α} {d' : Kd β} {ok : α → Prop} {ok' : β → Prop} (ho : f.offset = off) (hc : P.cellsOf f.type = d.sz) (h : Opens P f.type d ok)
  (hr : OpensFs P fs (off + d.sz) d' ok') : OpensFs P (f :: fs) off (Kd.pair d d') (fun x => ok x.1 ∧ ok' x.2) := by
 intro H enc w base spare held n cs hl hf
 have hsz : (Kd.pair d d').sz = d.sz + d'.sz := rfl
 rw [hsz] at hl
 obtain ⟨y, hy⟩ := hf f (by simp)
 rw [ho, hc] at hy
 obtain ⟨a, hK, hok⟩ := h H enc w base spare held n _ y hy
 obtain ⟨b, hKb, hokb⟩ := hr H enc w base spare held n cs (by omega) (fun f' hf' => hf f' (List.mem_cons_of_mem _ hf'))
 refine ⟨(a, b), ⟨_, _, ?_, hK, hKb⟩, hok, hokb⟩
 rw [← List.drop_drop]
 exact (List.take_append_drop _ _).symm
theorem opens_struct {P : Program} {t : TypeId} {fs : Array Field} {α : Type} {d : Kd α} {ok : α → Prop} (hs : P.underlying t = some (.struct fs)) (hC : P.cellsOf t = d.sz) (h : OpensFs P fs.toList 0 d ok) : Opens P t d ok := by
 intro H enc w base spare held fuel cs x hx
 obtain ⟨xs, n, _, _, hl, hlen, hf⟩ := DataW.trod_struct hs hx
 obtain ⟨a, hK, hok⟩ := h H enc w base spare held n cs (by rw [hl, hC, Nat.zero_add]) (fun f hfm => by
  obtain ⟨j, hj⟩ := List.getElem?_of_mem hfm
  have hj' : fs[j]? = some f := by rw [← hj]; simp
  have hjl : j < xs.length := by rw [hlen]; exact (Array.getElem?_eq_some_iff.1 hj').1
  have h1 := hf j f hj'
  rw [List.getElem?_eq_getElem hjl] at h1
  exact ⟨_, h1⟩)
 exact ⟨a, hK, hok⟩
theorem arg_struct {H : Type} {enc : TypeId × Value → H} {P : Program} {w : World} {base b0 : Nat} {spare : Nat → Bool} {held : Bool} {r : Reach} {t : TypeId} {fs : Array Field} {v : Value} {dd : DataW H} {p : List MemPlace} {α : Type} {d : Kd α} {ok : α → Prop}
  (hs : P.underlying t = some (.struct fs)) (ho : Opens P t d ok) (hv : Value.okWide P w r b0 t v) (h : DataW.Trod enc P w base spare held t v dd p) : ∃ a cs, v = .agg cs ∧ d.K w a cs.toList ∧ ok a := by
 obtain ⟨cs, rfl, hsz⟩ := okWide_struct hs hv
 obtain ⟨fuel, hf⟩ := h
 obtain ⟨a, hK, hok⟩ := ho H enc w base spare held fuel _ _ hf
 exact ⟨a, cs, rfl, by simpa [Value.cells] using hK, hok⟩
theorem arg_slice {H : Type} {enc : TypeId × Value → H} {P : Program} {w : World} {base b0 : Nat} {spare : Nat → Bool} {held : Bool} {r : Reach} {t e : TypeId} {v : Value} {dd : DataW H} {p : List MemPlace} {α : Type} {d : Kd α} {ok : List α → Prop}
  (hs : P.underlying t = some (.slice e)) (ho : Opens P t (Kd.slice e d) ok) (hv : Value.okWide P w r b0 t v) (h : DataW.Trod enc P w base spare held t v dd p) : ∃ A c l, v = .slice A l.length c ∧ l.length ≤ c ∧ d.C w A l.length l ∧ ok l := by
 obtain ⟨A, len, cap, rfl⟩ := okWide_slice hs hv
 obtain ⟨fuel, hf⟩ := h
 obtain ⟨l, ⟨A', c, he, hlc, hC⟩, hok⟩ := ho H enc w base spare held fuel _ _ hf
 simp [Value.cells] at he
 obtain ⟨rfl, rfl, rfl⟩ := he
 exact ⟨A, cap, l, rfl, hlc, hC, hok⟩
end Go.Proofs.Ytkcpanpdipmmmaa.Opn
namespace Go.Proofs.Ytkcpanpdipmmmaa.Q
open Go.RowKit Go.Proofs.YtkcpanpdipmmmaaW.PrintWords Go.Proofs.YtkcpanpdipmmmaaW.PrintLast Go.Proofs.YtkcpanpdipmmmaaW.PrintMore Go.Proofs.Ytkcpanpdipmmmaa.P
open Go.Proofs.Ytkcpanpdipmmmaa.H (endsErr Right right_of StepOf stRoom IsFlow leastR pushW stRoom_in)
theorem endsE_ok {n : Int} {l : List S74} {s t : Int} (h : endsErr n l s t = 0) : NetOk n l ∧ 0 ≤ s ∧ s < n ∧ 0 ≤ t ∧ t < n ∧ s ≠ t := by
 unfold endsErr at h
 by_cases hn : netErr n l = 0
 ·rw [if_pos hn] at h
  split at h
  ·rename_i he
   exact ⟨netErr_ok hn, he⟩
  ·cases h
 ·rw [if_neg hn] at h; exact absurd h hn
def evenB (s t : Int) : List Int → Int → Bool
 | [], _ => true
 | x :: l, i => if i = s then evenB s t l (i + 1) else if i = t then evenB s t l (i + 1) else if x = 0 then evenB s t l (i + 1) else false
def valRes (n : Int) (l : List S74) (s t : Int) (f : List Int) : Int × Int :=
 if endsErr n l s t = 0 then (if askErr n l f = 0 then (if evenB s t (balOf n l f) 0 = true then (bal l f s, 0) else (0, 71)) else (0, askErr n l f)) else (0, endsErr n l s t)
theorem evenB_iff (s t : Int) (X : List Int) : ∀ i : Int, evenB s t X i = true ↔ ∀ j : Nat, j < X.length → i + j ≠ s → i + j ≠ t → X.getD j 0 = 0 := by
 induction X with
 | nil => intro i; simp [evenB]
 | cons x X ih =>
  intro i
  have key : evenB s t X (i + 1) = true ↔ ∀ j : Nat, j + 1 < (x :: X).length → i + (j + 1 : Nat) ≠ s → i + (j + 1 : Nat) ≠ t → (x :: X).getD (j + 1) 0 = 0 := by
   rw [ih (i + 1)]
   constructor
   ·intro h j h1 h2 h3
    rw [List.getD_cons_succ]
    exact h j (by simpa using h1) (by omega) (by omega)
   ·intro h j h1 h2 h3
    have := h j (by simpa using h1) (by omega) (by omega)
    rwa [List.getD_cons_succ] at this
  have all : (i ≠ s → i ≠ t → x = 0) → (evenB s t X (i + 1) = true ↔ ∀ j : Nat, j < (x :: X).length → i + j ≠ s → i + j ≠ t → (x :: X).getD j 0 = 0) := by
   intro hx
   rw [key]
   constructor
   ·intro h j h1 h2 h3
    cases j with
    | zero => exact hx (by simpa using h2) (by simpa using h3)
    | succ j => exact h j h1 h2 h3
   ·intro h j h1 h2 h3
    exact h (j + 1) h1 h2 h3
  unfold evenB
  by_cases h1 : i = s
  ·rw [if_pos h1]; exact all (fun h => absurd h1 h)
  rw [if_neg h1]
  by_cases h2 : i = t
  ·rw [if_pos h2]; exact all (fun _ h => absurd h2 h)
  rw [if_neg h2]
  by_cases h3 : x = 0
  ·rw [if_pos h3]; exact all (fun _ _ => h3)
  ·rw [if_neg h3]
   constructor
   ·intro h; cases h
   ·intro h
    exact absurd (h 0 (by simp) (by simpa using h1) (by simpa using h2)) h3
theorem ref_check2_l0 (n : Int) (p : Bool) (l : List S74) (s t : Int) (b : List Int) (hb : b.length ≤ 50) (hbn : n = b.length) (hs : 0 ≤ s) (hsn : s < b.length) (d : Nat) : ∀ i : Nat, i + d = b.length →
  Ev (fun k => ebbtideref07_Check.l0 k s t b (i : Int) n p l) (if evenB s t (b.drop i) i = true then (rd b s, 0) else (0, 71)) := by
 induction d with
 | zero =>
  intro i hi
  refine Ev.succ ?_; simp only [ebbtideref07_Check.l0]
  refine Ev.neg (by omega) ?_
  refine Ev.pos (by omega) ?_
  refine Ev.pos (by omega) ?_
  rw [List.drop_of_length_le (by omega)]
  exact Ev.now _
 | succ d ih =>
  intro i hi
  refine Ev.succ ?_; simp only [ebbtideref07_Check.l0]
  refine Ev.pos (by omega) ?_
  rw [drop_getD b i 0 (by omega), rd_nat, wrap_succ (n := b.length) (by omega) (by omega)]
  unfold evenB
  have := ih (i + 1) (by omega)
  rw [show ((i + 1 : Nat) : Int) = (i : Int) + 1 by omega] at this ⊢
  refine Ev.ite (fun g1 => ?_) (fun g1 => ?_)
  ·rw [if_pos g1]; exact this
  rw [if_neg g1]
  refine Ev.ite (fun g2 => ?_) (fun g2 => ?_)
  ·rw [if_pos g2]; exact this
  rw [if_neg g2]
  refine Ev.pos (by omega) ?_
  refine Ev.pos (by omega) ?_
  refine Ev.ite (fun g => ?_) (fun g => ?_)
  ·rw [if_pos g]; exact this
  rw [if_neg g]
  exact Ev.now _
theorem ref_value_ev (n : Int) (b : Bool) (l : List S74) (s t : Int) (f : List Int) : Ev (fun k => ebbtideref07_Check.f k n b l s t f) (valRes n l s t f) := by
 unfold ebbtideref07_Check.f valRes
 refine Ev.bind (ref_ends_ev n b l s t) ?_
 refine Ev.ite (fun h => ?_) (fun h => ?_)
 ·rw [if_pos h]
  obtain ⟨hn, he⟩ := endsE_ok h
  have := hn.lo; have := hn.hi
  refine Ev.bind (ref_balance_ev n b l f) ?_
  by_cases g : askErr n l f = 0
  ·rw [if_pos g, balRes_ok g]
   refine Ev.pos rfl ?_
   refine Ev.eq (ref_check2_l0 n b l s t (balOf n l f) (by rw [balOf_len]; omega) (by rw [balOf_len]; omega) (by omega) (by rw [balOf_len]; omega) _ 0 (Nat.zero_add _)) ?_
   rw [rd_balOf (by omega) (by omega), List.drop_zero]
   rfl
  ·rw [if_neg g, balRes_no g]
   exact Ev.neg g (Ev.now _)
 ·rw [if_neg h]
  exact Ev.now _
theorem flowOk_of {l : List S74} {F : List Int} {n : Nat} (hr : Right l F n) : FlowOk l F := by
 refine ⟨hr.len, fun i hi => ?_⟩
 have := hr.nums i (by rw [← hr.len]; exact hi)
 rw [rd_nat]
 exact ⟨this.2.2.1, this.2.2.2.1⟩
theorem even_flow {n : Nat} {l : List S74} {F : List Int} {s t : Int} (hr : Right l F n) : evenB s t (balOf n l F) 0 = true ↔ IsFlow l F n s t := by
 rw [evenB_iff]
 have hlen := balOf_len (n : Int) l F
 rw [Int.toNat_natCast] at hlen
 have hg : ∀ v : Nat, v < n → (balOf n l F).getD v 0 = bal l F v := fun v hv => by
  have h_ := rd_balOf (n := (n : Int)) (l := l) (f := F) (v := (v : Int)) (by omega) (by omega)
  rw [rd_nat] at h_
  exact h_
 constructor
 ·intro h
  refine ⟨hr, fun v h0 h1 h2 h3 => ?_⟩
  obtain ⟨v, rfl⟩ : ∃ v' : Nat, v = v' := ⟨v.toNat, by omega⟩
  rw [← hg v (by omega)]
  exact h v (by omega) (by omega) (by omega)
 ·intro h v hv h2 h3
  rw [hg v (by omega)]
  exact h.keeps v (by omega) (by omega) (by omega) (by omega)
theorem flow_val {n : Int} {l : List S74} {F : List Int} {s t : Int} (h : (valRes n l s t F).2 = 0) : endsErr n l s t = 0 ∧ askErr n l F = 0 ∧ ∃ n0 : Nat, n = n0 ∧ IsFlow l F n0 s t ∧ valRes n l s t F = (bal l F s, 0) := by
 unfold valRes at h ⊢
 by_cases h1 : endsErr n l s t = 0
 ·rw [if_pos h1] at h ⊢
  by_cases h2 : askErr n l F = 0
  ·rw [if_pos h2] at h ⊢
   obtain ⟨n0, rfl, hr⟩ := right_of h2
   by_cases h3 : evenB s t (balOf n0 l F) 0 = true
   ·rw [if_pos h3]
    exact ⟨h1, h2, n0, rfl, (even_flow hr).1 h3, rfl⟩
   ·rw [if_neg h3] at h; cases h
  ·rw [if_neg h2] at h; exact absurd h h2
 ·rw [if_neg h1] at h; exact absurd h h1
end Go.Proofs.Ytkcpanpdipmmmaa.Q
namespace Go.Proofs.Ytkcpanpdipmmmaa.Q
open Go.RowKit Go.Proofs.YtkcpanpdipmmmaaW.PrintWords Go.Proofs.YtkcpanpdipmmmaaW.PrintLast Go.Proofs.YtkcpanpdipmmmaaW.PrintMore Go.Proofs.Ytkcpanpdipmmmaa.P
open Go.Proofs.Ytkcpanpdipmmmaa.H (endsErr Right right_of StepOf stRoom IsFlow MaxF leastR pushW fillF bfP nodes netG dOf frP toP)
theorem max_fill {l : List S74} {n s t : Nat} (hr : Right l (List.replicate l.length 0) n) (hs : s < n) (ht : t < n) (hst : s ≠ t) : MaxF l (fillF l n s t) n s t := H.fill_max hr hs ht hst
theorem fill_eq {n : Int} {l : List S74} {s t : Int} (b : Bool) (h : endsErr n l s t = 0) : maxflow_Fill.f n b l s t = some (fillF l n.toNat s.toNat t.toNat) := by unfold maxflow_Fill.f; rw [if_pos h]
end Go.Proofs.Ytkcpanpdipmmmaa.Q
namespace Go.Proofs.Ytkcpanpdipmmmaa.Q
open Go.RowKit Go.Proofs.YtkcpanpdipmmmaaW.PrintWords Go.Proofs.YtkcpanpdipmmmaaW.PrintLast Go.Proofs.YtkcpanpdipmmmaaW.PrintMore Go.Proofs.Ytkcpanpdipmmmaa.P
open Go.Proofs.Ytkcpanpdipmmmaa.H (endsErr Right right_of IsFlow MaxF fillF bfP nodes dOf dOf_len dOf_get fnd fnd_none capR capR_cons sideP sideP_iff behindF)
def sd (S : List Bool) (v : Int) : Bool := rdOf false S v
theorem takes_l0 (m : Int) (l : List S74) (S : List Bool) (hn : NetOk m l) (hS : (S.length : Int) = m) (d : Nat) : ∀ (i : Nat) (acc : Int), i + d = l.length → 0 ≤ acc → acc ≤ 1048576 * i →
  Ev (fun k => mincut_takes.l0 k S acc l (l.length : Int) (i : Int)) (acc + capR (sd S) (l.drop i)) := by
 have hl := hn.len
 induction d with
 | zero =>
  intro i acc hi h0 h1
  refine Ev.succ ?_; simp only [mincut_takes.l0]
  refine Ev.neg (by omega) ?_
  rw [List.drop_of_length_le (by omega)]
  exact Ev.done (by simp [capR])
 | succ d ih =>
  intro i acc hi h0 h1
  have ha := hn.at_ (i := (i : Int)) (by omega) (by omega)
  have a0 := ha.f0
  have a1 := ha.f1
  have a2 := ha.f2
  have a3 := ha.h0
  have a4 := ha.h1
  have a5 := ha.h2
  rw [drop_getD l i z74 (by omega), ← rdArc_nat, capR_cons]
  refine Ev.succ ?_; simp only [mincut_takes.l0]
  refine Ev.pos (by omega) ?_
  refine Ev.pos (by omega) ?_
  refine Ev.pos (by omega) ?_
  refine Ev.pos (by omega) ?_
  refine Ev.pos (by omega) ?_
  rw [wrap_succ (n := l.length) (by omega) (by omega)]
  refine Ev.ite (fun g => ?_) (fun g => ?_)
  ·have g1 : sd S (rd_T74 l (i : Int)).f0 = true := g
   refine Ev.pos (by omega) ?_
   refine Ev.pos (by omega) ?_
   refine Ev.ite (fun g2 => ?_) (fun g2 => ?_)
   ·have g3 : sd S (rd_T74 l (i : Int)).f1 = true := g2
    rw [g1, g3, if_neg (by decide)]
    exact Ev.eq (ih (i + 1) _ (by omega) (by omega) (by omega)) (by omega)
   ·have g3 : sd S (rd_T74 l (i : Int)).f1 = false := Bool.eq_false_iff.2 g2
    rw [g1, g3, if_pos (by decide), wrap_id (by omega) (by omega)]
    exact Ev.eq (ih (i + 1) _ (by omega) (by omega) (by omega)) (by omega)
  ·have g1 : sd S (rd_T74 l (i : Int)).f0 = false := Bool.eq_false_iff.2 g
   rw [g1, if_neg (by simp)]
   exact Ev.eq (ih (i + 1) _ (by omega) (by omega) (by omega)) (by omega)
theorem takes_ev (n m : Int) (b : Bool) (l : List S74) (S : List Bool) (hn : NetOk m l) (hS : (S.length : Int) = m) : Ev (fun k => mincut_takes.f k n b l S) (capR (sd S) l) := by
 unfold mincut_takes.f
 exact Ev.eq (takes_l0 m l S hn hS l.length 0 0 (by omega) (by omega) (by omega)) (by rw [List.drop_zero]; omega)
def capaR (n : Int) (l : List S74) (S : List Bool) : Int × Int := if netErr n l = 0 then (if (S.length : Int) = n then (capR (sd S) l, 0) else (0, 1)) else (0, netErr n l)
theorem capacity_ev (n : Int) (b : Bool) (l : List S74) (S : List Bool) : Ev (fun k => mincut_Capacity.f k n b l S) (capaR n l S) := by
 unfold mincut_Capacity.f capaR
 refine Ev.bind (check_ev n b l) ?_
 refine Ev.ite (fun h => ?_) (fun h => ?_)
 ·rw [if_pos h]
  refine Ev.ite (fun g => ?_) (fun g => ?_)
  ·rw [if_pos g]
   exact Ev.bind (takes_ev n n b l S (netErr_ok h) g) (Ev.now _)
  ·rw [if_neg g]; exact Ev.now _
 ·rw [if_neg h]; exact Ev.now _
theorem capa_ok {n : Int} {l : List S74} {S : List Bool} (h : (capaR n l S).2 = 0) : netErr n l = 0 ∧ (S.length : Int) = n ∧ capaR n l S = (capR (sd S) l, 0) := by
 unfold capaR at h ⊢
 by_cases h1 : netErr n l = 0
 ·rw [if_pos h1] at h ⊢
  by_cases h2 : (S.length : Int) = n
  ·rw [if_pos h2]; exact ⟨h1, h2, rfl⟩
  ·rw [if_neg h2] at h; cases h
 ·rw [if_neg h1] at h; exact absurd h h1
theorem same10_l0 (a : List Bool) (hl : a.length ≤ 1000000) (d : Nat) : ∀ i : Nat, i + d = a.length → Ev (fun k => ebbtideref10_Same.l0 k a a (i : Int)) true := by
 induction d with
 | zero =>
  intro i hi
  refine Ev.succ ?_; simp only [ebbtideref10_Same.l0]
  refine Ev.neg (by omega) ?_
  exact Ev.now _
 | succ d ih =>
  intro i hi
  refine Ev.succ ?_; simp only [ebbtideref10_Same.l0]
  refine Ev.pos (by omega) ?_
  refine Ev.pos (by omega) ?_
  refine Ev.pos (by omega) ?_
  refine Ev.neg (by simp) ?_
  rw [wrap_succ (n := a.length) (by omega) (by omega)]
  exact ih (i + 1) (by omega)
theorem same10_ev (a : List Bool) (hl : a.length ≤ 1000000) : Ev (fun k => ebbtideref10_Same.f k a a) true := by
 unfold ebbtideref10_Same.f
 refine Ev.pos rfl ?_
 exact same10_l0 a hl a.length 0 (by omega)
theorem behind_len (l : List S74) (F : List Int) (n s : Nat) : (behindF l F n s).length = n := by unfold behindF; rw [List.length_map, dOf_len]
theorem behind_get {l : List S74} {F : List Int} {n s v : Nat} (hv : v < n) : sd (behindF l F n s) (v : Int) = decide (v ∈ nodes (bfP l F n s)) := by
 unfold sd rdOf behindF
 rw [Int.toNat_natCast, List.getD_eq_getElem?_getD, List.getElem?_map]
 have hlt : v < (dOf n (bfP l F n s)).length := by rw [dOf_len]; exact hv
 have h := H.dOf_neg (bfP l F n s) 0 hv
 rw [List.getD_eq_getElem?_getD, List.getElem?_eq_getElem hlt] at h
 rw [List.getElem?_eq_getElem hlt]
 simp only [Option.getD_some] at h
 show decide ((dOf n (bfP l F n s))[v] ≥ 0) = _
 by_cases hm : v ∈ nodes (bfP l F n s)
 ·rw [decide_eq_true hm, decide_eq_true]
  have : ¬ (dOf n (bfP l F n s))[v] < 0 := fun g => h.1 g hm
  omega
 ·rw [decide_eq_false hm, decide_eq_false]
  have := h.2 hm
  omega
theorem behind_ext {S T : List Bool} {n : Nat} (h1 : S.length = n) (h2 : T.length = n) (h : ∀ v : Nat, v < n → sd S v = sd T v) : S = T := by
 apply List.ext_getElem (by omega)
 intro i g1 g2
 have := h i (by omega)
 unfold sd rdOf at this
 rw [Int.toNat_natCast, List.getD_eq_getElem?_getD, List.getD_eq_getElem?_getD, List.getElem?_eq_getElem g1, List.getElem?_eq_getElem g2] at this
 simpa using this
theorem behind_same {l : List S74} {F G : List Int} {n s t : Nat} (h : MaxF l F n s t) (g : MaxF l G n s t) (hs : s < n) (hst : s ≠ t) : behindF l F n s = behindF l G n s := by
 refine behind_ext (behind_len _ _ _ _) (behind_len _ _ _ _) fun v hv => ?_
 rw [behind_get hv, behind_get hv]
 exact decide_eq_decide.2 (H.side_same h g hs hst v)
theorem capR_congr {R Q : Int → Bool} {n : Int} : ∀ {l : List S74}, (∀ a ∈ l, ArcOk n a) → (∀ v : Int, 0 ≤ v → v < n → R v = Q v) → capR R l = capR Q l
 | [], _, _ => rfl
 | a :: l, ha, h => by
  have h1 := ha a List.mem_cons_self
  rw [capR_cons, capR_cons, h _ h1.f0 h1.h0, h _ h1.f1 h1.h1, capR_congr (fun b hb => ha b (List.mem_cons_of_mem _ hb)) h]
theorem behind_cap {l : List S74} {F : List Int} {n s t : Nat} (hn : NetOk n l) (h : MaxF l F n s t) (hs : s < n) (hst : s ≠ t) : capR (sd (behindF l F n s)) l = bal l F s := by
 rw [(H.max_value h hs hst).1]
 refine capR_congr hn.arcs fun v h0 h1 => ?_
 obtain ⟨v, rfl⟩ : ∃ v' : Nat, v = v' := ⟨v.toNat, by omega⟩
 rw [behind_get (by omega)]
 unfold sideP
 rw [Int.toNat_natCast]
 exact decide_eq_decide.2 ⟨fun g => ⟨by omega, g⟩, fun g => g.2⟩
def leastS (n : Int) (l : List S74) (s t : Int) : List Bool × Int × Int :=
 if endsErr n l s t = 0 then (behindF l (fillF l n.toNat s.toNat t.toNat) n.toNat s.toNat, bal l (fillF l n.toNat s.toNat t.toNat) s, 0) else ([], 0, endsErr n l s t)
theorem leastS_nat {l : List S74} {n s t : Nat} (h : endsErr (n : Int) l (s : Int) (t : Int) = 0) : leastS n l s t = (behindF l (fillF l n s t) n s, bal l (fillF l n s t) s, 0) := by
 unfold leastS; rw [if_pos h]; simp only [Int.toNat_natCast]
theorem leastS_no {l : List S74} {n s t : Int} (h : ¬ endsErr n l s t = 0) : leastS n l s t = ([], 0, endsErr n l s t) := by unfold leastS; rw [if_neg h]
theorem least_ev (n : Int) (b : Bool) (l : List S74) (s t : Int) : Ev (fun k => mincut_Least.f k n b l s t) (leastS n l s t) := by
 unfold mincut_Least.f
 refine Ev.bind (ends_ev n b l s t) ?_
 by_cases h : endsErr n l s t = 0
 ·refine Ev.pos h ?_
  refine Ev.call (fill_eq b h) ?_
  obtain ⟨n0, s0, t0, rfl, rfl, rfl, hs, ht, hst, hn, hr⟩ := ends_zero h
  rw [leastS_nat h]
  simp only [Int.toNat_natCast]
  have hM := max_fill hr hs ht hst
  have ha := ask_of hn (flowOk_of hM.flow.right)
  have hB : mincut_Behind.f (n0 : Int) b l (fillF l n0 s0 t0) (s0 : Int) = some (behindF l (fillF l n0 s0 t0) n0 s0) := by
   unfold mincut_Behind.f
   rw [if_pos ⟨ha, by omega, by omega⟩, Int.toNat_natCast, Int.toNat_natCast]
  refine Ev.call hB ?_
  refine Ev.bind (takes_ev n0 n0 b l _ hn (by rw [behind_len])) ?_
  exact Ev.done (by rw [behind_cap hn hM hs hst])
 ·rw [leastS_no h]
  refine Ev.neg h ?_
  exact Ev.now _
end Go.Proofs.Ytkcpanpdipmmmaa.Q
namespace Go.Proofs.Ytkcpanpdipmmmaa.Q
open Go.RowKit Go.Proofs.YtkcpanpdipmmmaaW.PrintWords Go.Proofs.YtkcpanpdipmmmaaW.PrintLast Go.Proofs.YtkcpanpdipmmmaaW.PrintMore Go.Proofs.Ytkcpanpdipmmmaa.P
open Go.Proofs.Ytkcpanpdipmmmaa.H (endsErr Right right_of IsFlow MaxF fillF bfP nodes dOf dOf_len capR capR_cons sideP sideP_iff behindF)
def two10 : List S74 := [(⟨0, 1, 3, 0⟩ : S74), (⟨1, 2, 1, 0⟩ : S74)]
theorem two10_right : Right two10 (List.replicate two10.length 0) 3 := by
 obtain ⟨n0, h1, h2⟩ := right_of (n := 3) (l := two10) (F := List.replicate two10.length 0) (by decide +kernel)
 obtain rfl : n0 = 3 := by omega
 exact h2
theorem two10_max : MaxF two10 (fillF two10 3 0 2) 3 0 2 := max_fill two10_right (by decide) (by decide) (by decide)
theorem two10_top : MaxF two10 [1, 1] 3 0 2 := by
 obtain ⟨n0, h1, h2⟩ := right_of (n := 3) (l := two10) (F := [1, 1]) (by decide +kernel)
 obtain rfl : n0 = 3 := by omega
 refine ⟨⟨h2, fun v a b c d => ?_⟩, by decide +kernel⟩
 obtain rfl : v = 1 := by omega
 decide +kernel
theorem awake10_ev : Ev (fun k => ebbtidelaw10_awake.f k) true := by
 have e1 : endsErr 3 two10 0 2 = 0 := by decide +kernel
 have v1 : bal two10 (fillF two10 3 0 2) 0 = 1 := by
  have h_ := H.max_same (s := 0) (t := 2) two10_max two10_top (by decide) (by decide)
  have h_2 : bal two10 [1, 1] ((0 : Nat) : Int) = 1 := by decide +kernel
  rw [h_2] at h_
  exact h_
 have v2 : behindF two10 (fillF two10 3 0 2) 3 0 = [true, true, false] := by
  rw [behind_same (s := 0) (t := 2) two10_max two10_top (by decide) (by decide)]
  decide +kernel
 have m1 : leastS 3 two10 0 2 = ([true, true, false], 1, 0) := by
  have h_ := leastS_nat (n := 3) (l := two10) (s := 0) (t := 2) e1
  have h_2 : leastS 3 two10 0 2 = (behindF two10 (fillF two10 3 0 2) 3 0, bal two10 (fillF two10 3 0 2) 0, 0) := h_
  rw [h_2, v1, v2]
 have m2 : capaR 3 two10 [true, false, false] = (3, 0) := by decide +kernel
 unfold ebbtidelaw10_awake.f
 refine Ev.let_ ?_
 refine Ev.bind (least_ev 3 false two10 0 2) ?_
 refine Ev.bind (capacity_ev 3 false two10 _) ?_
 rw [m1, m2]
 refine Ev.pos rfl ?_
 refine Ev.pos rfl ?_
 refine Ev.bind (same10_ev [true, true, false] (by decide)) ?_
 refine Ev.pos rfl ?_
 refine Ev.pos rfl ?_
 exact Ev.now _
theorem mincutBounds_ev (n : Int) (b : Bool) (l : List S74) (s t : Int) (F : List Int) (S : List Bool) : Ev (fun k => ebbtidelaw10_MincutBounds.f k n b l s t F S) true := by
 unfold ebbtidelaw10_MincutBounds.f
 refine Ev.bind awake10_ev ?_
 refine Ev.pos rfl ?_
 refine Ev.bind (ref_value_ev n b l s t F) ?_
 refine Ev.bind (capacity_ev n b l S) ?_
 refine Ev.ite (fun h1 => ?_) (fun _ => Ev.now _)
 refine Ev.ite (fun h2 => ?_) (fun _ => Ev.now _)
 obtain ⟨he, h0, n0, rfl, hf, hv⟩ := flow_val h1
 obtain ⟨n1, s0, t0, e1, rfl, rfl, hs, ht, hst, hn, hr⟩ := ends_zero he
 obtain rfl : n0 = n1 := by omega
 obtain ⟨c1, c2, c3⟩ := capa_ok h2
 refine Ev.pos (by omega) ?_
 refine Ev.pos (by omega) ?_
 refine Ev.ite (fun g1 => ?_) (fun _ => Ev.now _)
 refine Ev.pos (by omega) ?_
 refine Ev.pos (by omega) ?_
 refine Ev.ite (fun _ => Ev.now _) (fun g2 => ?_)
 rw [hv, c3]
 exact Ev.done (decide_eq_true (H.value_le hf (sd S) g1 (Bool.eq_false_iff.2 g2) (by omega) (by omega)))
end Go.Proofs.Ytkcpanpdipmmmaa.Q
