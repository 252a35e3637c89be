/- Joined by wip/tool/bundle.py out of: QFromWalk QFarWalk QBase QRefLaw QFreeWalk QCostLaw P34 QNet QFlowA QCostFar P33 P35 P36 QCostFree P37. -/
import Derived.Test.YtkcpanpdipmmmaaGbibknp
import Derived.Test.YtkcpanpdipmmmaaGehiojn
import Derived.Test.YtkcpanpdipmmmaaGainbie
import Derived.Test.YtkcpanpdipmmmaaGodmgla
import Derived.RegionTactic
import Derived.ChangeAlike
import Derived.BigRegion
import Derived.LoopTactic
import Derived.WalkKit
import Derived.WalkMore
import Derived.Test.YtkcpanpdipmmmaaV
import Derived.Test.YtkcpanpdipmmmaaGknokof
/- cost.From: the seeker, the rows, and what settled makes of them; by gen_cost.py. -/
set_option linter.unusedVariables false
set_option linter.unusedSimpArgs false
namespace Go.Proofs.Ytkcpanpdipmmmaa.H
open Go.RowKit Go.Proofs.YtkcpanpdipmmmaaW.PrintWords Go.Proofs.YtkcpanpdipmmmaaW.PrintLast Go.Proofs.YtkcpanpdipmmmaaW.PrintMore Go.Proofs.Ytkcpanpdipmmmaa.P
theorem heap74 : Kd.Heap k74 := Kd.heap_iso _ (Kd.heap_pair (Kd.heap_int _) (Kd.heap_pair (Kd.heap_int _) (Kd.heap_pair (Kd.heap_int _) (Kd.heap_int _))))
def startR (n s : Nat) : Rch := ⟨List.replicate n 0, (List.replicate n false).set s true, List.replicate n z38, false⟩
theorem startR_ok (n s : Nat) : (startR n s).Ok n := ⟨by simp [startR], by simp [startR], by simp [startR]⟩
theorem bd_zero (n : Nat) : Bd (List.replicate n 0) 0 := by
  intro v
  have : (List.replicate n (0 : Int)).getD v 0 = 0 := by
    rw [List.getD_eq_getElem?_getD, List.getElem?_replicate]
    split <;> rfl
  rw [this]
  omega
set_option maxHeartbeats 2000000 in
set_option maxRecDepth 100000 in
theorem from_calls (n0 : Nat) (a0_1 : Bool) (A2 : Option Addr) (c2 : Nat) (l : List S74) (A1 : Option Addr) (c1 : Nat) (F : List Int) (s : Nat) (w : World) (hR : Right l F n0) (hs : s < n0) (h2 : Kd.C k74 w A2 l.length l) (hc2 : l.length ≤ c2) (h3 : Kd.C (Kd.int .i64) w A1 F.length F) (hc1 : F.length ≤ c1) :
    Calls Try.prog 97 #[.agg #[.int .i64 n0, .bool a0_1, .slice A2 l.length c2], .slice A1 F.length c1, .int .i64 s] w fun e w' => ∃ v0 v1 v2 : Value, e = .returned (.tuple #[.agg #[v0, v1, v2], .bool (goesR l F n0 (n0 + 1) (startR n0 s)).2]) ∧
      Kd.R (Kd.int .i64) 3 w' w.heap.size (fun _ => True) v0 (goesR l F n0 (n0 + 1) (startR n0 s)).1.D ∧ Kd.R Kd.bool 4 w' w.heap.size (fun _ => True) v1 (goesR l F n0 (n0 + 1) (startR n0 s)).1.I ∧ Kd.R k38 38 w' w.heap.size (fun _ => True) v2 (goesR l F n0 (n0 + 1) (startR n0 s)).1.B ∧ Below w.heap.size w w' := by
  obtain ⟨XT, hXT⟩ : ∃ y_, y_ = goesR l F n0 (n0 + 1) (startR n0 s) := ⟨_, rfl⟩
  rw [← hXT]
  have HXT := Aside0.mk hXT
  clear hXT
  have hu24 := Try.underlying24
  have hu109 := Try.underlying109
  have hu118 := Try.underlying118
  have hn0 : 0 < n0 := hR.pos
  have hn50 : n0 ≤ 50 := hR.fifty
  have HR := Aside0.mk hR
  have H2 := Aside0.mk h2
  have H3 := Aside0.mk h3
  have HC2 := Aside0.mk hc2
  have HC1 := Aside0.mk hc1
  clear hR h2 h3 hc2 hc1
  have HB := Aside0.mk (Below.refl w.heap.size w)
  go_enter Try.func97, Try.ntmps97
  go_wp2_with (first | ((with_reducible refine gate_dst (N := 3) rfl ?_); refine box_event ?hg (N := 3) ?hd (cs := #[.int .i64 n0, .bool a0_1, .slice A2 l.length c2]) (t := 24) ?hr ?_; (case hd => rfl); (case hg => rfl); (case hr => first | (go_simp; done) | (go_simp; rfl)); intro g3 hg w4 hbox hb; have n0_ := Aside0.mk (below_step HB.out hb); have B3 := Aside0.mk hbox; clear HB; have HB := n0_; clear n0_ hb hbox hg; have hb0 : w4.cell? ⟨g3, 0, none⟩ = some (.int .i64 n0) := (blk_cell B3.out 0).trans rfl; have hb1 : w4.cell? ⟨g3, 1, none⟩ = some (.bool a0_1) := (blk_cell B3.out 1).trans rfl; have hb2 : w4.cell? ⟨g3, 2, none⟩ = some (.slice A2 l.length c2) := (blk_cell B3.out 2).trans rfl) | ((with_reducible refine gate_dst (N := 6) rfl ?_); refine box_event ?hg (N := 6) ?hd (cs := #[.slice none 0 0, .slice none 0 0, .slice none 0 0]) (t := 109) ?hr ?_; (case hd => rfl); (case hg => rfl); (case hr => first | (go_simp; done) | (go_simp; rfl)); intro g6 hg w5 hbox hb; have GE6 : Aside0 (w.heap.size ≤ g6) := ⟨by rw [hg]; exact HB.out.size⟩; have n0_ := Aside0.mk (below_step HB.out hb); have n1_ := Aside0.mk (blk_below B3.out hb); have B6 := Aside0.mk hbox; clear HB B3 hb0 hb1 hb2; have HB := n0_; have B3 := n1_; clear n0_ n1_ hb hbox hg; have hb0 : w5.cell? ⟨g3, 0, none⟩ = some (.int .i64 n0) := (blk_cell B3.out 0).trans rfl; have hb1 : w5.cell? ⟨g3, 1, none⟩ = some (.bool a0_1) := (blk_cell B3.out 1).trans rfl; have hb2 : w5.cell? ⟨g3, 2, none⟩ = some (.slice A2 l.length c2) := (blk_cell B3.out 2).trans rfl) | (go_at_call 101; refine (at_calls n0 a0_1 A2 c2 l A1 c1 F.length _ (Kd.C_below H2.out HB.out) HC2.out (by omega) (by omega) (by have := HR.out.arcs; omega) (fun k hk => (HR.out.ends k hk).1) (fun k hk => (HR.out.ends k hk).2)).mono ?_; rintro e_ w6 ⟨vr, rfl, hS, hb⟩; obtain ⟨A4, c4, e4⟩ := Kd.S_slice hS; subst e4; rw [rowsAt_len]; have n0_ := Aside0.mk (below_step HB.out hb); have n1_ := Aside0.mk (blk_below B3.out hb); have n2_ := Aside0.mk (blk_below B6.out hb); have HS := Aside0.mk hS; have HSZ : Aside0 (w.heap.size ≤ w5.heap.size) := ⟨HB.out.size⟩; clear HB B3 B6 hb0 hb1 hb2; have HB := n0_; have B3 := n1_; have B6 := n2_; clear n0_ n1_ n2_ hb hS) | ((with_reducible refine gate_dst (N := 8) rfl ?_); refine box_event ?hg (N := 8) ?hd (cs := #[.int .i64 0, .bool false, .slice none 0 0, .slice none 0 0, .slice none 0 0]) (t := 118) ?hr ?_; (case hd => rfl); (case hg => rfl); (case hr => first | (go_simp; done) | (go_simp; rfl)); intro g8 hg w7 hbox hb; have GE8 : Aside0 (w.heap.size ≤ g8) := ⟨by rw [hg]; exact HB.out.size⟩; have n0_ := Aside0.mk (below_step HB.out hb); have n1_ := Aside0.mk (blk_below B3.out hb); have n2_ := Aside0.mk (blk_below B6.out hb); have n3_ := Aside0.mk (Kd.S_below HS.out hb); have B8 := Aside0.mk hbox; have HNE : Aside0 (g3 ≠ g8 ∧ g6 ≠ g8) := ⟨by rw [hg]; exact ⟨Nat.ne_of_lt (blk_lt B3.out), Nat.ne_of_lt (blk_lt B6.out)⟩⟩; clear HB B3 B6 HS; have HB := n0_; have B3 := n1_; have B6 := n2_; have HS := n3_; clear n0_ n1_ n2_ n3_ hb hbox hg; have hz0 : w7.cell? ⟨g8, 0, none⟩ = some (.int .i64 0) := (blk_cell B8.out 0).trans rfl; have hz1 : w7.cell? ⟨g8, 1, none⟩ = some (.bool false) := (blk_cell B8.out 1).trans rfl; have hz2 : w7.cell? ⟨g8, 2, none⟩ = some (.slice none 0 0) := (blk_cell B8.out 2).trans rfl; have hz3 : w7.cell? ⟨g8, 3, none⟩ = some (.slice none 0 0) := (blk_cell B8.out 3).trans rfl; have hz4 : w7.cell? ⟨g8, 4, none⟩ = some (.slice none 0 0) := (blk_cell B8.out 4).trans rfl; have hf0 := blk_frozen B8.out 0; have hf1 := blk_frozen B8.out 1; have hf2 := blk_frozen B8.out 2; have hf3 := blk_frozen B8.out 3; have hf4 := blk_frozen B8.out 4) | ((with_reducible refine gate_store (t := 118) (p := 8) rfl ?_); refine store_event (t := 118) (p := 8) (v := ?vo) (w1 := (((((w7.setCell ⟨g8, 0, none⟩ (.int .i64 n0)).setCell ⟨g8, 1, none⟩ (.bool a0_1)).setCell ⟨g8, 2, none⟩ (.slice A2 l.length c2)).setCell ⟨g8, 3, none⟩ (.slice A1 F.length c1)).setCell ⟨g8, 4, none⟩ (.slice A4 n0 c4))) ?hg ?ho ?hn ?hr ?_; (case ho => rfl); (case hg => rfl); (case hn => rfl); (case hr => first | (go_simp; done) | (go_simp; rfl)); intro w9 hw; have m0_ : Aside0 (w9.heap[g8]? = some (.cells #[.int .i64 n0, .bool a0_1, .slice A2 l.length c2, .slice A1 F.length c1, .slice A4 n0 c4] 118 (0, 0))) := ⟨by rw [hw]; exact blk_put (blk_put (blk_put (blk_put (blk_put (B8.out) 0 _ rfl) 1 _ rfl) 2 _ rfl) 3 _ rfl) 4 _ rfl⟩; have m1_ : Aside0 (w9.heap[g3]? = some (.cells #[.int .i64 n0, .bool a0_1, .slice A2 l.length c2] 24 (0, 0))) := ⟨by rw [hw]; exact blk_far (blk_far (blk_far (blk_far (blk_far (B3.out) HNE.out.1 _) HNE.out.1 _) HNE.out.1 _) HNE.out.1 _) HNE.out.1 _⟩; have m2_ : Aside0 (w9.heap[g6]? = some (.cells #[.slice none 0 0, .slice none 0 0, .slice none 0 0] 109 (0, 0))) := ⟨by rw [hw]; exact blk_far (blk_far (blk_far (blk_far (blk_far (B6.out) HNE.out.2 _) HNE.out.2 _) HNE.out.2 _) HNE.out.2 _) HNE.out.2 _⟩; have m3_ : Aside0 (Below w.heap.size w w9) := ⟨by rw [hw]; exact below_set (below_set (below_set (below_set (below_set (HB.out) GE8.out) GE8.out) GE8.out) GE8.out) GE8.out⟩; have m4_ : Aside0 (Kd.S (Kd.slice 38 k38) 34 w9 w5.heap.size (fun _ => True) (.slice A4 n0 c4) (rowsAt l n0 n0)) := ⟨by rw [hw]; rw [rowsAt_len] at HS; exact Kd.S_set (Kd.S_set (Kd.S_set (Kd.S_set (Kd.S_set (HS.out) (B8.out) (by decide) 0 (.int .i64 n0)) (blk_put (B8.out) 0 (.int .i64 n0) rfl) (by decide) 1 (.bool a0_1)) (blk_put (blk_put (B8.out) 0 (.int .i64 n0) rfl) 1 (.bool a0_1) rfl) (by decide) 2 (.slice A2 l.length c2)) (blk_put (blk_put (blk_put (B8.out) 0 (.int .i64 n0) rfl) 1 (.bool a0_1) rfl) 2 (.slice A2 l.length c2) rfl) (by decide) 3 (.slice A1 F.length c1)) (blk_put (blk_put (blk_put (blk_put (B8.out) 0 (.int .i64 n0) rfl) 1 (.bool a0_1) rfl) 2 (.slice A2 l.length c2) rfl) 3 (.slice A1 F.length c1) rfl) (by decide) 4 (.slice A4 n0 c4)⟩; clear hw B8 B3 B6 HB HS HNE hz0 hz1 hz2 hz3 hz4 hf0 hf1 hf2 hf3 hf4; have B8 := m0_; have B3 := m1_; have B6 := m2_; have HB := m3_; have HS := m4_; clear m0_ m1_ m2_ m3_ m4_; have hb0 : w9.cell? ⟨g3, 0, none⟩ = some (.int .i64 n0) := (blk_cell B3.out 0).trans rfl) | fail)
  refine start_ (n := 12) (S := fun w' => w'.cell? ⟨g3, 0, none⟩ = some (.int .i64 n0)) (ds := [11]) #[false, false, false, false, false, false, false, false, false, false, false, false] (by kernel_rfl) rfl rfl hb0 (fun hHeld => ?_)
  have m_HB := Aside0.mk (below_step HB.out (below_drew (Below.refl _ _)))
  have m_B3 := Aside0.mk (blk_below B3.out (below_drew (Below.refl _ _)))
  have m_B6 := Aside0.mk (blk_below B6.out (below_drew (Below.refl _ _)))
  have m_B8 := Aside0.mk (blk_below B8.out (below_drew (Below.refl _ _)))
  have m_HS := Aside0.mk (Kd.S_below HS.out (below_drew (Below.refl _ _)))
  clear hb0 HB B3 B6 B8 HS
  have HB := m_HB
  clear m_HB
  have B3 := m_B3
  clear m_B3
  have B6 := m_B6
  clear m_B6
  have B8 := m_B8
  clear m_B8
  have HS := m_HS
  clear m_HS
  generalize w9.drew = w14 at hHeld HB B3 B6 B8 HS ⊢
  have HV := Aside0.mk (Kd.V_mono (Kd.V_bound (Kd.S_V (base' := 0) HS.out)) (fun k hk => hk.2) (ok' := fun k => k < w14.heap.size))
  clear HS
  have S14 : Aside0 (w.heap.size ≤ w14.heap.size) := ⟨HB.out.size⟩
  have L3 : Aside0 (g3 < w14.heap.size) := ⟨blk_lt B3.out⟩
  have L6 : Aside0 (g6 < w14.heap.size) := ⟨blk_lt B6.out⟩
  have L8 : Aside0 (g8 < w14.heap.size) := ⟨blk_lt B8.out⟩
  refine pure_ (i := 0) (N := some 13) (v := ?_) (a' := ?_) #[true, false, false, false, false, false, false, false, false, false, false, false] rfl rfl (by kernel_rfl) (fun _ _ _ h => h) (Or.inl ⟨by rfl, ?_⟩) ?_ ?_
  rotate_left
  · intro w'
    go_simp
    with_reducible rfl
  rotate_left
  · simp only [Act.put, List.setIfInBounds_toArray, List.set_cons_zero, List.set_cons_succ, i64_w, i32_w]
    rfl
  refine pure_ (i := 3) (N := some 16) (v := ?_) (a' := ?_) #[true, false, false, true, false, false, false, false, false, false, false, false] rfl rfl (by kernel_rfl) (fun _ _ _ h => h) (Or.inl ⟨by rfl, ?_⟩) ?_ ?_
  rotate_left
  · intro w'
    go_simp
    with_reducible rfl
  rotate_left
  · simp only [Act.put, List.setIfInBounds_toArray, List.set_cons_zero, List.set_cons_succ, i64_w, i32_w]
    rfl
  refine pure_ (i := 6) (N := some 19) (v := ?_) (a' := ?_) #[true, false, false, true, false, false, true, false, false, false, false, false] rfl rfl (by kernel_rfl) (fun _ _ _ h => h) (Or.inl ⟨by rfl, ?_⟩) ?_ ?_
  rotate_left
  · intro w'
    go_simp
    with_reducible rfl
  rotate_left
  · simp only [Act.put, List.setIfInBounds_toArray, List.set_cons_zero, List.set_cons_succ, i64_w, i32_w]
    rfl
  refine take_ (i := 1) (N := some 14) (v := ?_) (a' := ?_) #[true, true, false, true, false, false, true, false, false, false, false, false] rfl rfl (by kernel_rfl) (fun _ _ _ h => h) (Or.inl ⟨by rfl, ?_⟩) hHeld ?_ ?_
  rotate_left
  · rintro w' s0
    go_simp
    with_reducible rfl
  rotate_left
  · simp only [Act.put, List.setIfInBounds_toArray, List.set_cons_zero, List.set_cons_succ, i64_w, i32_w]
    rfl
  refine take_ (i := 4) (N := some 17) (v := ?_) (a' := ?_) #[true, true, false, true, true, false, true, false, false, false, false, false] rfl rfl (by kernel_rfl) (fun _ _ _ h => h) (Or.inl ⟨by rfl, ?_⟩) hHeld ?_ ?_
  rotate_left
  · rintro w' s0
    go_simp
    with_reducible rfl
  rotate_left
  · simp only [Act.put, List.setIfInBounds_toArray, List.set_cons_zero, List.set_cons_succ, i64_w, i32_w]
    rfl
  refine take_ (i := 7) (N := some 20) (v := ?_) (a' := ?_) #[true, true, false, true, true, false, true, true, false, false, false, false] rfl rfl (by kernel_rfl) (fun _ _ _ h => h) (Or.inl ⟨by rfl, ?_⟩) hHeld ?_ ?_
  rotate_left
  · rintro w' s0
    go_simp
    with_reducible rfl
  rotate_left
  · simp only [Act.put, List.setIfInBounds_toArray, List.set_cons_zero, List.set_cons_succ, i64_w, i32_w]
    rfl
  refine join_ (σ := Value × Value × Value × Nat) 1 #[true, true, true, true, true, true, true, true, true, true, true, false] (fun s_ => [(15, s_.1), (18, s_.2.1), (21, s_.2.2.1), (22, .agg #[s_.1, s_.2.1, s_.2.2.1]), (9, .pointer (some ⟨s_.2.2.2, 0, none⟩))]) (fun s_ w' => w'.cell? ⟨g3, 0, none⟩ = some (.int .i64 n0) ∧ Below w14.heap.size w14 w' ∧ Kd.R (Kd.int .i64) 3 w' w14.heap.size (fun _ => True) s_.1 (List.replicate n0 0) ∧ Kd.R Kd.bool 4 w' w14.heap.size (fun _ => True) s_.2.1 (List.replicate n0 false) ∧ Kd.R k38 38 w' w14.heap.size (fun _ => True) s_.2.2.1 (List.replicate n0 z38) ∧ w14.heap.size ≤ s_.2.2.2 ∧ w'.heap[s_.2.2.2]? = some (.cells #[.slice none 0 0, .slice none 0 0, .slice none 0 0] 109 (0, 0))) ?_ ?_
  rotate_left
  · intro hCont
    refine makers_ (fuel := 2) 4 #[true, true, true, true, true, true, true, true, true, false, true, false] [10] #[true, true, true, true, true, true, true, true, true, false, false, false] [⟨2, 15, (fun v w' => Kd.R (Kd.int .i64) 3 w' w14.heap.size (fun _ => True) v (List.replicate n0 0))⟩, ⟨5, 18, (fun v w' => Kd.R Kd.bool 4 w' w14.heap.size (fun _ => True) v (List.replicate n0 false))⟩, ⟨8, 21, (fun v w' => Kd.R k38 38 w' w14.heap.size (fun _ => True) v (List.replicate n0 z38))⟩, ⟨10, 9, (fun v w' => ∃ g, v = .pointer (some ⟨g, 0, none⟩) ∧ w14.heap.size ≤ g ∧ w'.heap[g]? = some (.cells #[.slice none 0 0, .slice none 0 0, .slice none 0 0] 109 (0, 0)))⟩] rfl (by simp) (by simp) ?_ ?_ (by kernel_rfl) hHeld ?_ ?_
    · intro m hm
      simp only [List.mem_cons, List.not_mem_nil, or_false] at hm
      rcases hm with rfl | rfl | rfl | rfl
      · refine ⟨_, rfl, rfl, by simp, fun a' w' K he hS hb hK => ?_⟩
        refine Kd.R_make_step (Kd.int .i64) (w0 := w') w14.heap.size 3 (by rfl) (N := 15) rfl 25 (.tmp 14) (.tmp 14) rfl (n0 : Int) ((he 14 (by simp)).trans rfl) ((he 14 (by simp)).trans rfl) Try.underlying25 (.int .i64 0) 8 info3 rfl (by decide) (by omega) 0 (ok := fun _ => True) (okp := fun _ => False) ?hz (fun _ hk => hk.elim) trivial (by omega) (by rw [Int.toNat_natCast]; omega) (Below.refl _ _) hb.size (fun v1 w1 hr hb1 hg hat => ?_)
        case hz => rfl
        rw [Int.toNat_natCast] at hr
        have hbb : Below w'.heap.size w' w1 := ⟨hg.os, hg.tape, hg.output, hg.size, fun k hk => hg.block k hk (by simp)⟩
        exact hK v1 w1 (pw_cell_below hbb hS) hbb hr
      · refine ⟨_, rfl, rfl, by simp, fun a' w' K he hS hb hK => ?_⟩
        refine Kd.R_make_step Kd.bool (w0 := w') w14.heap.size 4 (by rfl) (N := 18) rfl 26 (.tmp 17) (.tmp 17) rfl (n0 : Int) ((he 17 (by simp)).trans rfl) ((he 17 (by simp)).trans rfl) Try.underlying26 (.bool false) 1 info4 rfl (by decide) (by omega) false (ok := fun _ => True) (okp := fun _ => False) ?hz (fun _ hk => hk.elim) trivial (by omega) (by rw [Int.toNat_natCast]; omega) (Below.refl _ _) hb.size (fun v1 w1 hr hb1 hg hat => ?_)
        case hz => rfl
        rw [Int.toNat_natCast] at hr
        have hbb : Below w'.heap.size w' w1 := ⟨hg.os, hg.tape, hg.output, hg.size, fun k hk => hg.block k hk (by simp)⟩
        exact hK v1 w1 (pw_cell_below hbb hS) hbb hr
      · refine ⟨_, rfl, rfl, by simp, fun a' w' K he hS hb hK => ?_⟩
        refine Kd.R_make_step k38 (w0 := w') w14.heap.size 38 (by rfl) (N := 21) rfl 34 (.tmp 20) (.tmp 20) rfl (n0 : Int) ((he 20 (by simp)).trans rfl) ((he 20 (by simp)).trans rfl) Try.underlying34 (.agg #[(.int .i64 0), (.bool false)]) 16 info38 rfl (by decide) (by omega) z38 (ok := fun _ => True) (okp := fun _ => False) ?hz (fun _ hk => hk.elim) trivial (by omega) (by rw [Int.toNat_natCast]; omega) (Below.refl _ _) hb.size (fun v1 w1 hr hb1 hg hat => ?_)
        case hz => exact k38_mkM _ _ _ z38
        rw [Int.toNat_natCast] at hr
        have hbb : Below w'.heap.size w' w1 := ⟨hg.os, hg.tape, hg.output, hg.size, fun k hk => hg.block k hk (by simp)⟩
        exact hK v1 w1 (pw_cell_below hbb hS) hbb hr
      · refine ⟨_, rfl, rfl, by simp, fun a' w' K he hS hb hK => ?_⟩
        refine box_step ?hg (N := 9) ?hd (cs := #[.slice none 0 0, .slice none 0 0, .slice none 0 0]) (t := 109) ?hr ?_; (case hd => rfl); (case hg => rfl); (case hr => first | (go_simp; done) | (go_simp; rfl))
        intro g hg w1 hbox hbb
        exact hK _ w1 (pw_cell_below hbb hS) hbb ⟨g, rfl, by rw [hg]; exact hb.size, hbox⟩
    · intro m hm
      simp only [List.mem_cons, List.not_mem_nil, or_false] at hm
      rcases hm with rfl | rfl | rfl | rfl
      · exact fun v w1 w2 hb hg => Kd.R_below hg hb
      · exact fun v w1 w2 hb hg => Kd.R_below hg hb
      · exact fun v w1 w2 hb hg => Kd.R_below hg hb
      · rintro v w1 w2 hb ⟨g, e, h1, h2⟩
        exact ⟨g, e, h1, blk_below h2 hb⟩
    · skip
      intro vs w15 hb15 hHeld hG
      have p0 := hG _ (List.mem_cons_self ..)
      have p1 := hG _ (List.mem_cons_of_mem _ (List.mem_cons_self ..))
      have p2 := hG _ (List.mem_cons_of_mem _ (List.mem_cons_of_mem _ (List.mem_cons_self ..)))
      have p3 := hG _ (List.mem_cons_of_mem _ (List.mem_cons_of_mem _ (List.mem_cons_of_mem _ (List.mem_cons_self ..))))
      clear hG
      dsimp only at p0 p1 p2
      obtain ⟨A0, k0, e0⟩ := Kd.R_slice p0
      obtain ⟨A1_, k1, e1⟩ := Kd.R_slice p1
      obtain ⟨A2_, k2, e2⟩ := Kd.R_slice p2
      rw [List.length_replicate] at e0 e1 e2
      obtain ⟨g_, e3, p3a, p3b⟩ := p3
      dsimp only at e3
      refine norm_ (a' := ?_) ?_ ?_
      rotate_left
      · simp only [List.map_cons, List.map_nil, List.filter_cons, List.filter_nil, putAll, Act.put, List.setIfInBounds_toArray, List.set_cons_zero, List.set_cons_succ, e0, e1, e2, e3]
        rfl
      rw [e0] at p0
      rw [e1] at p1
      rw [e2] at p2
      refine pure_ (i := 9) (N := some 22) (v := ?_) (a' := ?_) #[true, true, true, true, true, true, true, true, true, true, true, false] rfl rfl (by kernel_rfl) (fun _ _ _ h => h) (Or.inl ⟨by rfl, ?_⟩) ?_ ?_
      rotate_left
      · intro w'
        go_simp
        with_reducible rfl
      rotate_left
      · simp only [Act.put, List.setIfInBounds_toArray, List.set_cons_zero, List.set_cons_succ, i64_w, i32_w]
        rfl
      exact norm_ (by (simp only [putAll, Act.put, List.setIfInBounds_toArray, List.set_cons_zero, List.set_cons_succ]) <;> rfl) (hCont (.slice A0 n0 k0, .slice A1_ n0 k1, .slice A2_ n0 k2, g_) _ ⟨hHeld, hb15, p0, p1, p2, p3a, p3b⟩)
    · skip
      intro vs w15 hb15 hHeld hG
      have p0 := hG _ (List.mem_cons_self ..) (by simp)
      have p1 := hG _ (List.mem_cons_of_mem _ (List.mem_cons_self ..)) (by simp)
      have p2 := hG _ (List.mem_cons_of_mem _ (List.mem_cons_of_mem _ (List.mem_cons_self ..))) (by simp)
      clear hG
      dsimp only at p0 p1 p2
      obtain ⟨A0, k0, e0⟩ := Kd.R_slice p0
      obtain ⟨A1_, k1, e1⟩ := Kd.R_slice p1
      obtain ⟨A2_, k2, e2⟩ := Kd.R_slice p2
      rw [List.length_replicate] at e0 e1 e2
      show wpAnyLast _ _ _ _ _ _ 3 _ _ _
      refine norm_ (a' := ?_) ?_ ?_
      rotate_left
      · show putAll _ [(15, vs 15), (18, vs 18), (21, vs 21)] = _
        simp only [e0, e1, e2, putAll, Act.put, List.setIfInBounds_toArray, List.set_cons_zero, List.set_cons_succ]
        rfl
      rw [e0] at p0
      rw [e1] at p1
      rw [e2] at p2
      refine pure_ (i := 9) (N := some 22) (v := ?_) (a' := ?_) #[true, true, true, true, true, true, true, true, true, true, false, false] rfl rfl (by kernel_rfl) (fun _ _ _ h => h) (Or.inl ⟨by rfl, ?_⟩) ?_ ?_
      rotate_left
      · intro w'
        go_simp
        with_reducible rfl
      rotate_left
      · simp only [Act.put, List.setIfInBounds_toArray, List.set_cons_zero, List.set_cons_succ, i64_w, i32_w]
        rfl
      refine one_ (i := 10) (N := some 9) #[true, true, true, true, true, true, true, true, true, true, true, false] rfl rfl (by kernel_rfl) (by decide) (fun K hK => ?_)
      refine box_step ?hg (N := 9) ?hd (cs := #[.slice none 0 0, .slice none 0 0, .slice none 0 0]) (t := 109) ?hr ?_; (case hd => rfl); (case hg => rfl); (case hr => first | (go_simp; done) | (go_simp; rfl))
      intro g_ hg w16 hbox hbb
      refine hK.out _ _ (pw_cell_below hbb hHeld) (fun hHeld => ?_)
      exact norm_ (by (simp only [putAll, Act.put, List.setIfInBounds_toArray, List.set_cons_zero, List.set_cons_succ]) <;> rfl) (hCont (.slice A0 n0 k0, .slice A1_ n0 k1, .slice A2_ n0 k2, g_) _ ⟨hHeld, below_then hb15 hb15.size hbb, Kd.R_below p0 hbb, Kd.R_below p1 hbb, Kd.R_below p2 hbb, by rw [hg]; exact hb15.size, hbox⟩)
  rintro ⟨v0, v1, v2, g9⟩ w15 ⟨hHeld, hb15, p0, p1, p2, p3a, p3b⟩
  dsimp only at p0 p1 p2 p3a p3b
  refine norm_ (a' := ?_) ?_ ?_
  rotate_left
  · simp only [putAll, Act.put, List.setIfInBounds_toArray, List.set_cons_zero, List.set_cons_succ]
    rfl
  have m_HB := Aside0.mk (below_step HB.out hb15)
  have m_B3 := Aside0.mk (blk_below B3.out hb15)
  have m_B6 := Aside0.mk (blk_below B6.out hb15)
  have m_B8 := Aside0.mk (blk_below B8.out hb15)
  have m_HV := Aside0.mk (Kd.V_below HV.out hb15)
  clear hb15 HB B3 B6 B8 HV
  have HB := m_HB
  clear m_HB
  have B3 := m_B3
  clear m_B3
  have B6 := m_B6
  clear m_B6
  have B8 := m_B8
  clear m_B8
  have HV := m_HV
  clear m_HV
  obtain ⟨gd, cd, e0, q0, q0b, _, _⟩ := Kd.R_form p0 (by rw [List.length_replicate]; exact hn0)
  obtain ⟨gi, ci, e1, q1, q1b, _, _⟩ := Kd.R_form p1 (by rw [List.length_replicate]; exact hn0)
  obtain ⟨gb, cb, e2, q2, q2b, _, _⟩ := Kd.R_form p2 (by rw [List.length_replicate]; exact hn0)
  rw [List.length_replicate] at e0 e1 e2
  subst e0
  subst e1
  subst e2
  have HP0 := Aside0.mk p0
  have HP1 := Aside0.mk p1
  have HP2 := Aside0.mk p2
  have HP3 := Aside0.mk p3b
  have GP3 := Aside0.mk p3a
  have GP0 := Aside0.mk q0
  have GP1 := Aside0.mk q1
  have GP2 := Aside0.mk q2
  clear p0 p1 p2 p3a p3b q0 q1 q2 q0b q1b q2b
  refine last_ (i := 11) (N := none) #[true, true, true, true, true, true, true, true, true, true, true, true] rfl rfl (by kernel_rfl) (by decide) (fun K hK => ?_)
  have hs0 : w15.cell? ⟨g9, 0, none⟩ = some (.slice none 0 0) := (blk_cell HP3.out 0).trans rfl
  have hfs0 := blk_frozen HP3.out 0
  have hs1 : w15.cell? ⟨g9, 1, none⟩ = some (.slice none 0 0) := (blk_cell HP3.out 1).trans rfl
  have hfs1 := blk_frozen HP3.out 1
  have hs2 : w15.cell? ⟨g9, 2, none⟩ = some (.slice none 0 0) := (blk_cell HP3.out 2).trans rfl
  have hfs2 := blk_frozen HP3.out 2
  refine skip_ (w1 := (((w15.setCell ⟨g9, 0, none⟩ (.slice (some ⟨gd, 0, none⟩) n0 cd)).setCell ⟨g9, 1, none⟩ (.slice (some ⟨gi, 0, none⟩) n0 ci)).setCell ⟨g9, 2, none⟩ (.slice (some ⟨gb, 0, none⟩) n0 cb))) (by rfl) rfl ?_ ?_
  · go_simp
  refine hK.out _ _ ?_
  clear hK K hs0 hs1 hs2 hfs0 hfs1 hfs2 hHeld
  have m0_ := Aside0.mk (Kd.R_set (Kd.R_set (Kd.R_set HP0.out HP3.out (by decide) 0 (.slice (some ⟨gd, 0, none⟩) n0 cd)) (blk_put HP3.out 0 (.slice (some ⟨gd, 0, none⟩) n0 cd) rfl) (by decide) 1 (.slice (some ⟨gi, 0, none⟩) n0 ci)) (blk_put (blk_put HP3.out 0 (.slice (some ⟨gd, 0, none⟩) n0 cd) rfl) 1 (.slice (some ⟨gi, 0, none⟩) n0 ci) rfl) (by decide) 2 (.slice (some ⟨gb, 0, none⟩) n0 cb))
  have m1_ := Aside0.mk (Kd.R_set (Kd.R_set (Kd.R_set HP1.out HP3.out (by decide) 0 (.slice (some ⟨gd, 0, none⟩) n0 cd)) (blk_put HP3.out 0 (.slice (some ⟨gd, 0, none⟩) n0 cd) rfl) (by decide) 1 (.slice (some ⟨gi, 0, none⟩) n0 ci)) (blk_put (blk_put HP3.out 0 (.slice (some ⟨gd, 0, none⟩) n0 cd) rfl) 1 (.slice (some ⟨gi, 0, none⟩) n0 ci) rfl) (by decide) 2 (.slice (some ⟨gb, 0, none⟩) n0 cb))
  have m2_ := Aside0.mk (Kd.R_set (Kd.R_set (Kd.R_set HP2.out HP3.out (by decide) 0 (.slice (some ⟨gd, 0, none⟩) n0 cd)) (blk_put HP3.out 0 (.slice (some ⟨gd, 0, none⟩) n0 cd) rfl) (by decide) 1 (.slice (some ⟨gi, 0, none⟩) n0 ci)) (blk_put (blk_put HP3.out 0 (.slice (some ⟨gd, 0, none⟩) n0 cd) rfl) 1 (.slice (some ⟨gi, 0, none⟩) n0 ci) rfl) (by decide) 2 (.slice (some ⟨gb, 0, none⟩) n0 cb))
  have m3_ := Aside0.mk (blk_put (blk_put (blk_put HP3.out 0 (.slice (some ⟨gd, 0, none⟩) n0 cd) rfl) 1 (.slice (some ⟨gi, 0, none⟩) n0 ci) rfl) 2 (.slice (some ⟨gb, 0, none⟩) n0 cb) rfl)
  clear m0_ m1_ m2_ m3_
  obtain ⟨w16, hw16⟩ : ∃ x_, x_ = (((w15.setCell ⟨g9, 0, none⟩ (.slice (some ⟨gd, 0, none⟩) n0 cd)).setCell ⟨g9, 1, none⟩ (.slice (some ⟨gi, 0, none⟩) n0 ci)).setCell ⟨g9, 2, none⟩ (.slice (some ⟨gb, 0, none⟩) n0 cb)) := ⟨_, rfl⟩
  have m0_ : Aside0 (Kd.R (Kd.int .i64) 3 w16 w14.heap.size (fun _ => True) (.slice (some ⟨gd, 0, none⟩) n0 cd) (List.replicate n0 0)) := ⟨by rw [hw16]; exact Kd.R_set (Kd.R_set (Kd.R_set (HP0.out) (HP3.out) (by decide) 0 (.slice (some ⟨gd, 0, none⟩) n0 cd)) (blk_put (HP3.out) 0 (.slice (some ⟨gd, 0, none⟩) n0 cd) rfl) (by decide) 1 (.slice (some ⟨gi, 0, none⟩) n0 ci)) (blk_put (blk_put (HP3.out) 0 (.slice (some ⟨gd, 0, none⟩) n0 cd) rfl) 1 (.slice (some ⟨gi, 0, none⟩) n0 ci) rfl) (by decide) 2 (.slice (some ⟨gb, 0, none⟩) n0 cb)⟩
  have m1_ : Aside0 (Kd.R Kd.bool 4 w16 w14.heap.size (fun _ => True) (.slice (some ⟨gi, 0, none⟩) n0 ci) (List.replicate n0 false)) := ⟨by rw [hw16]; exact Kd.R_set (Kd.R_set (Kd.R_set (HP1.out) (HP3.out) (by decide) 0 (.slice (some ⟨gd, 0, none⟩) n0 cd)) (blk_put (HP3.out) 0 (.slice (some ⟨gd, 0, none⟩) n0 cd) rfl) (by decide) 1 (.slice (some ⟨gi, 0, none⟩) n0 ci)) (blk_put (blk_put (HP3.out) 0 (.slice (some ⟨gd, 0, none⟩) n0 cd) rfl) 1 (.slice (some ⟨gi, 0, none⟩) n0 ci) rfl) (by decide) 2 (.slice (some ⟨gb, 0, none⟩) n0 cb)⟩
  have m2_ : Aside0 (Kd.R k38 38 w16 w14.heap.size (fun _ => True) (.slice (some ⟨gb, 0, none⟩) n0 cb) (List.replicate n0 z38)) := ⟨by rw [hw16]; exact Kd.R_set (Kd.R_set (Kd.R_set (HP2.out) (HP3.out) (by decide) 0 (.slice (some ⟨gd, 0, none⟩) n0 cd)) (blk_put (HP3.out) 0 (.slice (some ⟨gd, 0, none⟩) n0 cd) rfl) (by decide) 1 (.slice (some ⟨gi, 0, none⟩) n0 ci)) (blk_put (blk_put (HP3.out) 0 (.slice (some ⟨gd, 0, none⟩) n0 cd) rfl) 1 (.slice (some ⟨gi, 0, none⟩) n0 ci) rfl) (by decide) 2 (.slice (some ⟨gb, 0, none⟩) n0 cb)⟩
  have m3_ : Aside0 (w16.heap[g9]? = some (.cells #[.slice (some ⟨gd, 0, none⟩) n0 cd, .slice (some ⟨gi, 0, none⟩) n0 ci, .slice (some ⟨gb, 0, none⟩) n0 cb] 109 (0, 0))) := ⟨by rw [hw16]; exact blk_put (blk_put (blk_put (HP3.out) 0 (.slice (some ⟨gd, 0, none⟩) n0 cd) rfl) 1 (.slice (some ⟨gi, 0, none⟩) n0 ci) rfl) 2 (.slice (some ⟨gb, 0, none⟩) n0 cb) rfl⟩
  have m4_ : Aside0 (w16.heap[g3]? = some (.cells #[.int .i64 n0, .bool a0_1, .slice A2 l.length c2] 24 (0, 0))) := ⟨by rw [hw16]; exact blk_far (blk_far (blk_far B3.out (by show _ ≠ g9; have := L3.out; have := GP3.out; omega) _) (by show _ ≠ g9; have := L3.out; have := GP3.out; omega) _) (by show _ ≠ g9; have := L3.out; have := GP3.out; omega) _⟩
  have m5_ : Aside0 (w16.heap[g6]? = some (.cells #[.slice none 0 0, .slice none 0 0, .slice none 0 0] 109 (0, 0))) := ⟨by rw [hw16]; exact blk_far (blk_far (blk_far B6.out (by show _ ≠ g9; have := L6.out; have := GP3.out; omega) _) (by show _ ≠ g9; have := L6.out; have := GP3.out; omega) _) (by show _ ≠ g9; have := L6.out; have := GP3.out; omega) _⟩
  have m6_ : Aside0 (w16.heap[g8]? = some (.cells #[.int .i64 n0, .bool a0_1, .slice A2 l.length c2, .slice A1 F.length c1, .slice A4 n0 c4] 118 (0, 0))) := ⟨by rw [hw16]; exact blk_far (blk_far (blk_far B8.out (by show _ ≠ g9; have := L8.out; have := GP3.out; omega) _) (by show _ ≠ g9; have := L8.out; have := GP3.out; omega) _) (by show _ ≠ g9; have := L8.out; have := GP3.out; omega) _⟩
  have m7_ : Aside0 (Kd.V (Kd.slice 38 k38) 34 w16 0 (fun k => k < w14.heap.size) (.slice A4 n0 c4) (rowsAt l n0 n0)) := ⟨by rw [hw16]; exact Kd.V_far (p := ⟨g9, 2, none⟩) (Kd.V_far (p := ⟨g9, 1, none⟩) (Kd.V_far (p := ⟨g9, 0, none⟩) (HV.out) (fun k hk => by show k ≠ g9; have := GP3.out; omega) (.slice (some ⟨gd, 0, none⟩) n0 cd)) (fun k hk => by show k ≠ g9; have := GP3.out; omega) (.slice (some ⟨gi, 0, none⟩) n0 ci)) (fun k hk => by show k ≠ g9; have := GP3.out; omega) (.slice (some ⟨gb, 0, none⟩) n0 cb)⟩
  have m8_ : Aside0 (Below w.heap.size w w16) := ⟨by rw [hw16]; exact below_set (below_set (below_set HB.out (Nat.le_trans S14.out GP3.out)) (Nat.le_trans S14.out GP3.out)) (Nat.le_trans S14.out GP3.out)⟩
  have G69 : Aside0 (g6 ≠ g9 ∧ g8 ≠ g9 ∧ g3 ≠ g9) := ⟨by have := L6.out; have := L8.out; have := L3.out; have := GP3.out; exact ⟨by omega, by omega, by omega⟩⟩
  rw [← hw16]
  clear hw16 HP0 HP1 HP2 HP3 B3 B6 B8 HV HB
  have HD := m0_
  clear m0_
  have HI := m1_
  clear m1_
  have HQ := m2_
  clear m2_
  have B9 := m3_
  clear m3_
  have B3 := m4_
  clear m4_
  have B6 := m5_
  clear m5_
  have B8 := m6_
  clear m6_
  have HV := m7_
  clear m7_
  have HB := m8_
  clear m8_
  refine done_ (by kernel_rfl) ?_
  have hq1 : w16.cell? ⟨g9, 1, none⟩ = some (.slice (some ⟨gi, 0, none⟩) n0 ci) := (blk_cell B9.out 1).trans rfl
  have hps : 0 ≤ (s : Int) := by omega
  have hqs : (s : Int) < (n0 : Int) := by omega
  obtain ⟨ads, eas, hcs⟩ := Kd.at_bool (Kd.R_reads' HI.out).2.2 (s : Int) hps (by rw [List.length_replicate]; exact hqs)
  cases eas
  simp only [Int.toNat_natCast, add_plain] at hcs
  obtain ⟨_, _, _, _, hfs_⟩ := Kd.R_elem HI.out false (s : Int) hps hqs
  have hfs := hfs_ 0
  simp only [Int.toNat_natCast, Nat.add_zero] at hfs
  (try rw [show Kd.bool.sz = 1 from rfl, Nat.mul_one] at hfs)
  clear hfs_
  go_wp2_with fail
  obtain ⟨w17, hw⟩ : ∃ x_, x_ = (w16.setCell ⟨gi, s, none⟩ (.bool true)) := ⟨_, rfl⟩
  rw [← hw]
  have P_ := Kd.R_putg HI.out (s : Int) true
  simp only [Int.toNat_natCast] at P_
  have hg : w16.grownBy w17 (some gi) := (by rw [hw]; exact P_.2)
  have m1_ : Aside0 (Kd.R Kd.bool 4 w17 w14.heap.size (fun _ => True) (.slice (some ⟨gi, 0, none⟩) n0 ci) ((List.replicate n0 false).set s true)) := ⟨by rw [hw]; exact P_.1⟩
  have m0_ := Aside0.mk (Kd.R_over' HD.out (Kd.R_typed HI.out) (by decide) hg)
  have m2_ := Aside0.mk (Kd.R_over' HQ.out (Kd.R_typed HI.out) (by decide) hg)
  have m3_ := Aside0.mk (blk_grown B9.out hg (Kd.R_ne HI.out B9.out (by decide)))
  have m4_ := Aside0.mk (blk_grown B3.out hg (Kd.R_ne HI.out B3.out (by decide)))
  have m5_ := Aside0.mk (blk_grown B6.out hg (Kd.R_ne HI.out B6.out (by decide)))
  have m6_ := Aside0.mk (blk_grown B8.out hg (Kd.R_ne HI.out B8.out (by decide)))
  have m7_ := Aside0.mk (Kd.V_grown HV.out hg (fun k hk he => by injection he with he; have := GP1.out; omega))
  have m8_ := Aside0.mk (HB.out.grown hg HB.out.size (fun k hk => by injection hk with hk; subst hk; exact Nat.le_trans S14.out GP1.out))
  clear hw hg P_ HD HI HQ B9 B3 B6 B8 HV HB hq1 hcs hfs
  have HD := m0_
  clear m0_
  have HI := m1_
  clear m1_
  have HQ := m2_
  clear m2_
  have B9 := m3_
  clear m3_
  have B3 := m4_
  clear m4_
  have B6 := m5_
  clear m5_
  have B8 := m6_
  clear m6_
  have HV := m7_
  clear m7_
  have HB := m8_
  clear m8_
  refine start_ (n := 6) (S := fun w' => w'.cell? ⟨g9, 0, none⟩ = some (.slice (some ⟨gd, 0, none⟩) n0 cd) ∧ w'.cell? ⟨g9, 1, none⟩ = some (.slice (some ⟨gi, 0, none⟩) n0 ci) ∧ w'.cell? ⟨g9, 2, none⟩ = some (.slice (some ⟨gb, 0, none⟩) n0 cb) ∧ w'.cell? ⟨g8, 0, none⟩ = some (.int .i64 n0) ∧ w'.cell? ⟨g8, 1, none⟩ = some (.bool a0_1) ∧ w'.cell? ⟨g8, 2, none⟩ = some (.slice A2 l.length c2) ∧ w'.cell? ⟨g8, 3, none⟩ = some (.slice A1 F.length c1) ∧ w'.cell? ⟨g8, 4, none⟩ = some (.slice A4 n0 c4)) (ds := [4]) #[false, false, false, false, false, false] (by kernel_rfl) rfl rfl ⟨(blk_cell B9.out 0).trans rfl, (blk_cell B9.out 1).trans rfl, (blk_cell B9.out 2).trans rfl, (blk_cell B8.out 0).trans rfl, (blk_cell B8.out 1).trans rfl, (blk_cell B8.out 2).trans rfl, (blk_cell B8.out 3).trans rfl, (blk_cell B8.out 4).trans rfl⟩ (fun hHeld => ?_)
  have m0_ := Aside0.mk (Kd.R_drew HD.out)
  have m1_ := Aside0.mk (Kd.R_drew HI.out)
  have m2_ := Aside0.mk (Kd.R_drew HQ.out)
  have m3_ := Aside0.mk (blk_below B9.out (below_drew (Below.refl _ _)))
  have m4_ := Aside0.mk (blk_below B6.out (below_drew (Below.refl _ _)))
  have m5_ := Aside0.mk (blk_below B8.out (below_drew (Below.refl _ _)))
  have m6_ := Aside0.mk (Kd.V_drew HV.out)
  have m7_ := Aside0.mk (below_drew HB.out)
  clear HD HI HQ B9 B6 B8 HV HB
  have HD := m0_
  clear m0_
  have HI := m1_
  clear m1_
  have HQ := m2_
  clear m2_
  have B9 := m3_
  clear m3_
  have B6 := m4_
  clear m4_
  have B8 := m5_
  clear m5_
  have HV := m6_
  clear m6_
  have HB := m7_
  clear m7_
  clear B3
  generalize w17.drew = w18 at hHeld HD HI HQ B9 B6 B8 HV HB ⊢
  refine take_ (i := 0) (N := some 27) (v := ?_) (a' := ?_) #[true, false, false, false, false, false] rfl rfl (by kernel_rfl) (fun _ _ _ h => h) (Or.inl ⟨by rfl, ?_⟩) hHeld ?_ ?_
  rotate_left
  · rintro w' ⟨s0, s1, s2, s3, s4, s5, s6, s7⟩
    go_simp
    with_reducible rfl
  rotate_left
  · simp only [Act.put, List.setIfInBounds_toArray, List.set_cons_zero, List.set_cons_succ, i64_w, i32_w]
    rfl
  refine take_ (i := 1) (N := some 28) (v := ?_) (a' := ?_) #[true, true, false, false, false, false] rfl rfl (by kernel_rfl) (fun _ _ _ h => h) (Or.inl ⟨by rfl, ?_⟩) hHeld ?_ ?_
  rotate_left
  · rintro w' ⟨s0, s1, s2, s3, s4, s5, s6, s7⟩
    go_simp
    with_reducible rfl
  rotate_left
  · simp only [Act.put, List.setIfInBounds_toArray, List.set_cons_zero, List.set_cons_succ, i64_w, i32_w]
    rfl
  refine take_ (i := 2) (N := some 29) (v := ?_) (a' := ?_) #[true, true, true, false, false, false] rfl rfl (by kernel_rfl) (fun _ _ _ h => h) (Or.inl ⟨by rfl, ?_⟩) hHeld ?_ ?_
  rotate_left
  · rintro w' ⟨s0, s1, s2, s3, s4, s5, s6, s7⟩
    go_simp
    with_reducible rfl
  rotate_left
  · simp only [Act.put, List.setIfInBounds_toArray, List.set_cons_zero, List.set_cons_succ, i64_w, i32_w]
    rfl
  refine one_ (i := 3) (N := some 30) #[true, true, true, true, false, false] rfl rfl (by kernel_rfl) (by decide) (fun K hK => ?_)
  refine goes_ Try.func100 (by kernel_rfl) rfl #[.agg #[.int .i64 n0, .bool a0_1, .slice A2 l.length c2, .slice A1 F.length c1, .slice A4 n0 c4], .agg #[.slice (some ⟨gd, 0, none⟩) n0 cd, .slice (some ⟨gi, 0, none⟩) n0 ci, .slice (some ⟨gb, 0, none⟩) n0 cb]] (by rfl) rfl rfl (by (try simp only [List.map_toArray, List.map_cons, List.map_nil]); first | done | rfl) ?_
  refine (settled_calls n0 a0_1 A2 c2 l A1 c1 F A4 c4 gd gi gb cd ci cb w14.heap.size (startR n0 s) w18 HR.out (startR_ok n0 s) (bd_zero n0) HC2.out HC1.out (Kd.F_mono (Kd.F_below (Kd.C_F heap74 H2.out) HB.out) (fun k hk => ⟨by have := S14.out; have := GP0.out; omega, by have := S14.out; have := GP1.out; omega, by have := S14.out; have := GP2.out; omega⟩)) (Kd.F_mono (Kd.F_below (Kd.C_F (Kd.heap_int _) H3.out) HB.out) (fun k hk => ⟨by have := S14.out; have := GP0.out; omega, by have := S14.out; have := GP1.out; omega, by have := S14.out; have := GP2.out; omega⟩)) (Kd.V_mono HV.out (fun k hk => ⟨by have := GP0.out; omega, by have := GP1.out; omega, by have := GP2.out; omega⟩)) HD.out HI.out HQ.out).mono ?_
  rw [← HXT.out]
  rintro e w19 ⟨rfl, hkp, hd, hi, hq⟩
  refine ⟨_, rfl, ?_⟩
  have m_ := Aside0.mk ((hkp.block _ (blk_lt B9.out) (fun e => Kd.R_ne HD.out B9.out (by decide) (congrArg some e)) (fun e => Kd.R_ne HI.out B9.out (by decide) (congrArg some e)) (fun e => Kd.R_ne HQ.out B9.out (by decide) (congrArg some e))).trans B9.out)
  clear B9
  have B9 := m_
  clear m_
  have m_ := Aside0.mk ((hkp.block _ (blk_lt B6.out) (fun e => Kd.R_ne HD.out B6.out (by decide) (congrArg some e)) (fun e => Kd.R_ne HI.out B6.out (by decide) (congrArg some e)) (fun e => Kd.R_ne HQ.out B6.out (by decide) (congrArg some e))).trans B6.out)
  clear B6
  have B6 := m_
  clear m_
  have m_ := Aside0.mk ((hkp.block _ (blk_lt B8.out) (fun e => Kd.R_ne HD.out B8.out (by decide) (congrArg some e)) (fun e => Kd.R_ne HI.out B8.out (by decide) (congrArg some e)) (fun e => Kd.R_ne HQ.out B8.out (by decide) (congrArg some e))).trans B8.out)
  clear B8
  have B8 := m_
  clear m_
  have m_ := Aside0.mk (hkp.toBelow HB.out HB.out.size (Nat.le_trans S14.out GP0.out) (Nat.le_trans S14.out GP1.out) (Nat.le_trans S14.out GP2.out))
  clear HB HD HI HQ HV hkp
  have HB := m_
  clear m_
  have HD := Aside0.mk hd
  have HI := Aside0.mk hi
  have HQ := Aside0.mk hq
  clear hd hi hq
  refine hK.out _ _ ⟨(blk_cell B9.out 0).trans rfl, (blk_cell B9.out 1).trans rfl, (blk_cell B9.out 2).trans rfl, (blk_cell B8.out 0).trans rfl, (blk_cell B8.out 1).trans rfl, (blk_cell B8.out 2).trans rfl, (blk_cell B8.out 3).trans rfl, (blk_cell B8.out 4).trans rfl⟩ (fun hHeld => ?_)
  clear hK K
  refine norm_ (a' := ?_) ?_ ?_
  rotate_left
  · show Act.put _ (some 30) _ = _
    simp only [Act.put, List.setIfInBounds_toArray, List.set_cons_zero, List.set_cons_succ, i64_w, i32_w]
    rfl
  refine last_ (i := 4) (N := none) #[true, true, true, true, true, false] rfl rfl (by kernel_rfl) (by decide) (fun K hK => ?_)
  have hs0 : w19.cell? ⟨g6, 0, none⟩ = some (.slice none 0 0) := (blk_cell B6.out 0).trans rfl
  have hfs0 := blk_frozen B6.out 0
  have hs1 : w19.cell? ⟨g6, 1, none⟩ = some (.slice none 0 0) := (blk_cell B6.out 1).trans rfl
  have hfs1 := blk_frozen B6.out 1
  have hs2 : w19.cell? ⟨g6, 2, none⟩ = some (.slice none 0 0) := (blk_cell B6.out 2).trans rfl
  have hfs2 := blk_frozen B6.out 2
  refine skip_ (w1 := (((w19.setCell ⟨g6, 0, none⟩ (.slice (some ⟨gd, 0, none⟩) n0 cd)).setCell ⟨g6, 1, none⟩ (.slice (some ⟨gi, 0, none⟩) n0 ci)).setCell ⟨g6, 2, none⟩ (.slice (some ⟨gb, 0, none⟩) n0 cb))) (by rfl) rfl ?_ ?_
  · go_simp
  refine hK.out _ _ ?_
  clear hK K hs0 hs1 hs2 hfs0 hfs1 hfs2 hHeld
  refine pure_ (i := 5) (N := some 7) (v := ?_) (a' := ?_) #[true, true, true, true, true, true] rfl rfl (by kernel_rfl) (fun _ _ _ h => h) (Or.inl ⟨by rfl, ?_⟩) ?_ ?_
  rotate_left
  · intro w'
    go_simp
    with_reducible rfl
  rotate_left
  · simp only [Act.put, List.setIfInBounds_toArray, List.set_cons_zero, List.set_cons_succ, i64_w, i32_w]
    rfl
  refine done_ (by kernel_rfl) ?_
  go_wp2_with fail
  refine bodyPost_ret (results_ct rfl _ _ g6 109 #[.slice (some ⟨gd, 0, none⟩) n0 cd, .slice (some ⟨gi, 0, none⟩) n0 ci, .slice (some ⟨gb, 0, none⟩) n0 cb] (0, 0) _ rfl (blk_put (blk_put (blk_put (B6.out) 0 (.slice (some ⟨gd, 0, none⟩) n0 cd) rfl) 1 (.slice (some ⟨gi, 0, none⟩) n0 ci) rfl) 2 (.slice (some ⟨gb, 0, none⟩) n0 cb) rfl) Try.underlying109 rfl (by kernel_rfl)) rfl ?_
  exact ⟨_, _, _, rfl, Kd.R_lower (Kd.R_set (Kd.R_set (Kd.R_set (HD.out) (B6.out) (by decide) 0 (.slice (some ⟨gd, 0, none⟩) n0 cd)) (blk_put (B6.out) 0 (.slice (some ⟨gd, 0, none⟩) n0 cd) rfl) (by decide) 1 (.slice (some ⟨gi, 0, none⟩) n0 ci)) (blk_put (blk_put (B6.out) 0 (.slice (some ⟨gd, 0, none⟩) n0 cd) rfl) 1 (.slice (some ⟨gi, 0, none⟩) n0 ci) rfl) (by decide) 2 (.slice (some ⟨gb, 0, none⟩) n0 cb)) S14.out, Kd.R_lower (Kd.R_set (Kd.R_set (Kd.R_set (HI.out) (B6.out) (by decide) 0 (.slice (some ⟨gd, 0, none⟩) n0 cd)) (blk_put (B6.out) 0 (.slice (some ⟨gd, 0, none⟩) n0 cd) rfl) (by decide) 1 (.slice (some ⟨gi, 0, none⟩) n0 ci)) (blk_put (blk_put (B6.out) 0 (.slice (some ⟨gd, 0, none⟩) n0 cd) rfl) 1 (.slice (some ⟨gi, 0, none⟩) n0 ci) rfl) (by decide) 2 (.slice (some ⟨gb, 0, none⟩) n0 cb)) S14.out, Kd.R_lower (Kd.R_set (Kd.R_set (Kd.R_set (HQ.out) (B6.out) (by decide) 0 (.slice (some ⟨gd, 0, none⟩) n0 cd)) (blk_put (B6.out) 0 (.slice (some ⟨gd, 0, none⟩) n0 cd) rfl) (by decide) 1 (.slice (some ⟨gi, 0, none⟩) n0 ci)) (blk_put (blk_put (B6.out) 0 (.slice (some ⟨gd, 0, none⟩) n0 cd) rfl) 1 (.slice (some ⟨gi, 0, none⟩) n0 ci) rfl) (by decide) 2 (.slice (some ⟨gb, 0, none⟩) n0 cb)) S14.out, below_set (below_set (below_set HB.out GE6.out) GE6.out) GE6.out⟩
end Go.Proofs.Ytkcpanpdipmmmaa.H

/- cost.Far: its three ends. -/
set_option linter.unusedVariables false
set_option linter.unusedSimpArgs false
namespace Go.Proofs.Ytkcpanpdipmmmaa.H
open Go.RowKit Go.Proofs.YtkcpanpdipmmmaaW.PrintWords Go.Proofs.YtkcpanpdipmmmaaW.PrintLast Go.Proofs.YtkcpanpdipmmmaaW.PrintMore Go.Proofs.Ytkcpanpdipmmmaa.P
set_option maxHeartbeats 1000000 in
set_option maxRecDepth 100000 in
theorem far_no (k : Nat) (a0_0 : Int) (a0_1 : Bool) (A2 : Option Addr) (c2 : Nat) (l : List S74) (A1 : Option Addr) (c1 : Nat) (F : List Int) (a2 t : Int) (w : World) (h2 : Kd.C k74 w A2 l.length l) (hc2 : l.length ≤ c2) (h3 : Kd.C (Kd.int .i64) w A1 F.length F) (hc1 : F.length ≤ c1) (hA : static_Asked.f k a0_0 a0_1 l F = some t) (ht : t ≠ 0) :
    Calls Try.prog 38 #[.agg #[.int .i64 a0_0, .bool a0_1, .slice A2 l.length c2], .slice A1 F.length c1, .int .i64 a2] w fun e w' => e = .returned (.tuple #[.slice none 0 0, .slice none 0 0, .int .i64 t]) ∧ Below w.heap.size w w' := by
  have hu24 := Try.underlying24
  have H2 := Aside0.mk h2
  have H3 := Aside0.mk h3
  have HC2 := Aside0.mk hc2
  have HC1 := Aside0.mk hc1
  have HA := Aside0.mk hA
  clear h2 h3 hc2 hc1 hA
  have HB := Aside0.mk (Below.refl w.heap.size w)
  have e1 : (t != 0) = true := by rw [bne_iff_ne]; exact ht
  have e2 : decide (t = 0) = false := decide_eq_false ht
  clear ht
  go_enter Try.func38, Try.ntmps38
  go_wp2_with (first | ((with_reducible refine gate_dst (N := 3) rfl ?_); refine box_event ?hg (N := 3) ?hd (cs := #[.int .i64 a0_0, .bool a0_1, .slice A2 l.length c2]) (t := 24) ?hr ?_; (case hd => rfl); (case hg => rfl); (case hr => first | (go_simp; done) | (go_simp; rfl)); intro g3 hg w4 hbox hb; have n0_ := Aside0.mk (below_step HB.out hb); have B3 := Aside0.mk hbox; clear HB; have HB := n0_; clear n0_ hb hbox hg; have hb0 : w4.cell? ⟨g3, 0, none⟩ = some (.int .i64 a0_0) := (blk_cell B3.out 0).trans rfl; have hb1 : w4.cell? ⟨g3, 1, none⟩ = some (.bool a0_1) := (blk_cell B3.out 1).trans rfl; have hb2 : w4.cell? ⟨g3, 2, none⟩ = some (.slice A2 l.length c2) := (blk_cell B3.out 2).trans rfl) | (go_at_call 96; refine (static_Asked.calls k a0_0 a0_1 A2 c2 l A1 c1 F t _ (Kd.C_below H2.out HB.out) HC2.out (Kd.C_below H3.out HB.out) HC1.out HA.out).mono ?_; rintro e_ w5 ⟨rfl, hb⟩; have n0_ := Aside0.mk (below_step HB.out hb); have n1_ := Aside0.mk (blk_below B3.out hb); clear HB B3 hb0 hb1 hb2 hb; have HB := n0_; have B3 := n1_; clear n0_ n1_; have hb0 : w5.cell? ⟨g3, 0, none⟩ = some (.int .i64 a0_0) := (blk_cell B3.out 0).trans rfl; have hb1 : w5.cell? ⟨g3, 1, none⟩ = some (.bool a0_1) := (blk_cell B3.out 1).trans rfl; have hb2 : w5.cell? ⟨g3, 2, none⟩ = some (.slice A2 l.length c2) := (blk_cell B3.out 2).trans rfl) | fail)
  first | go_ret | go_ret2 | go_ret3
  exact ⟨rfl, HB.out⟩
set_option maxHeartbeats 1000000 in
set_option maxRecDepth 100000 in
theorem far_arg (k : Nat) (a0_0 : Int) (a0_1 : Bool) (A2 : Option Addr) (c2 : Nat) (l : List S74) (A1 : Option Addr) (c1 : Nat) (F : List Int) (a2 : Int) (w : World) (h2 : Kd.C k74 w A2 l.length l) (hc2 : l.length ≤ c2) (h3 : Kd.C (Kd.int .i64) w A1 F.length F) (hc1 : F.length ≤ c1) (hA : static_Asked.f k a0_0 a0_1 l F = some 0) (hs : ¬ (0 ≤ a2 ∧ a2 < a0_0)) :
    Calls Try.prog 38 #[.agg #[.int .i64 a0_0, .bool a0_1, .slice A2 l.length c2], .slice A1 F.length c1, .int .i64 a2] w fun e w' => e = .returned (.tuple #[.slice none 0 0, .slice none 0 0, .int .i64 1]) ∧ Below w.heap.size w w' := by
  have hu24 := Try.underlying24
  have H2 := Aside0.mk h2
  have H3 := Aside0.mk h3
  have HC2 := Aside0.mk hc2
  have HC1 := Aside0.mk hc1
  have HA := Aside0.mk hA
  clear h2 h3 hc2 hc1 hA
  have HB := Aside0.mk (Below.refl w.heap.size w)
  go_enter Try.func38, Try.ntmps38
  by_cases h0 : a2 < 0
  · have e1 : decide (a2 < 0) = true := decide_eq_true h0
    clear hs h0
    go_wp2_with (first | ((with_reducible refine gate_dst (N := 3) rfl ?_); refine box_event ?hg (N := 3) ?hd (cs := #[.int .i64 a0_0, .bool a0_1, .slice A2 l.length c2]) (t := 24) ?hr ?_; (case hd => rfl); (case hg => rfl); (case hr => first | (go_simp; done) | (go_simp; rfl)); intro g3 hg w4 hbox hb; have n0_ := Aside0.mk (below_step HB.out hb); have B3 := Aside0.mk hbox; clear HB; have HB := n0_; clear n0_ hb hbox hg; have hb0 : w4.cell? ⟨g3, 0, none⟩ = some (.int .i64 a0_0) := (blk_cell B3.out 0).trans rfl; have hb1 : w4.cell? ⟨g3, 1, none⟩ = some (.bool a0_1) := (blk_cell B3.out 1).trans rfl; have hb2 : w4.cell? ⟨g3, 2, none⟩ = some (.slice A2 l.length c2) := (blk_cell B3.out 2).trans rfl) | (go_at_call 96; refine (static_Asked.calls k a0_0 a0_1 A2 c2 l A1 c1 F 0 _ (Kd.C_below H2.out HB.out) HC2.out (Kd.C_below H3.out HB.out) HC1.out HA.out).mono ?_; rintro e_ w5 ⟨rfl, hb⟩; have n0_ := Aside0.mk (below_step HB.out hb); have n1_ := Aside0.mk (blk_below B3.out hb); clear HB B3 hb0 hb1 hb2 hb; have HB := n0_; have B3 := n1_; clear n0_ n1_; have hb0 : w5.cell? ⟨g3, 0, none⟩ = some (.int .i64 a0_0) := (blk_cell B3.out 0).trans rfl; have hb1 : w5.cell? ⟨g3, 1, none⟩ = some (.bool a0_1) := (blk_cell B3.out 1).trans rfl; have hb2 : w5.cell? ⟨g3, 2, none⟩ = some (.slice A2 l.length c2) := (blk_cell B3.out 2).trans rfl) | fail)
    first | go_ret | go_ret2 | go_ret3
    exact ⟨rfl, HB.out⟩
  · have e1 : decide (a2 < 0) = false := decide_eq_false h0
    have e2 : decide (a0_0 ≤ a2) = true := decide_eq_true (by omega)
    clear hs h0
    go_wp2_with (first | ((with_reducible refine gate_dst (N := 3) rfl ?_); refine box_event ?hg (N := 3) ?hd (cs := #[.int .i64 a0_0, .bool a0_1, .slice A2 l.length c2]) (t := 24) ?hr ?_; (case hd => rfl); (case hg => rfl); (case hr => first | (go_simp; done) | (go_simp; rfl)); intro g3 hg w4 hbox hb; have n0_ := Aside0.mk (below_step HB.out hb); have B3 := Aside0.mk hbox; clear HB; have HB := n0_; clear n0_ hb hbox hg; have hb0 : w4.cell? ⟨g3, 0, none⟩ = some (.int .i64 a0_0) := (blk_cell B3.out 0).trans rfl; have hb1 : w4.cell? ⟨g3, 1, none⟩ = some (.bool a0_1) := (blk_cell B3.out 1).trans rfl; have hb2 : w4.cell? ⟨g3, 2, none⟩ = some (.slice A2 l.length c2) := (blk_cell B3.out 2).trans rfl) | (go_at_call 96; refine (static_Asked.calls k a0_0 a0_1 A2 c2 l A1 c1 F 0 _ (Kd.C_below H2.out HB.out) HC2.out (Kd.C_below H3.out HB.out) HC1.out HA.out).mono ?_; rintro e_ w5 ⟨rfl, hb⟩; have n0_ := Aside0.mk (below_step HB.out hb); have n1_ := Aside0.mk (blk_below B3.out hb); clear HB B3 hb0 hb1 hb2 hb; have HB := n0_; have B3 := n1_; clear n0_ n1_; have hb0 : w5.cell? ⟨g3, 0, none⟩ = some (.int .i64 a0_0) := (blk_cell B3.out 0).trans rfl; have hb1 : w5.cell? ⟨g3, 1, none⟩ = some (.bool a0_1) := (blk_cell B3.out 1).trans rfl; have hb2 : w5.cell? ⟨g3, 2, none⟩ = some (.slice A2 l.length c2) := (blk_cell B3.out 2).trans rfl) | fail)
    first | go_ret | go_ret2 | go_ret3
    exact ⟨rfl, HB.out⟩
set_option maxHeartbeats 1000000 in
set_option maxRecDepth 100000 in
theorem far_ok (k : Nat) (n0 : Nat) (a0_1 : Bool) (A2 : Option Addr) (c2 : Nat) (l : List S74) (A1 : Option Addr) (c1 : Nat) (F : List Int) (s : Nat) (w : World) (hR : Right l F n0) (hs : s < n0) (h2 : Kd.C k74 w A2 l.length l) (hc2 : l.length ≤ c2) (h3 : Kd.C (Kd.int .i64) w A1 F.length F) (hc1 : F.length ≤ c1) (hA : static_Asked.f k (n0 : Int) a0_1 l F = some 0) :
    Calls Try.prog 38 #[.agg #[.int .i64 n0, .bool a0_1, .slice A2 l.length c2], .slice A1 F.length c1, .int .i64 s] w fun e w' => ∃ v0 v1 : Value, ((goesR l F n0 (n0 + 1) (startR n0 s)).2 = true ∧ e = .returned (.tuple #[v0, v1, .int .i64 0]) ∧ Kd.R (Kd.int .i64) 3 w' w.heap.size (fun _ => True) v0 (goesR l F n0 (n0 + 1) (startR n0 s)).1.D ∧ Kd.R Kd.bool 4 w' w.heap.size (fun _ => True) v1 (goesR l F n0 (n0 + 1) (startR n0 s)).1.I ∨ (goesR l F n0 (n0 + 1) (startR n0 s)).2 = false ∧ e = .returned (.tuple #[.slice none 0 0, .slice none 0 0, .int .i64 110])) ∧ Below w.heap.size w w' := by
  have hu24 := Try.underlying24
  have hu109 := Try.underlying109
  have HR := Aside0.mk hR
  have H2 := Aside0.mk h2
  have H3 := Aside0.mk h3
  have HC2 := Aside0.mk hc2
  have HC1 := Aside0.mk hc1
  have HA := Aside0.mk hA
  clear h2 h3 hc2 hc1 hA hR
  have HB := Aside0.mk (Below.refl w.heap.size w)
  have e1 : decide ((s : Int) < 0) = false := decide_eq_false (by omega)
  have e2 : decide ((n0 : Int) ≤ (s : Int)) = false := decide_eq_false (by omega)
  obtain ⟨XT, hXT⟩ : ∃ y_, y_ = goesR l F n0 (n0 + 1) (startR n0 s) := ⟨_, rfl⟩
  rw [← hXT]
  have HXT := Aside0.mk hXT
  clear hXT
  obtain ⟨X, b⟩ := XT
  have HXT2 := HXT
  cases b with
  | true =>
    go_enter Try.func38, Try.ntmps38
    go_wp2_with (first | ((with_reducible refine gate_dst (N := 3) rfl ?_); refine box_event ?hg (N := 3) ?hd (cs := #[.int .i64 n0, .bool a0_1, .slice A2 l.length c2]) (t := 24) ?hr ?_; (case hd => rfl); (case hg => rfl); (case hr => first | (go_simp; done) | (go_simp; rfl)); intro g3 hg w4 hbox hb; have n0_ := Aside0.mk (below_step HB.out hb); have B3 := Aside0.mk hbox; clear HB; have HB := n0_; clear n0_ hb hbox hg; have hb0 : w4.cell? ⟨g3, 0, none⟩ = some (.int .i64 n0) := (blk_cell B3.out 0).trans rfl; have hb1 : w4.cell? ⟨g3, 1, none⟩ = some (.bool a0_1) := (blk_cell B3.out 1).trans rfl; have hb2 : w4.cell? ⟨g3, 2, none⟩ = some (.slice A2 l.length c2) := (blk_cell B3.out 2).trans rfl) | (go_at_call 96; refine (static_Asked.calls k (n0 : Int) a0_1 A2 c2 l A1 c1 F 0 _ (Kd.C_below H2.out HB.out) HC2.out (Kd.C_below H3.out HB.out) HC1.out HA.out).mono ?_; rintro e_ w5 ⟨rfl, hb⟩; have n0_ := Aside0.mk (below_step HB.out hb); have n1_ := Aside0.mk (blk_below B3.out hb); clear HB B3 hb0 hb1 hb2 hb; have HB := n0_; have B3 := n1_; clear n0_ n1_; have hb0 : w5.cell? ⟨g3, 0, none⟩ = some (.int .i64 (n0 : Int)) := (blk_cell B3.out 0).trans rfl; have hb1 : w5.cell? ⟨g3, 1, none⟩ = some (.bool a0_1) := (blk_cell B3.out 1).trans rfl; have hb2 : w5.cell? ⟨g3, 2, none⟩ = some (.slice A2 l.length c2) := (blk_cell B3.out 2).trans rfl) | (go_at_call 97; refine (from_calls n0 a0_1 A2 c2 l A1 c1 F s _ HR.out hs (Kd.C_below H2.out HB.out) HC2.out (Kd.C_below H3.out HB.out) HC1.out).mono ?_; rw [← HXT.out]; rintro e_ w6 ⟨v0, v1, v2, rfl, hd, hi, hq, hb⟩; obtain ⟨A0, k0, e0⟩ := Kd.R_slice hd; obtain ⟨Ai, ki, ei⟩ := Kd.R_slice hi; obtain ⟨Aq, kq, eq⟩ := Kd.R_slice hq; subst e0; subst ei; subst eq; have m0_ := Aside0.mk (below_step HB.out hb); have HD := Aside0.mk (Kd.R_lower hd HB.out.size); have HI := Aside0.mk (Kd.R_lower hi HB.out.size); clear HB hb0 hb1 hb2 B3 hd hi hq hb; have HB := m0_; clear m0_) | ((with_reducible refine gate_dst (N := 9) rfl ?_); refine box_event ?hg (N := 9) ?hd (cs := #[.slice none 0 0, .slice none 0 0, .slice none 0 0]) (t := 109) ?hr ?_; (case hd => rfl); (case hg => rfl); (case hr => first | (go_simp; done) | (go_simp; rfl)); intro g9 hg w7 hbox hb; have GE9 : Aside0 (w.heap.size ≤ g9) := ⟨by rw [hg]; exact HB.out.size⟩; have m0_ := Aside0.mk (below_step HB.out hb); have m1_ := Aside0.mk (Kd.R_below HD.out hb); have m2_ := Aside0.mk (Kd.R_below HI.out hb); have B9 := Aside0.mk hbox; clear HB HD HI hbox hb hg; have HB := m0_; have HD := m1_; have HI := m2_; clear m0_ m1_ m2_; have z0 : w7.cell? ⟨g9, 0, none⟩ = some (.slice none 0 0) := (blk_cell B9.out 0).trans rfl; have z1 : w7.cell? ⟨g9, 1, none⟩ = some (.slice none 0 0) := (blk_cell B9.out 1).trans rfl; have z2 : w7.cell? ⟨g9, 2, none⟩ = some (.slice none 0 0) := (blk_cell B9.out 2).trans rfl; have f0 := blk_frozen B9.out 0; have f1 := blk_frozen B9.out 1; have f2 := blk_frozen B9.out 2) | fail)
    go_region
    go_wp2_with fail
    first | go_ret | go_ret2 | go_ret3
    refine ⟨.slice A0 X.D.length k0, .slice Ai X.I.length ki, .inl ⟨by first | rfl | trivial, by first | rfl | trivial, ?_, ?_⟩, ?_⟩
    · exact Kd.R_drew (Kd.R_set (Kd.R_set (Kd.R_set (HD.out) (B9.out) (by decide) 0 (.slice A0 X.D.length k0)) (blk_put (B9.out) 0 (.slice A0 X.D.length k0) rfl) (by decide) 1 (.slice Ai X.I.length ki)) (blk_put (blk_put (B9.out) 0 (.slice A0 X.D.length k0) rfl) 1 (.slice Ai X.I.length ki) rfl) (by decide) 2 (.slice Aq X.B.length kq))
    · exact Kd.R_drew (Kd.R_set (Kd.R_set (Kd.R_set (HI.out) (B9.out) (by decide) 0 (.slice A0 X.D.length k0)) (blk_put (B9.out) 0 (.slice A0 X.D.length k0) rfl) (by decide) 1 (.slice Ai X.I.length ki)) (blk_put (blk_put (B9.out) 0 (.slice A0 X.D.length k0) rfl) 1 (.slice Ai X.I.length ki) rfl) (by decide) 2 (.slice Aq X.B.length kq))
    · exact below_drew (below_set (below_set (below_set HB.out GE9.out) GE9.out) GE9.out)
  | false =>
    go_enter Try.func38, Try.ntmps38
    go_wp2_with (first | ((with_reducible refine gate_dst (N := 3) rfl ?_); refine box_event ?hg (N := 3) ?hd (cs := #[.int .i64 n0, .bool a0_1, .slice A2 l.length c2]) (t := 24) ?hr ?_; (case hd => rfl); (case hg => rfl); (case hr => first | (go_simp; done) | (go_simp; rfl)); intro g3 hg w4 hbox hb; have n0_ := Aside0.mk (below_step HB.out hb); have B3 := Aside0.mk hbox; clear HB; have HB := n0_; clear n0_ hb hbox hg; have hb0 : w4.cell? ⟨g3, 0, none⟩ = some (.int .i64 n0) := (blk_cell B3.out 0).trans rfl; have hb1 : w4.cell? ⟨g3, 1, none⟩ = some (.bool a0_1) := (blk_cell B3.out 1).trans rfl; have hb2 : w4.cell? ⟨g3, 2, none⟩ = some (.slice A2 l.length c2) := (blk_cell B3.out 2).trans rfl) | (go_at_call 96; refine (static_Asked.calls k (n0 : Int) a0_1 A2 c2 l A1 c1 F 0 _ (Kd.C_below H2.out HB.out) HC2.out (Kd.C_below H3.out HB.out) HC1.out HA.out).mono ?_; rintro e_ w5 ⟨rfl, hb⟩; have n0_ := Aside0.mk (below_step HB.out hb); have n1_ := Aside0.mk (blk_below B3.out hb); clear HB B3 hb0 hb1 hb2 hb; have HB := n0_; have B3 := n1_; clear n0_ n1_; have hb0 : w5.cell? ⟨g3, 0, none⟩ = some (.int .i64 (n0 : Int)) := (blk_cell B3.out 0).trans rfl; have hb1 : w5.cell? ⟨g3, 1, none⟩ = some (.bool a0_1) := (blk_cell B3.out 1).trans rfl; have hb2 : w5.cell? ⟨g3, 2, none⟩ = some (.slice A2 l.length c2) := (blk_cell B3.out 2).trans rfl) | (go_at_call 97; refine (from_calls n0 a0_1 A2 c2 l A1 c1 F s _ HR.out hs (Kd.C_below H2.out HB.out) HC2.out (Kd.C_below H3.out HB.out) HC1.out).mono ?_; rw [← HXT.out]; rintro e_ w6 ⟨v0, v1, v2, rfl, hd, hi, hq, hb⟩; obtain ⟨A0, k0, e0⟩ := Kd.R_slice hd; obtain ⟨Ai, ki, ei⟩ := Kd.R_slice hi; obtain ⟨Aq, kq, eq⟩ := Kd.R_slice hq; subst e0; subst ei; subst eq; have m0_ := Aside0.mk (below_step HB.out hb); have HD := Aside0.mk (Kd.R_lower hd HB.out.size); have HI := Aside0.mk (Kd.R_lower hi HB.out.size); clear HB hb0 hb1 hb2 B3 hd hi hq hb; have HB := m0_; clear m0_) | ((with_reducible refine gate_dst (N := 9) rfl ?_); refine box_event ?hg (N := 9) ?hd (cs := #[.slice none 0 0, .slice none 0 0, .slice none 0 0]) (t := 109) ?hr ?_; (case hd => rfl); (case hg => rfl); (case hr => first | (go_simp; done) | (go_simp; rfl)); intro g9 hg w7 hbox hb; have GE9 : Aside0 (w.heap.size ≤ g9) := ⟨by rw [hg]; exact HB.out.size⟩; have m0_ := Aside0.mk (below_step HB.out hb); have m1_ := Aside0.mk (Kd.R_below HD.out hb); have m2_ := Aside0.mk (Kd.R_below HI.out hb); have B9 := Aside0.mk hbox; clear HB HD HI hbox hb hg; have HB := m0_; have HD := m1_; have HI := m2_; clear m0_ m1_ m2_; have z0 : w7.cell? ⟨g9, 0, none⟩ = some (.slice none 0 0) := (blk_cell B9.out 0).trans rfl; have z1 : w7.cell? ⟨g9, 1, none⟩ = some (.slice none 0 0) := (blk_cell B9.out 1).trans rfl; have z2 : w7.cell? ⟨g9, 2, none⟩ = some (.slice none 0 0) := (blk_cell B9.out 2).trans rfl; have f0 := blk_frozen B9.out 0; have f1 := blk_frozen B9.out 1; have f2 := blk_frozen B9.out 2) | fail)
    first | go_ret | go_ret2 | go_ret3
    exact ⟨.slice none 0 0, .slice none 0 0, .inr ⟨by first | rfl | trivial, by first | rfl | trivial⟩, below_set (below_set (below_set HB.out GE9.out) GE9.out) GE9.out⟩
end Go.Proofs.Ytkcpanpdipmmmaa.H

/- Plain lemmas on answers with rounds (Ev), on counters and on lists. -/
set_option linter.unusedVariables false
namespace Go.Proofs.Ytkcpanpdipmmmaa.Q
open Go.RowKit Go.Proofs.YtkcpanpdipmmmaaW.PrintWords Go.Proofs.YtkcpanpdipmmmaaW.PrintLast Go.Proofs.YtkcpanpdipmmmaaW.PrintMore

theorem Ev.pos {α : Type} {c : Prop} [Decidable c] {f g : Nat → Option α} {r : α} (h : c) (e : Ev f r) : Ev (fun k => if c then f k else g k) r :=
  Ev.congr (fun _ => if_pos h) e
theorem Ev.neg {α : Type} {c : Prop} [Decidable c] {f g : Nat → Option α} {r : α} (h : ¬ c) (e : Ev g r) : Ev (fun k => if c then f k else g k) r :=
  Ev.congr (fun _ => if_neg h) e
theorem Ev.ite {α : Type} {c : Prop} [Decidable c] {f g : Nat → Option α} {r : α} (e : c → Ev f r) (e' : ¬ c → Ev g r) : Ev (fun k => if c then f k else g k) r := by
  by_cases h : c
  · exact Ev.pos h (e h)
  · exact Ev.neg h (e' h)
theorem Ev.succ {α : Type} {g : Nat → Option α} {r : α} (e : Ev (fun k => g (k + 1)) r) : Ev g r := Ev.step (fun _ => rfl) e
theorem Ev.let_ {α β : Type} {a : α} {f : Nat → α → Option β} {r : β} (e : Ev (fun k => f k a) r) : Ev (fun k => (some a).bind (f k)) r := e
theorem Ev.call {α β : Type} {g : Option α} {a : α} {f : Nat → α → Option β} {r : β} (h : g = some a) (e : Ev (fun k => f k a) r) : Ev (fun k => g.bind (f k)) r := by
  subst h; exact e
theorem Ev.done {α : Type} {a r : α} (h : a = r) : Ev (fun _ => some a) r := h ▸ Ev.now a
theorem Ev.just {α : Type} {g : Option α} {r : α} (h : g = some r) : Ev (fun _ => g) r := ⟨0, fun _ _ => h⟩
theorem Ev.eq {α : Type} {g : Nat → Option α} {a r : α} (h : Ev g a) (e : a = r) : Ev g r := e ▸ h
theorem Ev.uniq {α : Type} {g : Nat → Option α} {a r : α} (h : Ev g a) (h' : Ev g r) : a = r := by
  obtain ⟨K, h⟩ := h
  obtain ⟨K', h'⟩ := h'
  have h1 := h (max K K') (Nat.le_max_left _ _)
  rw [h' (max K K') (Nat.le_max_right _ _)] at h1
  injection h1 with h1
  exact h1.symm

theorem wrap_id {x : Int} (h0 : -9223372036854775808 ≤ x) (h1 : x ≤ 9223372036854775807) : wrap64 x = x := by
  unfold wrap64
  omega
theorem wrap_succ {i n : Nat} (h : i < n) (hn : n ≤ 9223372036854775807) : wrap64 ((i : Int) + 1) = ((i + 1 : Nat) : Int) := by
  unfold wrap64
  omega
theorem drop_getD {α : Type} (l : List α) (i : Nat) (d : α) (h : i < l.length) : l.drop i = l.getD i d :: l.drop (i + 1) := by
  rw [List.drop_eq_getElem_cons h, List.getD_eq_getElem?_getD, List.getElem?_eq_getElem h]
  rfl
theorem rd_nat (xs : List Int) (i : Nat) : rd xs (i : Int) = xs.getD i 0 := by
  unfold rd
  rw [Int.toNat_natCast]
theorem getD_mem {α : Type} {l : List α} {i : Nat} {d : α} (h : i < l.length) : l.getD i d ∈ l := by
  rw [List.getD_eq_getElem?_getD, List.getElem?_eq_getElem h]
  exact List.getElem_mem h
theorem getD_set {α : Type} (l : List α) (i j : Nat) (a d : α) (h : i < l.length) : (l.set i a).getD j d = if i = j then a else l.getD j d := by
  rw [List.getD_eq_getElem?_getD, List.getD_eq_getElem?_getD, List.getElem?_set]
  by_cases e : i = j
  · subst e; simp [h]
  · simp [e]
theorem rd_set (l : List Int) (i j a : Int) (h0 : 0 ≤ i) (h1 : i < l.length) (h2 : 0 ≤ j) : rd (l.set i.toNat a) j = if i = j then a else rd l j := by
  unfold rd
  rw [getD_set _ _ _ _ _ (by omega)]
  by_cases e : i = j
  · rw [if_pos e, if_pos (by omega)]
  · rw [if_neg e, if_neg (by omega)]
theorem ext_rd {a b : List Int} (hl : a.length = b.length) (h : ∀ i : Nat, i < a.length → rd a i = rd b i) : a = b := by
  apply List.ext_getElem hl
  intro i h1 h2
  have := h i h1
  rw [rd_nat, rd_nat, List.getD_eq_getElem?_getD, List.getD_eq_getElem?_getD, List.getElem?_eq_getElem h1, List.getElem?_eq_getElem h2] at this
  exact this
end Go.Proofs.Ytkcpanpdipmmmaa.Q

/- The document's ways by edges (ref11.From) as a function of lists; the program's settled and it tell the same. -/
set_option linter.unusedVariables false
set_option linter.unusedSimpArgs false
namespace Go.Proofs.Ytkcpanpdipmmmaa.H
open Go.RowKit Go.Proofs.YtkcpanpdipmmmaaW.PrintWords Go.Proofs.YtkcpanpdipmmmaaW.PrintLast Go.Proofs.YtkcpanpdipmmmaaW.PrintMore Go.Proofs.Ytkcpanpdipmmmaa.P Go.Proofs.Ytkcpanpdipmmmaa.Q
/-- All steps with room, of the first k arcs. -/
def stepsR (l : List S74) (F : List Int) : Nat → List S38
  | 0 => []
  | k + 1 => stepsR l F k ++ (if F.getD k 0 < (rd_T74 l k).f2 then [⟨k, false⟩] else []) ++ (if 0 < F.getD k 0 then [⟨k, true⟩] else [])
theorem stepsR_len (l : List S74) (F : List Int) (k : Nat) : (stepsR l F k).length ≤ 2 * k := by
  induction k with
  | zero => exact Nat.le_refl _
  | succ k ih =>
    unfold stepsR
    rw [List.length_append, List.length_append]
    split <;> split <;> simp <;> omega
theorem mem_stepsR (l : List S74) (F : List Int) (k : Nat) (s : S38) : s ∈ stepsR l F k ↔ (∃ i : Nat, i < k ∧ s.f0 = i) ∧ 0 < stRoom l F s := by
  induction k with
  | zero =>
    constructor
    · intro h; cases h
    · rintro ⟨⟨i, h, _⟩, _⟩; omega
  | succ k ih =>
    unfold stepsR
    rw [List.mem_append, List.mem_append, ih]
    constructor
    · rintro ((⟨⟨i, h1, h2⟩, h3⟩ | h) | h)
      · exact ⟨⟨i, by omega, h2⟩, h3⟩
      · split at h
        · rename_i he
          rw [List.mem_singleton] at h
          subst h
          refine ⟨⟨k, by omega, rfl⟩, ?_⟩
          unfold stRoom
          simp only [Bool.false_eq_true, if_false, Int.toNat_natCast]
          omega
        · cases h
      · split at h
        · rename_i he
          rw [List.mem_singleton] at h
          subst h
          refine ⟨⟨k, by omega, rfl⟩, ?_⟩
          unfold stRoom
          simp only [if_true, Int.toNat_natCast]
          exact he
        · cases h
    · rintro ⟨⟨i, h1, h2⟩, h3⟩
      by_cases hi : i < k
      · exact Or.inl (Or.inl ⟨⟨i, hi, h2⟩, h3⟩)
      · have e : i = k := by omega
        subst e
        obtain ⟨x, y⟩ := s
        simp only at h2
        subst h2
        unfold stRoom at h3
        cases y
        · simp only [Bool.false_eq_true, if_false, Int.toNat_natCast] at h3
          exact Or.inl (Or.inr (by rw [if_pos (by omega)]; exact List.mem_singleton.2 rfl))
        · simp only [if_true, Int.toNat_natCast] at h3
          exact Or.inr (by rw [if_pos h3]; exact List.mem_singleton.2 rfl)
theorem steps_l0 {l : List S74} {F : List Int} {n : Nat} (hr : Right l F n) (a : Int) (b : Bool) (d : Nat) : ∀ i : Nat, i + d = F.length →
    Ev (fun k => ebbtideref07_Steps.l0 k F (stepsR l F i) (i : Int) a b l) (stepsR l F F.length) := by
  have hl := hr.len
  have hl2 := hr.arcs
  induction d with
  | zero =>
    intro i hi
    refine Ev.succ ?_; simp only [ebbtideref07_Steps.l0]
    repeat (first | exact Ev.now _ | with_reducible refine Ev.pos (by first | assumption | omega) ?_ | with_reducible refine Ev.neg (by first | assumption | omega) ?_ | with_reducible refine Ev.let_ ?_)
    exact Ev.done (by rw [show i = F.length by omega])
  | succ d ih =>
    intro i hi
    have hn := ih (i + 1) (by omega)
    have hsl := stepsR_len l F i
    have e1 : rd F (i : Int) = F.getD i 0 := rd_nat F i
    have e2 : stepsR l F (i + 1) = stepsR l F i ++ (if F.getD i 0 < (rd_T74 l i).f2 then [⟨i, false⟩] else []) ++ (if 0 < F.getD i 0 then [⟨i, true⟩] else []) := rfl
    rw [e2] at hn
    refine Ev.succ ?_; simp only [ebbtideref07_Steps.l0]
    repeat (first | exact Ev.now _ | with_reducible refine Ev.pos (by first | assumption | omega) ?_ | with_reducible refine Ev.neg (by first | assumption | omega) ?_ | with_reducible refine Ev.let_ ?_)
    rw [wrap_succ (n := F.length) (by omega) (by omega), e1]
    refine Ev.ite (fun g => ?_) (fun g => ?_)
    · rw [if_pos (show F.getD i 0 < (rd_T74 l i).f2 from g)] at hn
      repeat (first | exact Ev.now _ | with_reducible refine Ev.pos (by first | assumption | omega) ?_ | with_reducible refine Ev.neg (by first | assumption | omega) ?_ | with_reducible refine Ev.let_ ?_)
      refine Ev.ite (fun g2 => ?_) (fun g2 => ?_)
      · rw [if_pos (show 0 < F.getD i 0 from g2)] at hn
        refine Ev.pos (by rw [List.length_append]; simp; omega) ?_
        exact hn
      · rw [if_neg (show ¬ 0 < F.getD i 0 from g2), List.append_nil] at hn
        exact hn
    · rw [if_neg (show ¬ F.getD i 0 < (rd_T74 l i).f2 from g), List.append_nil] at hn
      refine Ev.ite (fun g2 => ?_) (fun g2 => ?_)
      · rw [if_pos (show 0 < F.getD i 0 from g2)] at hn
        refine Ev.pos (by omega) ?_
        exact hn
      · rw [if_neg (show ¬ 0 < F.getD i 0 from g2), List.append_nil] at hn
        exact hn
theorem steps_ev {l : List S74} {F : List Int} {n : Nat} (hr : Right l F n) (a : Int) (b : Bool) : Ev (fun k => ebbtideref07_Steps.f k a b l F) (stepsR l F F.length) := by
  unfold ebbtideref07_Steps.f
  exact steps_l0 hr a b F.length 0 (by omega)
structure Rf where
  D : List Int
  I : List Bool
  OK : Bool
def visF (l : List S74) (x : Rf) (s : S38) : Rf :=
  if x.I.getD (stFrom l s).toNat false && (!x.I.getD (stTo l s).toNat false || decide (x.D.getD (stFrom l s).toNat 0 + stTime l s < x.D.getD (stTo l s).toNat 0)) then
    ⟨x.D.set (stTo l s).toNat (x.D.getD (stFrom l s).toNat 0 + stTime l s), x.I.set (stTo l s).toNat true, false⟩ else x
def roundF (l : List S74) (S : List S38) (x : Rf) : Rf := S.foldl (visF l) { x with OK := true }
def itF (l : List S74) (S : List S38) : Nat → Rf → Rf
  | 0, x => x
  | k + 1, x => itF l S k (roundF l S x)
structure Rf.Ok (n : Nat) (x : Rf) : Prop where
  hD : x.D.length = n
  hI : x.I.length = n
theorem visF_ok {l : List S74} {n : Nat} {x : Rf} (h : x.Ok n) (s : S38) : (visF l x s).Ok n := by
  unfold visF
  split
  · exact ⟨by simp [h.hD], by simp [h.hI]⟩
  · exact h
theorem stFrom_in {l : List S74} {F : List Int} {n : Nat} (hr : Right l F n) {s : S38} (hs : StepOf l s) : 0 ≤ stFrom l s ∧ stFrom l s < n := by
  obtain ⟨i, h1, h2⟩ := hs
  have := hr.ends i h1
  unfold stFrom
  rw [h2]
  split
  · exact this.2
  · exact this.1
theorem visF_bd {l : List S74} {F : List Int} {n : Nat} (hr : Right l F n) {x : Rf} {c : Int} (hc : 0 ≤ c) (h : Bd x.D c) {s : S38} (hs : StepOf l s) : Bd (visF l x s).D (c + 1) := by
  unfold visF
  split
  · have := stTime_in hr hs
    exact h.set hc _ _ _ this.1 this.2
  · exact h.mono (by omega)
theorem rfrom_f {l : List S74} {F : List Int} {n : Nat} (hr : Right l F n) {s : S38} (hs : StepOf l s) (a : Int) (b : Bool) : ebbtideref07_From.f a b l s.f0 s.f1 = some (stFrom l s) := by
  obtain ⟨i, h1, h2⟩ := hs
  unfold ebbtideref07_From.f stFrom eFrom eTo
  rw [h2]
  cases s.f1 <;> simp [h1]
theorem rto_f {l : List S74} {F : List Int} {n : Nat} (hr : Right l F n) {s : S38} (hs : StepOf l s) (a : Int) (b : Bool) : ebbtideref07_To.f a b l s.f0 s.f1 = some (stTo l s) := by
  obtain ⟨i, h1, h2⟩ := hs
  unfold ebbtideref07_To.f stTo eFrom eTo
  rw [h2]
  cases s.f1 <;> simp [h1]
theorem rtime_f {l : List S74} {F : List Int} {n : Nat} (hr : Right l F n) {s : S38} (hs : StepOf l s) (a : Int) (b : Bool) : ebbtideref11_Time.f a b l s.f0 s.f1 = some (stTime l s) := by
  obtain ⟨i, h1, h2⟩ := hs
  have h3 := hr.nums i h1
  unfold ebbtideref11_Time.f stTime
  rw [h2]
  cases s.f1
  · simp [h1]
  · have : wrap64 (-(rd_T74 l i).f3) = -(rd_T74 l i).f3 := by unfold wrap64; omega
    simp [h1, this]
theorem from_l1 {l : List S74} {F : List Int} {n : Nat} (hr : Right l F n) (b : Bool) (S : List S38) (hS : ∀ s, s ∈ S → StepOf l s) (hSl : S.length ≤ 400) (i : Nat) (hi : i ≤ n) (r : List Int × List Bool × Bool) (d : Nat) : ∀ (j : Nat) (x : Rf) (c : Int), j + d = S.length → x.Ok n → 0 ≤ c → c + (d : Int) ≤ 1000000 → Bd x.D c →
    Ev (fun k => ebbtideref11_From.l0 k S ((i + 1 : Nat) : Int) n b l ((S.drop j).foldl (visF l) x).D ((S.drop j).foldl (visF l) x).I ((S.drop j).foldl (visF l) x).OK) r →
    Ev (fun k => ebbtideref11_From.l1 k S (i : Int) (j : Int) n b l x.D x.I x.OK) r := by
  have hn := hr.fifty
  induction d with
  | zero =>
    intro j x c hj hx hc0 hc hb h
    rw [List.drop_of_length_le (by omega)] at h
    refine Ev.succ ?_; simp only [ebbtideref11_From.l1]
    repeat (first | exact Ev.now _ | with_reducible refine Ev.pos (by first | assumption | omega) ?_ | with_reducible refine Ev.neg (by first | assumption | omega) ?_ | with_reducible refine Ev.let_ ?_)
    rw [wrap_succ (n := 51) (by omega) (by omega)]
    exact h
  | succ d ih =>
    intro j x c hj hx hc0 hc hb h
    have hjl : j < S.length := by omega
    have hm : rd_T38 S (j : Int) ∈ S := by
      unfold rd_T38
      rw [Int.toNat_natCast, List.getD_eq_getElem?_getD, List.getElem?_eq_getElem hjl]
      exact List.getElem_mem hjl
    have hs := hS _ hm
    have hd : S.drop j = rd_T38 S (j : Int) :: S.drop (j + 1) := by
      rw [drop_getD S j z38 hjl]
      unfold rd_T38
      rw [Int.toNat_natCast]
    rw [hd, List.foldl_cons] at h
    obtain ⟨s, es⟩ : ∃ s_, s_ = rd_T38 S (j : Int) := ⟨_, rfl⟩
    rw [← es] at h hs
    have hf := stFrom_in hr hs
    have ht := stTo_in hr hs
    have htm := stTime_in hr hs
    have hDl := hx.hD
    have hIl := hx.hI
    have hv := ih (j + 1) (visF l x s) (c + 1) (by omega) (visF_ok hx s) (by omega) (by omega)
    have hbf := hb (stFrom l s).toNat
    refine Ev.succ ?_; simp only [ebbtideref11_From.l1]
    rw [← es]
    refine Ev.pos (by omega) ?_
    refine Ev.pos (by omega) ?_
    refine Ev.call (rfrom_f hr hs _ _) ?_
    refine Ev.call (rto_f hr hs _ _) ?_
    refine Ev.pos (by omega) ?_
    refine Ev.pos (by omega) ?_
    refine Ev.call (rtime_f hr hs _ _) ?_
    refine Ev.pos (by omega) ?_
    rw [wrap_succ (n := 400) (by omega) (by omega)]
    have eD : ∀ v : Int, rd x.D v = x.D.getD v.toNat 0 := fun v => rfl
    have eI : ∀ v : Int, rdOf false x.I v = x.I.getD v.toNat false := fun v => rfl
    rw [eD, eD, eI, eI, wrap_id (x := x.D.getD (stFrom l s).toNat 0 + stTime l s) (by omega) (by omega)]
    unfold visF at hv h
    refine Ev.ite (fun g1 => ?_) (fun g1 => ?_)
    · rw [g1, Bool.true_and] at hv h
      refine Ev.pos (by omega) ?_
      refine Ev.pos (by omega) ?_
      refine Ev.ite (fun g2 => ?_) (fun g2 => ?_)
      · rw [g2, Bool.not_true, Bool.false_or] at hv h
        refine Ev.pos (by omega) ?_
        refine Ev.ite (fun g3 => ?_) (fun g3 => ?_)
        · rw [if_pos (decide_eq_true g3)] at hv h
          exact hv (hb.set hc0 _ _ _ htm.1 htm.2) h
        · rw [if_neg (by simpa using g3)] at hv h
          exact hv (hb.mono (by omega)) h
      · have g2' : x.I.getD (stTo l s).toNat false = false := by simpa using g2
        rw [g2', Bool.not_false, Bool.true_or, if_pos rfl] at hv h
        refine Ev.pos (by omega) ?_
        exact hv (hb.set hc0 _ _ _ htm.1 htm.2) h
    · have g1' : x.I.getD (stFrom l s).toNat false = false := by simpa using g1
      rw [g1', Bool.false_and, if_neg (by simp)] at hv h
      exact hv (hb.mono (by omega)) h
theorem foldF_bd {l : List S74} {F : List Int} {n : Nat} (hr : Right l F n) (S : List S38) : ∀ (hS : ∀ s, s ∈ S → StepOf l s) (x : Rf) (c : Int), x.Ok n → 0 ≤ c → Bd x.D c → (S.foldl (visF l) x).Ok n ∧ Bd (S.foldl (visF l) x).D (c + S.length) := by
  induction S with
  | nil => intro _ x c hx hc hb; exact ⟨hx, by simpa using hb⟩
  | cons s S ih =>
    intro hS x c hx hc hb
    have h1 := visF_bd hr hc hb (hS s List.mem_cons_self)
    obtain ⟨h2, h3⟩ := ih (fun s hs => hS s (List.mem_cons_of_mem _ hs)) (visF l x s) (c + 1) (visF_ok hx s) (by omega) h1
    refine ⟨h2, h3.mono ?_⟩
    rw [List.length_cons]
    omega
theorem from_l0 {l : List S74} {F : List Int} {n : Nat} (hr : Right l F n) (b : Bool) (S : List S38) (hS : ∀ s, s ∈ S → StepOf l s) (hSl : S.length ≤ 400) (d : Nat) : ∀ (i : Nat) (x : Rf), i + d = n + 1 → x.Ok n → Bd x.D (400 * (i : Int)) →
    Ev (fun k => ebbtideref11_From.l0 k S (i : Int) n b l x.D x.I x.OK) ((itF l S d x).D, (itF l S d x).I, (itF l S d x).OK) := by
  have hn := hr.fifty
  induction d with
  | zero =>
    intro i x hi hx hb
    refine Ev.succ ?_; simp only [ebbtideref11_From.l0]
    refine Ev.neg (by omega) ?_
    exact Ev.now _
  | succ d ih =>
    intro i x hi hx hb
    refine Ev.succ ?_; simp only [ebbtideref11_From.l0]
    refine Ev.pos (by omega) ?_
    obtain ⟨h1, h2⟩ := foldF_bd hr S hS { x with OK := true } (400 * (i : Int)) ⟨hx.hD, hx.hI⟩ (by omega) hb
    have h3 := ih (i + 1) (roundF l S x) (by omega) h1 (h2.mono (by omega))
    refine from_l1 hr b S hS hSl i (by omega) _ S.length 0 { x with OK := true } (400 * (i : Int)) (by omega) ⟨hx.hD, hx.hI⟩ (by omega) (by omega) hb ?_
    rw [List.drop_zero]
    exact h3
def startF (n s : Nat) : Rf := ⟨List.replicate n 0, (List.replicate n false).set s true, false⟩
def refF (l : List S74) (F : List Int) (n s : Nat) : Rf := itF l (stepsR l F F.length) (n + 1) (startF n s)
theorem stepsR_of {l : List S74} {F : List Int} {n : Nat} (hr : Right l F n) : ∀ s, s ∈ stepsR l F F.length → StepOf l s := by
  intro s hs
  have h := ((mem_stepsR l F F.length s).1 hs).1
  rw [hr.len] at h
  exact h
theorem from_ev {l : List S74} {F : List Int} {n : Nat} (hr : Right l F n) (b : Bool) (s : Nat) (hs : s < n) : Ev (fun k => ebbtideref11_From.f k n b l F s) ((refF l F n s).D, (refF l F n s).I, (refF l F n s).OK) := by
  have hn := hr.fifty
  have hl := hr.len
  have hl2 := hr.arcs
  unfold ebbtideref11_From.f
  refine Ev.pos (by omega) ?_
  refine Ev.pos (by omega) ?_
  refine Ev.pos (by omega) ?_
  refine Ev.let_ ?_
  refine Ev.pos (by omega) ?_
  refine Ev.pos (by rw [List.length_replicate]; omega) ?_
  refine Ev.bind (steps_ev hr _ _) ?_
  rw [Int.toNat_natCast, Int.toNat_natCast]
  have hsl := stepsR_len l F F.length
  refine from_l0 hr b _ (stepsR_of hr) (by omega) (n + 1) 0 (startF n s) (by omega) ⟨by simp [startF], by simp [startF]⟩ ?_
  intro v
  have : (List.replicate n (0 : Int)).getD v 0 = 0 := by
    rw [List.getD_eq_getElem?_getD, List.getElem?_replicate]
    split <;> rfl
  show _ ≤ (List.replicate n (0 : Int)).getD v 0 ∧ (List.replicate n (0 : Int)).getD v 0 ≤ _
  rw [this]
  omega
end Go.Proofs.Ytkcpanpdipmmmaa.H

/- cost.Free: its two ends; by gen_cost.py. -/
set_option linter.unusedVariables false
set_option linter.unusedSimpArgs false
namespace Go.Proofs.Ytkcpanpdipmmmaa.H
open Go.RowKit Go.Proofs.YtkcpanpdipmmmaaW.PrintWords Go.Proofs.YtkcpanpdipmmmaaW.PrintLast Go.Proofs.YtkcpanpdipmmmaaW.PrintMore Go.Proofs.Ytkcpanpdipmmmaa.P
def setI (n v : Nat) : List Bool := (List.range n).map fun i => decide (i < v)
theorem setI_len (n v : Nat) : (setI n v).length = n := by unfold setI; rw [List.length_map, List.length_range]
theorem setI_zero (n : Nat) : setI n 0 = List.replicate n false := by
  apply List.ext_getElem (by rw [setI_len, List.length_replicate])
  intro i h1 h2
  simp [setI]
theorem setI_set (n v : Nat) : (setI n v).set v true = setI n (v + 1) := by
  apply List.ext_getElem (by rw [List.length_set, setI_len, setI_len])
  intro i h1 h2
  rw [List.getElem_set]
  simp only [setI, List.getElem_map, List.getElem_range]
  by_cases e : v = i
  · rw [if_pos e]; exact (decide_eq_true (by omega)).symm
  · rw [if_neg e]
    by_cases c : i < v
    · rw [decide_eq_true c, decide_eq_true (by omega)]
    · rw [decide_eq_false c, decide_eq_false (by omega)]
def allR (n : Nat) : Rch := ⟨List.replicate n 0, setI n n, List.replicate n z38, false⟩
theorem allR_ok (n : Nat) : (allR n).Ok n := ⟨by simp [allR], by simp [allR, setI_len], by simp [allR]⟩
set_option maxHeartbeats 1000000 in
set_option maxRecDepth 100000 in
theorem free_no (k : Nat) (a0_0 : Int) (a0_1 : Bool) (A2 : Option Addr) (c2 : Nat) (l : List S74) (A1 : Option Addr) (c1 : Nat) (F : List Int) (t : Int) (w : World) (h2 : Kd.C k74 w A2 l.length l) (hc2 : l.length ≤ c2) (h3 : Kd.C (Kd.int .i64) w A1 F.length F) (hc1 : F.length ≤ c1) (hA : static_Asked.f k a0_0 a0_1 l F = some t) (ht : t ≠ 0) :
    Calls Try.prog 47 #[.agg #[.int .i64 a0_0, .bool a0_1, .slice A2 l.length c2], .slice A1 F.length c1] w fun e w' => e = .returned (.tuple #[.bool false, .int .i64 t]) ∧ Below w.heap.size w w' := by
  have hu24 := Try.underlying24
  have H2 := Aside0.mk h2
  have H3 := Aside0.mk h3
  have HC2 := Aside0.mk hc2
  have HC1 := Aside0.mk hc1
  have HA := Aside0.mk hA
  clear h2 h3 hc2 hc1 hA
  have HB := Aside0.mk (Below.refl w.heap.size w)
  have e1 : (t != 0) = true := by rw [bne_iff_ne]; exact ht
  have e2 : decide (t = 0) = false := decide_eq_false ht
  clear ht
  go_enter Try.func47, Try.ntmps47
  go_wp2_with (first | ((with_reducible refine gate_dst (N := 2) rfl ?_); refine box_event ?hg (N := 2) ?hd (cs := #[.int .i64 a0_0, .bool a0_1, .slice A2 l.length c2]) (t := 24) ?hr ?_; (case hd => rfl); (case hg => rfl); (case hr => first | (go_simp; done) | (go_simp; rfl)); intro g2 hg w4 hbox hb; have n0_ := Aside0.mk (below_step HB.out hb); have B2 := Aside0.mk hbox; clear HB; have HB := n0_; clear n0_ hb hbox hg; have hb0 : w4.cell? ⟨g2, 0, none⟩ = some (.int .i64 a0_0) := (blk_cell B2.out 0).trans rfl; have hb1 : w4.cell? ⟨g2, 1, none⟩ = some (.bool a0_1) := (blk_cell B2.out 1).trans rfl; have hb2 : w4.cell? ⟨g2, 2, none⟩ = some (.slice A2 l.length c2) := (blk_cell B2.out 2).trans rfl) | (go_at_call 96; refine (static_Asked.calls k a0_0 a0_1 A2 c2 l A1 c1 F t _ (Kd.C_below H2.out HB.out) HC2.out (Kd.C_below H3.out HB.out) HC1.out HA.out).mono ?_; rintro e_ w5 ⟨rfl, hb⟩; have n0_ := Aside0.mk (below_step HB.out hb); have n1_ := Aside0.mk (blk_below B2.out hb); clear HB B2 hb0 hb1 hb2 hb; have HB := n0_; have B2 := n1_; clear n0_ n1_; have hb0 : w5.cell? ⟨g2, 0, none⟩ = some (.int .i64 a0_0) := (blk_cell B2.out 0).trans rfl) | fail)
  first | go_ret | go_ret2 | go_ret3
  exact ⟨rfl, HB.out⟩
set_option maxHeartbeats 2000000 in
set_option maxRecDepth 100000 in
theorem free_ok (k : Nat) (n0 : Nat) (a0_1 : Bool) (A2 : Option Addr) (c2 : Nat) (l : List S74) (A1 : Option Addr) (c1 : Nat) (F : List Int) (w : World) (hR : Right l F n0) (h2 : Kd.C k74 w A2 l.length l) (hc2 : l.length ≤ c2) (h3 : Kd.C (Kd.int .i64) w A1 F.length F) (hc1 : F.length ≤ c1) (hA : static_Asked.f k (n0 : Int) a0_1 l F = some 0) :
    Calls Try.prog 47 #[.agg #[.int .i64 n0, .bool a0_1, .slice A2 l.length c2], .slice A1 F.length c1] w fun e w' => e = .returned (.tuple #[.bool (goesR l F n0 (n0 + 1) (allR n0)).2, .int .i64 0]) ∧ Below w.heap.size w w' := by
  obtain ⟨XT, hXT⟩ : ∃ y_, y_ = goesR l F n0 (n0 + 1) (allR n0) := ⟨_, rfl⟩
  rw [← hXT]
  have HXT := Aside0.mk hXT
  clear hXT
  have hu24 := Try.underlying24
  have hu109 := Try.underlying109
  have hn0 : 0 < n0 := hR.pos
  have hn50 : n0 ≤ 50 := hR.fifty
  have HR := Aside0.mk hR
  have H2 := Aside0.mk h2
  have H3 := Aside0.mk h3
  have HC2 := Aside0.mk hc2
  have HC1 := Aside0.mk hc1
  have HA := Aside0.mk hA
  clear hR h2 h3 hc2 hc1 hA
  have HB := Aside0.mk (Below.refl w.heap.size w)
  go_enter Try.func47, Try.ntmps47
  go_wp2_with (first | ((with_reducible refine gate_dst (N := 2) rfl ?_); refine box_event ?hg (N := 2) ?hd (cs := #[.int .i64 n0, .bool a0_1, .slice A2 l.length c2]) (t := 24) ?hr ?_; (case hd => rfl); (case hg => rfl); (case hr => first | (go_simp; done) | (go_simp; rfl)); intro g2 hg w4 hbox hb; have n0_ := Aside0.mk (below_step HB.out hb); have B2 := Aside0.mk hbox; clear HB; have HB := n0_; clear n0_ hb hbox hg; have hb0 : w4.cell? ⟨g2, 0, none⟩ = some (.int .i64 n0) := (blk_cell B2.out 0).trans rfl; have hb1 : w4.cell? ⟨g2, 1, none⟩ = some (.bool a0_1) := (blk_cell B2.out 1).trans rfl; have hb2 : w4.cell? ⟨g2, 2, none⟩ = some (.slice A2 l.length c2) := (blk_cell B2.out 2).trans rfl) | (go_at_call 96; refine (static_Asked.calls k (n0 : Int) a0_1 A2 c2 l A1 c1 F 0 _ (Kd.C_below H2.out HB.out) HC2.out (Kd.C_below H3.out HB.out) HC1.out HA.out).mono ?_; rintro e_ w5 ⟨rfl, hb⟩; have n0_ := Aside0.mk (below_step HB.out hb); have n1_ := Aside0.mk (blk_below B2.out hb); clear HB B2 hb0 hb1 hb2 hb; have HB := n0_; have B2 := n1_; clear n0_ n1_; have hb0 : w5.cell? ⟨g2, 0, none⟩ = some (.int .i64 (n0 : Int)) := (blk_cell B2.out 0).trans rfl) | fail)
  refine start_ (n := 12) (S := fun w' => w'.cell? ⟨g2, 0, none⟩ = some (.int .i64 n0)) (ds := [11]) #[false, false, false, false, false, false, false, false, false, false, false, false] (by kernel_rfl) rfl rfl hb0 (fun hHeld => ?_)
  have m_HB := Aside0.mk (below_step HB.out (below_drew (Below.refl _ _)))
  have m_B2 := Aside0.mk (blk_below B2.out (below_drew (Below.refl _ _)))
  clear hb0 HB B2
  have HB := m_HB
  clear m_HB
  have B2 := m_B2
  clear m_B2
  generalize w5.drew = w14 at hHeld HB B2 ⊢
  have S14 : Aside0 (w.heap.size ≤ w14.heap.size) := ⟨HB.out.size⟩
  have L2 : Aside0 (g2 < w14.heap.size) := ⟨blk_lt B2.out⟩
  refine pure_ (i := 0) (N := some 15) (v := ?_) (a' := ?_) #[true, false, false, false, false, false, false, false, false, false, false, false] rfl rfl (by kernel_rfl) (fun _ _ _ h => h) (Or.inl ⟨by rfl, ?_⟩) ?_ ?_
  rotate_left
  · intro w'
    go_simp
    with_reducible rfl
  rotate_left
  · simp only [Act.put, List.setIfInBounds_toArray, List.set_cons_zero, List.set_cons_succ, i64_w, i32_w]
    rfl
  refine pure_ (i := 3) (N := some 18) (v := ?_) (a' := ?_) #[true, false, false, true, false, false, false, false, false, false, false, false] rfl rfl (by kernel_rfl) (fun _ _ _ h => h) (Or.inl ⟨by rfl, ?_⟩) ?_ ?_
  rotate_left
  · intro w'
    go_simp
    with_reducible rfl
  rotate_left
  · simp only [Act.put, List.setIfInBounds_toArray, List.set_cons_zero, List.set_cons_succ, i64_w, i32_w]
    rfl
  refine pure_ (i := 6) (N := some 21) (v := ?_) (a' := ?_) #[true, false, false, true, false, false, true, false, false, false, false, false] rfl rfl (by kernel_rfl) (fun _ _ _ h => h) (Or.inl ⟨by rfl, ?_⟩) ?_ ?_
  rotate_left
  · intro w'
    go_simp
    with_reducible rfl
  rotate_left
  · simp only [Act.put, List.setIfInBounds_toArray, List.set_cons_zero, List.set_cons_succ, i64_w, i32_w]
    rfl
  refine take_ (i := 1) (N := some 16) (v := ?_) (a' := ?_) #[true, true, false, true, false, false, true, false, false, false, false, false] rfl rfl (by kernel_rfl) (fun _ _ _ h => h) (Or.inl ⟨by rfl, ?_⟩) hHeld ?_ ?_
  rotate_left
  · rintro w' s0
    go_simp
    with_reducible rfl
  rotate_left
  · simp only [Act.put, List.setIfInBounds_toArray, List.set_cons_zero, List.set_cons_succ, i64_w, i32_w]
    rfl
  refine take_ (i := 4) (N := some 19) (v := ?_) (a' := ?_) #[true, true, false, true, true, false, true, false, false, false, false, false] rfl rfl (by kernel_rfl) (fun _ _ _ h => h) (Or.inl ⟨by rfl, ?_⟩) hHeld ?_ ?_
  rotate_left
  · rintro w' s0
    go_simp
    with_reducible rfl
  rotate_left
  · simp only [Act.put, List.setIfInBounds_toArray, List.set_cons_zero, List.set_cons_succ, i64_w, i32_w]
    rfl
  refine take_ (i := 7) (N := some 22) (v := ?_) (a' := ?_) #[true, true, false, true, true, false, true, true, false, false, false, false] rfl rfl (by kernel_rfl) (fun _ _ _ h => h) (Or.inl ⟨by rfl, ?_⟩) hHeld ?_ ?_
  rotate_left
  · rintro w' s0
    go_simp
    with_reducible rfl
  rotate_left
  · simp only [Act.put, List.setIfInBounds_toArray, List.set_cons_zero, List.set_cons_succ, i64_w, i32_w]
    rfl
  refine join_ (σ := Value × Value × Value × Nat) 1 #[true, true, true, true, true, true, true, true, true, true, true, false] (fun s_ => [(17, s_.1), (20, s_.2.1), (23, s_.2.2.1), (24, .agg #[s_.1, s_.2.1, s_.2.2.1]), (7, .pointer (some ⟨s_.2.2.2, 0, none⟩))]) (fun s_ w' => w'.cell? ⟨g2, 0, none⟩ = some (.int .i64 n0) ∧ Below w14.heap.size w14 w' ∧ Kd.R (Kd.int .i64) 3 w' w14.heap.size (fun _ => True) s_.1 (List.replicate n0 0) ∧ Kd.R Kd.bool 4 w' w14.heap.size (fun _ => True) s_.2.1 (List.replicate n0 false) ∧ Kd.R k38 38 w' w14.heap.size (fun _ => True) s_.2.2.1 (List.replicate n0 z38) ∧ w14.heap.size ≤ s_.2.2.2 ∧ w'.heap[s_.2.2.2]? = some (.cells #[.slice none 0 0, .slice none 0 0, .slice none 0 0] 109 (0, 0))) ?_ ?_
  rotate_left
  · intro hCont
    refine makers_ (fuel := 2) 4 #[true, true, true, true, true, true, true, true, true, false, true, false] [10] #[true, true, true, true, true, true, true, true, true, false, false, false] [⟨2, 17, (fun v w' => Kd.R (Kd.int .i64) 3 w' w14.heap.size (fun _ => True) v (List.replicate n0 0))⟩, ⟨5, 20, (fun v w' => Kd.R Kd.bool 4 w' w14.heap.size (fun _ => True) v (List.replicate n0 false))⟩, ⟨8, 23, (fun v w' => Kd.R k38 38 w' w14.heap.size (fun _ => True) v (List.replicate n0 z38))⟩, ⟨10, 7, (fun v w' => ∃ g, v = .pointer (some ⟨g, 0, none⟩) ∧ w14.heap.size ≤ g ∧ w'.heap[g]? = some (.cells #[.slice none 0 0, .slice none 0 0, .slice none 0 0] 109 (0, 0)))⟩] rfl (by simp) (by simp) ?_ ?_ (by kernel_rfl) hHeld ?_ ?_
    · intro m hm
      simp only [List.mem_cons, List.not_mem_nil, or_false] at hm
      rcases hm with rfl | rfl | rfl | rfl
      · refine ⟨_, rfl, rfl, by simp, fun a' w' K he hS hb hK => ?_⟩
        refine Kd.R_make_step (Kd.int .i64) (w0 := w') w14.heap.size 3 (by rfl) (N := 17) rfl 25 (.tmp 16) (.tmp 16) rfl (n0 : Int) ((he 16 (by simp)).trans rfl) ((he 16 (by simp)).trans rfl) Try.underlying25 (.int .i64 0) 8 info3 rfl (by decide) (by omega) 0 (ok := fun _ => True) (okp := fun _ => False) ?hz (fun _ hk => hk.elim) trivial (by omega) (by rw [Int.toNat_natCast]; omega) (Below.refl _ _) hb.size (fun v1 w1 hr hb1 hg hat => ?_)
        case hz => rfl
        rw [Int.toNat_natCast] at hr
        have hbb : Below w'.heap.size w' w1 := ⟨hg.os, hg.tape, hg.output, hg.size, fun k hk => hg.block k hk (by simp)⟩
        exact hK v1 w1 (pw_cell_below hbb hS) hbb hr
      · refine ⟨_, rfl, rfl, by simp, fun a' w' K he hS hb hK => ?_⟩
        refine Kd.R_make_step Kd.bool (w0 := w') w14.heap.size 4 (by rfl) (N := 20) rfl 26 (.tmp 19) (.tmp 19) rfl (n0 : Int) ((he 19 (by simp)).trans rfl) ((he 19 (by simp)).trans rfl) Try.underlying26 (.bool false) 1 info4 rfl (by decide) (by omega) false (ok := fun _ => True) (okp := fun _ => False) ?hz (fun _ hk => hk.elim) trivial (by omega) (by rw [Int.toNat_natCast]; omega) (Below.refl _ _) hb.size (fun v1 w1 hr hb1 hg hat => ?_)
        case hz => rfl
        rw [Int.toNat_natCast] at hr
        have hbb : Below w'.heap.size w' w1 := ⟨hg.os, hg.tape, hg.output, hg.size, fun k hk => hg.block k hk (by simp)⟩
        exact hK v1 w1 (pw_cell_below hbb hS) hbb hr
      · refine ⟨_, rfl, rfl, by simp, fun a' w' K he hS hb hK => ?_⟩
        refine Kd.R_make_step k38 (w0 := w') w14.heap.size 38 (by rfl) (N := 23) rfl 34 (.tmp 22) (.tmp 22) rfl (n0 : Int) ((he 22 (by simp)).trans rfl) ((he 22 (by simp)).trans rfl) Try.underlying34 (.agg #[(.int .i64 0), (.bool false)]) 16 info38 rfl (by decide) (by omega) z38 (ok := fun _ => True) (okp := fun _ => False) ?hz (fun _ hk => hk.elim) trivial (by omega) (by rw [Int.toNat_natCast]; omega) (Below.refl _ _) hb.size (fun v1 w1 hr hb1 hg hat => ?_)
        case hz => exact k38_mkM _ _ _ z38
        rw [Int.toNat_natCast] at hr
        have hbb : Below w'.heap.size w' w1 := ⟨hg.os, hg.tape, hg.output, hg.size, fun k hk => hg.block k hk (by simp)⟩
        exact hK v1 w1 (pw_cell_below hbb hS) hbb hr
      · refine ⟨_, rfl, rfl, by simp, fun a' w' K he hS hb hK => ?_⟩
        refine box_step ?hg (N := 7) ?hd (cs := #[.slice none 0 0, .slice none 0 0, .slice none 0 0]) (t := 109) ?hr ?_; (case hd => rfl); (case hg => rfl); (case hr => first | (go_simp; done) | (go_simp; rfl))
        intro g hg w1 hbox hbb
        exact hK _ w1 (pw_cell_below hbb hS) hbb ⟨g, rfl, by rw [hg]; exact hb.size, hbox⟩
    · intro m hm
      simp only [List.mem_cons, List.not_mem_nil, or_false] at hm
      rcases hm with rfl | rfl | rfl | rfl
      · exact fun v w1 w2 hb hg => Kd.R_below hg hb
      · exact fun v w1 w2 hb hg => Kd.R_below hg hb
      · exact fun v w1 w2 hb hg => Kd.R_below hg hb
      · rintro v w1 w2 hb ⟨g, e, h1, h2⟩
        exact ⟨g, e, h1, blk_below h2 hb⟩
    · skip
      intro vs w15 hb15 hHeld hG
      have p0 := hG _ (List.mem_cons_self ..)
      have p1 := hG _ (List.mem_cons_of_mem _ (List.mem_cons_self ..))
      have p2 := hG _ (List.mem_cons_of_mem _ (List.mem_cons_of_mem _ (List.mem_cons_self ..)))
      have p3 := hG _ (List.mem_cons_of_mem _ (List.mem_cons_of_mem _ (List.mem_cons_of_mem _ (List.mem_cons_self ..))))
      clear hG
      dsimp only at p0 p1 p2
      obtain ⟨A0, k0, e0⟩ := Kd.R_slice p0
      obtain ⟨A1_, k1, e1⟩ := Kd.R_slice p1
      obtain ⟨A2_, k2, e2⟩ := Kd.R_slice p2
      rw [List.length_replicate] at e0 e1 e2
      obtain ⟨g_, e3, p3a, p3b⟩ := p3
      dsimp only at e3
      refine norm_ (a' := ?_) ?_ ?_
      rotate_left
      · simp only [List.map_cons, List.map_nil, List.filter_cons, List.filter_nil, putAll, Act.put, List.setIfInBounds_toArray, List.set_cons_zero, List.set_cons_succ, e0, e1, e2, e3]
        rfl
      rw [e0] at p0
      rw [e1] at p1
      rw [e2] at p2
      refine pure_ (i := 9) (N := some 24) (v := ?_) (a' := ?_) #[true, true, true, true, true, true, true, true, true, true, true, false] rfl rfl (by kernel_rfl) (fun _ _ _ h => h) (Or.inl ⟨by rfl, ?_⟩) ?_ ?_
      rotate_left
      · intro w'
        go_simp
        with_reducible rfl
      rotate_left
      · simp only [Act.put, List.setIfInBounds_toArray, List.set_cons_zero, List.set_cons_succ, i64_w, i32_w]
        rfl
      exact norm_ (by (simp only [putAll, Act.put, List.setIfInBounds_toArray, List.set_cons_zero, List.set_cons_succ]) <;> rfl) (hCont (.slice A0 n0 k0, .slice A1_ n0 k1, .slice A2_ n0 k2, g_) _ ⟨hHeld, hb15, p0, p1, p2, p3a, p3b⟩)
    · skip
      intro vs w15 hb15 hHeld hG
      have p0 := hG _ (List.mem_cons_self ..) (by simp)
      have p1 := hG _ (List.mem_cons_of_mem _ (List.mem_cons_self ..)) (by simp)
      have p2 := hG _ (List.mem_cons_of_mem _ (List.mem_cons_of_mem _ (List.mem_cons_self ..))) (by simp)
      clear hG
      dsimp only at p0 p1 p2
      obtain ⟨A0, k0, e0⟩ := Kd.R_slice p0
      obtain ⟨A1_, k1, e1⟩ := Kd.R_slice p1
      obtain ⟨A2_, k2, e2⟩ := Kd.R_slice p2
      rw [List.length_replicate] at e0 e1 e2
      show wpAnyLast _ _ _ _ _ _ 3 _ _ _
      refine norm_ (a' := ?_) ?_ ?_
      rotate_left
      · show putAll _ [(17, vs 17), (20, vs 20), (23, vs 23)] = _
        simp only [e0, e1, e2, putAll, Act.put, List.setIfInBounds_toArray, List.set_cons_zero, List.set_cons_succ]
        rfl
      rw [e0] at p0
      rw [e1] at p1
      rw [e2] at p2
      refine pure_ (i := 9) (N := some 24) (v := ?_) (a' := ?_) #[true, true, true, true, true, true, true, true, true, true, false, false] rfl rfl (by kernel_rfl) (fun _ _ _ h => h) (Or.inl ⟨by rfl, ?_⟩) ?_ ?_
      rotate_left
      · intro w'
        go_simp
        with_reducible rfl
      rotate_left
      · simp only [Act.put, List.setIfInBounds_toArray, List.set_cons_zero, List.set_cons_succ, i64_w, i32_w]
        rfl
      refine one_ (i := 10) (N := some 7) #[true, true, true, true, true, true, true, true, true, true, true, false] rfl rfl (by kernel_rfl) (by decide) (fun K hK => ?_)
      refine box_step ?hg (N := 7) ?hd (cs := #[.slice none 0 0, .slice none 0 0, .slice none 0 0]) (t := 109) ?hr ?_; (case hd => rfl); (case hg => rfl); (case hr => first | (go_simp; done) | (go_simp; rfl))
      intro g_ hg w16 hbox hbb
      refine hK.out _ _ (pw_cell_below hbb hHeld) (fun hHeld => ?_)
      exact norm_ (by (simp only [putAll, Act.put, List.setIfInBounds_toArray, List.set_cons_zero, List.set_cons_succ]) <;> rfl) (hCont (.slice A0 n0 k0, .slice A1_ n0 k1, .slice A2_ n0 k2, g_) _ ⟨hHeld, below_then hb15 hb15.size hbb, Kd.R_below p0 hbb, Kd.R_below p1 hbb, Kd.R_below p2 hbb, by rw [hg]; exact hb15.size, hbox⟩)
  rintro ⟨v0, v1, v2, g7⟩ w15 ⟨hHeld, hb15, p0, p1, p2, p3a, p3b⟩
  dsimp only at p0 p1 p2 p3a p3b
  refine norm_ (a' := ?_) ?_ ?_
  rotate_left
  · simp only [putAll, Act.put, List.setIfInBounds_toArray, List.set_cons_zero, List.set_cons_succ]
    rfl
  have m_HB := Aside0.mk (below_step HB.out hb15)
  have m_B2 := Aside0.mk (blk_below B2.out hb15)
  clear hb15 HB B2
  have HB := m_HB
  clear m_HB
  have B2 := m_B2
  clear m_B2
  obtain ⟨gd, cd, e0, q0, q0b, _, _⟩ := Kd.R_form p0 (by rw [List.length_replicate]; exact hn0)
  obtain ⟨gi, ci, e1, q1, q1b, _, _⟩ := Kd.R_form p1 (by rw [List.length_replicate]; exact hn0)
  obtain ⟨gb, cb, e2, q2, q2b, _, _⟩ := Kd.R_form p2 (by rw [List.length_replicate]; exact hn0)
  rw [List.length_replicate] at e0 e1 e2
  subst e0
  subst e1
  subst e2
  have HP0 := Aside0.mk p0
  have HP1 := Aside0.mk p1
  have HP2 := Aside0.mk p2
  have HP3 := Aside0.mk p3b
  have GP3 := Aside0.mk p3a
  have GP0 := Aside0.mk q0
  have GP1 := Aside0.mk q1
  have GP2 := Aside0.mk q2
  clear p0 p1 p2 p3a p3b q0 q1 q2 q0b q1b q2b
  refine last_ (i := 11) (N := none) #[true, true, true, true, true, true, true, true, true, true, true, true] rfl rfl (by kernel_rfl) (by decide) (fun K hK => ?_)
  have hs0 : w15.cell? ⟨g7, 0, none⟩ = some (.slice none 0 0) := (blk_cell HP3.out 0).trans rfl
  have hfs0 := blk_frozen HP3.out 0
  have hs1 : w15.cell? ⟨g7, 1, none⟩ = some (.slice none 0 0) := (blk_cell HP3.out 1).trans rfl
  have hfs1 := blk_frozen HP3.out 1
  have hs2 : w15.cell? ⟨g7, 2, none⟩ = some (.slice none 0 0) := (blk_cell HP3.out 2).trans rfl
  have hfs2 := blk_frozen HP3.out 2
  refine skip_ (w1 := (((w15.setCell ⟨g7, 0, none⟩ (.slice (some ⟨gd, 0, none⟩) n0 cd)).setCell ⟨g7, 1, none⟩ (.slice (some ⟨gi, 0, none⟩) n0 ci)).setCell ⟨g7, 2, none⟩ (.slice (some ⟨gb, 0, none⟩) n0 cb))) (by rfl) rfl ?_ ?_
  · go_simp
  refine hK.out _ _ ?_
  clear hK K hs0 hs1 hs2 hfs0 hfs1 hfs2 hHeld
  have m0_ := Aside0.mk (Kd.R_set (Kd.R_set (Kd.R_set HP0.out HP3.out (by decide) 0 (.slice (some ⟨gd, 0, none⟩) n0 cd)) (blk_put HP3.out 0 (.slice (some ⟨gd, 0, none⟩) n0 cd) rfl) (by decide) 1 (.slice (some ⟨gi, 0, none⟩) n0 ci)) (blk_put (blk_put HP3.out 0 (.slice (some ⟨gd, 0, none⟩) n0 cd) rfl) 1 (.slice (some ⟨gi, 0, none⟩) n0 ci) rfl) (by decide) 2 (.slice (some ⟨gb, 0, none⟩) n0 cb))
  have m1_ := Aside0.mk (Kd.R_set (Kd.R_set (Kd.R_set HP1.out HP3.out (by decide) 0 (.slice (some ⟨gd, 0, none⟩) n0 cd)) (blk_put HP3.out 0 (.slice (some ⟨gd, 0, none⟩) n0 cd) rfl) (by decide) 1 (.slice (some ⟨gi, 0, none⟩) n0 ci)) (blk_put (blk_put HP3.out 0 (.slice (some ⟨gd, 0, none⟩) n0 cd) rfl) 1 (.slice (some ⟨gi, 0, none⟩) n0 ci) rfl) (by decide) 2 (.slice (some ⟨gb, 0, none⟩) n0 cb))
  have m2_ := Aside0.mk (Kd.R_set (Kd.R_set (Kd.R_set HP2.out HP3.out (by decide) 0 (.slice (some ⟨gd, 0, none⟩) n0 cd)) (blk_put HP3.out 0 (.slice (some ⟨gd, 0, none⟩) n0 cd) rfl) (by decide) 1 (.slice (some ⟨gi, 0, none⟩) n0 ci)) (blk_put (blk_put HP3.out 0 (.slice (some ⟨gd, 0, none⟩) n0 cd) rfl) 1 (.slice (some ⟨gi, 0, none⟩) n0 ci) rfl) (by decide) 2 (.slice (some ⟨gb, 0, none⟩) n0 cb))
  have m3_ := Aside0.mk (blk_put (blk_put (blk_put HP3.out 0 (.slice (some ⟨gd, 0, none⟩) n0 cd) rfl) 1 (.slice (some ⟨gi, 0, none⟩) n0 ci) rfl) 2 (.slice (some ⟨gb, 0, none⟩) n0 cb) rfl)
  clear m0_ m1_ m2_ m3_
  obtain ⟨w16, hw16⟩ : ∃ x_, x_ = (((w15.setCell ⟨g7, 0, none⟩ (.slice (some ⟨gd, 0, none⟩) n0 cd)).setCell ⟨g7, 1, none⟩ (.slice (some ⟨gi, 0, none⟩) n0 ci)).setCell ⟨g7, 2, none⟩ (.slice (some ⟨gb, 0, none⟩) n0 cb)) := ⟨_, rfl⟩
  have m0_ : Aside0 (Kd.R (Kd.int .i64) 3 w16 w14.heap.size (fun _ => True) (.slice (some ⟨gd, 0, none⟩) n0 cd) (List.replicate n0 0)) := ⟨by rw [hw16]; exact Kd.R_set (Kd.R_set (Kd.R_set (HP0.out) (HP3.out) (by decide) 0 (.slice (some ⟨gd, 0, none⟩) n0 cd)) (blk_put (HP3.out) 0 (.slice (some ⟨gd, 0, none⟩) n0 cd) rfl) (by decide) 1 (.slice (some ⟨gi, 0, none⟩) n0 ci)) (blk_put (blk_put (HP3.out) 0 (.slice (some ⟨gd, 0, none⟩) n0 cd) rfl) 1 (.slice (some ⟨gi, 0, none⟩) n0 ci) rfl) (by decide) 2 (.slice (some ⟨gb, 0, none⟩) n0 cb)⟩
  have m1_ : Aside0 (Kd.R Kd.bool 4 w16 w14.heap.size (fun _ => True) (.slice (some ⟨gi, 0, none⟩) n0 ci) (List.replicate n0 false)) := ⟨by rw [hw16]; exact Kd.R_set (Kd.R_set (Kd.R_set (HP1.out) (HP3.out) (by decide) 0 (.slice (some ⟨gd, 0, none⟩) n0 cd)) (blk_put (HP3.out) 0 (.slice (some ⟨gd, 0, none⟩) n0 cd) rfl) (by decide) 1 (.slice (some ⟨gi, 0, none⟩) n0 ci)) (blk_put (blk_put (HP3.out) 0 (.slice (some ⟨gd, 0, none⟩) n0 cd) rfl) 1 (.slice (some ⟨gi, 0, none⟩) n0 ci) rfl) (by decide) 2 (.slice (some ⟨gb, 0, none⟩) n0 cb)⟩
  have m2_ : Aside0 (Kd.R k38 38 w16 w14.heap.size (fun _ => True) (.slice (some ⟨gb, 0, none⟩) n0 cb) (List.replicate n0 z38)) := ⟨by rw [hw16]; exact Kd.R_set (Kd.R_set (Kd.R_set (HP2.out) (HP3.out) (by decide) 0 (.slice (some ⟨gd, 0, none⟩) n0 cd)) (blk_put (HP3.out) 0 (.slice (some ⟨gd, 0, none⟩) n0 cd) rfl) (by decide) 1 (.slice (some ⟨gi, 0, none⟩) n0 ci)) (blk_put (blk_put (HP3.out) 0 (.slice (some ⟨gd, 0, none⟩) n0 cd) rfl) 1 (.slice (some ⟨gi, 0, none⟩) n0 ci) rfl) (by decide) 2 (.slice (some ⟨gb, 0, none⟩) n0 cb)⟩
  have m3_ : Aside0 (w16.heap[g7]? = some (.cells #[.slice (some ⟨gd, 0, none⟩) n0 cd, .slice (some ⟨gi, 0, none⟩) n0 ci, .slice (some ⟨gb, 0, none⟩) n0 cb] 109 (0, 0))) := ⟨by rw [hw16]; exact blk_put (blk_put (blk_put (HP3.out) 0 (.slice (some ⟨gd, 0, none⟩) n0 cd) rfl) 1 (.slice (some ⟨gi, 0, none⟩) n0 ci) rfl) 2 (.slice (some ⟨gb, 0, none⟩) n0 cb) rfl⟩
  have m4_ : Aside0 (w16.heap[g2]? = some (.cells #[.int .i64 n0, .bool a0_1, .slice A2 l.length c2] 24 (0, 0))) := ⟨by rw [hw16]; exact blk_far (blk_far (blk_far B2.out (by show _ ≠ g7; have := L2.out; have := GP3.out; omega) _) (by show _ ≠ g7; have := L2.out; have := GP3.out; omega) _) (by show _ ≠ g7; have := L2.out; have := GP3.out; omega) _⟩
  have m8_ : Aside0 (Below w.heap.size w w16) := ⟨by rw [hw16]; exact below_set (below_set (below_set HB.out (Nat.le_trans S14.out GP3.out)) (Nat.le_trans S14.out GP3.out)) (Nat.le_trans S14.out GP3.out)⟩
  rw [← hw16]
  clear hw16 HP0 HP1 HP2 HP3 B2 HB
  have HD := m0_
  clear m0_
  have HI := m1_
  clear m1_
  have HQ := m2_
  clear m2_
  have B7 := m3_
  clear m3_
  have B2 := m4_
  clear m4_
  have HB := m8_
  clear m8_
  rw [← setI_zero] at HI
  refine done_ (by kernel_rfl) ?_
  have hq1 : w16.cell? ⟨g7, 1, none⟩ = some (.slice (some ⟨gi, 0, none⟩) n0 ci) := (blk_cell B7.out 1).trans rfl
  go_wp2_with fail
  clear hq1
  go_loopw [28] (fun v28 w' => ∃ v : Nat, v ≤ n0 ∧ v28 = .int .i64 v ∧ Aside0 (Kd.R (Kd.int .i64) 3 w' w14.heap.size (fun _ => True) (.slice (some ⟨gd, 0, none⟩) n0 cd) (List.replicate n0 0)) ∧ Aside0 (Kd.R Kd.bool 4 w' w14.heap.size (fun _ => True) (.slice (some ⟨gi, 0, none⟩) n0 ci) (setI n0 v)) ∧ Aside0 (Kd.R k38 38 w' w14.heap.size (fun _ => True) (.slice (some ⟨gb, 0, none⟩) n0 cb) (List.replicate n0 z38)) ∧ Aside0 (w'.heap[g7]? = some (.cells #[.slice (some ⟨gd, 0, none⟩) n0 cd, .slice (some ⟨gi, 0, none⟩) n0 ci, .slice (some ⟨gb, 0, none⟩) n0 cb] 109 (0, 0))) ∧ Aside0 (w'.heap[g2]? = some (.cells #[.int .i64 n0, .bool a0_1, .slice A2 l.length c2] 24 (0, 0))) ∧ Aside0 (Below w.heap.size w w')) (fun v28 _ => n0 - (intOf v28).toNat)
  case atStart => exact ⟨0, Nat.zero_le _, rfl, HD, HI, HQ, B7, B2, HB⟩
  case round =>
    clear HD HI HQ B7 B2 HB
    obtain ⟨v, hv, rfl, HD, HI, HQ, B7, B2, HB⟩ := hrel
    by_cases hlt : v < n0
    · have hps : 0 ≤ ((v : Nat) : Int) := by omega
      have hqs : ((v : Nat) : Int) < (n0 : Int) := by omega
      have c29 : decide ((v : Int) < (n0 : Int)) = true := decide_eq_true hqs
      have hq1 : wr.cell? ⟨g7, 1, none⟩ = some (.slice (some ⟨gi, 0, none⟩) n0 ci) := (blk_cell B7.out 1).trans rfl
      obtain ⟨ads, eas, hcs⟩ := Kd.at_bool (Kd.R_reads' HI.out).2.2 (v : Int) hps (by rw [setI_len]; exact hqs)
      cases eas
      simp only [Int.toNat_natCast, add_plain] at hcs
      obtain ⟨_, _, _, _, hfs_⟩ := Kd.R_elem HI.out false (v : Int) hps hqs
      have hfs := hfs_ 0
      simp only [Int.toNat_natCast, Nat.add_zero] at hfs
      (try rw [show Kd.bool.sz = 1 from rfl, Nat.mul_one] at hfs)
      clear hfs_
      have P_ := Kd.R_putg HI.out (v : Int) true
      simp only [Int.toNat_natCast] at P_
      rw [setI_set n0 v] at P_
      have HPU := Aside0.mk P_
      clear P_
      go_wp2_with fail
      go_roundw
      case rel => exact ⟨v + 1, by omega, by first | rfl | go_num, ⟨Kd.R_over' HD.out (Kd.R_typed HI.out) (by decide) HPU.out.2⟩, ⟨HPU.out.1⟩, ⟨Kd.R_over' HQ.out (Kd.R_typed HI.out) (by decide) HPU.out.2⟩, ⟨blk_grown B7.out HPU.out.2 (Kd.R_ne HI.out B7.out (by decide))⟩, ⟨blk_grown B2.out HPU.out.2 (Kd.R_ne HI.out B2.out (by decide))⟩, ⟨HB.out.grown HPU.out.2 HB.out.size (fun k hk => by injection hk with hk; subst hk; exact Nat.le_trans S14.out GP1.out)⟩⟩
      case measure => simp [intOf] <;> omega
    · have ev : n0 = v := by omega
      subst ev
      have c29 : decide ((n0 : Int) < (n0 : Int)) = false := decide_eq_false (by omega)
      go_wp2_with fail
      refine start_ (n := 7) (S := fun w' => w'.cell? ⟨g7, 0, none⟩ = some (.slice (some ⟨gd, 0, none⟩) n0 cd) ∧ w'.cell? ⟨g7, 1, none⟩ = some (.slice (some ⟨gi, 0, none⟩) n0 ci) ∧ w'.cell? ⟨g7, 2, none⟩ = some (.slice (some ⟨gb, 0, none⟩) n0 cb) ∧ w'.cell? ⟨g2, 0, none⟩ = some (.int .i64 n0) ∧ w'.cell? ⟨g2, 1, none⟩ = some (.bool a0_1) ∧ w'.cell? ⟨g2, 2, none⟩ = some (.slice A2 l.length c2)) (ds := []) #[false, false, false, false, false, false, false] (by kernel_rfl) rfl rfl ⟨(blk_cell B7.out 0).trans rfl, (blk_cell B7.out 1).trans rfl, (blk_cell B7.out 2).trans rfl, (blk_cell B2.out 0).trans rfl, (blk_cell B2.out 1).trans rfl, (blk_cell B2.out 2).trans rfl⟩ (fun hHeld => ?_)
      have m0_ := Aside0.mk (Kd.R_drew HD.out)
      have m1_ := Aside0.mk (Kd.R_drew HI.out)
      have m2_ := Aside0.mk (Kd.R_drew HQ.out)
      have m3_ := Aside0.mk (blk_below B7.out (below_drew (Below.refl _ _)))
      have m4_ := Aside0.mk (blk_below B2.out (below_drew (Below.refl _ _)))
      have m5_ := Aside0.mk (below_drew HB.out)
      clear HD HI HQ B7 B2 HB
      have HD := m0_
      clear m0_
      have HI := m1_
      clear m1_
      have HQ := m2_
      clear m2_
      have B7 := m3_
      clear m3_
      have B2 := m4_
      clear m4_
      have HB := m5_
      clear m5_
      generalize wr.drew = w18 at hHeld HD HI HQ B7 B2 HB ⊢
      refine take_ (i := 0) (N := some 36) (v := ?_) (a' := ?_) #[true, false, false, false, false, false, false] rfl rfl (by kernel_rfl) (fun _ _ _ h => h) (Or.inl ⟨by rfl, ?_⟩) hHeld ?_ ?_
      rotate_left
      · rintro w' ⟨s0, s1, s2, s3, s4, s5⟩
        go_simp
        with_reducible rfl
      rotate_left
      · simp only [Act.put, List.setIfInBounds_toArray, List.set_cons_zero, List.set_cons_succ, i64_w, i32_w]
        rfl
      refine pure_ (i := 1) (N := some 37) (v := ?_) (a' := ?_) #[true, true, false, false, false, false, false] rfl rfl (by kernel_rfl) (fun _ _ _ h => h) (Or.inl ⟨by rfl, ?_⟩) ?_ ?_
      rotate_left
      · intro w'
        go_simp
        with_reducible rfl
      rotate_left
      · simp only [Act.put, List.setIfInBounds_toArray, List.set_cons_zero, List.set_cons_succ, i64_w, i32_w]
        rfl
      refine take_ (i := 3) (N := some 39) (v := ?_) (a' := ?_) #[true, true, false, true, false, false, false] rfl rfl (by kernel_rfl) (fun _ _ _ h => h) (Or.inl ⟨by rfl, ?_⟩) hHeld ?_ ?_
      rotate_left
      · rintro w' ⟨s0, s1, s2, s3, s4, s5⟩
        go_simp
        with_reducible rfl
      rotate_left
      · simp only [Act.put, List.setIfInBounds_toArray, List.set_cons_zero, List.set_cons_succ, i64_w, i32_w]
        rfl
      refine one_ (i := 2) (N := some 38) #[true, true, true, true, false, false, false] rfl rfl (by kernel_rfl) (by decide) (fun K hK => ?_)
      refine goes_ Try.func101 (by kernel_rfl) rfl #[.agg #[.int .i64 n0, .bool a0_1, .slice A2 l.length c2], .slice A1 F.length c1] (by rfl) rfl rfl (by (try simp only [List.map_toArray, List.map_cons, List.map_nil]); first | done | rfl) ?_
      refine (at_calls n0 a0_1 A2 c2 l A1 c1 F.length _ (Kd.C_below H2.out HB.out) HC2.out (by omega) (by omega) (by have := HR.out.arcs; omega) (fun k hk => (HR.out.ends k hk).1) (fun k hk => (HR.out.ends k hk).2)).mono ?_
      rintro e w19 ⟨vr, rfl, hS, hb⟩
      obtain ⟨A4, c4, e4⟩ := Kd.S_slice hS
      subst e4
      rw [rowsAt_len] at hS ⊢
      refine ⟨_, rfl, ?_⟩
      have X0 : Aside0 (gd < w18.heap.size) := ⟨Kd.R_lt HD.out _ rfl⟩
      have X1 : Aside0 (gi < w18.heap.size) := ⟨Kd.R_lt HI.out _ rfl⟩
      have X2 : Aside0 (gb < w18.heap.size) := ⟨Kd.R_lt HQ.out _ rfl⟩
      have HV := Aside0.mk (Kd.V_mono (Kd.S_V (base' := 0) (Kd.S_bound hS)) (fun k hk => (show w18.heap.size ≤ k from hk.2.1)))
      have m0_ := Aside0.mk (Kd.R_below HD.out hb)
      have m1_ := Aside0.mk (Kd.R_below HI.out hb)
      have m2_ := Aside0.mk (Kd.R_below HQ.out hb)
      have m3_ := Aside0.mk (blk_below B7.out hb)
      have m4_ := Aside0.mk (blk_below B2.out hb)
      have m5_ := Aside0.mk (below_step HB.out hb)
      clear HD HI HQ B7 B2 HB
      have HD := m0_
      clear m0_
      have HI := m1_
      clear m1_
      have HQ := m2_
      clear m2_
      have B7 := m3_
      clear m3_
      have B2 := m4_
      clear m4_
      have HB := m5_
      clear m5_
      clear hS hb
      refine hK.out _ _ ⟨(blk_cell B7.out 0).trans rfl, (blk_cell B7.out 1).trans rfl, (blk_cell B7.out 2).trans rfl, (blk_cell B2.out 0).trans rfl, (blk_cell B2.out 1).trans rfl, (blk_cell B2.out 2).trans rfl⟩ (fun hHeld => ?_)
      clear hK K
      refine norm_ (a' := ?_) ?_ ?_
      rotate_left
      · show Act.put _ (some 38) _ = _
        simp only [Act.put, List.setIfInBounds_toArray, List.set_cons_zero, List.set_cons_succ, i64_w, i32_w]
        rfl
      refine one_ (i := 4) (N := some 40) #[true, true, true, true, true, false, false] rfl rfl (by kernel_rfl) (by decide) (fun K hK => ?_)
      refine goes_ Try.func100 (by kernel_rfl) rfl #[.agg #[.int .i64 n0, .bool a0_1, .slice A2 l.length c2, .slice A1 F.length c1, .slice A4 n0 c4], .agg #[.slice (some ⟨gd, 0, none⟩) n0 cd, .slice (some ⟨gi, 0, none⟩) n0 ci, .slice (some ⟨gb, 0, none⟩) n0 cb]] (by rfl) rfl rfl (by (try simp only [List.map_toArray, List.map_cons, List.map_nil]); first | done | rfl) ?_
      refine (settled_calls n0 a0_1 A2 c2 l A1 c1 F A4 c4 gd gi gb cd ci cb w14.heap.size (allR n0) w19 HR.out (allR_ok n0) (bd_zero n0) HC2.out HC1.out (Kd.F_mono (Kd.F_below (Kd.C_F heap74 H2.out) HB.out) (fun k hk => ⟨by have := S14.out; have := GP0.out; omega, by have := S14.out; have := GP1.out; omega, by have := S14.out; have := GP2.out; omega⟩)) (Kd.F_mono (Kd.F_below (Kd.C_F (Kd.heap_int _) H3.out) HB.out) (fun k hk => ⟨by have := S14.out; have := GP0.out; omega, by have := S14.out; have := GP1.out; omega, by have := S14.out; have := GP2.out; omega⟩)) (Kd.V_mono HV.out (fun k hk => ⟨by have := X0.out; omega, by have := X1.out; omega, by have := X2.out; omega⟩)) HD.out HI.out HQ.out).mono ?_
      rw [← HXT.out]
      rintro e w20 ⟨rfl, hkp, hd, hi, hq⟩
      refine ⟨_, rfl, ?_⟩
      have m_ := Aside0.mk ((hkp.block _ (blk_lt B7.out) (fun e => Kd.R_ne HD.out B7.out (by decide) (congrArg some e)) (fun e => Kd.R_ne HI.out B7.out (by decide) (congrArg some e)) (fun e => Kd.R_ne HQ.out B7.out (by decide) (congrArg some e))).trans B7.out)
      clear B7
      have B7 := m_
      clear m_
      have m_ := Aside0.mk ((hkp.block _ (blk_lt B2.out) (fun e => Kd.R_ne HD.out B2.out (by decide) (congrArg some e)) (fun e => Kd.R_ne HI.out B2.out (by decide) (congrArg some e)) (fun e => Kd.R_ne HQ.out B2.out (by decide) (congrArg some e))).trans B2.out)
      clear B2
      have B2 := m_
      clear m_
      have m_ := Aside0.mk (hkp.toBelow HB.out HB.out.size (Nat.le_trans S14.out GP0.out) (Nat.le_trans S14.out GP1.out) (Nat.le_trans S14.out GP2.out))
      clear HB HD HI HQ HV hkp hd hi hq
      have HB := m_
      clear m_
      refine hK.out _ _ ⟨(blk_cell B7.out 0).trans rfl, (blk_cell B7.out 1).trans rfl, (blk_cell B7.out 2).trans rfl, (blk_cell B2.out 0).trans rfl, (blk_cell B2.out 1).trans rfl, (blk_cell B2.out 2).trans rfl⟩ (fun hHeld => ?_)
      clear hK K
      refine norm_ (a' := ?_) ?_ ?_
      rotate_left
      · show Act.put _ (some 40) _ = _
        simp only [Act.put, List.setIfInBounds_toArray, List.set_cons_zero, List.set_cons_succ, i64_w, i32_w]
        rfl
      refine pure_ (i := 5) (N := some 4) (v := ?_) (a' := ?_) #[true, true, true, true, true, true, false] rfl rfl (by kernel_rfl) (fun _ _ _ h => h) (Or.inl ⟨by rfl, ?_⟩) ?_ ?_
      rotate_left
      · intro w'
        go_simp
        with_reducible rfl
      rotate_left
      · simp only [Act.put, List.setIfInBounds_toArray, List.set_cons_zero, List.set_cons_succ, i64_w, i32_w]
        rfl
      refine pure_ (i := 6) (N := some 5) (v := ?_) (a' := ?_) #[true, true, true, true, true, true, true] rfl rfl (by kernel_rfl) (fun _ _ _ h => h) (Or.inl ⟨by rfl, ?_⟩) ?_ ?_
      rotate_left
      · intro w'
        go_simp
        with_reducible rfl
      rotate_left
      · simp only [Act.put, List.setIfInBounds_toArray, List.set_cons_zero, List.set_cons_succ, i64_w, i32_w]
        rfl
      refine done_ (by kernel_rfl) ?_
      go_wp2_with fail
      first | go_ret | go_ret2 | go_ret3
      exact ⟨rfl, HB.out⟩
end Go.Proofs.Ytkcpanpdipmmmaa.H

/- The program's times and freedom, and the document's: the same (plain). -/
set_option linter.unusedVariables false
set_option linter.unusedSimpArgs false
namespace Go.Proofs.Ytkcpanpdipmmmaa.H
open Go.RowKit Go.Proofs.YtkcpanpdipmmmaaW.PrintWords Go.Proofs.YtkcpanpdipmmmaaW.PrintLast Go.Proofs.YtkcpanpdipmmmaaW.PrintMore Go.Proofs.Ytkcpanpdipmmmaa.P Go.Proofs.Ytkcpanpdipmmmaa.Q
def absF (x : Rf) : Tm := fun v => if x.I.getD v false then some (x.D.getD v 0) else none
def edgeF (l : List S74) (s : S38) : Ed := ((stFrom l s).toNat, (stTo l s).toNat, stTime l s)
theorem visF_abs {l : List S74} {n : Nat} {x : Rf} (h : x.Ok n) (s : S38) (hw : (stTo l s).toNat < n) :
    absF (visF l x s) = relax (absF x) (edgeF l s) ∧ (visF l x s).OK = (x.OK && !trig (absF x) (edgeF l s)) := by
  have htr : trig (absF x) (edgeF l s) = (x.I.getD (stFrom l s).toNat false && (!x.I.getD (stTo l s).toNat false || decide (x.D.getD (stFrom l s).toNat 0 + stTime l s < x.D.getD (stTo l s).toNat 0))) := by
    unfold trig edgeF
    cases hv : x.I.getD (stFrom l s).toNat false with
    | false =>
      have h1 : absF x (stFrom l s).toNat = none := by unfold absF; rw [hv]; rfl
      simp only [h1]
      rfl
    | true =>
      have h1 : absF x (stFrom l s).toNat = some (x.D.getD (stFrom l s).toNat 0) := by unfold absF; rw [hv]; rfl
      simp only [h1]
      cases hi : x.I.getD (stTo l s).toNat false with
      | false =>
        have h2 : absF x (stTo l s).toNat = none := by unfold absF; rw [hi]; rfl
        rw [h2]
        rfl
      | true =>
        have h2 : absF x (stTo l s).toNat = some (x.D.getD (stTo l s).toNat 0) := by unfold absF; rw [hi]; rfl
        rw [h2]
        rfl
  cases ht : trig (absF x) (edgeF l s) with
  | false =>
    have e : visF l x s = x := by unfold visF; rw [← htr, ht]; rfl
    rw [e, relax_off ht]
    exact ⟨rfl, by simp⟩
  | true =>
    have e : visF l x s = ⟨x.D.set (stTo l s).toNat (x.D.getD (stFrom l s).toNat 0 + stTime l s), x.I.set (stTo l s).toNat true, false⟩ := by unfold visF; rw [← htr, ht]; rfl
    obtain ⟨y, hy, _⟩ := trig_some ht
    have hy2 : y = x.D.getD (stFrom l s).toNat 0 := by
      unfold absF edgeF at hy
      simp only at hy
      split at hy
      · injection hy with hy; exact hy.symm
      · cases hy
    rw [e]
    refine ⟨?_, by simp⟩
    funext u
    rw [relax_on ht hy]
    show (if (x.I.set (stTo l s).toNat true).getD u false = true then some ((x.D.set (stTo l s).toNat (x.D.getD (stFrom l s).toNat 0 + stTime l s)).getD u 0) else none) = if u = (stTo l s).toNat then _ else absF x u
    by_cases hu : u = (stTo l s).toNat
    · subst hu
      rw [if_pos rfl, getD_set_eq _ _ _ _ (by rw [h.hI]; exact hw), getD_set_eq _ _ _ _ (by rw [h.hD]; exact hw), if_pos rfl, hy2]
      rfl
    · rw [if_neg hu, getD_set_ne _ _ _ _ _ (Ne.symm hu), getD_set_ne _ _ _ _ _ (Ne.symm hu)]
      rfl
theorem foldF_abs {l : List S74} {n : Nat} (S : List S38) (hw : ∀ s, s ∈ S → (stTo l s).toNat < n) : ∀ {x : Rf} (h : x.Ok n),
    (S.foldl (visF l) x).Ok n ∧ absF (S.foldl (visF l) x) = pass (S.map (edgeF l)) (absF x) ∧ (S.foldl (visF l) x).OK = (x.OK && !(passT (S.map (edgeF l)) (absF x) false).2) := by
  induction S with
  | nil => intro x h; exact ⟨h, rfl, by simp [passT]⟩
  | cons s S ih =>
    intro x h
    obtain ⟨h1, h2⟩ := visF_abs h s (hw s List.mem_cons_self)
    obtain ⟨h3, h4, h5⟩ := ih (fun s hs => hw s (List.mem_cons_of_mem _ hs)) (visF_ok (l := l) h s)
    rw [List.foldl_cons, List.map_cons]
    refine ⟨h3, ?_, ?_⟩
    · rw [h4, h1]; rfl
    · rw [h5, h2, h1]
      show _ = (x.OK && !(passT _ (relax (absF x) (edgeF l s)) (false || trig (absF x) (edgeF l s))).2)
      rw [passT_or _ _ (false || _), Bool.false_or]
      cases x.OK <;> cases trig (absF x) (edgeF l s) <;> simp
theorem roundF_abs {l : List S74} {n : Nat} (S : List S38) (hw : ∀ s, s ∈ S → (stTo l s).toNat < n) {x : Rf} (h : x.Ok n) :
    (roundF l S x).Ok n ∧ absF (roundF l S x) = pass (S.map (edgeF l)) (absF x) ∧ (roundF l S x).OK = !(passT (S.map (edgeF l)) (absF x) false).2 := by
  obtain ⟨h1, h2, h3⟩ := foldF_abs S hw (x := { x with OK := true }) ⟨h.hD, h.hI⟩
  exact ⟨h1, h2, by unfold roundF; rw [h3, Bool.true_and]; rfl⟩
theorem itF_abs {l : List S74} {n : Nat} (S : List S38) (hw : ∀ s, s ∈ S → (stTo l s).toNat < n) (k : Nat) : ∀ {x : Rf} (h : x.Ok n),
    (itF l S k x).Ok n ∧ absF (itF l S k x) = its (S.map (edgeF l)) k (absF x) ∧ (itF l S (k + 1) x).OK = !(passT (S.map (edgeF l)) (its (S.map (edgeF l)) k (absF x)) false).2 := by
  induction k with
  | zero =>
    intro x h
    exact ⟨h, rfl, (roundF_abs S hw h).2.2⟩
  | succ k ih =>
    intro x h
    obtain ⟨h1, h2, _⟩ := roundF_abs S hw h
    obtain ⟨h4, h5, h6⟩ := ih h1
    refine ⟨h4, ?_, ?_⟩
    · show absF (itF l S k (roundF l S x)) = _
      rw [h5, h2]
      rfl
    · show (itF l S (k + 1) (roundF l S x)).OK = _
      rw [h6, h2]
      rfl
def refE (l : List S74) (F : List Int) : List Ed := (stepsR l F F.length).map (edgeF l)
theorem refE_in {l : List S74} {F : List Int} {n : Nat} (hr : Right l F n) : ∀ e, e ∈ refE l F → e.1 < n ∧ e.2.1 < n := by
  intro e he
  obtain ⟨s, hs, rfl⟩ := List.mem_map.1 he
  have h1 := stFrom_in hr (stepsR_of hr s hs)
  have h2 := stTo_in hr (stepsR_of hr s hs)
  exact ⟨by show (stFrom l s).toNat < n; omega, by show (stTo l s).toNat < n; omega⟩
theorem liveE_mem {l : List S74} {F : List Int} {n : Nat} (hr : Right l F n) (e : Ed) : e ∈ liveE l F n ↔ e ∈ refE l F := by
  unfold liveE refE
  rw [List.mem_flatMap, List.mem_map]
  constructor
  · rintro ⟨v, hv, he⟩
    obtain ⟨s, hs, rfl⟩ := List.mem_map.1 he
    obtain ⟨hs1, hs2⟩ := List.mem_filter.1 hs
    have hso := stL_of hs1
    refine ⟨s, (mem_stepsR l F F.length s).2 ⟨by rw [hr.len]; exact hso, of_decide_eq_true hs2⟩, ?_⟩
    unfold edgeF edgeS
    rw [stL_from hs1, Int.toNat_natCast]
  · rintro ⟨s, hs, rfl⟩
    have hso := stepsR_of hr s hs
    have hf := stFrom_in hr hso
    refine ⟨(stFrom l s).toNat, List.mem_range.2 (by omega), List.mem_map.2 ⟨s, List.mem_filter.2 ⟨?_, decide_eq_true ((mem_stepsR l F F.length s).1 hs).2⟩, rfl⟩⟩
    rw [mem_stL, Int.toNat_of_nonneg hf.1]
    obtain ⟨i, h1, h2⟩ := hso
    refine ⟨i, h1, h2, ?_⟩
    unfold stFrom
    rw [h2]
    cases s.f1
    · exact Or.inl ⟨rfl, rfl⟩
    · exact Or.inr ⟨rfl, rfl⟩
theorem stTo_lt {l : List S74} {F : List Int} {n : Nat} (hr : Right l F n) : ∀ (v : Nat) (s : S38), s ∈ stL l v l.length → (stTo l s).toNat < n := by
  intro v s hs
  have := stTo_in hr (stL_of hs)
  omega
/-- A node that is not come to has the time 0. -/
def ZR (D : List Int) (I : List Bool) : Prop := ∀ v : Nat, I.getD v false = false → D.getD v 0 = 0
theorem ZR.set {D : List Int} {I : List Bool} (h : ZR D I) (hl : D.length = I.length) (u : Nat) (d : Int) : ZR (D.set u d) (I.set u true) := by
  intro v hv
  by_cases e : u = v
  · subst e
    by_cases hu : u < I.length
    · rw [getD_set_eq _ _ _ _ hu] at hv; cases hv
    · rw [List.getD_eq_getElem?_getD, List.getElem?_eq_none (by rw [List.length_set]; omega)]; rfl
  · rw [getD_set_ne _ _ _ _ _ e] at hv ⊢
    exact h v hv
theorem zr_visR {l : List S74} {F : List Int} {n v : Nat} {x : Rch} (h : x.Ok n) (hz : ZR x.D x.I) (s : S38) : ZR (visR l F v x s).D (visR l F v x s).I := by
  unfold visR
  split
  · exact hz.set (by rw [h.hD, h.hI]) _ _
  · exact hz
theorem zr_rowR {l : List S74} {F : List Int} {n v : Nat} {x : Rch} (h : x.Ok n) (hz : ZR x.D x.I) : ZR (rowR l F x v).D (rowR l F x v).I := by
  unfold rowR
  split
  · have : ∀ (r : List S38) (y : Rch), y.Ok n → ZR y.D y.I → ZR (r.foldl (visR l F v) y).D (r.foldl (visR l F v) y).I := by
      intro r
      induction r with
      | nil => intro y _ hy; exact hy
      | cons s r ih => intro y hy1 hy2; exact ih _ (visR_ok hy1 s) (zr_visR hy1 hy2 s)
    exact this _ x h hz
  · exact hz
theorem zr_goesR {l : List S74} {F : List Int} {n : Nat} (k : Nat) : ∀ {x : Rch} (h : x.Ok n) (hz : ZR x.D x.I), ZR (goesR l F n k x).1.D (goesR l F n k x).1.I := by
  have hround : ∀ {x : Rch}, x.Ok n → ZR x.D x.I → (roundR l F n x).Ok n ∧ ZR (roundR l F n x).D (roundR l F n x).I := by
    intro x h hz
    have : ∀ (vs : List Nat) (y : Rch), y.Ok n → ZR y.D y.I → (vs.foldl (rowR l F) y).Ok n ∧ ZR (vs.foldl (rowR l F) y).D (vs.foldl (rowR l F) y).I := by
      intro vs
      induction vs with
      | nil => intro y h1 h2; exact ⟨h1, h2⟩
      | cons v vs ih => intro y h1 h2; exact ih _ (rowR_ok h1) (zr_rowR h1 h2)
    exact this _ { x with still := true } ⟨h.hD, h.hI, h.hB⟩ hz
  induction k with
  | zero => intro x h hz; exact hz
  | succ k ih =>
    intro x h hz
    obtain ⟨h1, h2⟩ := hround h hz
    unfold goesR
    split
    · exact h2
    · exact ih h1 h2
theorem zr_itF {l : List S74} {n : Nat} (S : List S38) (k : Nat) : ∀ {x : Rf} (h : x.Ok n) (hz : ZR x.D x.I), ZR (itF l S k x).D (itF l S k x).I := by
  have hv : ∀ {x : Rf} (s : S38), x.Ok n → ZR x.D x.I → ZR (visF l x s).D (visF l x s).I := by
    intro x s h hz
    unfold visF
    split
    · exact hz.set (by rw [h.hD, h.hI]) _ _
    · exact hz
  have hround : ∀ (T : List S38) {x : Rf}, x.Ok n → ZR x.D x.I → (T.foldl (visF l) x).Ok n ∧ ZR (T.foldl (visF l) x).D (T.foldl (visF l) x).I := by
    intro T
    induction T with
    | nil => intro x h1 h2; exact ⟨h1, h2⟩
    | cons s T ih => intro x h1 h2; exact ih (visF_ok h1 s) (hv s h1 h2)
  induction k with
  | zero => intro x h hz; exact hz
  | succ k ih =>
    intro x h hz
    obtain ⟨h1, h2⟩ := hround S (x := { x with OK := true }) ⟨h.hD, h.hI⟩ hz
    exact ih h1 h2
theorem lists_eq {n : Nat} {D D' : List Int} {I I' : List Bool} (h1 : D.length = n) (h2 : D'.length = n) (h3 : I.length = n) (h4 : I'.length = n) (z : ZR D I) (z' : ZR D' I')
    (h : ∀ v, (if I.getD v false then some (D.getD v 0) else none) = (if I'.getD v false then some (D'.getD v 0) else (none : Option Int))) : D = D' ∧ I = I' := by
  have hI : ∀ v, I.getD v false = I'.getD v false := by
    intro v
    have hv := h v
    cases a : I.getD v false <;> cases b : I'.getD v false
    · rfl
    · rw [a, b] at hv; simp at hv
    · rw [a, b] at hv; simp at hv
    · rfl
  have hD : ∀ v, D.getD v 0 = D'.getD v 0 := by
    intro v
    have := h v
    cases a : I.getD v false with
    | false => rw [z v a, z' v (by rw [← hI v]; exact a)]
    | true => rw [a, ← hI v, a] at this; simpa using this
  constructor
  · apply List.ext_getElem (by omega)
    intro i p q
    have := hD i
    rwa [List.getD_eq_getElem?_getD, List.getD_eq_getElem?_getD, List.getElem?_eq_getElem p, List.getElem?_eq_getElem q] at this
  · apply List.ext_getElem (by omega)
    intro i p q
    have := hI i
    rwa [List.getD_eq_getElem?_getD, List.getD_eq_getElem?_getD, List.getElem?_eq_getElem p, List.getElem?_eq_getElem q] at this
/-- What is known of the times that the document tells. -/
structure Told (l : List S74) (F : List Int) (n : Nat) (σ0 σ : Tm) : Prop where
  still : ∀ e, e ∈ refE l F → trig σ e = false
  real : ∀ v x, σ v = some x → Real (refE l F) σ0 v x
  bet : Bet σ σ0
theorem ref_told {l : List S74} {F : List Int} {n : Nat} (hr : Right l F n) {x : Rf} (hx : x.Ok n) (k : Nat) (h : (itF l (stepsR l F F.length) (k + 1) x).OK = true) : Told l F n (absF x) (absF (itF l (stepsR l F F.length) (k + 1) x)) := by
  have hw : ∀ s, s ∈ stepsR l F F.length → (stTo l s).toNat < n := fun s hs => by have := stTo_in hr (stepsR_of hr s hs); omega
  obtain ⟨_, _, h3⟩ := itF_abs _ hw k hx
  obtain ⟨_, h2, _⟩ := itF_abs _ hw (k + 1) hx
  have hq : (passT (refE l F) (its (refE l F) k (absF x)) false).2 = false := by
    rw [h3] at h
    simpa [refE] using h
  have ht := passT_false hq
  have hp : pass (refE l F) (its (refE l F) k (absF x)) = its (refE l F) k (absF x) := by rw [← passT_fst _ _ false, passT_still ht]
  have e : absF (itF l (stepsR l F F.length) (k + 1) x) = its (refE l F) k (absF x) := by
    rw [h2]
    show its (refE l F) (k + 1) (absF x) = _
    rw [its_succ, hp]
  rw [e]
  refine ⟨ht, its_real _ k _, ?_⟩
  have := its_bet (refE l F) 0 k (absF x)
  rw [Nat.zero_add] at this
  exact this
theorem ref_ok {l : List S74} {F : List Int} {n : Nat} (hr : Right l F n) {x : Rf} (hx : x.Ok n) {r : Nat → Prop} (hg : NoGain (refE l F) r) (h0 : ∀ v c, absF x v = some c → v < n ∧ r v) : (itF l (stepsR l F F.length) (n + 1) x).OK = true := by
  have hw : ∀ s, s ∈ stepsR l F F.length → (stTo l s).toNat < n := fun s hs => by have := stTo_in hr (stepsR_of hr s hs); omega
  obtain ⟨_, _, h3⟩ := itF_abs _ hw n hx
  rw [h3]
  have hp := settles (refE_in hr) hg h0 n (by omega)
  have := passT_still (pass_fix hp)
  show (!(passT (refE l F) (its (refE l F) n (absF x)) false).2) = true
  rw [this]
  rfl
theorem goes_told {l : List S74} {F : List Int} {n : Nat} (hr : Right l F n) {x : Rch} (hx : x.Ok n) (k : Nat) (h : (goesR l F n k x).2 = true) : Told l F n (absR x) (absR (goesR l F n k x).1) := by
  obtain ⟨_, ⟨m, _, h2⟩, h3, _⟩ := goesR_spec (F := F) (stTo_lt hr) k hx
  refine ⟨fun e he => h3 h e ((liveE_mem hr e).2 he), ?_, ?_⟩
  · intro v c hc
    rw [h2] at hc
    obtain ⟨u, c0, p, h4, h5, h6⟩ := its_real _ m _ v c hc
    exact ⟨u, c0, p, h4, h5.mono (fun e he => (liveE_mem hr e).1 he), h6⟩
  · rw [h2]
    have := its_bet (liveE l F n) 0 m (absR x)
    rw [Nat.zero_add] at this
    exact this
theorem goes_ok {l : List S74} {F : List Int} {n : Nat} (hr : Right l F n) {x : Rch} (hx : x.Ok n) {r : Nat → Prop} (hg : NoGain (refE l F) r) (h0 : ∀ v c, absR x v = some c → v < n ∧ r v) : (goesR l F n (n + 1) x).2 = true := by
  cases h : (goesR l F n (n + 1) x).2 with
  | true => rfl
  | false =>
    obtain ⟨_, _, _, h4⟩ := goesR_spec (F := F) (stTo_lt hr) (n + 1) hx
    have hg2 : NoGain (liveE l F n) r := hg.mono (fun e he => (liveE_mem hr e).1 he)
    exact absurd (settles (fun e he => refE_in hr e ((liveE_mem hr e).1 he)) hg2 h0 n (by omega)) (h4 h n (by omega))
theorem Told.tight {l : List S74} {F : List Int} {n : Nat} {σ0 σ : Tm} (h : Told l F n σ0 σ) : Tight (refE l F) (fun v => ∃ x, σ v = some x) (fun v => (σ v).getD 0) := still_tight h.still
theorem start_abs (n s : Nat) (hs : s < n) (v : Nat) : absR (startR n s) v = if v = s then some 0 else none := by
  unfold absR startR
  simp only
  by_cases e : v = s
  · subst e
    rw [getD_set_eq _ _ _ _ (by rw [List.length_replicate]; exact hs), if_pos rfl, if_pos rfl, List.getD_eq_getElem?_getD, List.getElem?_replicate, if_pos hs]
    rfl
  · rw [getD_set_ne _ _ _ _ _ (Ne.symm e), if_neg e, List.getD_eq_getElem?_getD, List.getElem?_replicate]
    split <;> simp
theorem startF_abs (n s : Nat) : absF (startF n s) = absR (startR n s) := rfl
theorem startF_ok (n s : Nat) : (startF n s).Ok n := ⟨by simp [startF], by simp [startF]⟩
theorem zr_start (n s : Nat) : ZR (startR n s).D (startR n s).I := by
  intro v _
  show (List.replicate n (0 : Int)).getD v 0 = 0
  rw [List.getD_eq_getElem?_getD, List.getElem?_replicate]
  split <;> rfl
/-- Told from one start: nodes below n. -/
theorem told_in {l : List S74} {F : List Int} {n : Nat} (hr : Right l F n) {σ0 σ : Tm} (h : Told l F n σ0 σ) (h0 : ∀ v c, σ0 v = some c → v < n) : ∀ v x, σ v = some x → v < n := by
  intro v x hx
  obtain ⟨u, c, p, h1, h2, hxx⟩ := h.real v x hx
  clear hxx
  have := path_nodes (refE_in hr) h2 (h0 u c h1)
  have hv : v ∈ visits u p := by
    clear h1 this h
    induction p generalizing u with
    | nil => cases h2; exact List.mem_cons_self
    | cons e p ih => exact List.mem_cons_of_mem _ (by have := ih (e.2.1) h2.2.2; simpa [visits] using this)
  exact this v hv
/-- The program's times from a node are the document's. -/
theorem far_same {l : List S74} {F : List Int} {n s : Nat} (hr : Right l F n) (hs : s < n) :
    (goesR l F n (n + 1) (startR n s)).2 = (refF l F n s).OK ∧ ((refF l F n s).OK = true → (goesR l F n (n + 1) (startR n s)).1.D = (refF l F n s).D ∧ (goesR l F n (n + 1) (startR n s)).1.I = (refF l F n s).I) := by
  have h0 : ∀ v c, absR (startR n s) v = some c → v < n := by
    intro v c h
    rw [start_abs n s hs] at h
    split at h
    · rename_i e; omega
    · cases h
  have hX : (goesR l F n (n + 1) (startR n s)).2 = true → (refF l F n s).OK = true := by
    intro h
    have ht := goes_told hr (startR_ok n s) (n + 1) h
    refine ref_ok hr (startF_ok n s) ht.tight.noGain ?_
    intro v c hc
    rw [startF_abs] at hc
    obtain ⟨y, hy, _⟩ := ht.bet v c hc
    exact ⟨h0 v c hc, y, hy⟩
  have hY : (refF l F n s).OK = true → (goesR l F n (n + 1) (startR n s)).2 = true := by
    intro h
    have ht := ref_told hr (startF_ok n s) n h
    refine goes_ok hr (startR_ok n s) ht.tight.noGain ?_
    intro v c hc
    obtain ⟨y, hy, _⟩ := ht.bet v c hc
    exact ⟨h0 v c hc, y, hy⟩
  refine ⟨?_, fun h => ?_⟩
  · cases a : (goesR l F n (n + 1) (startR n s)).2 with
    | true => exact (hX a).symm
    | false =>
      cases b : (refF l F n s).OK with
      | false => rfl
      | true => rw [hY b] at a; cases a
  · have t1 := goes_told hr (startR_ok n s) (n + 1) (hY h)
    have t2 := ref_told hr (startF_ok n s) n h
    have e := still_uniq (E := refE l F) (F := refE l F) (fun _ => Iff.rfl) t1.still t2.still t1.real t2.real t1.bet t2.bet
    have hw : ∀ s, s ∈ stepsR l F F.length → (stTo l s).toNat < n := fun s hs => by have := stTo_in hr (stepsR_of hr s hs); omega
    obtain ⟨o1, _⟩ := goesR_spec (F := F) (stTo_lt hr) (n + 1) (startR_ok n s)
    obtain ⟨o2, _⟩ := itF_abs _ hw (n + 1) (startF_ok n s)
    exact lists_eq o1.hD o2.hD o1.hI o2.hI (zr_goesR (n + 1) (startR_ok n s) (zr_start n s)) (zr_itF _ (n + 1) (startF_ok n s) (zr_start n s)) (fun v => congrFun e v)
theorem all_abs (n v : Nat) : absR (allR n) v = if v < n then some 0 else none := by
  unfold absR allR
  simp only
  by_cases e : v < n
  · have h1 : (setI n n).getD v false = true := by
      rw [List.getD_eq_getElem?_getD, List.getElem?_eq_getElem (by rw [setI_len]; exact e)]
      simp [setI, e]
    rw [h1, if_pos rfl, if_pos e, List.getD_eq_getElem?_getD, List.getElem?_replicate, if_pos e]
    rfl
  · have h1 : (setI n n).getD v false = false := by
      rw [List.getD_eq_getElem?_getD, List.getElem?_eq_none (by rw [setI_len]; omega)]
      rfl
    rw [h1, if_neg (by simp), if_neg e]
/-- No cycle gains where the document says so from each node. -/
theorem refs_noGain {l : List S74} {F : List Int} {n : Nat} (hr : Right l F n) (h : ∀ v, v < n → (refF l F n v).OK = true) : NoGain (refE l F) (fun v => v < n) := by
  refine ⟨fun e he _ => (refE_in hr e he).2, fun a p ha hp => ?_⟩
  have ht := ref_told hr (startF_ok n a) n (h a ha)
  have hs0 : absF (startF n a) a = some 0 := by rw [startF_abs, start_abs n a ha, if_pos rfl]
  have hst := still_start ht.still ht.real ht.bet hs0 (fun u x hx => by
    rw [startF_abs, start_abs n a ha] at hx
    split at hx
    · assumption
    · cases hx)
  obtain ⟨y, hy, hl⟩ := still_bound ht.still hp hst
  rw [hst] at hy
  injection hy with hy
  omega
theorem noGain_refs {l : List S74} {F : List Int} {n : Nat} (hr : Right l F n) (h : NoGain (refE l F) (fun v => v < n)) : ∀ v, v < n → (refF l F n v).OK = true := by
  intro v hv
  refine ref_ok hr (startF_ok n v) h ?_
  intro u c hc
  rw [startF_abs, start_abs n v hv] at hc
  split at hc
  · rename_i e; exact ⟨by omega, by show u < n; omega⟩
  · cases hc
theorem free_noGain {l : List S74} {F : List Int} {n : Nat} (hr : Right l F n) : (goesR l F n (n + 1) (allR n)).2 = true ↔ NoGain (refE l F) (fun v => v < n) := by
  constructor
  · intro h
    have ht := goes_told hr (allR_ok n) (n + 1) h
    have hg := ht.tight.noGain
    refine ⟨fun e he _ => (refE_in hr e he).2, fun a p ha hp => hg.cyc a p ?_ hp⟩
    obtain ⟨y, hy, _⟩ := ht.bet a 0 (by rw [all_abs, if_pos ha])
    exact ⟨y, hy⟩
  · intro h
    refine goes_ok hr (allR_ok n) h ?_
    intro v c hc
    rw [all_abs] at hc
    split at hc
    · rename_i e; exact ⟨e, e⟩
    · cases hc
/-- Free: the program asks once, the document from each node. -/
theorem free_same {l : List S74} {F : List Int} {n : Nat} (hr : Right l F n) : (goesR l F n (n + 1) (allR n)).2 = true ↔ ∀ v, v < n → (refF l F n v).OK = true :=
  ⟨fun h => noGain_refs hr ((free_noGain hr).1 h), fun h => (free_noGain hr).2 (refs_noGain hr h)⟩
end Go.Proofs.Ytkcpanpdipmmmaa.H

-- Laid by wip/tool/mk.py, by the kit's print.py, for all laws of this seat in one namespace; a function told as by hand has a proof of this session's own.
namespace Go.Proofs.Ytkcpanpdipmmmaa.P
open Go.RowKit Go.Proofs.YtkcpanpdipmmmaaW.PrintWords Go.Proofs.YtkcpanpdipmmmaaW.PrintLast Go.Proofs.YtkcpanpdipmmmaaW.PrintMore
attribute [local go_sem] max2_int min2_int max_two min_two max_three min_three max_four min_four   -- for this text's walks alone
set_option linter.unusedVariables false
set_option linter.unusedSimpArgs false

/-! ### ebbtideref03_SameInts: function 41 -/
def ebbtideref03_SameInts.l0 : Nat → List Int → List Int → Int → Option (Bool)
 | 0, _, _, _ => none
 | k + 1, x0, x1, x5 => if x5 < (x0.length : Int) then (if 0 ≤ x5 then (if x5 < (x1.length : Int) then (if (rd x0 x5) = (rd x1 x5) then (ebbtideref03_SameInts.l0 k x0 x1 (wrap64 (x5 + 1))) else (some false)) else (none)) else (none)) else (some true)
def ebbtideref03_SameInts.f (k : Nat) (l0 : List Int) (l1 : List Int) : Option (Bool) := if (l0.length : Int) = (l1.length : Int) then (ebbtideref03_SameInts.l0 k l0 l1 0) else (some false)
theorem ebbtideref03_SameInts.mono_l : ∀ k, (∀ y0 y1 y2, LeO (ebbtideref03_SameInts.l0 k y0 y1 y2) (ebbtideref03_SameInts.l0 (k + 1) y0 y1 y2))
 | 0 => fun _ _ _ r h => by simp [ebbtideref03_SameInts.l0] at h
 | k + 1 => by
  have ih0 := ebbtideref03_SameInts.mono_l k
  ·intro y0 y1 y2
   unfold ebbtideref03_SameInts.l0
   repeat' first
   | (with_reducible exact ih0 _ _ _)
   | (with_reducible exact LeO.refl _)
   | (with_reducible exact LeO.none _)
   | (with_reducible refine LeO.ite ?_ ?_)
   | (with_reducible refine LeO.bind ?_ (fun _ => ?_))
   | exact ih0 _ _ _
   | exact LeO.none _
   | refine LeO.ite ?_ ?_
   | refine LeO.bind ?_ (fun _ => ?_)
theorem ebbtideref03_SameInts.mono : ∀ a0 a1 k, LeO (ebbtideref03_SameInts.f k a0 a1) (ebbtideref03_SameInts.f (k + 1) a0 a1) := by
 intro a0 a1 k
 have ih0 := ebbtideref03_SameInts.mono_l k
 unfold ebbtideref03_SameInts.f
 repeat' first
   | (with_reducible exact ih0 _ _ _)
   | (with_reducible exact LeO.refl _)
   | (with_reducible exact LeO.none _)
   | (with_reducible refine LeO.ite ?_ ?_)
   | (with_reducible refine LeO.bind ?_ (fun _ => ?_))
   | exact ih0 _ _ _
   | exact LeO.none _
   | refine LeO.ite ?_ ?_
   | refine LeO.bind ?_ (fun _ => ?_)
set_option maxHeartbeats 8000000 in
set_option maxRecDepth 100000 in
theorem ebbtideref03_SameInts.calls (k : Nat) (A0 : Option Addr) (c0 : Nat) (l0 : List Int) (A1 : Option Addr) (c1 : Nat) (l1 : List Int) (r : Bool) (w : World) (hr0 : Kd.C (Kd.int .i64) w A0 l0.length l0) (hc0 : l0.length ≤ c0) (hr1 : Kd.C (Kd.int .i64) w A1 l1.length l1) (hc1 : l1.length ≤ c1) (h : ebbtideref03_SameInts.f k l0 l1 = some r) :
  Calls Try.prog 41 #[.slice A0 l0.length c0, .slice A1 l1.length c1] w fun e w' => e = .returned (.bool r) ∧ Drawn0 w w' := by
 have HR0 := Aside0.mk hr0
 have HC0 := Aside0.mk hc0
 clear hr0 hc0
 have HR1 := Aside0.mk hr1
 have HC1 := Aside0.mk hc1
 clear hr1 hc1
 have H : (if (l0.length : Int) = (l1.length : Int) then (ebbtideref03_SameInts.l0 k l0 l1 0) else (some false)) = some r := h
 clear h
 by_cases c3 : (l0.length : Int) = (l1.length : Int)
 rotate_left
 ·rw [if_neg c3] at H
  have c3b0 : ((l0.length : Int) == (l1.length : Int)) = false := beq_eq_false_iff_ne.mpr c3
  have c3b1 : ((l0.length : Int) != (l1.length : Int)) = true := bne_iff_ne.mpr c3
  have c3b2 : (l0.length == l1.length) = false := by first | simpa using c3 | (simp at c3 ⊢; omega)
  obtain rfl := Option.some.inj H
  go_enter Try.func41, Try.ntmps41
  go_wp2
  repeat (go_quiet (fail); try go_wp2)
  go_ret
  exact ⟨by first | rfl | (simp; done) | (simp [*]; done), by repeat (first | exact Drawn0.refl _ | apply Drawn0.step)⟩

 rw [if_pos c3] at H
 have c3b0 : ((l0.length : Int) == (l1.length : Int)) = true := beq_iff_eq.mpr c3
 have c3b1 : ((l0.length : Int) != (l1.length : Int)) = false := bne_eq_false_iff_eq.mpr c3
 have c3b2 : (l0.length == l1.length) = true := by first | simpa using c3 | (simp at c3 ⊢; omega)
 clear c3
 have H' := Aside0.mk H
 clear H
 go_enter Try.func41, Try.ntmps41
 go_wp2
 repeat (go_quiet (fail); try go_wp2)
 go_loopg [5] k (fun kq v5 w' => ∃ (x5_1 : Int), v5 = .int .i64 x5_1 ∧ Aside0 (ebbtideref03_SameInts.l0 kq l0 l1 x5_1 = some r) ∧ Aside0 (kq ≤ k) ∧ Drawn0 w w')
 case atStart => exact ⟨(0), (by first | rfl | (simp; done) | (simp [*]; done)), H', ⟨Nat.le_refl _⟩, by repeat (first | exact Drawn0.refl _ | apply Drawn0.step)⟩
 case round =>
  clear H'
  try clear c1
  try clear p2
  try clear c3
  try clear c3b0
  try clear c3b1
  try clear c3b2
  obtain ⟨x5_1, rfl, HA, HK1, ⟨m1, rfl⟩⟩ := hrel
  cases gk with
  | zero => exact absurd HA.out (by simp [ebbtideref03_SameInts.l0])
  | succ k1 =>
   have H := HA.out
   clear HA
   simp only [ebbtideref03_SameInts.l0] at H
   by_cases c4 : x5_1 < (l0.length : Int)
   rotate_left
   ·rw [if_neg c4] at H
    have c4b0 : decide (x5_1 < (l0.length : Int)) = false := decide_eq_false c4
    clear c4
    obtain rfl := Option.some.inj H
    go_wp2
    repeat (go_quiet (fail); try go_wp2)
    go_ret
    exact ⟨by first | rfl | (simp; done) | (simp [*]; done), by repeat (first | exact Drawn0.refl _ | apply Drawn0.step)⟩
   rw [if_pos c4] at H
   have c4b0 : decide (x5_1 < (l0.length : Int)) = true := decide_eq_true c4
   clear c4
   by_cases c5 : 0 ≤ x5_1
   rotate_left
   ·rw [if_neg c5] at H
    exact absurd H (by simp)
   rw [if_pos c5] at H
   have c5b0 : decide (0 ≤ x5_1) = true := decide_eq_true c5
   clear c5
   by_cases c6 : x5_1 < (l1.length : Int)
   rotate_left
   ·rw [if_neg c6] at H
    exact absurd H (by simp)
   rw [if_pos c6] at H
   have c6b0 : decide (x5_1 < (l1.length : Int)) = true := decide_eq_true c6
   clear c6
   by_cases c7 : (rd l0 x5_1) = (rd l1 x5_1)
   rotate_left
   ·rw [if_neg c7] at H
    have c7b0 : ((rd l0 x5_1) == (rd l1 x5_1)) = false := beq_eq_false_iff_ne.mpr c7
    have c7b1 : ((rd l0 x5_1) != (rd l1 x5_1)) = true := bne_iff_ne.mpr c7
    obtain rfl := Option.some.inj H
    have p215 : 0 ≤ (x5_1 : Int) := of_decide_eq_true (by first | (with_reducible assumption) | assumption)
    have q215 : x5_1 < (l0.length : Int) := of_decide_eq_true (by first | (with_reducible assumption) | assumption)
    obtain ⟨ad215, e215, hx215_0⟩ := Kd.at_int HR0.out x5_1 p215 q215
    cases e215
    replace p215 := eq_true p215
    replace q215 := eq_true q215
    have p216 : 0 ≤ (x5_1 : Int) := of_decide_eq_true (by first | (with_reducible assumption) | assumption)
    have q216 : x5_1 < (l1.length : Int) := of_decide_eq_true (by first | (with_reducible assumption) | assumption)
    obtain ⟨ad216, e216, hx216_0⟩ := Kd.at_int HR1.out x5_1 p216 q216
    cases e216
    replace p216 := eq_true p216
    replace q216 := eq_true q216
    go_wp2
    repeat (go_quiet (fail); try go_wp2)
    go_ret
    exact ⟨by first | rfl | (simp; done) | (simp [*]; done), by repeat (first | exact Drawn0.refl _ | apply Drawn0.step)⟩
   rw [if_pos c7] at H
   have c7b0 : ((rd l0 x5_1) == (rd l1 x5_1)) = true := beq_iff_eq.mpr c7
   have c7b1 : ((rd l0 x5_1) != (rd l1 x5_1)) = false := bne_eq_false_iff_eq.mpr c7
   clear c7
   have H' := Aside0.mk H
   clear H
   have p215 : 0 ≤ (x5_1 : Int) := of_decide_eq_true (by first | (with_reducible assumption) | assumption)
   have q215 : x5_1 < (l0.length : Int) := of_decide_eq_true (by first | (with_reducible assumption) | assumption)
   obtain ⟨ad215, e215, hx215_0⟩ := Kd.at_int HR0.out x5_1 p215 q215
   cases e215
   replace p215 := eq_true p215
   replace q215 := eq_true q215
   have p216 : 0 ≤ (x5_1 : Int) := of_decide_eq_true (by first | (with_reducible assumption) | assumption)
   have q216 : x5_1 < (l1.length : Int) := of_decide_eq_true (by first | (with_reducible assumption) | assumption)
   obtain ⟨ad216, e216, hx216_0⟩ := Kd.at_int HR1.out x5_1 p216 q216
   cases e216
   replace p216 := eq_true p216
   replace q216 := eq_true q216
   go_wp2
   repeat (go_quiet (fail); try go_wp2)
   go_roundg k1
   case measure => have := HK1.out; omega
   case rel => exact ⟨(wrap64 (x5_1 + 1)), (by first | rfl | (simp; done) | (simp [*]; done)), H', ⟨by have := HK1.out; omega⟩, by repeat (first | exact Drawn0.refl _ | apply Drawn0.step)⟩
end Go.Proofs.Ytkcpanpdipmmmaa.P

/- Networks, ends and flows: what is wrong with them, as plain functions; the program's answer and the document's are these. -/
set_option linter.unusedVariables false
namespace Go.Proofs.Ytkcpanpdipmmmaa.Q
open Go.RowKit Go.Proofs.YtkcpanpdipmmmaaW.PrintWords Go.Proofs.YtkcpanpdipmmmaaW.PrintLast Go.Proofs.YtkcpanpdipmmmaaW.PrintMore Go.Proofs.Ytkcpanpdipmmmaa.P

def arcErr (n : Int) (a : S74) : Int :=
  if a.f0 < 0 ∨ a.f1 < 0 ∨ a.f2 < 0 ∨ a.f3 < 0 ∨ n ≤ a.f0 ∨ n ≤ a.f1 then 51 else if 1048576 < a.f2 ∨ 1048576 < a.f3 then 2 else 0
def arcsErr (n : Int) : List S74 → Int
  | [] => 0
  | a :: l => if arcErr n a = 0 then arcsErr n l else arcErr n a
def netErr (n : Int) (l : List S74) : Int := if n < 1 then 51 else if n > 50 then 2 else if (l.length : Int) > 200 then 2 else arcsErr n l
structure ArcOk (n : Int) (a : S74) : Prop where
  f0 : 0 ≤ a.f0
  f1 : 0 ≤ a.f1
  f2 : 0 ≤ a.f2
  f3 : 0 ≤ a.f3
  h0 : a.f0 < n
  h1 : a.f1 < n
  h2 : a.f2 ≤ 1048576
  h3 : a.f3 ≤ 1048576
structure NetOk (n : Int) (l : List S74) : Prop where
  lo : 1 ≤ n
  hi : n ≤ 50
  len : l.length ≤ 200
  arcs : ∀ a ∈ l, ArcOk n a
theorem arcErr_ok {n : Int} {a : S74} (h : arcErr n a = 0) : ArcOk n a := by
  unfold arcErr at h
  split at h
  · omega
  · split at h
    · omega
    · constructor <;> omega
theorem arcsErr_ok {n : Int} : ∀ {l : List S74}, arcsErr n l = 0 → ∀ a ∈ l, ArcOk n a
  | [], _, a, ha => by cases ha
  | b :: l, h, a, ha => by
    unfold arcsErr at h
    split at h
    · rename_i hb
      rcases List.mem_cons.1 ha with rfl | ha
      · exact arcErr_ok hb
      · exact arcsErr_ok h a ha
    · exact absurd h (by assumption)
theorem netErr_ok {n : Int} {l : List S74} (h : netErr n l = 0) : NetOk n l := by
  unfold netErr at h
  split at h
  · omega
  · split at h
    · omega
    · split at h
      · omega
      · exact ⟨by omega, by omega, by omega, arcsErr_ok h⟩
theorem arcOk_err {n : Int} {a : S74} (h : ArcOk n a) : arcErr n a = 0 := by
  have := h.f0; have := h.f1; have := h.f2; have := h.f3; have := h.h0; have := h.h1; have := h.h2; have := h.h3
  unfold arcErr
  rw [if_neg (by omega), if_neg (by omega)]
theorem arcsOk_err {n : Int} : ∀ {l : List S74}, (∀ a ∈ l, ArcOk n a) → arcsErr n l = 0
  | [], _ => rfl
  | b :: l, h => by
    unfold arcsErr
    rw [if_pos (arcOk_err (h b (List.mem_cons_self ..)))]
    exact arcsOk_err fun a ha => h a (List.mem_cons_of_mem _ ha)
theorem netOk_err {n : Int} {l : List S74} (h : NetOk n l) : netErr n l = 0 := by
  have := h.lo; have := h.hi; have := h.len
  unfold netErr
  rw [if_neg (by omega), if_neg (by omega), if_neg (by omega), arcsOk_err h.arcs]
theorem NetOk.at_ {n : Int} {l : List S74} (h : NetOk n l) {i : Int} (h0 : 0 ≤ i) (h1 : i < l.length) : ArcOk n (rd_T74 l i) := h.arcs _ (getD_mem (by omega))

theorem nodes_eq (n : Int) : netfmt_nodes.f n = some (if n < 1 then 51 else if n > 50 then 2 else 0) := by
  unfold netfmt_nodes.f
  split
  · rfl
  · split <;> rfl
theorem arc_ev (n : Int) (a : S74) : Ev (fun k => netfmt_arc.f k n a.f0 a.f1 a.f2 a.f3) (arcErr n a) := by
  unfold netfmt_arc.f arcErr
  refine Ev.ite (fun h => ?_) (fun h => ?_)
  · refine Ev.succ ?_; simp only [netfmt_arc.j0]
    repeat (first | exact Ev.now _ | with_reducible refine Ev.pos (by first | assumption | omega) ?_ | with_reducible refine Ev.neg (by first | assumption | omega) ?_ | with_reducible refine Ev.let_ ?_)
    exact Ev.done (by unfold mn at h; rw [if_pos (by omega)])
  · refine Ev.succ ?_; simp only [netfmt_arc.j0]
    unfold mn at h
    unfold mx
    refine Ev.ite (fun g => ?_) (fun g => ?_)
    · have g := of_decide_eq_true g
      exact Ev.done (by rw [if_pos (by omega)])
    · have g := of_decide_eq_false (Bool.eq_false_iff.2 g)
      refine Ev.ite (fun g1 => ?_) (fun g1 => ?_)
      · exact Ev.done (by rw [if_neg (by omega), if_pos (by omega)])
      · refine Ev.ite (fun g2 => ?_) (fun g2 => ?_)
        · exact Ev.done (by rw [if_neg (by omega), if_pos (by omega)])
        · exact Ev.done (by rw [if_neg (by omega), if_neg (by omega)])
theorem check_l0 (l : List S74) (n : Int) (b : Bool) (hl : l.length ≤ 9223372036854775807) (d : Nat) : ∀ i : Nat, i + d = l.length →
    Ev (fun k => netfmt_Check.l0 k l (l.length : Int) (i : Int) n b l) (arcsErr n (l.drop i)) := by
  induction d with
  | zero =>
    intro i hi
    refine Ev.succ ?_; simp only [netfmt_Check.l0]
    repeat (first | exact Ev.now _ | with_reducible refine Ev.pos (by first | assumption | omega) ?_ | with_reducible refine Ev.neg (by first | assumption | omega) ?_ | with_reducible refine Ev.let_ ?_)
    rw [List.drop_of_length_le (by omega)]
    exact Ev.now _
  | succ d ih =>
    intro i hi
    refine Ev.succ ?_; simp only [netfmt_Check.l0]
    repeat (first | exact Ev.now _ | with_reducible refine Ev.pos (by first | assumption | omega) ?_ | with_reducible refine Ev.neg (by first | assumption | omega) ?_ | with_reducible refine Ev.let_ ?_)
    refine Ev.bind (arc_ev n (rd_T74 l i)) ?_
    rw [drop_getD l i z74 (by omega)]
    have hr : rd_T74 l (i : Int) = l.getD i z74 := by unfold rd_T74; rw [Int.toNat_natCast]
    rw [hr]
    unfold arcsErr
    refine Ev.ite (fun h => ?_) (fun h => ?_)
    · rw [if_pos h, wrap_succ (n := l.length) (by omega) hl]
      exact ih (i + 1) (by omega)
    · rw [if_neg h]
      exact Ev.now _
theorem check_ev (n : Int) (b : Bool) (l : List S74) : Ev (fun k => netfmt_Check.f k n b l) (netErr n l) := by
  unfold netfmt_Check.f netErr
  refine Ev.call (nodes_eq n) ?_
  by_cases h : n < 1
  · rw [if_pos h, if_pos h]
    repeat (first | exact Ev.now _ | with_reducible refine Ev.pos (by first | assumption | omega) ?_ | with_reducible refine Ev.neg (by first | assumption | omega) ?_ | with_reducible refine Ev.let_ ?_)
  · rw [if_neg h, if_neg h]
    by_cases h2 : n > 50
    · rw [if_pos h2, if_pos h2]
      repeat (first | exact Ev.now _ | with_reducible refine Ev.pos (by first | assumption | omega) ?_ | with_reducible refine Ev.neg (by first | assumption | omega) ?_ | with_reducible refine Ev.let_ ?_)
    · rw [if_neg h2, if_neg h2]
      repeat (first | exact Ev.now _ | with_reducible refine Ev.pos (by first | assumption | omega) ?_ | with_reducible refine Ev.neg (by first | assumption | omega) ?_ | with_reducible refine Ev.let_ ?_)
      refine Ev.ite (fun g => ?_) (fun g => ?_)
      · rw [if_pos g]
        exact Ev.now _
      · rw [if_neg g]
        exact check_l0 l n b (by omega) l.length 0 (by omega)

theorem ref_nodes_eq (n : Int) : ebbtideref05_nodes.f n = some (if n < 1 then 51 else if n > 50 then 2 else 0) := by
  unfold ebbtideref05_nodes.f
  split
  · rfl
  · split <;> rfl
theorem ref_arc_j0 (x : Bool) (n : Int) (a : S74) (hx : x = true ↔ a.f0 < 0 ∨ a.f1 < 0 ∨ a.f2 < 0 ∨ a.f3 < 0 ∨ n ≤ a.f0 ∨ n ≤ a.f1) : Ev (fun k => ebbtideref05_Arc.j0 k x a.f0 a.f1 a.f2 a.f3) (arcErr n a) := by
  unfold arcErr
  refine Ev.succ ?_; simp only [ebbtideref05_Arc.j0]
  refine Ev.ite (fun g => ?_) (fun g => ?_)
  · exact Ev.done (by rw [if_pos (hx.1 g)])
  · have g' := fun h => g (hx.2 h)
    refine Ev.ite (fun g1 => ?_) (fun g1 => ?_)
    · exact Ev.done (by rw [if_neg g', if_pos (by omega)])
    · refine Ev.ite (fun g2 => ?_) (fun g2 => ?_)
      · exact Ev.done (by rw [if_neg g', if_pos (by omega)])
      · exact Ev.done (by rw [if_neg g', if_neg (by omega)])
theorem ref_arc_ev (n : Int) (a : S74) : Ev (fun k => ebbtideref05_Arc.f k n a.f0 a.f1 a.f2 a.f3) (arcErr n a) := by
  unfold ebbtideref05_Arc.f
  refine Ev.ite (fun h => ?_) (fun h => ?_)
  · exact ref_arc_j0 _ _ _ ⟨fun _ => by omega, fun _ => rfl⟩
  refine Ev.ite (fun h => ?_) (fun h => ?_)
  · exact ref_arc_j0 _ _ _ ⟨fun _ => by omega, fun _ => rfl⟩
  refine Ev.ite (fun h => ?_) (fun h => ?_)
  · exact ref_arc_j0 _ _ _ ⟨fun _ => by omega, fun _ => rfl⟩
  refine Ev.ite (fun h => ?_) (fun h => ?_)
  · exact ref_arc_j0 _ _ _ ⟨fun _ => by omega, fun _ => rfl⟩
  refine Ev.ite (fun h => ?_) (fun h => ?_)
  · exact ref_arc_j0 _ _ _ ⟨fun _ => by omega, fun _ => rfl⟩
  · exact ref_arc_j0 _ _ _ ⟨fun g => by have := of_decide_eq_true g; omega, fun g => decide_eq_true (by omega)⟩
theorem ref_check_l0 (l : List S74) (n : Int) (b : Bool) (hl : l.length ≤ 9223372036854775807) (d : Nat) : ∀ i : Nat, i + d = l.length →
    Ev (fun k => ebbtideref05_Check.l0 k (i : Int) n b l) (arcsErr n (l.drop i)) := by
  induction d with
  | zero =>
    intro i hi
    refine Ev.succ ?_; simp only [ebbtideref05_Check.l0]
    repeat (first | exact Ev.now _ | with_reducible refine Ev.pos (by first | assumption | omega) ?_ | with_reducible refine Ev.neg (by first | assumption | omega) ?_ | with_reducible refine Ev.let_ ?_)
    rw [List.drop_of_length_le (by omega)]
    exact Ev.now _
  | succ d ih =>
    intro i hi
    refine Ev.succ ?_; simp only [ebbtideref05_Check.l0]
    repeat (first | exact Ev.now _ | with_reducible refine Ev.pos (by first | assumption | omega) ?_ | with_reducible refine Ev.neg (by first | assumption | omega) ?_ | with_reducible refine Ev.let_ ?_)
    refine Ev.bind (ref_arc_ev n (rd_T74 l i)) ?_
    rw [drop_getD l i z74 (by omega)]
    have hr : rd_T74 l (i : Int) = l.getD i z74 := by unfold rd_T74; rw [Int.toNat_natCast]
    rw [hr]
    unfold arcsErr
    refine Ev.ite (fun h => ?_) (fun h => ?_)
    · rw [if_pos h, wrap_succ (n := l.length) (by omega) hl]
      exact ih (i + 1) (by omega)
    · rw [if_neg h]
      exact Ev.now _
theorem ref_check_ev (n : Int) (b : Bool) (l : List S74) : Ev (fun k => ebbtideref05_Check.f k n b l) (netErr n l) := by
  unfold ebbtideref05_Check.f netErr
  refine Ev.call (ref_nodes_eq n) ?_
  by_cases h : n < 1
  · rw [if_pos h, if_pos h]
    repeat (first | exact Ev.now _ | with_reducible refine Ev.pos (by first | assumption | omega) ?_ | with_reducible refine Ev.neg (by first | assumption | omega) ?_ | with_reducible refine Ev.let_ ?_)
  · rw [if_neg h, if_neg h]
    by_cases h2 : n > 50
    · rw [if_pos h2, if_pos h2]
      repeat (first | exact Ev.now _ | with_reducible refine Ev.pos (by first | assumption | omega) ?_ | with_reducible refine Ev.neg (by first | assumption | omega) ?_ | with_reducible refine Ev.let_ ?_)
    · rw [if_neg h2, if_neg h2]
      repeat (first | exact Ev.now _ | with_reducible refine Ev.pos (by first | assumption | omega) ?_ | with_reducible refine Ev.neg (by first | assumption | omega) ?_ | with_reducible refine Ev.let_ ?_)
      refine Ev.ite (fun g => ?_) (fun g => ?_)
      · rw [if_pos g]
        exact Ev.now _
      · rw [if_neg g]
        exact ref_check_l0 l n b (by omega) l.length 0 (by omega)
end Go.Proofs.Ytkcpanpdipmmmaa.Q

/- Flows: what is wrong with one, its balances, its value, as plain functions; the program's answer and the document's are these. -/
set_option linter.unusedVariables false
namespace Go.Proofs.Ytkcpanpdipmmmaa.Q
open Go.RowKit Go.Proofs.YtkcpanpdipmmmaaW.PrintWords Go.Proofs.YtkcpanpdipmmmaaW.PrintLast Go.Proofs.YtkcpanpdipmmmaaW.PrintMore Go.Proofs.Ytkcpanpdipmmmaa.P

def flowB : List S74 → List Int → Bool
  | [], [] => true
  | a :: l, x :: f => if x < 0 then false else if x > a.f2 then false else flowB l f
  | _, _ => false
def askErr (n : Int) (l : List S74) (f : List Int) : Int := if netErr n l = 0 then (if flowB l f = true then 0 else 71) else netErr n l
structure FlowOk (l : List S74) (f : List Int) : Prop where
  len : f.length = l.length
  at_ : ∀ i : Nat, i < f.length → 0 ≤ rd f i ∧ rd f i ≤ (rd_T74 l i).f2
theorem rdArc_nat (l : List S74) (i : Nat) : rd_T74 l (i : Int) = l.getD i z74 := by unfold rd_T74; rw [Int.toNat_natCast]
theorem flowB_len : ∀ {l : List S74} {f : List Int}, flowB l f = true → f.length = l.length
  | [], [], _ => rfl
  | [], _ :: _, h => by simp [flowB] at h
  | _ :: _, [], h => by simp [flowB] at h
  | a :: l, x :: f, h => by
    unfold flowB at h
    split at h
    · cases h
    · split at h
      · cases h
      · simp [flowB_len h]
theorem flowB_ok : ∀ {l : List S74} {f : List Int}, flowB l f = true → ∀ i : Nat, i < f.length → 0 ≤ f.getD i 0 ∧ f.getD i 0 ≤ (l.getD i z74).f2
  | [], [], _, i, hi => by simp at hi
  | [], _ :: _, h, _, _ => by simp [flowB] at h
  | _ :: _, [], h, _, _ => by simp [flowB] at h
  | a :: l, x :: f, h, i, hi => by
    unfold flowB at h
    split at h
    · cases h
    · split at h
      · cases h
      · cases i with
        | zero => simp; omega
        | succ i => simpa using flowB_ok h i (by simpa using hi)
theorem flow_ok {l : List S74} {f : List Int} (h : flowB l f = true) : FlowOk l f :=
  ⟨flowB_len h, fun i hi => by rw [rd_nat, rdArc_nat]; exact flowB_ok h i hi⟩
theorem flow_mk : ∀ {l : List S74} {f : List Int}, f.length = l.length → (∀ i : Nat, i < f.length → 0 ≤ f.getD i 0 ∧ f.getD i 0 ≤ (l.getD i z74).f2) → flowB l f = true
  | [], [], _, _ => rfl
  | [], _ :: _, h, _ => by simp at h
  | _ :: _, [], h, _ => by simp at h
  | a :: l, x :: f, h, hf => by
    have h0 := hf 0 (by simp)
    simp at h0
    unfold flowB
    rw [if_neg (by omega), if_neg (by omega)]
    exact flow_mk (by simpa using h) (fun i hi => by simpa using hf (i + 1) (by simpa using hi))
theorem FlowOk.b {l : List S74} {f : List Int} (h : FlowOk l f) : flowB l f = true :=
  flow_mk h.len fun i hi => by have := h.at_ i hi; rwa [rd_nat, rdArc_nat] at this
theorem FlowOk.int {l : List S74} {f : List Int} (h : FlowOk l f) {i : Int} (h0 : 0 ≤ i) (h1 : i < f.length) : 0 ≤ rd f i ∧ rd f i ≤ (rd_T74 l i).f2 := by
  obtain ⟨j, rfl⟩ := Int.eq_ofNat_of_zero_le h0
  exact h.at_ j (by omega)
/-- A flow of a right network is small. -/
theorem FlowOk.small {n : Int} {l : List S74} {f : List Int} (h : FlowOk l f) (hn : NetOk n l) {i : Int} (h0 : 0 ≤ i) (h1 : i < f.length) : 0 ≤ rd f i ∧ rd f i ≤ 1048576 := by
  have h2 := h.int h0 h1
  have h3 := (hn.at_ h0 (by rw [← h.len]; exact h1)).h2
  omega
theorem askErr_ok {n : Int} {l : List S74} {f : List Int} (h : askErr n l f = 0) : NetOk n l ∧ FlowOk l f := by
  unfold askErr at h
  split at h
  · split at h
    · exact ⟨netErr_ok (by assumption), flow_ok (by assumption)⟩
    · omega
  · exact absurd h (by assumption)
theorem ask_of {n : Int} {l : List S74} {f : List Int} (h : NetOk n l) (hf : FlowOk l f) : askErr n l f = 0 := by
  unfold askErr
  rw [if_pos (netOk_err h), if_pos hf.b]

theorem asked_l0 (l : List S74) (f : List Int) (n : Int) (b : Bool) (hl : l.length ≤ 200) (hf : f.length = l.length) (d : Nat) : ∀ i : Nat, i + d = l.length →
    Ev (fun k => static_Asked.l0 k f (f.length : Int) (i : Int) n b l) (if flowB (l.drop i) (f.drop i) = true then 0 else 71) := by
  induction d with
  | zero =>
    intro i hi
    refine Ev.succ ?_; simp only [static_Asked.l0]
    repeat (first | exact Ev.now _ | with_reducible refine Ev.pos (by first | assumption | omega) ?_ | with_reducible refine Ev.neg (by first | assumption | omega) ?_ | with_reducible refine Ev.let_ ?_)
    rw [List.drop_of_length_le (by omega), List.drop_of_length_le (by omega)]
    exact Ev.now _
  | succ d ih =>
    intro i hi
    refine Ev.succ ?_; simp only [static_Asked.l0]
    repeat (first | exact Ev.now _ | with_reducible refine Ev.pos (by first | assumption | omega) ?_ | with_reducible refine Ev.neg (by first | assumption | omega) ?_ | with_reducible refine Ev.let_ ?_)
    rw [drop_getD l i z74 (by omega), drop_getD f i 0 (by omega), rdArc_nat, rd_nat]
    unfold flowB
    refine Ev.ite (fun h => ?_) (fun h => ?_)
    · rw [if_pos h]
      exact Ev.now _
    · rw [if_neg h]
      repeat (first | exact Ev.now _ | with_reducible refine Ev.pos (by first | assumption | omega) ?_ | with_reducible refine Ev.neg (by first | assumption | omega) ?_ | with_reducible refine Ev.let_ ?_)
      refine Ev.ite (fun g => ?_) (fun g => ?_)
      · rw [if_pos g]
        exact Ev.now _
      · rw [if_neg g, wrap_succ (n := l.length) (by omega) (by omega)]
        exact ih (i + 1) (by omega)
theorem flowB_ne {l : List S74} {f : List Int} (h : ¬ ((f.length : Int) = (l.length : Int))) : ¬ flowB l f = true := fun g => h (by rw [flowB_len g])
theorem asked_ev (n : Int) (b : Bool) (l : List S74) (f : List Int) : Ev (fun k => static_Asked.f k n b l f) (askErr n l f) := by
  unfold static_Asked.f askErr
  refine Ev.bind (check_ev n b l) ?_
  refine Ev.ite (fun h => ?_) (fun h => ?_)
  · rw [if_pos h]
    have hn := netErr_ok h
    refine Ev.ite (fun g => ?_) (fun g => ?_)
    · exact asked_l0 l f n b hn.len (by omega) l.length 0 (by omega)
    · rw [if_neg (flowB_ne g)]
      exact Ev.now _
  · rw [if_neg h]
    exact Ev.now _
theorem within_l0 (l : List S74) (f : List Int) (n : Int) (b : Bool) (hl : l.length ≤ 200) (hf : f.length = l.length) (d : Nat) : ∀ i : Nat, i + d = l.length →
    Ev (fun k => ebbtideref07_Within.l0 k f (i : Int) n b l) (flowB (l.drop i) (f.drop i)) := by
  induction d with
  | zero =>
    intro i hi
    refine Ev.succ ?_; simp only [ebbtideref07_Within.l0]
    repeat (first | exact Ev.now _ | with_reducible refine Ev.pos (by first | assumption | omega) ?_ | with_reducible refine Ev.neg (by first | assumption | omega) ?_ | with_reducible refine Ev.let_ ?_)
    rw [List.drop_of_length_le (by omega), List.drop_of_length_le (by omega)]
    exact Ev.now _
  | succ d ih =>
    intro i hi
    refine Ev.succ ?_; simp only [ebbtideref07_Within.l0]
    repeat (first | exact Ev.now _ | with_reducible refine Ev.pos (by first | assumption | omega) ?_ | with_reducible refine Ev.neg (by first | assumption | omega) ?_ | with_reducible refine Ev.let_ ?_)
    rw [drop_getD l i z74 (by omega), drop_getD f i 0 (by omega), rdArc_nat, rd_nat]
    unfold flowB
    refine Ev.ite (fun h => ?_) (fun h => ?_)
    · rw [if_pos h]
      exact Ev.now _
    · rw [if_neg h]
      repeat (first | exact Ev.now _ | with_reducible refine Ev.pos (by first | assumption | omega) ?_ | with_reducible refine Ev.neg (by first | assumption | omega) ?_ | with_reducible refine Ev.let_ ?_)
      refine Ev.ite (fun g => ?_) (fun g => ?_)
      · rw [if_pos g]
        exact Ev.now _
      · rw [if_neg g, wrap_succ (n := l.length) (by omega) (by omega)]
        exact ih (i + 1) (by omega)
theorem within_ev (n : Int) (b : Bool) (l : List S74) (f : List Int) (hl : l.length ≤ 200) : Ev (fun k => ebbtideref07_Within.f k n b l f) (flowB l f) := by
  unfold ebbtideref07_Within.f
  refine Ev.ite (fun g => ?_) (fun g => ?_)
  · exact within_l0 l f n b hl (by omega) l.length 0 (by omega)
  · rw [Bool.eq_false_iff.2 (flowB_ne g)]
    exact Ev.now _
theorem ref_asked_ev (n : Int) (b : Bool) (l : List S74) (f : List Int) : Ev (fun k => ebbtideref07_Asked.f k n b l f) (askErr n l f) := by
  unfold ebbtideref07_Asked.f askErr
  refine Ev.bind (ref_check_ev n b l) ?_
  refine Ev.ite (fun h => ?_) (fun h => ?_)
  · rw [if_pos h]
    refine Ev.bind (within_ev n b l f (netErr_ok h).len) ?_
    refine Ev.ite (fun g => ?_) (fun g => ?_)
    · rw [if_pos g]; exact Ev.now _
    · rw [if_neg g]; exact Ev.now _
  · rw [if_neg h]
    exact Ev.now _

theorem node_eq (n : Int) (b : Bool) (l : List S74) (v : Int) : ebbtideref06_Node.f n b l v = some (decide (0 ≤ v ∧ v < n)) := by
  unfold ebbtideref06_Node.f
  split
  · rename_i h
    congr 1
    by_cases g : v < n <;> simp [g] <;> omega
  · rename_i h
    congr 1
    symm
    exact decide_eq_false (by omega)
theorem same_l0 (a b : List Int) (hb : a.length = b.length) (hl : a.length ≤ 9223372036854775807) (d : Nat) : ∀ i : Nat, i + d = a.length →
    Ev (fun k => ebbtideref03_SameInts.l0 k a b (i : Int)) (decide (a.drop i = b.drop i)) := by
  induction d with
  | zero =>
    intro i hi
    refine Ev.succ ?_; simp only [ebbtideref03_SameInts.l0]
    repeat (first | exact Ev.now _ | with_reducible refine Ev.pos (by first | assumption | omega) ?_ | with_reducible refine Ev.neg (by first | assumption | omega) ?_ | with_reducible refine Ev.let_ ?_)
    rw [List.drop_of_length_le (by omega), List.drop_of_length_le (by omega)]
    exact Ev.now _
  | succ d ih =>
    intro i hi
    refine Ev.succ ?_; simp only [ebbtideref03_SameInts.l0]
    repeat (first | exact Ev.now _ | with_reducible refine Ev.pos (by first | assumption | omega) ?_ | with_reducible refine Ev.neg (by first | assumption | omega) ?_ | with_reducible refine Ev.let_ ?_)
    rw [drop_getD a i 0 (by omega), drop_getD b i 0 (by omega), ← rd_nat, ← rd_nat, wrap_succ (n := a.length) (by omega) (by omega)]
    refine Ev.ite (fun g => ?_) (fun g => ?_)
    · rw [g]
      exact Ev.eq (ih (i + 1) (by omega)) (by simp)
    · exact Ev.done (by simp [g])
theorem same_ev (a b : List Int) (hl : a.length ≤ 9223372036854775807) : Ev (fun k => ebbtideref03_SameInts.f k a b) (decide (a = b)) := by
  unfold ebbtideref03_SameInts.f
  refine Ev.ite (fun g => ?_) (fun g => ?_)
  · exact Ev.eq (same_l0 a b (by omega) hl a.length 0 (by omega)) (by rw [List.drop_zero, List.drop_zero])
  · exact Ev.done (by symm; exact decide_eq_false (fun h => g (by rw [h])))
end Go.Proofs.Ytkcpanpdipmmmaa.Q

/- cost.Far answers as the document's Far. -/
set_option linter.unusedVariables false
set_option linter.unusedSimpArgs false
namespace Go.Proofs.Ytkcpanpdipmmmaa.H
open Go.RowKit Go.Proofs.YtkcpanpdipmmmaaW.PrintWords Go.Proofs.YtkcpanpdipmmmaaW.PrintLast Go.Proofs.YtkcpanpdipmmmaaW.PrintMore Go.Proofs.Ytkcpanpdipmmmaa.P Go.Proofs.Ytkcpanpdipmmmaa.Q
theorem right_of {n : Int} {l : List S74} {F : List Int} (h : askErr n l F = 0) : ∃ n0 : Nat, n = n0 ∧ Right l F n0 := by
  obtain ⟨hn, hf⟩ := askErr_ok h
  have h1 := hn.lo
  have h2 := hn.hi
  obtain ⟨n0, rfl⟩ : ∃ n0 : Nat, n = n0 := ⟨n.toNat, by omega⟩
  refine ⟨n0, rfl, ⟨by omega, by omega, hn.len, hf.len, fun i hi => ?_, fun i hi => ?_⟩⟩
  · have ha := hn.at_ (i := (i : Int)) (by omega) (by omega)
    exact ⟨⟨ha.f0, ha.h0⟩, ⟨ha.f1, ha.h1⟩⟩
  · have ha := hn.at_ (i := (i : Int)) (by omega) (by omega)
    have hb := hf.at_ i (by rw [hf.len]; exact hi)
    rw [rd_nat] at hb
    exact ⟨ha.f3, ha.h3, hb.1, hb.2, ha.h2⟩
def farRes (n : Int) (l : List S74) (F : List Int) (s : Int) : List Int × List Bool × Int :=
  if askErr n l F = 0 then (if 0 ≤ s ∧ s < n then (if (refF l F n.toNat s.toNat).OK = true then ((refF l F n.toNat s.toNat).D, (refF l F n.toNat s.toNat).I, 0) else ([], [], 110)) else ([], [], 1)) else ([], [], askErr n l F)
theorem far_ev (n : Int) (b : Bool) (l : List S74) (F : List Int) (s : Int) : Ev (fun k => ebbtideref11_Far.f k n b l F s) (farRes n l F s) := by
  unfold ebbtideref11_Far.f farRes
  refine Ev.bind (ref_asked_ev n b l F) ?_
  refine Ev.ite (fun h => ?_) (fun h => ?_)
  · rw [if_pos h]
    refine Ev.call (node_eq n b l s) ?_
    refine Ev.ite (fun g => ?_) (fun g => ?_)
    · have g2 := of_decide_eq_true g
      rw [if_pos g2]
      obtain ⟨n0, rfl, hr⟩ := right_of h
      obtain ⟨s0, rfl⟩ : ∃ s0 : Nat, s = s0 := ⟨s.toNat, by omega⟩
      rw [Int.toNat_natCast, Int.toNat_natCast]
      refine Ev.bind (from_ev hr b s0 (by omega)) ?_
      refine Ev.ite (fun g3 => ?_) (fun g3 => ?_)
      · rw [if_pos g3]; exact Ev.now _
      · rw [if_neg g3]; exact Ev.now _
    · rw [if_neg (fun g2 => g (decide_eq_true g2))]
      exact Ev.now _
  · rw [if_neg h]
    exact Ev.now _
theorem cost_Far_calls (k : Nat) (a0_0 : Int) (a0_1 : Bool) (A0_2 : Option Addr) (c0_2 : Nat) (l0_2 : List S74) (A1 : Option Addr) (c1 : Nat) (l1 : List Int) (a2 : Int) (r1 : List Int) (r2 : List Bool) (r3 : Int) (w : World) (hr0_2 : Kd.C k74 w A0_2 l0_2.length l0_2) (hc0_2 : l0_2.length ≤ c0_2) (hr1 : Kd.C (Kd.int .i64) w A1 l1.length l1) (hc1 : l1.length ≤ c1) (h : ebbtideref11_Far.f k a0_0 a0_1 l0_2 l1 a2 = some (r1, r2, r3)) :
    Calls Try.prog 38 #[.agg #[.int .i64 a0_0, .bool a0_1, .slice A0_2 l0_2.length c0_2], .slice A1 l1.length c1, .int .i64 a2] w fun e w' => ∃ v0_ v1_ : Value, e = .returned (.tuple #[v0_, v1_, .int .i64 r3]) ∧ Kd.R (Kd.int .i64) 3 w' w.heap.size (fun _ => True) v0_ r1 ∧ Kd.R Kd.bool 4 w' w.heap.size (fun _ => True) v1_ r2 ∧ Below w.heap.size w w' := by
  have hres := Ev.uniq (Ev.of (fun k => ebbtideref11_Far.mono _ _ _ _ _ k) h) (far_ev a0_0 a0_1 l0_2 l1 a2)
  obtain ⟨K, hK⟩ := asked_ev a0_0 a0_1 l0_2 l1
  have hA := hK K (Nat.le_refl _)
  unfold farRes at hres
  by_cases h0 : askErr a0_0 l0_2 l1 = 0
  · rw [if_pos h0] at hres
    rw [h0] at hA
    by_cases hs : 0 ≤ a2 ∧ a2 < a0_0
    · rw [if_pos hs] at hres
      obtain ⟨n0, rfl, hr⟩ := right_of h0
      obtain ⟨s0, rfl⟩ : ∃ s0 : Nat, a2 = s0 := ⟨a2.toNat, by omega⟩
      rw [Int.toNat_natCast, Int.toNat_natCast] at hres
      have hs2 : s0 < n0 := by omega
      obtain ⟨e1, e2⟩ := far_same hr hs2
      refine (far_ok K n0 a0_1 A0_2 c0_2 l0_2 A1 c1 l1 s0 w hr hs2 hr0_2 hc0_2 hr1 hc1 hA).mono ?_
      rintro e w' ⟨v0, v1, hcase, hb⟩
      rcases hcase with ⟨g, rfl, hd, hi⟩ | ⟨g, rfl⟩
      · rw [e1] at g
        rw [if_pos g] at hres
        injection hres with q1 q2
        injection q2 with q2 q3
        obtain ⟨f1, f2⟩ := e2 g
        exact ⟨v0, v1, by rw [q3], by rw [q1, ← f1]; exact hd, by rw [q2, ← f2]; exact hi, hb⟩
      · rw [e1] at g
        rw [if_neg (by rw [g]; simp)] at hres
        injection hres with q1 q2
        injection q2 with q2 q3
        exact ⟨_, _, by rw [q3], by rw [q1]; exact Kd.R_nil _ _ _ _ _, by rw [q2]; exact Kd.R_nil _ _ _ _ _, hb⟩
    · rw [if_neg hs] at hres
      injection hres with q1 q2
      injection q2 with q2 q3
      refine (far_arg K a0_0 a0_1 A0_2 c0_2 l0_2 A1 c1 l1 a2 w hr0_2 hc0_2 hr1 hc1 hA hs).mono ?_
      rintro e w' ⟨rfl, hb⟩
      exact ⟨_, _, by rw [q3], by rw [q1]; exact Kd.R_nil _ _ _ _ _, by rw [q2]; exact Kd.R_nil _ _ _ _ _, hb⟩
  · rw [if_neg h0] at hres
    injection hres with q1 q2
    injection q2 with q2 q3
    refine (far_no K a0_0 a0_1 A0_2 c0_2 l0_2 A1 c1 l1 a2 _ w hr0_2 hc0_2 hr1 hc1 hA h0).mono ?_
    rintro e w' ⟨rfl, hb⟩
    exact ⟨_, _, by rw [q3], by rw [q1]; exact Kd.R_nil _ _ _ _ _, by rw [q2]; exact Kd.R_nil _ _ _ _ _, hb⟩
end Go.Proofs.Ytkcpanpdipmmmaa.H

-- Laid by wip/tool/mk.py, by the kit's print.py, for all laws of this seat in one namespace; a function told as by hand has a proof of this session's own.
namespace Go.Proofs.Ytkcpanpdipmmmaa.P
open Go.RowKit Go.Proofs.YtkcpanpdipmmmaaW.PrintWords Go.Proofs.YtkcpanpdipmmmaaW.PrintLast Go.Proofs.YtkcpanpdipmmmaaW.PrintMore
attribute [local go_sem] max2_int min2_int max_two min_two max_three min_three max_four min_four   -- for this text's walks alone
set_option linter.unusedVariables false
set_option linter.unusedSimpArgs false

/-! ### cost_Far: function 38 -/
def cost_Far.f (k : Nat) (a0_0 : Int) (a0_1 : Bool) (l0_2 : List (S74)) (l1 : List Int) (a2 : Int) : Option (List Int × List Bool × Int) := ebbtideref11_Far.f k a0_0 a0_1 l0_2 l1 a2
theorem cost_Far.mono : ∀ a0 a1 a2 a3 a4 k, LeO (cost_Far.f k a0 a1 a2 a3 a4) (cost_Far.f (k + 1) a0 a1 a2 a3 a4) := ebbtideref11_Far.mono
theorem cost_Far.calls (k : Nat) (a0_0 : Int) (a0_1 : Bool) (A0_2 : Option Addr) (c0_2 : Nat) (l0_2 : List (S74)) (A1 : Option Addr) (c1 : Nat) (l1 : List Int) (a2 : Int) (r1 : List Int) (r2 : List Bool) (r3 : Int) (w : World) (hr0_2 : Kd.C k74 w A0_2 l0_2.length l0_2) (hc0_2 : l0_2.length ≤ c0_2) (hr1 : Kd.C (Kd.int .i64) w A1 l1.length l1) (hc1 : l1.length ≤ c1) (h : cost_Far.f k a0_0 a0_1 l0_2 l1 a2 = some (r1, r2, r3)) :
  Calls Try.prog 38 #[.agg #[.int .i64 a0_0, .bool a0_1, .slice A0_2 l0_2.length c0_2], .slice A1 l1.length c1, .int .i64 a2] w fun e w' => ∃ v0_ v1_ : Value, e = .returned (.tuple #[v0_, v1_, .int .i64 r3]) ∧ Kd.R (Kd.int .i64) 3 w' w.heap.size (fun _ => True) v0_ r1 ∧ Kd.R Kd.bool 4 w' w.heap.size (fun _ => True) v1_ r2 ∧ Below w.heap.size w w' := H.cost_Far_calls k a0_0 a0_1 A0_2 c0_2 l0_2 A1 c1 l1 a2 r1 r2 r3 w hr0_2 hc0_2 hr1 hc1 h

end Go.Proofs.Ytkcpanpdipmmmaa.P

-- Laid by wip/tool/mk.py, by the kit's print.py, for all laws of this seat in one namespace; a function told as by hand has a proof of this session's own.
namespace Go.Proofs.Ytkcpanpdipmmmaa.P
open Go.RowKit Go.Proofs.YtkcpanpdipmmmaaW.PrintWords Go.Proofs.YtkcpanpdipmmmaaW.PrintLast Go.Proofs.YtkcpanpdipmmmaaW.PrintMore
attribute [local go_sem] max2_int min2_int max_two min_two max_three min_three max_four min_four   -- for this text's walks alone
set_option linter.unusedVariables false
set_option linter.unusedSimpArgs false

/-! ### ebbtideref10_Same: function 42 -/
def ebbtideref10_Same.l0 : Nat → List Bool → List Bool → Int → Option (Bool)
 | 0, _, _, _ => none
 | k + 1, x0, x1, x5 => if x5 < (x0.length : Int) then (if 0 ≤ x5 then (if x5 < (x1.length : Int) then (if ((rdOf false x0 x5) != (rdOf false x1 x5)) = true then (some false) else (ebbtideref10_Same.l0 k x0 x1 (wrap64 (x5 + 1)))) else (none)) else (none)) else (some true)
def ebbtideref10_Same.f (k : Nat) (l0 : List Bool) (l1 : List Bool) : Option (Bool) := if (l0.length : Int) = (l1.length : Int) then (ebbtideref10_Same.l0 k l0 l1 0) else (some false)
theorem ebbtideref10_Same.mono_l : ∀ k, (∀ y0 y1 y2, LeO (ebbtideref10_Same.l0 k y0 y1 y2) (ebbtideref10_Same.l0 (k + 1) y0 y1 y2))
 | 0 => fun _ _ _ r h => by simp [ebbtideref10_Same.l0] at h
 | k + 1 => by
  have ih0 := ebbtideref10_Same.mono_l k
  ·intro y0 y1 y2
   unfold ebbtideref10_Same.l0
   repeat' first
   | (with_reducible exact ih0 _ _ _)
   | (with_reducible exact LeO.refl _)
   | (with_reducible exact LeO.none _)
   | (with_reducible refine LeO.ite ?_ ?_)
   | (with_reducible refine LeO.bind ?_ (fun _ => ?_))
   | exact ih0 _ _ _
   | exact LeO.none _
   | refine LeO.ite ?_ ?_
   | refine LeO.bind ?_ (fun _ => ?_)
theorem ebbtideref10_Same.mono : ∀ a0 a1 k, LeO (ebbtideref10_Same.f k a0 a1) (ebbtideref10_Same.f (k + 1) a0 a1) := by
 intro a0 a1 k
 have ih0 := ebbtideref10_Same.mono_l k
 unfold ebbtideref10_Same.f
 repeat' first
   | (with_reducible exact ih0 _ _ _)
   | (with_reducible exact LeO.refl _)
   | (with_reducible exact LeO.none _)
   | (with_reducible refine LeO.ite ?_ ?_)
   | (with_reducible refine LeO.bind ?_ (fun _ => ?_))
   | exact ih0 _ _ _
   | exact LeO.none _
   | refine LeO.ite ?_ ?_
   | refine LeO.bind ?_ (fun _ => ?_)
set_option maxHeartbeats 8000000 in
set_option maxRecDepth 100000 in
theorem ebbtideref10_Same.calls (k : Nat) (A0 : Option Addr) (c0 : Nat) (l0 : List Bool) (A1 : Option Addr) (c1 : Nat) (l1 : List Bool) (r : Bool) (w : World) (hr0 : Kd.C Kd.bool w A0 l0.length l0) (hc0 : l0.length ≤ c0) (hr1 : Kd.C Kd.bool w A1 l1.length l1) (hc1 : l1.length ≤ c1) (h : ebbtideref10_Same.f k l0 l1 = some r) :
  Calls Try.prog 42 #[.slice A0 l0.length c0, .slice A1 l1.length c1] w fun e w' => e = .returned (.bool r) ∧ Drawn0 w w' := by
 have HR0 := Aside0.mk hr0
 have HC0 := Aside0.mk hc0
 clear hr0 hc0
 have HR1 := Aside0.mk hr1
 have HC1 := Aside0.mk hc1
 clear hr1 hc1
 have H : (if (l0.length : Int) = (l1.length : Int) then (ebbtideref10_Same.l0 k l0 l1 0) else (some false)) = some r := h
 clear h
 by_cases c3 : (l0.length : Int) = (l1.length : Int)
 rotate_left
 ·rw [if_neg c3] at H
  have c3b0 : ((l0.length : Int) == (l1.length : Int)) = false := beq_eq_false_iff_ne.mpr c3
  have c3b1 : ((l0.length : Int) != (l1.length : Int)) = true := bne_iff_ne.mpr c3
  have c3b2 : (l0.length == l1.length) = false := by first | simpa using c3 | (simp at c3 ⊢; omega)
  obtain rfl := Option.some.inj H
  go_enter Try.func42, Try.ntmps42
  go_wp2
  repeat (go_quiet (fail); try go_wp2)
  go_ret
  exact ⟨by first | rfl | (simp; done) | (simp [*]; done), by repeat (first | exact Drawn0.refl _ | apply Drawn0.step)⟩

 rw [if_pos c3] at H
 have c3b0 : ((l0.length : Int) == (l1.length : Int)) = true := beq_iff_eq.mpr c3
 have c3b1 : ((l0.length : Int) != (l1.length : Int)) = false := bne_eq_false_iff_eq.mpr c3
 have c3b2 : (l0.length == l1.length) = true := by first | simpa using c3 | (simp at c3 ⊢; omega)
 clear c3
 have H' := Aside0.mk H
 clear H
 go_enter Try.func42, Try.ntmps42
 go_wp2
 repeat (go_quiet (fail); try go_wp2)
 go_loopg [5] k (fun kq v5 w' => ∃ (x5_1 : Int), v5 = .int .i64 x5_1 ∧ Aside0 (ebbtideref10_Same.l0 kq l0 l1 x5_1 = some r) ∧ Aside0 (kq ≤ k) ∧ Drawn0 w w')
 case atStart => exact ⟨(0), (by first | rfl | (simp; done) | (simp [*]; done)), H', ⟨Nat.le_refl _⟩, by repeat (first | exact Drawn0.refl _ | apply Drawn0.step)⟩
 case round =>
  clear H'
  try clear c1
  try clear p2
  try clear c3
  try clear c3b0
  try clear c3b1
  try clear c3b2
  obtain ⟨x5_1, rfl, HA, HK1, ⟨m1, rfl⟩⟩ := hrel
  cases gk with
  | zero => exact absurd HA.out (by simp [ebbtideref10_Same.l0])
  | succ k1 =>
   have H := HA.out
   clear HA
   simp only [ebbtideref10_Same.l0] at H
   by_cases c4 : x5_1 < (l0.length : Int)
   rotate_left
   ·rw [if_neg c4] at H
    have c4b0 : decide (x5_1 < (l0.length : Int)) = false := decide_eq_false c4
    clear c4
    obtain rfl := Option.some.inj H
    go_wp2
    repeat (go_quiet (fail); try go_wp2)
    go_ret
    exact ⟨by first | rfl | (simp; done) | (simp [*]; done), by repeat (first | exact Drawn0.refl _ | apply Drawn0.step)⟩
   rw [if_pos c4] at H
   have c4b0 : decide (x5_1 < (l0.length : Int)) = true := decide_eq_true c4
   clear c4
   by_cases c5 : 0 ≤ x5_1
   rotate_left
   ·rw [if_neg c5] at H
    exact absurd H (by simp)
   rw [if_pos c5] at H
   have c5b0 : decide (0 ≤ x5_1) = true := decide_eq_true c5
   clear c5
   by_cases c6 : x5_1 < (l1.length : Int)
   rotate_left
   ·rw [if_neg c6] at H
    exact absurd H (by simp)
   rw [if_pos c6] at H
   have c6b0 : decide (x5_1 < (l1.length : Int)) = true := decide_eq_true c6
   clear c6
   by_cases c7 : ((rdOf false l0 x5_1) != (rdOf false l1 x5_1)) = true
   ·rw [if_pos c7] at H
    have c7b0 : ((rdOf false l0 x5_1) != (rdOf false l1 x5_1)) = true := c7
    (try (have c7b1 : decide ((rdOf false l0 x5_1) = (rdOf false l1 x5_1)) = false := by simpa using c7))
    (try (have c7b2 : ((rdOf false l0 x5_1) == (rdOf false l1 x5_1)) = false := by simpa using c7))
    (try (have c7b3 : ¬ ((rdOf false l0 x5_1) = (rdOf false l1 x5_1)) := by simpa using c7))
    clear c7
    obtain rfl := Option.some.inj H
    have p217 : 0 ≤ (x5_1 : Int) := of_decide_eq_true (by first | (with_reducible assumption) | assumption)
    have q217 : x5_1 < (l0.length : Int) := of_decide_eq_true (by first | (with_reducible assumption) | assumption)
    obtain ⟨ad217, e217, hx217_0⟩ := Kd.at_bool HR0.out x5_1 p217 q217
    cases e217
    replace p217 := eq_true p217
    replace q217 := eq_true q217
    have p218 : 0 ≤ (x5_1 : Int) := of_decide_eq_true (by first | (with_reducible assumption) | assumption)
    have q218 : x5_1 < (l1.length : Int) := of_decide_eq_true (by first | (with_reducible assumption) | assumption)
    obtain ⟨ad218, e218, hx218_0⟩ := Kd.at_bool HR1.out x5_1 p218 q218
    cases e218
    replace p218 := eq_true p218
    replace q218 := eq_true q218
    go_wp2
    repeat (go_quiet (fail); try go_wp2)
    go_ret
    exact ⟨by first | rfl | (simp; done) | (simp [*]; done), by repeat (first | exact Drawn0.refl _ | apply Drawn0.step)⟩
   rw [if_neg c7] at H
   have c7b0 : ((rdOf false l0 x5_1) != (rdOf false l1 x5_1)) = false := by simpa using c7
   (try (have c7b1 : decide ((rdOf false l0 x5_1) = (rdOf false l1 x5_1)) = true := by simpa using c7))
   (try (have c7b2 : ((rdOf false l0 x5_1) == (rdOf false l1 x5_1)) = true := by simpa using c7))
   clear c7
   have H' := Aside0.mk H
   clear H
   have p217 : 0 ≤ (x5_1 : Int) := of_decide_eq_true (by first | (with_reducible assumption) | assumption)
   have q217 : x5_1 < (l0.length : Int) := of_decide_eq_true (by first | (with_reducible assumption) | assumption)
   obtain ⟨ad217, e217, hx217_0⟩ := Kd.at_bool HR0.out x5_1 p217 q217
   cases e217
   replace p217 := eq_true p217
   replace q217 := eq_true q217
   have p218 : 0 ≤ (x5_1 : Int) := of_decide_eq_true (by first | (with_reducible assumption) | assumption)
   have q218 : x5_1 < (l1.length : Int) := of_decide_eq_true (by first | (with_reducible assumption) | assumption)
   obtain ⟨ad218, e218, hx218_0⟩ := Kd.at_bool HR1.out x5_1 p218 q218
   cases e218
   replace p218 := eq_true p218
   replace q218 := eq_true q218
   go_wp2
   repeat (go_quiet (fail); try go_wp2)
   go_roundg k1
   case measure => have := HK1.out; omega
   case rel => exact ⟨(wrap64 (x5_1 + 1)), (by first | rfl | (simp; done) | (simp [*]; done)), H', ⟨by have := HK1.out; omega⟩, by repeat (first | exact Drawn0.refl _ | apply Drawn0.step)⟩
end Go.Proofs.Ytkcpanpdipmmmaa.P

-- Laid by wip/tool/mk.py, by the kit's print.py, for all laws of this seat in one namespace; a function told as by hand has a proof of this session's own.
namespace Go.Proofs.Ytkcpanpdipmmmaa.P
open Go.RowKit Go.Proofs.YtkcpanpdipmmmaaW.PrintWords Go.Proofs.YtkcpanpdipmmmaaW.PrintLast Go.Proofs.YtkcpanpdipmmmaaW.PrintMore
attribute [local go_sem] max2_int min2_int max_two min_two max_three min_three max_four min_four   -- for this text's walks alone
set_option linter.unusedVariables false
set_option linter.unusedSimpArgs false

/-! ### ebbtideref11_Free: function 52 -/
def ebbtideref11_Free.l0 : Nat → List Int → Int → Int → Bool → List (S74) → Option (Bool × Int)
 | 0, _, _, _, _, _ => none
 | k + 1, x1, x7, x220000, x220001, x220002 => if x7 < x220000 then ((ebbtideref11_From.f k x220000 x220001 x220002 x1 x7).bind fun bt221 => (if bt221.2.2 = true then (ebbtideref11_Free.l0 k x1 (wrap64 (x7 + 1)) x220000 x220001 x220002) else (some (false, 0)))) else (some (true, 0))
def ebbtideref11_Free.f (k : Nat) (a0_0 : Int) (a0_1 : Bool) (l0_2 : List (S74)) (l1 : List Int) : Option (Bool × Int) := (ebbtideref07_Asked.f k a0_0 a0_1 l0_2 l1).bind fun t220 => (if t220 = 0 then (ebbtideref11_Free.l0 k l1 0 a0_0 a0_1 l0_2) else (some (false, t220)))
theorem ebbtideref11_Free.mono_l : ∀ k, (∀ y0 y1 y2 y3 y4, LeO (ebbtideref11_Free.l0 k y0 y1 y2 y3 y4) (ebbtideref11_Free.l0 (k + 1) y0 y1 y2 y3 y4))
 | 0 => fun _ _ _ _ _ r h => by simp [ebbtideref11_Free.l0] at h
 | k + 1 => by
  have ih0 := ebbtideref11_Free.mono_l k
  ·intro y0 y1 y2 y3 y4
   unfold ebbtideref11_Free.l0
   repeat' first
   | (with_reducible exact ih0 _ _ _ _ _)
   | (with_reducible exact ebbtideref07_Asked.mono _ _ _ _ _)
   | (with_reducible exact ebbtideref11_From.mono _ _ _ _ _ _)
   | (with_reducible exact LeO.refl _)
   | (with_reducible exact LeO.none _)
   | (with_reducible refine LeO.ite ?_ ?_)
   | (with_reducible refine LeO.bind ?_ (fun _ => ?_))
   | exact ih0 _ _ _ _ _
   | exact ebbtideref07_Asked.mono _ _ _ _ _
   | exact ebbtideref11_From.mono _ _ _ _ _ _
   | exact LeO.none _
   | refine LeO.ite ?_ ?_
   | refine LeO.bind ?_ (fun _ => ?_)
theorem ebbtideref11_Free.mono : ∀ a0 a1 a2 a3 k, LeO (ebbtideref11_Free.f k a0 a1 a2 a3) (ebbtideref11_Free.f (k + 1) a0 a1 a2 a3) := by
 intro a0 a1 a2 a3 k
 have ih0 := ebbtideref11_Free.mono_l k
 unfold ebbtideref11_Free.f
 repeat' first
   | (with_reducible exact ih0 _ _ _ _ _)
   | (with_reducible exact ebbtideref07_Asked.mono _ _ _ _ _)
   | (with_reducible exact ebbtideref11_From.mono _ _ _ _ _ _)
   | (with_reducible exact LeO.refl _)
   | (with_reducible exact LeO.none _)
   | (with_reducible refine LeO.ite ?_ ?_)
   | (with_reducible refine LeO.bind ?_ (fun _ => ?_))
   | exact ih0 _ _ _ _ _
   | exact ebbtideref07_Asked.mono _ _ _ _ _
   | exact ebbtideref11_From.mono _ _ _ _ _ _
   | exact LeO.none _
   | refine LeO.ite ?_ ?_
   | refine LeO.bind ?_ (fun _ => ?_)
set_option maxHeartbeats 8000000 in
set_option maxRecDepth 100000 in
theorem ebbtideref11_Free.calls (k : Nat) (a0_0 : Int) (a0_1 : Bool) (A0_2 : Option Addr) (c0_2 : Nat) (l0_2 : List (S74)) (A1 : Option Addr) (c1 : Nat) (l1 : List Int) (r1 : Bool) (r2 : Int) (w : World) (hr0_2 : Kd.C k74 w A0_2 l0_2.length l0_2) (hc0_2 : l0_2.length ≤ c0_2) (hr1 : Kd.C (Kd.int .i64) w A1 l1.length l1) (hc1 : l1.length ≤ c1) (h : ebbtideref11_Free.f k a0_0 a0_1 l0_2 l1 = some (r1, r2)) :
  Calls Try.prog 52 #[.agg #[.int .i64 a0_0, .bool a0_1, .slice A0_2 l0_2.length c0_2], .slice A1 l1.length c1] w fun e w' => e = .returned (.tuple #[.bool r1, .int .i64 r2]) ∧ Below w.heap.size w w' := by
 have hu24 := Try.underlying24
 have hu66 := Try.underlying66
 have hfd66 : ∀ (A : Option Addr) (m c : Nat) (B : Option Addr) (n d : Nat) (b : Bool) (w : World), (Instr.field 66 (.agg #[.slice A m c, .slice B n d, .bool b]) 2).run Try.prog w = .ok (.bool b) w := fun _ _ _ _ _ _ _ _ => by kernel_rfl
 have HR0_2 := Aside0.mk hr0_2
 have HC0_2 := Aside0.mk hc0_2
 clear hr0_2 hc0_2
 have HR1 := Aside0.mk hr1
 have HC1 := Aside0.mk hc1
 clear hr1 hc1
 have HB := Aside0.mk (Below.refl w.heap.size w)
 have H : ((ebbtideref07_Asked.f k a0_0 a0_1 l0_2 l1).bind fun t220 => (if t220 = 0 then (ebbtideref11_Free.l0 k l1 0 a0_0 a0_1 l0_2) else (some (false, t220)))) = some (r1, r2) := h
 clear h
 replace H := Option.bind_eq_some_iff.mp H
 obtain ⟨t220, A30, H⟩ := H
 replace H : (if t220 = 0 then (ebbtideref11_Free.l0 k l1 0 a0_0 a0_1 l0_2) else (some (false, t220))) = some (r1, r2) := H
 have A3 := Aside0.mk A30
 clear A30
 by_cases c4 : t220 = 0
 rotate_left
 ·rw [if_neg c4] at H
  have c4b0 : (t220 == 0) = false := beq_eq_false_iff_ne.mpr c4
  have c4b1 : (t220 != 0) = true := bne_iff_ne.mpr c4
  simp only [Option.some.injEq, Prod.mk.injEq] at H
  obtain ⟨rfl, rfl⟩ := H
  go_enter Try.func52, Try.ntmps52
  go_wp2_with (first | ((with_reducible refine gate_dst (N := 2) rfl ?_); refine box_event ?hg (N := 2) ?hd (cs := #[.int .i64 a0_0, .bool a0_1, .slice A0_2 l0_2.length c0_2]) (t := 24) ?hr ?_; (case hd => rfl); (case hg => rfl); (case hr => first | (go_simp; done) | (go_simp; rfl)); intro gb219 hg w16 hbox hb; have n0_ := Aside0.mk (below_step HB.out hb); have n1_ := Aside0.mk (hbox); have n2_ := Aside0.mk ((by rw [hg]; exact (below_size HB.out) : w.heap.size ≤ gb219)); have n3_ := Aside0.mk ((by rw [hg]; exact (below_size HB.out) : w.heap.size ≤ gb219)); clear HB; have HB := n0_; have BK219 := n1_; have GW219 := n2_; have GE219 := n3_; clear n0_ n1_ n2_ n3_; clear hb hbox hg; have hcz17_0 : w16.cell? ⟨gb219, 0, none⟩ = some (.int .i64 a0_0) := (blk_cell BK219.out 0).trans rfl; have hcz17_1 : w16.cell? ⟨gb219, 1, none⟩ = some (.bool a0_1) := (blk_cell BK219.out 1).trans rfl; have hcz17_2 : w16.cell? ⟨gb219, 2, none⟩ = some (.slice A0_2 l0_2.length c0_2) := (blk_cell BK219.out 2).trans rfl; have hfz17_0 := blk_frozen BK219.out 0; have hfz17_1 := blk_frozen BK219.out 1; have hfz17_2 := blk_frozen BK219.out 2) | ((with_reducible refine gate_callee (f := 98) rfl ?_); refine goesL_ (some 10) rfl rfl Try.func98 (by kernel_rfl) rfl #[.agg #[.int .i64 a0_0, .bool a0_1, .slice A0_2 l0_2.length c0_2], .slice A1 l1.length c1] rfl (by (try simp only [List.map_toArray, List.map_cons, List.map_nil]); first | done | rfl | (simp only [List.length_drop, List.length_take]; rfl)) ?_; (with_reducible refine (ebbtideref07_Asked.calls k a0_0 a0_1 _ _ l0_2 _ _ l1 t220 _ ?side1 ?side2 ?side3 ?side4 A3.out).mono ?_); (case side1 => repeat (first | exact (Kd.C_below HR0_2.out HB.out) | (with_reducible refine Kd.C_alloc ?_ _) | (with_reducible refine Kd.C_drewN ?_ _) | (with_reducible refine Kd.C_drew ?_))); (case side2 => exact HC0_2.out); (case side3 => repeat (first | exact (Kd.C_below HR1.out HB.out) | (with_reducible refine Kd.C_alloc ?_ _) | (with_reducible refine Kd.C_drewN ?_ _) | (with_reducible refine Kd.C_drew ?_))); (case side4 => exact HC1.out); rintro e w18 ⟨rfl, hb⟩; refine ⟨_, rfl, ?_⟩; have n0_ := Aside0.mk (blk_below BK219.out hb); have n1_ := Aside0.mk (below_step HB.out hb); clear BK219; clear HB; have BK219 := n0_; have HB := n1_; clear n0_ n1_; (try clear hb); (try clear hb2); (try clear hk); (try clear hi)))
  go_ret2
  exact ⟨by first | rfl | (simp [errW_none, errW_some] <;> rfl) | (simp [*, errW_none, errW_some] <;> rfl), HB.out⟩

 rw [if_pos c4] at H
 have c4b0 : (t220 == 0) = true := beq_iff_eq.mpr c4
 have c4b1 : (t220 != 0) = false := bne_eq_false_iff_eq.mpr c4
 clear c4
 have H' := Aside0.mk H
 clear H
 go_enter Try.func52, Try.ntmps52
 go_wp2_with (first | ((with_reducible refine gate_dst (N := 2) rfl ?_); refine box_event ?hg (N := 2) ?hd (cs := #[.int .i64 a0_0, .bool a0_1, .slice A0_2 l0_2.length c0_2]) (t := 24) ?hr ?_; (case hd => rfl); (case hg => rfl); (case hr => first | (go_simp; done) | (go_simp; rfl)); intro gb219 hg w5 hbox hb; have n0_ := Aside0.mk (below_step HB.out hb); have n1_ := Aside0.mk (hbox); have n2_ := Aside0.mk ((by rw [hg]; exact (below_size HB.out) : w.heap.size ≤ gb219)); have n3_ := Aside0.mk ((by rw [hg]; exact (below_size HB.out) : w.heap.size ≤ gb219)); clear HB; have HB := n0_; have BK219 := n1_; have GW219 := n2_; have GE219 := n3_; clear n0_ n1_ n2_ n3_; clear hb hbox hg; have hcz6_0 : w5.cell? ⟨gb219, 0, none⟩ = some (.int .i64 a0_0) := (blk_cell BK219.out 0).trans rfl; have hcz6_1 : w5.cell? ⟨gb219, 1, none⟩ = some (.bool a0_1) := (blk_cell BK219.out 1).trans rfl; have hcz6_2 : w5.cell? ⟨gb219, 2, none⟩ = some (.slice A0_2 l0_2.length c0_2) := (blk_cell BK219.out 2).trans rfl; have hfz6_0 := blk_frozen BK219.out 0; have hfz6_1 := blk_frozen BK219.out 1; have hfz6_2 := blk_frozen BK219.out 2) | ((with_reducible refine gate_callee (f := 98) rfl ?_); refine goesL_ (some 10) rfl rfl Try.func98 (by kernel_rfl) rfl #[.agg #[.int .i64 a0_0, .bool a0_1, .slice A0_2 l0_2.length c0_2], .slice A1 l1.length c1] rfl (by (try simp only [List.map_toArray, List.map_cons, List.map_nil]); first | done | rfl | (simp only [List.length_drop, List.length_take]; rfl)) ?_; (with_reducible refine (ebbtideref07_Asked.calls k a0_0 a0_1 _ _ l0_2 _ _ l1 t220 _ ?side1 ?side2 ?side3 ?side4 A3.out).mono ?_); (case side1 => repeat (first | exact (Kd.C_below HR0_2.out HB.out) | (with_reducible refine Kd.C_alloc ?_ _) | (with_reducible refine Kd.C_drewN ?_ _) | (with_reducible refine Kd.C_drew ?_))); (case side2 => exact HC0_2.out); (case side3 => repeat (first | exact (Kd.C_below HR1.out HB.out) | (with_reducible refine Kd.C_alloc ?_ _) | (with_reducible refine Kd.C_drewN ?_ _) | (with_reducible refine Kd.C_drew ?_))); (case side4 => exact HC1.out); rintro e w7 ⟨rfl, hb⟩; refine ⟨_, rfl, ?_⟩; have n0_ := Aside0.mk (blk_below BK219.out hb); have n1_ := Aside0.mk (below_step HB.out hb); clear BK219; clear HB; have BK219 := n0_; have HB := n1_; clear n0_ n1_; (try clear hb); (try clear hb2); (try clear hk); (try clear hi)))
 go_loopg [7] k (fun kq v7 w' => ∃ (x7_1 : Int), v7 = .int .i64 x7_1 ∧ Aside0 (ebbtideref11_Free.l0 kq l1 x7_1 a0_0 a0_1 l0_2 = some (r1, r2)) ∧ Aside0 (kq ≤ k) ∧ Aside0 (w'.heap[gb219]? = some (.cells #[.int .i64 a0_0, .bool a0_1, (.slice A0_2 l0_2.length c0_2)] 24 (0, 0))) ∧ Aside0 (Below w.heap.size w w'))
 case atStart => exact ⟨(0), (by first | rfl | (simp; done) | (simp [*]; done)), H', ⟨Nat.le_refl _⟩, ⟨BK219.out⟩, ⟨HB.out⟩⟩
 case round =>
  clear H'
  try clear c1
  try clear p2
  try clear c4
  try clear c4b0
  try clear c4b1
  try clear c5
  try clear hcz6_0
  try clear hcz6_1
  try clear hcz6_2
  try clear hfz6_0
  try clear hfz6_1
  try clear hfz6_2
  obtain ⟨x7_1, rfl, HA, HK1, BK219, HB⟩ := hrel
  cases gk with
  | zero => exact absurd HA.out (by simp [ebbtideref11_Free.l0])
  | succ k1 =>
   have H := HA.out
   clear HA
   simp only [ebbtideref11_Free.l0] at H
   by_cases c8 : x7_1 < a0_0
   rotate_left
   ·rw [if_neg c8] at H
    have c8b0 : decide (x7_1 < a0_0) = false := decide_eq_false c8
    clear c8
    simp only [Option.some.injEq, Prod.mk.injEq] at H
    obtain ⟨rfl, rfl⟩ := H
    have hcz15_0 : wr.cell? ⟨gb219, 0, none⟩ = some (.int .i64 a0_0) := (blk_cell BK219.out 0).trans rfl
    have hcz15_1 : wr.cell? ⟨gb219, 1, none⟩ = some (.bool a0_1) := (blk_cell BK219.out 1).trans rfl
    have hcz15_2 : wr.cell? ⟨gb219, 2, none⟩ = some (.slice A0_2 l0_2.length c0_2) := (blk_cell BK219.out 2).trans rfl
    have hfz15_0 := blk_frozen BK219.out 0
    have hfz15_1 := blk_frozen BK219.out 1
    have hfz15_2 := blk_frozen BK219.out 2
    go_wp2
    go_ret2
    exact ⟨by first | rfl | (simp [errW_none, errW_some] <;> rfl) | (simp [*, errW_none, errW_some] <;> rfl), HB.out⟩
   rw [if_pos c8] at H
   have c8b0 : decide (x7_1 < a0_0) = true := decide_eq_true c8
   clear c8
   replace H := Option.bind_eq_some_iff.mp H
   obtain ⟨⟨t221, t224, t227⟩, A90, H⟩ := H
   replace H : (if t227 = true then (ebbtideref11_Free.l0 k1 l1 (wrap64 (x7_1 + 1)) a0_0 a0_1 l0_2) else (some (false, 0))) = some (r1, r2) := H
   have A9 := Aside0.mk A90
   clear A90
   by_cases c10 : t227 = true
   rotate_left
   ·replace c10 := Bool.eq_false_iff.mpr c10
    subst c10
    have H1 : (some (false, 0)) = some (r1, r2) := by rw [if_neg (show ¬ (false = true) by decide)] at H; exact H
    clear H
    have H := H1
    clear H1
    simp only [Option.some.injEq, Prod.mk.injEq] at H
    obtain ⟨rfl, rfl⟩ := H
    have hcz13_0 : wr.cell? ⟨gb219, 0, none⟩ = some (.int .i64 a0_0) := (blk_cell BK219.out 0).trans rfl
    have hcz13_1 : wr.cell? ⟨gb219, 1, none⟩ = some (.bool a0_1) := (blk_cell BK219.out 1).trans rfl
    have hcz13_2 : wr.cell? ⟨gb219, 2, none⟩ = some (.slice A0_2 l0_2.length c0_2) := (blk_cell BK219.out 2).trans rfl
    have hfz13_0 := blk_frozen BK219.out 0
    have hfz13_1 := blk_frozen BK219.out 1
    have hfz13_2 := blk_frozen BK219.out 2
    go_wp2_with (first | ((with_reducible refine gate_callee (f := 71) rfl ?_); refine goesL_ (some 23) rfl rfl Try.func71 (by kernel_rfl) rfl #[.agg #[.int .i64 a0_0, .bool a0_1, .slice A0_2 l0_2.length c0_2], .slice A1 l1.length c1, .int .i64 x7_1] rfl (by (try simp only [List.map_toArray, List.map_cons, List.map_nil]); first | done | rfl | (simp only [List.length_drop, List.length_take]; rfl)) ?_; (with_reducible refine (ebbtideref11_From.calls k1 a0_0 a0_1 _ _ l0_2 _ _ l1 x7_1 t221 t224 false _ ?side1 ?side2 ?side3 ?side4 A9.out).mono ?_); (case side1 => repeat (first | exact (Kd.C_below HR0_2.out HB.out) | (with_reducible refine Kd.C_alloc ?_ _) | (with_reducible refine Kd.C_drewN ?_ _) | (with_reducible refine Kd.C_drew ?_))); (case side2 => exact HC0_2.out); (case side3 => repeat (first | exact (Kd.C_below HR1.out HB.out) | (with_reducible refine Kd.C_alloc ?_ _) | (with_reducible refine Kd.C_drewN ?_ _) | (with_reducible refine Kd.C_drew ?_))); (case side4 => exact HC1.out); rintro e w14 ⟨v222, v225, rfl, ho0, ho1, hb⟩; obtain ⟨AA_, cc_, ee_⟩ := Kd.R_slice ho0; subst ee_; obtain ⟨AB_, cb_, eb_⟩ := Kd.R_slice ho1; subst eb_; refine ⟨_, rfl, ?_⟩; have n0_ := Aside0.mk (Kd.R_lower ho0 (below_size HB.out)); have n1_ := Aside0.mk (Kd.R_lower ho1 (below_size HB.out)); have n2_ := Aside0.mk (blk_below BK219.out hb); have n3_ := Aside0.mk (below_step HB.out hb); clear BK219; clear HB; have HO223 := n0_; have HO226 := n1_; have BK219 := n2_; have HB := n3_; clear n0_ n1_ n2_ n3_; (try clear hb); (try clear hb2); (try clear hk); (try clear hi); (try clear ho0); (try clear ho1)))
    go_ret2
    exact ⟨by first | rfl | (simp [errW_none, errW_some] <;> rfl) | (simp [*, errW_none, errW_some] <;> rfl), HB.out⟩
   subst c10
   have H1 : (ebbtideref11_Free.l0 k1 l1 (wrap64 (x7_1 + 1)) a0_0 a0_1 l0_2) = some (r1, r2) := by rw [if_pos rfl] at H; exact H
   clear H
   have H := H1
   clear H1
   have H' := Aside0.mk H
   clear H
   have hcz11_0 : wr.cell? ⟨gb219, 0, none⟩ = some (.int .i64 a0_0) := (blk_cell BK219.out 0).trans rfl
   have hcz11_1 : wr.cell? ⟨gb219, 1, none⟩ = some (.bool a0_1) := (blk_cell BK219.out 1).trans rfl
   have hcz11_2 : wr.cell? ⟨gb219, 2, none⟩ = some (.slice A0_2 l0_2.length c0_2) := (blk_cell BK219.out 2).trans rfl
   have hfz11_0 := blk_frozen BK219.out 0
   have hfz11_1 := blk_frozen BK219.out 1
   have hfz11_2 := blk_frozen BK219.out 2
   go_wp2_with (first | ((with_reducible refine gate_callee (f := 71) rfl ?_); refine goesL_ (some 23) rfl rfl Try.func71 (by kernel_rfl) rfl #[.agg #[.int .i64 a0_0, .bool a0_1, .slice A0_2 l0_2.length c0_2], .slice A1 l1.length c1, .int .i64 x7_1] rfl (by (try simp only [List.map_toArray, List.map_cons, List.map_nil]); first | done | rfl | (simp only [List.length_drop, List.length_take]; rfl)) ?_; (with_reducible refine (ebbtideref11_From.calls k1 a0_0 a0_1 _ _ l0_2 _ _ l1 x7_1 t221 t224 true _ ?side1 ?side2 ?side3 ?side4 A9.out).mono ?_); (case side1 => repeat (first | exact (Kd.C_below HR0_2.out HB.out) | (with_reducible refine Kd.C_alloc ?_ _) | (with_reducible refine Kd.C_drewN ?_ _) | (with_reducible refine Kd.C_drew ?_))); (case side2 => exact HC0_2.out); (case side3 => repeat (first | exact (Kd.C_below HR1.out HB.out) | (with_reducible refine Kd.C_alloc ?_ _) | (with_reducible refine Kd.C_drewN ?_ _) | (with_reducible refine Kd.C_drew ?_))); (case side4 => exact HC1.out); rintro e w12 ⟨v222, v225, rfl, ho0, ho1, hb⟩; obtain ⟨AA_, cc_, ee_⟩ := Kd.R_slice ho0; subst ee_; obtain ⟨AB_, cb_, eb_⟩ := Kd.R_slice ho1; subst eb_; refine ⟨_, rfl, ?_⟩; have n0_ := Aside0.mk (Kd.R_lower ho0 (below_size HB.out)); have n1_ := Aside0.mk (Kd.R_lower ho1 (below_size HB.out)); have n2_ := Aside0.mk (blk_below BK219.out hb); have n3_ := Aside0.mk (below_step HB.out hb); clear BK219; clear HB; have HO223 := n0_; have HO226 := n1_; have BK219 := n2_; have HB := n3_; clear n0_ n1_ n2_ n3_; (try clear hb); (try clear hb2); (try clear hk); (try clear hi); (try clear ho0); (try clear ho1)))
   go_roundg k1
   case measure => have := HK1.out; omega
   case rel => exact ⟨(wrap64 (x7_1 + 1)), (by first | rfl | (simp; done) | (simp [*]; done)), H', ⟨by have := HK1.out; omega⟩, ⟨BK219.out⟩, ⟨HB.out⟩⟩
end Go.Proofs.Ytkcpanpdipmmmaa.P

/- cost.Free answers as the document's Free. -/
set_option linter.unusedVariables false
set_option linter.unusedSimpArgs false
namespace Go.Proofs.Ytkcpanpdipmmmaa.H
open Go.RowKit Go.Proofs.YtkcpanpdipmmmaaW.PrintWords Go.Proofs.YtkcpanpdipmmmaaW.PrintLast Go.Proofs.YtkcpanpdipmmmaaW.PrintMore Go.Proofs.Ytkcpanpdipmmmaa.P Go.Proofs.Ytkcpanpdipmmmaa.Q
/-- Whether the document says free of a right network and flow. -/
def freeB (l : List S74) (F : List Int) (n : Nat) : Bool := (List.range n).all fun v => (refF l F n v).OK
theorem freeB_iff (l : List S74) (F : List Int) (n : Nat) : freeB l F n = true ↔ ∀ v, v < n → (refF l F n v).OK = true := by
  unfold freeB
  rw [List.all_eq_true]
  exact ⟨fun h v hv => h v (List.mem_range.2 hv), fun h v hv => h v (List.mem_range.1 hv)⟩
def freeRes (n : Int) (l : List S74) (F : List Int) : Bool × Int := if askErr n l F = 0 then (freeB l F n.toNat, 0) else (false, askErr n l F)
theorem free_l0 {l : List S74} {F : List Int} {n : Nat} (hr : Right l F n) (b : Bool) (d : Nat) : ∀ v : Nat, v + d = n → (∀ u, u < v → (refF l F n u).OK = true) →
    Ev (fun k => ebbtideref11_Free.l0 k F (v : Int) n b l) (freeB l F n, 0) := by
  have hn := hr.fifty
  induction d with
  | zero =>
    intro v hv hu
    refine Ev.succ ?_; simp only [ebbtideref11_Free.l0]
    refine Ev.neg (by omega) ?_
    exact Ev.done (by rw [(freeB_iff l F n).2 (fun u h => hu u (by omega))])
  | succ d ih =>
    intro v hv hu
    refine Ev.succ ?_; simp only [ebbtideref11_Free.l0]
    refine Ev.pos (by omega) ?_
    refine Ev.bind (from_ev hr b v (by omega)) ?_
    rw [wrap_succ (n := 51) (by omega) (by omega)]
    refine Ev.ite (fun g => ?_) (fun g => ?_)
    · exact ih (v + 1) (by omega) (fun u h => by
        by_cases e : u < v
        · exact hu u e
        · have : u = v := by omega
          subst this
          exact g)
    · refine Ev.done ?_
      have : freeB l F n = false := by
        cases h : freeB l F n with
        | false => rfl
        | true => exact absurd ((freeB_iff l F n).1 h v (by omega)) g
      rw [this]
theorem free_ev (n : Int) (b : Bool) (l : List S74) (F : List Int) : Ev (fun k => ebbtideref11_Free.f k n b l F) (freeRes n l F) := by
  unfold ebbtideref11_Free.f freeRes
  refine Ev.bind (ref_asked_ev n b l F) ?_
  refine Ev.ite (fun h => ?_) (fun h => ?_)
  · rw [if_pos h]
    obtain ⟨n0, rfl, hr⟩ := right_of h
    rw [Int.toNat_natCast]
    exact free_l0 hr b n0 0 (by omega) (fun u hu => absurd hu (Nat.not_lt_zero _))
  · rw [if_neg h]
    exact Ev.now _
theorem cost_Free_calls (k : Nat) (a0_0 : Int) (a0_1 : Bool) (A0_2 : Option Addr) (c0_2 : Nat) (l0_2 : List S74) (A1 : Option Addr) (c1 : Nat) (l1 : List Int) (r1 : Bool) (r2 : Int) (w : World) (hr0_2 : Kd.C k74 w A0_2 l0_2.length l0_2) (hc0_2 : l0_2.length ≤ c0_2) (hr1 : Kd.C (Kd.int .i64) w A1 l1.length l1) (hc1 : l1.length ≤ c1) (h : ebbtideref11_Free.f k a0_0 a0_1 l0_2 l1 = some (r1, r2)) :
    Calls Try.prog 47 #[.agg #[.int .i64 a0_0, .bool a0_1, .slice A0_2 l0_2.length c0_2], .slice A1 l1.length c1] w fun e w' => e = .returned (.tuple #[.bool r1, .int .i64 r2]) ∧ Below w.heap.size w w' := by
  have hres := Ev.uniq (Ev.of (fun k => ebbtideref11_Free.mono _ _ _ _ k) h) (free_ev a0_0 a0_1 l0_2 l1)
  obtain ⟨K, hK⟩ := asked_ev a0_0 a0_1 l0_2 l1
  have hA := hK K (Nat.le_refl _)
  unfold freeRes at hres
  by_cases h0 : askErr a0_0 l0_2 l1 = 0
  · rw [if_pos h0] at hres
    rw [h0] at hA
    obtain ⟨n0, rfl, hr⟩ := right_of h0
    rw [Int.toNat_natCast] at hres
    injection hres with q1 q2
    refine (free_ok K n0 a0_1 A0_2 c0_2 l0_2 A1 c1 l1 w hr hr0_2 hc0_2 hr1 hc1 hA).mono ?_
    rintro e w' ⟨rfl, hb⟩
    refine ⟨?_, hb⟩
    have e : (goesR l0_2 l1 n0 (n0 + 1) (allR n0)).2 = freeB l0_2 l1 n0 := by
      rw [Bool.eq_iff_iff, freeB_iff]
      exact free_same hr
    rw [e, q1, q2]
  · rw [if_neg h0] at hres
    injection hres with q1 q2
    refine (free_no K a0_0 a0_1 A0_2 c0_2 l0_2 A1 c1 l1 _ w hr0_2 hc0_2 hr1 hc1 hA h0).mono ?_
    rintro e w' ⟨rfl, hb⟩
    exact ⟨by rw [q1, q2], hb⟩
end Go.Proofs.Ytkcpanpdipmmmaa.H

-- Laid by wip/tool/mk.py, by the kit's print.py, for all laws of this seat in one namespace; a function told as by hand has a proof of this session's own.
namespace Go.Proofs.Ytkcpanpdipmmmaa.P
open Go.RowKit Go.Proofs.YtkcpanpdipmmmaaW.PrintWords Go.Proofs.YtkcpanpdipmmmaaW.PrintLast Go.Proofs.YtkcpanpdipmmmaaW.PrintMore
attribute [local go_sem] max2_int min2_int max_two min_two max_three min_three max_four min_four   -- for this text's walks alone
set_option linter.unusedVariables false
set_option linter.unusedSimpArgs false

/-! ### cost_Free: function 47 -/
def cost_Free.f (k : Nat) (a0_0 : Int) (a0_1 : Bool) (l0_2 : List (S74)) (l1 : List Int) : Option (Bool × Int) := ebbtideref11_Free.f k a0_0 a0_1 l0_2 l1
theorem cost_Free.mono : ∀ a0 a1 a2 a3 k, LeO (cost_Free.f k a0 a1 a2 a3) (cost_Free.f (k + 1) a0 a1 a2 a3) := ebbtideref11_Free.mono
theorem cost_Free.calls (k : Nat) (a0_0 : Int) (a0_1 : Bool) (A0_2 : Option Addr) (c0_2 : Nat) (l0_2 : List (S74)) (A1 : Option Addr) (c1 : Nat) (l1 : List Int) (r1 : Bool) (r2 : Int) (w : World) (hr0_2 : Kd.C k74 w A0_2 l0_2.length l0_2) (hc0_2 : l0_2.length ≤ c0_2) (hr1 : Kd.C (Kd.int .i64) w A1 l1.length l1) (hc1 : l1.length ≤ c1) (h : cost_Free.f k a0_0 a0_1 l0_2 l1 = some (r1, r2)) :
  Calls Try.prog 47 #[.agg #[.int .i64 a0_0, .bool a0_1, .slice A0_2 l0_2.length c0_2], .slice A1 l1.length c1] w fun e w' => e = .returned (.tuple #[.bool r1, .int .i64 r2]) ∧ Below w.heap.size w w' := H.cost_Free_calls k a0_0 a0_1 A0_2 c0_2 l0_2 A1 c1 l1 r1 r2 w hr0_2 hc0_2 hr1 hc1 h

end Go.Proofs.Ytkcpanpdipmmmaa.P
