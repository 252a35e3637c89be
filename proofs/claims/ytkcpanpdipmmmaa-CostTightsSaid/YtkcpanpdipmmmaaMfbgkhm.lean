/- What the law's row needs of these texts, taken out of them by wip/tool/mini.py: QSetWalk QSortNil QSortRow QAt QFromWalk QFarWalk QFreeWalk QCostLaw QCostFar QCostFree P37 P33 P35. -/
import Derived.Test.YtkcpanpdipmmmaaMiblflf
import Derived.Test.YtkcpanpdipmmmaaManjihn
import Derived.Test.YtkcpanpdipmmmaaMhhjmbj
import Derived.RegionTactic
import Derived.ChangeAlike
import Derived.BigRegion
import Derived.LoopTactic
import Derived.WalkKit
import Derived.WalkMore
set_option linter.unusedVariables false
set_option linter.unusedSimpArgs false
namespace Go.Proofs.Ytkcpanpdipmmmaa.H
open Go.RowKit Go.Proofs.YtkcpanpdipmmmaaW.PrintWords Go.Proofs.YtkcpanpdipmmmaaW.PrintLast Go.Proofs.YtkcpanpdipmmmaaW.PrintMore Go.Proofs.Ytkcpanpdipmmmaa.P
attribute [local irreducible] wpQuiet
theorem goes_step {l : List S74} {F : List Int} {n k : Nat} {x x' : Rch} (hs : roundR l F n x = x') (h : x'.still = false) : goesR l F n (k + 1) x = goesR l F n k x' := by
 subst hs
 show (if _ then _ else _) = _
 rw [if_neg (by rw [h]; simp)]
theorem goes_end {l : List S74} {F : List Int} {n k : Nat} {x x' : Rch} (hs : roundR l F n x = x') (h : x'.still = true) : goesR l F n (k + 1) x = (x', true) := by
 subst hs
 show (if _ then _ else _) = _
 rw [if_pos h]
def upV (l : List S74) (F : List Int) (x : Rch) (v : Nat) : Rch := (List.range v).foldl (rowR l F) { x with still := true }
def upJ (l : List S74) (F : List Int) (v : Nat) (y : Rch) (j : Nat) : Rch := ((stL l v l.length).take j).foldl (visR l F v) y
theorem upV_succ (l : List S74) (F : List Int) (x : Rch) (v : Nat) : upV l F x (v + 1) = rowR l F (upV l F x v) v := by
 unfold upV
 rw [List.range_succ, List.foldl_append]
 rfl
theorem upJ_succ (l : List S74) (F : List Int) (v : Nat) (y : Rch) (j : Nat) (hj : j < (stL l v l.length).length) : upJ l F v y (j + 1) = visR l F v (upJ l F v y j) (rd_T38 (stL l v l.length) (j : Int)) := by
 unfold upJ
 have e : (stL l v l.length).take (j + 1) = (stL l v l.length).take j ++ [rd_T38 (stL l v l.length) (j : Int)] := by
  rw [List.take_add_one, List.getElem?_eq_getElem hj]
  show _ ++ [_] = _ ++ [(stL l v l.length).getD (j : Int).toNat z38]
  rw [Int.toNat_natCast, List.getD_eq_getElem?_getD, List.getElem?_eq_getElem hj]
  rfl
 rw [e, List.foldl_append]
 rfl
theorem upJ_all (l : List S74) (F : List Int) (v : Nat) (y : Rch) (hv : y.I.getD v false = true) : upJ l F v y (stL l v l.length).length = rowR l F y v := by
 unfold upJ rowR
 rw [List.take_length, if_pos hv]
theorem vis_on {l : List S74} {F : List Int} {v : Nat} {x : Rch} {s : S38} (h : visC l F v x s = true) : visR l F v x s = ⟨x.D.set (stTo l s).toNat (x.D.getD v 0 + stTime l s), x.I.set (stTo l s).toNat true, x.B.set (stTo l s).toNat s, false⟩ := by
 unfold visR; rw [if_pos h]
theorem vis_off {l : List S74} {F : List Int} {v : Nat} {x : Rch} {s : S38} (h : visC l F v x s = false) : visR l F v x s = x := by
 unfold visR; rw [if_neg (by rw [h]; simp)]
theorem rows_at {l : List S74} {n v : Nat} (hv : v < n) : rd_L4 (rowsAt l n n) (v : Int) = stL l v l.length := by
 unfold rd_L4
 rw [Int.toNat_natCast, List.getD_eq_getElem?_getD, rowsAt_get l n n v hv, if_pos hv]
 rfl
theorem set_true (L : List Bool) (u v : Nat) (h : L.getD v false = true) : (L.set u true).getD v false = true := by
 by_cases e : u = v
 ·subst e
  by_cases hl : u < L.length
  ·exact getD_set_eq _ _ _ _ hl
  ·rw [List.getD_eq_getElem?_getD, List.getElem?_eq_none (by omega)] at h
   cases h
 ·rw [getD_set_ne _ _ _ _ _ e]; exact h
set_option maxHeartbeats 2000000 in
set_option maxRecDepth 100000 in
theorem settled_calls (n0 : Nat) (a0_1 : Bool) (A2 : Option Addr) (c2 : Nat) (l : List S74) (A3 : Option Addr) (c3 : Nat) (F : List Int) (A4 : Option Addr) (c4 : Nat) (gd gi gb cd ci cb b0 : Nat) (x : Rch) (w : World)
  (hR : Right l F n0) (hx : x.Ok n0) (hD0 : Bd x.D 0) (hc2 : l.length ≤ c2) (hc3 : F.length ≤ c3)
  (h2 : Kd.F k74 w (okR gd gi gb) A2 l.length l) (h3 : Kd.F (Kd.int .i64) w (okR gd gi gb) A3 F.length F) (h4 : Kd.V (Kd.slice 38 k38) 34 w w.heap.size (okR gd gi gb) (.slice A4 n0 c4) (rowsAt l n0 n0))
  (hD : Kd.R (Kd.int .i64) 3 w b0 (fun _ => True) (.slice (some ⟨gd, 0, none⟩) n0 cd) x.D) (hI : Kd.R Kd.bool 4 w b0 (fun _ => True) (.slice (some ⟨gi, 0, none⟩) n0 ci) x.I) (hB : Kd.R k38 38 w b0 (fun _ => True) (.slice (some ⟨gb, 0, none⟩) n0 cb) x.B) :
  Calls Try.prog 100 #[.agg #[.int .i64 n0, .bool a0_1, .slice A2 l.length c2, .slice A3 F.length c3, .slice A4 n0 c4], .agg #[.slice (some ⟨gd, 0, none⟩) n0 cd, .slice (some ⟨gi, 0, none⟩) n0 ci, .slice (some ⟨gb, 0, none⟩) n0 cb]] w fun e w' => e = .returned (.bool (goesR l F n0 (n0 + 1) x).2) ∧ Kp gd gi gb w w' ∧
   Kd.R (Kd.int .i64) 3 w' b0 (fun _ => True) (.slice (some ⟨gd, 0, none⟩) n0 cd) (goesR l F n0 (n0 + 1) x).1.D ∧ Kd.R Kd.bool 4 w' b0 (fun _ => True) (.slice (some ⟨gi, 0, none⟩) n0 ci) (goesR l F n0 (n0 + 1) x).1.I ∧ Kd.R k38 38 w' b0 (fun _ => True) (.slice (some ⟨gb, 0, none⟩) n0 cb) (goesR l F n0 (n0 + 1) x).1.B := by
 have hu118 := Try.underlying118
 have hu109 := Try.underlying109
 have HR := Aside0.mk hR
 have HC2 := Aside0.mk hc2
 have HC3 := Aside0.mk hc3
 have H2 := Aside0.mk h2
 have H3 := Aside0.mk h3
 have H4 := Aside0.mk h4
 have HD := Aside0.mk hD
 have HI := Aside0.mk hI
 have HBB := Aside0.mk hB
 have hn50 : n0 ≤ 50 := hR.fifty
 have hn0 : 0 < n0 := hR.pos
 clear hR h2 h3 h4 hD hI hB hc2 hc3
 obtain ⟨XT, hXT⟩ : ∃ y_, y_ = goesR l F n0 (n0 + 1) x := ⟨_, rfl⟩
 rw [← hXT]
 have HXT := Aside0.mk hXT.symm
 clear hXT
 have HB := Aside0.mk (Below.refl w.heap.size w)
 go_enter Try.func100, Try.ntmps100
 go_wp2_with (first | ((with_reducible refine gate_dst (N := 2) rfl ?_); refine box_event ?hg (N := 2) ?hd (cs := #[.int .i64 n0, .bool a0_1, .slice A2 l.length c2, .slice A3 F.length c3, .slice A4 n0 c4]) (t := 118) ?hr ?_; (case hd => rfl); (case hg => rfl); (case hr => first | (go_simp; done) | (go_simp; rfl)); intro g2 hg w4 hbox hb; have n0_ := Aside0.mk (below_step HB.out hb); have B2 := Aside0.mk hbox; clear HB; have HB := n0_; clear n0_ hb hbox hg) | ((with_reducible refine gate_dst (N := 3) rfl ?_); refine box_event ?hg (N := 3) ?hd (cs := #[.slice (some ⟨gd, 0, none⟩) n0 cd, .slice (some ⟨gi, 0, none⟩) n0 ci, .slice (some ⟨gb, 0, none⟩) n0 cb]) (t := 109) ?hr ?_; (case hd => rfl); (case hg => rfl); (case hr => first | (go_simp; done) | (go_simp; rfl)); intro g3 hg w5 hbox hb; have n0_ := Aside0.mk (below_step HB.out hb); have n1_ := Aside0.mk (blk_below B2.out hb); have B3 := Aside0.mk hbox; clear HB B2; have HB := n0_; have B2 := n1_; clear n0_ n1_ hb hbox hg) | fail)
 go_step3
 go_wp2
 go_step3
 have HF : Aside0 (Fm n0 a0_1 A2 c2 l A3 c3 F A4 c4 gd gi gb cd ci cb b0 g2 g3 w (x) (w5)) := ⟨⟨Kd.R_below HD.out HB.out, Kd.R_below HI.out HB.out, Kd.R_below HBB.out HB.out, B2.out, B3.out, Kd.F_below H2.out HB.out, Kd.F_below H3.out HB.out, Kd.V_below H4.out HB.out, (Kp.refl gd gi gb w).below HB.out⟩⟩
 clear HD HI HBB H2 H3 H4 HB
 have hb20 : w5.cell? ⟨g2, 0, none⟩ = some (.int .i64 n0) := (blk_cell B2.out 0).trans rfl
 go_wp2_with fail
 clear hb20 B2 B3
 go_loopw [16] (fun v16 w' => ∃ r : Nat, r ≤ n0 + 1 ∧ v16 = .int .i64 r ∧ ∃ x' : Rch, Aside0 (x'.Ok n0) ∧ Aside0 (Bd x'.D (20000 * (r : Int))) ∧ Aside0 (goesR l F n0 (n0 + 1 - r) x' = XT) ∧ Aside0 (Fm n0 a0_1 A2 c2 l A3 c3 F A4 c4 gd gi gb cd ci cb b0 g2 g3 w (x') (w'))) (fun v16 _ => n0 + 1 - (intOf v16).toNat)
 case atStart => exact ⟨0, Nat.zero_le _, rfl, x, ⟨hx⟩, ⟨by simpa using hD0⟩, HXT, HF⟩
 case round =>
  clear HF HXT
  obtain ⟨r, hr, rfl, x1, HO1, HBD1, HG1, HF⟩ := hrel
  by_cases hlt : r < n0 + 1
  ·have c17 : decide ((r : Int) < (n0 : Int) + 1) = true := decide_eq_true (by omega)
   have hb20 : wr.cell? ⟨g2, 0, none⟩ = some (.int .i64 n0) := (blk_cell HF.out.b2 0).trans rfl
   go_wp2_with fail
   clear hb20
   have HF2 := Aside0.mk (HF.out.still true)
   have HO2 : Aside0 ((upV l F x1 0).Ok n0) := ⟨⟨HO1.out.hD, HO1.out.hI, HO1.out.hB⟩⟩
   clear HF
   obtain ⟨w1, hw1⟩ : ∃ x_ : World, x_ = wr := ⟨_, rfl⟩
   subst hw1
   go_loopw [22, 5] (fun v22 v5 w' => ∃ v : Nat, v ≤ n0 ∧ v22 = .int .i64 v ∧ ∃ y : Rch, v5 = .bool y.still ∧ Aside0 (y = upV l F x1 v) ∧ Aside0 (y.Ok n0) ∧ Aside0 (Bd y.D (20000 * (r : Int) + 400 * (v : Int))) ∧ Aside0 (Fm n0 a0_1 A2 c2 l A3 c3 F A4 c4 gd gi gb cd ci cb b0 g2 g3 w (y) (w'))) (fun v22 _ _ => n0 - (intOf v22).toNat)
   case atStart => exact ⟨0, Nat.zero_le _, rfl, upV l F x1 0, rfl, ⟨rfl⟩, HO2, ⟨by show Bd x1.D _; simpa using HBD1.out⟩, HF2⟩
   case round =>
    clear HF2 HO2 HBD1 HO1
    obtain ⟨v, hv, rfl, y, rfl, HY, HO, HBD, HF⟩ := hrel
    by_cases hltv : v < n0
    ·have c23 : decide ((v : Int) < (n0 : Int)) = true := decide_eq_true (by omega)
     have hb31 : wr.cell? ⟨g3, 1, none⟩ = some (.slice (some ⟨gi, 0, none⟩) n0 ci) := (blk_cell HF.out.b3 1).trans rfl
     have hiv := HF.out.iv hltv
     have pv : 0 ≤ ((v : Nat) : Int) := by omega
     have qv : ((v : Nat) : Int) < (n0 : Int) := by omega
     cases hIv : y.I.getD v false with
     | false =>
      rw [hIv] at hiv
      have HYS : Aside0 (y = upV l F x1 (v + 1)) := ⟨by rw [upV_succ, ← HY.out]; unfold rowR; rw [if_neg (by rw [hIv]; simp)]⟩
      clear hIv
      go_wp2_with fail
      clear hb31 hiv
      go_roundw
      case rel => exact ⟨v + 1, by omega, by first | rfl | go_num, y, rfl, HYS, HO, ⟨HBD.out.mono (by omega)⟩, HF⟩
      case measure => simp [intOf] <;> omega
     | true =>
      rw [hIv] at hiv
      have HIV := Aside0.mk hIv
      have HIVy := Aside0.mk hIv
      clear hIv
      have hc0 : wr.cell? ⟨g2, 0, none⟩ = some (.int .i64 n0) := (blk_cell HF.out.b2 0).trans rfl
      have hc1 : wr.cell? ⟨g2, 1, none⟩ = some (.bool a0_1) := (blk_cell HF.out.b2 1).trans rfl
      have hc2 : wr.cell? ⟨g2, 2, none⟩ = some (.slice A2 l.length c2) := (blk_cell HF.out.b2 2).trans rfl
      have hc3 : wr.cell? ⟨g2, 3, none⟩ = some (.slice A3 F.length c3) := (blk_cell HF.out.b2 3).trans rfl
      have hc4 : wr.cell? ⟨g2, 4, none⟩ = some (.slice A4 n0 c4) := (blk_cell HF.out.b2 4).trans rfl
      have hSt := level_Seeker_Steps.calls (n0 : Int) a0_1 A2 c2 l A3 c3 F (okR gd gi gb) A4 c4 (rowsAt l n0 n0) (v : Int) (stL l v l.length) wr (Kd.F_now HF.out.arcs) HC2.out (Kd.F_now HF.out.flow) HC3.out (by rw [rowsAt_len]; exact HF.out.rows) (by unfold level_Seeker_Steps.f; rw [rowsAt_len, if_pos pv, if_pos qv, rows_at hltv])
      rw [rowsAt_len] at hSt
      have HST := Aside0.mk hSt
      clear hSt
      obtain ⟨RW, hRW⟩ : ∃ r_, r_ = stL l v l.length := ⟨_, rfl⟩
      have HRW := Aside0.mk hRW
      have HRL : RW.length ≤ 400 := by rw [hRW]; have := stL_len l v l.length; have := HR.out.arcs; omega
      clear hRW
      go_wp2_with (first | (go_at_call 140; refine HST.out.mono ?_; rintro e_ w20 ⟨v0, rfl, hv, hb⟩; rw [← HRW.out] at hv; obtain ⟨Av, cv, ev⟩ := Kd.V_slice hv; subst ev; have VR : Aside0 (Kd.V k38 38 w20 0 (okR gd gi gb) (.slice Av RW.length cv) RW) := ⟨Kd.V_mono hv (fun k hk => hk.elim id (fun h => by obtain ⟨_, _, _, _, _, _, _, _, _, p1, p2, p3⟩ := HF.out.blocks HO.out hn0; exact ⟨by omega, by omega, by omega⟩))⟩; have n0_ := Aside0.mk (HF.out.below hb); clear HF; have HF := n0_; clear n0_ hv hb hc0 hc1 hc2 hc3 hc4 hb31 hiv) | fail)
      obtain ⟨w2, hw2⟩ : ∃ x_ : World, x_ = w20 := ⟨_, rfl⟩
      subst hw2
      have HZ0 : Aside0 (y = upJ l F v y 0) := ⟨rfl⟩
      go_loopw [35, 5] (fun v35 v5 w' => ∃ j : Nat, j ≤ RW.length ∧ v35 = .int .i64 j ∧ ∃ z : Rch, v5 = .bool z.still ∧ Aside0 (z = upJ l F v y j) ∧ Aside0 (z.Ok n0) ∧ Aside0 (Bd z.D (20000 * (r : Int) + 400 * (v : Int) + (j : Int))) ∧ Aside0 (z.I.getD v false = true) ∧ Aside0 (Fm n0 a0_1 A2 c2 l A3 c3 F A4 c4 gd gi gb cd ci cb b0 g2 g3 w (z) (w')) ∧ Aside0 (Kd.V k38 38 w' 0 (okR gd gi gb) (.slice Av RW.length cv) RW)) (fun v35 _ _ => RW.length - (intOf v35).toNat)
      case atStart => exact ⟨0, Nat.zero_le _, rfl, y, rfl, HZ0, HO, ⟨by simpa using HBD.out⟩, HIV, HF, VR⟩
      case round =>
       clear HZ0 HBD HIV HF VR
       obtain ⟨j, hj, rfl, z, rfl, HZ, HOz, HBD, HIV, HF, VR⟩ := hrel
       by_cases hltj : j < RW.length
       ·have pj : 0 ≤ ((j : Nat) : Int) := by omega
        have qj : ((j : Nat) : Int) < (RW.length : Int) := by omega
        have c36 : decide ((j : Int) < (RW.length : Int)) = true := decide_eq_true qj
        obtain ⟨adj, eadj, hs0, hs1⟩ := at_T38 (Kd.V_reads' VR.out).2.2 (j : Int) pj qj
        cases eadj
        simp only [Int.toNat_natCast] at hs0 hs1
        have HZS := Aside0.mk (upJ_succ l F v y j (by rw [← HRW.out]; exact hltj))
        have hso : StepOf l (rd_T38 RW (j : Int)) := stL_of (l := l) (v := v) (by
         rw [← HRW.out]
         unfold rd_T38
         rw [Int.toNat_natCast, List.getD_eq_getElem?_getD, List.getElem?_eq_getElem hltj]
         exact List.getElem_mem hltj)
        rw [← HRW.out, ← HZ.out] at HZS
        obtain ⟨s, hs⟩ : ∃ s_, s_ = rd_T38 RW (j : Int) := ⟨_, rfl⟩
        rw [← hs] at hs0 hs1 HZS hso
        have HSO := Aside0.mk hso
        clear hs hso HZ
        go_wp2_with (first | ((with_reducible refine gate_dst (N := 8) rfl ?_); refine box_event ?hg (N := 8) ?hd (cs := #[.int .i64 0, .bool false]) (t := 38) ?hr ?_; (case hd => rfl); (case hg => rfl); (case hr => first | (go_simp; done) | (go_simp; rfl)); intro g8 hg w6 hbox hb; have GE8 : Aside0 (wr.heap.size ≤ g8) := ⟨Nat.le_of_eq hg.symm⟩; have B8 := Aside0.mk hbox; have HBL := Aside0.mk hb; clear hbox hg hb; have hcz0 : w6.cell? ⟨g8, 0, none⟩ = some (.int .i64 0) := (blk_cell B8.out 0).trans rfl; have hcz1 : w6.cell? ⟨g8, 1, none⟩ = some (.bool false) := (blk_cell B8.out 1).trans rfl; have hfz0 := blk_frozen B8.out 0; have hfz1 := blk_frozen B8.out 1) | ((with_reducible refine gate_store (t := 38) (p := 8) rfl ?_); refine store_event (t := 38) (p := 8) (v := ?vo) (w1 := ((w6.setCell ⟨g8, 0, none⟩ (.int .i64 s.f0)).setCell ⟨g8, 1, none⟩ (.bool s.f1))) ?hg ?ho ?hn ?hr ?_; (case ho => rfl); (case hg => rfl); (case hn => rfl); (case hr => first | (go_simp; done) | (go_simp; rfl)); intro w8 hw; have m0_ : Aside0 (w8.heap[g8]? = some (.cells #[.int .i64 s.f0, .bool s.f1] 38 (0, 0))) := ⟨by rw [hw]; refine blk_put (cs := #[.int .i64 s.f0, .bool false]) ?_ 1 _ rfl; refine blk_put (cs := #[.int .i64 0, .bool false]) ?_ 0 _ rfl; exact B8.out⟩; have m1_ : Aside0 (Below wr.heap.size wr w8) := ⟨by rw [hw]; exact below_set (below_set HBL.out GE8.out) GE8.out⟩; clear hw B8 HBL hcz0 hcz1 hfz0 hfz1 hs0 hs1; have B8 := m0_; have HBL := m1_; clear m0_ m1_) | fail)
        have HG8a : Aside0 (g8 ≠ gd ∧ g8 ≠ gi ∧ g8 ≠ gb) := ⟨by obtain ⟨_, _, _, _, _, _, _, _, _, p1, p2, p3⟩ := HF.out.blocks HOz.out hn0; have := GE8.out; exact ⟨by omega, by omega, by omega⟩⟩
        have m0_ := Aside0.mk (HF.out.below HBL.out)
        have m1_ := Aside0.mk (Kd.V_below VR.out HBL.out)
        clear HF VR HBL
        have HF := m0_
        have VR := m1_
        clear m0_ m1_
        obtain ⟨dv, hdv⟩ : ∃ d_, d_ = z.D.getD v 0 := ⟨_, rfl⟩
        obtain ⟨tm, htm⟩ : ∃ d_, d_ = stTime l s := ⟨_, rfl⟩
        obtain ⟨u, hu⟩ : ∃ u_ : Nat, stTo l s = (u_ : Int) := ⟨(stTo l s).toNat, by have := stTo_in HR.out HSO.out; omega⟩
        obtain ⟨rm, hrm⟩ : ∃ d_, d_ = stRoom l F s := ⟨_, rfl⟩
        have hun : u < n0 := by have := stTo_in HR.out HSO.out; omega
        have htb := stTime_in HR.out HSO.out
        rw [← htm] at htb
        have hdb := HBD.out v
        rw [← hdv] at hdb
        have hwd : IntKind.i64.wrap (dv + tm) = dv + tm := by rw [IntKind.wrap_i64]; omega
        have HTO := Aside0.mk (to_f HR.out HSO.out (n0 : Int) a0_1)
        have HTM := Aside0.mk (time_f HR.out HSO.out (n0 : Int) a0_1)
        have HRM := Aside0.mk (room_f HR.out HSO.out (n0 : Int) a0_1)
        rw [hu] at HTO
        rw [← htm] at HTM
        rw [← hrm] at HRM
        have hcD := HF.out.dv hltv
        rw [← hdv] at hcD
        have HVC : Aside0 (visC l F v z s = (decide (0 < rm) && (!z.I.getD u false || decide (dv + tm < z.D.getD u 0)))) := ⟨by unfold visC; rw [← hrm, ← hdv, ← htm, hu, Int.toNat_natCast]⟩
        have HVO : Aside0 (visC l F v z s = true → visR l F v z s = ⟨z.D.set u (dv + tm), z.I.set u true, z.B.set u s, false⟩) := ⟨fun h => by rw [vis_on h, ← hdv, ← htm, hu, Int.toNat_natCast]⟩
        have HBS : Aside0 (Bd (z.D.set u (dv + tm)) (20000 * (r : Int) + 400 * (v : Int) + ((j + 1 : Nat) : Int))) := ⟨by
         have h_ := HBD.out.set (by omega) u v tm htb.1 htb.2
         rw [← hdv] at h_
         exact h_.mono (by omega)⟩
        clear hdb htb hu hrm htm hdv
        have q0 : ∀ p : BelowW w8, p.at_.cell? ⟨g2, 0, none⟩ = some (.int .i64 n0) := fun p => p.cell ((blk_cell HF.out.b2 0).trans rfl)
        have q1 : ∀ p : BelowW w8, p.at_.cell? ⟨g2, 1, none⟩ = some (.bool a0_1) := fun p => p.cell ((blk_cell HF.out.b2 1).trans rfl)
        have q2 : ∀ p : BelowW w8, p.at_.cell? ⟨g2, 2, none⟩ = some (.slice A2 l.length c2) := fun p => p.cell ((blk_cell HF.out.b2 2).trans rfl)
        have q3 : ∀ p : BelowW w8, p.at_.cell? ⟨g2, 3, none⟩ = some (.slice A3 F.length c3) := fun p => p.cell ((blk_cell HF.out.b2 3).trans rfl)
        have q4 : ∀ p : BelowW w8, p.at_.cell? ⟨g8, 0, none⟩ = some (.int .i64 s.f0) := fun p => p.cell ((blk_cell B8.out 0).trans rfl)
        have q5 : ∀ p : BelowW w8, p.at_.cell? ⟨g8, 1, none⟩ = some (.bool s.f1) := fun p => p.cell ((blk_cell B8.out 1).trans rfl)
        have q6 : ∀ p : BelowW w8, p.at_.cell? ⟨g3, 0, none⟩ = some (.slice (some ⟨gd, 0, none⟩) n0 cd) := fun p => p.cell ((blk_cell HF.out.b3 0).trans rfl)
        have q7 : ∀ p : BelowW w8, p.at_.cell? ⟨gd, v, none⟩ = some (.int .i64 dv) := fun p => p.cell hcD
        have HCA : Aside0 (∀ p : BelowW w8, Kd.C k74 p.at_ A2 l.length l) := ⟨fun p => Kd.F_now (Kd.F_below HF.out.arcs p.below)⟩
        have HCF : Aside0 (∀ p : BelowW w8, Kd.C (Kd.int .i64) p.at_ A3 F.length F) := ⟨fun p => Kd.F_now (Kd.F_below HF.out.flow p.below)⟩
        clear hcD
        have HG8 : Aside0 (g8 ≠ gd ∧ g8 ≠ gi ∧ g8 ≠ gb) := ⟨HG8a.out⟩
        refine wp_region_quiet_below (by kernel_rfl) (by kernel_rfl) ?_; (repeat (quiet_step ((first | (go_at_call 105; exact calls_below_of (static_Flowing_To.calls (n0 : Int) a0_1 A2 c2 l A3 c3 F s.f0 s.f1 (u : Int) _ (HCA.out _) HC2.out (HCF.out _) HC3.out HTO.out)) | (go_at_call 107; exact calls_below_of (static_Flowing_Time.calls (n0 : Int) a0_1 A2 c2 l A3 c3 F s.f0 s.f1 tm _ (HCA.out _) HC2.out (HCF.out _) HC3.out HTM.out)))))); refine wpQuiet_nil ?_; intro wq hw'; obtain ⟨⟨wz, hbq⟩, hwq⟩ := hw'; subst hwq
        have m0_ := Aside0.mk (HF.out.below hbq)
        have m1_ := Aside0.mk (Kd.V_below VR.out hbq)
        have m2_ := Aside0.mk (blk_below B8.out hbq)
        clear HF VR B8 HCA HCF q0 q1 q2 q3 q4 q5 q6 q7 hbq
        have HF := m0_
        have VR := m1_
        have B8 := m2_
        clear m0_ m1_ m2_
        have r0 : wq.cell? ⟨g2, 0, none⟩ = some (.int .i64 n0) := (blk_cell HF.out.b2 0).trans rfl
        have r1 : wq.cell? ⟨g2, 1, none⟩ = some (.bool a0_1) := (blk_cell HF.out.b2 1).trans rfl
        have r2 : wq.cell? ⟨g2, 2, none⟩ = some (.slice A2 l.length c2) := (blk_cell HF.out.b2 2).trans rfl
        have r3 : wq.cell? ⟨g2, 3, none⟩ = some (.slice A3 F.length c3) := (blk_cell HF.out.b2 3).trans rfl
        have r4 : wq.cell? ⟨g8, 0, none⟩ = some (.int .i64 s.f0) := (blk_cell B8.out 0).trans rfl
        have r5 : wq.cell? ⟨g8, 1, none⟩ = some (.bool s.f1) := (blk_cell B8.out 1).trans rfl
        have pu : 0 ≤ ((u : Nat) : Int) := by omega
        have qu : ((u : Nat) : Int) < (n0 : Int) := by omega
        by_cases hpos : 0 < rm
        ·have e57 : decide (0 < rm) = true := decide_eq_true hpos
         rw [e57, Bool.true_and] at HVC
         cases hIu : z.I.getD u false with
         | false =>
          rw [hIu] at HVC
          have HZN : Aside0 ((⟨z.D.set u (dv + tm), z.I.set u true, z.B.set u s, false⟩ : Rch) = upJ l F v y (j + 1)) := ⟨by rw [HZS.out]; exact (HVO.out (by rw [HVC.out]; rfl)).symm⟩
          have HIU := Aside0.mk hIu
          clear hIu hpos
          go_wp2_with (first | (go_at_call 104; refine (static_Flowing_Room.calls (n0 : Int) a0_1 A2 c2 l A3 c3 F s.f0 s.f1 rm _ (Kd.F_now HF.out.arcs) HC2.out (Kd.F_now HF.out.flow) HC3.out HRM.out).mono ?_; rintro e_ w21 ⟨rfl, hb⟩; have m0_ := Aside0.mk (HF.out.below hb); have m1_ := Aside0.mk (Kd.V_below VR.out hb); have m2_ := Aside0.mk (blk_below B8.out hb); have m3_ : Aside0 (g8 < w21.heap.size) := ⟨Nat.lt_of_lt_of_le (blk_lt B8.out) hb.size⟩; clear HF VR B8 hb r0 r1 r2 r3 r4 r5; have HF := m0_; have VR := m1_; have B8 := m2_; clear m0_ m1_ m2_ m3_; have s0 : w21.cell? ⟨g3, 0, none⟩ = some (.slice (some ⟨gd, 0, none⟩) n0 cd) := (blk_cell HF.out.b3 0).trans rfl; have s1 : w21.cell? ⟨g3, 1, none⟩ = some (.slice (some ⟨gi, 0, none⟩) n0 ci) := (blk_cell HF.out.b3 1).trans rfl; have s2 : w21.cell? ⟨g3, 2, none⟩ = some (.slice (some ⟨gb, 0, none⟩) n0 cb) := (blk_cell HF.out.b3 2).trans rfl; have s3 := HF.out.iv hun; have s4 := HF.out.dv hun; rw [HIU.out] at s3) | fail)
          (have s5 : w21.cell? ⟨g8, 0, none⟩ = some (.int .i64 s.f0) := (blk_cell B8.out 0).trans rfl; have s6 : w21.cell? ⟨g8, 1, none⟩ = some (.bool s.f1) := (blk_cell B8.out 1).trans rfl; have f0 := (HF.out.free hn0 u).1; have f1 := (HF.out.free hn0 u).2.1; have f2 := (HF.out.free hn0 (u * 2)).2.2; have f3 := (HF.out.free hn0 (u * 2 + 1)).2.2; obtain ⟨t2, t3⟩ := HF.out.bv hun; obtain ⟨n1, n2, n3, n4, n5, n6, n7, n8, n9, _, _, _⟩ := HF.out.blocks HOz.out hn0; obtain ⟨k1, k2, k3⟩ := HG8.out; go_region; clear s0 s1 s2 s3 s4 s5 s6 f0 f1 f2 f3 t2 t3 n1 n2 n3 n4 n5 n6 n7 n8 n9 k1 k2 k3; have HF2 := Aside0.mk ((HF.out.put HOz.out hn0 hun (dv + tm) s).below (below_drew (Below.refl _ _))); have VR2 : Aside0 (Kd.V k38 38 (((((w21.setCell ⟨gd, u, none⟩ (.int .i64 (dv + tm))).setCell ⟨gi, u, none⟩ (.bool true)).setCell ⟨gb, u * 2, none⟩ (.int .i64 s.f0)).setCell ⟨gb, u * 2 + 1, none⟩ (.bool s.f1)).drew) 0 (okR gd gi gb) (.slice (some adj) RW.length cv) RW) := ⟨Kd.V_drew (Kd.V_far (p := ⟨gb, u * 2 + 1, none⟩) (Kd.V_far (p := ⟨gb, u * 2, none⟩) (Kd.V_far (p := ⟨gi, u, none⟩) (Kd.V_far (p := ⟨gd, u, none⟩) VR.out (fun _ hk => hk.1) _) (fun _ hk => hk.2.1) _) (fun _ hk => hk.2.2) _) (fun _ hk => hk.2.2) _)⟩; clear HF VR B8; have HOn : Aside0 (Rch.Ok n0 ⟨z.D.set u (dv + tm), z.I.set u true, z.B.set u s, false⟩) := ⟨⟨by simp [HOz.out.hD], by simp [HOz.out.hI], by simp [HOz.out.hB]⟩⟩; have HIVn : Aside0 ((z.I.set u true).getD v false = true) := ⟨set_true _ _ _ HIV.out⟩; generalize ((((w21.setCell ⟨gd, u, none⟩ (.int .i64 (dv + tm))).setCell ⟨gi, u, none⟩ (.bool true)).setCell ⟨gb, u * 2, none⟩ (.int .i64 s.f0)).setCell ⟨gb, u * 2 + 1, none⟩ (.bool s.f1)).drew = w30 at HF2 VR2 ⊢; go_wp2_with fail; go_roundw; (case rel => exact ⟨j + 1, by omega, by first | rfl | go_num, (⟨z.D.set u (dv + tm), z.I.set u true, z.B.set u s, false⟩ : Rch), rfl, HZN, HOn, HBS, HIVn, HF2, VR2⟩); (case measure => simp [intOf] <;> omega))
         | true =>
          rw [hIu, Bool.not_true, Bool.false_or] at HVC
          have HIU := Aside0.mk hIu
          clear hIu hpos
          by_cases hlt2 : dv + tm < z.D.getD u 0
          ·have e72 : decide (dv + tm < z.D.getD u 0) = true := decide_eq_true hlt2
           have HZN : Aside0 ((⟨z.D.set u (dv + tm), z.I.set u true, z.B.set u s, false⟩ : Rch) = upJ l F v y (j + 1)) := ⟨by rw [HZS.out]; exact (HVO.out (by rw [HVC.out]; exact e72)).symm⟩
           obtain ⟨du, hdu⟩ : ∃ d_, d_ = z.D.getD u 0 := ⟨_, rfl⟩
           rw [← hdu] at e72 hlt2
           have HDU := Aside0.mk hdu
           clear hdu hlt2
           go_wp2_with (first | (go_at_call 104; refine (static_Flowing_Room.calls (n0 : Int) a0_1 A2 c2 l A3 c3 F s.f0 s.f1 rm _ (Kd.F_now HF.out.arcs) HC2.out (Kd.F_now HF.out.flow) HC3.out HRM.out).mono ?_; rintro e_ w21 ⟨rfl, hb⟩; have m0_ := Aside0.mk (HF.out.below hb); have m1_ := Aside0.mk (Kd.V_below VR.out hb); have m2_ := Aside0.mk (blk_below B8.out hb); have m3_ : Aside0 (g8 < w21.heap.size) := ⟨Nat.lt_of_lt_of_le (blk_lt B8.out) hb.size⟩; clear HF VR B8 hb r0 r1 r2 r3 r4 r5; have HF := m0_; have VR := m1_; have B8 := m2_; clear m0_ m1_ m2_ m3_; have s0 : w21.cell? ⟨g3, 0, none⟩ = some (.slice (some ⟨gd, 0, none⟩) n0 cd) := (blk_cell HF.out.b3 0).trans rfl; have s1 : w21.cell? ⟨g3, 1, none⟩ = some (.slice (some ⟨gi, 0, none⟩) n0 ci) := (blk_cell HF.out.b3 1).trans rfl; have s2 : w21.cell? ⟨g3, 2, none⟩ = some (.slice (some ⟨gb, 0, none⟩) n0 cb) := (blk_cell HF.out.b3 2).trans rfl; have s3 := HF.out.iv hun; have s4 := HF.out.dv hun; rw [HIU.out] at s3; rw [← HDU.out] at s4) | fail)
           (have s5 : w21.cell? ⟨g8, 0, none⟩ = some (.int .i64 s.f0) := (blk_cell B8.out 0).trans rfl; have s6 : w21.cell? ⟨g8, 1, none⟩ = some (.bool s.f1) := (blk_cell B8.out 1).trans rfl; have f0 := (HF.out.free hn0 u).1; have f1 := (HF.out.free hn0 u).2.1; have f2 := (HF.out.free hn0 (u * 2)).2.2; have f3 := (HF.out.free hn0 (u * 2 + 1)).2.2; obtain ⟨t2, t3⟩ := HF.out.bv hun; obtain ⟨n1, n2, n3, n4, n5, n6, n7, n8, n9, _, _, _⟩ := HF.out.blocks HOz.out hn0; obtain ⟨k1, k2, k3⟩ := HG8.out; go_region; clear s0 s1 s2 s3 s4 s5 s6 f0 f1 f2 f3 t2 t3 n1 n2 n3 n4 n5 n6 n7 n8 n9 k1 k2 k3; have HF2 := Aside0.mk ((HF.out.put HOz.out hn0 hun (dv + tm) s).below (below_drew (Below.refl _ _))); have VR2 : Aside0 (Kd.V k38 38 (((((w21.setCell ⟨gd, u, none⟩ (.int .i64 (dv + tm))).setCell ⟨gi, u, none⟩ (.bool true)).setCell ⟨gb, u * 2, none⟩ (.int .i64 s.f0)).setCell ⟨gb, u * 2 + 1, none⟩ (.bool s.f1)).drew) 0 (okR gd gi gb) (.slice (some adj) RW.length cv) RW) := ⟨Kd.V_drew (Kd.V_far (p := ⟨gb, u * 2 + 1, none⟩) (Kd.V_far (p := ⟨gb, u * 2, none⟩) (Kd.V_far (p := ⟨gi, u, none⟩) (Kd.V_far (p := ⟨gd, u, none⟩) VR.out (fun _ hk => hk.1) _) (fun _ hk => hk.2.1) _) (fun _ hk => hk.2.2) _) (fun _ hk => hk.2.2) _)⟩; clear HF VR B8; have HOn : Aside0 (Rch.Ok n0 ⟨z.D.set u (dv + tm), z.I.set u true, z.B.set u s, false⟩) := ⟨⟨by simp [HOz.out.hD], by simp [HOz.out.hI], by simp [HOz.out.hB]⟩⟩; have HIVn : Aside0 ((z.I.set u true).getD v false = true) := ⟨set_true _ _ _ HIV.out⟩; generalize ((((w21.setCell ⟨gd, u, none⟩ (.int .i64 (dv + tm))).setCell ⟨gi, u, none⟩ (.bool true)).setCell ⟨gb, u * 2, none⟩ (.int .i64 s.f0)).setCell ⟨gb, u * 2 + 1, none⟩ (.bool s.f1)).drew = w30 at HF2 VR2 ⊢; go_wp2_with fail; go_roundw; (case rel => exact ⟨j + 1, by omega, by first | rfl | go_num, (⟨z.D.set u (dv + tm), z.I.set u true, z.B.set u s, false⟩ : Rch), rfl, HZN, HOn, HBS, HIVn, HF2, VR2⟩); (case measure => simp [intOf] <;> omega))
          ·have e72 : decide (dv + tm < z.D.getD u 0) = false := decide_eq_false hlt2
           have HZN : Aside0 (z = upJ l F v y (j + 1)) := ⟨by rw [HZS.out]; exact (vis_off (by rw [HVC.out]; exact e72)).symm⟩
           obtain ⟨du, hdu⟩ : ∃ d_, d_ = z.D.getD u 0 := ⟨_, rfl⟩
           rw [← hdu] at e72 hlt2
           have HDU := Aside0.mk hdu
           clear hdu hlt2
           go_wp2_with (first | (go_at_call 104; refine (static_Flowing_Room.calls (n0 : Int) a0_1 A2 c2 l A3 c3 F s.f0 s.f1 rm _ (Kd.F_now HF.out.arcs) HC2.out (Kd.F_now HF.out.flow) HC3.out HRM.out).mono ?_; rintro e_ w21 ⟨rfl, hb⟩; have m0_ := Aside0.mk (HF.out.below hb); have m1_ := Aside0.mk (Kd.V_below VR.out hb); have m2_ := Aside0.mk (blk_below B8.out hb); have m3_ : Aside0 (g8 < w21.heap.size) := ⟨Nat.lt_of_lt_of_le (blk_lt B8.out) hb.size⟩; clear HF VR B8 hb r0 r1 r2 r3 r4 r5; have HF := m0_; have VR := m1_; have B8 := m2_; clear m0_ m1_ m2_ m3_; have s0 : w21.cell? ⟨g3, 0, none⟩ = some (.slice (some ⟨gd, 0, none⟩) n0 cd) := (blk_cell HF.out.b3 0).trans rfl; have s1 : w21.cell? ⟨g3, 1, none⟩ = some (.slice (some ⟨gi, 0, none⟩) n0 ci) := (blk_cell HF.out.b3 1).trans rfl; have s2 : w21.cell? ⟨g3, 2, none⟩ = some (.slice (some ⟨gb, 0, none⟩) n0 cb) := (blk_cell HF.out.b3 2).trans rfl; have s3 := HF.out.iv hun; have s4 := HF.out.dv hun; rw [HIU.out] at s3; rw [← HDU.out] at s4) | fail)
           go_roundw
           case rel => exact ⟨j + 1, by omega, by first | rfl | go_num, z, rfl, HZN, HOz, ⟨HBD.out.mono (by omega)⟩, HIV, HF, VR⟩
           case measure => simp [intOf] <;> omega
        ·have e57 : decide (0 < rm) = false := decide_eq_false hpos
         rw [e57, Bool.false_and] at HVC
         have HZN : Aside0 (z = upJ l F v y (j + 1)) := ⟨by rw [HZS.out]; exact (vis_off HVC.out).symm⟩
         clear hpos
         go_wp2_with (first | (go_at_call 104; refine (static_Flowing_Room.calls (n0 : Int) a0_1 A2 c2 l A3 c3 F s.f0 s.f1 rm _ (Kd.F_now HF.out.arcs) HC2.out (Kd.F_now HF.out.flow) HC3.out HRM.out).mono ?_; rintro e_ w21 ⟨rfl, hb⟩; have m0_ := Aside0.mk (HF.out.below hb); have m1_ := Aside0.mk (Kd.V_below VR.out hb); have m2_ := Aside0.mk (blk_below B8.out hb); have m3_ : Aside0 (g8 < w21.heap.size) := ⟨Nat.lt_of_lt_of_le (blk_lt B8.out) hb.size⟩; clear HF VR B8 hb r0 r1 r2 r3 r4 r5; have HF := m0_; have VR := m1_; have B8 := m2_; clear m0_ m1_ m2_ m3_; have s0 : w21.cell? ⟨g3, 0, none⟩ = some (.slice (some ⟨gd, 0, none⟩) n0 cd) := (blk_cell HF.out.b3 0).trans rfl; have s1 : w21.cell? ⟨g3, 1, none⟩ = some (.slice (some ⟨gi, 0, none⟩) n0 ci) := (blk_cell HF.out.b3 1).trans rfl; have s2 : w21.cell? ⟨g3, 2, none⟩ = some (.slice (some ⟨gb, 0, none⟩) n0 cb) := (blk_cell HF.out.b3 2).trans rfl; have s3 := HF.out.iv hun; have s4 := HF.out.dv hun; skip) | fail)
         go_roundw
         case rel => exact ⟨j + 1, by omega, by first | rfl | go_num, z, rfl, HZN, HOz, ⟨HBD.out.mono (by omega)⟩, HIV, HF, VR⟩
         case measure => simp [intOf] <;> omega
       ·have ej : j = RW.length := by omega
        subst ej
        have c36 : decide ((RW.length : Int) < (RW.length : Int)) = false := decide_eq_false (by omega)
        have HYS : Aside0 (z = upV l F x1 (v + 1)) := ⟨by rw [upV_succ, ← HY.out, HZ.out, HRW.out]; exact upJ_all l F v y HIVy.out⟩
        go_wp2_with fail
        go_roundw
        case rel => exact ⟨v + 1, by omega, by first | rfl | go_num, z, rfl, HYS, HOz, ⟨HBD.out.mono (by omega)⟩, HF⟩
        case measure => simp [intOf] <;> omega
    ·have ev : n0 = v := by omega
     subst ev
     have c23 : decide ((n0 : Int) < (n0 : Int)) = false := decide_eq_false (by omega)
     have HRD : Aside0 (roundR l F n0 x1 = y) := ⟨HY.out.symm⟩
     have hk : n0 + 1 - r = (n0 - r) + 1 := by omega
     rw [hk] at HG1
     clear hk
     cases hst : y.still with
     | true =>
      have HG2 : Aside0 (XT = (y, true)) := ⟨by rw [← HG1.out]; exact goes_end HRD.out hst⟩
      clear hst
      go_wp2_with fail
      rw [Exit.noGoto_ret]
      go_ret
      rw [HG2.out]
      exact ⟨rfl, HF.out.kp, HF.out.D, HF.out.I, HF.out.B⟩
     | false =>
      have HG2 : Aside0 (goesR l F n0 (n0 + 1 - (r + 1)) y = XT) := ⟨by rw [show n0 + 1 - (r + 1) = n0 - r by omega, ← HG1.out]; exact (goes_step HRD.out hst).symm⟩
      clear hst
      go_wp2_with fail
      go_roundw
      case rel => exact ⟨r + 1, by omega, by first | rfl | go_num, y, HO, ⟨HBD.out.mono (by omega)⟩, HG2, HF⟩
      case measure => simp [intOf] <;> omega
  ·have er : r = n0 + 1 := by omega
   subst er
   have c17 : decide (((n0 + 1 : Nat) : Int) < (n0 : Int) + 1) = false := decide_eq_false (by omega)
   have HG2 : Aside0 (XT = (x1, false)) := ⟨by have := HG1.out; rw [Nat.sub_self] at this; exact this.symm⟩
   go_wp2_with fail
   rw [Exit.noGoto_ret]
   go_ret
   rw [HG2.out]
   exact ⟨rfl, HF.out.kp, HF.out.D, HF.out.I, HF.out.B⟩
end Go.Proofs.Ytkcpanpdipmmmaa.H
namespace Go.Proofs.Ytkcpanpdipmmmaa.H
open Go.RowKit Go.Proofs.YtkcpanpdipmmmaaW.PrintWords Go.Proofs.YtkcpanpdipmmmaaW.PrintLast Go.Proofs.YtkcpanpdipmmmaaW.PrintMore Go.Proofs.Ytkcpanpdipmmmaa.P
set_option maxHeartbeats 1000000 in
set_option maxRecDepth 100000 in
theorem insertion_nil (A : Option Addr) (cap : Nat) (f : Value) (w : World) :
  Calls Try.prog 169 #[.slice A 0 cap, .int .i64 0, .int .i64 0, f] w fun e w' => e = .returned (.tuple #[]) ∧ w' = w := by
 go_enter Try.func169, Try.ntmps169
 go_wp2
 go_loopw [8] (fun i wr => i = .int .i64 1 ∧ Aside0 (wr = w)) (fun i _ => 0)
 case atStart => exact ⟨by go_num, ⟨rfl⟩⟩
 case round =>
  obtain ⟨rfl, HW⟩ := hrel
  go_wp2
  go_end0
  exact ⟨rfl, HW.out⟩
set_option maxHeartbeats 1000000 in
set_option maxRecDepth 100000 in
theorem stable_nil (A : Option Addr) (cap : Nat) (f : Value) (w : World) :
  Calls Try.prog 162 #[.slice A 0 cap, .int .i64 0, f] w fun e w' => e = .returned (.tuple #[]) ∧ w' = w := by
 go_enter Try.func162, Try.ntmps162
 go_wp2_with fail
 go_loopw [7, 8] (fun va vb wr => va = .int .i64 0 ∧ vb = .int .i64 20 ∧ Aside0 (wr = w)) (fun va _ _ => 0)
 case atStart => exact ⟨by go_num, by go_num, ⟨rfl⟩⟩
 case round =>
  obtain ⟨rfl, rfl, HW⟩ := hrel
  go_wp2_with fail
  refine (insertion_nil A cap f _).mono ?_
  rintro e1 w1 ⟨rfl, rfl⟩
  go_wp2_with fail
  go_loopw [6] (fun vs wr => vs = .int .i64 20 ∧ Aside0 (wr = w)) (fun vs _ => 0)
  case atStart => exact ⟨by go_num, HW⟩
  case round =>
   clear HW
   obtain ⟨rfl, HW⟩ := hrel
   go_wp2_with fail
   go_end0
   exact ⟨rfl, HW.out⟩
theorem sortStable_nil (A : Option Addr) (cap : Nat) (f : Value) (w : World) :
  Calls Try.prog 143 #[.slice A 0 cap, f] w fun e w' => e = .returned (.tuple #[]) ∧ w' = w := by
 go_enter Try.func143, Try.ntmps143
 go_wp2_with fail
 refine (stable_nil A cap f w).mono ?_
 rintro e1 w1 ⟨rfl, rfl⟩
 go_wp2_with fail
 go_end0
 exact ⟨rfl, rfl⟩
end Go.Proofs.Ytkcpanpdipmmmaa.H
namespace Go.Proofs.Ytkcpanpdipmmmaa.H
open Go.RowKit Go.Proofs.YtkcpanpdipmmmaaW.PrintWords Go.Proofs.YtkcpanpdipmmmaaW.PrintLast Go.Proofs.YtkcpanpdipmmmaaW.PrintMore Go.Proofs.Ytkcpanpdipmmmaa.P
theorem stL_nil {l : List S74} {n : Nat} {v : Int} (hv0 : 0 ≤ v) (hv : v < n) (hE : ends l n) (h : stepsU l n v = []) : stL l v l.length = [] := by
 refine List.eq_nil_iff_forall_not_mem.2 fun s hs => ?_
 have := (mem_stepsU l n v hv0 hv hE s).2 ((mem_stL l v l.length s).1 hs)
 rw [h] at this
 cases this
theorem row_step (P : List S38) (L : List Int) (b : Bool) (j : Nat) (hj : j < L.length) : P ++ (L.take (j + 1)).map (fun i => (⟨i, b⟩ : S38)) = (P ++ (L.take j).map (fun i => (⟨i, b⟩ : S38))) ++ [⟨rd L (j : Int), b⟩] := by
 have e : L.take (j + 1) = L.take j ++ [rd L (j : Int)] := by
  rw [List.take_add_one, List.getElem?_eq_getElem hj]
  show _ ++ [L[j]] = _ ++ [L.getD (j : Int).toNat 0]
  rw [Int.toNat_natCast, List.getD_eq_getElem?_getD, List.getElem?_eq_getElem hj]
  rfl
 rw [e, List.map_append, List.append_assoc]
 rfl
theorem sort_row {w : World} {base go n co k N : Nat} {l : List S74} {X : List (List S38)} {oki : Nat → Prop} {A : Option Addr} {cr : Nat} {RW : List S38}
  (hH : Kd.H (Kd.slice 38 k38) 34 w base (fun _ => True) (.slice (some ⟨go, 0, none⟩) n co) X (k : Int) oki [.slice A RW.length cr])
  (hR : Kd.R k38 38 w base oki (.slice A RW.length cr) RW) (hRW : RW = stepsU l N (k : Int)) (hk : k < N) (hE : ends l N) (hl : l.length ≤ 1000000) (hlen : RW.length ≤ 1000000) :
  Calls Try.prog 143 #[.slice A RW.length cr, .func (.func 144) #[] #[]] w fun e w' => e = .returned (.tuple #[]) ∧
   ∃ v : Value, w.grownBy w' v.ownBlock ∧ (∀ g, v.ownBlock = some g → base ≤ g ∧ ∃ cells, w.heap[g]? = some (.cells cells 38 (0, 0))) ∧ Kd.S (Kd.slice 38 k38) 34 w' base (fun _ => True) (.slice (some ⟨go, 0, none⟩) n co) (X.set k (stL l k l.length)) := by
 have hk0 : 0 ≤ (k : Int) := by omega
 have hkn : (k : Int) < N := by omega
 by_cases hp : 0 < RW.length
 ·obtain ⟨g, cap, e, hb, _, cells, hcl⟩ := Kd.R_form hR hp
  injection e with e1 _ e3
  subst e1
  subst e3
  have hA := arr_of_R hR hp
  refine (sortStable_calls g RW.length cr (fun i => RW.getD i z38) w hA hlen ?_ ?_).mono ?_
  ·rw [hRW]; exact stab_of_list (stab_stepsU l N (k : Int) hk0 hkn hE)
  ·rw [hRW]; exact small_steps hk0 hkn hE hl
  ·rintro e w' ⟨rfl, ⟨K, hK, hs⟩, hf⟩
   refine ⟨rfl, .slice (some ⟨g, 0, none⟩) RW.length cr, hf.1, fun g' hg' => ?_, ?_⟩
   ·have : g = g' := by simpa [Value.ownBlock] using hg'
    subst this
    exact ⟨hb, cells, hcl⟩
   ·have hoki : oki g := hR.1 g rfl
    have hR' := R_of_arr hR rfl hp hK hf hoki
    have hst : (List.range RW.length).map K = stL l k l.length := by rw [hRW] at hs ⊢; exact sorted_is hk0 hkn hE hs
    rw [hst] at hR'
    have hS := Kd.H_back (Kd.H_grown hH hf.1 (fun q hq => by injection hq with hq; subst hq; exact hoki)) (x' := stL l k l.length) ⟨_, rfl, hR'⟩ (fun _ hk => hk)
    rw [Int.toNat_natCast] at hS
    exact hS
 ·have h0 : RW = [] := List.eq_nil_of_length_eq_zero (by omega)
  have hst : stL l k l.length = [] := stL_nil hk0 hkn hE (by rw [← hRW]; exact h0)
  subst h0
  refine (sortStable_nil A cr _ w).mono ?_
  rintro e w' ⟨rfl, rfl⟩
  refine ⟨rfl, .slice none 0 0, World.grownBy.refl _ _, fun g' hg' => by simp [Value.ownBlock] at hg', ?_⟩
  rw [hst]
  have hS := Kd.H_back hH (x' := ([] : List S38)) ⟨_, rfl, hR⟩ (fun _ hk => hk)
  rw [Int.toNat_natCast] at hS
  exact hS
end Go.Proofs.Ytkcpanpdipmmmaa.H
namespace Go.Proofs.Ytkcpanpdipmmmaa.H
open Go.RowKit Go.Proofs.YtkcpanpdipmmmaaW.PrintWords Go.Proofs.YtkcpanpdipmmmaaW.PrintLast Go.Proofs.YtkcpanpdipmmmaaW.PrintMore Go.Proofs.Ytkcpanpdipmmmaa.P
theorem infoRowS : (Try.prog.info? 34).map (fun i => (i.zero, i.size, i.bytes)) = some (some (.slice none 0 0), 1, 24) := by kernel_rfl
set_option maxHeartbeats 2000000 in
set_option maxRecDepth 100000 in
theorem at_calls (n0 : Nat) (a0_1 : Bool) (A0_2 : Option Addr) (c0_2 : Nat) (l0_2 : List S74) (A1 : Option Addr) (c1 n1 : Nat) (w : World) (hr0_2 : Kd.C k74 w A0_2 l0_2.length l0_2) (hc0_2 : l0_2.length ≤ c0_2) (h0 : 0 ≤ (n0 : Int)) (h1 : (n0 : Int) ≤ 1000000) (hl : l0_2.length ≤ 500000) (hE0 : ∀ k : Nat, k < l0_2.length → 0 ≤ eFrom (rd_T74 l0_2 k) ∧ eFrom (rd_T74 l0_2 k) < (n0 : Int)) (hE1 : ∀ k : Nat, k < l0_2.length → 0 ≤ eTo (rd_T74 l0_2 k) ∧ eTo (rd_T74 l0_2 k) < (n0 : Int)) :
  Calls Try.prog 101 #[.agg #[.int .i64 (n0 : Int), .bool a0_1, .slice A0_2 l0_2.length c0_2], .slice A1 n1 c1] w fun e w' => ∃ v0_ : Value, e = .returned (.agg #[.int .i64 (n0 : Int), .bool a0_1, .slice A0_2 l0_2.length c0_2, .slice A1 n1 c1, v0_]) ∧ Kd.S (Kd.slice 38 k38) 34 w' w.heap.size (fun _ => True) v0_ (rowsAt l0_2 n0 n0) ∧ Below w.heap.size w w' := by
 have hu24 := Try.underlying24
 have hu118 := Try.underlying118
 have HR0_2 := Aside0.mk hr0_2
 have HC0_2 := Aside0.mk hc0_2
 have HH0 := Aside0.mk h0
 have HH1 := Aside0.mk h1
 have HE0 := Aside0.mk hE0
 have HE1 := Aside0.mk hE1
 have HR0 := Aside0.mk hr0_2
 clear hr0_2 hc0_2 h0 h1 hE0 hE1
 have HB := Aside0.mk (Below.refl w.heap.size w)
 go_enter Try.func101, Try.ntmps101
 go_wp2_with (first | ((with_reducible refine gate_dst (N := 2) rfl ?_); refine box_event ?hg (N := 2) ?hd (cs := #[.int .i64 (n0 : Int), .bool a0_1, .slice A0_2 l0_2.length c0_2]) (t := 24) ?hr ?_; (case hd => rfl); (case hg => rfl); (case hr => first | (go_simp; done) | (go_simp; rfl)); intro gb111 hg w4 hbox hb; have n0_ := Aside0.mk (below_step (by repeat (first | (with_reducible first | exact HB.out | apply below_alloc | apply pw_below_drewN | apply below_drew1) | exact HB.out)) hb); have n1_ := Aside0.mk (hbox); have n2_ := Aside0.mk (Kd.C_below HR0_2.out hb); clear HB HR0_2; have HB := n0_; have BK111 := n1_; have HR0_2 := n2_; clear n0_ n1_ n2_; clear hb hbox hg) | ((with_reducible refine gate_dst (N := 4) rfl ?_); refine box_event ?hg (N := 4) ?hd (cs := #[.int .i64 0, .bool false, .slice none 0 0, .slice none 0 0, .slice none 0 0]) (t := 118) ?hr ?_; (case hd => rfl); (case hg => rfl); (case hr => first | (go_simp; done) | (go_simp; rfl)); intro gb4 hg w5 hbox hb; have GE4 : Aside0 (w.heap.size ≤ gb4) := ⟨by rw [hg]; exact HB.out.size⟩; have n0_ := Aside0.mk (below_step (by repeat (first | (with_reducible first | exact HB.out | apply below_alloc | apply pw_below_drewN | apply below_drew1) | exact HB.out)) hb); have n1_ := Aside0.mk (hbox); have n2_ := Aside0.mk (Kd.C_below HR0_2.out hb); have n3_ := Aside0.mk (blk_below BK111.out hb); clear HB HR0_2 BK111; have HB := n0_; have BK4 := n1_; have HR0_2 := n2_; have BK111 := n3_; clear n0_ n1_ n2_ n3_; clear hb hbox hg) | fail)
 obtain ⟨R0, hR0⟩ : ∃ y_ : List (List S38), y_ = List.replicate (n0 : Int).toNat [] := ⟨_, rfl⟩
 have NR0 := Aside0.mk hR0
 clear hR0
 refine start_ (n := 9) (S := (fun w' => w'.cell? ⟨gb111, 0, none⟩ = some (.int .i64 (n0 : Int)) ∧ w'.cell? ⟨gb111, 1, none⟩ = some (.bool a0_1) ∧ w'.cell? ⟨gb111, 2, none⟩ = some (.slice A0_2 l0_2.length c0_2))) (ds := []) #[false, false, false, false, false, false, false, false, false] (by kernel_rfl) rfl rfl ⟨(blk_cell BK111.out 0).trans rfl, (blk_cell BK111.out 1).trans rfl, (blk_cell BK111.out 2).trans rfl⟩ (fun hHeld => ?_)
 have n0_ := Aside0.mk (below_drew HB.out)
 have n1_ : Aside0 (w5.drew.heap[gb111]? = some (.cells #[.int .i64 (n0 : Int), .bool a0_1, .slice A0_2 l0_2.length c0_2] 24 (0, 0))) := ⟨BK111.out⟩
 have n2_ : Aside0 (w5.drew.heap[gb4]? = some (.cells #[.int .i64 0, .bool false, .slice none 0 0, .slice none 0 0, .slice none 0 0] 118 (0, 0))) := ⟨BK4.out⟩
 clear HB BK111 BK4
 have HB := n0_
 have BK111 := n1_
 have BK4 := n2_
 clear n0_ n1_ n2_
 generalize w5.drew = w6 at BK111 HB BK4 hHeld ⊢
 refine pure_ (i := 1) (N := some 14) (v := ?_) (a' := ?_) #[false, true, false, false, false, false, false, false, false] rfl rfl (by kernel_rfl) (fun _ _ _ h => h) (Or.inl ⟨by rfl, ?_⟩) ?_ ?_
 rotate_left
 ·intro w'
  go_simp
  with_reducible rfl
 rotate_left
 ·simp only [Act.put, List.setIfInBounds_toArray, List.set_cons_zero, List.set_cons_succ, i64_w, i32_w]
  rfl
 refine pure_ (i := 3) (N := some 16) (v := ?_) (a' := ?_) #[false, true, false, true, false, false, false, false, false] rfl rfl (by kernel_rfl) (fun _ _ _ h => h) (Or.inl ⟨by rfl, ?_⟩) ?_ ?_
 rotate_left
 ·intro w'
  go_simp
  with_reducible rfl
 rotate_left
 ·simp only [Act.put, List.setIfInBounds_toArray, List.set_cons_zero, List.set_cons_succ, i64_w, i32_w]
  rfl
 refine take_ (i := 0) (N := some 13) (v := ?_) (a' := ?_) #[true, true, false, true, false, false, false, false, false] rfl rfl (by kernel_rfl) (fun _ _ _ h => h) (Or.inl ⟨by rfl, ?_⟩) hHeld ?_ ?_
 rotate_left
 ·rintro w' ⟨s0, s1, s2⟩
  go_simp
  with_reducible rfl
 rotate_left
 ·simp only [Act.put, List.setIfInBounds_toArray, List.set_cons_zero, List.set_cons_succ, i64_w, i32_w]
  rfl
 refine take_ (i := 4) (N := some 17) (v := ?_) (a' := ?_) #[true, true, false, true, true, false, false, false, false] rfl rfl (by kernel_rfl) (fun _ _ _ h => h) (Or.inl ⟨by rfl, ?_⟩) hHeld ?_ ?_
 rotate_left
 ·rintro w' ⟨s0, s1, s2⟩
  go_simp
  with_reducible rfl
 rotate_left
 ·simp only [Act.put, List.setIfInBounds_toArray, List.set_cons_zero, List.set_cons_succ, i64_w, i32_w]
  rfl
 refine pure_ (i := 2) (N := some 15) (v := ?_) (a' := ?_) #[true, true, true, true, true, false, false, false, false] rfl rfl (by kernel_rfl) (fun _ _ _ h => h) (Or.inl ⟨by rfl, ?_⟩) ?_ ?_
 rotate_left
 ·intro w'
  go_simp
  with_reducible rfl
 rotate_left
 ·simp only [Act.put, List.setIfInBounds_toArray, List.set_cons_zero, List.set_cons_succ, i64_w, i32_w]
  rfl
 refine join_ (σ := Value × Nat) 1 #[true, true, true, true, true, true, true, true, false] (fun s_ => [(18, s_.1), (19, .agg #[.int .i64 (n0 : Int), .bool a0_1, .slice A0_2 l0_2.length c0_2, .slice A1 n1 c1, s_.1]), (5, .pointer (some ⟨s_.2, 0, none⟩))]) (fun s_ w' => (w'.cell? ⟨gb111, 0, none⟩ = some (.int .i64 (n0 : Int)) ∧ w'.cell? ⟨gb111, 1, none⟩ = some (.bool a0_1) ∧ w'.cell? ⟨gb111, 2, none⟩ = some (.slice A0_2 l0_2.length c0_2)) ∧ Kd.S (Kd.slice 38 k38) 34 w' w.heap.size (fun _ => True) s_.1 R0 ∧ w'.heap[gb111]? = some (.cells #[.int .i64 (n0 : Int), .bool a0_1, .slice A0_2 l0_2.length c0_2] 24 (0, 0)) ∧ w'.heap[s_.2]? = some (.cells #[.int .i64 0, .bool false, .slice none 0 0, .slice none 0 0, .slice none 0 0] 118 (0, 0)) ∧ w'.heap[gb4]? = some (.cells #[.int .i64 0, .bool false, .slice none 0 0, .slice none 0 0, .slice none 0 0] 118 (0, 0)) ∧ w.heap.size ≤ s_.2 ∧ gb111 ≠ s_.2 ∧ gb4 ≠ s_.2 ∧ Below w.heap.size w w') ?_ ?_
 rotate_left
 ·intro hCont
  refine two_ (i := 5) (j := 7) (Ni := some 18) (Nj := some 5) #[true, true, true, true, true, true, false, false, false] #[true, true, true, true, true, false, false, true, false] rfl rfl rfl rfl (by kernel_rfl) (by decide) (by decide) (fun K hK => ?_) (fun K hK => ?_)
  ·skip
   refine Kd.S_make_step (Kd.slice 38 k38) _ 34 (by rfl) (N := 18) rfl 116 _ _ rfl (n0 : Int) rfl rfl Try.underlying116 (.slice none 0 0) 24 infoRowS rfl (by decide) (by omega) [] (ok := fun _ => True) (okp := fun _ => True) ⟨_, rfl, Kd.R_nil _ _ _ _ _⟩ (fun _ hk => hk) trivial HH0.out (by have := HH1.out; omega) (Below.refl _ _) (Nat.le_refl _) ?_
   intro v18 w7 ho hb _ _
   rw [← NR0.out] at ho
   obtain ⟨Ao, co, eo⟩ := Kd.S_slice ho
   subst eo
   have n0_ := Aside0.mk (Kd.S_lower ho HB.out.size)
   have n1_ := Aside0.mk (blk_below BK111.out hb)
   have n2_ := Aside0.mk (blk_below BK4.out hb)
   have n3_ := Aside0.mk (below_step HB.out hb)
   clear BK111 BK4 HB ho hb
   have HO := n0_
   have BK111 := n1_
   have BK4 := n2_
   have HB := n3_
   clear n0_ n1_ n2_ n3_
   refine hK.out _ _ ⟨(blk_cell BK111.out 0).trans rfl, (blk_cell BK111.out 1).trans rfl, (blk_cell BK111.out 2).trans rfl⟩ (fun hHeld => ?_)
   clear hK K
   refine norm_ (a' := ?_) ?_ ?_
   rotate_left
   ·show Act.put _ (some 18) _ = _
    simp only [Act.put, List.setIfInBounds_toArray, List.set_cons_zero, List.set_cons_succ, i64_w, i32_w]
    rfl
   refine pure_ (i := 6) (N := some 19) (v := ?_) (a' := ?_) #[true, true, true, true, true, true, true, false, false] rfl rfl (by kernel_rfl) (fun _ _ _ h => h) (Or.inl ⟨by rfl, ?_⟩) ?_ ?_
   rotate_left
   ·intro w'
    go_simp
    with_reducible rfl
   rotate_left
   ·simp only [Act.put, List.setIfInBounds_toArray, List.set_cons_zero, List.set_cons_succ, i64_w, i32_w]
    rfl
   refine one_ (i := 7) (N := some 5) #[true, true, true, true, true, true, true, true, false] rfl rfl (by kernel_rfl) (by decide) (fun K hK => ?_)
   refine box_step ?hg (N := 5) ?hd (cs := #[.int .i64 0, .bool false, .slice none 0 0, .slice none 0 0, .slice none 0 0]) (t := 118) ?hr ?_; (case hd => rfl); (case hg => rfl); (case hr => first | (go_simp; done) | (go_simp; rfl))
   intro gb5 hg w8 hbox hb
   have n0_ := Aside0.mk hbox
   have n1_ := Aside0.mk (blk_below BK111.out hb)
   have n2_ := Aside0.mk (blk_below BK4.out hb)
   have n3_ := Aside0.mk (below_step HB.out hb)
   have n5_ : Aside0 (w.heap.size ≤ gb5) := ⟨by rw [hg]; exact HB.out.size⟩
   have n6_ : Aside0 (gb111 ≠ gb5) := ⟨by rw [hg]; exact Nat.ne_of_lt (blk_lt BK111.out)⟩
   have n7_ : Aside0 (gb4 ≠ gb5) := ⟨by rw [hg]; exact Nat.ne_of_lt (blk_lt BK4.out)⟩
   have n4_ := Aside0.mk (Kd.S_below HO.out hb)
   clear HO
   have HO := n4_
   clear n4_
   clear BK111 BK4 HB hbox hb hg
   have BK5 := n0_
   have BK111 := n1_
   have BK4 := n2_
   have HB := n3_
   have GE5 := n5_
   have NB111 := n6_
   have NB4 := n7_
   clear n0_ n1_ n2_ n3_ n5_ n6_ n7_
   refine hK.out _ _ ⟨(blk_cell BK111.out 0).trans rfl, (blk_cell BK111.out 1).trans rfl, (blk_cell BK111.out 2).trans rfl⟩ (fun hHeld => ?_)
   clear hK K
   refine norm_ (a' := ?_) ?_ ?_
   rotate_left
   ·show Act.put _ (some 5) _ = _
    simp only [Act.put, List.setIfInBounds_toArray, List.set_cons_zero, List.set_cons_succ, i64_w, i32_w]
    rfl
   exact norm_ (by (simp only [putAll, Act.put, List.setIfInBounds_toArray, List.set_cons_zero, List.set_cons_succ]) <;> rfl) (hCont (.slice Ao R0.length co, gb5) _ ⟨hHeld, HO.out, BK111.out, BK5.out, BK4.out, GE5.out, NB111.out, NB4.out, HB.out⟩)
  ·skip
   refine box_step ?hg (N := 5) ?hd (cs := #[.int .i64 0, .bool false, .slice none 0 0, .slice none 0 0, .slice none 0 0]) (t := 118) ?hr ?_; (case hd => rfl); (case hg => rfl); (case hr => first | (go_simp; done) | (go_simp; rfl))
   intro gb5 hg w7 hbox hb
   have n0_ := Aside0.mk hbox
   have n1_ := Aside0.mk (blk_below BK111.out hb)
   have n2_ := Aside0.mk (blk_below BK4.out hb)
   have n3_ := Aside0.mk (below_step HB.out hb)
   have n5_ : Aside0 (w.heap.size ≤ gb5) := ⟨by rw [hg]; exact HB.out.size⟩
   have n6_ : Aside0 (gb111 ≠ gb5) := ⟨by rw [hg]; exact Nat.ne_of_lt (blk_lt BK111.out)⟩
   have n7_ : Aside0 (gb4 ≠ gb5) := ⟨by rw [hg]; exact Nat.ne_of_lt (blk_lt BK4.out)⟩
   clear BK111 BK4 HB hbox hb hg
   have BK5 := n0_
   have BK111 := n1_
   have BK4 := n2_
   have HB := n3_
   have GE5 := n5_
   have NB111 := n6_
   have NB4 := n7_
   clear n0_ n1_ n2_ n3_ n5_ n6_ n7_
   refine hK.out _ _ ⟨(blk_cell BK111.out 0).trans rfl, (blk_cell BK111.out 1).trans rfl, (blk_cell BK111.out 2).trans rfl⟩ (fun hHeld => ?_)
   clear hK K
   refine norm_ (a' := ?_) ?_ ?_
   rotate_left
   ·show Act.put _ (some 5) _ = _
    simp only [Act.put, List.setIfInBounds_toArray, List.set_cons_zero, List.set_cons_succ, i64_w, i32_w]
    rfl
   refine one_ (i := 5) (N := some 18) #[true, true, true, true, true, true, false, true, false] rfl rfl (by kernel_rfl) (by decide) (fun K hK => ?_)
   refine Kd.S_make_step (Kd.slice 38 k38) _ 34 (by rfl) (N := 18) rfl 116 _ _ rfl (n0 : Int) rfl rfl Try.underlying116 (.slice none 0 0) 24 infoRowS rfl (by decide) (by omega) [] (ok := fun _ => True) (okp := fun _ => True) ⟨_, rfl, Kd.R_nil _ _ _ _ _⟩ (fun _ hk => hk) trivial HH0.out (by have := HH1.out; omega) (Below.refl _ _) (Nat.le_refl _) ?_
   intro v18 w8 ho hb _ _
   rw [← NR0.out] at ho
   obtain ⟨Ao, co, eo⟩ := Kd.S_slice ho
   subst eo
   have n0_ := Aside0.mk (Kd.S_lower ho HB.out.size)
   have n1_ := Aside0.mk (blk_below BK111.out hb)
   have n2_ := Aside0.mk (blk_below BK4.out hb)
   have n3_ := Aside0.mk (below_step HB.out hb)
   have n4_ := Aside0.mk (blk_below BK5.out hb)
   clear BK5
   have BK5 := n4_
   clear n4_
   clear BK111 BK4 HB ho hb
   have HO := n0_
   have BK111 := n1_
   have BK4 := n2_
   have HB := n3_
   clear n0_ n1_ n2_ n3_
   refine hK.out _ _ ⟨(blk_cell BK111.out 0).trans rfl, (blk_cell BK111.out 1).trans rfl, (blk_cell BK111.out 2).trans rfl⟩ (fun hHeld => ?_)
   clear hK K
   refine norm_ (a' := ?_) ?_ ?_
   rotate_left
   ·show Act.put _ (some 18) _ = _
    simp only [Act.put, List.setIfInBounds_toArray, List.set_cons_zero, List.set_cons_succ, i64_w, i32_w]
    rfl
   refine pure_ (i := 6) (N := some 19) (v := ?_) (a' := ?_) #[true, true, true, true, true, true, true, true, false] rfl rfl (by kernel_rfl) (fun _ _ _ h => h) (Or.inl ⟨by rfl, ?_⟩) ?_ ?_
   rotate_left
   ·intro w'
    go_simp
    with_reducible rfl
   rotate_left
   ·simp only [Act.put, List.setIfInBounds_toArray, List.set_cons_zero, List.set_cons_succ, i64_w, i32_w]
    rfl
   exact norm_ (by (simp only [putAll, Act.put, List.setIfInBounds_toArray, List.set_cons_zero, List.set_cons_succ]) <;> rfl) (hCont (.slice Ao R0.length co, gb5) _ ⟨hHeld, HO.out, BK111.out, BK5.out, BK4.out, GE5.out, NB111.out, NB4.out, HB.out⟩)
 rintro ⟨v18, gb5⟩ w9 ⟨hHeld, h0_, h1_, h2_, h3_, h4_, h5_, h6_, h7_⟩
 clear BK111 BK4 HB
 have HO := Aside0.mk h0_
 clear h0_
 have BK111 := Aside0.mk h1_
 clear h1_
 have BK5 := Aside0.mk h2_
 clear h2_
 have BK4 := Aside0.mk h3_
 clear h3_
 have GE5 := Aside0.mk h4_
 clear h4_
 have NB111 := Aside0.mk h5_
 clear h5_
 have NB4 := Aside0.mk h6_
 clear h6_
 have HB := Aside0.mk h7_
 clear h7_
 obtain ⟨Ao, co, eo⟩ := Kd.S_slice HO.out
 dsimp only at eo HO BK5 GE5 NB111 NB4
 subst eo
 refine norm_ (a' := ?_) ?_ ?_
 rotate_left
 ·simp only [putAll, Act.put, List.setIfInBounds_toArray, List.set_cons_zero, List.set_cons_succ]
  rfl
 refine one_ (i := 8) (N := none) #[true, true, true, true, true, true, true, true, true] rfl rfl (by kernel_rfl) (by decide) (fun K hK => ?_)
 have hs0 : w9.cell? ⟨gb5, 0, none⟩ = some (.int .i64 0) := (blk_cell BK5.out 0).trans rfl
 have hfs0 := blk_frozen BK5.out 0
 have hs1 : w9.cell? ⟨gb5, 1, none⟩ = some (.bool false) := (blk_cell BK5.out 1).trans rfl
 have hfs1 := blk_frozen BK5.out 1
 have hs2 : w9.cell? ⟨gb5, 2, none⟩ = some (.slice none 0 0) := (blk_cell BK5.out 2).trans rfl
 have hfs2 := blk_frozen BK5.out 2
 have hs3 : w9.cell? ⟨gb5, 3, none⟩ = some (.slice none 0 0) := (blk_cell BK5.out 3).trans rfl
 have hfs3 := blk_frozen BK5.out 3
 have hs4 : w9.cell? ⟨gb5, 4, none⟩ = some (.slice none 0 0) := (blk_cell BK5.out 4).trans rfl
 have hfs4 := blk_frozen BK5.out 4
 have n0_ : Aside0 ((((((w9.setCell ⟨gb5, 0, none⟩ (.int .i64 (n0 : Int))).setCell ⟨gb5, 1, none⟩ (.bool a0_1)).setCell ⟨gb5, 2, none⟩ (.slice A0_2 l0_2.length c0_2)).setCell ⟨gb5, 3, none⟩ (.slice A1 n1 c1)).setCell ⟨gb5, 4, none⟩ (.slice Ao R0.length co)).heap[gb5]? = some (.cells #[.int .i64 (n0 : Int), .bool a0_1, .slice A0_2 l0_2.length c0_2, .slice A1 n1 c1, .slice Ao R0.length co] 118 (0, 0))) := ⟨by
  refine blk_put (cs := #[.int .i64 (n0 : Int), .bool a0_1, .slice A0_2 l0_2.length c0_2, .slice A1 n1 c1, .slice none 0 0]) ?_ 4 _ rfl
  refine blk_put (cs := #[.int .i64 (n0 : Int), .bool a0_1, .slice A0_2 l0_2.length c0_2, .slice none 0 0, .slice none 0 0]) ?_ 3 _ rfl
  refine blk_put (cs := #[.int .i64 (n0 : Int), .bool a0_1, .slice none 0 0, .slice none 0 0, .slice none 0 0]) ?_ 2 _ rfl
  refine blk_put (cs := #[.int .i64 (n0 : Int), .bool false, .slice none 0 0, .slice none 0 0, .slice none 0 0]) ?_ 1 _ rfl
  refine blk_put (cs := #[.int .i64 0, .bool false, .slice none 0 0, .slice none 0 0, .slice none 0 0]) ?_ 0 _ rfl
  exact BK5.out⟩
 have n1_ : Aside0 ((((((w9.setCell ⟨gb5, 0, none⟩ (.int .i64 (n0 : Int))).setCell ⟨gb5, 1, none⟩ (.bool a0_1)).setCell ⟨gb5, 2, none⟩ (.slice A0_2 l0_2.length c0_2)).setCell ⟨gb5, 3, none⟩ (.slice A1 n1 c1)).setCell ⟨gb5, 4, none⟩ (.slice Ao R0.length co)).heap[gb111]? = some (.cells #[.int .i64 (n0 : Int), .bool a0_1, .slice A0_2 l0_2.length c0_2] 24 (0, 0))) := ⟨by
  refine blk_far ?_ NB111.out _
  refine blk_far ?_ NB111.out _
  refine blk_far ?_ NB111.out _
  refine blk_far ?_ NB111.out _
  refine blk_far ?_ NB111.out _
  exact BK111.out⟩
 have n2_ : Aside0 ((((((w9.setCell ⟨gb5, 0, none⟩ (.int .i64 (n0 : Int))).setCell ⟨gb5, 1, none⟩ (.bool a0_1)).setCell ⟨gb5, 2, none⟩ (.slice A0_2 l0_2.length c0_2)).setCell ⟨gb5, 3, none⟩ (.slice A1 n1 c1)).setCell ⟨gb5, 4, none⟩ (.slice Ao R0.length co)).heap[gb4]? = some (.cells #[.int .i64 0, .bool false, .slice none 0 0, .slice none 0 0, .slice none 0 0] 118 (0, 0))) := ⟨by
  refine blk_far ?_ NB4.out _
  refine blk_far ?_ NB4.out _
  refine blk_far ?_ NB4.out _
  refine blk_far ?_ NB4.out _
  refine blk_far ?_ NB4.out _
  exact BK4.out⟩
 have n3_ : Aside0 (Kd.S (Kd.slice 38 k38) 34 (((((w9.setCell ⟨gb5, 0, none⟩ (.int .i64 (n0 : Int))).setCell ⟨gb5, 1, none⟩ (.bool a0_1)).setCell ⟨gb5, 2, none⟩ (.slice A0_2 l0_2.length c0_2)).setCell ⟨gb5, 3, none⟩ (.slice A1 n1 c1)).setCell ⟨gb5, 4, none⟩ (.slice Ao R0.length co)) w.heap.size (fun _ => True) (.slice Ao R0.length co) R0) := ⟨Kd.S_mono (Kd.S_far (p := ⟨gb5, 4, none⟩) (Kd.S_far (p := ⟨gb5, 3, none⟩) (Kd.S_far (p := ⟨gb5, 2, none⟩) (Kd.S_far (p := ⟨gb5, 1, none⟩) (Kd.S_far (p := ⟨gb5, 0, none⟩) (Kd.S_types HO.out BK5.out (by decide)) (fun _ hk => hk.2) (.int .i64 (n0 : Int))) (fun _ hk => hk.2) (.bool a0_1)) (fun _ hk => hk.2) (.slice A0_2 l0_2.length c0_2)) (fun _ hk => hk.2) (.slice A1 n1 c1)) (fun _ hk => hk.2) (.slice Ao R0.length co)) (fun _ _ => trivial)⟩
 have n4_ : Aside0 (Below w.heap.size w (((((w9.setCell ⟨gb5, 0, none⟩ (.int .i64 (n0 : Int))).setCell ⟨gb5, 1, none⟩ (.bool a0_1)).setCell ⟨gb5, 2, none⟩ (.slice A0_2 l0_2.length c0_2)).setCell ⟨gb5, 3, none⟩ (.slice A1 n1 c1)).setCell ⟨gb5, 4, none⟩ (.slice Ao R0.length co))) := ⟨by repeat (first | exact HB.out | refine below_set ?_ GE5.out)⟩
 refine skip_ (w1 := (((((w9.setCell ⟨gb5, 0, none⟩ (.int .i64 (n0 : Int))).setCell ⟨gb5, 1, none⟩ (.bool a0_1)).setCell ⟨gb5, 2, none⟩ (.slice A0_2 l0_2.length c0_2)).setCell ⟨gb5, 3, none⟩ (.slice A1 n1 c1)).setCell ⟨gb5, 4, none⟩ (.slice Ao R0.length co))) (by rfl) rfl ?_ ?_
 ·go_simp
 clear hs0 hfs0 hs1 hfs1 hs2 hfs2 hs3 hfs3 hs4 hfs4
 refine hK.out _ _ ⟨(blk_cell n1_.out 0).trans rfl, (blk_cell n1_.out 1).trans rfl, (blk_cell n1_.out 2).trans rfl⟩ (fun hHeld => ?_)
 clear hK K BK5 BK111 BK4 HO HB hHeld
 have BK5 := n0_
 have BK111 := n1_
 have BK4 := n2_
 have HO := n3_
 have HB := n4_
 clear n0_ n1_ n2_ n3_ n4_
 refine done_ (by kernel_rfl) ?_
 generalize (((((w9.setCell ⟨gb5, 0, none⟩ (.int .i64 (n0 : Int))).setCell ⟨gb5, 1, none⟩ (.bool a0_1)).setCell ⟨gb5, 2, none⟩ (.slice A0_2 l0_2.length c0_2)).setCell ⟨gb5, 3, none⟩ (.slice A1 n1 c1)).setCell ⟨gb5, 4, none⟩ (.slice Ao R0.length co)) = w10 at BK5 BK111 BK4 HO HB ⊢
 go_wp2_with fail
 refine start_ (n := 6) (S := (fun w' => w'.cell? ⟨gb111, 0, none⟩ = some (.int .i64 (n0 : Int)) ∧ w'.cell? ⟨gb111, 1, none⟩ = some (.bool a0_1) ∧ w'.cell? ⟨gb111, 2, none⟩ = some (.slice A0_2 l0_2.length c0_2))) (ds := []) #[false, false, false, false, false, false] (by kernel_rfl) rfl rfl ⟨(blk_cell BK111.out 0).trans rfl, (blk_cell BK111.out 1).trans rfl, (blk_cell BK111.out 2).trans rfl⟩ (fun hHeld => ?_)
 have n0_ := Aside0.mk (below_drew HB.out)
 have n1_ : Aside0 (w10.drew.heap[gb111]? = some (.cells #[.int .i64 (n0 : Int), .bool a0_1, .slice A0_2 l0_2.length c0_2] 24 (0, 0))) := ⟨BK111.out⟩
 have n2_ : Aside0 (w10.drew.heap[gb4]? = some (.cells #[.int .i64 0, .bool false, .slice none 0 0, .slice none 0 0, .slice none 0 0] 118 (0, 0))) := ⟨BK4.out⟩
 have n3_ : Aside0 (w10.drew.heap[gb5]? = some (.cells #[.int .i64 (n0 : Int), .bool a0_1, .slice A0_2 l0_2.length c0_2, .slice A1 n1 c1, .slice Ao R0.length co] 118 (0, 0))) := ⟨BK5.out⟩
 have n4_ := Aside0.mk (Kd.S_drew HO.out)
 clear HB BK111 BK4 BK5 HO
 have HB := n0_
 have BK111 := n1_
 have BK4 := n2_
 have BK5 := n3_
 have HO := n4_
 clear n0_ n1_ n2_ n3_ n4_
 generalize w10.drew = w11 at BK111 HB BK4 BK5 HO hHeld ⊢
 refine take_ (i := 0) (N := some 20) (v := ?_) (a' := ?_) #[true, false, false, false, false, false] rfl rfl (by kernel_rfl) (fun _ _ _ h => h) (Or.inl ⟨by rfl, ?_⟩) hHeld ?_ ?_
 rotate_left
 ·rintro w' ⟨s0, s1, s2⟩
  go_simp
  with_reducible rfl
 rotate_left
 ·simp only [Act.put, List.setIfInBounds_toArray, List.set_cons_zero, List.set_cons_succ, i64_w, i32_w]
  rfl
 refine take_ (i := 2) (N := some 22) (v := ?_) (a' := ?_) #[true, false, true, false, false, false] rfl rfl (by kernel_rfl) (fun _ _ _ h => h) (Or.inl ⟨by rfl, ?_⟩) hHeld ?_ ?_
 rotate_left
 ·rintro w' ⟨s0, s1, s2⟩
  go_simp
  with_reducible rfl
 rotate_left
 ·simp only [Act.put, List.setIfInBounds_toArray, List.set_cons_zero, List.set_cons_succ, i64_w, i32_w]
  rfl
 refine one_ (i := 1) (N := some 21) #[true, true, true, false, false, false] rfl rfl (by kernel_rfl) (by decide) (fun K hK => ?_)
 refine goes_ Try.func141 (by kernel_rfl) rfl #[.agg #[.int .i64 (n0 : Int), .bool a0_1, .slice A0_2 l0_2.length c0_2]] (by rfl) rfl rfl (by (try simp only [List.map_toArray, List.map_cons, List.map_nil]); first | done | rfl) ?_
 refine (leaving_calls (n0 : Int) a0_1 A0_2 c0_2 l0_2 _ (Kd.C_below HR0.out HB.out) HC0_2.out HH0.out HH1.out (by omega) HE0.out).mono ?_
 rintro e w12 ⟨v21, rfl, hS, hb⟩
 refine ⟨_, rfl, ?_⟩
 have n0_ := Aside0.mk (below_step HB.out hb)
 have n1_ := Aside0.mk (blk_below BK111.out hb)
 have n2_ := Aside0.mk (blk_below BK4.out hb)
 have n3_ := Aside0.mk (blk_below BK5.out hb)
 have n4_ := Aside0.mk (Kd.S_below HO.out hb)
 have n5_ := Aside0.mk (Kd.S_lower hS HB.out.size)
 clear HB BK111 BK4 BK5 HO hS hb
 have HB := n0_
 have BK111 := n1_
 have BK4 := n2_
 have BK5 := n3_
 have HO := n4_
 have Hv21 := n5_
 clear n0_ n1_ n2_ n3_ n4_ n5_
 obtain ⟨Av21, cv21, ev21⟩ := Kd.S_slice Hv21.out
 subst ev21
 refine hK.out _ _ ⟨(blk_cell BK111.out 0).trans rfl, (blk_cell BK111.out 1).trans rfl, (blk_cell BK111.out 2).trans rfl⟩ (fun hHeld => ?_)
 clear hK K
 refine norm_ (a' := ?_) ?_ ?_
 rotate_left
 ·show Act.put _ (some 21) _ = _
  simp only [Act.put, List.setIfInBounds_toArray, List.set_cons_zero, List.set_cons_succ, i64_w, i32_w]
  rfl
 refine one_ (i := 3) (N := some 23) #[true, true, true, true, false, false] rfl rfl (by kernel_rfl) (by decide) (fun K hK => ?_)
 refine goes_ Try.func142 (by kernel_rfl) rfl #[.agg #[.int .i64 (n0 : Int), .bool a0_1, .slice A0_2 l0_2.length c0_2]] (by rfl) rfl rfl (by (try simp only [List.map_toArray, List.map_cons, List.map_nil]); first | done | rfl) ?_
 refine (coming_calls (n0 : Int) a0_1 A0_2 c0_2 l0_2 _ (Kd.C_below HR0.out HB.out) HC0_2.out HH0.out HH1.out (by omega) HE1.out).mono ?_
 rintro e w13 ⟨v23, rfl, hS, hb⟩
 refine ⟨_, rfl, ?_⟩
 have n0_ := Aside0.mk (below_step HB.out hb)
 have n1_ := Aside0.mk (blk_below BK111.out hb)
 have n2_ := Aside0.mk (blk_below BK4.out hb)
 have n3_ := Aside0.mk (blk_below BK5.out hb)
 have n4_ := Aside0.mk (Kd.S_below HO.out hb)
 have n5_ := Aside0.mk (Kd.S_lower hS HB.out.size)
 have m_ := Aside0.mk (Kd.S_below Hv21.out hb)
 clear Hv21
 have Hv21 := m_
 clear m_
 clear HB BK111 BK4 BK5 HO hS hb
 have HB := n0_
 have BK111 := n1_
 have BK4 := n2_
 have BK5 := n3_
 have HO := n4_
 have Hv23 := n5_
 clear n0_ n1_ n2_ n3_ n4_ n5_
 obtain ⟨Av23, cv23, ev23⟩ := Kd.S_slice Hv23.out
 subst ev23
 refine hK.out _ _ ⟨(blk_cell BK111.out 0).trans rfl, (blk_cell BK111.out 1).trans rfl, (blk_cell BK111.out 2).trans rfl⟩ (fun hHeld => ?_)
 clear hK K
 refine norm_ (a' := ?_) ?_ ?_
 rotate_left
 ·show Act.put _ (some 23) _ = _
  simp only [Act.put, List.setIfInBounds_toArray, List.set_cons_zero, List.set_cons_succ, i64_w, i32_w]
  rfl
 refine pure_ (i := 4) (N := some 6) (v := ?_) (a' := ?_) #[true, true, true, true, true, false] rfl rfl (by kernel_rfl) (fun _ _ _ h => h) (Or.inl ⟨by rfl, ?_⟩) ?_ ?_
 rotate_left
 ·intro w'
  go_simp
  with_reducible rfl
 rotate_left
 ·simp only [Act.put, List.setIfInBounds_toArray, List.set_cons_zero, List.set_cons_succ, i64_w, i32_w]
  rfl
 refine pure_ (i := 5) (N := some 7) (v := ?_) (a' := ?_) #[true, true, true, true, true, true] rfl rfl (by kernel_rfl) (fun _ _ _ h => h) (Or.inl ⟨by rfl, ?_⟩) ?_ ?_
 rotate_left
 ·intro w'
  go_simp
  with_reducible rfl
 rotate_left
 ·simp only [Act.put, List.setIfInBounds_toArray, List.set_cons_zero, List.set_cons_succ, i64_w, i32_w]
  rfl
 refine done_ (by kernel_rfl) ?_
 go_wp2_with fail
 have HR0' : Aside0 (R0 = rowsAt l0_2 n0 0) := ⟨by rw [NR0.out, rowsAt_zero, Int.toNat_natCast]⟩
 have hlR : R0.length = n0 := by rw [HR0'.out, rowsAt_len]
 rw [hlR] at HO BK5 ⊢
 rw [HR0'.out] at HO
 simp only [Int.toNat_natCast] at Hv21 Hv23 ⊢
 clear hHeld
 obtain ⟨L0, hL0⟩ : ∃ L, L = lsAt eFrom l0_2 n0 l0_2.length := ⟨_, rfl⟩
 obtain ⟨L1, hL1⟩ : ∃ L, L = lsAt eTo l0_2 n0 l0_2.length := ⟨_, rfl⟩
 have hn0 : L0.length = n0 := by rw [hL0, lsAt_len]
 have hn1 : L1.length = n0 := by rw [hL1, lsAt_len]
 rw [← hL0, hn0] at Hv21 ⊢
 rw [← hL1, hn1] at Hv23 ⊢
 have HL0 := Aside0.mk hL0
 have HL1 := Aside0.mk hL1
 clear hL0 hL1
 clear HR0' hlR HR0_2
 have hn6 : n0 ≤ 1000000 := by have := HH1.out; omega
 go_loopw [26] (fun v26 w' => ∃ k : Nat, k ≤ n0 ∧ v26 = .int .i64 k ∧ Aside0 (Kd.S (Kd.slice 38 k38) 34 w' w.heap.size (fun _ => True) (.slice Ao n0 co) (rowsAt l0_2 n0 k)) ∧ Aside0 (w'.heap[gb111]? = some (.cells #[.int .i64 (n0 : Int), .bool a0_1, .slice A0_2 l0_2.length c0_2] 24 (0, 0))) ∧ Aside0 (w'.heap[gb4]? = some (.cells #[.int .i64 0, .bool false, .slice none 0 0, .slice none 0 0, .slice none 0 0] 118 (0, 0))) ∧ Aside0 (w'.heap[gb5]? = some (.cells #[.int .i64 (n0 : Int), .bool a0_1, .slice A0_2 l0_2.length c0_2, .slice A1 n1 c1, .slice Ao n0 co] 118 (0, 0))) ∧ Aside0 (Kd.S (Kd.slice 3 (Kd.int .i64)) 25 w' w.heap.size (fun _ => True) (.slice Av21 n0 cv21) L0) ∧ Aside0 (Kd.S (Kd.slice 3 (Kd.int .i64)) 25 w' w.heap.size (fun _ => True) (.slice Av23 n0 cv23) L1) ∧ Aside0 (Below w.heap.size w w')) (fun v26 _ => n0 - (intOf v26).toNat)
 case atStart => exact ⟨0, Nat.zero_le _, rfl, HO, BK111, BK4, BK5, Hv21, Hv23, HB⟩
 case round =>
  clear HO BK111 BK4 BK5 Hv21 Hv23 HB
  obtain ⟨k, hk, rfl, HO, BK111, BK4, BK5, Hv21, Hv23, HB⟩ := hrel
  by_cases hlt : k < n0
  ·have pk : 0 ≤ ((k : Nat) : Int) := by omega
   have qk : ((k : Nat) : Int) < (n0 : Int) := by omega
   have c27 : decide ((k : Int) < (n0 : Int)) = true := decide_eq_true qk
   obtain ⟨ad0, AA0, cc0, e_, hx_, hl_, _⟩ := at_L7 (Kd.S_reads' Hv21.out).2.2 (k : Int) pk (by rw [hn0]; omega)
   cases e_
   obtain ⟨ce_, hce_, hM_, hcc_⟩ := Kd.S_get Hv21.out [] (k : Int) pk qk
   obtain ⟨ve_, rfl, ge_⟩ := hM_
   have hv_ := hcc_ 0 _ rfl
   rw [Nat.add_zero, show ((Kd.slice 3 (Kd.int .i64))).sz = 1 from rfl, Nat.mul_one] at hv_
   replace hv_ := Option.some.inj (hv_.symm.trans hx_)
   rw [hv_] at ge_
   obtain ⟨LL0, hLL0⟩ : ∃ L, L = rd_L7 L0 (k : Int) := ⟨_, rfl⟩
   have HLL0 : Aside0 (Kd.R (Kd.int .i64) 3 wr w.heap.size (fun _ => True) (.slice AA0 LL0.length cc0) LL0) := ⟨by rw [hLL0]; exact Kd.R_mono ge_ (fun _ _ => trivial)⟩
   rw [← hLL0] at hx_
   simp only [Int.toNat_natCast] at hx_
   have HELL0 := Aside0.mk hLL0
   clear ge_ hv_ hcc_ hce_ hl_ hLL0
   have hxLL0 := hx_
   clear hx_
   obtain ⟨go, co2, eo, gbase, glt, cl, HG⟩ := Kd.S_form HO.out (by rw [rowsAt_len]; omega)
   rw [rowsAt_len] at eo
   injection eo with ea _ ec
   subst ea
   subst ec
   have GBO := Aside0.mk gbase
   clear gbase glt HG
   have HLE0 : Aside0 (LL0.length ≤ 500000) := ⟨by rw [HELL0.out, HL0.out]; exact Nat.le_trans (lsAt_row _ _ _ _ _) hl⟩
   go_wp2_with fail
   have hLL0 := HLE0.out
   obtain ⟨wo1, hwo1⟩ : ∃ x_ : World, x_ = wr := ⟨_, rfl⟩
   subst hwo1
   go_loopw [34] (fun v_ w' => ∃ j : Nat, j ≤ LL0.length ∧ v_ = .int .i64 j ∧ Aside0 (Kd.S (Kd.slice 38 k38) 34 w' w.heap.size (fun _ => True) (.slice (some ⟨go, 0, none⟩) n0 co) ((rowsAt l0_2 n0 k).set k (([] : List S38) ++ (LL0.take j).map (fun i => (⟨i, false⟩ : S38))))) ∧ Aside0 (w'.heap[gb111]? = some (.cells #[.int .i64 (n0 : Int), .bool a0_1, .slice A0_2 l0_2.length c0_2] 24 (0, 0))) ∧ Aside0 (w'.heap[gb4]? = some (.cells #[.int .i64 0, .bool false, .slice none 0 0, .slice none 0 0, .slice none 0 0] 118 (0, 0))) ∧ Aside0 (w'.heap[gb5]? = some (.cells #[.int .i64 (n0 : Int), .bool a0_1, .slice A0_2 l0_2.length c0_2, .slice A1 n1 c1, .slice (some ⟨go, 0, none⟩) n0 co] 118 (0, 0))) ∧ Aside0 (Kd.S (Kd.slice 3 (Kd.int .i64)) 25 w' w.heap.size (fun _ => True) (.slice (some ad0) n0 cv21) L0) ∧ Aside0 (Kd.S (Kd.slice 3 (Kd.int .i64)) 25 w' w.heap.size (fun _ => True) (.slice Av23 n0 cv23) L1) ∧ Aside0 (Kd.R (Kd.int .i64) 3 w' w.heap.size (fun _ => True) (.slice AA0 LL0.length cc0) LL0) ∧ Aside0 (Below w.heap.size w w')) (fun v_ _ => LL0.length - (intOf v_).toNat)
   case atStart => exact ⟨0, Nat.zero_le _, rfl, ⟨by rw [List.take_zero, List.map_nil, List.append_nil, rowsAt_self l0_2 n0 k hlt]; exact HO.out⟩, BK111, BK4, BK5, Hv21, Hv23, HLL0, HB⟩
   case round =>
    clear HO BK111 BK4 BK5 Hv21 Hv23 HLL0 HB
    obtain ⟨j, hj, rfl, HO, BK111, BK4, BK5, Hv21, Hv23, HLL0, HB⟩ := hrel
    by_cases hltj : j < LL0.length
    ·have pj : 0 ≤ ((j : Nat) : Int) := by omega
     have qj : ((j : Nat) : Int) < (LL0.length : Int) := by omega
     have cj : decide ((j : Int) < (LL0.length : Int)) = true := decide_eq_true qj
     obtain ⟨adj, eadj, hxj⟩ := Kd.at_int (Kd.R_reads' HLL0.out).2.2 (j : Int) pj qj
     cases eadj
     simp only [Int.toNat_natCast] at hxj
     have HST := Aside0.mk (row_step ([] : List S38) LL0 false j hltj)
     obtain ⟨xj, hxv⟩ : ∃ x_, x_ = rd LL0 (j : Int) := ⟨_, rfl⟩
     obtain ⟨RW, hRW⟩ : ∃ r_, r_ = (([] : List S38) ++ (LL0.take j).map (fun i => (⟨i, false⟩ : S38))) := ⟨_, rfl⟩
     have HRL : Aside0 (RW.length ≤ 1000000) := ⟨by rw [hRW]; simp; have := HLE0.out; omega⟩
     rw [← hRW, ← hxv] at HST
     obtain ⟨RW2, hRW2⟩ : ∃ r_, r_ = (([] : List S38) ++ (LL0.take (j + 1)).map (fun i => (⟨i, false⟩ : S38))) := ⟨_, rfl⟩
     rw [← hRW2] at HST
     have HRW2 := Aside0.mk hRW2
     clear hRW2
     rw [← hxv] at hxj
     rw [← hRW] at HO
     have HRW := Aside0.mk hRW
     have HXV := Aside0.mk hxv
     clear hRW hxv
     obtain ⟨oki, c_, _, hM_, hcc_, _, _, hH_⟩ := Kd.S_elem HO.out [] (k : Int) pk qk
     obtain ⟨vr, rfl, hR_⟩ := hM_
     rw [show ((rowsAt l0_2 n0 k).set k RW).getD (k : Int).toNat [] = RW from rd_set (rowsAt l0_2 n0 k) k RW (by rw [rowsAt_len]; exact hlt)] at hR_
     obtain ⟨Ar, cr, er⟩ := Kd.R_slice hR_
     subst er
     have hx4 := hcc_ 0 _ rfl
     rw [show ((Kd.slice 38 k38)).sz = 1 from rfl, Nat.mul_one, Nat.add_zero, Int.toNat_natCast] at hx4
     have UU := Aside0.mk hR_
     have HH := Aside0.mk hH_
     clear hcc_ hR_ hH_
     have hx5 : wr.cell? ⟨gb5, 4, none⟩ = some (.slice (some ⟨go, 0, none⟩) n0 co) := (blk_cell BK5.out 4).trans rfl
     go_wp2_with fail
     refine start_ (n := 14) (S := fun w' => w'.cell? ⟨gb5, 4, none⟩ = some (.slice (some ⟨go, 0, none⟩) n0 co) ∧ w'.cell? ⟨go, k, none⟩ = some (.slice Ar RW.length cr)) (ds := [13]) #[false, false, false, false, false, false, false, false, false, false, false, false, false, false] (by kernel_rfl) rfl rfl ⟨hx5, hx4⟩ (fun hHeld => ?_)
     have m0_ := Aside0.mk (below_drew HB.out)
     have m1_ := Aside0.mk ((show wr.drew.heap[gb111]? = _ from BK111.out))
     have m2_ := Aside0.mk ((show wr.drew.heap[gb4]? = _ from BK4.out))
     have m3_ := Aside0.mk ((show wr.drew.heap[gb5]? = _ from BK5.out))
     have m4_ := Aside0.mk (Kd.S_drew Hv21.out)
     have m5_ := Aside0.mk (Kd.S_drew Hv23.out)
     have m6_ := Aside0.mk (Kd.R_drew HLL0.out)
     have m7_ := Aside0.mk (Kd.R_drew UU.out)
     have m8_ := Aside0.mk (Kd.H_drew HH.out)
     clear HB BK111 BK4 BK5 Hv21 Hv23 HLL0 UU HH
     have HB := m0_
     clear m0_
     have BK111 := m1_
     clear m1_
     have BK4 := m2_
     clear m2_
     have BK5 := m3_
     clear m3_
     have Hv21 := m4_
     clear m4_
     have Hv23 := m5_
     clear m5_
     have HLL0 := m6_
     clear m6_
     have UU := m7_
     clear m7_
     have HH := m8_
     clear m8_
     clear HO hxj hx5 hx4
     generalize wr.drew = w14 at HB BK111 BK4 BK5 Hv21 Hv23 HLL0 UU HH hHeld ⊢
     refine pure_ (i := 0) (N := some 38) (v := ?_) (a' := ?_) #[true, false, false, false, false, false, false, false, false, false, false, false, false, false] rfl rfl (by kernel_rfl) (fun _ _ _ h => h) (Or.inl ⟨by rfl, ?_⟩) ?_ ?_
     rotate_left
     ·intro w'
      go_simp
      with_reducible rfl
     rotate_left
     ·simp only [Act.put, List.setIfInBounds_toArray, List.set_cons_zero, List.set_cons_succ, i64_w, i32_w]
      rfl
     refine pure_ (i := 2) (N := some 40) (v := ?_) (a' := ?_) #[true, false, true, false, false, false, false, false, false, false, false, false, false, false] rfl rfl (by kernel_rfl) (fun _ _ _ h => h) (Or.inl ⟨by rfl, ?_⟩) ?_ ?_
     rotate_left
     ·intro w'
      go_simp
      with_reducible rfl
     rotate_left
     ·simp only [Act.put, List.setIfInBounds_toArray, List.set_cons_zero, List.set_cons_succ, i64_w, i32_w]
      rfl
     refine pure_ (i := 3) (N := some 41) (v := ?_) (a' := ?_) #[true, false, true, true, false, false, false, false, false, false, false, false, false, false] rfl rfl (by kernel_rfl) (fun _ _ _ h => h) (Or.inl ⟨by rfl, ?_⟩) ?_ ?_
     rotate_left
     ·intro w'
      go_simp
      with_reducible rfl
     rotate_left
     ·simp only [Act.put, List.setIfInBounds_toArray, List.set_cons_zero, List.set_cons_succ, i64_w, i32_w]
      rfl
     refine pure_ (i := 5) (N := some 43) (v := ?_) (a' := ?_) #[true, false, true, true, false, true, false, false, false, false, false, false, false, false] rfl rfl (by kernel_rfl) (fun _ _ _ h => h) (Or.inl ⟨by rfl, ?_⟩) ?_ ?_
     rotate_left
     ·intro w'
      go_simp
      with_reducible rfl
     rotate_left
     ·simp only [Act.put, List.setIfInBounds_toArray, List.set_cons_zero, List.set_cons_succ, i64_w, i32_w]
      rfl
     refine pure_ (i := 8) (N := some 46) (v := ?_) (a' := ?_) #[true, false, true, true, false, true, false, false, true, false, false, false, false, false] rfl rfl (by kernel_rfl) (fun _ _ _ h => h) (Or.inl ⟨by rfl, ?_⟩) ?_ ?_
     rotate_left
     ·intro w'
      go_simp
      with_reducible rfl
     rotate_left
     ·simp only [Act.put, List.setIfInBounds_toArray, List.set_cons_zero, List.set_cons_succ, i64_w, i32_w]
      rfl
     refine pure_ (i := 9) (N := some 47) (v := ?_) (a' := ?_) #[true, false, true, true, false, true, false, false, true, true, false, false, false, false] rfl rfl (by kernel_rfl) (fun _ _ _ h => h) (Or.inl ⟨by rfl, ?_⟩) ?_ ?_
     rotate_left
     ·intro w'
      go_simp
      with_reducible rfl
     rotate_left
     ·simp only [Act.put, List.setIfInBounds_toArray, List.set_cons_zero, List.set_cons_succ, i64_w, i32_w]
      rfl
     refine take_ (i := 1) (N := some 39) (v := ?_) (a' := ?_) #[true, true, true, true, false, true, false, false, true, true, false, false, false, false] rfl rfl (by kernel_rfl) (fun _ _ _ h => h) (Or.inl ⟨by rfl, ?_⟩) hHeld ?_ ?_
     rotate_left
     ·rintro w' ⟨s0, s1⟩
      go_simp
      with_reducible rfl
     rotate_left
     ·simp only [Act.put, List.setIfInBounds_toArray, List.set_cons_zero, List.set_cons_succ, i64_w, i32_w]
      rfl
     refine take_ (i := 4) (N := some 42) (v := ?_) (a' := ?_) #[true, true, true, true, true, true, false, false, true, true, false, false, false, false] rfl rfl (by kernel_rfl) (fun _ _ _ h => h) (Or.inl ⟨by rfl, ?_⟩) hHeld ?_ ?_
     rotate_left
     ·rintro w' ⟨s0, s1⟩
      go_simp
      with_reducible rfl
     rotate_left
     ·simp only [Act.put, List.setIfInBounds_toArray, List.set_cons_zero, List.set_cons_succ, i64_w, i32_w]
      rfl
     refine pure_ (i := 6) (N := some 44) (v := ?_) (a' := ?_) #[true, true, true, true, true, true, true, false, true, true, false, false, false, false] rfl rfl (by kernel_rfl) (fun _ _ _ h => h) (Or.inl ⟨by rfl, ?_⟩) ?_ ?_
     rotate_left
     ·intro w'
      go_simp
      with_reducible rfl
     rotate_left
     ·simp only [Act.put, List.setIfInBounds_toArray, List.set_cons_zero, List.set_cons_succ, i64_w, i32_w]
      rfl
     refine take_ (i := 7) (N := some 45) (v := ?_) (a' := ?_) #[true, true, true, true, true, true, true, true, true, true, false, false, false, false] rfl rfl (by kernel_rfl) (fun _ _ _ h => h) (Or.inl ⟨by rfl, ?_⟩) hHeld ?_ ?_
     rotate_left
     ·rintro w' ⟨s0, s1⟩
      go_simp
      with_reducible rfl
     rotate_left
     ·simp only [Act.put, List.setIfInBounds_toArray, List.set_cons_zero, List.set_cons_succ, i64_w, i32_w]
      rfl
     refine one_ (i := 10) (N := some 48) #[true, true, true, true, true, true, true, true, true, true, true, false, false, false] rfl rfl (by kernel_rfl) (by decide) (fun K hK => ?_)
     refine value_ (w1 := ?_) (v := ?_) (by rfl) rfl ?_ ?_
     rotate_left 2
     ·go_simp
      constructor
      ·rfl
      ·rfl
     refine hK.out _ _ ⟨(blk_cell (blk_alloc BK5.out _) 4).trans rfl, (World.cell?_alloc_lt _ _ _ (World.block_lt_of_cell? _ _ hHeld.2)).trans hHeld.2⟩ (fun hHeld2 => ?_)
     clear hK K hHeld2
     refine norm_ (a' := ?_) ?_ ?_
     rotate_left
     ·show Act.put _ (some 48) _ = _
      simp only [Act.put, List.setIfInBounds_toArray, List.set_cons_zero, List.set_cons_succ, i64_w, i32_w]
      rfl
     refine one_ (i := 11) (N := some 49) #[true, true, true, true, true, true, true, true, true, true, true, true, false, false] rfl rfl (by kernel_rfl) (by decide) (fun K hK => ?_)
     refine Kd.R_append_step k38 (w0 := w) w.heap.size (by rfl) (.tmp 45) (.tmp 48) 34 38 (.agg #[(.int .i64 0), (.bool false)]) 16 rfl Try.underlying34 info38 rfl (by decide) (by omega) (.slice Ar RW.length cr) RW (⟨xj, false⟩ : S38) [.int .i64 xj, .bool false] (fun k_ => oki k_ ∨ ((fun _ => True)) k_ ∧ w14.heap.size ≤ k_) (fun _ => False) rfl rfl ?aP (fun _ hk => hk.elim) ?aF ?aO ?aB ?aS ?aL ?_
     (case aP => exact k38_mkM _ _ _ (⟨xj, false⟩ : S38))
     (case aF => exact fun k_ hk => .inr ⟨trivial, hk⟩)
     (case aO => exact Kd.R_mono UU.out (fun _ hk => .inl hk))
     (case aB => exact HB.out)
     (case aS => exact HB.out.size)
     (case aL => have := HRL.out; omega)
     intro v_ w16 ho hb hg hat
     clear hat
     have m0_ := Aside0.mk (blk_grown BK111.out hg (Kd.R_ne UU.out BK111.out (by decide)))
     have m1_ := Aside0.mk (blk_grown BK4.out hg (Kd.R_ne UU.out BK4.out (by decide)))
     have m2_ := Aside0.mk (blk_grown BK5.out hg (Kd.R_ne UU.out BK5.out (by decide)))
     have m3_ := Aside0.mk (Kd.S_over' Hv21.out (Kd.R_typed UU.out) (by decide) hg)
     have m4_ := Aside0.mk (Kd.S_over' Hv23.out (Kd.R_typed UU.out) (by decide) hg)
     have m5_ := Aside0.mk (Kd.R_over' HLL0.out (Kd.R_typed UU.out) (by decide) hg)
     have m6_ := Aside0.mk (Kd.H_grown (Kd.H_widen HH.out) hg (fun k_ e_ => .inl (UU.out.1 k_ e_)))
     have m7_ := Aside0.mk (hb)
     have m8_ := Aside0.mk (ho)
     clear BK111 BK4 BK5 Hv21 Hv23 HLL0 HH HB UU
     have BK111 := m0_
     clear m0_
     have BK4 := m1_
     clear m1_
     have BK5 := m2_
     clear m2_
     have Hv21 := m3_
     clear m3_
     have Hv23 := m4_
     clear m4_
     have HLL0 := m5_
     clear m5_
     have HH := m6_
     clear m6_
     have HB := m7_
     clear m7_
     have UU := m8_
     clear m8_
     rw [← HST.out] at UU
     obtain ⟨A2, c2, e2⟩ := Kd.R_slice UU.out
     subst e2
     obtain ⟨_, _, hraw, _, _, hcc_, _⟩ := Kd.H_raw HH.out pk qk
     obtain ⟨_, hfr_⟩ := Kd.H_at HH.out pk qk
     have hx4 := hcc_ 0 _ rfl
     have hf4 := hfr_ 0
     rw [show ((Kd.slice 38 k38)).sz = 1 from rfl, Nat.mul_one, Nat.add_zero, Int.toNat_natCast] at hx4 hf4
     have HRAW := Aside0.mk hraw
     clear hcc_ hfr_ hraw ho hb hg
     refine hK.out _ _ ⟨(blk_cell BK5.out 4).trans rfl, hx4⟩ (fun hHeld => ?_)
     clear hK K
     refine norm_ (a' := ?_) ?_ ?_
     rotate_left
     ·show Act.put _ (some 49) _ = _
      simp only [Act.put, List.setIfInBounds_toArray, List.set_cons_zero, List.set_cons_succ, i64_w, i32_w]
      rfl
     refine pure_ (i := 12) (N := some 50) (v := ?_) (a' := ?_) #[true, true, true, true, true, true, true, true, true, true, true, true, true, false] rfl rfl (by kernel_rfl) (fun _ _ _ h => h) (Or.inl ⟨by rfl, ?_⟩) ?_ ?_
     rotate_left
     ·intro w'
      go_simp
      with_reducible rfl
     rotate_left
     ·simp only [Act.put, List.setIfInBounds_toArray, List.set_cons_zero, List.set_cons_succ, i64_w, i32_w]
      rfl
     have HP := Kd.S_seg0 HH.out pk qk (seg := [.slice A2 RW2.length c2]) (j := 0) (show 1 ≤ 1 from by decide) (x' := RW2) (Kd.M_row UU.out) (fun _ hk => hk)
     rw [show ((Kd.slice 38 k38)).sz = 1 from rfl, Nat.mul_one, Nat.add_zero, Int.toNat_natCast, List.set_set] at HP
     have HG2 : w16.grownBy (w16.setCell ⟨go, k, none⟩ (.slice A2 RW2.length c2)) (some go) := HP.2
     have HO := Aside0.mk (show Kd.S (Kd.slice 38 k38) 34 (w16.setCell ⟨go, k, none⟩ (.slice A2 RW2.length c2)) w.heap.size (fun _ => True) (.slice (some ⟨go, 0, none⟩) n0 co) ((rowsAt l0_2 n0 k).set k RW2) from HP.1)
     refine last_ (i := 13) (N := none) #[true, true, true, true, true, true, true, true, true, true, true, true, true, true] rfl rfl (by kernel_rfl) (by decide) (fun K hK => ?_)
     refine skip_ (w1 := w16.setCell ⟨go, k, none⟩ (.slice A2 RW2.length c2)) (by rfl) rfl ?_ ?_
     ·go_simp
     refine hK.out _ _ ?_
     clear hK K
     have m0_ := Aside0.mk (blk_grown BK111.out HG2 (Kd.R_ne HRAW.out BK111.out (by decide)))
     have m1_ := Aside0.mk (blk_grown BK4.out HG2 (Kd.R_ne HRAW.out BK4.out (by decide)))
     have m2_ := Aside0.mk (blk_grown BK5.out HG2 (Kd.R_ne HRAW.out BK5.out (by decide)))
     have m3_ := Aside0.mk (Kd.S_over' Hv21.out (Kd.R_typed HRAW.out) (by decide) HG2)
     have m4_ := Aside0.mk (Kd.S_over' Hv23.out (Kd.R_typed HRAW.out) (by decide) HG2)
     have m5_ := Aside0.mk (Kd.R_over' HLL0.out (Kd.R_typed HRAW.out) (by decide) HG2)
     have m6_ := Aside0.mk ((below_set HB.out GBO.out : Below w.heap.size w (w16.setCell ⟨go, k, none⟩ (.slice A2 RW2.length c2))))
     clear BK111 BK4 BK5 Hv21 Hv23 HLL0 HB
     have BK111 := m0_
     clear m0_
     have BK4 := m1_
     clear m1_
     have BK5 := m2_
     clear m2_
     have Hv21 := m3_
     clear m3_
     have Hv23 := m4_
     clear m4_
     have HLL0 := m5_
     clear m5_
     have HB := m6_
     clear m6_
     clear HP HG2 HRAW UU HH hHeld hx4 hf4
     refine done_ (by kernel_rfl) ?_
     generalize w16.setCell ⟨go, k, none⟩ (.slice A2 RW2.length c2) = w17 at HO BK111 BK4 BK5 Hv21 Hv23 HLL0 HB ⊢
     rw [HRW2.out] at HO
     clear HRW2 HST HRW
     go_wp2_with fail
     go_roundw
     case rel => exact ⟨j + 1, by omega, by first | rfl | go_num, HO, BK111, BK4, BK5, Hv21, Hv23, HLL0, HB⟩
     case measure => simp [intOf] <;> omega
    ·have ej : j = LL0.length := by omega
     subst ej
     rw [List.take_length] at HO
     have cj : decide ((LL0.length : Int) < (LL0.length : Int)) = false := decide_eq_false (by omega)
     have hlenx : True := trivial
     obtain ⟨ad1, AA1, cc1, e_, hx_, hl_, _⟩ := at_L7 (Kd.S_reads' Hv23.out).2.2 (k : Int) pk (by rw [hn1]; omega)
     cases e_
     obtain ⟨ce_, hce_, hM_, hcc_⟩ := Kd.S_get Hv23.out [] (k : Int) pk qk
     obtain ⟨ve_, rfl, ge_⟩ := hM_
     have hv_ := hcc_ 0 _ rfl
     rw [Nat.add_zero, show ((Kd.slice 3 (Kd.int .i64))).sz = 1 from rfl, Nat.mul_one] at hv_
     replace hv_ := Option.some.inj (hv_.symm.trans hx_)
     rw [hv_] at ge_
     obtain ⟨LL1, hLL1⟩ : ∃ L, L = rd_L7 L1 (k : Int) := ⟨_, rfl⟩
     have HLL1 : Aside0 (Kd.R (Kd.int .i64) 3 wr w.heap.size (fun _ => True) (.slice AA1 LL1.length cc1) LL1) := ⟨by rw [hLL1]; exact Kd.R_mono ge_ (fun _ _ => trivial)⟩
     rw [← hLL1] at hx_
     simp only [Int.toNat_natCast] at hx_
     have HELL1 := Aside0.mk hLL1
     clear ge_ hv_ hcc_ hce_ hl_ hLL1
     have hxLL1 := hx_
     clear hx_
     have HLE1 : Aside0 (LL1.length ≤ 500000) := ⟨by rw [HELL1.out, HL1.out]; exact Nat.le_trans (lsAt_row _ _ _ _ _) hl⟩
     go_wp2_with fail
     have hLL1 := HLE1.out
     obtain ⟨wo2, hwo2⟩ : ∃ x_ : World, x_ = wr := ⟨_, rfl⟩
     subst hwo2
     go_loopw [57] (fun v_ w' => ∃ j : Nat, j ≤ LL1.length ∧ v_ = .int .i64 j ∧ Aside0 (Kd.S (Kd.slice 38 k38) 34 w' w.heap.size (fun _ => True) (.slice (some ⟨go, 0, none⟩) n0 co) ((rowsAt l0_2 n0 k).set k ((([] : List S38) ++ LL0.map (fun i => (⟨i, false⟩ : S38))) ++ (LL1.take j).map (fun i => (⟨i, true⟩ : S38))))) ∧ Aside0 (w'.heap[gb111]? = some (.cells #[.int .i64 (n0 : Int), .bool a0_1, .slice A0_2 l0_2.length c0_2] 24 (0, 0))) ∧ Aside0 (w'.heap[gb4]? = some (.cells #[.int .i64 0, .bool false, .slice none 0 0, .slice none 0 0, .slice none 0 0] 118 (0, 0))) ∧ Aside0 (w'.heap[gb5]? = some (.cells #[.int .i64 (n0 : Int), .bool a0_1, .slice A0_2 l0_2.length c0_2, .slice A1 n1 c1, .slice (some ⟨go, 0, none⟩) n0 co] 118 (0, 0))) ∧ Aside0 (Kd.S (Kd.slice 3 (Kd.int .i64)) 25 w' w.heap.size (fun _ => True) (.slice (some ad0) n0 cv21) L0) ∧ Aside0 (Kd.S (Kd.slice 3 (Kd.int .i64)) 25 w' w.heap.size (fun _ => True) (.slice (some ad1) n0 cv23) L1) ∧ Aside0 (Kd.R (Kd.int .i64) 3 w' w.heap.size (fun _ => True) (.slice AA1 LL1.length cc1) LL1) ∧ Aside0 (Below w.heap.size w w')) (fun v_ _ => LL1.length - (intOf v_).toNat)
     case atStart => exact ⟨0, Nat.zero_le _, rfl, ⟨by rw [List.take_zero, List.map_nil, List.append_nil]; exact HO.out⟩, BK111, BK4, BK5, Hv21, Hv23, HLL1, HB⟩
     case round =>
      clear HO BK111 BK4 BK5 Hv21 Hv23 HLL1 HB
      obtain ⟨j, hj, rfl, HO, BK111, BK4, BK5, Hv21, Hv23, HLL1, HB⟩ := hrel
      by_cases hltj : j < LL1.length
      ·have pj : 0 ≤ ((j : Nat) : Int) := by omega
       have qj : ((j : Nat) : Int) < (LL1.length : Int) := by omega
       have cj : decide ((j : Int) < (LL1.length : Int)) = true := decide_eq_true qj
       obtain ⟨adj, eadj, hxj⟩ := Kd.at_int (Kd.R_reads' HLL1.out).2.2 (j : Int) pj qj
       cases eadj
       simp only [Int.toNat_natCast] at hxj
       have HST := Aside0.mk (row_step (([] : List S38) ++ LL0.map (fun i => (⟨i, false⟩ : S38))) LL1 true j hltj)
       obtain ⟨xj, hxv⟩ : ∃ x_, x_ = rd LL1 (j : Int) := ⟨_, rfl⟩
       obtain ⟨RW, hRW⟩ : ∃ r_, r_ = ((([] : List S38) ++ LL0.map (fun i => (⟨i, false⟩ : S38))) ++ (LL1.take j).map (fun i => (⟨i, true⟩ : S38))) := ⟨_, rfl⟩
       have HRL : Aside0 (RW.length ≤ 1000000) := ⟨by rw [hRW]; simp; have := HLE0.out; have := HLE1.out; omega⟩
       rw [← hRW, ← hxv] at HST
       obtain ⟨RW2, hRW2⟩ : ∃ r_, r_ = ((([] : List S38) ++ LL0.map (fun i => (⟨i, false⟩ : S38))) ++ (LL1.take (j + 1)).map (fun i => (⟨i, true⟩ : S38))) := ⟨_, rfl⟩
       rw [← hRW2] at HST
       have HRW2 := Aside0.mk hRW2
       clear hRW2
       rw [← hxv] at hxj
       rw [← hRW] at HO
       have HRW := Aside0.mk hRW
       have HXV := Aside0.mk hxv
       clear hRW hxv
       obtain ⟨oki, c_, _, hM_, hcc_, _, _, hH_⟩ := Kd.S_elem HO.out [] (k : Int) pk qk
       obtain ⟨vr, rfl, hR_⟩ := hM_
       rw [show ((rowsAt l0_2 n0 k).set k RW).getD (k : Int).toNat [] = RW from rd_set (rowsAt l0_2 n0 k) k RW (by rw [rowsAt_len]; exact hlt)] at hR_
       obtain ⟨Ar, cr, er⟩ := Kd.R_slice hR_
       subst er
       have hx4 := hcc_ 0 _ rfl
       rw [show ((Kd.slice 38 k38)).sz = 1 from rfl, Nat.mul_one, Nat.add_zero, Int.toNat_natCast] at hx4
       have UU := Aside0.mk hR_
       have HH := Aside0.mk hH_
       clear hcc_ hR_ hH_
       have hx5 : wr.cell? ⟨gb5, 4, none⟩ = some (.slice (some ⟨go, 0, none⟩) n0 co) := (blk_cell BK5.out 4).trans rfl
       go_wp2_with fail
       refine start_ (n := 14) (S := fun w' => w'.cell? ⟨gb5, 4, none⟩ = some (.slice (some ⟨go, 0, none⟩) n0 co) ∧ w'.cell? ⟨go, k, none⟩ = some (.slice Ar RW.length cr)) (ds := [13]) #[false, false, false, false, false, false, false, false, false, false, false, false, false, false] (by kernel_rfl) rfl rfl ⟨hx5, hx4⟩ (fun hHeld => ?_)
       have m0_ := Aside0.mk (below_drew HB.out)
       have m1_ := Aside0.mk ((show wr.drew.heap[gb111]? = _ from BK111.out))
       have m2_ := Aside0.mk ((show wr.drew.heap[gb4]? = _ from BK4.out))
       have m3_ := Aside0.mk ((show wr.drew.heap[gb5]? = _ from BK5.out))
       have m4_ := Aside0.mk (Kd.S_drew Hv21.out)
       have m5_ := Aside0.mk (Kd.S_drew Hv23.out)
       have m6_ := Aside0.mk (Kd.R_drew HLL1.out)
       have m7_ := Aside0.mk (Kd.R_drew UU.out)
       have m8_ := Aside0.mk (Kd.H_drew HH.out)
       clear HB BK111 BK4 BK5 Hv21 Hv23 HLL1 UU HH
       have HB := m0_
       clear m0_
       have BK111 := m1_
       clear m1_
       have BK4 := m2_
       clear m2_
       have BK5 := m3_
       clear m3_
       have Hv21 := m4_
       clear m4_
       have Hv23 := m5_
       clear m5_
       have HLL1 := m6_
       clear m6_
       have UU := m7_
       clear m7_
       have HH := m8_
       clear m8_
       clear HO hxj hx5 hx4
       generalize wr.drew = w14 at HB BK111 BK4 BK5 Hv21 Hv23 HLL1 UU HH hHeld ⊢
       refine pure_ (i := 0) (N := some 61) (v := ?_) (a' := ?_) #[true, false, false, false, false, false, false, false, false, false, false, false, false, false] rfl rfl (by kernel_rfl) (fun _ _ _ h => h) (Or.inl ⟨by rfl, ?_⟩) ?_ ?_
       rotate_left
       ·intro w'
        go_simp
        with_reducible rfl
       rotate_left
       ·simp only [Act.put, List.setIfInBounds_toArray, List.set_cons_zero, List.set_cons_succ, i64_w, i32_w]
        rfl
       refine pure_ (i := 2) (N := some 63) (v := ?_) (a' := ?_) #[true, false, true, false, false, false, false, false, false, false, false, false, false, false] rfl rfl (by kernel_rfl) (fun _ _ _ h => h) (Or.inl ⟨by rfl, ?_⟩) ?_ ?_
       rotate_left
       ·intro w'
        go_simp
        with_reducible rfl
       rotate_left
       ·simp only [Act.put, List.setIfInBounds_toArray, List.set_cons_zero, List.set_cons_succ, i64_w, i32_w]
        rfl
       refine pure_ (i := 3) (N := some 64) (v := ?_) (a' := ?_) #[true, false, true, true, false, false, false, false, false, false, false, false, false, false] rfl rfl (by kernel_rfl) (fun _ _ _ h => h) (Or.inl ⟨by rfl, ?_⟩) ?_ ?_
       rotate_left
       ·intro w'
        go_simp
        with_reducible rfl
       rotate_left
       ·simp only [Act.put, List.setIfInBounds_toArray, List.set_cons_zero, List.set_cons_succ, i64_w, i32_w]
        rfl
       refine pure_ (i := 5) (N := some 66) (v := ?_) (a' := ?_) #[true, false, true, true, false, true, false, false, false, false, false, false, false, false] rfl rfl (by kernel_rfl) (fun _ _ _ h => h) (Or.inl ⟨by rfl, ?_⟩) ?_ ?_
       rotate_left
       ·intro w'
        go_simp
        with_reducible rfl
       rotate_left
       ·simp only [Act.put, List.setIfInBounds_toArray, List.set_cons_zero, List.set_cons_succ, i64_w, i32_w]
        rfl
       refine pure_ (i := 8) (N := some 69) (v := ?_) (a' := ?_) #[true, false, true, true, false, true, false, false, true, false, false, false, false, false] rfl rfl (by kernel_rfl) (fun _ _ _ h => h) (Or.inl ⟨by rfl, ?_⟩) ?_ ?_
       rotate_left
       ·intro w'
        go_simp
        with_reducible rfl
       rotate_left
       ·simp only [Act.put, List.setIfInBounds_toArray, List.set_cons_zero, List.set_cons_succ, i64_w, i32_w]
        rfl
       refine pure_ (i := 9) (N := some 70) (v := ?_) (a' := ?_) #[true, false, true, true, false, true, false, false, true, true, false, false, false, false] rfl rfl (by kernel_rfl) (fun _ _ _ h => h) (Or.inl ⟨by rfl, ?_⟩) ?_ ?_
       rotate_left
       ·intro w'
        go_simp
        with_reducible rfl
       rotate_left
       ·simp only [Act.put, List.setIfInBounds_toArray, List.set_cons_zero, List.set_cons_succ, i64_w, i32_w]
        rfl
       refine take_ (i := 1) (N := some 62) (v := ?_) (a' := ?_) #[true, true, true, true, false, true, false, false, true, true, false, false, false, false] rfl rfl (by kernel_rfl) (fun _ _ _ h => h) (Or.inl ⟨by rfl, ?_⟩) hHeld ?_ ?_
       rotate_left
       ·rintro w' ⟨s0, s1⟩
        go_simp
        with_reducible rfl
       rotate_left
       ·simp only [Act.put, List.setIfInBounds_toArray, List.set_cons_zero, List.set_cons_succ, i64_w, i32_w]
        rfl
       refine take_ (i := 4) (N := some 65) (v := ?_) (a' := ?_) #[true, true, true, true, true, true, false, false, true, true, false, false, false, false] rfl rfl (by kernel_rfl) (fun _ _ _ h => h) (Or.inl ⟨by rfl, ?_⟩) hHeld ?_ ?_
       rotate_left
       ·rintro w' ⟨s0, s1⟩
        go_simp
        with_reducible rfl
       rotate_left
       ·simp only [Act.put, List.setIfInBounds_toArray, List.set_cons_zero, List.set_cons_succ, i64_w, i32_w]
        rfl
       refine pure_ (i := 6) (N := some 67) (v := ?_) (a' := ?_) #[true, true, true, true, true, true, true, false, true, true, false, false, false, false] rfl rfl (by kernel_rfl) (fun _ _ _ h => h) (Or.inl ⟨by rfl, ?_⟩) ?_ ?_
       rotate_left
       ·intro w'
        go_simp
        with_reducible rfl
       rotate_left
       ·simp only [Act.put, List.setIfInBounds_toArray, List.set_cons_zero, List.set_cons_succ, i64_w, i32_w]
        rfl
       refine take_ (i := 7) (N := some 68) (v := ?_) (a' := ?_) #[true, true, true, true, true, true, true, true, true, true, false, false, false, false] rfl rfl (by kernel_rfl) (fun _ _ _ h => h) (Or.inl ⟨by rfl, ?_⟩) hHeld ?_ ?_
       rotate_left
       ·rintro w' ⟨s0, s1⟩
        go_simp
        with_reducible rfl
       rotate_left
       ·simp only [Act.put, List.setIfInBounds_toArray, List.set_cons_zero, List.set_cons_succ, i64_w, i32_w]
        rfl
       refine one_ (i := 10) (N := some 71) #[true, true, true, true, true, true, true, true, true, true, true, false, false, false] rfl rfl (by kernel_rfl) (by decide) (fun K hK => ?_)
       refine value_ (w1 := ?_) (v := ?_) (by rfl) rfl ?_ ?_
       rotate_left 2
       ·go_simp
        constructor
        ·rfl
        ·rfl
       refine hK.out _ _ ⟨(blk_cell (blk_alloc BK5.out _) 4).trans rfl, (World.cell?_alloc_lt _ _ _ (World.block_lt_of_cell? _ _ hHeld.2)).trans hHeld.2⟩ (fun hHeld2 => ?_)
       clear hK K hHeld2
       refine norm_ (a' := ?_) ?_ ?_
       rotate_left
       ·show Act.put _ (some 71) _ = _
        simp only [Act.put, List.setIfInBounds_toArray, List.set_cons_zero, List.set_cons_succ, i64_w, i32_w]
        rfl
       refine one_ (i := 11) (N := some 72) #[true, true, true, true, true, true, true, true, true, true, true, true, false, false] rfl rfl (by kernel_rfl) (by decide) (fun K hK => ?_)
       refine Kd.R_append_step k38 (w0 := w) w.heap.size (by rfl) (.tmp 68) (.tmp 71) 34 38 (.agg #[(.int .i64 0), (.bool false)]) 16 rfl Try.underlying34 info38 rfl (by decide) (by omega) (.slice Ar RW.length cr) RW (⟨xj, true⟩ : S38) [.int .i64 xj, .bool true] (fun k_ => oki k_ ∨ ((fun _ => True)) k_ ∧ w14.heap.size ≤ k_) (fun _ => False) rfl rfl ?aP (fun _ hk => hk.elim) ?aF ?aO ?aB ?aS ?aL ?_
       (case aP => exact k38_mkM _ _ _ (⟨xj, true⟩ : S38))
       (case aF => exact fun k_ hk => .inr ⟨trivial, hk⟩)
       (case aO => exact Kd.R_mono UU.out (fun _ hk => .inl hk))
       (case aB => exact HB.out)
       (case aS => exact HB.out.size)
       (case aL => have := HRL.out; omega)
       intro v_ w16 ho hb hg hat
       clear hat
       have m0_ := Aside0.mk (blk_grown BK111.out hg (Kd.R_ne UU.out BK111.out (by decide)))
       have m1_ := Aside0.mk (blk_grown BK4.out hg (Kd.R_ne UU.out BK4.out (by decide)))
       have m2_ := Aside0.mk (blk_grown BK5.out hg (Kd.R_ne UU.out BK5.out (by decide)))
       have m3_ := Aside0.mk (Kd.S_over' Hv21.out (Kd.R_typed UU.out) (by decide) hg)
       have m4_ := Aside0.mk (Kd.S_over' Hv23.out (Kd.R_typed UU.out) (by decide) hg)
       have m5_ := Aside0.mk (Kd.R_over' HLL1.out (Kd.R_typed UU.out) (by decide) hg)
       have m6_ := Aside0.mk (Kd.H_grown (Kd.H_widen HH.out) hg (fun k_ e_ => .inl (UU.out.1 k_ e_)))
       have m7_ := Aside0.mk (hb)
       have m8_ := Aside0.mk (ho)
       clear BK111 BK4 BK5 Hv21 Hv23 HLL1 HH HB UU
       have BK111 := m0_
       clear m0_
       have BK4 := m1_
       clear m1_
       have BK5 := m2_
       clear m2_
       have Hv21 := m3_
       clear m3_
       have Hv23 := m4_
       clear m4_
       have HLL1 := m5_
       clear m5_
       have HH := m6_
       clear m6_
       have HB := m7_
       clear m7_
       have UU := m8_
       clear m8_
       rw [← HST.out] at UU
       obtain ⟨A2, c2, e2⟩ := Kd.R_slice UU.out
       subst e2
       obtain ⟨_, _, hraw, _, _, hcc_, _⟩ := Kd.H_raw HH.out pk qk
       obtain ⟨_, hfr_⟩ := Kd.H_at HH.out pk qk
       have hx4 := hcc_ 0 _ rfl
       have hf4 := hfr_ 0
       rw [show ((Kd.slice 38 k38)).sz = 1 from rfl, Nat.mul_one, Nat.add_zero, Int.toNat_natCast] at hx4 hf4
       have HRAW := Aside0.mk hraw
       clear hcc_ hfr_ hraw ho hb hg
       refine hK.out _ _ ⟨(blk_cell BK5.out 4).trans rfl, hx4⟩ (fun hHeld => ?_)
       clear hK K
       refine norm_ (a' := ?_) ?_ ?_
       rotate_left
       ·show Act.put _ (some 72) _ = _
        simp only [Act.put, List.setIfInBounds_toArray, List.set_cons_zero, List.set_cons_succ, i64_w, i32_w]
        rfl
       refine pure_ (i := 12) (N := some 73) (v := ?_) (a' := ?_) #[true, true, true, true, true, true, true, true, true, true, true, true, true, false] rfl rfl (by kernel_rfl) (fun _ _ _ h => h) (Or.inl ⟨by rfl, ?_⟩) ?_ ?_
       rotate_left
       ·intro w'
        go_simp
        with_reducible rfl
       rotate_left
       ·simp only [Act.put, List.setIfInBounds_toArray, List.set_cons_zero, List.set_cons_succ, i64_w, i32_w]
        rfl
       have HP := Kd.S_seg0 HH.out pk qk (seg := [.slice A2 RW2.length c2]) (j := 0) (show 1 ≤ 1 from by decide) (x' := RW2) (Kd.M_row UU.out) (fun _ hk => hk)
       rw [show ((Kd.slice 38 k38)).sz = 1 from rfl, Nat.mul_one, Nat.add_zero, Int.toNat_natCast, List.set_set] at HP
       have HG2 : w16.grownBy (w16.setCell ⟨go, k, none⟩ (.slice A2 RW2.length c2)) (some go) := HP.2
       have HO := Aside0.mk (show Kd.S (Kd.slice 38 k38) 34 (w16.setCell ⟨go, k, none⟩ (.slice A2 RW2.length c2)) w.heap.size (fun _ => True) (.slice (some ⟨go, 0, none⟩) n0 co) ((rowsAt l0_2 n0 k).set k RW2) from HP.1)
       refine last_ (i := 13) (N := none) #[true, true, true, true, true, true, true, true, true, true, true, true, true, true] rfl rfl (by kernel_rfl) (by decide) (fun K hK => ?_)
       refine skip_ (w1 := w16.setCell ⟨go, k, none⟩ (.slice A2 RW2.length c2)) (by rfl) rfl ?_ ?_
       ·go_simp
       refine hK.out _ _ ?_
       clear hK K
       have m0_ := Aside0.mk (blk_grown BK111.out HG2 (Kd.R_ne HRAW.out BK111.out (by decide)))
       have m1_ := Aside0.mk (blk_grown BK4.out HG2 (Kd.R_ne HRAW.out BK4.out (by decide)))
       have m2_ := Aside0.mk (blk_grown BK5.out HG2 (Kd.R_ne HRAW.out BK5.out (by decide)))
       have m3_ := Aside0.mk (Kd.S_over' Hv21.out (Kd.R_typed HRAW.out) (by decide) HG2)
       have m4_ := Aside0.mk (Kd.S_over' Hv23.out (Kd.R_typed HRAW.out) (by decide) HG2)
       have m5_ := Aside0.mk (Kd.R_over' HLL1.out (Kd.R_typed HRAW.out) (by decide) HG2)
       have m6_ := Aside0.mk ((below_set HB.out GBO.out : Below w.heap.size w (w16.setCell ⟨go, k, none⟩ (.slice A2 RW2.length c2))))
       clear BK111 BK4 BK5 Hv21 Hv23 HLL1 HB
       have BK111 := m0_
       clear m0_
       have BK4 := m1_
       clear m1_
       have BK5 := m2_
       clear m2_
       have Hv21 := m3_
       clear m3_
       have Hv23 := m4_
       clear m4_
       have HLL1 := m5_
       clear m5_
       have HB := m6_
       clear m6_
       clear HP HG2 HRAW UU HH hHeld hx4 hf4
       refine done_ (by kernel_rfl) ?_
       generalize w16.setCell ⟨go, k, none⟩ (.slice A2 RW2.length c2) = w17 at HO BK111 BK4 BK5 Hv21 Hv23 HLL1 HB ⊢
       rw [HRW2.out] at HO
       clear HRW2 HST HRW
       go_wp2_with fail
       go_roundw
       case rel => exact ⟨j + 1, by omega, by first | rfl | go_num, HO, BK111, BK4, BK5, Hv21, Hv23, HLL1, HB⟩
       case measure => simp [intOf] <;> omega
      ·have ej : j = LL1.length := by omega
       subst ej
       rw [List.take_length] at HO
       have cj : decide ((LL1.length : Int) < (LL1.length : Int)) = false := decide_eq_false (by omega)
       obtain ⟨RW, hRW⟩ : ∃ r_, r_ = ((([] : List S38) ++ LL0.map (fun i => (⟨i, false⟩ : S38))) ++ LL1.map (fun i => (⟨i, true⟩ : S38))) := ⟨_, rfl⟩
       have HRU : Aside0 (RW = stepsU l0_2 n0 (k : Int)) := ⟨by rw [hRW, HELL0.out, HELL1.out, HL0.out, HL1.out]; rfl⟩
       have HRL : Aside0 (RW.length ≤ 1000000) := ⟨by rw [hRW]; simp; have := HLE0.out; have := HLE1.out; omega⟩
       rw [← hRW] at HO
       clear hRW
       obtain ⟨oki, c_, _, hM_, hcc_, _, _, hH_⟩ := Kd.S_elem HO.out [] (k : Int) pk qk
       obtain ⟨vr, rfl, hR_⟩ := hM_
       rw [show ((rowsAt l0_2 n0 k).set k RW).getD (k : Int).toNat [] = RW from rd_set (rowsAt l0_2 n0 k) k RW (by rw [rowsAt_len]; exact hlt)] at hR_
       obtain ⟨Ar, cr, er⟩ := Kd.R_slice hR_
       subst er
       have hx4 := hcc_ 0 _ rfl
       rw [show ((Kd.slice 38 k38)).sz = 1 from rfl, Nat.mul_one, Nat.add_zero, Int.toNat_natCast] at hx4
       have UU := Aside0.mk hR_
       have HH := Aside0.mk hH_
       clear hcc_ hR_ hH_
       have hx5 : wr.cell? ⟨gb5, 4, none⟩ = some (.slice (some ⟨go, 0, none⟩) n0 co) := (blk_cell BK5.out 4).trans rfl
       have HEN : Aside0 (ends l0_2 n0) := ⟨fun i hi => ⟨HE0.out i hi, HE1.out i hi⟩⟩
       go_wp2_with (first | (go_at_call 143; refine (sort_row HH.out UU.out HRU.out hlt HEN.out (by omega) HRL.out).mono ?_; rintro e_ w20 ⟨rfl, vv, hg, hty, hS⟩; rw [List.set_set, rowsAt_set l0_2 n0 k hlt] at hS; have m0_ := Aside0.mk (blk_grown BK111.out hg (fun he => by obtain ⟨_, cells_, hc_⟩ := hty _ he.symm; have t_ := BK111.out.symm.trans hc_; simp at t_)); have m1_ := Aside0.mk (blk_grown BK4.out hg (fun he => by obtain ⟨_, cells_, hc_⟩ := hty _ he.symm; have t_ := BK4.out.symm.trans hc_; simp at t_)); have m2_ := Aside0.mk (blk_grown BK5.out hg (fun he => by obtain ⟨_, cells_, hc_⟩ := hty _ he.symm; have t_ := BK5.out.symm.trans hc_; simp at t_)); have m3_ := Aside0.mk (Kd.S_over' (v := vv) Hv21.out (fun k_ hk_ => (hty k_ hk_).2) (by decide) hg); have m4_ := Aside0.mk (Kd.S_over' (v := vv) Hv23.out (fun k_ hk_ => (hty k_ hk_).2) (by decide) hg); have m5_ := Aside0.mk (HB.out.grown hg HB.out.size (fun k_ hk_ => (hty k_ hk_).1)); have m6_ := Aside0.mk hS; clear hg hty hS HO BK111 BK4 BK5 Hv21 Hv23 HLL1 HB UU HH hx4 hx5; have HO := m6_; have BK111 := m0_; have BK4 := m1_; have BK5 := m2_; have Hv21 := m3_; have Hv23 := m4_; have HB := m5_; clear m0_ m1_ m2_ m3_ m4_ m5_ m6_) | fail)
       go_roundw
       case rel => exact ⟨k + 1, by omega, by first | rfl | go_num, HO, BK111, BK4, BK5, Hv21, Hv23, HB⟩
       case measure => simp [intOf] <;> omega
  ·have ek : n0 = k := by omega
   subst ek
   have hx0 : wr.cell? ⟨gb5, 0, none⟩ = some (.int .i64 (n0 : Int)) := (blk_cell BK5.out 0).trans rfl
   have hx1 : wr.cell? ⟨gb5, 1, none⟩ = some (.bool a0_1) := (blk_cell BK5.out 1).trans rfl
   have hx2 : wr.cell? ⟨gb5, 2, none⟩ = some (.slice A0_2 l0_2.length c0_2) := (blk_cell BK5.out 2).trans rfl
   have hx3 : wr.cell? ⟨gb5, 3, none⟩ = some (.slice A1 n1 c1) := (blk_cell BK5.out 3).trans rfl
   have hx4 : wr.cell? ⟨gb5, 4, none⟩ = some (.slice Ao n0 co) := (blk_cell BK5.out 4).trans rfl
   have hy0 : wr.cell? ⟨gb4, 0, none⟩ = some (.int .i64 0) := (blk_cell BK4.out 0).trans rfl
   have hf0 := blk_frozen BK4.out 0
   have hy1 : wr.cell? ⟨gb4, 1, none⟩ = some (.bool false) := (blk_cell BK4.out 1).trans rfl
   have hf1 := blk_frozen BK4.out 1
   have hy2 : wr.cell? ⟨gb4, 2, none⟩ = some (.slice none 0 0) := (blk_cell BK4.out 2).trans rfl
   have hf2 := blk_frozen BK4.out 2
   have hy3 : wr.cell? ⟨gb4, 3, none⟩ = some (.slice none 0 0) := (blk_cell BK4.out 3).trans rfl
   have hf3 := blk_frozen BK4.out 3
   have hy4 : wr.cell? ⟨gb4, 4, none⟩ = some (.slice none 0 0) := (blk_cell BK4.out 4).trans rfl
   have hf4 := blk_frozen BK4.out 4
   have GE4' := GE4.out
   go_wp2
   refine bodyPost_ret (results_cell_row rfl _ _ gb4 118 #[.int .i64 (n0 : Int), .bool a0_1, .slice A0_2 l0_2.length c0_2, .slice A1 n1 c1, .slice Ao n0 co] (0, 0) _ rfl (by refine blk_put (cs := #[.int .i64 (n0 : Int), .bool a0_1, .slice A0_2 l0_2.length c0_2, .slice A1 n1 c1, .slice none 0 0]) ?_ 4 _ rfl; refine blk_put (cs := #[.int .i64 (n0 : Int), .bool a0_1, .slice A0_2 l0_2.length c0_2, .slice none 0 0, .slice none 0 0]) ?_ 3 _ rfl; refine blk_put (cs := #[.int .i64 (n0 : Int), .bool a0_1, .slice none 0 0, .slice none 0 0, .slice none 0 0]) ?_ 2 _ rfl; refine blk_put (cs := #[.int .i64 (n0 : Int), .bool false, .slice none 0 0, .slice none 0 0, .slice none 0 0]) ?_ 1 _ rfl; refine blk_put (cs := #[.int .i64 0, .bool false, .slice none 0 0, .slice none 0 0, .slice none 0 0]) ?_ 0 _ rfl; exact BK4.out) Try.underlying118 rfl (by kernel_rfl)) rfl ?_
   exact ⟨_, rfl, Kd.S_mono (Kd.S_far (p := ⟨gb4, 4, none⟩) (Kd.S_far (p := ⟨gb4, 3, none⟩) (Kd.S_far (p := ⟨gb4, 2, none⟩) (Kd.S_far (p := ⟨gb4, 1, none⟩) (Kd.S_far (p := ⟨gb4, 0, none⟩) (Kd.S_types HO.out BK4.out (by decide)) (fun _ hk => hk.2) (.int .i64 (n0 : Int))) (fun _ hk => hk.2) (.bool a0_1)) (fun _ hk => hk.2) (.slice A0_2 l0_2.length c0_2)) (fun _ hk => hk.2) (.slice A1 n1 c1)) (fun _ hk => hk.2) (.slice Ao n0 co)) (fun _ _ => trivial), by repeat (first | exact HB.out | refine below_set ?_ GE4.out)⟩
end Go.Proofs.Ytkcpanpdipmmmaa.H
namespace Go.Proofs.Ytkcpanpdipmmmaa.H
open Go.RowKit Go.Proofs.YtkcpanpdipmmmaaW.PrintWords Go.Proofs.YtkcpanpdipmmmaaW.PrintLast Go.Proofs.YtkcpanpdipmmmaaW.PrintMore Go.Proofs.Ytkcpanpdipmmmaa.P
theorem heap74 : Kd.Heap k74 := Kd.heap_iso _ (Kd.heap_pair (Kd.heap_int _) (Kd.heap_pair (Kd.heap_int _) (Kd.heap_pair (Kd.heap_int _) (Kd.heap_int _))))
def startR (n s : Nat) : Rch := ⟨List.replicate n 0, (List.replicate n false).set s true, List.replicate n z38, false⟩
theorem startR_ok (n s : Nat) : (startR n s).Ok n := ⟨by simp [startR], by simp [startR], by simp [startR]⟩
theorem bd_zero (n : Nat) : Bd (List.replicate n 0) 0 := by
 intro v
 have : (List.replicate n (0 : Int)).getD v 0 = 0 := by
  rw [List.getD_eq_getElem?_getD, List.getElem?_replicate]
  split <;> rfl
 rw [this]
 omega
set_option maxHeartbeats 2000000 in
set_option maxRecDepth 100000 in
theorem from_calls (n0 : Nat) (a0_1 : Bool) (A2 : Option Addr) (c2 : Nat) (l : List S74) (A1 : Option Addr) (c1 : Nat) (F : List Int) (s : Nat) (w : World) (hR : Right l F n0) (hs : s < n0) (h2 : Kd.C k74 w A2 l.length l) (hc2 : l.length ≤ c2) (h3 : Kd.C (Kd.int .i64) w A1 F.length F) (hc1 : F.length ≤ c1) :
  Calls Try.prog 97 #[.agg #[.int .i64 n0, .bool a0_1, .slice A2 l.length c2], .slice A1 F.length c1, .int .i64 s] w fun e w' => ∃ v0 v1 v2 : Value, e = .returned (.tuple #[.agg #[v0, v1, v2], .bool (goesR l F n0 (n0 + 1) (startR n0 s)).2]) ∧
   Kd.R (Kd.int .i64) 3 w' w.heap.size (fun _ => True) v0 (goesR l F n0 (n0 + 1) (startR n0 s)).1.D ∧ Kd.R Kd.bool 4 w' w.heap.size (fun _ => True) v1 (goesR l F n0 (n0 + 1) (startR n0 s)).1.I ∧ Kd.R k38 38 w' w.heap.size (fun _ => True) v2 (goesR l F n0 (n0 + 1) (startR n0 s)).1.B ∧ Below w.heap.size w w' := by
 obtain ⟨XT, hXT⟩ : ∃ y_, y_ = goesR l F n0 (n0 + 1) (startR n0 s) := ⟨_, rfl⟩
 rw [← hXT]
 have HXT := Aside0.mk hXT
 clear hXT
 have hu24 := Try.underlying24
 have hu109 := Try.underlying109
 have hu118 := Try.underlying118
 have hn0 : 0 < n0 := hR.pos
 have hn50 : n0 ≤ 50 := hR.fifty
 have HR := Aside0.mk hR
 have H2 := Aside0.mk h2
 have H3 := Aside0.mk h3
 have HC2 := Aside0.mk hc2
 have HC1 := Aside0.mk hc1
 clear hR h2 h3 hc2 hc1
 have HB := Aside0.mk (Below.refl w.heap.size w)
 go_enter Try.func97, Try.ntmps97
 go_wp2_with (first | ((with_reducible refine gate_dst (N := 3) rfl ?_); refine box_event ?hg (N := 3) ?hd (cs := #[.int .i64 n0, .bool a0_1, .slice A2 l.length c2]) (t := 24) ?hr ?_; (case hd => rfl); (case hg => rfl); (case hr => first | (go_simp; done) | (go_simp; rfl)); intro g3 hg w4 hbox hb; have n0_ := Aside0.mk (below_step HB.out hb); have B3 := Aside0.mk hbox; clear HB; have HB := n0_; clear n0_ hb hbox hg; have hb0 : w4.cell? ⟨g3, 0, none⟩ = some (.int .i64 n0) := (blk_cell B3.out 0).trans rfl; have hb1 : w4.cell? ⟨g3, 1, none⟩ = some (.bool a0_1) := (blk_cell B3.out 1).trans rfl; have hb2 : w4.cell? ⟨g3, 2, none⟩ = some (.slice A2 l.length c2) := (blk_cell B3.out 2).trans rfl) | ((with_reducible refine gate_dst (N := 6) rfl ?_); refine box_event ?hg (N := 6) ?hd (cs := #[.slice none 0 0, .slice none 0 0, .slice none 0 0]) (t := 109) ?hr ?_; (case hd => rfl); (case hg => rfl); (case hr => first | (go_simp; done) | (go_simp; rfl)); intro g6 hg w5 hbox hb; have GE6 : Aside0 (w.heap.size ≤ g6) := ⟨by rw [hg]; exact HB.out.size⟩; have n0_ := Aside0.mk (below_step HB.out hb); have n1_ := Aside0.mk (blk_below B3.out hb); have B6 := Aside0.mk hbox; clear HB B3 hb0 hb1 hb2; have HB := n0_; have B3 := n1_; clear n0_ n1_ hb hbox hg; have hb0 : w5.cell? ⟨g3, 0, none⟩ = some (.int .i64 n0) := (blk_cell B3.out 0).trans rfl; have hb1 : w5.cell? ⟨g3, 1, none⟩ = some (.bool a0_1) := (blk_cell B3.out 1).trans rfl; have hb2 : w5.cell? ⟨g3, 2, none⟩ = some (.slice A2 l.length c2) := (blk_cell B3.out 2).trans rfl) | (go_at_call 101; refine (at_calls n0 a0_1 A2 c2 l A1 c1 F.length _ (Kd.C_below H2.out HB.out) HC2.out (by omega) (by omega) (by have := HR.out.arcs; omega) (fun k hk => (HR.out.ends k hk).1) (fun k hk => (HR.out.ends k hk).2)).mono ?_; rintro e_ w6 ⟨vr, rfl, hS, hb⟩; obtain ⟨A4, c4, e4⟩ := Kd.S_slice hS; subst e4; rw [rowsAt_len]; have n0_ := Aside0.mk (below_step HB.out hb); have n1_ := Aside0.mk (blk_below B3.out hb); have n2_ := Aside0.mk (blk_below B6.out hb); have HS := Aside0.mk hS; have HSZ : Aside0 (w.heap.size ≤ w5.heap.size) := ⟨HB.out.size⟩; clear HB B3 B6 hb0 hb1 hb2; have HB := n0_; have B3 := n1_; have B6 := n2_; clear n0_ n1_ n2_ hb hS) | ((with_reducible refine gate_dst (N := 8) rfl ?_); refine box_event ?hg (N := 8) ?hd (cs := #[.int .i64 0, .bool false, .slice none 0 0, .slice none 0 0, .slice none 0 0]) (t := 118) ?hr ?_; (case hd => rfl); (case hg => rfl); (case hr => first | (go_simp; done) | (go_simp; rfl)); intro g8 hg w7 hbox hb; have GE8 : Aside0 (w.heap.size ≤ g8) := ⟨by rw [hg]; exact HB.out.size⟩; have n0_ := Aside0.mk (below_step HB.out hb); have n1_ := Aside0.mk (blk_below B3.out hb); have n2_ := Aside0.mk (blk_below B6.out hb); have n3_ := Aside0.mk (Kd.S_below HS.out hb); have B8 := Aside0.mk hbox; have HNE : Aside0 (g3 ≠ g8 ∧ g6 ≠ g8) := ⟨by rw [hg]; exact ⟨Nat.ne_of_lt (blk_lt B3.out), Nat.ne_of_lt (blk_lt B6.out)⟩⟩; clear HB B3 B6 HS; have HB := n0_; have B3 := n1_; have B6 := n2_; have HS := n3_; clear n0_ n1_ n2_ n3_ hb hbox hg; have hz0 : w7.cell? ⟨g8, 0, none⟩ = some (.int .i64 0) := (blk_cell B8.out 0).trans rfl; have hz1 : w7.cell? ⟨g8, 1, none⟩ = some (.bool false) := (blk_cell B8.out 1).trans rfl; have hz2 : w7.cell? ⟨g8, 2, none⟩ = some (.slice none 0 0) := (blk_cell B8.out 2).trans rfl; have hz3 : w7.cell? ⟨g8, 3, none⟩ = some (.slice none 0 0) := (blk_cell B8.out 3).trans rfl; have hz4 : w7.cell? ⟨g8, 4, none⟩ = some (.slice none 0 0) := (blk_cell B8.out 4).trans rfl; have hf0 := blk_frozen B8.out 0; have hf1 := blk_frozen B8.out 1; have hf2 := blk_frozen B8.out 2; have hf3 := blk_frozen B8.out 3; have hf4 := blk_frozen B8.out 4) | ((with_reducible refine gate_store (t := 118) (p := 8) rfl ?_); refine store_event (t := 118) (p := 8) (v := ?vo) (w1 := (((((w7.setCell ⟨g8, 0, none⟩ (.int .i64 n0)).setCell ⟨g8, 1, none⟩ (.bool a0_1)).setCell ⟨g8, 2, none⟩ (.slice A2 l.length c2)).setCell ⟨g8, 3, none⟩ (.slice A1 F.length c1)).setCell ⟨g8, 4, none⟩ (.slice A4 n0 c4))) ?hg ?ho ?hn ?hr ?_; (case ho => rfl); (case hg => rfl); (case hn => rfl); (case hr => first | (go_simp; done) | (go_simp; rfl)); intro w9 hw; have m0_ : Aside0 (w9.heap[g8]? = some (.cells #[.int .i64 n0, .bool a0_1, .slice A2 l.length c2, .slice A1 F.length c1, .slice A4 n0 c4] 118 (0, 0))) := ⟨by rw [hw]; exact blk_put (blk_put (blk_put (blk_put (blk_put (B8.out) 0 _ rfl) 1 _ rfl) 2 _ rfl) 3 _ rfl) 4 _ rfl⟩; have m1_ : Aside0 (w9.heap[g3]? = some (.cells #[.int .i64 n0, .bool a0_1, .slice A2 l.length c2] 24 (0, 0))) := ⟨by rw [hw]; exact blk_far (blk_far (blk_far (blk_far (blk_far (B3.out) HNE.out.1 _) HNE.out.1 _) HNE.out.1 _) HNE.out.1 _) HNE.out.1 _⟩; have m2_ : Aside0 (w9.heap[g6]? = some (.cells #[.slice none 0 0, .slice none 0 0, .slice none 0 0] 109 (0, 0))) := ⟨by rw [hw]; exact blk_far (blk_far (blk_far (blk_far (blk_far (B6.out) HNE.out.2 _) HNE.out.2 _) HNE.out.2 _) HNE.out.2 _) HNE.out.2 _⟩; have m3_ : Aside0 (Below w.heap.size w w9) := ⟨by rw [hw]; exact below_set (below_set (below_set (below_set (below_set (HB.out) GE8.out) GE8.out) GE8.out) GE8.out) GE8.out⟩; have m4_ : Aside0 (Kd.S (Kd.slice 38 k38) 34 w9 w5.heap.size (fun _ => True) (.slice A4 n0 c4) (rowsAt l n0 n0)) := ⟨by rw [hw]; rw [rowsAt_len] at HS; exact Kd.S_set (Kd.S_set (Kd.S_set (Kd.S_set (Kd.S_set (HS.out) (B8.out) (by decide) 0 (.int .i64 n0)) (blk_put (B8.out) 0 (.int .i64 n0) rfl) (by decide) 1 (.bool a0_1)) (blk_put (blk_put (B8.out) 0 (.int .i64 n0) rfl) 1 (.bool a0_1) rfl) (by decide) 2 (.slice A2 l.length c2)) (blk_put (blk_put (blk_put (B8.out) 0 (.int .i64 n0) rfl) 1 (.bool a0_1) rfl) 2 (.slice A2 l.length c2) rfl) (by decide) 3 (.slice A1 F.length c1)) (blk_put (blk_put (blk_put (blk_put (B8.out) 0 (.int .i64 n0) rfl) 1 (.bool a0_1) rfl) 2 (.slice A2 l.length c2) rfl) 3 (.slice A1 F.length c1) rfl) (by decide) 4 (.slice A4 n0 c4)⟩; clear hw B8 B3 B6 HB HS HNE hz0 hz1 hz2 hz3 hz4 hf0 hf1 hf2 hf3 hf4; have B8 := m0_; have B3 := m1_; have B6 := m2_; have HB := m3_; have HS := m4_; clear m0_ m1_ m2_ m3_ m4_; have hb0 : w9.cell? ⟨g3, 0, none⟩ = some (.int .i64 n0) := (blk_cell B3.out 0).trans rfl) | fail)
 refine start_ (n := 12) (S := fun w' => w'.cell? ⟨g3, 0, none⟩ = some (.int .i64 n0)) (ds := [11]) #[false, false, false, false, false, false, false, false, false, false, false, false] (by kernel_rfl) rfl rfl hb0 (fun hHeld => ?_)
 have m_HB := Aside0.mk (below_step HB.out (below_drew (Below.refl _ _)))
 have m_B3 := Aside0.mk (blk_below B3.out (below_drew (Below.refl _ _)))
 have m_B6 := Aside0.mk (blk_below B6.out (below_drew (Below.refl _ _)))
 have m_B8 := Aside0.mk (blk_below B8.out (below_drew (Below.refl _ _)))
 have m_HS := Aside0.mk (Kd.S_below HS.out (below_drew (Below.refl _ _)))
 clear hb0 HB B3 B6 B8 HS
 have HB := m_HB
 clear m_HB
 have B3 := m_B3
 clear m_B3
 have B6 := m_B6
 clear m_B6
 have B8 := m_B8
 clear m_B8
 have HS := m_HS
 clear m_HS
 generalize w9.drew = w14 at hHeld HB B3 B6 B8 HS ⊢
 have HV := Aside0.mk (Kd.V_mono (Kd.V_bound (Kd.S_V (base' := 0) HS.out)) (fun k hk => hk.2) (ok' := fun k => k < w14.heap.size))
 clear HS
 have S14 : Aside0 (w.heap.size ≤ w14.heap.size) := ⟨HB.out.size⟩
 have L3 : Aside0 (g3 < w14.heap.size) := ⟨blk_lt B3.out⟩
 have L6 : Aside0 (g6 < w14.heap.size) := ⟨blk_lt B6.out⟩
 have L8 : Aside0 (g8 < w14.heap.size) := ⟨blk_lt B8.out⟩
 refine pure_ (i := 0) (N := some 13) (v := ?_) (a' := ?_) #[true, false, false, false, false, false, false, false, false, false, false, false] rfl rfl (by kernel_rfl) (fun _ _ _ h => h) (Or.inl ⟨by rfl, ?_⟩) ?_ ?_
 rotate_left
 ·intro w'
  go_simp
  with_reducible rfl
 rotate_left
 ·simp only [Act.put, List.setIfInBounds_toArray, List.set_cons_zero, List.set_cons_succ, i64_w, i32_w]
  rfl
 refine pure_ (i := 3) (N := some 16) (v := ?_) (a' := ?_) #[true, false, false, true, false, false, false, false, false, false, false, false] rfl rfl (by kernel_rfl) (fun _ _ _ h => h) (Or.inl ⟨by rfl, ?_⟩) ?_ ?_
 rotate_left
 ·intro w'
  go_simp
  with_reducible rfl
 rotate_left
 ·simp only [Act.put, List.setIfInBounds_toArray, List.set_cons_zero, List.set_cons_succ, i64_w, i32_w]
  rfl
 refine pure_ (i := 6) (N := some 19) (v := ?_) (a' := ?_) #[true, false, false, true, false, false, true, false, false, false, false, false] rfl rfl (by kernel_rfl) (fun _ _ _ h => h) (Or.inl ⟨by rfl, ?_⟩) ?_ ?_
 rotate_left
 ·intro w'
  go_simp
  with_reducible rfl
 rotate_left
 ·simp only [Act.put, List.setIfInBounds_toArray, List.set_cons_zero, List.set_cons_succ, i64_w, i32_w]
  rfl
 refine take_ (i := 1) (N := some 14) (v := ?_) (a' := ?_) #[true, true, false, true, false, false, true, false, false, false, false, false] rfl rfl (by kernel_rfl) (fun _ _ _ h => h) (Or.inl ⟨by rfl, ?_⟩) hHeld ?_ ?_
 rotate_left
 ·rintro w' s0
  go_simp
  with_reducible rfl
 rotate_left
 ·simp only [Act.put, List.setIfInBounds_toArray, List.set_cons_zero, List.set_cons_succ, i64_w, i32_w]
  rfl
 refine take_ (i := 4) (N := some 17) (v := ?_) (a' := ?_) #[true, true, false, true, true, false, true, false, false, false, false, false] rfl rfl (by kernel_rfl) (fun _ _ _ h => h) (Or.inl ⟨by rfl, ?_⟩) hHeld ?_ ?_
 rotate_left
 ·rintro w' s0
  go_simp
  with_reducible rfl
 rotate_left
 ·simp only [Act.put, List.setIfInBounds_toArray, List.set_cons_zero, List.set_cons_succ, i64_w, i32_w]
  rfl
 refine take_ (i := 7) (N := some 20) (v := ?_) (a' := ?_) #[true, true, false, true, true, false, true, true, false, false, false, false] rfl rfl (by kernel_rfl) (fun _ _ _ h => h) (Or.inl ⟨by rfl, ?_⟩) hHeld ?_ ?_
 rotate_left
 ·rintro w' s0
  go_simp
  with_reducible rfl
 rotate_left
 ·simp only [Act.put, List.setIfInBounds_toArray, List.set_cons_zero, List.set_cons_succ, i64_w, i32_w]
  rfl
 refine join_ (σ := Value × Value × Value × Nat) 1 #[true, true, true, true, true, true, true, true, true, true, true, false] (fun s_ => [(15, s_.1), (18, s_.2.1), (21, s_.2.2.1), (22, .agg #[s_.1, s_.2.1, s_.2.2.1]), (9, .pointer (some ⟨s_.2.2.2, 0, none⟩))]) (fun s_ w' => w'.cell? ⟨g3, 0, none⟩ = some (.int .i64 n0) ∧ Below w14.heap.size w14 w' ∧ Kd.R (Kd.int .i64) 3 w' w14.heap.size (fun _ => True) s_.1 (List.replicate n0 0) ∧ Kd.R Kd.bool 4 w' w14.heap.size (fun _ => True) s_.2.1 (List.replicate n0 false) ∧ Kd.R k38 38 w' w14.heap.size (fun _ => True) s_.2.2.1 (List.replicate n0 z38) ∧ w14.heap.size ≤ s_.2.2.2 ∧ w'.heap[s_.2.2.2]? = some (.cells #[.slice none 0 0, .slice none 0 0, .slice none 0 0] 109 (0, 0))) ?_ ?_
 rotate_left
 ·intro hCont
  refine makers_ (fuel := 2) 4 #[true, true, true, true, true, true, true, true, true, false, true, false] [10] #[true, true, true, true, true, true, true, true, true, false, false, false] [⟨2, 15, (fun v w' => Kd.R (Kd.int .i64) 3 w' w14.heap.size (fun _ => True) v (List.replicate n0 0))⟩, ⟨5, 18, (fun v w' => Kd.R Kd.bool 4 w' w14.heap.size (fun _ => True) v (List.replicate n0 false))⟩, ⟨8, 21, (fun v w' => Kd.R k38 38 w' w14.heap.size (fun _ => True) v (List.replicate n0 z38))⟩, ⟨10, 9, (fun v w' => ∃ g, v = .pointer (some ⟨g, 0, none⟩) ∧ w14.heap.size ≤ g ∧ w'.heap[g]? = some (.cells #[.slice none 0 0, .slice none 0 0, .slice none 0 0] 109 (0, 0)))⟩] rfl (by simp) (by simp) ?_ ?_ (by kernel_rfl) hHeld ?_ ?_
  ·intro m hm
   simp only [List.mem_cons, List.not_mem_nil, or_false] at hm
   rcases hm with rfl | rfl | rfl | rfl
   ·refine ⟨_, rfl, rfl, by simp, fun a' w' K he hS hb hK => ?_⟩
    refine Kd.R_make_step (Kd.int .i64) (w0 := w') w14.heap.size 3 (by rfl) (N := 15) rfl 25 (.tmp 14) (.tmp 14) rfl (n0 : Int) ((he 14 (by simp)).trans rfl) ((he 14 (by simp)).trans rfl) Try.underlying25 (.int .i64 0) 8 info3 rfl (by decide) (by omega) 0 (ok := fun _ => True) (okp := fun _ => False) ?hz (fun _ hk => hk.elim) trivial (by omega) (by rw [Int.toNat_natCast]; omega) (Below.refl _ _) hb.size (fun v1 w1 hr hb1 hg hat => ?_)
    case hz => rfl
    rw [Int.toNat_natCast] at hr
    have hbb : Below w'.heap.size w' w1 := ⟨hg.os, hg.tape, hg.output, hg.size, fun k hk => hg.block k hk (by simp)⟩
    exact hK v1 w1 (pw_cell_below hbb hS) hbb hr
   ·refine ⟨_, rfl, rfl, by simp, fun a' w' K he hS hb hK => ?_⟩
    refine Kd.R_make_step Kd.bool (w0 := w') w14.heap.size 4 (by rfl) (N := 18) rfl 26 (.tmp 17) (.tmp 17) rfl (n0 : Int) ((he 17 (by simp)).trans rfl) ((he 17 (by simp)).trans rfl) Try.underlying26 (.bool false) 1 info4 rfl (by decide) (by omega) false (ok := fun _ => True) (okp := fun _ => False) ?hz (fun _ hk => hk.elim) trivial (by omega) (by rw [Int.toNat_natCast]; omega) (Below.refl _ _) hb.size (fun v1 w1 hr hb1 hg hat => ?_)
    case hz => rfl
    rw [Int.toNat_natCast] at hr
    have hbb : Below w'.heap.size w' w1 := ⟨hg.os, hg.tape, hg.output, hg.size, fun k hk => hg.block k hk (by simp)⟩
    exact hK v1 w1 (pw_cell_below hbb hS) hbb hr
   ·refine ⟨_, rfl, rfl, by simp, fun a' w' K he hS hb hK => ?_⟩
    refine Kd.R_make_step k38 (w0 := w') w14.heap.size 38 (by rfl) (N := 21) rfl 34 (.tmp 20) (.tmp 20) rfl (n0 : Int) ((he 20 (by simp)).trans rfl) ((he 20 (by simp)).trans rfl) Try.underlying34 (.agg #[(.int .i64 0), (.bool false)]) 16 info38 rfl (by decide) (by omega) z38 (ok := fun _ => True) (okp := fun _ => False) ?hz (fun _ hk => hk.elim) trivial (by omega) (by rw [Int.toNat_natCast]; omega) (Below.refl _ _) hb.size (fun v1 w1 hr hb1 hg hat => ?_)
    case hz => exact k38_mkM _ _ _ z38
    rw [Int.toNat_natCast] at hr
    have hbb : Below w'.heap.size w' w1 := ⟨hg.os, hg.tape, hg.output, hg.size, fun k hk => hg.block k hk (by simp)⟩
    exact hK v1 w1 (pw_cell_below hbb hS) hbb hr
   ·refine ⟨_, rfl, rfl, by simp, fun a' w' K he hS hb hK => ?_⟩
    refine box_step ?hg (N := 9) ?hd (cs := #[.slice none 0 0, .slice none 0 0, .slice none 0 0]) (t := 109) ?hr ?_; (case hd => rfl); (case hg => rfl); (case hr => first | (go_simp; done) | (go_simp; rfl))
    intro g hg w1 hbox hbb
    exact hK _ w1 (pw_cell_below hbb hS) hbb ⟨g, rfl, by rw [hg]; exact hb.size, hbox⟩
  ·intro m hm
   simp only [List.mem_cons, List.not_mem_nil, or_false] at hm
   rcases hm with rfl | rfl | rfl | rfl
   ·exact fun v w1 w2 hb hg => Kd.R_below hg hb
   ·exact fun v w1 w2 hb hg => Kd.R_below hg hb
   ·exact fun v w1 w2 hb hg => Kd.R_below hg hb
   ·rintro v w1 w2 hb ⟨g, e, h1, h2⟩
    exact ⟨g, e, h1, blk_below h2 hb⟩
  ·skip
   intro vs w15 hb15 hHeld hG
   have p0 := hG _ (List.mem_cons_self ..)
   have p1 := hG _ (List.mem_cons_of_mem _ (List.mem_cons_self ..))
   have p2 := hG _ (List.mem_cons_of_mem _ (List.mem_cons_of_mem _ (List.mem_cons_self ..)))
   have p3 := hG _ (List.mem_cons_of_mem _ (List.mem_cons_of_mem _ (List.mem_cons_of_mem _ (List.mem_cons_self ..))))
   clear hG
   dsimp only at p0 p1 p2
   obtain ⟨A0, k0, e0⟩ := Kd.R_slice p0
   obtain ⟨A1_, k1, e1⟩ := Kd.R_slice p1
   obtain ⟨A2_, k2, e2⟩ := Kd.R_slice p2
   rw [List.length_replicate] at e0 e1 e2
   obtain ⟨g_, e3, p3a, p3b⟩ := p3
   dsimp only at e3
   refine norm_ (a' := ?_) ?_ ?_
   rotate_left
   ·simp only [List.map_cons, List.map_nil, List.filter_cons, List.filter_nil, putAll, Act.put, List.setIfInBounds_toArray, List.set_cons_zero, List.set_cons_succ, e0, e1, e2, e3]
    rfl
   rw [e0] at p0
   rw [e1] at p1
   rw [e2] at p2
   refine pure_ (i := 9) (N := some 22) (v := ?_) (a' := ?_) #[true, true, true, true, true, true, true, true, true, true, true, false] rfl rfl (by kernel_rfl) (fun _ _ _ h => h) (Or.inl ⟨by rfl, ?_⟩) ?_ ?_
   rotate_left
   ·intro w'
    go_simp
    with_reducible rfl
   rotate_left
   ·simp only [Act.put, List.setIfInBounds_toArray, List.set_cons_zero, List.set_cons_succ, i64_w, i32_w]
    rfl
   exact norm_ (by (simp only [putAll, Act.put, List.setIfInBounds_toArray, List.set_cons_zero, List.set_cons_succ]) <;> rfl) (hCont (.slice A0 n0 k0, .slice A1_ n0 k1, .slice A2_ n0 k2, g_) _ ⟨hHeld, hb15, p0, p1, p2, p3a, p3b⟩)
  ·skip
   intro vs w15 hb15 hHeld hG
   have p0 := hG _ (List.mem_cons_self ..) (by simp)
   have p1 := hG _ (List.mem_cons_of_mem _ (List.mem_cons_self ..)) (by simp)
   have p2 := hG _ (List.mem_cons_of_mem _ (List.mem_cons_of_mem _ (List.mem_cons_self ..))) (by simp)
   clear hG
   dsimp only at p0 p1 p2
   obtain ⟨A0, k0, e0⟩ := Kd.R_slice p0
   obtain ⟨A1_, k1, e1⟩ := Kd.R_slice p1
   obtain ⟨A2_, k2, e2⟩ := Kd.R_slice p2
   rw [List.length_replicate] at e0 e1 e2
   show wpAnyLast _ _ _ _ _ _ 3 _ _ _
   refine norm_ (a' := ?_) ?_ ?_
   rotate_left
   ·show putAll _ [(15, vs 15), (18, vs 18), (21, vs 21)] = _
    simp only [e0, e1, e2, putAll, Act.put, List.setIfInBounds_toArray, List.set_cons_zero, List.set_cons_succ]
    rfl
   rw [e0] at p0
   rw [e1] at p1
   rw [e2] at p2
   refine pure_ (i := 9) (N := some 22) (v := ?_) (a' := ?_) #[true, true, true, true, true, true, true, true, true, true, false, false] rfl rfl (by kernel_rfl) (fun _ _ _ h => h) (Or.inl ⟨by rfl, ?_⟩) ?_ ?_
   rotate_left
   ·intro w'
    go_simp
    with_reducible rfl
   rotate_left
   ·simp only [Act.put, List.setIfInBounds_toArray, List.set_cons_zero, List.set_cons_succ, i64_w, i32_w]
    rfl
   refine one_ (i := 10) (N := some 9) #[true, true, true, true, true, true, true, true, true, true, true, false] rfl rfl (by kernel_rfl) (by decide) (fun K hK => ?_)
   refine box_step ?hg (N := 9) ?hd (cs := #[.slice none 0 0, .slice none 0 0, .slice none 0 0]) (t := 109) ?hr ?_; (case hd => rfl); (case hg => rfl); (case hr => first | (go_simp; done) | (go_simp; rfl))
   intro g_ hg w16 hbox hbb
   refine hK.out _ _ (pw_cell_below hbb hHeld) (fun hHeld => ?_)
   exact norm_ (by (simp only [putAll, Act.put, List.setIfInBounds_toArray, List.set_cons_zero, List.set_cons_succ]) <;> rfl) (hCont (.slice A0 n0 k0, .slice A1_ n0 k1, .slice A2_ n0 k2, g_) _ ⟨hHeld, below_then hb15 hb15.size hbb, Kd.R_below p0 hbb, Kd.R_below p1 hbb, Kd.R_below p2 hbb, by rw [hg]; exact hb15.size, hbox⟩)
 rintro ⟨v0, v1, v2, g9⟩ w15 ⟨hHeld, hb15, p0, p1, p2, p3a, p3b⟩
 dsimp only at p0 p1 p2 p3a p3b
 refine norm_ (a' := ?_) ?_ ?_
 rotate_left
 ·simp only [putAll, Act.put, List.setIfInBounds_toArray, List.set_cons_zero, List.set_cons_succ]
  rfl
 have m_HB := Aside0.mk (below_step HB.out hb15)
 have m_B3 := Aside0.mk (blk_below B3.out hb15)
 have m_B6 := Aside0.mk (blk_below B6.out hb15)
 have m_B8 := Aside0.mk (blk_below B8.out hb15)
 have m_HV := Aside0.mk (Kd.V_below HV.out hb15)
 clear hb15 HB B3 B6 B8 HV
 have HB := m_HB
 clear m_HB
 have B3 := m_B3
 clear m_B3
 have B6 := m_B6
 clear m_B6
 have B8 := m_B8
 clear m_B8
 have HV := m_HV
 clear m_HV
 obtain ⟨gd, cd, e0, q0, q0b, _, _⟩ := Kd.R_form p0 (by rw [List.length_replicate]; exact hn0)
 obtain ⟨gi, ci, e1, q1, q1b, _, _⟩ := Kd.R_form p1 (by rw [List.length_replicate]; exact hn0)
 obtain ⟨gb, cb, e2, q2, q2b, _, _⟩ := Kd.R_form p2 (by rw [List.length_replicate]; exact hn0)
 rw [List.length_replicate] at e0 e1 e2
 subst e0
 subst e1
 subst e2
 have HP0 := Aside0.mk p0
 have HP1 := Aside0.mk p1
 have HP2 := Aside0.mk p2
 have HP3 := Aside0.mk p3b
 have GP3 := Aside0.mk p3a
 have GP0 := Aside0.mk q0
 have GP1 := Aside0.mk q1
 have GP2 := Aside0.mk q2
 clear p0 p1 p2 p3a p3b q0 q1 q2 q0b q1b q2b
 refine last_ (i := 11) (N := none) #[true, true, true, true, true, true, true, true, true, true, true, true] rfl rfl (by kernel_rfl) (by decide) (fun K hK => ?_)
 have hs0 : w15.cell? ⟨g9, 0, none⟩ = some (.slice none 0 0) := (blk_cell HP3.out 0).trans rfl
 have hfs0 := blk_frozen HP3.out 0
 have hs1 : w15.cell? ⟨g9, 1, none⟩ = some (.slice none 0 0) := (blk_cell HP3.out 1).trans rfl
 have hfs1 := blk_frozen HP3.out 1
 have hs2 : w15.cell? ⟨g9, 2, none⟩ = some (.slice none 0 0) := (blk_cell HP3.out 2).trans rfl
 have hfs2 := blk_frozen HP3.out 2
 refine skip_ (w1 := (((w15.setCell ⟨g9, 0, none⟩ (.slice (some ⟨gd, 0, none⟩) n0 cd)).setCell ⟨g9, 1, none⟩ (.slice (some ⟨gi, 0, none⟩) n0 ci)).setCell ⟨g9, 2, none⟩ (.slice (some ⟨gb, 0, none⟩) n0 cb))) (by rfl) rfl ?_ ?_
 ·go_simp
 refine hK.out _ _ ?_
 clear hK K hs0 hs1 hs2 hfs0 hfs1 hfs2 hHeld
 have m0_ := Aside0.mk (Kd.R_set (Kd.R_set (Kd.R_set HP0.out HP3.out (by decide) 0 (.slice (some ⟨gd, 0, none⟩) n0 cd)) (blk_put HP3.out 0 (.slice (some ⟨gd, 0, none⟩) n0 cd) rfl) (by decide) 1 (.slice (some ⟨gi, 0, none⟩) n0 ci)) (blk_put (blk_put HP3.out 0 (.slice (some ⟨gd, 0, none⟩) n0 cd) rfl) 1 (.slice (some ⟨gi, 0, none⟩) n0 ci) rfl) (by decide) 2 (.slice (some ⟨gb, 0, none⟩) n0 cb))
 have m1_ := Aside0.mk (Kd.R_set (Kd.R_set (Kd.R_set HP1.out HP3.out (by decide) 0 (.slice (some ⟨gd, 0, none⟩) n0 cd)) (blk_put HP3.out 0 (.slice (some ⟨gd, 0, none⟩) n0 cd) rfl) (by decide) 1 (.slice (some ⟨gi, 0, none⟩) n0 ci)) (blk_put (blk_put HP3.out 0 (.slice (some ⟨gd, 0, none⟩) n0 cd) rfl) 1 (.slice (some ⟨gi, 0, none⟩) n0 ci) rfl) (by decide) 2 (.slice (some ⟨gb, 0, none⟩) n0 cb))
 have m2_ := Aside0.mk (Kd.R_set (Kd.R_set (Kd.R_set HP2.out HP3.out (by decide) 0 (.slice (some ⟨gd, 0, none⟩) n0 cd)) (blk_put HP3.out 0 (.slice (some ⟨gd, 0, none⟩) n0 cd) rfl) (by decide) 1 (.slice (some ⟨gi, 0, none⟩) n0 ci)) (blk_put (blk_put HP3.out 0 (.slice (some ⟨gd, 0, none⟩) n0 cd) rfl) 1 (.slice (some ⟨gi, 0, none⟩) n0 ci) rfl) (by decide) 2 (.slice (some ⟨gb, 0, none⟩) n0 cb))
 have m3_ := Aside0.mk (blk_put (blk_put (blk_put HP3.out 0 (.slice (some ⟨gd, 0, none⟩) n0 cd) rfl) 1 (.slice (some ⟨gi, 0, none⟩) n0 ci) rfl) 2 (.slice (some ⟨gb, 0, none⟩) n0 cb) rfl)
 clear m0_ m1_ m2_ m3_
 obtain ⟨w16, hw16⟩ : ∃ x_, x_ = (((w15.setCell ⟨g9, 0, none⟩ (.slice (some ⟨gd, 0, none⟩) n0 cd)).setCell ⟨g9, 1, none⟩ (.slice (some ⟨gi, 0, none⟩) n0 ci)).setCell ⟨g9, 2, none⟩ (.slice (some ⟨gb, 0, none⟩) n0 cb)) := ⟨_, rfl⟩
 have m0_ : Aside0 (Kd.R (Kd.int .i64) 3 w16 w14.heap.size (fun _ => True) (.slice (some ⟨gd, 0, none⟩) n0 cd) (List.replicate n0 0)) := ⟨by rw [hw16]; exact Kd.R_set (Kd.R_set (Kd.R_set (HP0.out) (HP3.out) (by decide) 0 (.slice (some ⟨gd, 0, none⟩) n0 cd)) (blk_put (HP3.out) 0 (.slice (some ⟨gd, 0, none⟩) n0 cd) rfl) (by decide) 1 (.slice (some ⟨gi, 0, none⟩) n0 ci)) (blk_put (blk_put (HP3.out) 0 (.slice (some ⟨gd, 0, none⟩) n0 cd) rfl) 1 (.slice (some ⟨gi, 0, none⟩) n0 ci) rfl) (by decide) 2 (.slice (some ⟨gb, 0, none⟩) n0 cb)⟩
 have m1_ : Aside0 (Kd.R Kd.bool 4 w16 w14.heap.size (fun _ => True) (.slice (some ⟨gi, 0, none⟩) n0 ci) (List.replicate n0 false)) := ⟨by rw [hw16]; exact Kd.R_set (Kd.R_set (Kd.R_set (HP1.out) (HP3.out) (by decide) 0 (.slice (some ⟨gd, 0, none⟩) n0 cd)) (blk_put (HP3.out) 0 (.slice (some ⟨gd, 0, none⟩) n0 cd) rfl) (by decide) 1 (.slice (some ⟨gi, 0, none⟩) n0 ci)) (blk_put (blk_put (HP3.out) 0 (.slice (some ⟨gd, 0, none⟩) n0 cd) rfl) 1 (.slice (some ⟨gi, 0, none⟩) n0 ci) rfl) (by decide) 2 (.slice (some ⟨gb, 0, none⟩) n0 cb)⟩
 have m2_ : Aside0 (Kd.R k38 38 w16 w14.heap.size (fun _ => True) (.slice (some ⟨gb, 0, none⟩) n0 cb) (List.replicate n0 z38)) := ⟨by rw [hw16]; exact Kd.R_set (Kd.R_set (Kd.R_set (HP2.out) (HP3.out) (by decide) 0 (.slice (some ⟨gd, 0, none⟩) n0 cd)) (blk_put (HP3.out) 0 (.slice (some ⟨gd, 0, none⟩) n0 cd) rfl) (by decide) 1 (.slice (some ⟨gi, 0, none⟩) n0 ci)) (blk_put (blk_put (HP3.out) 0 (.slice (some ⟨gd, 0, none⟩) n0 cd) rfl) 1 (.slice (some ⟨gi, 0, none⟩) n0 ci) rfl) (by decide) 2 (.slice (some ⟨gb, 0, none⟩) n0 cb)⟩
 have m3_ : Aside0 (w16.heap[g9]? = some (.cells #[.slice (some ⟨gd, 0, none⟩) n0 cd, .slice (some ⟨gi, 0, none⟩) n0 ci, .slice (some ⟨gb, 0, none⟩) n0 cb] 109 (0, 0))) := ⟨by rw [hw16]; exact blk_put (blk_put (blk_put (HP3.out) 0 (.slice (some ⟨gd, 0, none⟩) n0 cd) rfl) 1 (.slice (some ⟨gi, 0, none⟩) n0 ci) rfl) 2 (.slice (some ⟨gb, 0, none⟩) n0 cb) rfl⟩
 have m4_ : Aside0 (w16.heap[g3]? = some (.cells #[.int .i64 n0, .bool a0_1, .slice A2 l.length c2] 24 (0, 0))) := ⟨by rw [hw16]; exact blk_far (blk_far (blk_far B3.out (by show _ ≠ g9; have := L3.out; have := GP3.out; omega) _) (by show _ ≠ g9; have := L3.out; have := GP3.out; omega) _) (by show _ ≠ g9; have := L3.out; have := GP3.out; omega) _⟩
 have m5_ : Aside0 (w16.heap[g6]? = some (.cells #[.slice none 0 0, .slice none 0 0, .slice none 0 0] 109 (0, 0))) := ⟨by rw [hw16]; exact blk_far (blk_far (blk_far B6.out (by show _ ≠ g9; have := L6.out; have := GP3.out; omega) _) (by show _ ≠ g9; have := L6.out; have := GP3.out; omega) _) (by show _ ≠ g9; have := L6.out; have := GP3.out; omega) _⟩
 have m6_ : Aside0 (w16.heap[g8]? = some (.cells #[.int .i64 n0, .bool a0_1, .slice A2 l.length c2, .slice A1 F.length c1, .slice A4 n0 c4] 118 (0, 0))) := ⟨by rw [hw16]; exact blk_far (blk_far (blk_far B8.out (by show _ ≠ g9; have := L8.out; have := GP3.out; omega) _) (by show _ ≠ g9; have := L8.out; have := GP3.out; omega) _) (by show _ ≠ g9; have := L8.out; have := GP3.out; omega) _⟩
 have m7_ : Aside0 (Kd.V (Kd.slice 38 k38) 34 w16 0 (fun k => k < w14.heap.size) (.slice A4 n0 c4) (rowsAt l n0 n0)) := ⟨by rw [hw16]; exact Kd.V_far (p := ⟨g9, 2, none⟩) (Kd.V_far (p := ⟨g9, 1, none⟩) (Kd.V_far (p := ⟨g9, 0, none⟩) (HV.out) (fun k hk => by show k ≠ g9; have := GP3.out; omega) (.slice (some ⟨gd, 0, none⟩) n0 cd)) (fun k hk => by show k ≠ g9; have := GP3.out; omega) (.slice (some ⟨gi, 0, none⟩) n0 ci)) (fun k hk => by show k ≠ g9; have := GP3.out; omega) (.slice (some ⟨gb, 0, none⟩) n0 cb)⟩
 have m8_ : Aside0 (Below w.heap.size w w16) := ⟨by rw [hw16]; exact below_set (below_set (below_set HB.out (Nat.le_trans S14.out GP3.out)) (Nat.le_trans S14.out GP3.out)) (Nat.le_trans S14.out GP3.out)⟩
 have G69 : Aside0 (g6 ≠ g9 ∧ g8 ≠ g9 ∧ g3 ≠ g9) := ⟨by have := L6.out; have := L8.out; have := L3.out; have := GP3.out; exact ⟨by omega, by omega, by omega⟩⟩
 rw [← hw16]
 clear hw16 HP0 HP1 HP2 HP3 B3 B6 B8 HV HB
 have HD := m0_
 clear m0_
 have HI := m1_
 clear m1_
 have HQ := m2_
 clear m2_
 have B9 := m3_
 clear m3_
 have B3 := m4_
 clear m4_
 have B6 := m5_
 clear m5_
 have B8 := m6_
 clear m6_
 have HV := m7_
 clear m7_
 have HB := m8_
 clear m8_
 refine done_ (by kernel_rfl) ?_
 have hq1 : w16.cell? ⟨g9, 1, none⟩ = some (.slice (some ⟨gi, 0, none⟩) n0 ci) := (blk_cell B9.out 1).trans rfl
 have hps : 0 ≤ (s : Int) := by omega
 have hqs : (s : Int) < (n0 : Int) := by omega
 obtain ⟨ads, eas, hcs⟩ := Kd.at_bool (Kd.R_reads' HI.out).2.2 (s : Int) hps (by rw [List.length_replicate]; exact hqs)
 cases eas
 simp only [Int.toNat_natCast, add_plain] at hcs
 obtain ⟨_, _, _, _, hfs_⟩ := Kd.R_elem HI.out false (s : Int) hps hqs
 have hfs := hfs_ 0
 simp only [Int.toNat_natCast, Nat.add_zero] at hfs
 (try rw [show Kd.bool.sz = 1 from rfl, Nat.mul_one] at hfs)
 clear hfs_
 go_wp2_with fail
 obtain ⟨w17, hw⟩ : ∃ x_, x_ = (w16.setCell ⟨gi, s, none⟩ (.bool true)) := ⟨_, rfl⟩
 rw [← hw]
 have P_ := Kd.R_putg HI.out (s : Int) true
 simp only [Int.toNat_natCast] at P_
 have hg : w16.grownBy w17 (some gi) := (by rw [hw]; exact P_.2)
 have m1_ : Aside0 (Kd.R Kd.bool 4 w17 w14.heap.size (fun _ => True) (.slice (some ⟨gi, 0, none⟩) n0 ci) ((List.replicate n0 false).set s true)) := ⟨by rw [hw]; exact P_.1⟩
 have m0_ := Aside0.mk (Kd.R_over' HD.out (Kd.R_typed HI.out) (by decide) hg)
 have m2_ := Aside0.mk (Kd.R_over' HQ.out (Kd.R_typed HI.out) (by decide) hg)
 have m3_ := Aside0.mk (blk_grown B9.out hg (Kd.R_ne HI.out B9.out (by decide)))
 have m4_ := Aside0.mk (blk_grown B3.out hg (Kd.R_ne HI.out B3.out (by decide)))
 have m5_ := Aside0.mk (blk_grown B6.out hg (Kd.R_ne HI.out B6.out (by decide)))
 have m6_ := Aside0.mk (blk_grown B8.out hg (Kd.R_ne HI.out B8.out (by decide)))
 have m7_ := Aside0.mk (Kd.V_grown HV.out hg (fun k hk he => by injection he with he; have := GP1.out; omega))
 have m8_ := Aside0.mk (HB.out.grown hg HB.out.size (fun k hk => by injection hk with hk; subst hk; exact Nat.le_trans S14.out GP1.out))
 clear hw hg P_ HD HI HQ B9 B3 B6 B8 HV HB hq1 hcs hfs
 have HD := m0_
 clear m0_
 have HI := m1_
 clear m1_
 have HQ := m2_
 clear m2_
 have B9 := m3_
 clear m3_
 have B3 := m4_
 clear m4_
 have B6 := m5_
 clear m5_
 have B8 := m6_
 clear m6_
 have HV := m7_
 clear m7_
 have HB := m8_
 clear m8_
 refine start_ (n := 6) (S := fun w' => w'.cell? ⟨g9, 0, none⟩ = some (.slice (some ⟨gd, 0, none⟩) n0 cd) ∧ w'.cell? ⟨g9, 1, none⟩ = some (.slice (some ⟨gi, 0, none⟩) n0 ci) ∧ w'.cell? ⟨g9, 2, none⟩ = some (.slice (some ⟨gb, 0, none⟩) n0 cb) ∧ w'.cell? ⟨g8, 0, none⟩ = some (.int .i64 n0) ∧ w'.cell? ⟨g8, 1, none⟩ = some (.bool a0_1) ∧ w'.cell? ⟨g8, 2, none⟩ = some (.slice A2 l.length c2) ∧ w'.cell? ⟨g8, 3, none⟩ = some (.slice A1 F.length c1) ∧ w'.cell? ⟨g8, 4, none⟩ = some (.slice A4 n0 c4)) (ds := [4]) #[false, false, false, false, false, false] (by kernel_rfl) rfl rfl ⟨(blk_cell B9.out 0).trans rfl, (blk_cell B9.out 1).trans rfl, (blk_cell B9.out 2).trans rfl, (blk_cell B8.out 0).trans rfl, (blk_cell B8.out 1).trans rfl, (blk_cell B8.out 2).trans rfl, (blk_cell B8.out 3).trans rfl, (blk_cell B8.out 4).trans rfl⟩ (fun hHeld => ?_)
 have m0_ := Aside0.mk (Kd.R_drew HD.out)
 have m1_ := Aside0.mk (Kd.R_drew HI.out)
 have m2_ := Aside0.mk (Kd.R_drew HQ.out)
 have m3_ := Aside0.mk (blk_below B9.out (below_drew (Below.refl _ _)))
 have m4_ := Aside0.mk (blk_below B6.out (below_drew (Below.refl _ _)))
 have m5_ := Aside0.mk (blk_below B8.out (below_drew (Below.refl _ _)))
 have m6_ := Aside0.mk (Kd.V_drew HV.out)
 have m7_ := Aside0.mk (below_drew HB.out)
 clear HD HI HQ B9 B6 B8 HV HB
 have HD := m0_
 clear m0_
 have HI := m1_
 clear m1_
 have HQ := m2_
 clear m2_
 have B9 := m3_
 clear m3_
 have B6 := m4_
 clear m4_
 have B8 := m5_
 clear m5_
 have HV := m6_
 clear m6_
 have HB := m7_
 clear m7_
 clear B3
 generalize w17.drew = w18 at hHeld HD HI HQ B9 B6 B8 HV HB ⊢
 refine take_ (i := 0) (N := some 27) (v := ?_) (a' := ?_) #[true, false, false, false, false, false] rfl rfl (by kernel_rfl) (fun _ _ _ h => h) (Or.inl ⟨by rfl, ?_⟩) hHeld ?_ ?_
 rotate_left
 ·rintro w' ⟨s0, s1, s2, s3, s4, s5, s6, s7⟩
  go_simp
  with_reducible rfl
 rotate_left
 ·simp only [Act.put, List.setIfInBounds_toArray, List.set_cons_zero, List.set_cons_succ, i64_w, i32_w]
  rfl
 refine take_ (i := 1) (N := some 28) (v := ?_) (a' := ?_) #[true, true, false, false, false, false] rfl rfl (by kernel_rfl) (fun _ _ _ h => h) (Or.inl ⟨by rfl, ?_⟩) hHeld ?_ ?_
 rotate_left
 ·rintro w' ⟨s0, s1, s2, s3, s4, s5, s6, s7⟩
  go_simp
  with_reducible rfl
 rotate_left
 ·simp only [Act.put, List.setIfInBounds_toArray, List.set_cons_zero, List.set_cons_succ, i64_w, i32_w]
  rfl
 refine take_ (i := 2) (N := some 29) (v := ?_) (a' := ?_) #[true, true, true, false, false, false] rfl rfl (by kernel_rfl) (fun _ _ _ h => h) (Or.inl ⟨by rfl, ?_⟩) hHeld ?_ ?_
 rotate_left
 ·rintro w' ⟨s0, s1, s2, s3, s4, s5, s6, s7⟩
  go_simp
  with_reducible rfl
 rotate_left
 ·simp only [Act.put, List.setIfInBounds_toArray, List.set_cons_zero, List.set_cons_succ, i64_w, i32_w]
  rfl
 refine one_ (i := 3) (N := some 30) #[true, true, true, true, false, false] rfl rfl (by kernel_rfl) (by decide) (fun K hK => ?_)
 refine goes_ Try.func100 (by kernel_rfl) rfl #[.agg #[.int .i64 n0, .bool a0_1, .slice A2 l.length c2, .slice A1 F.length c1, .slice A4 n0 c4], .agg #[.slice (some ⟨gd, 0, none⟩) n0 cd, .slice (some ⟨gi, 0, none⟩) n0 ci, .slice (some ⟨gb, 0, none⟩) n0 cb]] (by rfl) rfl rfl (by (try simp only [List.map_toArray, List.map_cons, List.map_nil]); first | done | rfl) ?_
 refine (settled_calls n0 a0_1 A2 c2 l A1 c1 F A4 c4 gd gi gb cd ci cb w14.heap.size (startR n0 s) w18 HR.out (startR_ok n0 s) (bd_zero n0) HC2.out HC1.out (Kd.F_mono (Kd.F_below (Kd.C_F heap74 H2.out) HB.out) (fun k hk => ⟨by have := S14.out; have := GP0.out; omega, by have := S14.out; have := GP1.out; omega, by have := S14.out; have := GP2.out; omega⟩)) (Kd.F_mono (Kd.F_below (Kd.C_F (Kd.heap_int _) H3.out) HB.out) (fun k hk => ⟨by have := S14.out; have := GP0.out; omega, by have := S14.out; have := GP1.out; omega, by have := S14.out; have := GP2.out; omega⟩)) (Kd.V_mono HV.out (fun k hk => ⟨by have := GP0.out; omega, by have := GP1.out; omega, by have := GP2.out; omega⟩)) HD.out HI.out HQ.out).mono ?_
 rw [← HXT.out]
 rintro e w19 ⟨rfl, hkp, hd, hi, hq⟩
 refine ⟨_, rfl, ?_⟩
 have m_ := Aside0.mk ((hkp.block _ (blk_lt B9.out) (fun e => Kd.R_ne HD.out B9.out (by decide) (congrArg some e)) (fun e => Kd.R_ne HI.out B9.out (by decide) (congrArg some e)) (fun e => Kd.R_ne HQ.out B9.out (by decide) (congrArg some e))).trans B9.out)
 clear B9
 have B9 := m_
 clear m_
 have m_ := Aside0.mk ((hkp.block _ (blk_lt B6.out) (fun e => Kd.R_ne HD.out B6.out (by decide) (congrArg some e)) (fun e => Kd.R_ne HI.out B6.out (by decide) (congrArg some e)) (fun e => Kd.R_ne HQ.out B6.out (by decide) (congrArg some e))).trans B6.out)
 clear B6
 have B6 := m_
 clear m_
 have m_ := Aside0.mk ((hkp.block _ (blk_lt B8.out) (fun e => Kd.R_ne HD.out B8.out (by decide) (congrArg some e)) (fun e => Kd.R_ne HI.out B8.out (by decide) (congrArg some e)) (fun e => Kd.R_ne HQ.out B8.out (by decide) (congrArg some e))).trans B8.out)
 clear B8
 have B8 := m_
 clear m_
 have m_ := Aside0.mk (hkp.toBelow HB.out HB.out.size (Nat.le_trans S14.out GP0.out) (Nat.le_trans S14.out GP1.out) (Nat.le_trans S14.out GP2.out))
 clear HB HD HI HQ HV hkp
 have HB := m_
 clear m_
 have HD := Aside0.mk hd
 have HI := Aside0.mk hi
 have HQ := Aside0.mk hq
 clear hd hi hq
 refine hK.out _ _ ⟨(blk_cell B9.out 0).trans rfl, (blk_cell B9.out 1).trans rfl, (blk_cell B9.out 2).trans rfl, (blk_cell B8.out 0).trans rfl, (blk_cell B8.out 1).trans rfl, (blk_cell B8.out 2).trans rfl, (blk_cell B8.out 3).trans rfl, (blk_cell B8.out 4).trans rfl⟩ (fun hHeld => ?_)
 clear hK K
 refine norm_ (a' := ?_) ?_ ?_
 rotate_left
 ·show Act.put _ (some 30) _ = _
  simp only [Act.put, List.setIfInBounds_toArray, List.set_cons_zero, List.set_cons_succ, i64_w, i32_w]
  rfl
 refine last_ (i := 4) (N := none) #[true, true, true, true, true, false] rfl rfl (by kernel_rfl) (by decide) (fun K hK => ?_)
 have hs0 : w19.cell? ⟨g6, 0, none⟩ = some (.slice none 0 0) := (blk_cell B6.out 0).trans rfl
 have hfs0 := blk_frozen B6.out 0
 have hs1 : w19.cell? ⟨g6, 1, none⟩ = some (.slice none 0 0) := (blk_cell B6.out 1).trans rfl
 have hfs1 := blk_frozen B6.out 1
 have hs2 : w19.cell? ⟨g6, 2, none⟩ = some (.slice none 0 0) := (blk_cell B6.out 2).trans rfl
 have hfs2 := blk_frozen B6.out 2
 refine skip_ (w1 := (((w19.setCell ⟨g6, 0, none⟩ (.slice (some ⟨gd, 0, none⟩) n0 cd)).setCell ⟨g6, 1, none⟩ (.slice (some ⟨gi, 0, none⟩) n0 ci)).setCell ⟨g6, 2, none⟩ (.slice (some ⟨gb, 0, none⟩) n0 cb))) (by rfl) rfl ?_ ?_
 ·go_simp
 refine hK.out _ _ ?_
 clear hK K hs0 hs1 hs2 hfs0 hfs1 hfs2 hHeld
 refine pure_ (i := 5) (N := some 7) (v := ?_) (a' := ?_) #[true, true, true, true, true, true] rfl rfl (by kernel_rfl) (fun _ _ _ h => h) (Or.inl ⟨by rfl, ?_⟩) ?_ ?_
 rotate_left
 ·intro w'
  go_simp
  with_reducible rfl
 rotate_left
 ·simp only [Act.put, List.setIfInBounds_toArray, List.set_cons_zero, List.set_cons_succ, i64_w, i32_w]
  rfl
 refine done_ (by kernel_rfl) ?_
 go_wp2_with fail
 refine bodyPost_ret (results_ct rfl _ _ g6 109 #[.slice (some ⟨gd, 0, none⟩) n0 cd, .slice (some ⟨gi, 0, none⟩) n0 ci, .slice (some ⟨gb, 0, none⟩) n0 cb] (0, 0) _ rfl (blk_put (blk_put (blk_put (B6.out) 0 (.slice (some ⟨gd, 0, none⟩) n0 cd) rfl) 1 (.slice (some ⟨gi, 0, none⟩) n0 ci) rfl) 2 (.slice (some ⟨gb, 0, none⟩) n0 cb) rfl) Try.underlying109 rfl (by kernel_rfl)) rfl ?_
 exact ⟨_, _, _, rfl, Kd.R_lower (Kd.R_set (Kd.R_set (Kd.R_set (HD.out) (B6.out) (by decide) 0 (.slice (some ⟨gd, 0, none⟩) n0 cd)) (blk_put (B6.out) 0 (.slice (some ⟨gd, 0, none⟩) n0 cd) rfl) (by decide) 1 (.slice (some ⟨gi, 0, none⟩) n0 ci)) (blk_put (blk_put (B6.out) 0 (.slice (some ⟨gd, 0, none⟩) n0 cd) rfl) 1 (.slice (some ⟨gi, 0, none⟩) n0 ci) rfl) (by decide) 2 (.slice (some ⟨gb, 0, none⟩) n0 cb)) S14.out, Kd.R_lower (Kd.R_set (Kd.R_set (Kd.R_set (HI.out) (B6.out) (by decide) 0 (.slice (some ⟨gd, 0, none⟩) n0 cd)) (blk_put (B6.out) 0 (.slice (some ⟨gd, 0, none⟩) n0 cd) rfl) (by decide) 1 (.slice (some ⟨gi, 0, none⟩) n0 ci)) (blk_put (blk_put (B6.out) 0 (.slice (some ⟨gd, 0, none⟩) n0 cd) rfl) 1 (.slice (some ⟨gi, 0, none⟩) n0 ci) rfl) (by decide) 2 (.slice (some ⟨gb, 0, none⟩) n0 cb)) S14.out, Kd.R_lower (Kd.R_set (Kd.R_set (Kd.R_set (HQ.out) (B6.out) (by decide) 0 (.slice (some ⟨gd, 0, none⟩) n0 cd)) (blk_put (B6.out) 0 (.slice (some ⟨gd, 0, none⟩) n0 cd) rfl) (by decide) 1 (.slice (some ⟨gi, 0, none⟩) n0 ci)) (blk_put (blk_put (B6.out) 0 (.slice (some ⟨gd, 0, none⟩) n0 cd) rfl) 1 (.slice (some ⟨gi, 0, none⟩) n0 ci) rfl) (by decide) 2 (.slice (some ⟨gb, 0, none⟩) n0 cb)) S14.out, below_set (below_set (below_set HB.out GE6.out) GE6.out) GE6.out⟩
end Go.Proofs.Ytkcpanpdipmmmaa.H
namespace Go.Proofs.Ytkcpanpdipmmmaa.H
open Go.RowKit Go.Proofs.YtkcpanpdipmmmaaW.PrintWords Go.Proofs.YtkcpanpdipmmmaaW.PrintLast Go.Proofs.YtkcpanpdipmmmaaW.PrintMore Go.Proofs.Ytkcpanpdipmmmaa.P
set_option maxHeartbeats 1000000 in
set_option maxRecDepth 100000 in
theorem far_no (k : Nat) (a0_0 : Int) (a0_1 : Bool) (A2 : Option Addr) (c2 : Nat) (l : List S74) (A1 : Option Addr) (c1 : Nat) (F : List Int) (a2 t : Int) (w : World) (h2 : Kd.C k74 w A2 l.length l) (hc2 : l.length ≤ c2) (h3 : Kd.C (Kd.int .i64) w A1 F.length F) (hc1 : F.length ≤ c1) (hA : static_Asked.f k a0_0 a0_1 l F = some t) (ht : t ≠ 0) :
  Calls Try.prog 38 #[.agg #[.int .i64 a0_0, .bool a0_1, .slice A2 l.length c2], .slice A1 F.length c1, .int .i64 a2] w fun e w' => e = .returned (.tuple #[.slice none 0 0, .slice none 0 0, .int .i64 t]) ∧ Below w.heap.size w w' := by
 have hu24 := Try.underlying24
 have H2 := Aside0.mk h2
 have H3 := Aside0.mk h3
 have HC2 := Aside0.mk hc2
 have HC1 := Aside0.mk hc1
 have HA := Aside0.mk hA
 clear h2 h3 hc2 hc1 hA
 have HB := Aside0.mk (Below.refl w.heap.size w)
 have e1 : (t != 0) = true := by rw [bne_iff_ne]; exact ht
 have e2 : decide (t = 0) = false := decide_eq_false ht
 clear ht
 go_enter Try.func38, Try.ntmps38
 go_wp2_with (first | ((with_reducible refine gate_dst (N := 3) rfl ?_); refine box_event ?hg (N := 3) ?hd (cs := #[.int .i64 a0_0, .bool a0_1, .slice A2 l.length c2]) (t := 24) ?hr ?_; (case hd => rfl); (case hg => rfl); (case hr => first | (go_simp; done) | (go_simp; rfl)); intro g3 hg w4 hbox hb; have n0_ := Aside0.mk (below_step HB.out hb); have B3 := Aside0.mk hbox; clear HB; have HB := n0_; clear n0_ hb hbox hg; have hb0 : w4.cell? ⟨g3, 0, none⟩ = some (.int .i64 a0_0) := (blk_cell B3.out 0).trans rfl; have hb1 : w4.cell? ⟨g3, 1, none⟩ = some (.bool a0_1) := (blk_cell B3.out 1).trans rfl; have hb2 : w4.cell? ⟨g3, 2, none⟩ = some (.slice A2 l.length c2) := (blk_cell B3.out 2).trans rfl) | (go_at_call 96; refine (static_Asked.calls k a0_0 a0_1 A2 c2 l A1 c1 F t _ (Kd.C_below H2.out HB.out) HC2.out (Kd.C_below H3.out HB.out) HC1.out HA.out).mono ?_; rintro e_ w5 ⟨rfl, hb⟩; have n0_ := Aside0.mk (below_step HB.out hb); have n1_ := Aside0.mk (blk_below B3.out hb); clear HB B3 hb0 hb1 hb2 hb; have HB := n0_; have B3 := n1_; clear n0_ n1_; have hb0 : w5.cell? ⟨g3, 0, none⟩ = some (.int .i64 a0_0) := (blk_cell B3.out 0).trans rfl; have hb1 : w5.cell? ⟨g3, 1, none⟩ = some (.bool a0_1) := (blk_cell B3.out 1).trans rfl; have hb2 : w5.cell? ⟨g3, 2, none⟩ = some (.slice A2 l.length c2) := (blk_cell B3.out 2).trans rfl) | fail)
 first | go_ret | go_ret2 | go_ret3
 exact ⟨rfl, HB.out⟩
set_option maxHeartbeats 1000000 in
set_option maxRecDepth 100000 in
theorem far_arg (k : Nat) (a0_0 : Int) (a0_1 : Bool) (A2 : Option Addr) (c2 : Nat) (l : List S74) (A1 : Option Addr) (c1 : Nat) (F : List Int) (a2 : Int) (w : World) (h2 : Kd.C k74 w A2 l.length l) (hc2 : l.length ≤ c2) (h3 : Kd.C (Kd.int .i64) w A1 F.length F) (hc1 : F.length ≤ c1) (hA : static_Asked.f k a0_0 a0_1 l F = some 0) (hs : ¬ (0 ≤ a2 ∧ a2 < a0_0)) :
  Calls Try.prog 38 #[.agg #[.int .i64 a0_0, .bool a0_1, .slice A2 l.length c2], .slice A1 F.length c1, .int .i64 a2] w fun e w' => e = .returned (.tuple #[.slice none 0 0, .slice none 0 0, .int .i64 1]) ∧ Below w.heap.size w w' := by
 have hu24 := Try.underlying24
 have H2 := Aside0.mk h2
 have H3 := Aside0.mk h3
 have HC2 := Aside0.mk hc2
 have HC1 := Aside0.mk hc1
 have HA := Aside0.mk hA
 clear h2 h3 hc2 hc1 hA
 have HB := Aside0.mk (Below.refl w.heap.size w)
 go_enter Try.func38, Try.ntmps38
 by_cases h0 : a2 < 0
 ·have e1 : decide (a2 < 0) = true := decide_eq_true h0
  clear hs h0
  go_wp2_with (first | ((with_reducible refine gate_dst (N := 3) rfl ?_); refine box_event ?hg (N := 3) ?hd (cs := #[.int .i64 a0_0, .bool a0_1, .slice A2 l.length c2]) (t := 24) ?hr ?_; (case hd => rfl); (case hg => rfl); (case hr => first | (go_simp; done) | (go_simp; rfl)); intro g3 hg w4 hbox hb; have n0_ := Aside0.mk (below_step HB.out hb); have B3 := Aside0.mk hbox; clear HB; have HB := n0_; clear n0_ hb hbox hg; have hb0 : w4.cell? ⟨g3, 0, none⟩ = some (.int .i64 a0_0) := (blk_cell B3.out 0).trans rfl; have hb1 : w4.cell? ⟨g3, 1, none⟩ = some (.bool a0_1) := (blk_cell B3.out 1).trans rfl; have hb2 : w4.cell? ⟨g3, 2, none⟩ = some (.slice A2 l.length c2) := (blk_cell B3.out 2).trans rfl) | (go_at_call 96; refine (static_Asked.calls k a0_0 a0_1 A2 c2 l A1 c1 F 0 _ (Kd.C_below H2.out HB.out) HC2.out (Kd.C_below H3.out HB.out) HC1.out HA.out).mono ?_; rintro e_ w5 ⟨rfl, hb⟩; have n0_ := Aside0.mk (below_step HB.out hb); have n1_ := Aside0.mk (blk_below B3.out hb); clear HB B3 hb0 hb1 hb2 hb; have HB := n0_; have B3 := n1_; clear n0_ n1_; have hb0 : w5.cell? ⟨g3, 0, none⟩ = some (.int .i64 a0_0) := (blk_cell B3.out 0).trans rfl; have hb1 : w5.cell? ⟨g3, 1, none⟩ = some (.bool a0_1) := (blk_cell B3.out 1).trans rfl; have hb2 : w5.cell? ⟨g3, 2, none⟩ = some (.slice A2 l.length c2) := (blk_cell B3.out 2).trans rfl) | fail)
  first | go_ret | go_ret2 | go_ret3
  exact ⟨rfl, HB.out⟩
 ·have e1 : decide (a2 < 0) = false := decide_eq_false h0
  have e2 : decide (a0_0 ≤ a2) = true := decide_eq_true (by omega)
  clear hs h0
  go_wp2_with (first | ((with_reducible refine gate_dst (N := 3) rfl ?_); refine box_event ?hg (N := 3) ?hd (cs := #[.int .i64 a0_0, .bool a0_1, .slice A2 l.length c2]) (t := 24) ?hr ?_; (case hd => rfl); (case hg => rfl); (case hr => first | (go_simp; done) | (go_simp; rfl)); intro g3 hg w4 hbox hb; have n0_ := Aside0.mk (below_step HB.out hb); have B3 := Aside0.mk hbox; clear HB; have HB := n0_; clear n0_ hb hbox hg; have hb0 : w4.cell? ⟨g3, 0, none⟩ = some (.int .i64 a0_0) := (blk_cell B3.out 0).trans rfl; have hb1 : w4.cell? ⟨g3, 1, none⟩ = some (.bool a0_1) := (blk_cell B3.out 1).trans rfl; have hb2 : w4.cell? ⟨g3, 2, none⟩ = some (.slice A2 l.length c2) := (blk_cell B3.out 2).trans rfl) | (go_at_call 96; refine (static_Asked.calls k a0_0 a0_1 A2 c2 l A1 c1 F 0 _ (Kd.C_below H2.out HB.out) HC2.out (Kd.C_below H3.out HB.out) HC1.out HA.out).mono ?_; rintro e_ w5 ⟨rfl, hb⟩; have n0_ := Aside0.mk (below_step HB.out hb); have n1_ := Aside0.mk (blk_below B3.out hb); clear HB B3 hb0 hb1 hb2 hb; have HB := n0_; have B3 := n1_; clear n0_ n1_; have hb0 : w5.cell? ⟨g3, 0, none⟩ = some (.int .i64 a0_0) := (blk_cell B3.out 0).trans rfl; have hb1 : w5.cell? ⟨g3, 1, none⟩ = some (.bool a0_1) := (blk_cell B3.out 1).trans rfl; have hb2 : w5.cell? ⟨g3, 2, none⟩ = some (.slice A2 l.length c2) := (blk_cell B3.out 2).trans rfl) | fail)
  first | go_ret | go_ret2 | go_ret3
  exact ⟨rfl, HB.out⟩
set_option maxHeartbeats 1000000 in
set_option maxRecDepth 100000 in
theorem far_ok (k : Nat) (n0 : Nat) (a0_1 : Bool) (A2 : Option Addr) (c2 : Nat) (l : List S74) (A1 : Option Addr) (c1 : Nat) (F : List Int) (s : Nat) (w : World) (hR : Right l F n0) (hs : s < n0) (h2 : Kd.C k74 w A2 l.length l) (hc2 : l.length ≤ c2) (h3 : Kd.C (Kd.int .i64) w A1 F.length F) (hc1 : F.length ≤ c1) (hA : static_Asked.f k (n0 : Int) a0_1 l F = some 0) :
  Calls Try.prog 38 #[.agg #[.int .i64 n0, .bool a0_1, .slice A2 l.length c2], .slice A1 F.length c1, .int .i64 s] w fun e w' => ∃ v0 v1 : Value, ((goesR l F n0 (n0 + 1) (startR n0 s)).2 = true ∧ e = .returned (.tuple #[v0, v1, .int .i64 0]) ∧ Kd.R (Kd.int .i64) 3 w' w.heap.size (fun _ => True) v0 (goesR l F n0 (n0 + 1) (startR n0 s)).1.D ∧ Kd.R Kd.bool 4 w' w.heap.size (fun _ => True) v1 (goesR l F n0 (n0 + 1) (startR n0 s)).1.I ∨ (goesR l F n0 (n0 + 1) (startR n0 s)).2 = false ∧ e = .returned (.tuple #[.slice none 0 0, .slice none 0 0, .int .i64 110])) ∧ Below w.heap.size w w' := by
 have hu24 := Try.underlying24
 have hu109 := Try.underlying109
 have HR := Aside0.mk hR
 have H2 := Aside0.mk h2
 have H3 := Aside0.mk h3
 have HC2 := Aside0.mk hc2
 have HC1 := Aside0.mk hc1
 have HA := Aside0.mk hA
 clear h2 h3 hc2 hc1 hA hR
 have HB := Aside0.mk (Below.refl w.heap.size w)
 have e1 : decide ((s : Int) < 0) = false := decide_eq_false (by omega)
 have e2 : decide ((n0 : Int) ≤ (s : Int)) = false := decide_eq_false (by omega)
 obtain ⟨XT, hXT⟩ : ∃ y_, y_ = goesR l F n0 (n0 + 1) (startR n0 s) := ⟨_, rfl⟩
 rw [← hXT]
 have HXT := Aside0.mk hXT
 clear hXT
 obtain ⟨X, b⟩ := XT
 have HXT2 := HXT
 cases b with
 | true =>
  go_enter Try.func38, Try.ntmps38
  go_wp2_with (first | ((with_reducible refine gate_dst (N := 3) rfl ?_); refine box_event ?hg (N := 3) ?hd (cs := #[.int .i64 n0, .bool a0_1, .slice A2 l.length c2]) (t := 24) ?hr ?_; (case hd => rfl); (case hg => rfl); (case hr => first | (go_simp; done) | (go_simp; rfl)); intro g3 hg w4 hbox hb; have n0_ := Aside0.mk (below_step HB.out hb); have B3 := Aside0.mk hbox; clear HB; have HB := n0_; clear n0_ hb hbox hg; have hb0 : w4.cell? ⟨g3, 0, none⟩ = some (.int .i64 n0) := (blk_cell B3.out 0).trans rfl; have hb1 : w4.cell? ⟨g3, 1, none⟩ = some (.bool a0_1) := (blk_cell B3.out 1).trans rfl; have hb2 : w4.cell? ⟨g3, 2, none⟩ = some (.slice A2 l.length c2) := (blk_cell B3.out 2).trans rfl) | (go_at_call 96; refine (static_Asked.calls k (n0 : Int) a0_1 A2 c2 l A1 c1 F 0 _ (Kd.C_below H2.out HB.out) HC2.out (Kd.C_below H3.out HB.out) HC1.out HA.out).mono ?_; rintro e_ w5 ⟨rfl, hb⟩; have n0_ := Aside0.mk (below_step HB.out hb); have n1_ := Aside0.mk (blk_below B3.out hb); clear HB B3 hb0 hb1 hb2 hb; have HB := n0_; have B3 := n1_; clear n0_ n1_; have hb0 : w5.cell? ⟨g3, 0, none⟩ = some (.int .i64 (n0 : Int)) := (blk_cell B3.out 0).trans rfl; have hb1 : w5.cell? ⟨g3, 1, none⟩ = some (.bool a0_1) := (blk_cell B3.out 1).trans rfl; have hb2 : w5.cell? ⟨g3, 2, none⟩ = some (.slice A2 l.length c2) := (blk_cell B3.out 2).trans rfl) | (go_at_call 97; refine (from_calls n0 a0_1 A2 c2 l A1 c1 F s _ HR.out hs (Kd.C_below H2.out HB.out) HC2.out (Kd.C_below H3.out HB.out) HC1.out).mono ?_; rw [← HXT.out]; rintro e_ w6 ⟨v0, v1, v2, rfl, hd, hi, hq, hb⟩; obtain ⟨A0, k0, e0⟩ := Kd.R_slice hd; obtain ⟨Ai, ki, ei⟩ := Kd.R_slice hi; obtain ⟨Aq, kq, eq⟩ := Kd.R_slice hq; subst e0; subst ei; subst eq; have m0_ := Aside0.mk (below_step HB.out hb); have HD := Aside0.mk (Kd.R_lower hd HB.out.size); have HI := Aside0.mk (Kd.R_lower hi HB.out.size); clear HB hb0 hb1 hb2 B3 hd hi hq hb; have HB := m0_; clear m0_) | ((with_reducible refine gate_dst (N := 9) rfl ?_); refine box_event ?hg (N := 9) ?hd (cs := #[.slice none 0 0, .slice none 0 0, .slice none 0 0]) (t := 109) ?hr ?_; (case hd => rfl); (case hg => rfl); (case hr => first | (go_simp; done) | (go_simp; rfl)); intro g9 hg w7 hbox hb; have GE9 : Aside0 (w.heap.size ≤ g9) := ⟨by rw [hg]; exact HB.out.size⟩; have m0_ := Aside0.mk (below_step HB.out hb); have m1_ := Aside0.mk (Kd.R_below HD.out hb); have m2_ := Aside0.mk (Kd.R_below HI.out hb); have B9 := Aside0.mk hbox; clear HB HD HI hbox hb hg; have HB := m0_; have HD := m1_; have HI := m2_; clear m0_ m1_ m2_; have z0 : w7.cell? ⟨g9, 0, none⟩ = some (.slice none 0 0) := (blk_cell B9.out 0).trans rfl; have z1 : w7.cell? ⟨g9, 1, none⟩ = some (.slice none 0 0) := (blk_cell B9.out 1).trans rfl; have z2 : w7.cell? ⟨g9, 2, none⟩ = some (.slice none 0 0) := (blk_cell B9.out 2).trans rfl; have f0 := blk_frozen B9.out 0; have f1 := blk_frozen B9.out 1; have f2 := blk_frozen B9.out 2) | fail)
  go_region
  go_wp2_with fail
  first | go_ret | go_ret2 | go_ret3
  refine ⟨.slice A0 X.D.length k0, .slice Ai X.I.length ki, .inl ⟨by first | rfl | trivial, by first | rfl | trivial, ?_, ?_⟩, ?_⟩
  ·exact Kd.R_drew (Kd.R_set (Kd.R_set (Kd.R_set (HD.out) (B9.out) (by decide) 0 (.slice A0 X.D.length k0)) (blk_put (B9.out) 0 (.slice A0 X.D.length k0) rfl) (by decide) 1 (.slice Ai X.I.length ki)) (blk_put (blk_put (B9.out) 0 (.slice A0 X.D.length k0) rfl) 1 (.slice Ai X.I.length ki) rfl) (by decide) 2 (.slice Aq X.B.length kq))
  ·exact Kd.R_drew (Kd.R_set (Kd.R_set (Kd.R_set (HI.out) (B9.out) (by decide) 0 (.slice A0 X.D.length k0)) (blk_put (B9.out) 0 (.slice A0 X.D.length k0) rfl) (by decide) 1 (.slice Ai X.I.length ki)) (blk_put (blk_put (B9.out) 0 (.slice A0 X.D.length k0) rfl) 1 (.slice Ai X.I.length ki) rfl) (by decide) 2 (.slice Aq X.B.length kq))
  ·exact below_drew (below_set (below_set (below_set HB.out GE9.out) GE9.out) GE9.out)
 | false =>
  go_enter Try.func38, Try.ntmps38
  go_wp2_with (first | ((with_reducible refine gate_dst (N := 3) rfl ?_); refine box_event ?hg (N := 3) ?hd (cs := #[.int .i64 n0, .bool a0_1, .slice A2 l.length c2]) (t := 24) ?hr ?_; (case hd => rfl); (case hg => rfl); (case hr => first | (go_simp; done) | (go_simp; rfl)); intro g3 hg w4 hbox hb; have n0_ := Aside0.mk (below_step HB.out hb); have B3 := Aside0.mk hbox; clear HB; have HB := n0_; clear n0_ hb hbox hg; have hb0 : w4.cell? ⟨g3, 0, none⟩ = some (.int .i64 n0) := (blk_cell B3.out 0).trans rfl; have hb1 : w4.cell? ⟨g3, 1, none⟩ = some (.bool a0_1) := (blk_cell B3.out 1).trans rfl; have hb2 : w4.cell? ⟨g3, 2, none⟩ = some (.slice A2 l.length c2) := (blk_cell B3.out 2).trans rfl) | (go_at_call 96; refine (static_Asked.calls k (n0 : Int) a0_1 A2 c2 l A1 c1 F 0 _ (Kd.C_below H2.out HB.out) HC2.out (Kd.C_below H3.out HB.out) HC1.out HA.out).mono ?_; rintro e_ w5 ⟨rfl, hb⟩; have n0_ := Aside0.mk (below_step HB.out hb); have n1_ := Aside0.mk (blk_below B3.out hb); clear HB B3 hb0 hb1 hb2 hb; have HB := n0_; have B3 := n1_; clear n0_ n1_; have hb0 : w5.cell? ⟨g3, 0, none⟩ = some (.int .i64 (n0 : Int)) := (blk_cell B3.out 0).trans rfl; have hb1 : w5.cell? ⟨g3, 1, none⟩ = some (.bool a0_1) := (blk_cell B3.out 1).trans rfl; have hb2 : w5.cell? ⟨g3, 2, none⟩ = some (.slice A2 l.length c2) := (blk_cell B3.out 2).trans rfl) | (go_at_call 97; refine (from_calls n0 a0_1 A2 c2 l A1 c1 F s _ HR.out hs (Kd.C_below H2.out HB.out) HC2.out (Kd.C_below H3.out HB.out) HC1.out).mono ?_; rw [← HXT.out]; rintro e_ w6 ⟨v0, v1, v2, rfl, hd, hi, hq, hb⟩; obtain ⟨A0, k0, e0⟩ := Kd.R_slice hd; obtain ⟨Ai, ki, ei⟩ := Kd.R_slice hi; obtain ⟨Aq, kq, eq⟩ := Kd.R_slice hq; subst e0; subst ei; subst eq; have m0_ := Aside0.mk (below_step HB.out hb); have HD := Aside0.mk (Kd.R_lower hd HB.out.size); have HI := Aside0.mk (Kd.R_lower hi HB.out.size); clear HB hb0 hb1 hb2 B3 hd hi hq hb; have HB := m0_; clear m0_) | ((with_reducible refine gate_dst (N := 9) rfl ?_); refine box_event ?hg (N := 9) ?hd (cs := #[.slice none 0 0, .slice none 0 0, .slice none 0 0]) (t := 109) ?hr ?_; (case hd => rfl); (case hg => rfl); (case hr => first | (go_simp; done) | (go_simp; rfl)); intro g9 hg w7 hbox hb; have GE9 : Aside0 (w.heap.size ≤ g9) := ⟨by rw [hg]; exact HB.out.size⟩; have m0_ := Aside0.mk (below_step HB.out hb); have m1_ := Aside0.mk (Kd.R_below HD.out hb); have m2_ := Aside0.mk (Kd.R_below HI.out hb); have B9 := Aside0.mk hbox; clear HB HD HI hbox hb hg; have HB := m0_; have HD := m1_; have HI := m2_; clear m0_ m1_ m2_; have z0 : w7.cell? ⟨g9, 0, none⟩ = some (.slice none 0 0) := (blk_cell B9.out 0).trans rfl; have z1 : w7.cell? ⟨g9, 1, none⟩ = some (.slice none 0 0) := (blk_cell B9.out 1).trans rfl; have z2 : w7.cell? ⟨g9, 2, none⟩ = some (.slice none 0 0) := (blk_cell B9.out 2).trans rfl; have f0 := blk_frozen B9.out 0; have f1 := blk_frozen B9.out 1; have f2 := blk_frozen B9.out 2) | fail)
  first | go_ret | go_ret2 | go_ret3
  exact ⟨.slice none 0 0, .slice none 0 0, .inr ⟨by first | rfl | trivial, by first | rfl | trivial⟩, below_set (below_set (below_set HB.out GE9.out) GE9.out) GE9.out⟩
end Go.Proofs.Ytkcpanpdipmmmaa.H
namespace Go.Proofs.Ytkcpanpdipmmmaa.H
open Go.RowKit Go.Proofs.YtkcpanpdipmmmaaW.PrintWords Go.Proofs.YtkcpanpdipmmmaaW.PrintLast Go.Proofs.YtkcpanpdipmmmaaW.PrintMore Go.Proofs.Ytkcpanpdipmmmaa.P
def setI (n v : Nat) : List Bool := (List.range n).map fun i => decide (i < v)
theorem setI_len (n v : Nat) : (setI n v).length = n := by unfold setI; rw [List.length_map, List.length_range]
theorem setI_zero (n : Nat) : setI n 0 = List.replicate n false := by
 apply List.ext_getElem (by rw [setI_len, List.length_replicate])
 intro i h1 h2
 simp [setI]
theorem setI_set (n v : Nat) : (setI n v).set v true = setI n (v + 1) := by
 apply List.ext_getElem (by rw [List.length_set, setI_len, setI_len])
 intro i h1 h2
 rw [List.getElem_set]
 simp only [setI, List.getElem_map, List.getElem_range]
 by_cases e : v = i
 ·rw [if_pos e]; exact (decide_eq_true (by omega)).symm
 ·rw [if_neg e]
  by_cases c : i < v
  ·rw [decide_eq_true c, decide_eq_true (by omega)]
  ·rw [decide_eq_false c, decide_eq_false (by omega)]
def allR (n : Nat) : Rch := ⟨List.replicate n 0, setI n n, List.replicate n z38, false⟩
theorem allR_ok (n : Nat) : (allR n).Ok n := ⟨by simp [allR], by simp [allR, setI_len], by simp [allR]⟩
set_option maxHeartbeats 1000000 in
set_option maxRecDepth 100000 in
theorem free_no (k : Nat) (a0_0 : Int) (a0_1 : Bool) (A2 : Option Addr) (c2 : Nat) (l : List S74) (A1 : Option Addr) (c1 : Nat) (F : List Int) (t : Int) (w : World) (h2 : Kd.C k74 w A2 l.length l) (hc2 : l.length ≤ c2) (h3 : Kd.C (Kd.int .i64) w A1 F.length F) (hc1 : F.length ≤ c1) (hA : static_Asked.f k a0_0 a0_1 l F = some t) (ht : t ≠ 0) :
  Calls Try.prog 47 #[.agg #[.int .i64 a0_0, .bool a0_1, .slice A2 l.length c2], .slice A1 F.length c1] w fun e w' => e = .returned (.tuple #[.bool false, .int .i64 t]) ∧ Below w.heap.size w w' := by
 have hu24 := Try.underlying24
 have H2 := Aside0.mk h2
 have H3 := Aside0.mk h3
 have HC2 := Aside0.mk hc2
 have HC1 := Aside0.mk hc1
 have HA := Aside0.mk hA
 clear h2 h3 hc2 hc1 hA
 have HB := Aside0.mk (Below.refl w.heap.size w)
 have e1 : (t != 0) = true := by rw [bne_iff_ne]; exact ht
 have e2 : decide (t = 0) = false := decide_eq_false ht
 clear ht
 go_enter Try.func47, Try.ntmps47
 go_wp2_with (first | ((with_reducible refine gate_dst (N := 2) rfl ?_); refine box_event ?hg (N := 2) ?hd (cs := #[.int .i64 a0_0, .bool a0_1, .slice A2 l.length c2]) (t := 24) ?hr ?_; (case hd => rfl); (case hg => rfl); (case hr => first | (go_simp; done) | (go_simp; rfl)); intro g2 hg w4 hbox hb; have n0_ := Aside0.mk (below_step HB.out hb); have B2 := Aside0.mk hbox; clear HB; have HB := n0_; clear n0_ hb hbox hg; have hb0 : w4.cell? ⟨g2, 0, none⟩ = some (.int .i64 a0_0) := (blk_cell B2.out 0).trans rfl; have hb1 : w4.cell? ⟨g2, 1, none⟩ = some (.bool a0_1) := (blk_cell B2.out 1).trans rfl; have hb2 : w4.cell? ⟨g2, 2, none⟩ = some (.slice A2 l.length c2) := (blk_cell B2.out 2).trans rfl) | (go_at_call 96; refine (static_Asked.calls k a0_0 a0_1 A2 c2 l A1 c1 F t _ (Kd.C_below H2.out HB.out) HC2.out (Kd.C_below H3.out HB.out) HC1.out HA.out).mono ?_; rintro e_ w5 ⟨rfl, hb⟩; have n0_ := Aside0.mk (below_step HB.out hb); have n1_ := Aside0.mk (blk_below B2.out hb); clear HB B2 hb0 hb1 hb2 hb; have HB := n0_; have B2 := n1_; clear n0_ n1_; have hb0 : w5.cell? ⟨g2, 0, none⟩ = some (.int .i64 a0_0) := (blk_cell B2.out 0).trans rfl) | fail)
 first | go_ret | go_ret2 | go_ret3
 exact ⟨rfl, HB.out⟩
set_option maxHeartbeats 2000000 in
set_option maxRecDepth 100000 in
theorem free_ok (k : Nat) (n0 : Nat) (a0_1 : Bool) (A2 : Option Addr) (c2 : Nat) (l : List S74) (A1 : Option Addr) (c1 : Nat) (F : List Int) (w : World) (hR : Right l F n0) (h2 : Kd.C k74 w A2 l.length l) (hc2 : l.length ≤ c2) (h3 : Kd.C (Kd.int .i64) w A1 F.length F) (hc1 : F.length ≤ c1) (hA : static_Asked.f k (n0 : Int) a0_1 l F = some 0) :
  Calls Try.prog 47 #[.agg #[.int .i64 n0, .bool a0_1, .slice A2 l.length c2], .slice A1 F.length c1] w fun e w' => e = .returned (.tuple #[.bool (goesR l F n0 (n0 + 1) (allR n0)).2, .int .i64 0]) ∧ Below w.heap.size w w' := by
 obtain ⟨XT, hXT⟩ : ∃ y_, y_ = goesR l F n0 (n0 + 1) (allR n0) := ⟨_, rfl⟩
 rw [← hXT]
 have HXT := Aside0.mk hXT
 clear hXT
 have hu24 := Try.underlying24
 have hu109 := Try.underlying109
 have hn0 : 0 < n0 := hR.pos
 have hn50 : n0 ≤ 50 := hR.fifty
 have HR := Aside0.mk hR
 have H2 := Aside0.mk h2
 have H3 := Aside0.mk h3
 have HC2 := Aside0.mk hc2
 have HC1 := Aside0.mk hc1
 have HA := Aside0.mk hA
 clear hR h2 h3 hc2 hc1 hA
 have HB := Aside0.mk (Below.refl w.heap.size w)
 go_enter Try.func47, Try.ntmps47
 go_wp2_with (first | ((with_reducible refine gate_dst (N := 2) rfl ?_); refine box_event ?hg (N := 2) ?hd (cs := #[.int .i64 n0, .bool a0_1, .slice A2 l.length c2]) (t := 24) ?hr ?_; (case hd => rfl); (case hg => rfl); (case hr => first | (go_simp; done) | (go_simp; rfl)); intro g2 hg w4 hbox hb; have n0_ := Aside0.mk (below_step HB.out hb); have B2 := Aside0.mk hbox; clear HB; have HB := n0_; clear n0_ hb hbox hg; have hb0 : w4.cell? ⟨g2, 0, none⟩ = some (.int .i64 n0) := (blk_cell B2.out 0).trans rfl; have hb1 : w4.cell? ⟨g2, 1, none⟩ = some (.bool a0_1) := (blk_cell B2.out 1).trans rfl; have hb2 : w4.cell? ⟨g2, 2, none⟩ = some (.slice A2 l.length c2) := (blk_cell B2.out 2).trans rfl) | (go_at_call 96; refine (static_Asked.calls k (n0 : Int) a0_1 A2 c2 l A1 c1 F 0 _ (Kd.C_below H2.out HB.out) HC2.out (Kd.C_below H3.out HB.out) HC1.out HA.out).mono ?_; rintro e_ w5 ⟨rfl, hb⟩; have n0_ := Aside0.mk (below_step HB.out hb); have n1_ := Aside0.mk (blk_below B2.out hb); clear HB B2 hb0 hb1 hb2 hb; have HB := n0_; have B2 := n1_; clear n0_ n1_; have hb0 : w5.cell? ⟨g2, 0, none⟩ = some (.int .i64 (n0 : Int)) := (blk_cell B2.out 0).trans rfl) | fail)
 refine start_ (n := 12) (S := fun w' => w'.cell? ⟨g2, 0, none⟩ = some (.int .i64 n0)) (ds := [11]) #[false, false, false, false, false, false, false, false, false, false, false, false] (by kernel_rfl) rfl rfl hb0 (fun hHeld => ?_)
 have m_HB := Aside0.mk (below_step HB.out (below_drew (Below.refl _ _)))
 have m_B2 := Aside0.mk (blk_below B2.out (below_drew (Below.refl _ _)))
 clear hb0 HB B2
 have HB := m_HB
 clear m_HB
 have B2 := m_B2
 clear m_B2
 generalize w5.drew = w14 at hHeld HB B2 ⊢
 have S14 : Aside0 (w.heap.size ≤ w14.heap.size) := ⟨HB.out.size⟩
 have L2 : Aside0 (g2 < w14.heap.size) := ⟨blk_lt B2.out⟩
 refine pure_ (i := 0) (N := some 15) (v := ?_) (a' := ?_) #[true, false, false, false, false, false, false, false, false, false, false, false] rfl rfl (by kernel_rfl) (fun _ _ _ h => h) (Or.inl ⟨by rfl, ?_⟩) ?_ ?_
 rotate_left
 ·intro w'
  go_simp
  with_reducible rfl
 rotate_left
 ·simp only [Act.put, List.setIfInBounds_toArray, List.set_cons_zero, List.set_cons_succ, i64_w, i32_w]
  rfl
 refine pure_ (i := 3) (N := some 18) (v := ?_) (a' := ?_) #[true, false, false, true, false, false, false, false, false, false, false, false] rfl rfl (by kernel_rfl) (fun _ _ _ h => h) (Or.inl ⟨by rfl, ?_⟩) ?_ ?_
 rotate_left
 ·intro w'
  go_simp
  with_reducible rfl
 rotate_left
 ·simp only [Act.put, List.setIfInBounds_toArray, List.set_cons_zero, List.set_cons_succ, i64_w, i32_w]
  rfl
 refine pure_ (i := 6) (N := some 21) (v := ?_) (a' := ?_) #[true, false, false, true, false, false, true, false, false, false, false, false] rfl rfl (by kernel_rfl) (fun _ _ _ h => h) (Or.inl ⟨by rfl, ?_⟩) ?_ ?_
 rotate_left
 ·intro w'
  go_simp
  with_reducible rfl
 rotate_left
 ·simp only [Act.put, List.setIfInBounds_toArray, List.set_cons_zero, List.set_cons_succ, i64_w, i32_w]
  rfl
 refine take_ (i := 1) (N := some 16) (v := ?_) (a' := ?_) #[true, true, false, true, false, false, true, false, false, false, false, false] rfl rfl (by kernel_rfl) (fun _ _ _ h => h) (Or.inl ⟨by rfl, ?_⟩) hHeld ?_ ?_
 rotate_left
 ·rintro w' s0
  go_simp
  with_reducible rfl
 rotate_left
 ·simp only [Act.put, List.setIfInBounds_toArray, List.set_cons_zero, List.set_cons_succ, i64_w, i32_w]
  rfl
 refine take_ (i := 4) (N := some 19) (v := ?_) (a' := ?_) #[true, true, false, true, true, false, true, false, false, false, false, false] rfl rfl (by kernel_rfl) (fun _ _ _ h => h) (Or.inl ⟨by rfl, ?_⟩) hHeld ?_ ?_
 rotate_left
 ·rintro w' s0
  go_simp
  with_reducible rfl
 rotate_left
 ·simp only [Act.put, List.setIfInBounds_toArray, List.set_cons_zero, List.set_cons_succ, i64_w, i32_w]
  rfl
 refine take_ (i := 7) (N := some 22) (v := ?_) (a' := ?_) #[true, true, false, true, true, false, true, true, false, false, false, false] rfl rfl (by kernel_rfl) (fun _ _ _ h => h) (Or.inl ⟨by rfl, ?_⟩) hHeld ?_ ?_
 rotate_left
 ·rintro w' s0
  go_simp
  with_reducible rfl
 rotate_left
 ·simp only [Act.put, List.setIfInBounds_toArray, List.set_cons_zero, List.set_cons_succ, i64_w, i32_w]
  rfl
 refine join_ (σ := Value × Value × Value × Nat) 1 #[true, true, true, true, true, true, true, true, true, true, true, false] (fun s_ => [(17, s_.1), (20, s_.2.1), (23, s_.2.2.1), (24, .agg #[s_.1, s_.2.1, s_.2.2.1]), (7, .pointer (some ⟨s_.2.2.2, 0, none⟩))]) (fun s_ w' => w'.cell? ⟨g2, 0, none⟩ = some (.int .i64 n0) ∧ Below w14.heap.size w14 w' ∧ Kd.R (Kd.int .i64) 3 w' w14.heap.size (fun _ => True) s_.1 (List.replicate n0 0) ∧ Kd.R Kd.bool 4 w' w14.heap.size (fun _ => True) s_.2.1 (List.replicate n0 false) ∧ Kd.R k38 38 w' w14.heap.size (fun _ => True) s_.2.2.1 (List.replicate n0 z38) ∧ w14.heap.size ≤ s_.2.2.2 ∧ w'.heap[s_.2.2.2]? = some (.cells #[.slice none 0 0, .slice none 0 0, .slice none 0 0] 109 (0, 0))) ?_ ?_
 rotate_left
 ·intro hCont
  refine makers_ (fuel := 2) 4 #[true, true, true, true, true, true, true, true, true, false, true, false] [10] #[true, true, true, true, true, true, true, true, true, false, false, false] [⟨2, 17, (fun v w' => Kd.R (Kd.int .i64) 3 w' w14.heap.size (fun _ => True) v (List.replicate n0 0))⟩, ⟨5, 20, (fun v w' => Kd.R Kd.bool 4 w' w14.heap.size (fun _ => True) v (List.replicate n0 false))⟩, ⟨8, 23, (fun v w' => Kd.R k38 38 w' w14.heap.size (fun _ => True) v (List.replicate n0 z38))⟩, ⟨10, 7, (fun v w' => ∃ g, v = .pointer (some ⟨g, 0, none⟩) ∧ w14.heap.size ≤ g ∧ w'.heap[g]? = some (.cells #[.slice none 0 0, .slice none 0 0, .slice none 0 0] 109 (0, 0)))⟩] rfl (by simp) (by simp) ?_ ?_ (by kernel_rfl) hHeld ?_ ?_
  ·intro m hm
   simp only [List.mem_cons, List.not_mem_nil, or_false] at hm
   rcases hm with rfl | rfl | rfl | rfl
   ·refine ⟨_, rfl, rfl, by simp, fun a' w' K he hS hb hK => ?_⟩
    refine Kd.R_make_step (Kd.int .i64) (w0 := w') w14.heap.size 3 (by rfl) (N := 17) rfl 25 (.tmp 16) (.tmp 16) rfl (n0 : Int) ((he 16 (by simp)).trans rfl) ((he 16 (by simp)).trans rfl) Try.underlying25 (.int .i64 0) 8 info3 rfl (by decide) (by omega) 0 (ok := fun _ => True) (okp := fun _ => False) ?hz (fun _ hk => hk.elim) trivial (by omega) (by rw [Int.toNat_natCast]; omega) (Below.refl _ _) hb.size (fun v1 w1 hr hb1 hg hat => ?_)
    case hz => rfl
    rw [Int.toNat_natCast] at hr
    have hbb : Below w'.heap.size w' w1 := ⟨hg.os, hg.tape, hg.output, hg.size, fun k hk => hg.block k hk (by simp)⟩
    exact hK v1 w1 (pw_cell_below hbb hS) hbb hr
   ·refine ⟨_, rfl, rfl, by simp, fun a' w' K he hS hb hK => ?_⟩
    refine Kd.R_make_step Kd.bool (w0 := w') w14.heap.size 4 (by rfl) (N := 20) rfl 26 (.tmp 19) (.tmp 19) rfl (n0 : Int) ((he 19 (by simp)).trans rfl) ((he 19 (by simp)).trans rfl) Try.underlying26 (.bool false) 1 info4 rfl (by decide) (by omega) false (ok := fun _ => True) (okp := fun _ => False) ?hz (fun _ hk => hk.elim) trivial (by omega) (by rw [Int.toNat_natCast]; omega) (Below.refl _ _) hb.size (fun v1 w1 hr hb1 hg hat => ?_)
    case hz => rfl
    rw [Int.toNat_natCast] at hr
    have hbb : Below w'.heap.size w' w1 := ⟨hg.os, hg.tape, hg.output, hg.size, fun k hk => hg.block k hk (by simp)⟩
    exact hK v1 w1 (pw_cell_below hbb hS) hbb hr
   ·refine ⟨_, rfl, rfl, by simp, fun a' w' K he hS hb hK => ?_⟩
    refine Kd.R_make_step k38 (w0 := w') w14.heap.size 38 (by rfl) (N := 23) rfl 34 (.tmp 22) (.tmp 22) rfl (n0 : Int) ((he 22 (by simp)).trans rfl) ((he 22 (by simp)).trans rfl) Try.underlying34 (.agg #[(.int .i64 0), (.bool false)]) 16 info38 rfl (by decide) (by omega) z38 (ok := fun _ => True) (okp := fun _ => False) ?hz (fun _ hk => hk.elim) trivial (by omega) (by rw [Int.toNat_natCast]; omega) (Below.refl _ _) hb.size (fun v1 w1 hr hb1 hg hat => ?_)
    case hz => exact k38_mkM _ _ _ z38
    rw [Int.toNat_natCast] at hr
    have hbb : Below w'.heap.size w' w1 := ⟨hg.os, hg.tape, hg.output, hg.size, fun k hk => hg.block k hk (by simp)⟩
    exact hK v1 w1 (pw_cell_below hbb hS) hbb hr
   ·refine ⟨_, rfl, rfl, by simp, fun a' w' K he hS hb hK => ?_⟩
    refine box_step ?hg (N := 7) ?hd (cs := #[.slice none 0 0, .slice none 0 0, .slice none 0 0]) (t := 109) ?hr ?_; (case hd => rfl); (case hg => rfl); (case hr => first | (go_simp; done) | (go_simp; rfl))
    intro g hg w1 hbox hbb
    exact hK _ w1 (pw_cell_below hbb hS) hbb ⟨g, rfl, by rw [hg]; exact hb.size, hbox⟩
  ·intro m hm
   simp only [List.mem_cons, List.not_mem_nil, or_false] at hm
   rcases hm with rfl | rfl | rfl | rfl
   ·exact fun v w1 w2 hb hg => Kd.R_below hg hb
   ·exact fun v w1 w2 hb hg => Kd.R_below hg hb
   ·exact fun v w1 w2 hb hg => Kd.R_below hg hb
   ·rintro v w1 w2 hb ⟨g, e, h1, h2⟩
    exact ⟨g, e, h1, blk_below h2 hb⟩
  ·skip
   intro vs w15 hb15 hHeld hG
   have p0 := hG _ (List.mem_cons_self ..)
   have p1 := hG _ (List.mem_cons_of_mem _ (List.mem_cons_self ..))
   have p2 := hG _ (List.mem_cons_of_mem _ (List.mem_cons_of_mem _ (List.mem_cons_self ..)))
   have p3 := hG _ (List.mem_cons_of_mem _ (List.mem_cons_of_mem _ (List.mem_cons_of_mem _ (List.mem_cons_self ..))))
   clear hG
   dsimp only at p0 p1 p2
   obtain ⟨A0, k0, e0⟩ := Kd.R_slice p0
   obtain ⟨A1_, k1, e1⟩ := Kd.R_slice p1
   obtain ⟨A2_, k2, e2⟩ := Kd.R_slice p2
   rw [List.length_replicate] at e0 e1 e2
   obtain ⟨g_, e3, p3a, p3b⟩ := p3
   dsimp only at e3
   refine norm_ (a' := ?_) ?_ ?_
   rotate_left
   ·simp only [List.map_cons, List.map_nil, List.filter_cons, List.filter_nil, putAll, Act.put, List.setIfInBounds_toArray, List.set_cons_zero, List.set_cons_succ, e0, e1, e2, e3]
    rfl
   rw [e0] at p0
   rw [e1] at p1
   rw [e2] at p2
   refine pure_ (i := 9) (N := some 24) (v := ?_) (a' := ?_) #[true, true, true, true, true, true, true, true, true, true, true, false] rfl rfl (by kernel_rfl) (fun _ _ _ h => h) (Or.inl ⟨by rfl, ?_⟩) ?_ ?_
   rotate_left
   ·intro w'
    go_simp
    with_reducible rfl
   rotate_left
   ·simp only [Act.put, List.setIfInBounds_toArray, List.set_cons_zero, List.set_cons_succ, i64_w, i32_w]
    rfl
   exact norm_ (by (simp only [putAll, Act.put, List.setIfInBounds_toArray, List.set_cons_zero, List.set_cons_succ]) <;> rfl) (hCont (.slice A0 n0 k0, .slice A1_ n0 k1, .slice A2_ n0 k2, g_) _ ⟨hHeld, hb15, p0, p1, p2, p3a, p3b⟩)
  ·skip
   intro vs w15 hb15 hHeld hG
   have p0 := hG _ (List.mem_cons_self ..) (by simp)
   have p1 := hG _ (List.mem_cons_of_mem _ (List.mem_cons_self ..)) (by simp)
   have p2 := hG _ (List.mem_cons_of_mem _ (List.mem_cons_of_mem _ (List.mem_cons_self ..))) (by simp)
   clear hG
   dsimp only at p0 p1 p2
   obtain ⟨A0, k0, e0⟩ := Kd.R_slice p0
   obtain ⟨A1_, k1, e1⟩ := Kd.R_slice p1
   obtain ⟨A2_, k2, e2⟩ := Kd.R_slice p2
   rw [List.length_replicate] at e0 e1 e2
   show wpAnyLast _ _ _ _ _ _ 3 _ _ _
   refine norm_ (a' := ?_) ?_ ?_
   rotate_left
   ·show putAll _ [(17, vs 17), (20, vs 20), (23, vs 23)] = _
    simp only [e0, e1, e2, putAll, Act.put, List.setIfInBounds_toArray, List.set_cons_zero, List.set_cons_succ]
    rfl
   rw [e0] at p0
   rw [e1] at p1
   rw [e2] at p2
   refine pure_ (i := 9) (N := some 24) (v := ?_) (a' := ?_) #[true, true, true, true, true, true, true, true, true, true, false, false] rfl rfl (by kernel_rfl) (fun _ _ _ h => h) (Or.inl ⟨by rfl, ?_⟩) ?_ ?_
   rotate_left
   ·intro w'
    go_simp
    with_reducible rfl
   rotate_left
   ·simp only [Act.put, List.setIfInBounds_toArray, List.set_cons_zero, List.set_cons_succ, i64_w, i32_w]
    rfl
   refine one_ (i := 10) (N := some 7) #[true, true, true, true, true, true, true, true, true, true, true, false] rfl rfl (by kernel_rfl) (by decide) (fun K hK => ?_)
   refine box_step ?hg (N := 7) ?hd (cs := #[.slice none 0 0, .slice none 0 0, .slice none 0 0]) (t := 109) ?hr ?_; (case hd => rfl); (case hg => rfl); (case hr => first | (go_simp; done) | (go_simp; rfl))
   intro g_ hg w16 hbox hbb
   refine hK.out _ _ (pw_cell_below hbb hHeld) (fun hHeld => ?_)
   exact norm_ (by (simp only [putAll, Act.put, List.setIfInBounds_toArray, List.set_cons_zero, List.set_cons_succ]) <;> rfl) (hCont (.slice A0 n0 k0, .slice A1_ n0 k1, .slice A2_ n0 k2, g_) _ ⟨hHeld, below_then hb15 hb15.size hbb, Kd.R_below p0 hbb, Kd.R_below p1 hbb, Kd.R_below p2 hbb, by rw [hg]; exact hb15.size, hbox⟩)
 rintro ⟨v0, v1, v2, g7⟩ w15 ⟨hHeld, hb15, p0, p1, p2, p3a, p3b⟩
 dsimp only at p0 p1 p2 p3a p3b
 refine norm_ (a' := ?_) ?_ ?_
 rotate_left
 ·simp only [putAll, Act.put, List.setIfInBounds_toArray, List.set_cons_zero, List.set_cons_succ]
  rfl
 have m_HB := Aside0.mk (below_step HB.out hb15)
 have m_B2 := Aside0.mk (blk_below B2.out hb15)
 clear hb15 HB B2
 have HB := m_HB
 clear m_HB
 have B2 := m_B2
 clear m_B2
 obtain ⟨gd, cd, e0, q0, q0b, _, _⟩ := Kd.R_form p0 (by rw [List.length_replicate]; exact hn0)
 obtain ⟨gi, ci, e1, q1, q1b, _, _⟩ := Kd.R_form p1 (by rw [List.length_replicate]; exact hn0)
 obtain ⟨gb, cb, e2, q2, q2b, _, _⟩ := Kd.R_form p2 (by rw [List.length_replicate]; exact hn0)
 rw [List.length_replicate] at e0 e1 e2
 subst e0
 subst e1
 subst e2
 have HP0 := Aside0.mk p0
 have HP1 := Aside0.mk p1
 have HP2 := Aside0.mk p2
 have HP3 := Aside0.mk p3b
 have GP3 := Aside0.mk p3a
 have GP0 := Aside0.mk q0
 have GP1 := Aside0.mk q1
 have GP2 := Aside0.mk q2
 clear p0 p1 p2 p3a p3b q0 q1 q2 q0b q1b q2b
 refine last_ (i := 11) (N := none) #[true, true, true, true, true, true, true, true, true, true, true, true] rfl rfl (by kernel_rfl) (by decide) (fun K hK => ?_)
 have hs0 : w15.cell? ⟨g7, 0, none⟩ = some (.slice none 0 0) := (blk_cell HP3.out 0).trans rfl
 have hfs0 := blk_frozen HP3.out 0
 have hs1 : w15.cell? ⟨g7, 1, none⟩ = some (.slice none 0 0) := (blk_cell HP3.out 1).trans rfl
 have hfs1 := blk_frozen HP3.out 1
 have hs2 : w15.cell? ⟨g7, 2, none⟩ = some (.slice none 0 0) := (blk_cell HP3.out 2).trans rfl
 have hfs2 := blk_frozen HP3.out 2
 refine skip_ (w1 := (((w15.setCell ⟨g7, 0, none⟩ (.slice (some ⟨gd, 0, none⟩) n0 cd)).setCell ⟨g7, 1, none⟩ (.slice (some ⟨gi, 0, none⟩) n0 ci)).setCell ⟨g7, 2, none⟩ (.slice (some ⟨gb, 0, none⟩) n0 cb))) (by rfl) rfl ?_ ?_
 ·go_simp
 refine hK.out _ _ ?_
 clear hK K hs0 hs1 hs2 hfs0 hfs1 hfs2 hHeld
 have m0_ := Aside0.mk (Kd.R_set (Kd.R_set (Kd.R_set HP0.out HP3.out (by decide) 0 (.slice (some ⟨gd, 0, none⟩) n0 cd)) (blk_put HP3.out 0 (.slice (some ⟨gd, 0, none⟩) n0 cd) rfl) (by decide) 1 (.slice (some ⟨gi, 0, none⟩) n0 ci)) (blk_put (blk_put HP3.out 0 (.slice (some ⟨gd, 0, none⟩) n0 cd) rfl) 1 (.slice (some ⟨gi, 0, none⟩) n0 ci) rfl) (by decide) 2 (.slice (some ⟨gb, 0, none⟩) n0 cb))
 have m1_ := Aside0.mk (Kd.R_set (Kd.R_set (Kd.R_set HP1.out HP3.out (by decide) 0 (.slice (some ⟨gd, 0, none⟩) n0 cd)) (blk_put HP3.out 0 (.slice (some ⟨gd, 0, none⟩) n0 cd) rfl) (by decide) 1 (.slice (some ⟨gi, 0, none⟩) n0 ci)) (blk_put (blk_put HP3.out 0 (.slice (some ⟨gd, 0, none⟩) n0 cd) rfl) 1 (.slice (some ⟨gi, 0, none⟩) n0 ci) rfl) (by decide) 2 (.slice (some ⟨gb, 0, none⟩) n0 cb))
 have m2_ := Aside0.mk (Kd.R_set (Kd.R_set (Kd.R_set HP2.out HP3.out (by decide) 0 (.slice (some ⟨gd, 0, none⟩) n0 cd)) (blk_put HP3.out 0 (.slice (some ⟨gd, 0, none⟩) n0 cd) rfl) (by decide) 1 (.slice (some ⟨gi, 0, none⟩) n0 ci)) (blk_put (blk_put HP3.out 0 (.slice (some ⟨gd, 0, none⟩) n0 cd) rfl) 1 (.slice (some ⟨gi, 0, none⟩) n0 ci) rfl) (by decide) 2 (.slice (some ⟨gb, 0, none⟩) n0 cb))
 have m3_ := Aside0.mk (blk_put (blk_put (blk_put HP3.out 0 (.slice (some ⟨gd, 0, none⟩) n0 cd) rfl) 1 (.slice (some ⟨gi, 0, none⟩) n0 ci) rfl) 2 (.slice (some ⟨gb, 0, none⟩) n0 cb) rfl)
 clear m0_ m1_ m2_ m3_
 obtain ⟨w16, hw16⟩ : ∃ x_, x_ = (((w15.setCell ⟨g7, 0, none⟩ (.slice (some ⟨gd, 0, none⟩) n0 cd)).setCell ⟨g7, 1, none⟩ (.slice (some ⟨gi, 0, none⟩) n0 ci)).setCell ⟨g7, 2, none⟩ (.slice (some ⟨gb, 0, none⟩) n0 cb)) := ⟨_, rfl⟩
 have m0_ : Aside0 (Kd.R (Kd.int .i64) 3 w16 w14.heap.size (fun _ => True) (.slice (some ⟨gd, 0, none⟩) n0 cd) (List.replicate n0 0)) := ⟨by rw [hw16]; exact Kd.R_set (Kd.R_set (Kd.R_set (HP0.out) (HP3.out) (by decide) 0 (.slice (some ⟨gd, 0, none⟩) n0 cd)) (blk_put (HP3.out) 0 (.slice (some ⟨gd, 0, none⟩) n0 cd) rfl) (by decide) 1 (.slice (some ⟨gi, 0, none⟩) n0 ci)) (blk_put (blk_put (HP3.out) 0 (.slice (some ⟨gd, 0, none⟩) n0 cd) rfl) 1 (.slice (some ⟨gi, 0, none⟩) n0 ci) rfl) (by decide) 2 (.slice (some ⟨gb, 0, none⟩) n0 cb)⟩
 have m1_ : Aside0 (Kd.R Kd.bool 4 w16 w14.heap.size (fun _ => True) (.slice (some ⟨gi, 0, none⟩) n0 ci) (List.replicate n0 false)) := ⟨by rw [hw16]; exact Kd.R_set (Kd.R_set (Kd.R_set (HP1.out) (HP3.out) (by decide) 0 (.slice (some ⟨gd, 0, none⟩) n0 cd)) (blk_put (HP3.out) 0 (.slice (some ⟨gd, 0, none⟩) n0 cd) rfl) (by decide) 1 (.slice (some ⟨gi, 0, none⟩) n0 ci)) (blk_put (blk_put (HP3.out) 0 (.slice (some ⟨gd, 0, none⟩) n0 cd) rfl) 1 (.slice (some ⟨gi, 0, none⟩) n0 ci) rfl) (by decide) 2 (.slice (some ⟨gb, 0, none⟩) n0 cb)⟩
 have m2_ : Aside0 (Kd.R k38 38 w16 w14.heap.size (fun _ => True) (.slice (some ⟨gb, 0, none⟩) n0 cb) (List.replicate n0 z38)) := ⟨by rw [hw16]; exact Kd.R_set (Kd.R_set (Kd.R_set (HP2.out) (HP3.out) (by decide) 0 (.slice (some ⟨gd, 0, none⟩) n0 cd)) (blk_put (HP3.out) 0 (.slice (some ⟨gd, 0, none⟩) n0 cd) rfl) (by decide) 1 (.slice (some ⟨gi, 0, none⟩) n0 ci)) (blk_put (blk_put (HP3.out) 0 (.slice (some ⟨gd, 0, none⟩) n0 cd) rfl) 1 (.slice (some ⟨gi, 0, none⟩) n0 ci) rfl) (by decide) 2 (.slice (some ⟨gb, 0, none⟩) n0 cb)⟩
 have m3_ : Aside0 (w16.heap[g7]? = some (.cells #[.slice (some ⟨gd, 0, none⟩) n0 cd, .slice (some ⟨gi, 0, none⟩) n0 ci, .slice (some ⟨gb, 0, none⟩) n0 cb] 109 (0, 0))) := ⟨by rw [hw16]; exact blk_put (blk_put (blk_put (HP3.out) 0 (.slice (some ⟨gd, 0, none⟩) n0 cd) rfl) 1 (.slice (some ⟨gi, 0, none⟩) n0 ci) rfl) 2 (.slice (some ⟨gb, 0, none⟩) n0 cb) rfl⟩
 have m4_ : Aside0 (w16.heap[g2]? = some (.cells #[.int .i64 n0, .bool a0_1, .slice A2 l.length c2] 24 (0, 0))) := ⟨by rw [hw16]; exact blk_far (blk_far (blk_far B2.out (by show _ ≠ g7; have := L2.out; have := GP3.out; omega) _) (by show _ ≠ g7; have := L2.out; have := GP3.out; omega) _) (by show _ ≠ g7; have := L2.out; have := GP3.out; omega) _⟩
 have m8_ : Aside0 (Below w.heap.size w w16) := ⟨by rw [hw16]; exact below_set (below_set (below_set HB.out (Nat.le_trans S14.out GP3.out)) (Nat.le_trans S14.out GP3.out)) (Nat.le_trans S14.out GP3.out)⟩
 rw [← hw16]
 clear hw16 HP0 HP1 HP2 HP3 B2 HB
 have HD := m0_
 clear m0_
 have HI := m1_
 clear m1_
 have HQ := m2_
 clear m2_
 have B7 := m3_
 clear m3_
 have B2 := m4_
 clear m4_
 have HB := m8_
 clear m8_
 rw [← setI_zero] at HI
 refine done_ (by kernel_rfl) ?_
 have hq1 : w16.cell? ⟨g7, 1, none⟩ = some (.slice (some ⟨gi, 0, none⟩) n0 ci) := (blk_cell B7.out 1).trans rfl
 go_wp2_with fail
 clear hq1
 go_loopw [28] (fun v28 w' => ∃ v : Nat, v ≤ n0 ∧ v28 = .int .i64 v ∧ Aside0 (Kd.R (Kd.int .i64) 3 w' w14.heap.size (fun _ => True) (.slice (some ⟨gd, 0, none⟩) n0 cd) (List.replicate n0 0)) ∧ Aside0 (Kd.R Kd.bool 4 w' w14.heap.size (fun _ => True) (.slice (some ⟨gi, 0, none⟩) n0 ci) (setI n0 v)) ∧ Aside0 (Kd.R k38 38 w' w14.heap.size (fun _ => True) (.slice (some ⟨gb, 0, none⟩) n0 cb) (List.replicate n0 z38)) ∧ Aside0 (w'.heap[g7]? = some (.cells #[.slice (some ⟨gd, 0, none⟩) n0 cd, .slice (some ⟨gi, 0, none⟩) n0 ci, .slice (some ⟨gb, 0, none⟩) n0 cb] 109 (0, 0))) ∧ Aside0 (w'.heap[g2]? = some (.cells #[.int .i64 n0, .bool a0_1, .slice A2 l.length c2] 24 (0, 0))) ∧ Aside0 (Below w.heap.size w w')) (fun v28 _ => n0 - (intOf v28).toNat)
 case atStart => exact ⟨0, Nat.zero_le _, rfl, HD, HI, HQ, B7, B2, HB⟩
 case round =>
  clear HD HI HQ B7 B2 HB
  obtain ⟨v, hv, rfl, HD, HI, HQ, B7, B2, HB⟩ := hrel
  by_cases hlt : v < n0
  ·have hps : 0 ≤ ((v : Nat) : Int) := by omega
   have hqs : ((v : Nat) : Int) < (n0 : Int) := by omega
   have c29 : decide ((v : Int) < (n0 : Int)) = true := decide_eq_true hqs
   have hq1 : wr.cell? ⟨g7, 1, none⟩ = some (.slice (some ⟨gi, 0, none⟩) n0 ci) := (blk_cell B7.out 1).trans rfl
   obtain ⟨ads, eas, hcs⟩ := Kd.at_bool (Kd.R_reads' HI.out).2.2 (v : Int) hps (by rw [setI_len]; exact hqs)
   cases eas
   simp only [Int.toNat_natCast, add_plain] at hcs
   obtain ⟨_, _, _, _, hfs_⟩ := Kd.R_elem HI.out false (v : Int) hps hqs
   have hfs := hfs_ 0
   simp only [Int.toNat_natCast, Nat.add_zero] at hfs
   (try rw [show Kd.bool.sz = 1 from rfl, Nat.mul_one] at hfs)
   clear hfs_
   have P_ := Kd.R_putg HI.out (v : Int) true
   simp only [Int.toNat_natCast] at P_
   rw [setI_set n0 v] at P_
   have HPU := Aside0.mk P_
   clear P_
   go_wp2_with fail
   go_roundw
   case rel => exact ⟨v + 1, by omega, by first | rfl | go_num, ⟨Kd.R_over' HD.out (Kd.R_typed HI.out) (by decide) HPU.out.2⟩, ⟨HPU.out.1⟩, ⟨Kd.R_over' HQ.out (Kd.R_typed HI.out) (by decide) HPU.out.2⟩, ⟨blk_grown B7.out HPU.out.2 (Kd.R_ne HI.out B7.out (by decide))⟩, ⟨blk_grown B2.out HPU.out.2 (Kd.R_ne HI.out B2.out (by decide))⟩, ⟨HB.out.grown HPU.out.2 HB.out.size (fun k hk => by injection hk with hk; subst hk; exact Nat.le_trans S14.out GP1.out)⟩⟩
   case measure => simp [intOf] <;> omega
  ·have ev : n0 = v := by omega
   subst ev
   have c29 : decide ((n0 : Int) < (n0 : Int)) = false := decide_eq_false (by omega)
   go_wp2_with fail
   refine start_ (n := 7) (S := fun w' => w'.cell? ⟨g7, 0, none⟩ = some (.slice (some ⟨gd, 0, none⟩) n0 cd) ∧ w'.cell? ⟨g7, 1, none⟩ = some (.slice (some ⟨gi, 0, none⟩) n0 ci) ∧ w'.cell? ⟨g7, 2, none⟩ = some (.slice (some ⟨gb, 0, none⟩) n0 cb) ∧ w'.cell? ⟨g2, 0, none⟩ = some (.int .i64 n0) ∧ w'.cell? ⟨g2, 1, none⟩ = some (.bool a0_1) ∧ w'.cell? ⟨g2, 2, none⟩ = some (.slice A2 l.length c2)) (ds := []) #[false, false, false, false, false, false, false] (by kernel_rfl) rfl rfl ⟨(blk_cell B7.out 0).trans rfl, (blk_cell B7.out 1).trans rfl, (blk_cell B7.out 2).trans rfl, (blk_cell B2.out 0).trans rfl, (blk_cell B2.out 1).trans rfl, (blk_cell B2.out 2).trans rfl⟩ (fun hHeld => ?_)
   have m0_ := Aside0.mk (Kd.R_drew HD.out)
   have m1_ := Aside0.mk (Kd.R_drew HI.out)
   have m2_ := Aside0.mk (Kd.R_drew HQ.out)
   have m3_ := Aside0.mk (blk_below B7.out (below_drew (Below.refl _ _)))
   have m4_ := Aside0.mk (blk_below B2.out (below_drew (Below.refl _ _)))
   have m5_ := Aside0.mk (below_drew HB.out)
   clear HD HI HQ B7 B2 HB
   have HD := m0_
   clear m0_
   have HI := m1_
   clear m1_
   have HQ := m2_
   clear m2_
   have B7 := m3_
   clear m3_
   have B2 := m4_
   clear m4_
   have HB := m5_
   clear m5_
   generalize wr.drew = w18 at hHeld HD HI HQ B7 B2 HB ⊢
   refine take_ (i := 0) (N := some 36) (v := ?_) (a' := ?_) #[true, false, false, false, false, false, false] rfl rfl (by kernel_rfl) (fun _ _ _ h => h) (Or.inl ⟨by rfl, ?_⟩) hHeld ?_ ?_
   rotate_left
   ·rintro w' ⟨s0, s1, s2, s3, s4, s5⟩
    go_simp
    with_reducible rfl
   rotate_left
   ·simp only [Act.put, List.setIfInBounds_toArray, List.set_cons_zero, List.set_cons_succ, i64_w, i32_w]
    rfl
   refine pure_ (i := 1) (N := some 37) (v := ?_) (a' := ?_) #[true, true, false, false, false, false, false] rfl rfl (by kernel_rfl) (fun _ _ _ h => h) (Or.inl ⟨by rfl, ?_⟩) ?_ ?_
   rotate_left
   ·intro w'
    go_simp
    with_reducible rfl
   rotate_left
   ·simp only [Act.put, List.setIfInBounds_toArray, List.set_cons_zero, List.set_cons_succ, i64_w, i32_w]
    rfl
   refine take_ (i := 3) (N := some 39) (v := ?_) (a' := ?_) #[true, true, false, true, false, false, false] rfl rfl (by kernel_rfl) (fun _ _ _ h => h) (Or.inl ⟨by rfl, ?_⟩) hHeld ?_ ?_
   rotate_left
   ·rintro w' ⟨s0, s1, s2, s3, s4, s5⟩
    go_simp
    with_reducible rfl
   rotate_left
   ·simp only [Act.put, List.setIfInBounds_toArray, List.set_cons_zero, List.set_cons_succ, i64_w, i32_w]
    rfl
   refine one_ (i := 2) (N := some 38) #[true, true, true, true, false, false, false] rfl rfl (by kernel_rfl) (by decide) (fun K hK => ?_)
   refine goes_ Try.func101 (by kernel_rfl) rfl #[.agg #[.int .i64 n0, .bool a0_1, .slice A2 l.length c2], .slice A1 F.length c1] (by rfl) rfl rfl (by (try simp only [List.map_toArray, List.map_cons, List.map_nil]); first | done | rfl) ?_
   refine (at_calls n0 a0_1 A2 c2 l A1 c1 F.length _ (Kd.C_below H2.out HB.out) HC2.out (by omega) (by omega) (by have := HR.out.arcs; omega) (fun k hk => (HR.out.ends k hk).1) (fun k hk => (HR.out.ends k hk).2)).mono ?_
   rintro e w19 ⟨vr, rfl, hS, hb⟩
   obtain ⟨A4, c4, e4⟩ := Kd.S_slice hS
   subst e4
   rw [rowsAt_len] at hS ⊢
   refine ⟨_, rfl, ?_⟩
   have X0 : Aside0 (gd < w18.heap.size) := ⟨Kd.R_lt HD.out _ rfl⟩
   have X1 : Aside0 (gi < w18.heap.size) := ⟨Kd.R_lt HI.out _ rfl⟩
   have X2 : Aside0 (gb < w18.heap.size) := ⟨Kd.R_lt HQ.out _ rfl⟩
   have HV := Aside0.mk (Kd.V_mono (Kd.S_V (base' := 0) (Kd.S_bound hS)) (fun k hk => (show w18.heap.size ≤ k from hk.2.1)))
   have m0_ := Aside0.mk (Kd.R_below HD.out hb)
   have m1_ := Aside0.mk (Kd.R_below HI.out hb)
   have m2_ := Aside0.mk (Kd.R_below HQ.out hb)
   have m3_ := Aside0.mk (blk_below B7.out hb)
   have m4_ := Aside0.mk (blk_below B2.out hb)
   have m5_ := Aside0.mk (below_step HB.out hb)
   clear HD HI HQ B7 B2 HB
   have HD := m0_
   clear m0_
   have HI := m1_
   clear m1_
   have HQ := m2_
   clear m2_
   have B7 := m3_
   clear m3_
   have B2 := m4_
   clear m4_
   have HB := m5_
   clear m5_
   clear hS hb
   refine hK.out _ _ ⟨(blk_cell B7.out 0).trans rfl, (blk_cell B7.out 1).trans rfl, (blk_cell B7.out 2).trans rfl, (blk_cell B2.out 0).trans rfl, (blk_cell B2.out 1).trans rfl, (blk_cell B2.out 2).trans rfl⟩ (fun hHeld => ?_)
   clear hK K
   refine norm_ (a' := ?_) ?_ ?_
   rotate_left
   ·show Act.put _ (some 38) _ = _
    simp only [Act.put, List.setIfInBounds_toArray, List.set_cons_zero, List.set_cons_succ, i64_w, i32_w]
    rfl
   refine one_ (i := 4) (N := some 40) #[true, true, true, true, true, false, false] rfl rfl (by kernel_rfl) (by decide) (fun K hK => ?_)
   refine goes_ Try.func100 (by kernel_rfl) rfl #[.agg #[.int .i64 n0, .bool a0_1, .slice A2 l.length c2, .slice A1 F.length c1, .slice A4 n0 c4], .agg #[.slice (some ⟨gd, 0, none⟩) n0 cd, .slice (some ⟨gi, 0, none⟩) n0 ci, .slice (some ⟨gb, 0, none⟩) n0 cb]] (by rfl) rfl rfl (by (try simp only [List.map_toArray, List.map_cons, List.map_nil]); first | done | rfl) ?_
   refine (settled_calls n0 a0_1 A2 c2 l A1 c1 F A4 c4 gd gi gb cd ci cb w14.heap.size (allR n0) w19 HR.out (allR_ok n0) (bd_zero n0) HC2.out HC1.out (Kd.F_mono (Kd.F_below (Kd.C_F heap74 H2.out) HB.out) (fun k hk => ⟨by have := S14.out; have := GP0.out; omega, by have := S14.out; have := GP1.out; omega, by have := S14.out; have := GP2.out; omega⟩)) (Kd.F_mono (Kd.F_below (Kd.C_F (Kd.heap_int _) H3.out) HB.out) (fun k hk => ⟨by have := S14.out; have := GP0.out; omega, by have := S14.out; have := GP1.out; omega, by have := S14.out; have := GP2.out; omega⟩)) (Kd.V_mono HV.out (fun k hk => ⟨by have := X0.out; omega, by have := X1.out; omega, by have := X2.out; omega⟩)) HD.out HI.out HQ.out).mono ?_
   rw [← HXT.out]
   rintro e w20 ⟨rfl, hkp, hd, hi, hq⟩
   refine ⟨_, rfl, ?_⟩
   have m_ := Aside0.mk ((hkp.block _ (blk_lt B7.out) (fun e => Kd.R_ne HD.out B7.out (by decide) (congrArg some e)) (fun e => Kd.R_ne HI.out B7.out (by decide) (congrArg some e)) (fun e => Kd.R_ne HQ.out B7.out (by decide) (congrArg some e))).trans B7.out)
   clear B7
   have B7 := m_
   clear m_
   have m_ := Aside0.mk ((hkp.block _ (blk_lt B2.out) (fun e => Kd.R_ne HD.out B2.out (by decide) (congrArg some e)) (fun e => Kd.R_ne HI.out B2.out (by decide) (congrArg some e)) (fun e => Kd.R_ne HQ.out B2.out (by decide) (congrArg some e))).trans B2.out)
   clear B2
   have B2 := m_
   clear m_
   have m_ := Aside0.mk (hkp.toBelow HB.out HB.out.size (Nat.le_trans S14.out GP0.out) (Nat.le_trans S14.out GP1.out) (Nat.le_trans S14.out GP2.out))
   clear HB HD HI HQ HV hkp hd hi hq
   have HB := m_
   clear m_
   refine hK.out _ _ ⟨(blk_cell B7.out 0).trans rfl, (blk_cell B7.out 1).trans rfl, (blk_cell B7.out 2).trans rfl, (blk_cell B2.out 0).trans rfl, (blk_cell B2.out 1).trans rfl, (blk_cell B2.out 2).trans rfl⟩ (fun hHeld => ?_)
   clear hK K
   refine norm_ (a' := ?_) ?_ ?_
   rotate_left
   ·show Act.put _ (some 40) _ = _
    simp only [Act.put, List.setIfInBounds_toArray, List.set_cons_zero, List.set_cons_succ, i64_w, i32_w]
    rfl
   refine pure_ (i := 5) (N := some 4) (v := ?_) (a' := ?_) #[true, true, true, true, true, true, false] rfl rfl (by kernel_rfl) (fun _ _ _ h => h) (Or.inl ⟨by rfl, ?_⟩) ?_ ?_
   rotate_left
   ·intro w'
    go_simp
    with_reducible rfl
   rotate_left
   ·simp only [Act.put, List.setIfInBounds_toArray, List.set_cons_zero, List.set_cons_succ, i64_w, i32_w]
    rfl
   refine pure_ (i := 6) (N := some 5) (v := ?_) (a' := ?_) #[true, true, true, true, true, true, true] rfl rfl (by kernel_rfl) (fun _ _ _ h => h) (Or.inl ⟨by rfl, ?_⟩) ?_ ?_
   rotate_left
   ·intro w'
    go_simp
    with_reducible rfl
   rotate_left
   ·simp only [Act.put, List.setIfInBounds_toArray, List.set_cons_zero, List.set_cons_succ, i64_w, i32_w]
    rfl
   refine done_ (by kernel_rfl) ?_
   go_wp2_with fail
   first | go_ret | go_ret2 | go_ret3
   exact ⟨rfl, HB.out⟩
end Go.Proofs.Ytkcpanpdipmmmaa.H
namespace Go.Proofs.Ytkcpanpdipmmmaa.H
open Go.RowKit Go.Proofs.YtkcpanpdipmmmaaW.PrintWords Go.Proofs.YtkcpanpdipmmmaaW.PrintLast Go.Proofs.YtkcpanpdipmmmaaW.PrintMore Go.Proofs.Ytkcpanpdipmmmaa.P Go.Proofs.Ytkcpanpdipmmmaa.Q
def absF (x : Rf) : Tm := fun v => if x.I.getD v false then some (x.D.getD v 0) else none
def edgeF (l : List S74) (s : S38) : Ed := ((stFrom l s).toNat, (stTo l s).toNat, stTime l s)
theorem visF_abs {l : List S74} {n : Nat} {x : Rf} (h : x.Ok n) (s : S38) (hw : (stTo l s).toNat < n) :
  absF (visF l x s) = relax (absF x) (edgeF l s) ∧ (visF l x s).OK = (x.OK && !trig (absF x) (edgeF l s)) := by
 have htr : trig (absF x) (edgeF l s) = (x.I.getD (stFrom l s).toNat false && (!x.I.getD (stTo l s).toNat false || decide (x.D.getD (stFrom l s).toNat 0 + stTime l s < x.D.getD (stTo l s).toNat 0))) := by
  unfold trig edgeF
  cases hv : x.I.getD (stFrom l s).toNat false with
  | false =>
   have h1 : absF x (stFrom l s).toNat = none := by unfold absF; rw [hv]; rfl
   simp only [h1]
   rfl
  | true =>
   have h1 : absF x (stFrom l s).toNat = some (x.D.getD (stFrom l s).toNat 0) := by unfold absF; rw [hv]; rfl
   simp only [h1]
   cases hi : x.I.getD (stTo l s).toNat false with
   | false =>
    have h2 : absF x (stTo l s).toNat = none := by unfold absF; rw [hi]; rfl
    rw [h2]
    rfl
   | true =>
    have h2 : absF x (stTo l s).toNat = some (x.D.getD (stTo l s).toNat 0) := by unfold absF; rw [hi]; rfl
    rw [h2]
    rfl
 cases ht : trig (absF x) (edgeF l s) with
 | false =>
  have e : visF l x s = x := by unfold visF; rw [← htr, ht]; rfl
  rw [e, relax_off ht]
  exact ⟨rfl, by simp⟩
 | true =>
  have e : visF l x s = ⟨x.D.set (stTo l s).toNat (x.D.getD (stFrom l s).toNat 0 + stTime l s), x.I.set (stTo l s).toNat true, false⟩ := by unfold visF; rw [← htr, ht]; rfl
  obtain ⟨y, hy, _⟩ := trig_some ht
  have hy2 : y = x.D.getD (stFrom l s).toNat 0 := by
   unfold absF edgeF at hy
   simp only at hy
   split at hy
   ·injection hy with hy; exact hy.symm
   ·cases hy
  rw [e]
  refine ⟨?_, by simp⟩
  funext u
  rw [relax_on ht hy]
  show (if (x.I.set (stTo l s).toNat true).getD u false = true then some ((x.D.set (stTo l s).toNat (x.D.getD (stFrom l s).toNat 0 + stTime l s)).getD u 0) else none) = if u = (stTo l s).toNat then _ else absF x u
  by_cases hu : u = (stTo l s).toNat
  ·subst hu
   rw [if_pos rfl, getD_set_eq _ _ _ _ (by rw [h.hI]; exact hw), getD_set_eq _ _ _ _ (by rw [h.hD]; exact hw), if_pos rfl, hy2]
   rfl
  ·rw [if_neg hu, getD_set_ne _ _ _ _ _ (Ne.symm hu), getD_set_ne _ _ _ _ _ (Ne.symm hu)]
   rfl
theorem foldF_abs {l : List S74} {n : Nat} (S : List S38) (hw : ∀ s, s ∈ S → (stTo l s).toNat < n) : ∀ {x : Rf} (h : x.Ok n),
  (S.foldl (visF l) x).Ok n ∧ absF (S.foldl (visF l) x) = pass (S.map (edgeF l)) (absF x) ∧ (S.foldl (visF l) x).OK = (x.OK && !(passT (S.map (edgeF l)) (absF x) false).2) := by
 induction S with
 | nil => intro x h; exact ⟨h, rfl, by simp [passT]⟩
 | cons s S ih =>
  intro x h
  obtain ⟨h1, h2⟩ := visF_abs h s (hw s List.mem_cons_self)
  obtain ⟨h3, h4, h5⟩ := ih (fun s hs => hw s (List.mem_cons_of_mem _ hs)) (visF_ok (l := l) h s)
  rw [List.foldl_cons, List.map_cons]
  refine ⟨h3, ?_, ?_⟩
  ·rw [h4, h1]; rfl
  ·rw [h5, h2, h1]
   show _ = (x.OK && !(passT _ (relax (absF x) (edgeF l s)) (false || trig (absF x) (edgeF l s))).2)
   rw [passT_or _ _ (false || _), Bool.false_or]
   cases x.OK <;> cases trig (absF x) (edgeF l s) <;> simp
theorem roundF_abs {l : List S74} {n : Nat} (S : List S38) (hw : ∀ s, s ∈ S → (stTo l s).toNat < n) {x : Rf} (h : x.Ok n) :
  (roundF l S x).Ok n ∧ absF (roundF l S x) = pass (S.map (edgeF l)) (absF x) ∧ (roundF l S x).OK = !(passT (S.map (edgeF l)) (absF x) false).2 := by
 obtain ⟨h1, h2, h3⟩ := foldF_abs S hw (x := { x with OK := true }) ⟨h.hD, h.hI⟩
 exact ⟨h1, h2, by unfold roundF; rw [h3, Bool.true_and]; rfl⟩
theorem itF_abs {l : List S74} {n : Nat} (S : List S38) (hw : ∀ s, s ∈ S → (stTo l s).toNat < n) (k : Nat) : ∀ {x : Rf} (h : x.Ok n),
  (itF l S k x).Ok n ∧ absF (itF l S k x) = its (S.map (edgeF l)) k (absF x) ∧ (itF l S (k + 1) x).OK = !(passT (S.map (edgeF l)) (its (S.map (edgeF l)) k (absF x)) false).2 := by
 induction k with
 | zero =>
  intro x h
  exact ⟨h, rfl, (roundF_abs S hw h).2.2⟩
 | succ k ih =>
  intro x h
  obtain ⟨h1, h2, _⟩ := roundF_abs S hw h
  obtain ⟨h4, h5, h6⟩ := ih h1
  refine ⟨h4, ?_, ?_⟩
  ·show absF (itF l S k (roundF l S x)) = _
   rw [h5, h2]
   rfl
  ·show (itF l S (k + 1) (roundF l S x)).OK = _
   rw [h6, h2]
   rfl
def refE (l : List S74) (F : List Int) : List Ed := (stepsR l F F.length).map (edgeF l)
theorem refE_in {l : List S74} {F : List Int} {n : Nat} (hr : Right l F n) : ∀ e, e ∈ refE l F → e.1 < n ∧ e.2.1 < n := by
 intro e he
 obtain ⟨s, hs, rfl⟩ := List.mem_map.1 he
 have h1 := stFrom_in hr (stepsR_of hr s hs)
 have h2 := stTo_in hr (stepsR_of hr s hs)
 exact ⟨by show (stFrom l s).toNat < n; omega, by show (stTo l s).toNat < n; omega⟩
theorem liveE_mem {l : List S74} {F : List Int} {n : Nat} (hr : Right l F n) (e : Ed) : e ∈ liveE l F n ↔ e ∈ refE l F := by
 unfold liveE refE
 rw [List.mem_flatMap, List.mem_map]
 constructor
 ·rintro ⟨v, hv, he⟩
  obtain ⟨s, hs, rfl⟩ := List.mem_map.1 he
  obtain ⟨hs1, hs2⟩ := List.mem_filter.1 hs
  have hso := stL_of hs1
  refine ⟨s, (mem_stepsR l F F.length s).2 ⟨by rw [hr.len]; exact hso, of_decide_eq_true hs2⟩, ?_⟩
  unfold edgeF edgeS
  rw [stL_from hs1, Int.toNat_natCast]
 ·rintro ⟨s, hs, rfl⟩
  have hso := stepsR_of hr s hs
  have hf := stFrom_in hr hso
  refine ⟨(stFrom l s).toNat, List.mem_range.2 (by omega), List.mem_map.2 ⟨s, List.mem_filter.2 ⟨?_, decide_eq_true ((mem_stepsR l F F.length s).1 hs).2⟩, rfl⟩⟩
  rw [mem_stL, Int.toNat_of_nonneg hf.1]
  obtain ⟨i, h1, h2⟩ := hso
  refine ⟨i, h1, h2, ?_⟩
  unfold stFrom
  rw [h2]
  cases s.f1
  ·exact Or.inl ⟨rfl, rfl⟩
  ·exact Or.inr ⟨rfl, rfl⟩
theorem stTo_lt {l : List S74} {F : List Int} {n : Nat} (hr : Right l F n) : ∀ (v : Nat) (s : S38), s ∈ stL l v l.length → (stTo l s).toNat < n := by
 intro v s hs
 have := stTo_in hr (stL_of hs)
 omega
def ZR (D : List Int) (I : List Bool) : Prop := ∀ v : Nat, I.getD v false = false → D.getD v 0 = 0
theorem ZR.set {D : List Int} {I : List Bool} (h : ZR D I) (hl : D.length = I.length) (u : Nat) (d : Int) : ZR (D.set u d) (I.set u true) := by
 intro v hv
 by_cases e : u = v
 ·subst e
  by_cases hu : u < I.length
  ·rw [getD_set_eq _ _ _ _ hu] at hv; cases hv
  ·rw [List.getD_eq_getElem?_getD, List.getElem?_eq_none (by rw [List.length_set]; omega)]; rfl
 ·rw [getD_set_ne _ _ _ _ _ e] at hv ⊢
  exact h v hv
theorem zr_visR {l : List S74} {F : List Int} {n v : Nat} {x : Rch} (h : x.Ok n) (hz : ZR x.D x.I) (s : S38) : ZR (visR l F v x s).D (visR l F v x s).I := by
 unfold visR
 split
 ·exact hz.set (by rw [h.hD, h.hI]) _ _
 ·exact hz
theorem zr_rowR {l : List S74} {F : List Int} {n v : Nat} {x : Rch} (h : x.Ok n) (hz : ZR x.D x.I) : ZR (rowR l F x v).D (rowR l F x v).I := by
 unfold rowR
 split
 ·have : ∀ (r : List S38) (y : Rch), y.Ok n → ZR y.D y.I → ZR (r.foldl (visR l F v) y).D (r.foldl (visR l F v) y).I := by
   intro r
   induction r with
   | nil => intro y _ hy; exact hy
   | cons s r ih => intro y hy1 hy2; exact ih _ (visR_ok hy1 s) (zr_visR hy1 hy2 s)
  exact this _ x h hz
 ·exact hz
theorem zr_goesR {l : List S74} {F : List Int} {n : Nat} (k : Nat) : ∀ {x : Rch} (h : x.Ok n) (hz : ZR x.D x.I), ZR (goesR l F n k x).1.D (goesR l F n k x).1.I := by
 have hround : ∀ {x : Rch}, x.Ok n → ZR x.D x.I → (roundR l F n x).Ok n ∧ ZR (roundR l F n x).D (roundR l F n x).I := by
  intro x h hz
  have : ∀ (vs : List Nat) (y : Rch), y.Ok n → ZR y.D y.I → (vs.foldl (rowR l F) y).Ok n ∧ ZR (vs.foldl (rowR l F) y).D (vs.foldl (rowR l F) y).I := by
   intro vs
   induction vs with
   | nil => intro y h1 h2; exact ⟨h1, h2⟩
   | cons v vs ih => intro y h1 h2; exact ih _ (rowR_ok h1) (zr_rowR h1 h2)
  exact this _ { x with still := true } ⟨h.hD, h.hI, h.hB⟩ hz
 induction k with
 | zero => intro x h hz; exact hz
 | succ k ih =>
  intro x h hz
  obtain ⟨h1, h2⟩ := hround h hz
  unfold goesR
  split
  ·exact h2
  ·exact ih h1 h2
theorem zr_itF {l : List S74} {n : Nat} (S : List S38) (k : Nat) : ∀ {x : Rf} (h : x.Ok n) (hz : ZR x.D x.I), ZR (itF l S k x).D (itF l S k x).I := by
 have hv : ∀ {x : Rf} (s : S38), x.Ok n → ZR x.D x.I → ZR (visF l x s).D (visF l x s).I := by
  intro x s h hz
  unfold visF
  split
  ·exact hz.set (by rw [h.hD, h.hI]) _ _
  ·exact hz
 have hround : ∀ (T : List S38) {x : Rf}, x.Ok n → ZR x.D x.I → (T.foldl (visF l) x).Ok n ∧ ZR (T.foldl (visF l) x).D (T.foldl (visF l) x).I := by
  intro T
  induction T with
  | nil => intro x h1 h2; exact ⟨h1, h2⟩
  | cons s T ih => intro x h1 h2; exact ih (visF_ok h1 s) (hv s h1 h2)
 induction k with
 | zero => intro x h hz; exact hz
 | succ k ih =>
  intro x h hz
  obtain ⟨h1, h2⟩ := hround S (x := { x with OK := true }) ⟨h.hD, h.hI⟩ hz
  exact ih h1 h2
theorem lists_eq {n : Nat} {D D' : List Int} {I I' : List Bool} (h1 : D.length = n) (h2 : D'.length = n) (h3 : I.length = n) (h4 : I'.length = n) (z : ZR D I) (z' : ZR D' I')
  (h : ∀ v, (if I.getD v false then some (D.getD v 0) else none) = (if I'.getD v false then some (D'.getD v 0) else (none : Option Int))) : D = D' ∧ I = I' := by
 have hI : ∀ v, I.getD v false = I'.getD v false := by
  intro v
  have hv := h v
  cases a : I.getD v false <;> cases b : I'.getD v false
  ·rfl
  ·rw [a, b] at hv; simp at hv
  ·rw [a, b] at hv; simp at hv
  ·rfl
 have hD : ∀ v, D.getD v 0 = D'.getD v 0 := by
  intro v
  have := h v
  cases a : I.getD v false with
  | false => rw [z v a, z' v (by rw [← hI v]; exact a)]
  | true => rw [a, ← hI v, a] at this; simpa using this
 constructor
 ·apply List.ext_getElem (by omega)
  intro i p q
  have := hD i
  rwa [List.getD_eq_getElem?_getD, List.getD_eq_getElem?_getD, List.getElem?_eq_getElem p, List.getElem?_eq_getElem q] at this
 ·apply List.ext_getElem (by omega)
  intro i p q
  have := hI i
  rwa [List.getD_eq_getElem?_getD, List.getD_eq_getElem?_getD, List.getElem?_eq_getElem p, List.getElem?_eq_getElem q] at this
structure Told (l : List S74) (F : List Int) (n : Nat) (σ0 σ : Tm) : Prop where
 still : ∀ e, e ∈ refE l F → trig σ e = false
 real : ∀ v x, σ v = some x → Real (refE l F) σ0 v x
 bet : Bet σ σ0
theorem ref_told {l : List S74} {F : List Int} {n : Nat} (hr : Right l F n) {x : Rf} (hx : x.Ok n) (k : Nat) (h : (itF l (stepsR l F F.length) (k + 1) x).OK = true) : Told l F n (absF x) (absF (itF l (stepsR l F F.length) (k + 1) x)) := by
 have hw : ∀ s, s ∈ stepsR l F F.length → (stTo l s).toNat < n := fun s hs => by have := stTo_in hr (stepsR_of hr s hs); omega
 obtain ⟨_, _, h3⟩ := itF_abs _ hw k hx
 obtain ⟨_, h2, _⟩ := itF_abs _ hw (k + 1) hx
 have hq : (passT (refE l F) (its (refE l F) k (absF x)) false).2 = false := by
  rw [h3] at h
  simpa [refE] using h
 have ht := passT_false hq
 have hp : pass (refE l F) (its (refE l F) k (absF x)) = its (refE l F) k (absF x) := by rw [← passT_fst _ _ false, passT_still ht]
 have e : absF (itF l (stepsR l F F.length) (k + 1) x) = its (refE l F) k (absF x) := by
  rw [h2]
  show its (refE l F) (k + 1) (absF x) = _
  rw [its_succ, hp]
 rw [e]
 refine ⟨ht, its_real _ k _, ?_⟩
 have := its_bet (refE l F) 0 k (absF x)
 rw [Nat.zero_add] at this
 exact this
theorem ref_ok {l : List S74} {F : List Int} {n : Nat} (hr : Right l F n) {x : Rf} (hx : x.Ok n) {r : Nat → Prop} (hg : NoGain (refE l F) r) (h0 : ∀ v c, absF x v = some c → v < n ∧ r v) : (itF l (stepsR l F F.length) (n + 1) x).OK = true := by
 have hw : ∀ s, s ∈ stepsR l F F.length → (stTo l s).toNat < n := fun s hs => by have := stTo_in hr (stepsR_of hr s hs); omega
 obtain ⟨_, _, h3⟩ := itF_abs _ hw n hx
 rw [h3]
 have hp := settles (refE_in hr) hg h0 n (by omega)
 have := passT_still (pass_fix hp)
 show (!(passT (refE l F) (its (refE l F) n (absF x)) false).2) = true
 rw [this]
 rfl
theorem goes_told {l : List S74} {F : List Int} {n : Nat} (hr : Right l F n) {x : Rch} (hx : x.Ok n) (k : Nat) (h : (goesR l F n k x).2 = true) : Told l F n (absR x) (absR (goesR l F n k x).1) := by
 obtain ⟨_, ⟨m, _, h2⟩, h3, _⟩ := goesR_spec (F := F) (stTo_lt hr) k hx
 refine ⟨fun e he => h3 h e ((liveE_mem hr e).2 he), ?_, ?_⟩
 ·intro v c hc
  rw [h2] at hc
  obtain ⟨u, c0, p, h4, h5, h6⟩ := its_real _ m _ v c hc
  exact ⟨u, c0, p, h4, h5.mono (fun e he => (liveE_mem hr e).1 he), h6⟩
 ·rw [h2]
  have := its_bet (liveE l F n) 0 m (absR x)
  rw [Nat.zero_add] at this
  exact this
theorem goes_ok {l : List S74} {F : List Int} {n : Nat} (hr : Right l F n) {x : Rch} (hx : x.Ok n) {r : Nat → Prop} (hg : NoGain (refE l F) r) (h0 : ∀ v c, absR x v = some c → v < n ∧ r v) : (goesR l F n (n + 1) x).2 = true := by
 cases h : (goesR l F n (n + 1) x).2 with
 | true => rfl
 | false =>
  obtain ⟨_, _, _, h4⟩ := goesR_spec (F := F) (stTo_lt hr) (n + 1) hx
  have hg2 : NoGain (liveE l F n) r := hg.mono (fun e he => (liveE_mem hr e).1 he)
  exact absurd (settles (fun e he => refE_in hr e ((liveE_mem hr e).1 he)) hg2 h0 n (by omega)) (h4 h n (by omega))
theorem Told.tight {l : List S74} {F : List Int} {n : Nat} {σ0 σ : Tm} (h : Told l F n σ0 σ) : Tight (refE l F) (fun v => ∃ x, σ v = some x) (fun v => (σ v).getD 0) := still_tight h.still
theorem start_abs (n s : Nat) (hs : s < n) (v : Nat) : absR (startR n s) v = if v = s then some 0 else none := by
 unfold absR startR
 simp only
 by_cases e : v = s
 ·subst e
  rw [getD_set_eq _ _ _ _ (by rw [List.length_replicate]; exact hs), if_pos rfl, if_pos rfl, List.getD_eq_getElem?_getD, List.getElem?_replicate, if_pos hs]
  rfl
 ·rw [getD_set_ne _ _ _ _ _ (Ne.symm e), if_neg e, List.getD_eq_getElem?_getD, List.getElem?_replicate]
  split <;> simp
theorem startF_abs (n s : Nat) : absF (startF n s) = absR (startR n s) := rfl
theorem startF_ok (n s : Nat) : (startF n s).Ok n := ⟨by simp [startF], by simp [startF]⟩
theorem zr_start (n s : Nat) : ZR (startR n s).D (startR n s).I := by
 intro v _
 show (List.replicate n (0 : Int)).getD v 0 = 0
 rw [List.getD_eq_getElem?_getD, List.getElem?_replicate]
 split <;> rfl
theorem far_same {l : List S74} {F : List Int} {n s : Nat} (hr : Right l F n) (hs : s < n) :
  (goesR l F n (n + 1) (startR n s)).2 = (refF l F n s).OK ∧ ((refF l F n s).OK = true → (goesR l F n (n + 1) (startR n s)).1.D = (refF l F n s).D ∧ (goesR l F n (n + 1) (startR n s)).1.I = (refF l F n s).I) := by
 have h0 : ∀ v c, absR (startR n s) v = some c → v < n := by
  intro v c h
  rw [start_abs n s hs] at h
  split at h
  ·rename_i e; omega
  ·cases h
 have hX : (goesR l F n (n + 1) (startR n s)).2 = true → (refF l F n s).OK = true := by
  intro h
  have ht := goes_told hr (startR_ok n s) (n + 1) h
  refine ref_ok hr (startF_ok n s) ht.tight.noGain ?_
  intro v c hc
  rw [startF_abs] at hc
  obtain ⟨y, hy, _⟩ := ht.bet v c hc
  exact ⟨h0 v c hc, y, hy⟩
 have hY : (refF l F n s).OK = true → (goesR l F n (n + 1) (startR n s)).2 = true := by
  intro h
  have ht := ref_told hr (startF_ok n s) n h
  refine goes_ok hr (startR_ok n s) ht.tight.noGain ?_
  intro v c hc
  obtain ⟨y, hy, _⟩ := ht.bet v c hc
  exact ⟨h0 v c hc, y, hy⟩
 refine ⟨?_, fun h => ?_⟩
 ·cases a : (goesR l F n (n + 1) (startR n s)).2 with
  | true => exact (hX a).symm
  | false =>
   cases b : (refF l F n s).OK with
   | false => rfl
   | true => rw [hY b] at a; cases a
 ·have t1 := goes_told hr (startR_ok n s) (n + 1) (hY h)
  have t2 := ref_told hr (startF_ok n s) n h
  have e := still_uniq (E := refE l F) (F := refE l F) (fun _ => Iff.rfl) t1.still t2.still t1.real t2.real t1.bet t2.bet
  have hw : ∀ s, s ∈ stepsR l F F.length → (stTo l s).toNat < n := fun s hs => by have := stTo_in hr (stepsR_of hr s hs); omega
  obtain ⟨o1, _⟩ := goesR_spec (F := F) (stTo_lt hr) (n + 1) (startR_ok n s)
  obtain ⟨o2, _⟩ := itF_abs _ hw (n + 1) (startF_ok n s)
  exact lists_eq o1.hD o2.hD o1.hI o2.hI (zr_goesR (n + 1) (startR_ok n s) (zr_start n s)) (zr_itF _ (n + 1) (startF_ok n s) (zr_start n s)) (fun v => congrFun e v)
theorem all_abs (n v : Nat) : absR (allR n) v = if v < n then some 0 else none := by
 unfold absR allR
 simp only
 by_cases e : v < n
 ·have h1 : (setI n n).getD v false = true := by
   rw [List.getD_eq_getElem?_getD, List.getElem?_eq_getElem (by rw [setI_len]; exact e)]
   simp [setI, e]
  rw [h1, if_pos rfl, if_pos e, List.getD_eq_getElem?_getD, List.getElem?_replicate, if_pos e]
  rfl
 ·have h1 : (setI n n).getD v false = false := by
   rw [List.getD_eq_getElem?_getD, List.getElem?_eq_none (by rw [setI_len]; omega)]
   rfl
  rw [h1, if_neg (by simp), if_neg e]
theorem refs_noGain {l : List S74} {F : List Int} {n : Nat} (hr : Right l F n) (h : ∀ v, v < n → (refF l F n v).OK = true) : NoGain (refE l F) (fun v => v < n) := by
 refine ⟨fun e he _ => (refE_in hr e he).2, fun a p ha hp => ?_⟩
 have ht := ref_told hr (startF_ok n a) n (h a ha)
 have hs0 : absF (startF n a) a = some 0 := by rw [startF_abs, start_abs n a ha, if_pos rfl]
 have hst := still_start ht.still ht.real ht.bet hs0 (fun u x hx => by
  rw [startF_abs, start_abs n a ha] at hx
  split at hx
  ·assumption
  ·cases hx)
 obtain ⟨y, hy, hl⟩ := still_bound ht.still hp hst
 rw [hst] at hy
 injection hy with hy
 omega
theorem noGain_refs {l : List S74} {F : List Int} {n : Nat} (hr : Right l F n) (h : NoGain (refE l F) (fun v => v < n)) : ∀ v, v < n → (refF l F n v).OK = true := by
 intro v hv
 refine ref_ok hr (startF_ok n v) h ?_
 intro u c hc
 rw [startF_abs, start_abs n v hv] at hc
 split at hc
 ·rename_i e; exact ⟨by omega, by show u < n; omega⟩
 ·cases hc
theorem free_noGain {l : List S74} {F : List Int} {n : Nat} (hr : Right l F n) : (goesR l F n (n + 1) (allR n)).2 = true ↔ NoGain (refE l F) (fun v => v < n) := by
 constructor
 ·intro h
  have ht := goes_told hr (allR_ok n) (n + 1) h
  have hg := ht.tight.noGain
  refine ⟨fun e he _ => (refE_in hr e he).2, fun a p ha hp => hg.cyc a p ?_ hp⟩
  obtain ⟨y, hy, _⟩ := ht.bet a 0 (by rw [all_abs, if_pos ha])
  exact ⟨y, hy⟩
 ·intro h
  refine goes_ok hr (allR_ok n) h ?_
  intro v c hc
  rw [all_abs] at hc
  split at hc
  ·rename_i e; exact ⟨e, e⟩
  ·cases hc
theorem free_same {l : List S74} {F : List Int} {n : Nat} (hr : Right l F n) : (goesR l F n (n + 1) (allR n)).2 = true ↔ ∀ v, v < n → (refF l F n v).OK = true :=
 ⟨fun h => noGain_refs hr ((free_noGain hr).1 h), fun h => (free_noGain hr).2 (refs_noGain hr h)⟩
end Go.Proofs.Ytkcpanpdipmmmaa.H
namespace Go.Proofs.Ytkcpanpdipmmmaa.H
open Go.RowKit Go.Proofs.YtkcpanpdipmmmaaW.PrintWords Go.Proofs.YtkcpanpdipmmmaaW.PrintLast Go.Proofs.YtkcpanpdipmmmaaW.PrintMore Go.Proofs.Ytkcpanpdipmmmaa.P Go.Proofs.Ytkcpanpdipmmmaa.Q
def farRes (n : Int) (l : List S74) (F : List Int) (s : Int) : List Int × List Bool × Int :=
 if askErr n l F = 0 then (if 0 ≤ s ∧ s < n then (if (refF l F n.toNat s.toNat).OK = true then ((refF l F n.toNat s.toNat).D, (refF l F n.toNat s.toNat).I, 0) else ([], [], 110)) else ([], [], 1)) else ([], [], askErr n l F)
theorem far_ev (n : Int) (b : Bool) (l : List S74) (F : List Int) (s : Int) : Ev (fun k => ebbtideref11_Far.f k n b l F s) (farRes n l F s) := by
 unfold ebbtideref11_Far.f farRes
 refine Ev.bind (ref_asked_ev n b l F) ?_
 refine Ev.ite (fun h => ?_) (fun h => ?_)
 ·rw [if_pos h]
  refine Ev.call (node_eq n b l s) ?_
  refine Ev.ite (fun g => ?_) (fun g => ?_)
  ·have g2 := of_decide_eq_true g
   rw [if_pos g2]
   obtain ⟨n0, rfl, hr⟩ := right_of h
   obtain ⟨s0, rfl⟩ : ∃ s0 : Nat, s = s0 := ⟨s.toNat, by omega⟩
   rw [Int.toNat_natCast, Int.toNat_natCast]
   refine Ev.bind (from_ev hr b s0 (by omega)) ?_
   refine Ev.ite (fun g3 => ?_) (fun g3 => ?_)
   ·rw [if_pos g3]; exact Ev.now _
   ·rw [if_neg g3]; exact Ev.now _
  ·rw [if_neg (fun g2 => g (decide_eq_true g2))]
   exact Ev.now _
 ·rw [if_neg h]
  exact Ev.now _
theorem cost_Far_calls (k : Nat) (a0_0 : Int) (a0_1 : Bool) (A0_2 : Option Addr) (c0_2 : Nat) (l0_2 : List S74) (A1 : Option Addr) (c1 : Nat) (l1 : List Int) (a2 : Int) (r1 : List Int) (r2 : List Bool) (r3 : Int) (w : World) (hr0_2 : Kd.C k74 w A0_2 l0_2.length l0_2) (hc0_2 : l0_2.length ≤ c0_2) (hr1 : Kd.C (Kd.int .i64) w A1 l1.length l1) (hc1 : l1.length ≤ c1) (h : ebbtideref11_Far.f k a0_0 a0_1 l0_2 l1 a2 = some (r1, r2, r3)) :
  Calls Try.prog 38 #[.agg #[.int .i64 a0_0, .bool a0_1, .slice A0_2 l0_2.length c0_2], .slice A1 l1.length c1, .int .i64 a2] w fun e w' => ∃ v0_ v1_ : Value, e = .returned (.tuple #[v0_, v1_, .int .i64 r3]) ∧ Kd.R (Kd.int .i64) 3 w' w.heap.size (fun _ => True) v0_ r1 ∧ Kd.R Kd.bool 4 w' w.heap.size (fun _ => True) v1_ r2 ∧ Below w.heap.size w w' := by
 have hres := Ev.uniq (Ev.of (fun k => ebbtideref11_Far.mono _ _ _ _ _ k) h) (far_ev a0_0 a0_1 l0_2 l1 a2)
 obtain ⟨K, hK⟩ := asked_ev a0_0 a0_1 l0_2 l1
 have hA := hK K (Nat.le_refl _)
 unfold farRes at hres
 by_cases h0 : askErr a0_0 l0_2 l1 = 0
 ·rw [if_pos h0] at hres
  rw [h0] at hA
  by_cases hs : 0 ≤ a2 ∧ a2 < a0_0
  ·rw [if_pos hs] at hres
   obtain ⟨n0, rfl, hr⟩ := right_of h0
   obtain ⟨s0, rfl⟩ : ∃ s0 : Nat, a2 = s0 := ⟨a2.toNat, by omega⟩
   rw [Int.toNat_natCast, Int.toNat_natCast] at hres
   have hs2 : s0 < n0 := by omega
   obtain ⟨e1, e2⟩ := far_same hr hs2
   refine (far_ok K n0 a0_1 A0_2 c0_2 l0_2 A1 c1 l1 s0 w hr hs2 hr0_2 hc0_2 hr1 hc1 hA).mono ?_
   rintro e w' ⟨v0, v1, hcase, hb⟩
   rcases hcase with ⟨g, rfl, hd, hi⟩ | ⟨g, rfl⟩
   ·rw [e1] at g
    rw [if_pos g] at hres
    injection hres with q1 q2
    injection q2 with q2 q3
    obtain ⟨f1, f2⟩ := e2 g
    exact ⟨v0, v1, by rw [q3], by rw [q1, ← f1]; exact hd, by rw [q2, ← f2]; exact hi, hb⟩
   ·rw [e1] at g
    rw [if_neg (by rw [g]; simp)] at hres
    injection hres with q1 q2
    injection q2 with q2 q3
    exact ⟨_, _, by rw [q3], by rw [q1]; exact Kd.R_nil _ _ _ _ _, by rw [q2]; exact Kd.R_nil _ _ _ _ _, hb⟩
  ·rw [if_neg hs] at hres
   injection hres with q1 q2
   injection q2 with q2 q3
   refine (far_arg K a0_0 a0_1 A0_2 c0_2 l0_2 A1 c1 l1 a2 w hr0_2 hc0_2 hr1 hc1 hA hs).mono ?_
   rintro e w' ⟨rfl, hb⟩
   exact ⟨_, _, by rw [q3], by rw [q1]; exact Kd.R_nil _ _ _ _ _, by rw [q2]; exact Kd.R_nil _ _ _ _ _, hb⟩
 ·rw [if_neg h0] at hres
  injection hres with q1 q2
  injection q2 with q2 q3
  refine (far_no K a0_0 a0_1 A0_2 c0_2 l0_2 A1 c1 l1 a2 _ w hr0_2 hc0_2 hr1 hc1 hA h0).mono ?_
  rintro e w' ⟨rfl, hb⟩
  exact ⟨_, _, by rw [q3], by rw [q1]; exact Kd.R_nil _ _ _ _ _, by rw [q2]; exact Kd.R_nil _ _ _ _ _, hb⟩
end Go.Proofs.Ytkcpanpdipmmmaa.H
namespace Go.Proofs.Ytkcpanpdipmmmaa.H
open Go.RowKit Go.Proofs.YtkcpanpdipmmmaaW.PrintWords Go.Proofs.YtkcpanpdipmmmaaW.PrintLast Go.Proofs.YtkcpanpdipmmmaaW.PrintMore Go.Proofs.Ytkcpanpdipmmmaa.P Go.Proofs.Ytkcpanpdipmmmaa.Q
def freeB (l : List S74) (F : List Int) (n : Nat) : Bool := (List.range n).all fun v => (refF l F n v).OK
theorem freeB_iff (l : List S74) (F : List Int) (n : Nat) : freeB l F n = true ↔ ∀ v, v < n → (refF l F n v).OK = true := by
 unfold freeB
 rw [List.all_eq_true]
 exact ⟨fun h v hv => h v (List.mem_range.2 hv), fun h v hv => h v (List.mem_range.1 hv)⟩
def freeRes (n : Int) (l : List S74) (F : List Int) : Bool × Int := if askErr n l F = 0 then (freeB l F n.toNat, 0) else (false, askErr n l F)
theorem free_l0 {l : List S74} {F : List Int} {n : Nat} (hr : Right l F n) (b : Bool) (d : Nat) : ∀ v : Nat, v + d = n → (∀ u, u < v → (refF l F n u).OK = true) →
  Ev (fun k => ebbtideref11_Free.l0 k F (v : Int) n b l) (freeB l F n, 0) := by
 have hn := hr.fifty
 induction d with
 | zero =>
  intro v hv hu
  refine Ev.succ ?_; simp only [ebbtideref11_Free.l0]
  refine Ev.neg (by omega) ?_
  exact Ev.done (by rw [(freeB_iff l F n).2 (fun u h => hu u (by omega))])
 | succ d ih =>
  intro v hv hu
  refine Ev.succ ?_; simp only [ebbtideref11_Free.l0]
  refine Ev.pos (by omega) ?_
  refine Ev.bind (from_ev hr b v (by omega)) ?_
  rw [wrap_succ (n := 51) (by omega) (by omega)]
  refine Ev.ite (fun g => ?_) (fun g => ?_)
  ·exact ih (v + 1) (by omega) (fun u h => by
    by_cases e : u < v
    ·exact hu u e
    ·have : u = v := by omega
     subst this
     exact g)
  ·refine Ev.done ?_
   have : freeB l F n = false := by
    cases h : freeB l F n with
    | false => rfl
    | true => exact absurd ((freeB_iff l F n).1 h v (by omega)) g
   rw [this]
theorem free_ev (n : Int) (b : Bool) (l : List S74) (F : List Int) : Ev (fun k => ebbtideref11_Free.f k n b l F) (freeRes n l F) := by
 unfold ebbtideref11_Free.f freeRes
 refine Ev.bind (ref_asked_ev n b l F) ?_
 refine Ev.ite (fun h => ?_) (fun h => ?_)
 ·rw [if_pos h]
  obtain ⟨n0, rfl, hr⟩ := right_of h
  rw [Int.toNat_natCast]
  exact free_l0 hr b n0 0 (by omega) (fun u hu => absurd hu (Nat.not_lt_zero _))
 ·rw [if_neg h]
  exact Ev.now _
theorem cost_Free_calls (k : Nat) (a0_0 : Int) (a0_1 : Bool) (A0_2 : Option Addr) (c0_2 : Nat) (l0_2 : List S74) (A1 : Option Addr) (c1 : Nat) (l1 : List Int) (r1 : Bool) (r2 : Int) (w : World) (hr0_2 : Kd.C k74 w A0_2 l0_2.length l0_2) (hc0_2 : l0_2.length ≤ c0_2) (hr1 : Kd.C (Kd.int .i64) w A1 l1.length l1) (hc1 : l1.length ≤ c1) (h : ebbtideref11_Free.f k a0_0 a0_1 l0_2 l1 = some (r1, r2)) :
  Calls Try.prog 47 #[.agg #[.int .i64 a0_0, .bool a0_1, .slice A0_2 l0_2.length c0_2], .slice A1 l1.length c1] w fun e w' => e = .returned (.tuple #[.bool r1, .int .i64 r2]) ∧ Below w.heap.size w w' := by
 have hres := Ev.uniq (Ev.of (fun k => ebbtideref11_Free.mono _ _ _ _ k) h) (free_ev a0_0 a0_1 l0_2 l1)
 obtain ⟨K, hK⟩ := asked_ev a0_0 a0_1 l0_2 l1
 have hA := hK K (Nat.le_refl _)
 unfold freeRes at hres
 by_cases h0 : askErr a0_0 l0_2 l1 = 0
 ·rw [if_pos h0] at hres
  rw [h0] at hA
  obtain ⟨n0, rfl, hr⟩ := right_of h0
  rw [Int.toNat_natCast] at hres
  injection hres with q1 q2
  refine (free_ok K n0 a0_1 A0_2 c0_2 l0_2 A1 c1 l1 w hr hr0_2 hc0_2 hr1 hc1 hA).mono ?_
  rintro e w' ⟨rfl, hb⟩
  refine ⟨?_, hb⟩
  have e : (goesR l0_2 l1 n0 (n0 + 1) (allR n0)).2 = freeB l0_2 l1 n0 := by
   rw [Bool.eq_iff_iff, freeB_iff]
   exact free_same hr
  rw [e, q1, q2]
 ·rw [if_neg h0] at hres
  injection hres with q1 q2
  refine (free_no K a0_0 a0_1 A0_2 c0_2 l0_2 A1 c1 l1 _ w hr0_2 hc0_2 hr1 hc1 hA h0).mono ?_
  rintro e w' ⟨rfl, hb⟩
  exact ⟨by rw [q1, q2], hb⟩
end Go.Proofs.Ytkcpanpdipmmmaa.H
namespace Go.Proofs.Ytkcpanpdipmmmaa.P
open Go.RowKit Go.Proofs.YtkcpanpdipmmmaaW.PrintWords Go.Proofs.YtkcpanpdipmmmaaW.PrintLast Go.Proofs.YtkcpanpdipmmmaaW.PrintMore
attribute [local go_sem] max2_int min2_int max_two min_two max_three min_three max_four min_four
def cost_Free.f (k : Nat) (a0_0 : Int) (a0_1 : Bool) (l0_2 : List (S74)) (l1 : List Int) : Option (Bool × Int) := ebbtideref11_Free.f k a0_0 a0_1 l0_2 l1
theorem cost_Free.mono : ∀ a0 a1 a2 a3 k, LeO (cost_Free.f k a0 a1 a2 a3) (cost_Free.f (k + 1) a0 a1 a2 a3) := ebbtideref11_Free.mono
theorem cost_Free.calls (k : Nat) (a0_0 : Int) (a0_1 : Bool) (A0_2 : Option Addr) (c0_2 : Nat) (l0_2 : List (S74)) (A1 : Option Addr) (c1 : Nat) (l1 : List Int) (r1 : Bool) (r2 : Int) (w : World) (hr0_2 : Kd.C k74 w A0_2 l0_2.length l0_2) (hc0_2 : l0_2.length ≤ c0_2) (hr1 : Kd.C (Kd.int .i64) w A1 l1.length l1) (hc1 : l1.length ≤ c1) (h : cost_Free.f k a0_0 a0_1 l0_2 l1 = some (r1, r2)) :
  Calls Try.prog 47 #[.agg #[.int .i64 a0_0, .bool a0_1, .slice A0_2 l0_2.length c0_2], .slice A1 l1.length c1] w fun e w' => e = .returned (.tuple #[.bool r1, .int .i64 r2]) ∧ Below w.heap.size w w' := H.cost_Free_calls k a0_0 a0_1 A0_2 c0_2 l0_2 A1 c1 l1 r1 r2 w hr0_2 hc0_2 hr1 hc1 h
end Go.Proofs.Ytkcpanpdipmmmaa.P
namespace Go.Proofs.Ytkcpanpdipmmmaa.P
open Go.RowKit Go.Proofs.YtkcpanpdipmmmaaW.PrintWords Go.Proofs.YtkcpanpdipmmmaaW.PrintLast Go.Proofs.YtkcpanpdipmmmaaW.PrintMore
attribute [local go_sem] max2_int min2_int max_two min_two max_three min_three max_four min_four
def cost_Far.f (k : Nat) (a0_0 : Int) (a0_1 : Bool) (l0_2 : List (S74)) (l1 : List Int) (a2 : Int) : Option (List Int × List Bool × Int) := ebbtideref11_Far.f k a0_0 a0_1 l0_2 l1 a2
theorem cost_Far.mono : ∀ a0 a1 a2 a3 a4 k, LeO (cost_Far.f k a0 a1 a2 a3 a4) (cost_Far.f (k + 1) a0 a1 a2 a3 a4) := ebbtideref11_Far.mono
theorem cost_Far.calls (k : Nat) (a0_0 : Int) (a0_1 : Bool) (A0_2 : Option Addr) (c0_2 : Nat) (l0_2 : List (S74)) (A1 : Option Addr) (c1 : Nat) (l1 : List Int) (a2 : Int) (r1 : List Int) (r2 : List Bool) (r3 : Int) (w : World) (hr0_2 : Kd.C k74 w A0_2 l0_2.length l0_2) (hc0_2 : l0_2.length ≤ c0_2) (hr1 : Kd.C (Kd.int .i64) w A1 l1.length l1) (hc1 : l1.length ≤ c1) (h : cost_Far.f k a0_0 a0_1 l0_2 l1 a2 = some (r1, r2, r3)) :
  Calls Try.prog 38 #[.agg #[.int .i64 a0_0, .bool a0_1, .slice A0_2 l0_2.length c0_2], .slice A1 l1.length c1, .int .i64 a2] w fun e w' => ∃ v0_ v1_ : Value, e = .returned (.tuple #[v0_, v1_, .int .i64 r3]) ∧ Kd.R (Kd.int .i64) 3 w' w.heap.size (fun _ => True) v0_ r1 ∧ Kd.R Kd.bool 4 w' w.heap.size (fun _ => True) v1_ r2 ∧ Below w.heap.size w w' := H.cost_Far_calls k a0_0 a0_1 A0_2 c0_2 l0_2 A1 c1 l1 a2 r1 r2 r3 w hr0_2 hc0_2 hr1 hc1 h
end Go.Proofs.Ytkcpanpdipmmmaa.P
namespace Go.Proofs.Ytkcpanpdipmmmaa.P
open Go.RowKit Go.Proofs.YtkcpanpdipmmmaaW.PrintWords Go.Proofs.YtkcpanpdipmmmaaW.PrintLast Go.Proofs.YtkcpanpdipmmmaaW.PrintMore
attribute [local go_sem] max2_int min2_int max_two min_two max_three min_three max_four min_four
def ebbtideref10_Same.l0 : Nat → List Bool → List Bool → Int → Option (Bool)
 | 0, _, _, _ => none
 | k + 1, x0, x1, x5 => if x5 < (x0.length : Int) then (if 0 ≤ x5 then (if x5 < (x1.length : Int) then (if ((rdOf false x0 x5) != (rdOf false x1 x5)) = true then (some false) else (ebbtideref10_Same.l0 k x0 x1 (wrap64 (x5 + 1)))) else (none)) else (none)) else (some true)
def ebbtideref10_Same.f (k : Nat) (l0 : List Bool) (l1 : List Bool) : Option (Bool) := if (l0.length : Int) = (l1.length : Int) then (ebbtideref10_Same.l0 k l0 l1 0) else (some false)
theorem ebbtideref10_Same.mono_l : ∀ k, (∀ y0 y1 y2, LeO (ebbtideref10_Same.l0 k y0 y1 y2) (ebbtideref10_Same.l0 (k + 1) y0 y1 y2))
 | 0 => fun _ _ _ r h => by simp [ebbtideref10_Same.l0] at h
 | k + 1 => by
  have ih0 := ebbtideref10_Same.mono_l k
  ·intro y0 y1 y2
   unfold ebbtideref10_Same.l0
   repeat' first
   | (with_reducible exact ih0 _ _ _)
   | (with_reducible exact LeO.refl _)
   | (with_reducible exact LeO.none _)
   | (with_reducible refine LeO.ite ?_ ?_)
   | (with_reducible refine LeO.bind ?_ (fun _ => ?_))
   | exact ih0 _ _ _
   | exact LeO.none _
   | refine LeO.ite ?_ ?_
   | refine LeO.bind ?_ (fun _ => ?_)
theorem ebbtideref10_Same.mono : ∀ a0 a1 k, LeO (ebbtideref10_Same.f k a0 a1) (ebbtideref10_Same.f (k + 1) a0 a1) := by
 intro a0 a1 k
 have ih0 := ebbtideref10_Same.mono_l k
 unfold ebbtideref10_Same.f
 repeat' first
   | (with_reducible exact ih0 _ _ _)
   | (with_reducible exact LeO.refl _)
   | (with_reducible exact LeO.none _)
   | (with_reducible refine LeO.ite ?_ ?_)
   | (with_reducible refine LeO.bind ?_ (fun _ => ?_))
   | exact ih0 _ _ _
   | exact LeO.none _
   | refine LeO.ite ?_ ?_
   | refine LeO.bind ?_ (fun _ => ?_)
set_option maxHeartbeats 8000000 in
set_option maxRecDepth 100000 in
theorem ebbtideref10_Same.calls (k : Nat) (A0 : Option Addr) (c0 : Nat) (l0 : List Bool) (A1 : Option Addr) (c1 : Nat) (l1 : List Bool) (r : Bool) (w : World) (hr0 : Kd.C Kd.bool w A0 l0.length l0) (hc0 : l0.length ≤ c0) (hr1 : Kd.C Kd.bool w A1 l1.length l1) (hc1 : l1.length ≤ c1) (h : ebbtideref10_Same.f k l0 l1 = some r) :
  Calls Try.prog 42 #[.slice A0 l0.length c0, .slice A1 l1.length c1] w fun e w' => e = .returned (.bool r) ∧ Drawn0 w w' := by
 have HR0 := Aside0.mk hr0
 have HC0 := Aside0.mk hc0
 clear hr0 hc0
 have HR1 := Aside0.mk hr1
 have HC1 := Aside0.mk hc1
 clear hr1 hc1
 have H : (if (l0.length : Int) = (l1.length : Int) then (ebbtideref10_Same.l0 k l0 l1 0) else (some false)) = some r := h
 clear h
 by_cases c3 : (l0.length : Int) = (l1.length : Int)
 rotate_left
 ·rw [if_neg c3] at H
  have c3b0 : ((l0.length : Int) == (l1.length : Int)) = false := beq_eq_false_iff_ne.mpr c3
  have c3b1 : ((l0.length : Int) != (l1.length : Int)) = true := bne_iff_ne.mpr c3
  have c3b2 : (l0.length == l1.length) = false := by first | simpa using c3 | (simp at c3 ⊢; omega)
  obtain rfl := Option.some.inj H
  go_enter Try.func42, Try.ntmps42
  go_wp2
  repeat (go_quiet (fail); try go_wp2)
  go_ret
  exact ⟨by first | rfl | (simp; done) | (simp [*]; done), by repeat (first | exact Drawn0.refl _ | apply Drawn0.step)⟩
 rw [if_pos c3] at H
 have c3b0 : ((l0.length : Int) == (l1.length : Int)) = true := beq_iff_eq.mpr c3
 have c3b1 : ((l0.length : Int) != (l1.length : Int)) = false := bne_eq_false_iff_eq.mpr c3
 have c3b2 : (l0.length == l1.length) = true := by first | simpa using c3 | (simp at c3 ⊢; omega)
 clear c3
 have H' := Aside0.mk H
 clear H
 go_enter Try.func42, Try.ntmps42
 go_wp2
 repeat (go_quiet (fail); try go_wp2)
 go_loopg [5] k (fun kq v5 w' => ∃ (x5_1 : Int), v5 = .int .i64 x5_1 ∧ Aside0 (ebbtideref10_Same.l0 kq l0 l1 x5_1 = some r) ∧ Aside0 (kq ≤ k) ∧ Drawn0 w w')
 case atStart => exact ⟨(0), (by first | rfl | (simp; done) | (simp [*]; done)), H', ⟨Nat.le_refl _⟩, by repeat (first | exact Drawn0.refl _ | apply Drawn0.step)⟩
 case round =>
  clear H'
  try clear c1
  try clear p2
  try clear c3
  try clear c3b0
  try clear c3b1
  try clear c3b2
  obtain ⟨x5_1, rfl, HA, HK1, ⟨m1, rfl⟩⟩ := hrel
  cases gk with
  | zero => exact absurd HA.out (by simp [ebbtideref10_Same.l0])
  | succ k1 =>
   have H := HA.out
   clear HA
   simp only [ebbtideref10_Same.l0] at H
   by_cases c4 : x5_1 < (l0.length : Int)
   rotate_left
   ·rw [if_neg c4] at H
    have c4b0 : decide (x5_1 < (l0.length : Int)) = false := decide_eq_false c4
    clear c4
    obtain rfl := Option.some.inj H
    go_wp2
    repeat (go_quiet (fail); try go_wp2)
    go_ret
    exact ⟨by first | rfl | (simp; done) | (simp [*]; done), by repeat (first | exact Drawn0.refl _ | apply Drawn0.step)⟩
   rw [if_pos c4] at H
   have c4b0 : decide (x5_1 < (l0.length : Int)) = true := decide_eq_true c4
   clear c4
   by_cases c5 : 0 ≤ x5_1
   rotate_left
   ·rw [if_neg c5] at H
    exact absurd H (by simp)
   rw [if_pos c5] at H
   have c5b0 : decide (0 ≤ x5_1) = true := decide_eq_true c5
   clear c5
   by_cases c6 : x5_1 < (l1.length : Int)
   rotate_left
   ·rw [if_neg c6] at H
    exact absurd H (by simp)
   rw [if_pos c6] at H
   have c6b0 : decide (x5_1 < (l1.length : Int)) = true := decide_eq_true c6
   clear c6
   by_cases c7 : ((rdOf false l0 x5_1) != (rdOf false l1 x5_1)) = true
   ·rw [if_pos c7] at H
    have c7b0 : ((rdOf false l0 x5_1) != (rdOf false l1 x5_1)) = true := c7
    (try (have c7b1 : decide ((rdOf false l0 x5_1) = (rdOf false l1 x5_1)) = false := by simpa using c7))
    (try (have c7b2 : ((rdOf false l0 x5_1) == (rdOf false l1 x5_1)) = false := by simpa using c7))
    (try (have c7b3 : ¬ ((rdOf false l0 x5_1) = (rdOf false l1 x5_1)) := by simpa using c7))
    clear c7
    obtain rfl := Option.some.inj H
    have p217 : 0 ≤ (x5_1 : Int) := of_decide_eq_true (by first | (with_reducible assumption) | assumption)
    have q217 : x5_1 < (l0.length : Int) := of_decide_eq_true (by first | (with_reducible assumption) | assumption)
    obtain ⟨ad217, e217, hx217_0⟩ := Kd.at_bool HR0.out x5_1 p217 q217
    cases e217
    replace p217 := eq_true p217
    replace q217 := eq_true q217
    have p218 : 0 ≤ (x5_1 : Int) := of_decide_eq_true (by first | (with_reducible assumption) | assumption)
    have q218 : x5_1 < (l1.length : Int) := of_decide_eq_true (by first | (with_reducible assumption) | assumption)
    obtain ⟨ad218, e218, hx218_0⟩ := Kd.at_bool HR1.out x5_1 p218 q218
    cases e218
    replace p218 := eq_true p218
    replace q218 := eq_true q218
    go_wp2
    repeat (go_quiet (fail); try go_wp2)
    go_ret
    exact ⟨by first | rfl | (simp; done) | (simp [*]; done), by repeat (first | exact Drawn0.refl _ | apply Drawn0.step)⟩
   rw [if_neg c7] at H
   have c7b0 : ((rdOf false l0 x5_1) != (rdOf false l1 x5_1)) = false := by simpa using c7
   (try (have c7b1 : decide ((rdOf false l0 x5_1) = (rdOf false l1 x5_1)) = true := by simpa using c7))
   (try (have c7b2 : ((rdOf false l0 x5_1) == (rdOf false l1 x5_1)) = true := by simpa using c7))
   clear c7
   have H' := Aside0.mk H
   clear H
   have p217 : 0 ≤ (x5_1 : Int) := of_decide_eq_true (by first | (with_reducible assumption) | assumption)
   have q217 : x5_1 < (l0.length : Int) := of_decide_eq_true (by first | (with_reducible assumption) | assumption)
   obtain ⟨ad217, e217, hx217_0⟩ := Kd.at_bool HR0.out x5_1 p217 q217
   cases e217
   replace p217 := eq_true p217
   replace q217 := eq_true q217
   have p218 : 0 ≤ (x5_1 : Int) := of_decide_eq_true (by first | (with_reducible assumption) | assumption)
   have q218 : x5_1 < (l1.length : Int) := of_decide_eq_true (by first | (with_reducible assumption) | assumption)
   obtain ⟨ad218, e218, hx218_0⟩ := Kd.at_bool HR1.out x5_1 p218 q218
   cases e218
   replace p218 := eq_true p218
   replace q218 := eq_true q218
   go_wp2
   repeat (go_quiet (fail); try go_wp2)
   go_roundg k1
   case measure => have := HK1.out; omega
   case rel => exact ⟨(wrap64 (x5_1 + 1)), (by first | rfl | (simp; done) | (simp [*]; done)), H', ⟨by have := HK1.out; omega⟩, by repeat (first | exact Drawn0.refl _ | apply Drawn0.step)⟩
end Go.Proofs.Ytkcpanpdipmmmaa.P
