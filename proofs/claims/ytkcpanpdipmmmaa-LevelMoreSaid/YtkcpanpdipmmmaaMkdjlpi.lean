/- What the law's row needs of these texts, taken out of them by wip/tool/mini.py: QFarsWalk QSortNil QSortRow QAt P79 QEndsLaw QRightOf QLevelWalk P178 P175 P1 P75 P76 P179 P86. -/
import Derived.Test.YtkcpanpdipmmmaaMohgnmh
import Derived.Test.YtkcpanpdipmmmaaMgdmdlc
import Derived.Test.YtkcpanpdipmmmaaMediggh
set_option linter.unusedVariables false
set_option linter.unusedSimpArgs false
namespace Go.Proofs.Ytkcpanpdipmmmaa.H
open Go.RowKit Go.Proofs.YtkcpanpdipmmmaaW.PrintWords Go.Proofs.YtkcpanpdipmmmaaW.PrintLast Go.Proofs.YtkcpanpdipmmmaaW.PrintMore Go.Proofs.Ytkcpanpdipmmmaa.P
attribute [local irreducible] wpQuiet
theorem fromS_f {l : List S74} {F : List Int} {n : Nat} (hr : Right l F n) {s : S38} (hs : StepOf l s) (a : Int) (b : Bool) : static_Flowing_From.f a b l F s.f0 s.f1 = some (stFrom l s) := by
 obtain ⟨i, h1, h2⟩ := hs
 unfold static_Flowing_From.f stFrom eFrom eTo
 rw [h2]
 cases s.f1 <;> simp [h1]
set_option maxHeartbeats 2000000 in
set_option maxRecDepth 100000 in
theorem far_calls (n0 : Nat) (a0_1 : Bool) (A2 : Option Addr) (c2 : Nat) (l : List S74) (A3 : Option Addr) (c3 : Nat) (F : List Int) (A4 : Option Addr) (c4 : Nat) (s : Nat) (w : World)
  (hR : Right l F n0) (hs : s < n0) (hc2 : l.length ≤ c2) (hc3 : F.length ≤ c3) (h2 : Kd.C k74 w A2 l.length l) (h3 : Kd.C (Kd.int .i64) w A3 F.length F) (h4 : (Kd.slice 38 k38).C w A4 n0 (rowsAt l n0 n0)) :
  Calls Try.prog 108 #[.agg #[.int .i64 n0, .bool a0_1, .slice A2 l.length c2, .slice A3 F.length c3, .slice A4 n0 c4], .int .i64 (s : Int)] w fun e w' => ∃ gd : Nat, e = .returned (.slice (some ⟨gd, 0, none⟩) n0 n0) ∧ w.heap.size ≤ gd ∧ IsI w' gd (dOf n0 (bfP l F n0 s)) ∧ Below w.heap.size w w' := by
 have hu118 := Try.underlying118
 have HR := Aside0.mk hR
 have HC2 := Aside0.mk hc2
 have HC3 := Aside0.mk hc3
 have H2 := Aside0.mk h2
 have H3 := Aside0.mk h3
 have H4 := Aside0.mk h4
 have HB := Aside0.mk (Below.refl w.heap.size w)
 clear hR h2 h3 h4 hc2 hc3
 go_enter Try.func108, Try.ntmps108
 go_wp2_with (first | ((with_reducible refine gate_dst (N := 2) rfl ?_); refine box_event ?hg (N := 2) ?hd (cs := #[.int .i64 n0, .bool a0_1, .slice A2 l.length c2, .slice A3 F.length c3, .slice A4 n0 c4]) (t := 118) ?hr ?_; (case hd => rfl); (case hg => rfl); (case hr => first | (go_simp; done) | (go_simp; rfl)); intro g3 hg w5 hbox hb; have n0_ := Aside0.mk (below_step HB.out hb); have B3 := Aside0.mk hbox; clear HB; have HB := n0_; have GE3 : Aside0 (w.heap.size ≤ g3) := ⟨Nat.le_of_eq hg.symm⟩; clear n0_ hb hbox hg; have c0 : w5.cell? ⟨g3, 0, none⟩ = some (.int .i64 n0) := (blk_cell B3.out 0).trans rfl; have c1 : w5.cell? ⟨g3, 1, none⟩ = some (.bool a0_1) := (blk_cell B3.out 1).trans rfl; have c2_ : w5.cell? ⟨g3, 2, none⟩ = some (.slice A2 l.length c2) := (blk_cell B3.out 2).trans rfl; have c3_ : w5.cell? ⟨g3, 3, none⟩ = some (.slice A3 F.length c3) := (blk_cell B3.out 3).trans rfl; have c4_ : w5.cell? ⟨g3, 4, none⟩ = some (.slice A4 n0 c4) := (blk_cell B3.out 4).trans rfl) | (go_at_call 145; refine (seek_calls n0 a0_1 A2 c2 l A3 c3 F A4 c4 s (-1) _ HR.out hs (by omega) HC2.out HC3.out (Kd.C_below H2.out HB.out) (Kd.C_below H3.out HB.out) (Kd.C_below H4.out HB.out)).mono ?_; rintro e_ w6 ⟨gd, gb, st, rfl, hg1, hg2, hg3, hd, hs_, hb, hsn⟩; have HD := Aside0.mk hd; have HSN := Aside0.mk hsn; have HG := Aside0.mk hg1; have m0_ := Aside0.mk (below_step HB.out hb); have HS5 := HB.out.size; clear HB B3 hd hs_ hb hsn hg1 hg2 hg3 c0 c1 c2_ c3_ c4_; have HB := m0_; clear m0_) | fail)
 go_ret
 have e : _ = bfP l F n0 s := HSN.out.hit.resolve_right (by rintro ⟨tn, h1, _⟩; omega)
 refine ⟨gd, rfl, by have := HG.out; omega, ?_, HB.out⟩
 have h_ := HD.out
 rw [e] at h_
 exact h_
theorem bOf_mem {n : Nat} {st : List (Fd S38)} (h : (nodes st).Nodup) {x : Fd S38} (hx : x ∈ st) (z d : S38) (hv : x.v < n) : (bOf z n st).getD x.v d = x.by_ := by
 rw [bOf_get z st d hv, fnd_of h hx]
theorem back_step {l : List S74} {F : List Int} {s : Nat} {st : List (Fd S38)} (h : Fds (frP l) (toP l) (esP l F) s st) {x : Fd S38} (hx : x ∈ st) (hne : x.v ≠ s) :
  ∃ y, y ∈ st ∧ x.by_ ∈ esP l F y.v ∧ x.lv = y.lv + 1 ∧ frP l x.by_ = y.v ∧ backL (frP l) st s x.lv x.v = x.by_ :: backL (frP l) st s y.lv y.v := by
 rcases h.mem_lv hx with ⟨h1, _⟩ | ⟨_, _, y, hy, h4, h5⟩
 ·exact absurd h1 hne
 ·refine ⟨y, hy, h4, h5, esP_fr _ _ h4, ?_⟩
  rw [h5]
  rw [backL, if_neg hne, fnd_of h.nodup hx]
  show x.by_ :: _ = _
  rw [esP_fr _ _ h4]
theorem back_end {fr : S38 → Nat} {st : List (Fd S38)} {s k : Nat} : backL fr st s k s = [] := by
 cases k with
 | zero => rfl
 | succ k => rw [backL, if_pos rfl]
theorem way_of {l : List S74} {F : List Int} {n s : Nat} {st : List (Fd S38)} (hr : Right l F n) (hs : s < n) (h : Fds (frP l) (toP l) (esP l F) s st) (hp : ∃ r, bfP l F n s = st ++ r) {x : Fd S38} (hx : x ∈ st) : wayP l F n s x.v = (backL (frP l) st s x.lv x.v).reverse := by
 obtain ⟨r, hr1⟩ := hp
 unfold wayP
 rw [if_pos (by rw [hr1, nodes_app]; exact List.mem_append_left _ (List.mem_map_of_mem hx))]
 unfold wayL
 rw [hr1, backL_more h esP_fr r x.lv hx (Nat.le_refl _) (by rw [List.length_append]; have := lv_lt h hx; omega)]
set_option maxHeartbeats 2000000 in
set_option maxRecDepth 100000 in
theorem way_calls (n0 : Nat) (a0_1 : Bool) (A2 : Option Addr) (c2 : Nat) (l : List S74) (A3 : Option Addr) (c3 : Nat) (F : List Int) (A4 : Option Addr) (c4 : Nat) (s t : Nat) (w : World)
  (hR : Right l F n0) (hs : s < n0) (ht : t < n0) (hts : s ≠ t) (hc2 : l.length ≤ c2) (hc3 : F.length ≤ c3) (h2 : Kd.C k74 w A2 l.length l) (h3 : Kd.C (Kd.int .i64) w A3 F.length F) (h4 : (Kd.slice 38 k38).C w A4 n0 (rowsAt l n0 n0)) :
  Calls Try.prog 112 #[.agg #[.int .i64 n0, .bool a0_1, .slice A2 l.length c2, .slice A3 F.length c3, .slice A4 n0 c4], .int .i64 (s : Int), .int .i64 (t : Int)] w fun e w' => ∃ v : Value, e = .returned (.tuple #[v, .bool (decide (t ∈ nodes (bfP l F n0 s)))]) ∧ Kd.R k38 38 w' w.heap.size (fun _ => True) v (wayP l F n0 s t) ∧ Below w.heap.size w w' := by
 have hu118 := Try.underlying118
 have hu115 := Try.underlying115
 have HR := Aside0.mk hR
 have HC2 := Aside0.mk hc2
 have HC3 := Aside0.mk hc3
 have H2 := Aside0.mk h2
 have H3 := Aside0.mk h3
 have H4 := Aside0.mk h4
 have HB := Aside0.mk (Below.refl w.heap.size w)
 have hn50 := hR.fifty
 have pt : (0 : Int) ≤ (t : Int) := by omega
 have qt : (t : Int) < (n0 : Int) := by omega
 clear hR h2 h3 h4 hc2 hc3
 go_enter Try.func112, Try.ntmps112
 go_upto_region 2 with (first | ((with_reducible refine gate_dst (N := 3) rfl ?_); refine box_event ?hg (N := 3) ?hd (cs := #[.int .i64 n0, .bool a0_1, .slice A2 l.length c2, .slice A3 F.length c3, .slice A4 n0 c4]) (t := 118) ?hr ?_; (case hd => rfl); (case hg => rfl); (case hr => first | (go_simp; done) | (go_simp; rfl)); intro g3 hg w5 hbox hb; have n0_ := Aside0.mk (below_step HB.out hb); have B3 := Aside0.mk hbox; clear HB; have HB := n0_; have GE3 : Aside0 (w.heap.size ≤ g3) := ⟨Nat.le_of_eq hg.symm⟩; clear n0_ hb hbox hg; have c0 : w5.cell? ⟨g3, 0, none⟩ = some (.int .i64 n0) := (blk_cell B3.out 0).trans rfl; have c1 : w5.cell? ⟨g3, 1, none⟩ = some (.bool a0_1) := (blk_cell B3.out 1).trans rfl; have c2_ : w5.cell? ⟨g3, 2, none⟩ = some (.slice A2 l.length c2) := (blk_cell B3.out 2).trans rfl; have c3_ : w5.cell? ⟨g3, 3, none⟩ = some (.slice A3 F.length c3) := (blk_cell B3.out 3).trans rfl; have c4_ : w5.cell? ⟨g3, 4, none⟩ = some (.slice A4 n0 c4) := (blk_cell B3.out 4).trans rfl) | (go_at_call 145; refine (seek_calls n0 a0_1 A2 c2 l A3 c3 F A4 c4 s (t : Int) _ HR.out hs (by omega) HC2.out HC3.out (Kd.C_below H2.out HB.out) (Kd.C_below H3.out HB.out) (Kd.C_below H4.out HB.out)).mono ?_; rintro e_ w6 ⟨gd, gb, st, rfl, hg1, hg2, hg3, hd, hs_, hb, hsn⟩; have HD := Aside0.mk hd; have HS := Aside0.mk hs_; have HSN := Aside0.mk hsn; have HG : Aside0 (g3 ≠ gd ∧ g3 ≠ gb ∧ gd ≠ gb ∧ w.heap.size ≤ gd ∧ w.heap.size ≤ gb) := ⟨by have := blk_lt B3.out; have := HB.out.size; omega⟩; have m0_ := Aside0.mk (below_step HB.out hb); have m1_ := Aside0.mk (blk_below B3.out hb); clear HB B3 hd hs_ hb hsn hg1 hg2 hg3 c0 c1 c2_ c3_ c4_; have HB := m0_; have B3 := m1_; clear m0_ m1_) | fail)
 obtain ⟨y, hy⟩ : ∃ y_, y_ = (dOf n0 st).getD t 0 := ⟨_, rfl⟩
 have hcy : w6.cell? ⟨gd, t, none⟩ = some (.int .i64 y) := by rw [hy]; exact HD.out.cell (by rw [dOf_len]; exact ht)
 have hneg := dOf_neg st 0 ht
 rw [← hy] at hneg
 clear hy
 by_cases hmem : t ∈ nodes st
 ·have ey : decide (y < 0) = false := decide_eq_false (fun h => hneg.1 h hmem)
  obtain ⟨x0, hx0, hxt⟩ := List.mem_map.1 hmem
  clear hneg hmem
  have hstn := fds_len HSN.out.fds (esP_to HR.out) hs
  have HX0 := Aside0.mk hx0
  have HXT := Aside0.mk hxt
  clear hx0 hxt
  go_wp2_with fail
  clear hcy HD
  have m0_ := Aside0.mk (below_alloc HB.out (.cells #[] 38))
  have m1_ := Aside0.mk (HS.out.below (below_alloc (Below.refl _ _) (.cells #[] 38)))
  have m2_ := Aside0.mk (blk_below B3.out (below_alloc (Below.refl _ _) (.cells #[] 38)))
  have HO : Aside0 (Kd.R k38 38 (w6.alloc (.cells #[] 38)) w.heap.size (fun k => k ≠ gb ∧ k ≠ g3) (.slice (some ⟨w6.heap.size, 0, none⟩) 0 0) []) := ⟨IsS.R (B := []) (heap_alloc_new w6 _) (by simp) HB.out.size ⟨by have := HS.out.lt; omega, by have := blk_lt B3.out; omega⟩⟩
  clear HB HS B3
  have HB := m0_
  have HS := m1_
  have B3 := m2_
  clear m0_ m1_ m2_
  generalize w6.alloc (.cells #[] 38) = w7 at *
  generalize Value.slice (some ⟨w6.heap.size, 0, none⟩) 0 0 = v0 at *
  go_loopw [10, 11] (fun v10 v11 w' => ∃ (x : Fd S38) (O : List S38), v11 = .int .i64 x.v ∧ x ∈ st ∧ Aside0 (O ++ backL (frP l) st s x.lv x.v = backL (frP l) st s x0.lv x0.v) ∧ O.length + x.lv ≤ 50 ∧ Aside0 (Kd.R k38 38 w' w.heap.size (fun k => k ≠ gb ∧ k ≠ g3) v10 O) ∧ Aside0 (IsS w' gb (bOf z38 n0 st)) ∧ Aside0 (w'.heap[g3]? = some (.cells #[.int .i64 n0, .bool a0_1, .slice A2 l.length c2, .slice A3 F.length c3, .slice A4 n0 c4] 118 (0, 0))) ∧ Aside0 (Below w.heap.size w w')) (fun _ v11 _ => ((dOf n0 st).getD (intOf v11).toNat 0).toNat)
  case atStart => exact ⟨x0, [], by rw [HXT.out], HX0.out, ⟨rfl⟩, by have := lv_lt HSN.out.fds HX0.out; show 0 + _ ≤ 50; omega, HO, HS, B3, HB⟩
  case round =>
   clear HO HS B3 HB
   obtain ⟨x, O, rfl, hx, HBK, hlen, HO, HS, B3, HB⟩ := hrel
   have hxn : x.v < n0 := fds_lt HSN.out.fds (esP_to HR.out) hs _ (List.mem_map_of_mem hx)
   by_cases hxs : x.v = s
   ·have e1 : ((x.v : Int) != (s : Int)) = false := by rw [hxs]; simp
    have hO : O = backL (frP l) st s x0.lv x0.v := by
     have h_ := HBK.out
     rw [hxs, back_end, List.append_nil] at h_
     exact h_
    have hlp : 0 < O.length := by
     rw [hO, (backL_spec HSN.out.fds esP_fr x0.lv HX0.out (Nat.le_refl _)).1]
     rcases HSN.out.fds.mem_lv HX0.out with ⟨h1, _⟩ | ⟨_, _, _, _, _, h5⟩
     ·rw [HXT.out] at h1; exact absurd h1.symm hts
     ·omega
    have HWY : Aside0 (wayP l F n0 s t = O.reverse) := ⟨by rw [← HXT.out, way_of HR.out hs HSN.out.fds HSN.out.pre HX0.out, hO]⟩
    have HIN : Aside0 (t ∈ nodes (bfP l F n0 s)) := ⟨by
     obtain ⟨r, hr⟩ := HSN.out.pre
     rw [hr, nodes_app, ← HXT.out]
     exact List.mem_append_left _ (List.mem_map_of_mem HX0.out)⟩
    have HOL : Aside0 (O.length ≤ 50) := ⟨by omega⟩
    have HLP := Aside0.mk hlp
    clear hO hlp hlen hxs
    go_wp2_with (first | (go_at_call 148; refine (reverse_row w.heap.size _ u10 O _ HO.out HLP.out (by have := HOL.out; omega)).mono ?_; rintro e_ w9 ⟨rfl, hr, hg⟩; have m0_ := Aside0.mk hr; have m1_ := Aside0.mk (pw_below_grown HB.out _ HB.out.size hg (fun k hk => Kd.R_base HO.out k hk)); clear HO HB hr hg; have HO := m0_; have HB := m1_; clear m0_ m1_) | fail)
    go_ret2
    exact ⟨u10, by rw [decide_eq_true HIN.out]; rfl, by rw [HWY.out]; exact Kd.R_mono HO.out (fun _ _ => trivial), HB.out⟩
   ·have e1 : ((x.v : Int) != (s : Int)) = true := by rw [bne_iff_ne]; omega
    obtain ⟨z, hz, hze, hlv, hfz, hbk⟩ := back_step HSN.out.fds hx hxs
    obtain ⟨b0, b1⟩ := HS.out.cell z38 (j := x.v) (by rw [bOf_len]; exact hxn)
    rw [bOf_mem HSN.out.fds.nodup hx _ _ hxn] at b0 b1
    have hso : StepOf l x.by_ := stL_of (mem_esP.1 hze).1
    have hfr : stFrom l x.by_ = (z.v : Int) := by have h_ := stFrom_in HR.out hso; unfold frP at hfz; omega
    have hfm := fromS_f HR.out hso (n0 : Int) a0_1
    rw [hfr] at hfm
    obtain ⟨e, hee⟩ : ∃ e_, e_ = x.by_ := ⟨_, rfl⟩
    rw [← hee] at b0 b1 hfm hbk
    have HFM := Aside0.mk hfm
    have HEE := Aside0.mk hee
    have HBK2 : Aside0 ((O ++ [e]) ++ backL (frP l) st s z.lv z.v = backL (frP l) st s x0.lv x0.v) := ⟨by rw [← HBK.out, hbk, List.append_assoc]; rfl⟩
    have HZ := Aside0.mk hz
    have HLV := Aside0.mk hlv
    have hl2 : (O ++ [e]).length + z.lv ≤ 50 := by rw [List.length_append, List.length_singleton]; omega
    have HL2 := Aside0.mk hl2
    have hOl : O.length ≤ 50 := by omega
    have hmz : ((dOf n0 st).getD z.v 0).toNat < ((dOf n0 st).getD x.v 0).toNat := by
     rw [dOf_mem HSN.out.fds.nodup hz 0 (fds_lt HSN.out.fds (esP_to HR.out) hs _ (List.mem_map_of_mem hz)), dOf_mem HSN.out.fds.nodup hx 0 hxn]
     omega
    have HMZ := Aside0.mk hmz
    have px : (0 : Int) ≤ (x.v : Int) := by omega
    have qx : (x.v : Int) < (n0 : Int) := by omega
    clear hz hze hlv hfz hbk hso hfr hfm hee HBK hlen hl2 hmz
    go_wp2_with (first | ((with_reducible refine gate_builtin (b := .append) (xs := #[.tmp 36, .tmp 41]) rfl ?_); at_builtin; refine Kd.R_append k38 (w0 := w) w.heap.size rfl (.tmp 36) (.tmp 41) 34 38 (.agg #[(.int .i64 0), (.bool false)]) 16 rfl Try.underlying34 info38 rfl (by decide) (by omega) u10 O e [.int .i64 e.f0, .bool e.f1] (fun k => k ≠ gb ∧ k ≠ g3) (fun _ => False) rfl rfl ?aP (fun _ hk => hk.elim) ?aF ?aO ?aB ?aS ?aL ?_; (case aP => exact k38_mkM _ _ _ e); (case aF => exact (fun k hk => ⟨by have := HS.out.lt; omega, by have := blk_lt B3.out; omega⟩)); (case aO => exact HO.out); (case aB => exact HB.out); (case aS => exact HB.out.size); (case aL => omega); intro v1 w9 ho hb hg hat; have m0_ := Aside0.mk ho; have m1_ := Aside0.mk hb; have m2_ := Aside0.mk (HS.out.same (hg.block gb HS.out.lt (fun h => (HO.out.1 gb h.symm).1 rfl))); have m3_ := Aside0.mk ((hg.block g3 (blk_lt B3.out) (fun h => (HO.out.1 g3 h.symm).2 rfl)).trans B3.out); clear HO HS B3 HB ho hb hg hat b0 b1; have HO := m0_; have HB := m1_; have HS := m2_; have B3 := m3_; clear m0_ m1_ m2_ m3_) | fail)
    obtain ⟨d0, d1⟩ := HS.out.cell z38 (j := x.v) (by rw [bOf_len]; exact hxn)
    rw [bOf_mem HSN.out.fds.nodup hx _ _ hxn, ← HEE.out] at d0 d1
    have q0 : ∀ p : BelowW w9, p.at_.cell? ⟨g3, 0, none⟩ = some (.int .i64 n0) := fun p => p.cell ((blk_cell B3.out 0).trans rfl)
    have q1 : ∀ p : BelowW w9, p.at_.cell? ⟨g3, 1, none⟩ = some (.bool a0_1) := fun p => p.cell ((blk_cell B3.out 1).trans rfl)
    have q2 : ∀ p : BelowW w9, p.at_.cell? ⟨g3, 2, none⟩ = some (.slice A2 l.length c2) := fun p => p.cell ((blk_cell B3.out 2).trans rfl)
    have q3 : ∀ p : BelowW w9, p.at_.cell? ⟨g3, 3, none⟩ = some (.slice A3 F.length c3) := fun p => p.cell ((blk_cell B3.out 3).trans rfl)
    have q4 : ∀ p : BelowW w9, p.at_.cell? ⟨gb, x.v * 2, none⟩ = some (.int .i64 e.f0) := fun p => p.cell d0
    have q5 : ∀ p : BelowW w9, p.at_.cell? ⟨gb, x.v * 2 + 1, none⟩ = some (.bool e.f1) := fun p => p.cell d1
    have HCA : Aside0 (∀ p : BelowW w9, Kd.C k74 p.at_ A2 l.length l) := ⟨fun p => Kd.C_below (Kd.C_below H2.out HB.out) p.below⟩
    have HCF : Aside0 (∀ p : BelowW w9, Kd.C (Kd.int .i64) p.at_ A3 F.length F) := ⟨fun p => Kd.C_below (Kd.C_below H3.out HB.out) p.below⟩
    clear d0 d1
    refine wp_region_quiet_below (by kernel_rfl) (by kernel_rfl) ?_; (repeat (quiet_step ((first | (go_at_call 106; exact calls_below_of (static_Flowing_From.calls (n0 : Int) a0_1 A2 c2 l A3 c3 F e.f0 e.f1 (z.v : Int) _ (HCA.out _) HC2.out (HCF.out _) HC3.out HFM.out)))))); refine wpQuiet_nil ?_; intro wq hw'; obtain ⟨⟨wz, hbq⟩, hwq⟩ := hw'; subst hwq
    have m0_ := Aside0.mk (Kd.R_below HO.out hbq)
    have m1_ := Aside0.mk (HS.out.below hbq)
    have m2_ := Aside0.mk (blk_below B3.out hbq)
    have m3_ := Aside0.mk (below_step HB.out hbq)
    clear HO HS B3 HB HCA HCF q0 q1 q2 q3 q4 q5 hbq
    have HO := m0_
    have HS := m1_
    have B3 := m2_
    have HB := m3_
    clear m0_ m1_ m2_ m3_
    go_wp2_with fail
    go_roundw
    case rel => exact ⟨z, O ++ [e], rfl, HZ.out, HBK2, HL2.out, HO, HS, B3, HB⟩
    case measure => have h_ := HMZ.out; simpa [intOf] using h_
 ·have ey : decide (y < 0) = true := decide_eq_true (hneg.2 hmem)
  have hfull : t ∉ nodes (bfP l F n0 s) := by
   rcases HSN.out.hit with h | ⟨tn, h1, h2⟩
   ·rw [← h]; exact hmem
   ·have : tn = t := by omega
    subst this
    exact absurd h2 hmem
  have HFU := Aside0.mk hfull
  clear hneg hmem hfull
  go_wp2_with fail
  go_ret2
  refine ⟨.slice none 0 0, by rw [decide_eq_false HFU.out]; rfl, ?_, HB.out⟩
  unfold wayP
  rw [if_neg HFU.out]
  exact Kd.R_nil _ _ _ _ _
end Go.Proofs.Ytkcpanpdipmmmaa.H
namespace Go.Proofs.Ytkcpanpdipmmmaa.H
open Go.RowKit Go.Proofs.YtkcpanpdipmmmaaW.PrintWords Go.Proofs.YtkcpanpdipmmmaaW.PrintLast Go.Proofs.YtkcpanpdipmmmaaW.PrintMore Go.Proofs.Ytkcpanpdipmmmaa.P
set_option maxHeartbeats 1000000 in
set_option maxRecDepth 100000 in
theorem insertion_nil (A : Option Addr) (cap : Nat) (f : Value) (w : World) :
  Calls Try.prog 169 #[.slice A 0 cap, .int .i64 0, .int .i64 0, f] w fun e w' => e = .returned (.tuple #[]) ∧ w' = w := by
 go_enter Try.func169, Try.ntmps169
 go_wp2
 go_loopw [8] (fun i wr => i = .int .i64 1 ∧ Aside0 (wr = w)) (fun i _ => 0)
 case atStart => exact ⟨by go_num, ⟨rfl⟩⟩
 case round =>
  obtain ⟨rfl, HW⟩ := hrel
  go_wp2
  go_end0
  exact ⟨rfl, HW.out⟩
set_option maxHeartbeats 1000000 in
set_option maxRecDepth 100000 in
theorem stable_nil (A : Option Addr) (cap : Nat) (f : Value) (w : World) :
  Calls Try.prog 162 #[.slice A 0 cap, .int .i64 0, f] w fun e w' => e = .returned (.tuple #[]) ∧ w' = w := by
 go_enter Try.func162, Try.ntmps162
 go_wp2_with fail
 go_loopw [7, 8] (fun va vb wr => va = .int .i64 0 ∧ vb = .int .i64 20 ∧ Aside0 (wr = w)) (fun va _ _ => 0)
 case atStart => exact ⟨by go_num, by go_num, ⟨rfl⟩⟩
 case round =>
  obtain ⟨rfl, rfl, HW⟩ := hrel
  go_wp2_with fail
  refine (insertion_nil A cap f _).mono ?_
  rintro e1 w1 ⟨rfl, rfl⟩
  go_wp2_with fail
  go_loopw [6] (fun vs wr => vs = .int .i64 20 ∧ Aside0 (wr = w)) (fun vs _ => 0)
  case atStart => exact ⟨by go_num, HW⟩
  case round =>
   clear HW
   obtain ⟨rfl, HW⟩ := hrel
   go_wp2_with fail
   go_end0
   exact ⟨rfl, HW.out⟩
theorem sortStable_nil (A : Option Addr) (cap : Nat) (f : Value) (w : World) :
  Calls Try.prog 143 #[.slice A 0 cap, f] w fun e w' => e = .returned (.tuple #[]) ∧ w' = w := by
 go_enter Try.func143, Try.ntmps143
 go_wp2_with fail
 refine (stable_nil A cap f w).mono ?_
 rintro e1 w1 ⟨rfl, rfl⟩
 go_wp2_with fail
 go_end0
 exact ⟨rfl, rfl⟩
end Go.Proofs.Ytkcpanpdipmmmaa.H
namespace Go.Proofs.Ytkcpanpdipmmmaa.H
open Go.RowKit Go.Proofs.YtkcpanpdipmmmaaW.PrintWords Go.Proofs.YtkcpanpdipmmmaaW.PrintLast Go.Proofs.YtkcpanpdipmmmaaW.PrintMore Go.Proofs.Ytkcpanpdipmmmaa.P
theorem stL_nil {l : List S74} {n : Nat} {v : Int} (hv0 : 0 ≤ v) (hv : v < n) (hE : ends l n) (h : stepsU l n v = []) : stL l v l.length = [] := by
 refine List.eq_nil_iff_forall_not_mem.2 fun s hs => ?_
 have := (mem_stepsU l n v hv0 hv hE s).2 ((mem_stL l v l.length s).1 hs)
 rw [h] at this
 cases this
theorem row_step (P : List S38) (L : List Int) (b : Bool) (j : Nat) (hj : j < L.length) : P ++ (L.take (j + 1)).map (fun i => (⟨i, b⟩ : S38)) = (P ++ (L.take j).map (fun i => (⟨i, b⟩ : S38))) ++ [⟨rd L (j : Int), b⟩] := by
 have e : L.take (j + 1) = L.take j ++ [rd L (j : Int)] := by
  rw [List.take_add_one, List.getElem?_eq_getElem hj]
  show _ ++ [L[j]] = _ ++ [L.getD (j : Int).toNat 0]
  rw [Int.toNat_natCast, List.getD_eq_getElem?_getD, List.getElem?_eq_getElem hj]
  rfl
 rw [e, List.map_append, List.append_assoc]
 rfl
theorem sort_row {w : World} {base go n co k N : Nat} {l : List S74} {X : List (List S38)} {oki : Nat → Prop} {A : Option Addr} {cr : Nat} {RW : List S38}
  (hH : Kd.H (Kd.slice 38 k38) 34 w base (fun _ => True) (.slice (some ⟨go, 0, none⟩) n co) X (k : Int) oki [.slice A RW.length cr])
  (hR : Kd.R k38 38 w base oki (.slice A RW.length cr) RW) (hRW : RW = stepsU l N (k : Int)) (hk : k < N) (hE : ends l N) (hl : l.length ≤ 1000000) (hlen : RW.length ≤ 1000000) :
  Calls Try.prog 143 #[.slice A RW.length cr, .func (.func 144) #[] #[]] w fun e w' => e = .returned (.tuple #[]) ∧
   ∃ v : Value, w.grownBy w' v.ownBlock ∧ (∀ g, v.ownBlock = some g → base ≤ g ∧ ∃ cells, w.heap[g]? = some (.cells cells 38 (0, 0))) ∧ Kd.S (Kd.slice 38 k38) 34 w' base (fun _ => True) (.slice (some ⟨go, 0, none⟩) n co) (X.set k (stL l k l.length)) := by
 have hk0 : 0 ≤ (k : Int) := by omega
 have hkn : (k : Int) < N := by omega
 by_cases hp : 0 < RW.length
 ·obtain ⟨g, cap, e, hb, _, cells, hcl⟩ := Kd.R_form hR hp
  injection e with e1 _ e3
  subst e1
  subst e3
  have hA := arr_of_R hR hp
  refine (sortStable_calls g RW.length cr (fun i => RW.getD i z38) w hA hlen ?_ ?_).mono ?_
  ·rw [hRW]; exact stab_of_list (stab_stepsU l N (k : Int) hk0 hkn hE)
  ·rw [hRW]; exact small_steps hk0 hkn hE hl
  ·rintro e w' ⟨rfl, ⟨K, hK, hs⟩, hf⟩
   refine ⟨rfl, .slice (some ⟨g, 0, none⟩) RW.length cr, hf.1, fun g' hg' => ?_, ?_⟩
   ·have : g = g' := by simpa [Value.ownBlock] using hg'
    subst this
    exact ⟨hb, cells, hcl⟩
   ·have hoki : oki g := hR.1 g rfl
    have hR' := R_of_arr hR rfl hp hK hf hoki
    have hst : (List.range RW.length).map K = stL l k l.length := by rw [hRW] at hs ⊢; exact sorted_is hk0 hkn hE hs
    rw [hst] at hR'
    have hS := Kd.H_back (Kd.H_grown hH hf.1 (fun q hq => by injection hq with hq; subst hq; exact hoki)) (x' := stL l k l.length) ⟨_, rfl, hR'⟩ (fun _ hk => hk)
    rw [Int.toNat_natCast] at hS
    exact hS
 ·have h0 : RW = [] := List.eq_nil_of_length_eq_zero (by omega)
  have hst : stL l k l.length = [] := stL_nil hk0 hkn hE (by rw [← hRW]; exact h0)
  subst h0
  refine (sortStable_nil A cr _ w).mono ?_
  rintro e w' ⟨rfl, rfl⟩
  refine ⟨rfl, .slice none 0 0, World.grownBy.refl _ _, fun g' hg' => by simp [Value.ownBlock] at hg', ?_⟩
  rw [hst]
  have hS := Kd.H_back hH (x' := ([] : List S38)) ⟨_, rfl, hR⟩ (fun _ hk => hk)
  rw [Int.toNat_natCast] at hS
  exact hS
end Go.Proofs.Ytkcpanpdipmmmaa.H
namespace Go.Proofs.Ytkcpanpdipmmmaa.H
open Go.RowKit Go.Proofs.YtkcpanpdipmmmaaW.PrintWords Go.Proofs.YtkcpanpdipmmmaaW.PrintLast Go.Proofs.YtkcpanpdipmmmaaW.PrintMore Go.Proofs.Ytkcpanpdipmmmaa.P
theorem infoRowS : (Try.prog.info? 34).map (fun i => (i.zero, i.size, i.bytes)) = some (some (.slice none 0 0), 1, 24) := by kernel_rfl
set_option maxHeartbeats 2000000 in
set_option maxRecDepth 100000 in
theorem at_calls (n0 : Nat) (a0_1 : Bool) (A0_2 : Option Addr) (c0_2 : Nat) (l0_2 : List S74) (A1 : Option Addr) (c1 n1 : Nat) (w : World) (hr0_2 : Kd.C k74 w A0_2 l0_2.length l0_2) (hc0_2 : l0_2.length ≤ c0_2) (h0 : 0 ≤ (n0 : Int)) (h1 : (n0 : Int) ≤ 1000000) (hl : l0_2.length ≤ 500000) (hE0 : ∀ k : Nat, k < l0_2.length → 0 ≤ eFrom (rd_T74 l0_2 k) ∧ eFrom (rd_T74 l0_2 k) < (n0 : Int)) (hE1 : ∀ k : Nat, k < l0_2.length → 0 ≤ eTo (rd_T74 l0_2 k) ∧ eTo (rd_T74 l0_2 k) < (n0 : Int)) :
  Calls Try.prog 101 #[.agg #[.int .i64 (n0 : Int), .bool a0_1, .slice A0_2 l0_2.length c0_2], .slice A1 n1 c1] w fun e w' => ∃ v0_ : Value, e = .returned (.agg #[.int .i64 (n0 : Int), .bool a0_1, .slice A0_2 l0_2.length c0_2, .slice A1 n1 c1, v0_]) ∧ Kd.S (Kd.slice 38 k38) 34 w' w.heap.size (fun _ => True) v0_ (rowsAt l0_2 n0 n0) ∧ Below w.heap.size w w' := by
 have hu24 := Try.underlying24
 have hu118 := Try.underlying118
 have HR0_2 := Aside0.mk hr0_2
 have HC0_2 := Aside0.mk hc0_2
 have HH0 := Aside0.mk h0
 have HH1 := Aside0.mk h1
 have HE0 := Aside0.mk hE0
 have HE1 := Aside0.mk hE1
 have HR0 := Aside0.mk hr0_2
 clear hr0_2 hc0_2 h0 h1 hE0 hE1
 have HB := Aside0.mk (Below.refl w.heap.size w)
 go_enter Try.func101, Try.ntmps101
 go_wp2_with (first | ((with_reducible refine gate_dst (N := 2) rfl ?_); refine box_event ?hg (N := 2) ?hd (cs := #[.int .i64 (n0 : Int), .bool a0_1, .slice A0_2 l0_2.length c0_2]) (t := 24) ?hr ?_; (case hd => rfl); (case hg => rfl); (case hr => first | (go_simp; done) | (go_simp; rfl)); intro gb111 hg w4 hbox hb; have n0_ := Aside0.mk (below_step (by repeat (first | (with_reducible first | exact HB.out | apply below_alloc | apply pw_below_drewN | apply below_drew1) | exact HB.out)) hb); have n1_ := Aside0.mk (hbox); have n2_ := Aside0.mk (Kd.C_below HR0_2.out hb); clear HB HR0_2; have HB := n0_; have BK111 := n1_; have HR0_2 := n2_; clear n0_ n1_ n2_; clear hb hbox hg) | ((with_reducible refine gate_dst (N := 4) rfl ?_); refine box_event ?hg (N := 4) ?hd (cs := #[.int .i64 0, .bool false, .slice none 0 0, .slice none 0 0, .slice none 0 0]) (t := 118) ?hr ?_; (case hd => rfl); (case hg => rfl); (case hr => first | (go_simp; done) | (go_simp; rfl)); intro gb4 hg w5 hbox hb; have GE4 : Aside0 (w.heap.size ≤ gb4) := ⟨by rw [hg]; exact HB.out.size⟩; have n0_ := Aside0.mk (below_step (by repeat (first | (with_reducible first | exact HB.out | apply below_alloc | apply pw_below_drewN | apply below_drew1) | exact HB.out)) hb); have n1_ := Aside0.mk (hbox); have n2_ := Aside0.mk (Kd.C_below HR0_2.out hb); have n3_ := Aside0.mk (blk_below BK111.out hb); clear HB HR0_2 BK111; have HB := n0_; have BK4 := n1_; have HR0_2 := n2_; have BK111 := n3_; clear n0_ n1_ n2_ n3_; clear hb hbox hg) | fail)
 obtain ⟨R0, hR0⟩ : ∃ y_ : List (List S38), y_ = List.replicate (n0 : Int).toNat [] := ⟨_, rfl⟩
 have NR0 := Aside0.mk hR0
 clear hR0
 refine start_ (n := 9) (S := (fun w' => w'.cell? ⟨gb111, 0, none⟩ = some (.int .i64 (n0 : Int)) ∧ w'.cell? ⟨gb111, 1, none⟩ = some (.bool a0_1) ∧ w'.cell? ⟨gb111, 2, none⟩ = some (.slice A0_2 l0_2.length c0_2))) (ds := []) #[false, false, false, false, false, false, false, false, false] (by kernel_rfl) rfl rfl ⟨(blk_cell BK111.out 0).trans rfl, (blk_cell BK111.out 1).trans rfl, (blk_cell BK111.out 2).trans rfl⟩ (fun hHeld => ?_)
 have n0_ := Aside0.mk (below_drew HB.out)
 have n1_ : Aside0 (w5.drew.heap[gb111]? = some (.cells #[.int .i64 (n0 : Int), .bool a0_1, .slice A0_2 l0_2.length c0_2] 24 (0, 0))) := ⟨BK111.out⟩
 have n2_ : Aside0 (w5.drew.heap[gb4]? = some (.cells #[.int .i64 0, .bool false, .slice none 0 0, .slice none 0 0, .slice none 0 0] 118 (0, 0))) := ⟨BK4.out⟩
 clear HB BK111 BK4
 have HB := n0_
 have BK111 := n1_
 have BK4 := n2_
 clear n0_ n1_ n2_
 generalize w5.drew = w6 at BK111 HB BK4 hHeld ⊢
 refine pure_ (i := 1) (N := some 14) (v := ?_) (a' := ?_) #[false, true, false, false, false, false, false, false, false] rfl rfl (by kernel_rfl) (fun _ _ _ h => h) (Or.inl ⟨by rfl, ?_⟩) ?_ ?_
 rotate_left
 ·intro w'
  go_simp
  with_reducible rfl
 rotate_left
 ·simp only [Act.put, List.setIfInBounds_toArray, List.set_cons_zero, List.set_cons_succ, i64_w, i32_w]
  rfl
 refine pure_ (i := 3) (N := some 16) (v := ?_) (a' := ?_) #[false, true, false, true, false, false, false, false, false] rfl rfl (by kernel_rfl) (fun _ _ _ h => h) (Or.inl ⟨by rfl, ?_⟩) ?_ ?_
 rotate_left
 ·intro w'
  go_simp
  with_reducible rfl
 rotate_left
 ·simp only [Act.put, List.setIfInBounds_toArray, List.set_cons_zero, List.set_cons_succ, i64_w, i32_w]
  rfl
 refine take_ (i := 0) (N := some 13) (v := ?_) (a' := ?_) #[true, true, false, true, false, false, false, false, false] rfl rfl (by kernel_rfl) (fun _ _ _ h => h) (Or.inl ⟨by rfl, ?_⟩) hHeld ?_ ?_
 rotate_left
 ·rintro w' ⟨s0, s1, s2⟩
  go_simp
  with_reducible rfl
 rotate_left
 ·simp only [Act.put, List.setIfInBounds_toArray, List.set_cons_zero, List.set_cons_succ, i64_w, i32_w]
  rfl
 refine take_ (i := 4) (N := some 17) (v := ?_) (a' := ?_) #[true, true, false, true, true, false, false, false, false] rfl rfl (by kernel_rfl) (fun _ _ _ h => h) (Or.inl ⟨by rfl, ?_⟩) hHeld ?_ ?_
 rotate_left
 ·rintro w' ⟨s0, s1, s2⟩
  go_simp
  with_reducible rfl
 rotate_left
 ·simp only [Act.put, List.setIfInBounds_toArray, List.set_cons_zero, List.set_cons_succ, i64_w, i32_w]
  rfl
 refine pure_ (i := 2) (N := some 15) (v := ?_) (a' := ?_) #[true, true, true, true, true, false, false, false, false] rfl rfl (by kernel_rfl) (fun _ _ _ h => h) (Or.inl ⟨by rfl, ?_⟩) ?_ ?_
 rotate_left
 ·intro w'
  go_simp
  with_reducible rfl
 rotate_left
 ·simp only [Act.put, List.setIfInBounds_toArray, List.set_cons_zero, List.set_cons_succ, i64_w, i32_w]
  rfl
 refine join_ (σ := Value × Nat) 1 #[true, true, true, true, true, true, true, true, false] (fun s_ => [(18, s_.1), (19, .agg #[.int .i64 (n0 : Int), .bool a0_1, .slice A0_2 l0_2.length c0_2, .slice A1 n1 c1, s_.1]), (5, .pointer (some ⟨s_.2, 0, none⟩))]) (fun s_ w' => (w'.cell? ⟨gb111, 0, none⟩ = some (.int .i64 (n0 : Int)) ∧ w'.cell? ⟨gb111, 1, none⟩ = some (.bool a0_1) ∧ w'.cell? ⟨gb111, 2, none⟩ = some (.slice A0_2 l0_2.length c0_2)) ∧ Kd.S (Kd.slice 38 k38) 34 w' w.heap.size (fun _ => True) s_.1 R0 ∧ w'.heap[gb111]? = some (.cells #[.int .i64 (n0 : Int), .bool a0_1, .slice A0_2 l0_2.length c0_2] 24 (0, 0)) ∧ w'.heap[s_.2]? = some (.cells #[.int .i64 0, .bool false, .slice none 0 0, .slice none 0 0, .slice none 0 0] 118 (0, 0)) ∧ w'.heap[gb4]? = some (.cells #[.int .i64 0, .bool false, .slice none 0 0, .slice none 0 0, .slice none 0 0] 118 (0, 0)) ∧ w.heap.size ≤ s_.2 ∧ gb111 ≠ s_.2 ∧ gb4 ≠ s_.2 ∧ Below w.heap.size w w') ?_ ?_
 rotate_left
 ·intro hCont
  refine two_ (i := 5) (j := 7) (Ni := some 18) (Nj := some 5) #[true, true, true, true, true, true, false, false, false] #[true, true, true, true, true, false, false, true, false] rfl rfl rfl rfl (by kernel_rfl) (by decide) (by decide) (fun K hK => ?_) (fun K hK => ?_)
  ·skip
   refine Kd.S_make_step (Kd.slice 38 k38) _ 34 (by rfl) (N := 18) rfl 116 _ _ rfl (n0 : Int) rfl rfl Try.underlying116 (.slice none 0 0) 24 infoRowS rfl (by decide) (by omega) [] (ok := fun _ => True) (okp := fun _ => True) ⟨_, rfl, Kd.R_nil _ _ _ _ _⟩ (fun _ hk => hk) trivial HH0.out (by have := HH1.out; omega) (Below.refl _ _) (Nat.le_refl _) ?_
   intro v18 w7 ho hb _ _
   rw [← NR0.out] at ho
   obtain ⟨Ao, co, eo⟩ := Kd.S_slice ho
   subst eo
   have n0_ := Aside0.mk (Kd.S_lower ho HB.out.size)
   have n1_ := Aside0.mk (blk_below BK111.out hb)
   have n2_ := Aside0.mk (blk_below BK4.out hb)
   have n3_ := Aside0.mk (below_step HB.out hb)
   clear BK111 BK4 HB ho hb
   have HO := n0_
   have BK111 := n1_
   have BK4 := n2_
   have HB := n3_
   clear n0_ n1_ n2_ n3_
   refine hK.out _ _ ⟨(blk_cell BK111.out 0).trans rfl, (blk_cell BK111.out 1).trans rfl, (blk_cell BK111.out 2).trans rfl⟩ (fun hHeld => ?_)
   clear hK K
   refine norm_ (a' := ?_) ?_ ?_
   rotate_left
   ·show Act.put _ (some 18) _ = _
    simp only [Act.put, List.setIfInBounds_toArray, List.set_cons_zero, List.set_cons_succ, i64_w, i32_w]
    rfl
   refine pure_ (i := 6) (N := some 19) (v := ?_) (a' := ?_) #[true, true, true, true, true, true, true, false, false] rfl rfl (by kernel_rfl) (fun _ _ _ h => h) (Or.inl ⟨by rfl, ?_⟩) ?_ ?_
   rotate_left
   ·intro w'
    go_simp
    with_reducible rfl
   rotate_left
   ·simp only [Act.put, List.setIfInBounds_toArray, List.set_cons_zero, List.set_cons_succ, i64_w, i32_w]
    rfl
   refine one_ (i := 7) (N := some 5) #[true, true, true, true, true, true, true, true, false] rfl rfl (by kernel_rfl) (by decide) (fun K hK => ?_)
   refine box_step ?hg (N := 5) ?hd (cs := #[.int .i64 0, .bool false, .slice none 0 0, .slice none 0 0, .slice none 0 0]) (t := 118) ?hr ?_; (case hd => rfl); (case hg => rfl); (case hr => first | (go_simp; done) | (go_simp; rfl))
   intro gb5 hg w8 hbox hb
   have n0_ := Aside0.mk hbox
   have n1_ := Aside0.mk (blk_below BK111.out hb)
   have n2_ := Aside0.mk (blk_below BK4.out hb)
   have n3_ := Aside0.mk (below_step HB.out hb)
   have n5_ : Aside0 (w.heap.size ≤ gb5) := ⟨by rw [hg]; exact HB.out.size⟩
   have n6_ : Aside0 (gb111 ≠ gb5) := ⟨by rw [hg]; exact Nat.ne_of_lt (blk_lt BK111.out)⟩
   have n7_ : Aside0 (gb4 ≠ gb5) := ⟨by rw [hg]; exact Nat.ne_of_lt (blk_lt BK4.out)⟩
   have n4_ := Aside0.mk (Kd.S_below HO.out hb)
   clear HO
   have HO := n4_
   clear n4_
   clear BK111 BK4 HB hbox hb hg
   have BK5 := n0_
   have BK111 := n1_
   have BK4 := n2_
   have HB := n3_
   have GE5 := n5_
   have NB111 := n6_
   have NB4 := n7_
   clear n0_ n1_ n2_ n3_ n5_ n6_ n7_
   refine hK.out _ _ ⟨(blk_cell BK111.out 0).trans rfl, (blk_cell BK111.out 1).trans rfl, (blk_cell BK111.out 2).trans rfl⟩ (fun hHeld => ?_)
   clear hK K
   refine norm_ (a' := ?_) ?_ ?_
   rotate_left
   ·show Act.put _ (some 5) _ = _
    simp only [Act.put, List.setIfInBounds_toArray, List.set_cons_zero, List.set_cons_succ, i64_w, i32_w]
    rfl
   exact norm_ (by (simp only [putAll, Act.put, List.setIfInBounds_toArray, List.set_cons_zero, List.set_cons_succ]) <;> rfl) (hCont (.slice Ao R0.length co, gb5) _ ⟨hHeld, HO.out, BK111.out, BK5.out, BK4.out, GE5.out, NB111.out, NB4.out, HB.out⟩)
  ·skip
   refine box_step ?hg (N := 5) ?hd (cs := #[.int .i64 0, .bool false, .slice none 0 0, .slice none 0 0, .slice none 0 0]) (t := 118) ?hr ?_; (case hd => rfl); (case hg => rfl); (case hr => first | (go_simp; done) | (go_simp; rfl))
   intro gb5 hg w7 hbox hb
   have n0_ := Aside0.mk hbox
   have n1_ := Aside0.mk (blk_below BK111.out hb)
   have n2_ := Aside0.mk (blk_below BK4.out hb)
   have n3_ := Aside0.mk (below_step HB.out hb)
   have n5_ : Aside0 (w.heap.size ≤ gb5) := ⟨by rw [hg]; exact HB.out.size⟩
   have n6_ : Aside0 (gb111 ≠ gb5) := ⟨by rw [hg]; exact Nat.ne_of_lt (blk_lt BK111.out)⟩
   have n7_ : Aside0 (gb4 ≠ gb5) := ⟨by rw [hg]; exact Nat.ne_of_lt (blk_lt BK4.out)⟩
   clear BK111 BK4 HB hbox hb hg
   have BK5 := n0_
   have BK111 := n1_
   have BK4 := n2_
   have HB := n3_
   have GE5 := n5_
   have NB111 := n6_
   have NB4 := n7_
   clear n0_ n1_ n2_ n3_ n5_ n6_ n7_
   refine hK.out _ _ ⟨(blk_cell BK111.out 0).trans rfl, (blk_cell BK111.out 1).trans rfl, (blk_cell BK111.out 2).trans rfl⟩ (fun hHeld => ?_)
   clear hK K
   refine norm_ (a' := ?_) ?_ ?_
   rotate_left
   ·show Act.put _ (some 5) _ = _
    simp only [Act.put, List.setIfInBounds_toArray, List.set_cons_zero, List.set_cons_succ, i64_w, i32_w]
    rfl
   refine one_ (i := 5) (N := some 18) #[true, true, true, true, true, true, false, true, false] rfl rfl (by kernel_rfl) (by decide) (fun K hK => ?_)
   refine Kd.S_make_step (Kd.slice 38 k38) _ 34 (by rfl) (N := 18) rfl 116 _ _ rfl (n0 : Int) rfl rfl Try.underlying116 (.slice none 0 0) 24 infoRowS rfl (by decide) (by omega) [] (ok := fun _ => True) (okp := fun _ => True) ⟨_, rfl, Kd.R_nil _ _ _ _ _⟩ (fun _ hk => hk) trivial HH0.out (by have := HH1.out; omega) (Below.refl _ _) (Nat.le_refl _) ?_
   intro v18 w8 ho hb _ _
   rw [← NR0.out] at ho
   obtain ⟨Ao, co, eo⟩ := Kd.S_slice ho
   subst eo
   have n0_ := Aside0.mk (Kd.S_lower ho HB.out.size)
   have n1_ := Aside0.mk (blk_below BK111.out hb)
   have n2_ := Aside0.mk (blk_below BK4.out hb)
   have n3_ := Aside0.mk (below_step HB.out hb)
   have n4_ := Aside0.mk (blk_below BK5.out hb)
   clear BK5
   have BK5 := n4_
   clear n4_
   clear BK111 BK4 HB ho hb
   have HO := n0_
   have BK111 := n1_
   have BK4 := n2_
   have HB := n3_
   clear n0_ n1_ n2_ n3_
   refine hK.out _ _ ⟨(blk_cell BK111.out 0).trans rfl, (blk_cell BK111.out 1).trans rfl, (blk_cell BK111.out 2).trans rfl⟩ (fun hHeld => ?_)
   clear hK K
   refine norm_ (a' := ?_) ?_ ?_
   rotate_left
   ·show Act.put _ (some 18) _ = _
    simp only [Act.put, List.setIfInBounds_toArray, List.set_cons_zero, List.set_cons_succ, i64_w, i32_w]
    rfl
   refine pure_ (i := 6) (N := some 19) (v := ?_) (a' := ?_) #[true, true, true, true, true, true, true, true, false] rfl rfl (by kernel_rfl) (fun _ _ _ h => h) (Or.inl ⟨by rfl, ?_⟩) ?_ ?_
   rotate_left
   ·intro w'
    go_simp
    with_reducible rfl
   rotate_left
   ·simp only [Act.put, List.setIfInBounds_toArray, List.set_cons_zero, List.set_cons_succ, i64_w, i32_w]
    rfl
   exact norm_ (by (simp only [putAll, Act.put, List.setIfInBounds_toArray, List.set_cons_zero, List.set_cons_succ]) <;> rfl) (hCont (.slice Ao R0.length co, gb5) _ ⟨hHeld, HO.out, BK111.out, BK5.out, BK4.out, GE5.out, NB111.out, NB4.out, HB.out⟩)
 rintro ⟨v18, gb5⟩ w9 ⟨hHeld, h0_, h1_, h2_, h3_, h4_, h5_, h6_, h7_⟩
 clear BK111 BK4 HB
 have HO := Aside0.mk h0_
 clear h0_
 have BK111 := Aside0.mk h1_
 clear h1_
 have BK5 := Aside0.mk h2_
 clear h2_
 have BK4 := Aside0.mk h3_
 clear h3_
 have GE5 := Aside0.mk h4_
 clear h4_
 have NB111 := Aside0.mk h5_
 clear h5_
 have NB4 := Aside0.mk h6_
 clear h6_
 have HB := Aside0.mk h7_
 clear h7_
 obtain ⟨Ao, co, eo⟩ := Kd.S_slice HO.out
 dsimp only at eo HO BK5 GE5 NB111 NB4
 subst eo
 refine norm_ (a' := ?_) ?_ ?_
 rotate_left
 ·simp only [putAll, Act.put, List.setIfInBounds_toArray, List.set_cons_zero, List.set_cons_succ]
  rfl
 refine one_ (i := 8) (N := none) #[true, true, true, true, true, true, true, true, true] rfl rfl (by kernel_rfl) (by decide) (fun K hK => ?_)
 have hs0 : w9.cell? ⟨gb5, 0, none⟩ = some (.int .i64 0) := (blk_cell BK5.out 0).trans rfl
 have hfs0 := blk_frozen BK5.out 0
 have hs1 : w9.cell? ⟨gb5, 1, none⟩ = some (.bool false) := (blk_cell BK5.out 1).trans rfl
 have hfs1 := blk_frozen BK5.out 1
 have hs2 : w9.cell? ⟨gb5, 2, none⟩ = some (.slice none 0 0) := (blk_cell BK5.out 2).trans rfl
 have hfs2 := blk_frozen BK5.out 2
 have hs3 : w9.cell? ⟨gb5, 3, none⟩ = some (.slice none 0 0) := (blk_cell BK5.out 3).trans rfl
 have hfs3 := blk_frozen BK5.out 3
 have hs4 : w9.cell? ⟨gb5, 4, none⟩ = some (.slice none 0 0) := (blk_cell BK5.out 4).trans rfl
 have hfs4 := blk_frozen BK5.out 4
 have n0_ : Aside0 ((((((w9.setCell ⟨gb5, 0, none⟩ (.int .i64 (n0 : Int))).setCell ⟨gb5, 1, none⟩ (.bool a0_1)).setCell ⟨gb5, 2, none⟩ (.slice A0_2 l0_2.length c0_2)).setCell ⟨gb5, 3, none⟩ (.slice A1 n1 c1)).setCell ⟨gb5, 4, none⟩ (.slice Ao R0.length co)).heap[gb5]? = some (.cells #[.int .i64 (n0 : Int), .bool a0_1, .slice A0_2 l0_2.length c0_2, .slice A1 n1 c1, .slice Ao R0.length co] 118 (0, 0))) := ⟨by
  refine blk_put (cs := #[.int .i64 (n0 : Int), .bool a0_1, .slice A0_2 l0_2.length c0_2, .slice A1 n1 c1, .slice none 0 0]) ?_ 4 _ rfl
  refine blk_put (cs := #[.int .i64 (n0 : Int), .bool a0_1, .slice A0_2 l0_2.length c0_2, .slice none 0 0, .slice none 0 0]) ?_ 3 _ rfl
  refine blk_put (cs := #[.int .i64 (n0 : Int), .bool a0_1, .slice none 0 0, .slice none 0 0, .slice none 0 0]) ?_ 2 _ rfl
  refine blk_put (cs := #[.int .i64 (n0 : Int), .bool false, .slice none 0 0, .slice none 0 0, .slice none 0 0]) ?_ 1 _ rfl
  refine blk_put (cs := #[.int .i64 0, .bool false, .slice none 0 0, .slice none 0 0, .slice none 0 0]) ?_ 0 _ rfl
  exact BK5.out⟩
 have n1_ : Aside0 ((((((w9.setCell ⟨gb5, 0, none⟩ (.int .i64 (n0 : Int))).setCell ⟨gb5, 1, none⟩ (.bool a0_1)).setCell ⟨gb5, 2, none⟩ (.slice A0_2 l0_2.length c0_2)).setCell ⟨gb5, 3, none⟩ (.slice A1 n1 c1)).setCell ⟨gb5, 4, none⟩ (.slice Ao R0.length co)).heap[gb111]? = some (.cells #[.int .i64 (n0 : Int), .bool a0_1, .slice A0_2 l0_2.length c0_2] 24 (0, 0))) := ⟨by
  refine blk_far ?_ NB111.out _
  refine blk_far ?_ NB111.out _
  refine blk_far ?_ NB111.out _
  refine blk_far ?_ NB111.out _
  refine blk_far ?_ NB111.out _
  exact BK111.out⟩
 have n2_ : Aside0 ((((((w9.setCell ⟨gb5, 0, none⟩ (.int .i64 (n0 : Int))).setCell ⟨gb5, 1, none⟩ (.bool a0_1)).setCell ⟨gb5, 2, none⟩ (.slice A0_2 l0_2.length c0_2)).setCell ⟨gb5, 3, none⟩ (.slice A1 n1 c1)).setCell ⟨gb5, 4, none⟩ (.slice Ao R0.length co)).heap[gb4]? = some (.cells #[.int .i64 0, .bool false, .slice none 0 0, .slice none 0 0, .slice none 0 0] 118 (0, 0))) := ⟨by
  refine blk_far ?_ NB4.out _
  refine blk_far ?_ NB4.out _
  refine blk_far ?_ NB4.out _
  refine blk_far ?_ NB4.out _
  refine blk_far ?_ NB4.out _
  exact BK4.out⟩
 have n3_ : Aside0 (Kd.S (Kd.slice 38 k38) 34 (((((w9.setCell ⟨gb5, 0, none⟩ (.int .i64 (n0 : Int))).setCell ⟨gb5, 1, none⟩ (.bool a0_1)).setCell ⟨gb5, 2, none⟩ (.slice A0_2 l0_2.length c0_2)).setCell ⟨gb5, 3, none⟩ (.slice A1 n1 c1)).setCell ⟨gb5, 4, none⟩ (.slice Ao R0.length co)) w.heap.size (fun _ => True) (.slice Ao R0.length co) R0) := ⟨Kd.S_mono (Kd.S_far (p := ⟨gb5, 4, none⟩) (Kd.S_far (p := ⟨gb5, 3, none⟩) (Kd.S_far (p := ⟨gb5, 2, none⟩) (Kd.S_far (p := ⟨gb5, 1, none⟩) (Kd.S_far (p := ⟨gb5, 0, none⟩) (Kd.S_types HO.out BK5.out (by decide)) (fun _ hk => hk.2) (.int .i64 (n0 : Int))) (fun _ hk => hk.2) (.bool a0_1)) (fun _ hk => hk.2) (.slice A0_2 l0_2.length c0_2)) (fun _ hk => hk.2) (.slice A1 n1 c1)) (fun _ hk => hk.2) (.slice Ao R0.length co)) (fun _ _ => trivial)⟩
 have n4_ : Aside0 (Below w.heap.size w (((((w9.setCell ⟨gb5, 0, none⟩ (.int .i64 (n0 : Int))).setCell ⟨gb5, 1, none⟩ (.bool a0_1)).setCell ⟨gb5, 2, none⟩ (.slice A0_2 l0_2.length c0_2)).setCell ⟨gb5, 3, none⟩ (.slice A1 n1 c1)).setCell ⟨gb5, 4, none⟩ (.slice Ao R0.length co))) := ⟨by repeat (first | exact HB.out | refine below_set ?_ GE5.out)⟩
 refine skip_ (w1 := (((((w9.setCell ⟨gb5, 0, none⟩ (.int .i64 (n0 : Int))).setCell ⟨gb5, 1, none⟩ (.bool a0_1)).setCell ⟨gb5, 2, none⟩ (.slice A0_2 l0_2.length c0_2)).setCell ⟨gb5, 3, none⟩ (.slice A1 n1 c1)).setCell ⟨gb5, 4, none⟩ (.slice Ao R0.length co))) (by rfl) rfl ?_ ?_
 ·go_simp
 clear hs0 hfs0 hs1 hfs1 hs2 hfs2 hs3 hfs3 hs4 hfs4
 refine hK.out _ _ ⟨(blk_cell n1_.out 0).trans rfl, (blk_cell n1_.out 1).trans rfl, (blk_cell n1_.out 2).trans rfl⟩ (fun hHeld => ?_)
 clear hK K BK5 BK111 BK4 HO HB hHeld
 have BK5 := n0_
 have BK111 := n1_
 have BK4 := n2_
 have HO := n3_
 have HB := n4_
 clear n0_ n1_ n2_ n3_ n4_
 refine done_ (by kernel_rfl) ?_
 generalize (((((w9.setCell ⟨gb5, 0, none⟩ (.int .i64 (n0 : Int))).setCell ⟨gb5, 1, none⟩ (.bool a0_1)).setCell ⟨gb5, 2, none⟩ (.slice A0_2 l0_2.length c0_2)).setCell ⟨gb5, 3, none⟩ (.slice A1 n1 c1)).setCell ⟨gb5, 4, none⟩ (.slice Ao R0.length co)) = w10 at BK5 BK111 BK4 HO HB ⊢
 go_wp2_with fail
 refine start_ (n := 6) (S := (fun w' => w'.cell? ⟨gb111, 0, none⟩ = some (.int .i64 (n0 : Int)) ∧ w'.cell? ⟨gb111, 1, none⟩ = some (.bool a0_1) ∧ w'.cell? ⟨gb111, 2, none⟩ = some (.slice A0_2 l0_2.length c0_2))) (ds := []) #[false, false, false, false, false, false] (by kernel_rfl) rfl rfl ⟨(blk_cell BK111.out 0).trans rfl, (blk_cell BK111.out 1).trans rfl, (blk_cell BK111.out 2).trans rfl⟩ (fun hHeld => ?_)
 have n0_ := Aside0.mk (below_drew HB.out)
 have n1_ : Aside0 (w10.drew.heap[gb111]? = some (.cells #[.int .i64 (n0 : Int), .bool a0_1, .slice A0_2 l0_2.length c0_2] 24 (0, 0))) := ⟨BK111.out⟩
 have n2_ : Aside0 (w10.drew.heap[gb4]? = some (.cells #[.int .i64 0, .bool false, .slice none 0 0, .slice none 0 0, .slice none 0 0] 118 (0, 0))) := ⟨BK4.out⟩
 have n3_ : Aside0 (w10.drew.heap[gb5]? = some (.cells #[.int .i64 (n0 : Int), .bool a0_1, .slice A0_2 l0_2.length c0_2, .slice A1 n1 c1, .slice Ao R0.length co] 118 (0, 0))) := ⟨BK5.out⟩
 have n4_ := Aside0.mk (Kd.S_drew HO.out)
 clear HB BK111 BK4 BK5 HO
 have HB := n0_
 have BK111 := n1_
 have BK4 := n2_
 have BK5 := n3_
 have HO := n4_
 clear n0_ n1_ n2_ n3_ n4_
 generalize w10.drew = w11 at BK111 HB BK4 BK5 HO hHeld ⊢
 refine take_ (i := 0) (N := some 20) (v := ?_) (a' := ?_) #[true, false, false, false, false, false] rfl rfl (by kernel_rfl) (fun _ _ _ h => h) (Or.inl ⟨by rfl, ?_⟩) hHeld ?_ ?_
 rotate_left
 ·rintro w' ⟨s0, s1, s2⟩
  go_simp
  with_reducible rfl
 rotate_left
 ·simp only [Act.put, List.setIfInBounds_toArray, List.set_cons_zero, List.set_cons_succ, i64_w, i32_w]
  rfl
 refine take_ (i := 2) (N := some 22) (v := ?_) (a' := ?_) #[true, false, true, false, false, false] rfl rfl (by kernel_rfl) (fun _ _ _ h => h) (Or.inl ⟨by rfl, ?_⟩) hHeld ?_ ?_
 rotate_left
 ·rintro w' ⟨s0, s1, s2⟩
  go_simp
  with_reducible rfl
 rotate_left
 ·simp only [Act.put, List.setIfInBounds_toArray, List.set_cons_zero, List.set_cons_succ, i64_w, i32_w]
  rfl
 refine one_ (i := 1) (N := some 21) #[true, true, true, false, false, false] rfl rfl (by kernel_rfl) (by decide) (fun K hK => ?_)
 refine goes_ Try.func141 (by kernel_rfl) rfl #[.agg #[.int .i64 (n0 : Int), .bool a0_1, .slice A0_2 l0_2.length c0_2]] (by rfl) rfl rfl (by (try simp only [List.map_toArray, List.map_cons, List.map_nil]); first | done | rfl) ?_
 refine (leaving_calls (n0 : Int) a0_1 A0_2 c0_2 l0_2 _ (Kd.C_below HR0.out HB.out) HC0_2.out HH0.out HH1.out (by omega) HE0.out).mono ?_
 rintro e w12 ⟨v21, rfl, hS, hb⟩
 refine ⟨_, rfl, ?_⟩
 have n0_ := Aside0.mk (below_step HB.out hb)
 have n1_ := Aside0.mk (blk_below BK111.out hb)
 have n2_ := Aside0.mk (blk_below BK4.out hb)
 have n3_ := Aside0.mk (blk_below BK5.out hb)
 have n4_ := Aside0.mk (Kd.S_below HO.out hb)
 have n5_ := Aside0.mk (Kd.S_lower hS HB.out.size)
 clear HB BK111 BK4 BK5 HO hS hb
 have HB := n0_
 have BK111 := n1_
 have BK4 := n2_
 have BK5 := n3_
 have HO := n4_
 have Hv21 := n5_
 clear n0_ n1_ n2_ n3_ n4_ n5_
 obtain ⟨Av21, cv21, ev21⟩ := Kd.S_slice Hv21.out
 subst ev21
 refine hK.out _ _ ⟨(blk_cell BK111.out 0).trans rfl, (blk_cell BK111.out 1).trans rfl, (blk_cell BK111.out 2).trans rfl⟩ (fun hHeld => ?_)
 clear hK K
 refine norm_ (a' := ?_) ?_ ?_
 rotate_left
 ·show Act.put _ (some 21) _ = _
  simp only [Act.put, List.setIfInBounds_toArray, List.set_cons_zero, List.set_cons_succ, i64_w, i32_w]
  rfl
 refine one_ (i := 3) (N := some 23) #[true, true, true, true, false, false] rfl rfl (by kernel_rfl) (by decide) (fun K hK => ?_)
 refine goes_ Try.func142 (by kernel_rfl) rfl #[.agg #[.int .i64 (n0 : Int), .bool a0_1, .slice A0_2 l0_2.length c0_2]] (by rfl) rfl rfl (by (try simp only [List.map_toArray, List.map_cons, List.map_nil]); first | done | rfl) ?_
 refine (coming_calls (n0 : Int) a0_1 A0_2 c0_2 l0_2 _ (Kd.C_below HR0.out HB.out) HC0_2.out HH0.out HH1.out (by omega) HE1.out).mono ?_
 rintro e w13 ⟨v23, rfl, hS, hb⟩
 refine ⟨_, rfl, ?_⟩
 have n0_ := Aside0.mk (below_step HB.out hb)
 have n1_ := Aside0.mk (blk_below BK111.out hb)
 have n2_ := Aside0.mk (blk_below BK4.out hb)
 have n3_ := Aside0.mk (blk_below BK5.out hb)
 have n4_ := Aside0.mk (Kd.S_below HO.out hb)
 have n5_ := Aside0.mk (Kd.S_lower hS HB.out.size)
 have m_ := Aside0.mk (Kd.S_below Hv21.out hb)
 clear Hv21
 have Hv21 := m_
 clear m_
 clear HB BK111 BK4 BK5 HO hS hb
 have HB := n0_
 have BK111 := n1_
 have BK4 := n2_
 have BK5 := n3_
 have HO := n4_
 have Hv23 := n5_
 clear n0_ n1_ n2_ n3_ n4_ n5_
 obtain ⟨Av23, cv23, ev23⟩ := Kd.S_slice Hv23.out
 subst ev23
 refine hK.out _ _ ⟨(blk_cell BK111.out 0).trans rfl, (blk_cell BK111.out 1).trans rfl, (blk_cell BK111.out 2).trans rfl⟩ (fun hHeld => ?_)
 clear hK K
 refine norm_ (a' := ?_) ?_ ?_
 rotate_left
 ·show Act.put _ (some 23) _ = _
  simp only [Act.put, List.setIfInBounds_toArray, List.set_cons_zero, List.set_cons_succ, i64_w, i32_w]
  rfl
 refine pure_ (i := 4) (N := some 6) (v := ?_) (a' := ?_) #[true, true, true, true, true, false] rfl rfl (by kernel_rfl) (fun _ _ _ h => h) (Or.inl ⟨by rfl, ?_⟩) ?_ ?_
 rotate_left
 ·intro w'
  go_simp
  with_reducible rfl
 rotate_left
 ·simp only [Act.put, List.setIfInBounds_toArray, List.set_cons_zero, List.set_cons_succ, i64_w, i32_w]
  rfl
 refine pure_ (i := 5) (N := some 7) (v := ?_) (a' := ?_) #[true, true, true, true, true, true] rfl rfl (by kernel_rfl) (fun _ _ _ h => h) (Or.inl ⟨by rfl, ?_⟩) ?_ ?_
 rotate_left
 ·intro w'
  go_simp
  with_reducible rfl
 rotate_left
 ·simp only [Act.put, List.setIfInBounds_toArray, List.set_cons_zero, List.set_cons_succ, i64_w, i32_w]
  rfl
 refine done_ (by kernel_rfl) ?_
 go_wp2_with fail
 have HR0' : Aside0 (R0 = rowsAt l0_2 n0 0) := ⟨by rw [NR0.out, rowsAt_zero, Int.toNat_natCast]⟩
 have hlR : R0.length = n0 := by rw [HR0'.out, rowsAt_len]
 rw [hlR] at HO BK5 ⊢
 rw [HR0'.out] at HO
 simp only [Int.toNat_natCast] at Hv21 Hv23 ⊢
 clear hHeld
 obtain ⟨L0, hL0⟩ : ∃ L, L = lsAt eFrom l0_2 n0 l0_2.length := ⟨_, rfl⟩
 obtain ⟨L1, hL1⟩ : ∃ L, L = lsAt eTo l0_2 n0 l0_2.length := ⟨_, rfl⟩
 have hn0 : L0.length = n0 := by rw [hL0, lsAt_len]
 have hn1 : L1.length = n0 := by rw [hL1, lsAt_len]
 rw [← hL0, hn0] at Hv21 ⊢
 rw [← hL1, hn1] at Hv23 ⊢
 have HL0 := Aside0.mk hL0
 have HL1 := Aside0.mk hL1
 clear hL0 hL1
 clear HR0' hlR HR0_2
 have hn6 : n0 ≤ 1000000 := by have := HH1.out; omega
 go_loopw [26] (fun v26 w' => ∃ k : Nat, k ≤ n0 ∧ v26 = .int .i64 k ∧ Aside0 (Kd.S (Kd.slice 38 k38) 34 w' w.heap.size (fun _ => True) (.slice Ao n0 co) (rowsAt l0_2 n0 k)) ∧ Aside0 (w'.heap[gb111]? = some (.cells #[.int .i64 (n0 : Int), .bool a0_1, .slice A0_2 l0_2.length c0_2] 24 (0, 0))) ∧ Aside0 (w'.heap[gb4]? = some (.cells #[.int .i64 0, .bool false, .slice none 0 0, .slice none 0 0, .slice none 0 0] 118 (0, 0))) ∧ Aside0 (w'.heap[gb5]? = some (.cells #[.int .i64 (n0 : Int), .bool a0_1, .slice A0_2 l0_2.length c0_2, .slice A1 n1 c1, .slice Ao n0 co] 118 (0, 0))) ∧ Aside0 (Kd.S (Kd.slice 3 (Kd.int .i64)) 25 w' w.heap.size (fun _ => True) (.slice Av21 n0 cv21) L0) ∧ Aside0 (Kd.S (Kd.slice 3 (Kd.int .i64)) 25 w' w.heap.size (fun _ => True) (.slice Av23 n0 cv23) L1) ∧ Aside0 (Below w.heap.size w w')) (fun v26 _ => n0 - (intOf v26).toNat)
 case atStart => exact ⟨0, Nat.zero_le _, rfl, HO, BK111, BK4, BK5, Hv21, Hv23, HB⟩
 case round =>
  clear HO BK111 BK4 BK5 Hv21 Hv23 HB
  obtain ⟨k, hk, rfl, HO, BK111, BK4, BK5, Hv21, Hv23, HB⟩ := hrel
  by_cases hlt : k < n0
  ·have pk : 0 ≤ ((k : Nat) : Int) := by omega
   have qk : ((k : Nat) : Int) < (n0 : Int) := by omega
   have c27 : decide ((k : Int) < (n0 : Int)) = true := decide_eq_true qk
   obtain ⟨ad0, AA0, cc0, e_, hx_, hl_, _⟩ := at_L7 (Kd.S_reads' Hv21.out).2.2 (k : Int) pk (by rw [hn0]; omega)
   cases e_
   obtain ⟨ce_, hce_, hM_, hcc_⟩ := Kd.S_get Hv21.out [] (k : Int) pk qk
   obtain ⟨ve_, rfl, ge_⟩ := hM_
   have hv_ := hcc_ 0 _ rfl
   rw [Nat.add_zero, show ((Kd.slice 3 (Kd.int .i64))).sz = 1 from rfl, Nat.mul_one] at hv_
   replace hv_ := Option.some.inj (hv_.symm.trans hx_)
   rw [hv_] at ge_
   obtain ⟨LL0, hLL0⟩ : ∃ L, L = rd_L7 L0 (k : Int) := ⟨_, rfl⟩
   have HLL0 : Aside0 (Kd.R (Kd.int .i64) 3 wr w.heap.size (fun _ => True) (.slice AA0 LL0.length cc0) LL0) := ⟨by rw [hLL0]; exact Kd.R_mono ge_ (fun _ _ => trivial)⟩
   rw [← hLL0] at hx_
   simp only [Int.toNat_natCast] at hx_
   have HELL0 := Aside0.mk hLL0
   clear ge_ hv_ hcc_ hce_ hl_ hLL0
   have hxLL0 := hx_
   clear hx_
   obtain ⟨go, co2, eo, gbase, glt, cl, HG⟩ := Kd.S_form HO.out (by rw [rowsAt_len]; omega)
   rw [rowsAt_len] at eo
   injection eo with ea _ ec
   subst ea
   subst ec
   have GBO := Aside0.mk gbase
   clear gbase glt HG
   have HLE0 : Aside0 (LL0.length ≤ 500000) := ⟨by rw [HELL0.out, HL0.out]; exact Nat.le_trans (lsAt_row _ _ _ _ _) hl⟩
   go_wp2_with fail
   have hLL0 := HLE0.out
   obtain ⟨wo1, hwo1⟩ : ∃ x_ : World, x_ = wr := ⟨_, rfl⟩
   subst hwo1
   go_loopw [34] (fun v_ w' => ∃ j : Nat, j ≤ LL0.length ∧ v_ = .int .i64 j ∧ Aside0 (Kd.S (Kd.slice 38 k38) 34 w' w.heap.size (fun _ => True) (.slice (some ⟨go, 0, none⟩) n0 co) ((rowsAt l0_2 n0 k).set k (([] : List S38) ++ (LL0.take j).map (fun i => (⟨i, false⟩ : S38))))) ∧ Aside0 (w'.heap[gb111]? = some (.cells #[.int .i64 (n0 : Int), .bool a0_1, .slice A0_2 l0_2.length c0_2] 24 (0, 0))) ∧ Aside0 (w'.heap[gb4]? = some (.cells #[.int .i64 0, .bool false, .slice none 0 0, .slice none 0 0, .slice none 0 0] 118 (0, 0))) ∧ Aside0 (w'.heap[gb5]? = some (.cells #[.int .i64 (n0 : Int), .bool a0_1, .slice A0_2 l0_2.length c0_2, .slice A1 n1 c1, .slice (some ⟨go, 0, none⟩) n0 co] 118 (0, 0))) ∧ Aside0 (Kd.S (Kd.slice 3 (Kd.int .i64)) 25 w' w.heap.size (fun _ => True) (.slice (some ad0) n0 cv21) L0) ∧ Aside0 (Kd.S (Kd.slice 3 (Kd.int .i64)) 25 w' w.heap.size (fun _ => True) (.slice Av23 n0 cv23) L1) ∧ Aside0 (Kd.R (Kd.int .i64) 3 w' w.heap.size (fun _ => True) (.slice AA0 LL0.length cc0) LL0) ∧ Aside0 (Below w.heap.size w w')) (fun v_ _ => LL0.length - (intOf v_).toNat)
   case atStart => exact ⟨0, Nat.zero_le _, rfl, ⟨by rw [List.take_zero, List.map_nil, List.append_nil, rowsAt_self l0_2 n0 k hlt]; exact HO.out⟩, BK111, BK4, BK5, Hv21, Hv23, HLL0, HB⟩
   case round =>
    clear HO BK111 BK4 BK5 Hv21 Hv23 HLL0 HB
    obtain ⟨j, hj, rfl, HO, BK111, BK4, BK5, Hv21, Hv23, HLL0, HB⟩ := hrel
    by_cases hltj : j < LL0.length
    ·have pj : 0 ≤ ((j : Nat) : Int) := by omega
     have qj : ((j : Nat) : Int) < (LL0.length : Int) := by omega
     have cj : decide ((j : Int) < (LL0.length : Int)) = true := decide_eq_true qj
     obtain ⟨adj, eadj, hxj⟩ := Kd.at_int (Kd.R_reads' HLL0.out).2.2 (j : Int) pj qj
     cases eadj
     simp only [Int.toNat_natCast] at hxj
     have HST := Aside0.mk (row_step ([] : List S38) LL0 false j hltj)
     obtain ⟨xj, hxv⟩ : ∃ x_, x_ = rd LL0 (j : Int) := ⟨_, rfl⟩
     obtain ⟨RW, hRW⟩ : ∃ r_, r_ = (([] : List S38) ++ (LL0.take j).map (fun i => (⟨i, false⟩ : S38))) := ⟨_, rfl⟩
     have HRL : Aside0 (RW.length ≤ 1000000) := ⟨by rw [hRW]; simp; have := HLE0.out; omega⟩
     rw [← hRW, ← hxv] at HST
     obtain ⟨RW2, hRW2⟩ : ∃ r_, r_ = (([] : List S38) ++ (LL0.take (j + 1)).map (fun i => (⟨i, false⟩ : S38))) := ⟨_, rfl⟩
     rw [← hRW2] at HST
     have HRW2 := Aside0.mk hRW2
     clear hRW2
     rw [← hxv] at hxj
     rw [← hRW] at HO
     have HRW := Aside0.mk hRW
     have HXV := Aside0.mk hxv
     clear hRW hxv
     obtain ⟨oki, c_, _, hM_, hcc_, _, _, hH_⟩ := Kd.S_elem HO.out [] (k : Int) pk qk
     obtain ⟨vr, rfl, hR_⟩ := hM_
     rw [show ((rowsAt l0_2 n0 k).set k RW).getD (k : Int).toNat [] = RW from rd_set (rowsAt l0_2 n0 k) k RW (by rw [rowsAt_len]; exact hlt)] at hR_
     obtain ⟨Ar, cr, er⟩ := Kd.R_slice hR_
     subst er
     have hx4 := hcc_ 0 _ rfl
     rw [show ((Kd.slice 38 k38)).sz = 1 from rfl, Nat.mul_one, Nat.add_zero, Int.toNat_natCast] at hx4
     have UU := Aside0.mk hR_
     have HH := Aside0.mk hH_
     clear hcc_ hR_ hH_
     have hx5 : wr.cell? ⟨gb5, 4, none⟩ = some (.slice (some ⟨go, 0, none⟩) n0 co) := (blk_cell BK5.out 4).trans rfl
     go_wp2_with fail
     refine start_ (n := 14) (S := fun w' => w'.cell? ⟨gb5, 4, none⟩ = some (.slice (some ⟨go, 0, none⟩) n0 co) ∧ w'.cell? ⟨go, k, none⟩ = some (.slice Ar RW.length cr)) (ds := [13]) #[false, false, false, false, false, false, false, false, false, false, false, false, false, false] (by kernel_rfl) rfl rfl ⟨hx5, hx4⟩ (fun hHeld => ?_)
     have m0_ := Aside0.mk (below_drew HB.out)
     have m1_ := Aside0.mk ((show wr.drew.heap[gb111]? = _ from BK111.out))
     have m2_ := Aside0.mk ((show wr.drew.heap[gb4]? = _ from BK4.out))
     have m3_ := Aside0.mk ((show wr.drew.heap[gb5]? = _ from BK5.out))
     have m4_ := Aside0.mk (Kd.S_drew Hv21.out)
     have m5_ := Aside0.mk (Kd.S_drew Hv23.out)
     have m6_ := Aside0.mk (Kd.R_drew HLL0.out)
     have m7_ := Aside0.mk (Kd.R_drew UU.out)
     have m8_ := Aside0.mk (Kd.H_drew HH.out)
     clear HB BK111 BK4 BK5 Hv21 Hv23 HLL0 UU HH
     have HB := m0_
     clear m0_
     have BK111 := m1_
     clear m1_
     have BK4 := m2_
     clear m2_
     have BK5 := m3_
     clear m3_
     have Hv21 := m4_
     clear m4_
     have Hv23 := m5_
     clear m5_
     have HLL0 := m6_
     clear m6_
     have UU := m7_
     clear m7_
     have HH := m8_
     clear m8_
     clear HO hxj hx5 hx4
     generalize wr.drew = w14 at HB BK111 BK4 BK5 Hv21 Hv23 HLL0 UU HH hHeld ⊢
     refine pure_ (i := 0) (N := some 38) (v := ?_) (a' := ?_) #[true, false, false, false, false, false, false, false, false, false, false, false, false, false] rfl rfl (by kernel_rfl) (fun _ _ _ h => h) (Or.inl ⟨by rfl, ?_⟩) ?_ ?_
     rotate_left
     ·intro w'
      go_simp
      with_reducible rfl
     rotate_left
     ·simp only [Act.put, List.setIfInBounds_toArray, List.set_cons_zero, List.set_cons_succ, i64_w, i32_w]
      rfl
     refine pure_ (i := 2) (N := some 40) (v := ?_) (a' := ?_) #[true, false, true, false, false, false, false, false, false, false, false, false, false, false] rfl rfl (by kernel_rfl) (fun _ _ _ h => h) (Or.inl ⟨by rfl, ?_⟩) ?_ ?_
     rotate_left
     ·intro w'
      go_simp
      with_reducible rfl
     rotate_left
     ·simp only [Act.put, List.setIfInBounds_toArray, List.set_cons_zero, List.set_cons_succ, i64_w, i32_w]
      rfl
     refine pure_ (i := 3) (N := some 41) (v := ?_) (a' := ?_) #[true, false, true, true, false, false, false, false, false, false, false, false, false, false] rfl rfl (by kernel_rfl) (fun _ _ _ h => h) (Or.inl ⟨by rfl, ?_⟩) ?_ ?_
     rotate_left
     ·intro w'
      go_simp
      with_reducible rfl
     rotate_left
     ·simp only [Act.put, List.setIfInBounds_toArray, List.set_cons_zero, List.set_cons_succ, i64_w, i32_w]
      rfl
     refine pure_ (i := 5) (N := some 43) (v := ?_) (a' := ?_) #[true, false, true, true, false, true, false, false, false, false, false, false, false, false] rfl rfl (by kernel_rfl) (fun _ _ _ h => h) (Or.inl ⟨by rfl, ?_⟩) ?_ ?_
     rotate_left
     ·intro w'
      go_simp
      with_reducible rfl
     rotate_left
     ·simp only [Act.put, List.setIfInBounds_toArray, List.set_cons_zero, List.set_cons_succ, i64_w, i32_w]
      rfl
     refine pure_ (i := 8) (N := some 46) (v := ?_) (a' := ?_) #[true, false, true, true, false, true, false, false, true, false, false, false, false, false] rfl rfl (by kernel_rfl) (fun _ _ _ h => h) (Or.inl ⟨by rfl, ?_⟩) ?_ ?_
     rotate_left
     ·intro w'
      go_simp
      with_reducible rfl
     rotate_left
     ·simp only [Act.put, List.setIfInBounds_toArray, List.set_cons_zero, List.set_cons_succ, i64_w, i32_w]
      rfl
     refine pure_ (i := 9) (N := some 47) (v := ?_) (a' := ?_) #[true, false, true, true, false, true, false, false, true, true, false, false, false, false] rfl rfl (by kernel_rfl) (fun _ _ _ h => h) (Or.inl ⟨by rfl, ?_⟩) ?_ ?_
     rotate_left
     ·intro w'
      go_simp
      with_reducible rfl
     rotate_left
     ·simp only [Act.put, List.setIfInBounds_toArray, List.set_cons_zero, List.set_cons_succ, i64_w, i32_w]
      rfl
     refine take_ (i := 1) (N := some 39) (v := ?_) (a' := ?_) #[true, true, true, true, false, true, false, false, true, true, false, false, false, false] rfl rfl (by kernel_rfl) (fun _ _ _ h => h) (Or.inl ⟨by rfl, ?_⟩) hHeld ?_ ?_
     rotate_left
     ·rintro w' ⟨s0, s1⟩
      go_simp
      with_reducible rfl
     rotate_left
     ·simp only [Act.put, List.setIfInBounds_toArray, List.set_cons_zero, List.set_cons_succ, i64_w, i32_w]
      rfl
     refine take_ (i := 4) (N := some 42) (v := ?_) (a' := ?_) #[true, true, true, true, true, true, false, false, true, true, false, false, false, false] rfl rfl (by kernel_rfl) (fun _ _ _ h => h) (Or.inl ⟨by rfl, ?_⟩) hHeld ?_ ?_
     rotate_left
     ·rintro w' ⟨s0, s1⟩
      go_simp
      with_reducible rfl
     rotate_left
     ·simp only [Act.put, List.setIfInBounds_toArray, List.set_cons_zero, List.set_cons_succ, i64_w, i32_w]
      rfl
     refine pure_ (i := 6) (N := some 44) (v := ?_) (a' := ?_) #[true, true, true, true, true, true, true, false, true, true, false, false, false, false] rfl rfl (by kernel_rfl) (fun _ _ _ h => h) (Or.inl ⟨by rfl, ?_⟩) ?_ ?_
     rotate_left
     ·intro w'
      go_simp
      with_reducible rfl
     rotate_left
     ·simp only [Act.put, List.setIfInBounds_toArray, List.set_cons_zero, List.set_cons_succ, i64_w, i32_w]
      rfl
     refine take_ (i := 7) (N := some 45) (v := ?_) (a' := ?_) #[true, true, true, true, true, true, true, true, true, true, false, false, false, false] rfl rfl (by kernel_rfl) (fun _ _ _ h => h) (Or.inl ⟨by rfl, ?_⟩) hHeld ?_ ?_
     rotate_left
     ·rintro w' ⟨s0, s1⟩
      go_simp
      with_reducible rfl
     rotate_left
     ·simp only [Act.put, List.setIfInBounds_toArray, List.set_cons_zero, List.set_cons_succ, i64_w, i32_w]
      rfl
     refine one_ (i := 10) (N := some 48) #[true, true, true, true, true, true, true, true, true, true, true, false, false, false] rfl rfl (by kernel_rfl) (by decide) (fun K hK => ?_)
     refine value_ (w1 := ?_) (v := ?_) (by rfl) rfl ?_ ?_
     rotate_left 2
     ·go_simp
      constructor
      ·rfl
      ·rfl
     refine hK.out _ _ ⟨(blk_cell (blk_alloc BK5.out _) 4).trans rfl, (World.cell?_alloc_lt _ _ _ (World.block_lt_of_cell? _ _ hHeld.2)).trans hHeld.2⟩ (fun hHeld2 => ?_)
     clear hK K hHeld2
     refine norm_ (a' := ?_) ?_ ?_
     rotate_left
     ·show Act.put _ (some 48) _ = _
      simp only [Act.put, List.setIfInBounds_toArray, List.set_cons_zero, List.set_cons_succ, i64_w, i32_w]
      rfl
     refine one_ (i := 11) (N := some 49) #[true, true, true, true, true, true, true, true, true, true, true, true, false, false] rfl rfl (by kernel_rfl) (by decide) (fun K hK => ?_)
     refine Kd.R_append_step k38 (w0 := w) w.heap.size (by rfl) (.tmp 45) (.tmp 48) 34 38 (.agg #[(.int .i64 0), (.bool false)]) 16 rfl Try.underlying34 info38 rfl (by decide) (by omega) (.slice Ar RW.length cr) RW (⟨xj, false⟩ : S38) [.int .i64 xj, .bool false] (fun k_ => oki k_ ∨ ((fun _ => True)) k_ ∧ w14.heap.size ≤ k_) (fun _ => False) rfl rfl ?aP (fun _ hk => hk.elim) ?aF ?aO ?aB ?aS ?aL ?_
     (case aP => exact k38_mkM _ _ _ (⟨xj, false⟩ : S38))
     (case aF => exact fun k_ hk => .inr ⟨trivial, hk⟩)
     (case aO => exact Kd.R_mono UU.out (fun _ hk => .inl hk))
     (case aB => exact HB.out)
     (case aS => exact HB.out.size)
     (case aL => have := HRL.out; omega)
     intro v_ w16 ho hb hg hat
     clear hat
     have m0_ := Aside0.mk (blk_grown BK111.out hg (Kd.R_ne UU.out BK111.out (by decide)))
     have m1_ := Aside0.mk (blk_grown BK4.out hg (Kd.R_ne UU.out BK4.out (by decide)))
     have m2_ := Aside0.mk (blk_grown BK5.out hg (Kd.R_ne UU.out BK5.out (by decide)))
     have m3_ := Aside0.mk (Kd.S_over' Hv21.out (Kd.R_typed UU.out) (by decide) hg)
     have m4_ := Aside0.mk (Kd.S_over' Hv23.out (Kd.R_typed UU.out) (by decide) hg)
     have m5_ := Aside0.mk (Kd.R_over' HLL0.out (Kd.R_typed UU.out) (by decide) hg)
     have m6_ := Aside0.mk (Kd.H_grown (Kd.H_widen HH.out) hg (fun k_ e_ => .inl (UU.out.1 k_ e_)))
     have m7_ := Aside0.mk (hb)
     have m8_ := Aside0.mk (ho)
     clear BK111 BK4 BK5 Hv21 Hv23 HLL0 HH HB UU
     have BK111 := m0_
     clear m0_
     have BK4 := m1_
     clear m1_
     have BK5 := m2_
     clear m2_
     have Hv21 := m3_
     clear m3_
     have Hv23 := m4_
     clear m4_
     have HLL0 := m5_
     clear m5_
     have HH := m6_
     clear m6_
     have HB := m7_
     clear m7_
     have UU := m8_
     clear m8_
     rw [← HST.out] at UU
     obtain ⟨A2, c2, e2⟩ := Kd.R_slice UU.out
     subst e2
     obtain ⟨_, _, hraw, _, _, hcc_, _⟩ := Kd.H_raw HH.out pk qk
     obtain ⟨_, hfr_⟩ := Kd.H_at HH.out pk qk
     have hx4 := hcc_ 0 _ rfl
     have hf4 := hfr_ 0
     rw [show ((Kd.slice 38 k38)).sz = 1 from rfl, Nat.mul_one, Nat.add_zero, Int.toNat_natCast] at hx4 hf4
     have HRAW := Aside0.mk hraw
     clear hcc_ hfr_ hraw ho hb hg
     refine hK.out _ _ ⟨(blk_cell BK5.out 4).trans rfl, hx4⟩ (fun hHeld => ?_)
     clear hK K
     refine norm_ (a' := ?_) ?_ ?_
     rotate_left
     ·show Act.put _ (some 49) _ = _
      simp only [Act.put, List.setIfInBounds_toArray, List.set_cons_zero, List.set_cons_succ, i64_w, i32_w]
      rfl
     refine pure_ (i := 12) (N := some 50) (v := ?_) (a' := ?_) #[true, true, true, true, true, true, true, true, true, true, true, true, true, false] rfl rfl (by kernel_rfl) (fun _ _ _ h => h) (Or.inl ⟨by rfl, ?_⟩) ?_ ?_
     rotate_left
     ·intro w'
      go_simp
      with_reducible rfl
     rotate_left
     ·simp only [Act.put, List.setIfInBounds_toArray, List.set_cons_zero, List.set_cons_succ, i64_w, i32_w]
      rfl
     have HP := Kd.S_seg0 HH.out pk qk (seg := [.slice A2 RW2.length c2]) (j := 0) (show 1 ≤ 1 from by decide) (x' := RW2) (Kd.M_row UU.out) (fun _ hk => hk)
     rw [show ((Kd.slice 38 k38)).sz = 1 from rfl, Nat.mul_one, Nat.add_zero, Int.toNat_natCast, List.set_set] at HP
     have HG2 : w16.grownBy (w16.setCell ⟨go, k, none⟩ (.slice A2 RW2.length c2)) (some go) := HP.2
     have HO := Aside0.mk (show Kd.S (Kd.slice 38 k38) 34 (w16.setCell ⟨go, k, none⟩ (.slice A2 RW2.length c2)) w.heap.size (fun _ => True) (.slice (some ⟨go, 0, none⟩) n0 co) ((rowsAt l0_2 n0 k).set k RW2) from HP.1)
     refine last_ (i := 13) (N := none) #[true, true, true, true, true, true, true, true, true, true, true, true, true, true] rfl rfl (by kernel_rfl) (by decide) (fun K hK => ?_)
     refine skip_ (w1 := w16.setCell ⟨go, k, none⟩ (.slice A2 RW2.length c2)) (by rfl) rfl ?_ ?_
     ·go_simp
     refine hK.out _ _ ?_
     clear hK K
     have m0_ := Aside0.mk (blk_grown BK111.out HG2 (Kd.R_ne HRAW.out BK111.out (by decide)))
     have m1_ := Aside0.mk (blk_grown BK4.out HG2 (Kd.R_ne HRAW.out BK4.out (by decide)))
     have m2_ := Aside0.mk (blk_grown BK5.out HG2 (Kd.R_ne HRAW.out BK5.out (by decide)))
     have m3_ := Aside0.mk (Kd.S_over' Hv21.out (Kd.R_typed HRAW.out) (by decide) HG2)
     have m4_ := Aside0.mk (Kd.S_over' Hv23.out (Kd.R_typed HRAW.out) (by decide) HG2)
     have m5_ := Aside0.mk (Kd.R_over' HLL0.out (Kd.R_typed HRAW.out) (by decide) HG2)
     have m6_ := Aside0.mk ((below_set HB.out GBO.out : Below w.heap.size w (w16.setCell ⟨go, k, none⟩ (.slice A2 RW2.length c2))))
     clear BK111 BK4 BK5 Hv21 Hv23 HLL0 HB
     have BK111 := m0_
     clear m0_
     have BK4 := m1_
     clear m1_
     have BK5 := m2_
     clear m2_
     have Hv21 := m3_
     clear m3_
     have Hv23 := m4_
     clear m4_
     have HLL0 := m5_
     clear m5_
     have HB := m6_
     clear m6_
     clear HP HG2 HRAW UU HH hHeld hx4 hf4
     refine done_ (by kernel_rfl) ?_
     generalize w16.setCell ⟨go, k, none⟩ (.slice A2 RW2.length c2) = w17 at HO BK111 BK4 BK5 Hv21 Hv23 HLL0 HB ⊢
     rw [HRW2.out] at HO
     clear HRW2 HST HRW
     go_wp2_with fail
     go_roundw
     case rel => exact ⟨j + 1, by omega, by first | rfl | go_num, HO, BK111, BK4, BK5, Hv21, Hv23, HLL0, HB⟩
     case measure => simp [intOf] <;> omega
    ·have ej : j = LL0.length := by omega
     subst ej
     rw [List.take_length] at HO
     have cj : decide ((LL0.length : Int) < (LL0.length : Int)) = false := decide_eq_false (by omega)
     have hlenx : True := trivial
     obtain ⟨ad1, AA1, cc1, e_, hx_, hl_, _⟩ := at_L7 (Kd.S_reads' Hv23.out).2.2 (k : Int) pk (by rw [hn1]; omega)
     cases e_
     obtain ⟨ce_, hce_, hM_, hcc_⟩ := Kd.S_get Hv23.out [] (k : Int) pk qk
     obtain ⟨ve_, rfl, ge_⟩ := hM_
     have hv_ := hcc_ 0 _ rfl
     rw [Nat.add_zero, show ((Kd.slice 3 (Kd.int .i64))).sz = 1 from rfl, Nat.mul_one] at hv_
     replace hv_ := Option.some.inj (hv_.symm.trans hx_)
     rw [hv_] at ge_
     obtain ⟨LL1, hLL1⟩ : ∃ L, L = rd_L7 L1 (k : Int) := ⟨_, rfl⟩
     have HLL1 : Aside0 (Kd.R (Kd.int .i64) 3 wr w.heap.size (fun _ => True) (.slice AA1 LL1.length cc1) LL1) := ⟨by rw [hLL1]; exact Kd.R_mono ge_ (fun _ _ => trivial)⟩
     rw [← hLL1] at hx_
     simp only [Int.toNat_natCast] at hx_
     have HELL1 := Aside0.mk hLL1
     clear ge_ hv_ hcc_ hce_ hl_ hLL1
     have hxLL1 := hx_
     clear hx_
     have HLE1 : Aside0 (LL1.length ≤ 500000) := ⟨by rw [HELL1.out, HL1.out]; exact Nat.le_trans (lsAt_row _ _ _ _ _) hl⟩
     go_wp2_with fail
     have hLL1 := HLE1.out
     obtain ⟨wo2, hwo2⟩ : ∃ x_ : World, x_ = wr := ⟨_, rfl⟩
     subst hwo2
     go_loopw [57] (fun v_ w' => ∃ j : Nat, j ≤ LL1.length ∧ v_ = .int .i64 j ∧ Aside0 (Kd.S (Kd.slice 38 k38) 34 w' w.heap.size (fun _ => True) (.slice (some ⟨go, 0, none⟩) n0 co) ((rowsAt l0_2 n0 k).set k ((([] : List S38) ++ LL0.map (fun i => (⟨i, false⟩ : S38))) ++ (LL1.take j).map (fun i => (⟨i, true⟩ : S38))))) ∧ Aside0 (w'.heap[gb111]? = some (.cells #[.int .i64 (n0 : Int), .bool a0_1, .slice A0_2 l0_2.length c0_2] 24 (0, 0))) ∧ Aside0 (w'.heap[gb4]? = some (.cells #[.int .i64 0, .bool false, .slice none 0 0, .slice none 0 0, .slice none 0 0] 118 (0, 0))) ∧ Aside0 (w'.heap[gb5]? = some (.cells #[.int .i64 (n0 : Int), .bool a0_1, .slice A0_2 l0_2.length c0_2, .slice A1 n1 c1, .slice (some ⟨go, 0, none⟩) n0 co] 118 (0, 0))) ∧ Aside0 (Kd.S (Kd.slice 3 (Kd.int .i64)) 25 w' w.heap.size (fun _ => True) (.slice (some ad0) n0 cv21) L0) ∧ Aside0 (Kd.S (Kd.slice 3 (Kd.int .i64)) 25 w' w.heap.size (fun _ => True) (.slice (some ad1) n0 cv23) L1) ∧ Aside0 (Kd.R (Kd.int .i64) 3 w' w.heap.size (fun _ => True) (.slice AA1 LL1.length cc1) LL1) ∧ Aside0 (Below w.heap.size w w')) (fun v_ _ => LL1.length - (intOf v_).toNat)
     case atStart => exact ⟨0, Nat.zero_le _, rfl, ⟨by rw [List.take_zero, List.map_nil, List.append_nil]; exact HO.out⟩, BK111, BK4, BK5, Hv21, Hv23, HLL1, HB⟩
     case round =>
      clear HO BK111 BK4 BK5 Hv21 Hv23 HLL1 HB
      obtain ⟨j, hj, rfl, HO, BK111, BK4, BK5, Hv21, Hv23, HLL1, HB⟩ := hrel
      by_cases hltj : j < LL1.length
      ·have pj : 0 ≤ ((j : Nat) : Int) := by omega
       have qj : ((j : Nat) : Int) < (LL1.length : Int) := by omega
       have cj : decide ((j : Int) < (LL1.length : Int)) = true := decide_eq_true qj
       obtain ⟨adj, eadj, hxj⟩ := Kd.at_int (Kd.R_reads' HLL1.out).2.2 (j : Int) pj qj
       cases eadj
       simp only [Int.toNat_natCast] at hxj
       have HST := Aside0.mk (row_step (([] : List S38) ++ LL0.map (fun i => (⟨i, false⟩ : S38))) LL1 true j hltj)
       obtain ⟨xj, hxv⟩ : ∃ x_, x_ = rd LL1 (j : Int) := ⟨_, rfl⟩
       obtain ⟨RW, hRW⟩ : ∃ r_, r_ = ((([] : List S38) ++ LL0.map (fun i => (⟨i, false⟩ : S38))) ++ (LL1.take j).map (fun i => (⟨i, true⟩ : S38))) := ⟨_, rfl⟩
       have HRL : Aside0 (RW.length ≤ 1000000) := ⟨by rw [hRW]; simp; have := HLE0.out; have := HLE1.out; omega⟩
       rw [← hRW, ← hxv] at HST
       obtain ⟨RW2, hRW2⟩ : ∃ r_, r_ = ((([] : List S38) ++ LL0.map (fun i => (⟨i, false⟩ : S38))) ++ (LL1.take (j + 1)).map (fun i => (⟨i, true⟩ : S38))) := ⟨_, rfl⟩
       rw [← hRW2] at HST
       have HRW2 := Aside0.mk hRW2
       clear hRW2
       rw [← hxv] at hxj
       rw [← hRW] at HO
       have HRW := Aside0.mk hRW
       have HXV := Aside0.mk hxv
       clear hRW hxv
       obtain ⟨oki, c_, _, hM_, hcc_, _, _, hH_⟩ := Kd.S_elem HO.out [] (k : Int) pk qk
       obtain ⟨vr, rfl, hR_⟩ := hM_
       rw [show ((rowsAt l0_2 n0 k).set k RW).getD (k : Int).toNat [] = RW from rd_set (rowsAt l0_2 n0 k) k RW (by rw [rowsAt_len]; exact hlt)] at hR_
       obtain ⟨Ar, cr, er⟩ := Kd.R_slice hR_
       subst er
       have hx4 := hcc_ 0 _ rfl
       rw [show ((Kd.slice 38 k38)).sz = 1 from rfl, Nat.mul_one, Nat.add_zero, Int.toNat_natCast] at hx4
       have UU := Aside0.mk hR_
       have HH := Aside0.mk hH_
       clear hcc_ hR_ hH_
       have hx5 : wr.cell? ⟨gb5, 4, none⟩ = some (.slice (some ⟨go, 0, none⟩) n0 co) := (blk_cell BK5.out 4).trans rfl
       go_wp2_with fail
       refine start_ (n := 14) (S := fun w' => w'.cell? ⟨gb5, 4, none⟩ = some (.slice (some ⟨go, 0, none⟩) n0 co) ∧ w'.cell? ⟨go, k, none⟩ = some (.slice Ar RW.length cr)) (ds := [13]) #[false, false, false, false, false, false, false, false, false, false, false, false, false, false] (by kernel_rfl) rfl rfl ⟨hx5, hx4⟩ (fun hHeld => ?_)
       have m0_ := Aside0.mk (below_drew HB.out)
       have m1_ := Aside0.mk ((show wr.drew.heap[gb111]? = _ from BK111.out))
       have m2_ := Aside0.mk ((show wr.drew.heap[gb4]? = _ from BK4.out))
       have m3_ := Aside0.mk ((show wr.drew.heap[gb5]? = _ from BK5.out))
       have m4_ := Aside0.mk (Kd.S_drew Hv21.out)
       have m5_ := Aside0.mk (Kd.S_drew Hv23.out)
       have m6_ := Aside0.mk (Kd.R_drew HLL1.out)
       have m7_ := Aside0.mk (Kd.R_drew UU.out)
       have m8_ := Aside0.mk (Kd.H_drew HH.out)
       clear HB BK111 BK4 BK5 Hv21 Hv23 HLL1 UU HH
       have HB := m0_
       clear m0_
       have BK111 := m1_
       clear m1_
       have BK4 := m2_
       clear m2_
       have BK5 := m3_
       clear m3_
       have Hv21 := m4_
       clear m4_
       have Hv23 := m5_
       clear m5_
       have HLL1 := m6_
       clear m6_
       have UU := m7_
       clear m7_
       have HH := m8_
       clear m8_
       clear HO hxj hx5 hx4
       generalize wr.drew = w14 at HB BK111 BK4 BK5 Hv21 Hv23 HLL1 UU HH hHeld ⊢
       refine pure_ (i := 0) (N := some 61) (v := ?_) (a' := ?_) #[true, false, false, false, false, false, false, false, false, false, false, false, false, false] rfl rfl (by kernel_rfl) (fun _ _ _ h => h) (Or.inl ⟨by rfl, ?_⟩) ?_ ?_
       rotate_left
       ·intro w'
        go_simp
        with_reducible rfl
       rotate_left
       ·simp only [Act.put, List.setIfInBounds_toArray, List.set_cons_zero, List.set_cons_succ, i64_w, i32_w]
        rfl
       refine pure_ (i := 2) (N := some 63) (v := ?_) (a' := ?_) #[true, false, true, false, false, false, false, false, false, false, false, false, false, false] rfl rfl (by kernel_rfl) (fun _ _ _ h => h) (Or.inl ⟨by rfl, ?_⟩) ?_ ?_
       rotate_left
       ·intro w'
        go_simp
        with_reducible rfl
       rotate_left
       ·simp only [Act.put, List.setIfInBounds_toArray, List.set_cons_zero, List.set_cons_succ, i64_w, i32_w]
        rfl
       refine pure_ (i := 3) (N := some 64) (v := ?_) (a' := ?_) #[true, false, true, true, false, false, false, false, false, false, false, false, false, false] rfl rfl (by kernel_rfl) (fun _ _ _ h => h) (Or.inl ⟨by rfl, ?_⟩) ?_ ?_
       rotate_left
       ·intro w'
        go_simp
        with_reducible rfl
       rotate_left
       ·simp only [Act.put, List.setIfInBounds_toArray, List.set_cons_zero, List.set_cons_succ, i64_w, i32_w]
        rfl
       refine pure_ (i := 5) (N := some 66) (v := ?_) (a' := ?_) #[true, false, true, true, false, true, false, false, false, false, false, false, false, false] rfl rfl (by kernel_rfl) (fun _ _ _ h => h) (Or.inl ⟨by rfl, ?_⟩) ?_ ?_
       rotate_left
       ·intro w'
        go_simp
        with_reducible rfl
       rotate_left
       ·simp only [Act.put, List.setIfInBounds_toArray, List.set_cons_zero, List.set_cons_succ, i64_w, i32_w]
        rfl
       refine pure_ (i := 8) (N := some 69) (v := ?_) (a' := ?_) #[true, false, true, true, false, true, false, false, true, false, false, false, false, false] rfl rfl (by kernel_rfl) (fun _ _ _ h => h) (Or.inl ⟨by rfl, ?_⟩) ?_ ?_
       rotate_left
       ·intro w'
        go_simp
        with_reducible rfl
       rotate_left
       ·simp only [Act.put, List.setIfInBounds_toArray, List.set_cons_zero, List.set_cons_succ, i64_w, i32_w]
        rfl
       refine pure_ (i := 9) (N := some 70) (v := ?_) (a' := ?_) #[true, false, true, true, false, true, false, false, true, true, false, false, false, false] rfl rfl (by kernel_rfl) (fun _ _ _ h => h) (Or.inl ⟨by rfl, ?_⟩) ?_ ?_
       rotate_left
       ·intro w'
        go_simp
        with_reducible rfl
       rotate_left
       ·simp only [Act.put, List.setIfInBounds_toArray, List.set_cons_zero, List.set_cons_succ, i64_w, i32_w]
        rfl
       refine take_ (i := 1) (N := some 62) (v := ?_) (a' := ?_) #[true, true, true, true, false, true, false, false, true, true, false, false, false, false] rfl rfl (by kernel_rfl) (fun _ _ _ h => h) (Or.inl ⟨by rfl, ?_⟩) hHeld ?_ ?_
       rotate_left
       ·rintro w' ⟨s0, s1⟩
        go_simp
        with_reducible rfl
       rotate_left
       ·simp only [Act.put, List.setIfInBounds_toArray, List.set_cons_zero, List.set_cons_succ, i64_w, i32_w]
        rfl
       refine take_ (i := 4) (N := some 65) (v := ?_) (a' := ?_) #[true, true, true, true, true, true, false, false, true, true, false, false, false, false] rfl rfl (by kernel_rfl) (fun _ _ _ h => h) (Or.inl ⟨by rfl, ?_⟩) hHeld ?_ ?_
       rotate_left
       ·rintro w' ⟨s0, s1⟩
        go_simp
        with_reducible rfl
       rotate_left
       ·simp only [Act.put, List.setIfInBounds_toArray, List.set_cons_zero, List.set_cons_succ, i64_w, i32_w]
        rfl
       refine pure_ (i := 6) (N := some 67) (v := ?_) (a' := ?_) #[true, true, true, true, true, true, true, false, true, true, false, false, false, false] rfl rfl (by kernel_rfl) (fun _ _ _ h => h) (Or.inl ⟨by rfl, ?_⟩) ?_ ?_
       rotate_left
       ·intro w'
        go_simp
        with_reducible rfl
       rotate_left
       ·simp only [Act.put, List.setIfInBounds_toArray, List.set_cons_zero, List.set_cons_succ, i64_w, i32_w]
        rfl
       refine take_ (i := 7) (N := some 68) (v := ?_) (a' := ?_) #[true, true, true, true, true, true, true, true, true, true, false, false, false, false] rfl rfl (by kernel_rfl) (fun _ _ _ h => h) (Or.inl ⟨by rfl, ?_⟩) hHeld ?_ ?_
       rotate_left
       ·rintro w' ⟨s0, s1⟩
        go_simp
        with_reducible rfl
       rotate_left
       ·simp only [Act.put, List.setIfInBounds_toArray, List.set_cons_zero, List.set_cons_succ, i64_w, i32_w]
        rfl
       refine one_ (i := 10) (N := some 71) #[true, true, true, true, true, true, true, true, true, true, true, false, false, false] rfl rfl (by kernel_rfl) (by decide) (fun K hK => ?_)
       refine value_ (w1 := ?_) (v := ?_) (by rfl) rfl ?_ ?_
       rotate_left 2
       ·go_simp
        constructor
        ·rfl
        ·rfl
       refine hK.out _ _ ⟨(blk_cell (blk_alloc BK5.out _) 4).trans rfl, (World.cell?_alloc_lt _ _ _ (World.block_lt_of_cell? _ _ hHeld.2)).trans hHeld.2⟩ (fun hHeld2 => ?_)
       clear hK K hHeld2
       refine norm_ (a' := ?_) ?_ ?_
       rotate_left
       ·show Act.put _ (some 71) _ = _
        simp only [Act.put, List.setIfInBounds_toArray, List.set_cons_zero, List.set_cons_succ, i64_w, i32_w]
        rfl
       refine one_ (i := 11) (N := some 72) #[true, true, true, true, true, true, true, true, true, true, true, true, false, false] rfl rfl (by kernel_rfl) (by decide) (fun K hK => ?_)
       refine Kd.R_append_step k38 (w0 := w) w.heap.size (by rfl) (.tmp 68) (.tmp 71) 34 38 (.agg #[(.int .i64 0), (.bool false)]) 16 rfl Try.underlying34 info38 rfl (by decide) (by omega) (.slice Ar RW.length cr) RW (⟨xj, true⟩ : S38) [.int .i64 xj, .bool true] (fun k_ => oki k_ ∨ ((fun _ => True)) k_ ∧ w14.heap.size ≤ k_) (fun _ => False) rfl rfl ?aP (fun _ hk => hk.elim) ?aF ?aO ?aB ?aS ?aL ?_
       (case aP => exact k38_mkM _ _ _ (⟨xj, true⟩ : S38))
       (case aF => exact fun k_ hk => .inr ⟨trivial, hk⟩)
       (case aO => exact Kd.R_mono UU.out (fun _ hk => .inl hk))
       (case aB => exact HB.out)
       (case aS => exact HB.out.size)
       (case aL => have := HRL.out; omega)
       intro v_ w16 ho hb hg hat
       clear hat
       have m0_ := Aside0.mk (blk_grown BK111.out hg (Kd.R_ne UU.out BK111.out (by decide)))
       have m1_ := Aside0.mk (blk_grown BK4.out hg (Kd.R_ne UU.out BK4.out (by decide)))
       have m2_ := Aside0.mk (blk_grown BK5.out hg (Kd.R_ne UU.out BK5.out (by decide)))
       have m3_ := Aside0.mk (Kd.S_over' Hv21.out (Kd.R_typed UU.out) (by decide) hg)
       have m4_ := Aside0.mk (Kd.S_over' Hv23.out (Kd.R_typed UU.out) (by decide) hg)
       have m5_ := Aside0.mk (Kd.R_over' HLL1.out (Kd.R_typed UU.out) (by decide) hg)
       have m6_ := Aside0.mk (Kd.H_grown (Kd.H_widen HH.out) hg (fun k_ e_ => .inl (UU.out.1 k_ e_)))
       have m7_ := Aside0.mk (hb)
       have m8_ := Aside0.mk (ho)
       clear BK111 BK4 BK5 Hv21 Hv23 HLL1 HH HB UU
       have BK111 := m0_
       clear m0_
       have BK4 := m1_
       clear m1_
       have BK5 := m2_
       clear m2_
       have Hv21 := m3_
       clear m3_
       have Hv23 := m4_
       clear m4_
       have HLL1 := m5_
       clear m5_
       have HH := m6_
       clear m6_
       have HB := m7_
       clear m7_
       have UU := m8_
       clear m8_
       rw [← HST.out] at UU
       obtain ⟨A2, c2, e2⟩ := Kd.R_slice UU.out
       subst e2
       obtain ⟨_, _, hraw, _, _, hcc_, _⟩ := Kd.H_raw HH.out pk qk
       obtain ⟨_, hfr_⟩ := Kd.H_at HH.out pk qk
       have hx4 := hcc_ 0 _ rfl
       have hf4 := hfr_ 0
       rw [show ((Kd.slice 38 k38)).sz = 1 from rfl, Nat.mul_one, Nat.add_zero, Int.toNat_natCast] at hx4 hf4
       have HRAW := Aside0.mk hraw
       clear hcc_ hfr_ hraw ho hb hg
       refine hK.out _ _ ⟨(blk_cell BK5.out 4).trans rfl, hx4⟩ (fun hHeld => ?_)
       clear hK K
       refine norm_ (a' := ?_) ?_ ?_
       rotate_left
       ·show Act.put _ (some 72) _ = _
        simp only [Act.put, List.setIfInBounds_toArray, List.set_cons_zero, List.set_cons_succ, i64_w, i32_w]
        rfl
       refine pure_ (i := 12) (N := some 73) (v := ?_) (a' := ?_) #[true, true, true, true, true, true, true, true, true, true, true, true, true, false] rfl rfl (by kernel_rfl) (fun _ _ _ h => h) (Or.inl ⟨by rfl, ?_⟩) ?_ ?_
       rotate_left
       ·intro w'
        go_simp
        with_reducible rfl
       rotate_left
       ·simp only [Act.put, List.setIfInBounds_toArray, List.set_cons_zero, List.set_cons_succ, i64_w, i32_w]
        rfl
       have HP := Kd.S_seg0 HH.out pk qk (seg := [.slice A2 RW2.length c2]) (j := 0) (show 1 ≤ 1 from by decide) (x' := RW2) (Kd.M_row UU.out) (fun _ hk => hk)
       rw [show ((Kd.slice 38 k38)).sz = 1 from rfl, Nat.mul_one, Nat.add_zero, Int.toNat_natCast, List.set_set] at HP
       have HG2 : w16.grownBy (w16.setCell ⟨go, k, none⟩ (.slice A2 RW2.length c2)) (some go) := HP.2
       have HO := Aside0.mk (show Kd.S (Kd.slice 38 k38) 34 (w16.setCell ⟨go, k, none⟩ (.slice A2 RW2.length c2)) w.heap.size (fun _ => True) (.slice (some ⟨go, 0, none⟩) n0 co) ((rowsAt l0_2 n0 k).set k RW2) from HP.1)
       refine last_ (i := 13) (N := none) #[true, true, true, true, true, true, true, true, true, true, true, true, true, true] rfl rfl (by kernel_rfl) (by decide) (fun K hK => ?_)
       refine skip_ (w1 := w16.setCell ⟨go, k, none⟩ (.slice A2 RW2.length c2)) (by rfl) rfl ?_ ?_
       ·go_simp
       refine hK.out _ _ ?_
       clear hK K
       have m0_ := Aside0.mk (blk_grown BK111.out HG2 (Kd.R_ne HRAW.out BK111.out (by decide)))
       have m1_ := Aside0.mk (blk_grown BK4.out HG2 (Kd.R_ne HRAW.out BK4.out (by decide)))
       have m2_ := Aside0.mk (blk_grown BK5.out HG2 (Kd.R_ne HRAW.out BK5.out (by decide)))
       have m3_ := Aside0.mk (Kd.S_over' Hv21.out (Kd.R_typed HRAW.out) (by decide) HG2)
       have m4_ := Aside0.mk (Kd.S_over' Hv23.out (Kd.R_typed HRAW.out) (by decide) HG2)
       have m5_ := Aside0.mk (Kd.R_over' HLL1.out (Kd.R_typed HRAW.out) (by decide) HG2)
       have m6_ := Aside0.mk ((below_set HB.out GBO.out : Below w.heap.size w (w16.setCell ⟨go, k, none⟩ (.slice A2 RW2.length c2))))
       clear BK111 BK4 BK5 Hv21 Hv23 HLL1 HB
       have BK111 := m0_
       clear m0_
       have BK4 := m1_
       clear m1_
       have BK5 := m2_
       clear m2_
       have Hv21 := m3_
       clear m3_
       have Hv23 := m4_
       clear m4_
       have HLL1 := m5_
       clear m5_
       have HB := m6_
       clear m6_
       clear HP HG2 HRAW UU HH hHeld hx4 hf4
       refine done_ (by kernel_rfl) ?_
       generalize w16.setCell ⟨go, k, none⟩ (.slice A2 RW2.length c2) = w17 at HO BK111 BK4 BK5 Hv21 Hv23 HLL1 HB ⊢
       rw [HRW2.out] at HO
       clear HRW2 HST HRW
       go_wp2_with fail
       go_roundw
       case rel => exact ⟨j + 1, by omega, by first | rfl | go_num, HO, BK111, BK4, BK5, Hv21, Hv23, HLL1, HB⟩
       case measure => simp [intOf] <;> omega
      ·have ej : j = LL1.length := by omega
       subst ej
       rw [List.take_length] at HO
       have cj : decide ((LL1.length : Int) < (LL1.length : Int)) = false := decide_eq_false (by omega)
       obtain ⟨RW, hRW⟩ : ∃ r_, r_ = ((([] : List S38) ++ LL0.map (fun i => (⟨i, false⟩ : S38))) ++ LL1.map (fun i => (⟨i, true⟩ : S38))) := ⟨_, rfl⟩
       have HRU : Aside0 (RW = stepsU l0_2 n0 (k : Int)) := ⟨by rw [hRW, HELL0.out, HELL1.out, HL0.out, HL1.out]; rfl⟩
       have HRL : Aside0 (RW.length ≤ 1000000) := ⟨by rw [hRW]; simp; have := HLE0.out; have := HLE1.out; omega⟩
       rw [← hRW] at HO
       clear hRW
       obtain ⟨oki, c_, _, hM_, hcc_, _, _, hH_⟩ := Kd.S_elem HO.out [] (k : Int) pk qk
       obtain ⟨vr, rfl, hR_⟩ := hM_
       rw [show ((rowsAt l0_2 n0 k).set k RW).getD (k : Int).toNat [] = RW from rd_set (rowsAt l0_2 n0 k) k RW (by rw [rowsAt_len]; exact hlt)] at hR_
       obtain ⟨Ar, cr, er⟩ := Kd.R_slice hR_
       subst er
       have hx4 := hcc_ 0 _ rfl
       rw [show ((Kd.slice 38 k38)).sz = 1 from rfl, Nat.mul_one, Nat.add_zero, Int.toNat_natCast] at hx4
       have UU := Aside0.mk hR_
       have HH := Aside0.mk hH_
       clear hcc_ hR_ hH_
       have hx5 : wr.cell? ⟨gb5, 4, none⟩ = some (.slice (some ⟨go, 0, none⟩) n0 co) := (blk_cell BK5.out 4).trans rfl
       have HEN : Aside0 (ends l0_2 n0) := ⟨fun i hi => ⟨HE0.out i hi, HE1.out i hi⟩⟩
       go_wp2_with (first | (go_at_call 143; refine (sort_row HH.out UU.out HRU.out hlt HEN.out (by omega) HRL.out).mono ?_; rintro e_ w20 ⟨rfl, vv, hg, hty, hS⟩; rw [List.set_set, rowsAt_set l0_2 n0 k hlt] at hS; have m0_ := Aside0.mk (blk_grown BK111.out hg (fun he => by obtain ⟨_, cells_, hc_⟩ := hty _ he.symm; have t_ := BK111.out.symm.trans hc_; simp at t_)); have m1_ := Aside0.mk (blk_grown BK4.out hg (fun he => by obtain ⟨_, cells_, hc_⟩ := hty _ he.symm; have t_ := BK4.out.symm.trans hc_; simp at t_)); have m2_ := Aside0.mk (blk_grown BK5.out hg (fun he => by obtain ⟨_, cells_, hc_⟩ := hty _ he.symm; have t_ := BK5.out.symm.trans hc_; simp at t_)); have m3_ := Aside0.mk (Kd.S_over' (v := vv) Hv21.out (fun k_ hk_ => (hty k_ hk_).2) (by decide) hg); have m4_ := Aside0.mk (Kd.S_over' (v := vv) Hv23.out (fun k_ hk_ => (hty k_ hk_).2) (by decide) hg); have m5_ := Aside0.mk (HB.out.grown hg HB.out.size (fun k_ hk_ => (hty k_ hk_).1)); have m6_ := Aside0.mk hS; clear hg hty hS HO BK111 BK4 BK5 Hv21 Hv23 HLL1 HB UU HH hx4 hx5; have HO := m6_; have BK111 := m0_; have BK4 := m1_; have BK5 := m2_; have Hv21 := m3_; have Hv23 := m4_; have HB := m5_; clear m0_ m1_ m2_ m3_ m4_ m5_ m6_) | fail)
       go_roundw
       case rel => exact ⟨k + 1, by omega, by first | rfl | go_num, HO, BK111, BK4, BK5, Hv21, Hv23, HB⟩
       case measure => simp [intOf] <;> omega
  ·have ek : n0 = k := by omega
   subst ek
   have hx0 : wr.cell? ⟨gb5, 0, none⟩ = some (.int .i64 (n0 : Int)) := (blk_cell BK5.out 0).trans rfl
   have hx1 : wr.cell? ⟨gb5, 1, none⟩ = some (.bool a0_1) := (blk_cell BK5.out 1).trans rfl
   have hx2 : wr.cell? ⟨gb5, 2, none⟩ = some (.slice A0_2 l0_2.length c0_2) := (blk_cell BK5.out 2).trans rfl
   have hx3 : wr.cell? ⟨gb5, 3, none⟩ = some (.slice A1 n1 c1) := (blk_cell BK5.out 3).trans rfl
   have hx4 : wr.cell? ⟨gb5, 4, none⟩ = some (.slice Ao n0 co) := (blk_cell BK5.out 4).trans rfl
   have hy0 : wr.cell? ⟨gb4, 0, none⟩ = some (.int .i64 0) := (blk_cell BK4.out 0).trans rfl
   have hf0 := blk_frozen BK4.out 0
   have hy1 : wr.cell? ⟨gb4, 1, none⟩ = some (.bool false) := (blk_cell BK4.out 1).trans rfl
   have hf1 := blk_frozen BK4.out 1
   have hy2 : wr.cell? ⟨gb4, 2, none⟩ = some (.slice none 0 0) := (blk_cell BK4.out 2).trans rfl
   have hf2 := blk_frozen BK4.out 2
   have hy3 : wr.cell? ⟨gb4, 3, none⟩ = some (.slice none 0 0) := (blk_cell BK4.out 3).trans rfl
   have hf3 := blk_frozen BK4.out 3
   have hy4 : wr.cell? ⟨gb4, 4, none⟩ = some (.slice none 0 0) := (blk_cell BK4.out 4).trans rfl
   have hf4 := blk_frozen BK4.out 4
   have GE4' := GE4.out
   go_wp2
   refine bodyPost_ret (results_cell_row rfl _ _ gb4 118 #[.int .i64 (n0 : Int), .bool a0_1, .slice A0_2 l0_2.length c0_2, .slice A1 n1 c1, .slice Ao n0 co] (0, 0) _ rfl (by refine blk_put (cs := #[.int .i64 (n0 : Int), .bool a0_1, .slice A0_2 l0_2.length c0_2, .slice A1 n1 c1, .slice none 0 0]) ?_ 4 _ rfl; refine blk_put (cs := #[.int .i64 (n0 : Int), .bool a0_1, .slice A0_2 l0_2.length c0_2, .slice none 0 0, .slice none 0 0]) ?_ 3 _ rfl; refine blk_put (cs := #[.int .i64 (n0 : Int), .bool a0_1, .slice none 0 0, .slice none 0 0, .slice none 0 0]) ?_ 2 _ rfl; refine blk_put (cs := #[.int .i64 (n0 : Int), .bool false, .slice none 0 0, .slice none 0 0, .slice none 0 0]) ?_ 1 _ rfl; refine blk_put (cs := #[.int .i64 0, .bool false, .slice none 0 0, .slice none 0 0, .slice none 0 0]) ?_ 0 _ rfl; exact BK4.out) Try.underlying118 rfl (by kernel_rfl)) rfl ?_
   exact ⟨_, rfl, Kd.S_mono (Kd.S_far (p := ⟨gb4, 4, none⟩) (Kd.S_far (p := ⟨gb4, 3, none⟩) (Kd.S_far (p := ⟨gb4, 2, none⟩) (Kd.S_far (p := ⟨gb4, 1, none⟩) (Kd.S_far (p := ⟨gb4, 0, none⟩) (Kd.S_types HO.out BK4.out (by decide)) (fun _ hk => hk.2) (.int .i64 (n0 : Int))) (fun _ hk => hk.2) (.bool a0_1)) (fun _ hk => hk.2) (.slice A0_2 l0_2.length c0_2)) (fun _ hk => hk.2) (.slice A1 n1 c1)) (fun _ hk => hk.2) (.slice Ao n0 co)) (fun _ _ => trivial), by repeat (first | exact HB.out | refine below_set ?_ GE4.out)⟩
end Go.Proofs.Ytkcpanpdipmmmaa.H
namespace Go.Proofs.Ytkcpanpdipmmmaa.P
open Go.RowKit Go.Proofs.YtkcpanpdipmmmaaW.PrintWords Go.Proofs.YtkcpanpdipmmmaaW.PrintLast Go.Proofs.YtkcpanpdipmmmaaW.PrintMore
attribute [local go_sem] max2_int min2_int max_two min_two max_three min_three max_four min_four
def ebbtideref07_Ends.f (k : Nat) (a0_0 : Int) (a0_1 : Bool) (l0_2 : List (S74)) (a1 : Int) (a2 : Int) : Option (Int) := (ebbtideref05_Check.f k a0_0 a0_1 l0_2).bind fun t562 => (if t562 = 0 then ((ebbtideref06_Node.f a0_0 a0_1 l0_2 a1).bind fun t563 => (if t563 = true then ((ebbtideref06_Node.f a0_0 a0_1 l0_2 a2).bind fun t564 => (if t564 = true then (if a1 = a2 then (some 70) else (some 0)) else (some 70))) else (some 70))) else (some t562))
set_option maxHeartbeats 8000000 in
set_option maxRecDepth 100000 in
theorem ebbtideref07_Ends.calls (k : Nat) (a0_0 : Int) (a0_1 : Bool) (A0_2 : Option Addr) (c0_2 : Nat) (l0_2 : List (S74)) (a1 : Int) (a2 : Int) (r : Int) (w : World) (hr0_2 : Kd.C k74 w A0_2 l0_2.length l0_2) (hc0_2 : l0_2.length ≤ c0_2) (h : ebbtideref07_Ends.f k a0_0 a0_1 l0_2 a1 a2 = some r) :
  Calls Try.prog 77 #[.agg #[.int .i64 a0_0, .bool a0_1, .slice A0_2 l0_2.length c0_2], .int .i64 a1, .int .i64 a2] w fun e w' => e = .returned (.int .i64 r) ∧ Below w.heap.size w w' := by
 have hu24 := Try.underlying24
 have HR0_2 := Aside0.mk hr0_2
 have HC0_2 := Aside0.mk hc0_2
 clear hr0_2 hc0_2
 have HB := Aside0.mk (Below.refl w.heap.size w)
 have H : ((ebbtideref05_Check.f k a0_0 a0_1 l0_2).bind fun t562 => (if t562 = 0 then ((ebbtideref06_Node.f a0_0 a0_1 l0_2 a1).bind fun t563 => (if t563 = true then ((ebbtideref06_Node.f a0_0 a0_1 l0_2 a2).bind fun t564 => (if t564 = true then (if a1 = a2 then (some 70) else (some 0)) else (some 70))) else (some 70))) else (some t562))) = some r := h
 clear h
 replace H := Option.bind_eq_some_iff.mp H
 obtain ⟨t562, A40, H⟩ := H
 replace H : (if t562 = 0 then ((ebbtideref06_Node.f a0_0 a0_1 l0_2 a1).bind fun t563 => (if t563 = true then ((ebbtideref06_Node.f a0_0 a0_1 l0_2 a2).bind fun t564 => (if t564 = true then (if a1 = a2 then (some 70) else (some 0)) else (some 70))) else (some 70))) else (some t562)) = some r := H
 have A4 := Aside0.mk A40
 clear A40
 by_cases c5 : t562 = 0
 rotate_left
 ·rw [if_neg c5] at H
  have c5b0 : (t562 == 0) = false := beq_eq_false_iff_ne.mpr c5
  have c5b1 : (t562 != 0) = true := bne_iff_ne.mpr c5
  obtain rfl := Option.some.inj H
  go_enter Try.func77, Try.ntmps77
  go_wp2_with (first | ((with_reducible refine gate_dst (N := 3) rfl ?_); refine box_event ?hg (N := 3) ?hd (cs := #[.int .i64 a0_0, .bool a0_1, .slice A0_2 l0_2.length c0_2]) (t := 24) ?hr ?_; (case hd => rfl); (case hg => rfl); (case hr => first | (go_simp; done) | (go_simp; rfl)); intro gb561 hg w37 hbox hb; have n0_ := Aside0.mk (below_step (by repeat (first | (with_reducible first | exact HB.out | apply below_alloc | apply pw_below_drewN | apply below_drew1) | exact HB.out)) hb); have n1_ := Aside0.mk (hbox); have n2_ := Aside0.mk ((by rw [hg]; exact (below_size (by repeat (first | (with_reducible first | exact HB.out | apply below_alloc | apply pw_below_drewN | apply below_drew1) | exact HB.out))) : w.heap.size ≤ gb561)); have n3_ := Aside0.mk ((by rw [hg]; exact (below_size (by repeat (first | (with_reducible first | exact HB.out | apply below_alloc | apply pw_below_drewN | apply below_drew1) | exact HB.out))) : w.heap.size ≤ gb561)); clear HB; have HB := n0_; have BK561 := n1_; have GW561 := n2_; have GE561 := n3_; clear n0_ n1_ n2_ n3_; clear hb hbox hg; have hcz38_0 : w37.cell? ⟨gb561, 0, none⟩ = some (.int .i64 a0_0) := (blk_cell BK561.out 0).trans rfl; have hcz38_1 : w37.cell? ⟨gb561, 1, none⟩ = some (.bool a0_1) := (blk_cell BK561.out 1).trans rfl; have hcz38_2 : w37.cell? ⟨gb561, 2, none⟩ = some (.slice A0_2 l0_2.length c0_2) := (blk_cell BK561.out 2).trans rfl; have hfz38_0 := blk_frozen BK561.out 0; have hfz38_1 := blk_frozen BK561.out 1; have hfz38_2 := blk_frozen BK561.out 2) | ((with_reducible refine gate_callee (f := 78) rfl ?_); refine goesL_ (some 9) rfl rfl Try.func78 (by kernel_rfl) rfl #[.agg #[.int .i64 a0_0, .bool a0_1, .slice A0_2 l0_2.length c0_2]] rfl (by (try simp only [List.map_toArray, List.map_cons, List.map_nil]); first | done | rfl | (simp only [List.length_drop, List.length_take]; rfl)) ?_; (with_reducible refine (ebbtideref05_Check.calls k a0_0 a0_1 _ _ l0_2 t562 _ ?side1 ?side2 A4.out).mono ?_); (case side1 => repeat (first | exact (Kd.C_below HR0_2.out HB.out) | (with_reducible refine Kd.C_alloc ?_ _) | (with_reducible refine Kd.C_drewN ?_ _) | (with_reducible refine Kd.C_drew ?_))); (case side2 => exact HC0_2.out); rintro e w39 ⟨rfl, hb⟩; refine ⟨_, rfl, ?_⟩; have n0_ := Aside0.mk (blk_below (g := gb561) (o := .cells #[.int .i64 a0_0, .bool a0_1, .slice A0_2 l0_2.length c0_2] 24 (0, 0)) (by (with_reducible repeat (first | refine blk_drewN ?_ _ | refine blk_drew ?_ | refine blk_alloc ?_ _)); exact BK561.out) hb); have n1_ := Aside0.mk (below_step (by repeat (first | (with_reducible first | exact HB.out | apply below_alloc | apply pw_below_drewN | apply below_drew1 | refine below_set ?_ GE561.out) | exact HB.out)) hb); clear BK561; clear HB; have BK561 := n0_; have HB := n1_; clear n0_ n1_; (try clear hb); (try clear hb2); (try clear hk); (try clear hi)))
  go_ret
  exact ⟨by first | rfl | (simp [errW_none, errW_some] <;> rfl) | (simp [*, errW_none, errW_some] <;> rfl), by repeat (first | (with_reducible first | exact HB.out | apply below_alloc | apply pw_below_drewN | apply below_drew1 | refine below_set ?_ GE561.out) | exact HB.out)⟩
 rw [if_pos c5] at H
 have c5b0 : (t562 == 0) = true := beq_iff_eq.mpr c5
 have c5b1 : (t562 != 0) = false := bne_eq_false_iff_eq.mpr c5
 clear c5
 replace H := Option.bind_eq_some_iff.mp H
 obtain ⟨t563, A60, H⟩ := H
 replace H : (if t563 = true then ((ebbtideref06_Node.f a0_0 a0_1 l0_2 a2).bind fun t564 => (if t564 = true then (if a1 = a2 then (some 70) else (some 0)) else (some 70))) else (some 70)) = some r := H
 have A6 := Aside0.mk A60
 clear A60
 by_cases c7 : t563 = true
 rotate_left
 ·replace c7 := Bool.eq_false_iff.mpr c7
  subst c7
  have H1 : (some 70) = some r := by rw [if_neg (show ¬ (false = true) by decide)] at H; exact H
  clear H
  have H := H1
  clear H1
  obtain rfl := Option.some.inj H
  go_enter Try.func77, Try.ntmps77
  go_wp2_with (first | ((with_reducible refine gate_dst (N := 3) rfl ?_); refine box_event ?hg (N := 3) ?hd (cs := #[.int .i64 a0_0, .bool a0_1, .slice A0_2 l0_2.length c0_2]) (t := 24) ?hr ?_; (case hd => rfl); (case hg => rfl); (case hr => first | (go_simp; done) | (go_simp; rfl)); intro gb561 hg w32 hbox hb; have n0_ := Aside0.mk (below_step (by repeat (first | (with_reducible first | exact HB.out | apply below_alloc | apply pw_below_drewN | apply below_drew1) | exact HB.out)) hb); have n1_ := Aside0.mk (hbox); have n2_ := Aside0.mk ((by rw [hg]; exact (below_size (by repeat (first | (with_reducible first | exact HB.out | apply below_alloc | apply pw_below_drewN | apply below_drew1) | exact HB.out))) : w.heap.size ≤ gb561)); have n3_ := Aside0.mk ((by rw [hg]; exact (below_size (by repeat (first | (with_reducible first | exact HB.out | apply below_alloc | apply pw_below_drewN | apply below_drew1) | exact HB.out))) : w.heap.size ≤ gb561)); clear HB; have HB := n0_; have BK561 := n1_; have GW561 := n2_; have GE561 := n3_; clear n0_ n1_ n2_ n3_; clear hb hbox hg; have hcz33_0 : w32.cell? ⟨gb561, 0, none⟩ = some (.int .i64 a0_0) := (blk_cell BK561.out 0).trans rfl; have hcz33_1 : w32.cell? ⟨gb561, 1, none⟩ = some (.bool a0_1) := (blk_cell BK561.out 1).trans rfl; have hcz33_2 : w32.cell? ⟨gb561, 2, none⟩ = some (.slice A0_2 l0_2.length c0_2) := (blk_cell BK561.out 2).trans rfl; have hfz33_0 := blk_frozen BK561.out 0; have hfz33_1 := blk_frozen BK561.out 1; have hfz33_2 := blk_frozen BK561.out 2) | ((with_reducible refine gate_callee (f := 78) rfl ?_); refine goesL_ (some 9) rfl rfl Try.func78 (by kernel_rfl) rfl #[.agg #[.int .i64 a0_0, .bool a0_1, .slice A0_2 l0_2.length c0_2]] rfl (by (try simp only [List.map_toArray, List.map_cons, List.map_nil]); first | done | rfl | (simp only [List.length_drop, List.length_take]; rfl)) ?_; (with_reducible refine (ebbtideref05_Check.calls k a0_0 a0_1 _ _ l0_2 t562 _ ?side1 ?side2 A4.out).mono ?_); (case side1 => repeat (first | exact (Kd.C_below HR0_2.out HB.out) | (with_reducible refine Kd.C_alloc ?_ _) | (with_reducible refine Kd.C_drewN ?_ _) | (with_reducible refine Kd.C_drew ?_))); (case side2 => exact HC0_2.out); rintro e w34 ⟨rfl, hb⟩; refine ⟨_, rfl, ?_⟩; have n0_ := Aside0.mk (blk_below (g := gb561) (o := .cells #[.int .i64 a0_0, .bool a0_1, .slice A0_2 l0_2.length c0_2] 24 (0, 0)) (by (with_reducible repeat (first | refine blk_drewN ?_ _ | refine blk_drew ?_ | refine blk_alloc ?_ _)); exact BK561.out) hb); have n1_ := Aside0.mk (below_step (by repeat (first | (with_reducible first | exact HB.out | apply below_alloc | apply pw_below_drewN | apply below_drew1 | refine below_set ?_ GE561.out) | exact HB.out)) hb); clear BK561; clear HB; have BK561 := n0_; have HB := n1_; clear n0_ n1_; (try clear hb); (try clear hb2); (try clear hk); (try clear hi); have hcz35_0 : w34.cell? ⟨gb561, 0, none⟩ = some (.int .i64 a0_0) := (blk_cell BK561.out 0).trans rfl; have hcz35_1 : w34.cell? ⟨gb561, 1, none⟩ = some (.bool a0_1) := (blk_cell BK561.out 1).trans rfl; have hcz35_2 : w34.cell? ⟨gb561, 2, none⟩ = some (.slice A0_2 l0_2.length c0_2) := (blk_cell BK561.out 2).trans rfl; have hfz35_0 := blk_frozen BK561.out 0; have hfz35_1 := blk_frozen BK561.out 1; have hfz35_2 := blk_frozen BK561.out 2) | ((with_reducible refine gate_callee (f := 99) rfl ?_); refine goesL_ (some 15) rfl rfl Try.func99 (by kernel_rfl) rfl #[.agg #[.int .i64 a0_0, .bool a0_1, .slice A0_2 l0_2.length c0_2], .int .i64 a1] rfl (by (try simp only [List.map_toArray, List.map_cons, List.map_nil]); first | done | rfl | (simp only [List.length_drop, List.length_take]; rfl)) ?_; (with_reducible refine (ebbtideref06_Node.calls a0_0 a0_1 _ _ l0_2 a1 false _ ?side1 ?side2 A6.out).mono ?_); (case side1 => repeat (first | exact (Kd.C_below HR0_2.out HB.out) | (with_reducible refine Kd.C_alloc ?_ _) | (with_reducible refine Kd.C_drewN ?_ _) | (with_reducible refine Kd.C_drew ?_))); (case side2 => exact HC0_2.out); rintro e w36 ⟨rfl, hb⟩; refine ⟨_, rfl, ?_⟩; have n0_ := Aside0.mk (blk_below (g := gb561) (o := .cells #[.int .i64 a0_0, .bool a0_1, .slice A0_2 l0_2.length c0_2] 24 (0, 0)) (by (with_reducible repeat (first | refine blk_drewN ?_ _ | refine blk_drew ?_ | refine blk_alloc ?_ _)); exact BK561.out) hb); have n1_ := Aside0.mk (below_step (by repeat (first | (with_reducible first | exact HB.out | apply below_alloc | apply pw_below_drewN | apply below_drew1 | refine below_set ?_ GE561.out) | exact HB.out)) hb); clear BK561; clear HB; have BK561 := n0_; have HB := n1_; clear n0_ n1_; (try clear hb); (try clear hb2); (try clear hk); (try clear hi)))
  go_ret
  exact ⟨by first | rfl | (simp [errW_none, errW_some] <;> rfl) | (simp [*, errW_none, errW_some] <;> rfl), by repeat (first | (with_reducible first | exact HB.out | apply below_alloc | apply pw_below_drewN | apply below_drew1 | refine below_set ?_ GE561.out) | exact HB.out)⟩
 subst c7
 have H1 : ((ebbtideref06_Node.f a0_0 a0_1 l0_2 a2).bind fun t564 => (if t564 = true then (if a1 = a2 then (some 70) else (some 0)) else (some 70))) = some r := by rw [if_pos rfl] at H; exact H
 clear H
 have H := H1
 clear H1
 replace H := Option.bind_eq_some_iff.mp H
 obtain ⟨t564, A80, H⟩ := H
 replace H : (if t564 = true then (if a1 = a2 then (some 70) else (some 0)) else (some 70)) = some r := H
 have A8 := Aside0.mk A80
 clear A80
 by_cases c9 : t564 = true
 rotate_left
 ·replace c9 := Bool.eq_false_iff.mpr c9
  subst c9
  have H1 : (some 70) = some r := by rw [if_neg (show ¬ (false = true) by decide)] at H; exact H
  clear H
  have H := H1
  clear H1
  obtain rfl := Option.some.inj H
  go_enter Try.func77, Try.ntmps77
  go_wp2_with (first | ((with_reducible refine gate_dst (N := 3) rfl ?_); refine box_event ?hg (N := 3) ?hd (cs := #[.int .i64 a0_0, .bool a0_1, .slice A0_2 l0_2.length c0_2]) (t := 24) ?hr ?_; (case hd => rfl); (case hg => rfl); (case hr => first | (go_simp; done) | (go_simp; rfl)); intro gb561 hg w25 hbox hb; have n0_ := Aside0.mk (below_step (by repeat (first | (with_reducible first | exact HB.out | apply below_alloc | apply pw_below_drewN | apply below_drew1) | exact HB.out)) hb); have n1_ := Aside0.mk (hbox); have n2_ := Aside0.mk ((by rw [hg]; exact (below_size (by repeat (first | (with_reducible first | exact HB.out | apply below_alloc | apply pw_below_drewN | apply below_drew1) | exact HB.out))) : w.heap.size ≤ gb561)); have n3_ := Aside0.mk ((by rw [hg]; exact (below_size (by repeat (first | (with_reducible first | exact HB.out | apply below_alloc | apply pw_below_drewN | apply below_drew1) | exact HB.out))) : w.heap.size ≤ gb561)); clear HB; have HB := n0_; have BK561 := n1_; have GW561 := n2_; have GE561 := n3_; clear n0_ n1_ n2_ n3_; clear hb hbox hg; have hcz26_0 : w25.cell? ⟨gb561, 0, none⟩ = some (.int .i64 a0_0) := (blk_cell BK561.out 0).trans rfl; have hcz26_1 : w25.cell? ⟨gb561, 1, none⟩ = some (.bool a0_1) := (blk_cell BK561.out 1).trans rfl; have hcz26_2 : w25.cell? ⟨gb561, 2, none⟩ = some (.slice A0_2 l0_2.length c0_2) := (blk_cell BK561.out 2).trans rfl; have hfz26_0 := blk_frozen BK561.out 0; have hfz26_1 := blk_frozen BK561.out 1; have hfz26_2 := blk_frozen BK561.out 2) | ((with_reducible refine gate_callee (f := 78) rfl ?_); refine goesL_ (some 9) rfl rfl Try.func78 (by kernel_rfl) rfl #[.agg #[.int .i64 a0_0, .bool a0_1, .slice A0_2 l0_2.length c0_2]] rfl (by (try simp only [List.map_toArray, List.map_cons, List.map_nil]); first | done | rfl | (simp only [List.length_drop, List.length_take]; rfl)) ?_; (with_reducible refine (ebbtideref05_Check.calls k a0_0 a0_1 _ _ l0_2 t562 _ ?side1 ?side2 A4.out).mono ?_); (case side1 => repeat (first | exact (Kd.C_below HR0_2.out HB.out) | (with_reducible refine Kd.C_alloc ?_ _) | (with_reducible refine Kd.C_drewN ?_ _) | (with_reducible refine Kd.C_drew ?_))); (case side2 => exact HC0_2.out); rintro e w27 ⟨rfl, hb⟩; refine ⟨_, rfl, ?_⟩; have n0_ := Aside0.mk (blk_below (g := gb561) (o := .cells #[.int .i64 a0_0, .bool a0_1, .slice A0_2 l0_2.length c0_2] 24 (0, 0)) (by (with_reducible repeat (first | refine blk_drewN ?_ _ | refine blk_drew ?_ | refine blk_alloc ?_ _)); exact BK561.out) hb); have n1_ := Aside0.mk (below_step (by repeat (first | (with_reducible first | exact HB.out | apply below_alloc | apply pw_below_drewN | apply below_drew1 | refine below_set ?_ GE561.out) | exact HB.out)) hb); clear BK561; clear HB; have BK561 := n0_; have HB := n1_; clear n0_ n1_; (try clear hb); (try clear hb2); (try clear hk); (try clear hi); have hcz28_0 : w27.cell? ⟨gb561, 0, none⟩ = some (.int .i64 a0_0) := (blk_cell BK561.out 0).trans rfl; have hcz28_1 : w27.cell? ⟨gb561, 1, none⟩ = some (.bool a0_1) := (blk_cell BK561.out 1).trans rfl; have hcz28_2 : w27.cell? ⟨gb561, 2, none⟩ = some (.slice A0_2 l0_2.length c0_2) := (blk_cell BK561.out 2).trans rfl; have hfz28_0 := blk_frozen BK561.out 0; have hfz28_1 := blk_frozen BK561.out 1; have hfz28_2 := blk_frozen BK561.out 2) | ((with_reducible refine gate_callee (f := 99) rfl ?_); refine goesL_ (some 15) rfl rfl Try.func99 (by kernel_rfl) rfl #[.agg #[.int .i64 a0_0, .bool a0_1, .slice A0_2 l0_2.length c0_2], .int .i64 a1] rfl (by (try simp only [List.map_toArray, List.map_cons, List.map_nil]); first | done | rfl | (simp only [List.length_drop, List.length_take]; rfl)) ?_; (with_reducible refine (ebbtideref06_Node.calls a0_0 a0_1 _ _ l0_2 a1 true _ ?side1 ?side2 A6.out).mono ?_); (case side1 => repeat (first | exact (Kd.C_below HR0_2.out HB.out) | (with_reducible refine Kd.C_alloc ?_ _) | (with_reducible refine Kd.C_drewN ?_ _) | (with_reducible refine Kd.C_drew ?_))); (case side2 => exact HC0_2.out); rintro e w29 ⟨rfl, hb⟩; refine ⟨_, rfl, ?_⟩; have n0_ := Aside0.mk (blk_below (g := gb561) (o := .cells #[.int .i64 a0_0, .bool a0_1, .slice A0_2 l0_2.length c0_2] 24 (0, 0)) (by (with_reducible repeat (first | refine blk_drewN ?_ _ | refine blk_drew ?_ | refine blk_alloc ?_ _)); exact BK561.out) hb); have n1_ := Aside0.mk (below_step (by repeat (first | (with_reducible first | exact HB.out | apply below_alloc | apply pw_below_drewN | apply below_drew1 | refine below_set ?_ GE561.out) | exact HB.out)) hb); clear BK561; clear HB; have BK561 := n0_; have HB := n1_; clear n0_ n1_; (try clear hb); (try clear hb2); (try clear hk); (try clear hi); have hcz30_0 : w29.cell? ⟨gb561, 0, none⟩ = some (.int .i64 a0_0) := (blk_cell BK561.out 0).trans rfl; have hcz30_1 : w29.cell? ⟨gb561, 1, none⟩ = some (.bool a0_1) := (blk_cell BK561.out 1).trans rfl; have hcz30_2 : w29.cell? ⟨gb561, 2, none⟩ = some (.slice A0_2 l0_2.length c0_2) := (blk_cell BK561.out 2).trans rfl; have hfz30_0 := blk_frozen BK561.out 0; have hfz30_1 := blk_frozen BK561.out 1; have hfz30_2 := blk_frozen BK561.out 2) | (go_at_call 99; (with_reducible refine (ebbtideref06_Node.calls a0_0 a0_1 _ _ l0_2 a2 false _ ?side1 ?side2 A8.out).mono ?_); (case side1 => repeat (first | exact (Kd.C_below HR0_2.out HB.out) | (with_reducible refine Kd.C_alloc ?_ _) | (with_reducible refine Kd.C_drewN ?_ _) | (with_reducible refine Kd.C_drew ?_))); (case side2 => exact HC0_2.out); rintro e w31 ⟨rfl, hb⟩; have n0_ := Aside0.mk (blk_below (g := gb561) (o := .cells #[.int .i64 a0_0, .bool a0_1, .slice A0_2 l0_2.length c0_2] 24 (0, 0)) (by (with_reducible repeat (first | refine blk_drewN ?_ _ | refine blk_drew ?_ | refine blk_alloc ?_ _)); exact BK561.out) hb); have n1_ := Aside0.mk (below_step (by repeat (first | (with_reducible first | exact HB.out | apply below_alloc | apply pw_below_drewN | apply below_drew1 | refine below_set ?_ GE561.out) | exact HB.out)) hb); clear BK561; clear HB; have BK561 := n0_; have HB := n1_; clear n0_ n1_; (try clear hb); (try clear hb2); (try clear hk); (try clear hi)))
  go_ret
  exact ⟨by first | rfl | (simp [errW_none, errW_some] <;> rfl) | (simp [*, errW_none, errW_some] <;> rfl), by repeat (first | (with_reducible first | exact HB.out | apply below_alloc | apply pw_below_drewN | apply below_drew1 | refine below_set ?_ GE561.out) | exact HB.out)⟩
 subst c9
 have H1 : (if a1 = a2 then (some 70) else (some 0)) = some r := by rw [if_pos rfl] at H; exact H
 clear H
 have H := H1
 clear H1
 by_cases c10 : a1 = a2
 rotate_left
 ·rw [if_neg c10] at H
  have c10b0 : (a1 == a2) = false := beq_eq_false_iff_ne.mpr c10
  have c10b1 : (a1 != a2) = true := bne_iff_ne.mpr c10
  obtain rfl := Option.some.inj H
  go_enter Try.func77, Try.ntmps77
  go_wp2_with (first | ((with_reducible refine gate_dst (N := 3) rfl ?_); refine box_event ?hg (N := 3) ?hd (cs := #[.int .i64 a0_0, .bool a0_1, .slice A0_2 l0_2.length c0_2]) (t := 24) ?hr ?_; (case hd => rfl); (case hg => rfl); (case hr => first | (go_simp; done) | (go_simp; rfl)); intro gb561 hg w18 hbox hb; have n0_ := Aside0.mk (below_step (by repeat (first | (with_reducible first | exact HB.out | apply below_alloc | apply pw_below_drewN | apply below_drew1) | exact HB.out)) hb); have n1_ := Aside0.mk (hbox); have n2_ := Aside0.mk ((by rw [hg]; exact (below_size (by repeat (first | (with_reducible first | exact HB.out | apply below_alloc | apply pw_below_drewN | apply below_drew1) | exact HB.out))) : w.heap.size ≤ gb561)); have n3_ := Aside0.mk ((by rw [hg]; exact (below_size (by repeat (first | (with_reducible first | exact HB.out | apply below_alloc | apply pw_below_drewN | apply below_drew1) | exact HB.out))) : w.heap.size ≤ gb561)); clear HB; have HB := n0_; have BK561 := n1_; have GW561 := n2_; have GE561 := n3_; clear n0_ n1_ n2_ n3_; clear hb hbox hg; have hcz19_0 : w18.cell? ⟨gb561, 0, none⟩ = some (.int .i64 a0_0) := (blk_cell BK561.out 0).trans rfl; have hcz19_1 : w18.cell? ⟨gb561, 1, none⟩ = some (.bool a0_1) := (blk_cell BK561.out 1).trans rfl; have hcz19_2 : w18.cell? ⟨gb561, 2, none⟩ = some (.slice A0_2 l0_2.length c0_2) := (blk_cell BK561.out 2).trans rfl; have hfz19_0 := blk_frozen BK561.out 0; have hfz19_1 := blk_frozen BK561.out 1; have hfz19_2 := blk_frozen BK561.out 2) | ((with_reducible refine gate_callee (f := 78) rfl ?_); refine goesL_ (some 9) rfl rfl Try.func78 (by kernel_rfl) rfl #[.agg #[.int .i64 a0_0, .bool a0_1, .slice A0_2 l0_2.length c0_2]] rfl (by (try simp only [List.map_toArray, List.map_cons, List.map_nil]); first | done | rfl | (simp only [List.length_drop, List.length_take]; rfl)) ?_; (with_reducible refine (ebbtideref05_Check.calls k a0_0 a0_1 _ _ l0_2 t562 _ ?side1 ?side2 A4.out).mono ?_); (case side1 => repeat (first | exact (Kd.C_below HR0_2.out HB.out) | (with_reducible refine Kd.C_alloc ?_ _) | (with_reducible refine Kd.C_drewN ?_ _) | (with_reducible refine Kd.C_drew ?_))); (case side2 => exact HC0_2.out); rintro e w20 ⟨rfl, hb⟩; refine ⟨_, rfl, ?_⟩; have n0_ := Aside0.mk (blk_below (g := gb561) (o := .cells #[.int .i64 a0_0, .bool a0_1, .slice A0_2 l0_2.length c0_2] 24 (0, 0)) (by (with_reducible repeat (first | refine blk_drewN ?_ _ | refine blk_drew ?_ | refine blk_alloc ?_ _)); exact BK561.out) hb); have n1_ := Aside0.mk (below_step (by repeat (first | (with_reducible first | exact HB.out | apply below_alloc | apply pw_below_drewN | apply below_drew1 | refine below_set ?_ GE561.out) | exact HB.out)) hb); clear BK561; clear HB; have BK561 := n0_; have HB := n1_; clear n0_ n1_; (try clear hb); (try clear hb2); (try clear hk); (try clear hi); have hcz21_0 : w20.cell? ⟨gb561, 0, none⟩ = some (.int .i64 a0_0) := (blk_cell BK561.out 0).trans rfl; have hcz21_1 : w20.cell? ⟨gb561, 1, none⟩ = some (.bool a0_1) := (blk_cell BK561.out 1).trans rfl; have hcz21_2 : w20.cell? ⟨gb561, 2, none⟩ = some (.slice A0_2 l0_2.length c0_2) := (blk_cell BK561.out 2).trans rfl; have hfz21_0 := blk_frozen BK561.out 0; have hfz21_1 := blk_frozen BK561.out 1; have hfz21_2 := blk_frozen BK561.out 2) | ((with_reducible refine gate_callee (f := 99) rfl ?_); refine goesL_ (some 15) rfl rfl Try.func99 (by kernel_rfl) rfl #[.agg #[.int .i64 a0_0, .bool a0_1, .slice A0_2 l0_2.length c0_2], .int .i64 a1] rfl (by (try simp only [List.map_toArray, List.map_cons, List.map_nil]); first | done | rfl | (simp only [List.length_drop, List.length_take]; rfl)) ?_; (with_reducible refine (ebbtideref06_Node.calls a0_0 a0_1 _ _ l0_2 a1 true _ ?side1 ?side2 A6.out).mono ?_); (case side1 => repeat (first | exact (Kd.C_below HR0_2.out HB.out) | (with_reducible refine Kd.C_alloc ?_ _) | (with_reducible refine Kd.C_drewN ?_ _) | (with_reducible refine Kd.C_drew ?_))); (case side2 => exact HC0_2.out); rintro e w22 ⟨rfl, hb⟩; refine ⟨_, rfl, ?_⟩; have n0_ := Aside0.mk (blk_below (g := gb561) (o := .cells #[.int .i64 a0_0, .bool a0_1, .slice A0_2 l0_2.length c0_2] 24 (0, 0)) (by (with_reducible repeat (first | refine blk_drewN ?_ _ | refine blk_drew ?_ | refine blk_alloc ?_ _)); exact BK561.out) hb); have n1_ := Aside0.mk (below_step (by repeat (first | (with_reducible first | exact HB.out | apply below_alloc | apply pw_below_drewN | apply below_drew1 | refine below_set ?_ GE561.out) | exact HB.out)) hb); clear BK561; clear HB; have BK561 := n0_; have HB := n1_; clear n0_ n1_; (try clear hb); (try clear hb2); (try clear hk); (try clear hi); have hcz23_0 : w22.cell? ⟨gb561, 0, none⟩ = some (.int .i64 a0_0) := (blk_cell BK561.out 0).trans rfl; have hcz23_1 : w22.cell? ⟨gb561, 1, none⟩ = some (.bool a0_1) := (blk_cell BK561.out 1).trans rfl; have hcz23_2 : w22.cell? ⟨gb561, 2, none⟩ = some (.slice A0_2 l0_2.length c0_2) := (blk_cell BK561.out 2).trans rfl; have hfz23_0 := blk_frozen BK561.out 0; have hfz23_1 := blk_frozen BK561.out 1; have hfz23_2 := blk_frozen BK561.out 2) | (go_at_call 99; (with_reducible refine (ebbtideref06_Node.calls a0_0 a0_1 _ _ l0_2 a2 true _ ?side1 ?side2 A8.out).mono ?_); (case side1 => repeat (first | exact (Kd.C_below HR0_2.out HB.out) | (with_reducible refine Kd.C_alloc ?_ _) | (with_reducible refine Kd.C_drewN ?_ _) | (with_reducible refine Kd.C_drew ?_))); (case side2 => exact HC0_2.out); rintro e w24 ⟨rfl, hb⟩; have n0_ := Aside0.mk (blk_below (g := gb561) (o := .cells #[.int .i64 a0_0, .bool a0_1, .slice A0_2 l0_2.length c0_2] 24 (0, 0)) (by (with_reducible repeat (first | refine blk_drewN ?_ _ | refine blk_drew ?_ | refine blk_alloc ?_ _)); exact BK561.out) hb); have n1_ := Aside0.mk (below_step (by repeat (first | (with_reducible first | exact HB.out | apply below_alloc | apply pw_below_drewN | apply below_drew1 | refine below_set ?_ GE561.out) | exact HB.out)) hb); clear BK561; clear HB; have BK561 := n0_; have HB := n1_; clear n0_ n1_; (try clear hb); (try clear hb2); (try clear hk); (try clear hi)))
  go_ret
  exact ⟨by first | rfl | (simp [errW_none, errW_some] <;> rfl) | (simp [*, errW_none, errW_some] <;> rfl), by repeat (first | (with_reducible first | exact HB.out | apply below_alloc | apply pw_below_drewN | apply below_drew1 | refine below_set ?_ GE561.out) | exact HB.out)⟩
 rw [if_pos c10] at H
 have c10b0 : (a1 == a2) = true := beq_iff_eq.mpr c10
 have c10b1 : (a1 != a2) = false := bne_eq_false_iff_eq.mpr c10
 clear c10
 obtain rfl := Option.some.inj H
 go_enter Try.func77, Try.ntmps77
 go_wp2_with (first | ((with_reducible refine gate_dst (N := 3) rfl ?_); refine box_event ?hg (N := 3) ?hd (cs := #[.int .i64 a0_0, .bool a0_1, .slice A0_2 l0_2.length c0_2]) (t := 24) ?hr ?_; (case hd => rfl); (case hg => rfl); (case hr => first | (go_simp; done) | (go_simp; rfl)); intro gb561 hg w11 hbox hb; have n0_ := Aside0.mk (below_step (by repeat (first | (with_reducible first | exact HB.out | apply below_alloc | apply pw_below_drewN | apply below_drew1) | exact HB.out)) hb); have n1_ := Aside0.mk (hbox); have n2_ := Aside0.mk ((by rw [hg]; exact (below_size (by repeat (first | (with_reducible first | exact HB.out | apply below_alloc | apply pw_below_drewN | apply below_drew1) | exact HB.out))) : w.heap.size ≤ gb561)); have n3_ := Aside0.mk ((by rw [hg]; exact (below_size (by repeat (first | (with_reducible first | exact HB.out | apply below_alloc | apply pw_below_drewN | apply below_drew1) | exact HB.out))) : w.heap.size ≤ gb561)); clear HB; have HB := n0_; have BK561 := n1_; have GW561 := n2_; have GE561 := n3_; clear n0_ n1_ n2_ n3_; clear hb hbox hg; have hcz12_0 : w11.cell? ⟨gb561, 0, none⟩ = some (.int .i64 a0_0) := (blk_cell BK561.out 0).trans rfl; have hcz12_1 : w11.cell? ⟨gb561, 1, none⟩ = some (.bool a0_1) := (blk_cell BK561.out 1).trans rfl; have hcz12_2 : w11.cell? ⟨gb561, 2, none⟩ = some (.slice A0_2 l0_2.length c0_2) := (blk_cell BK561.out 2).trans rfl; have hfz12_0 := blk_frozen BK561.out 0; have hfz12_1 := blk_frozen BK561.out 1; have hfz12_2 := blk_frozen BK561.out 2) | ((with_reducible refine gate_callee (f := 78) rfl ?_); refine goesL_ (some 9) rfl rfl Try.func78 (by kernel_rfl) rfl #[.agg #[.int .i64 a0_0, .bool a0_1, .slice A0_2 l0_2.length c0_2]] rfl (by (try simp only [List.map_toArray, List.map_cons, List.map_nil]); first | done | rfl | (simp only [List.length_drop, List.length_take]; rfl)) ?_; (with_reducible refine (ebbtideref05_Check.calls k a0_0 a0_1 _ _ l0_2 t562 _ ?side1 ?side2 A4.out).mono ?_); (case side1 => repeat (first | exact (Kd.C_below HR0_2.out HB.out) | (with_reducible refine Kd.C_alloc ?_ _) | (with_reducible refine Kd.C_drewN ?_ _) | (with_reducible refine Kd.C_drew ?_))); (case side2 => exact HC0_2.out); rintro e w13 ⟨rfl, hb⟩; refine ⟨_, rfl, ?_⟩; have n0_ := Aside0.mk (blk_below (g := gb561) (o := .cells #[.int .i64 a0_0, .bool a0_1, .slice A0_2 l0_2.length c0_2] 24 (0, 0)) (by (with_reducible repeat (first | refine blk_drewN ?_ _ | refine blk_drew ?_ | refine blk_alloc ?_ _)); exact BK561.out) hb); have n1_ := Aside0.mk (below_step (by repeat (first | (with_reducible first | exact HB.out | apply below_alloc | apply pw_below_drewN | apply below_drew1 | refine below_set ?_ GE561.out) | exact HB.out)) hb); clear BK561; clear HB; have BK561 := n0_; have HB := n1_; clear n0_ n1_; (try clear hb); (try clear hb2); (try clear hk); (try clear hi); have hcz14_0 : w13.cell? ⟨gb561, 0, none⟩ = some (.int .i64 a0_0) := (blk_cell BK561.out 0).trans rfl; have hcz14_1 : w13.cell? ⟨gb561, 1, none⟩ = some (.bool a0_1) := (blk_cell BK561.out 1).trans rfl; have hcz14_2 : w13.cell? ⟨gb561, 2, none⟩ = some (.slice A0_2 l0_2.length c0_2) := (blk_cell BK561.out 2).trans rfl; have hfz14_0 := blk_frozen BK561.out 0; have hfz14_1 := blk_frozen BK561.out 1; have hfz14_2 := blk_frozen BK561.out 2) | ((with_reducible refine gate_callee (f := 99) rfl ?_); refine goesL_ (some 15) rfl rfl Try.func99 (by kernel_rfl) rfl #[.agg #[.int .i64 a0_0, .bool a0_1, .slice A0_2 l0_2.length c0_2], .int .i64 a1] rfl (by (try simp only [List.map_toArray, List.map_cons, List.map_nil]); first | done | rfl | (simp only [List.length_drop, List.length_take]; rfl)) ?_; (with_reducible refine (ebbtideref06_Node.calls a0_0 a0_1 _ _ l0_2 a1 true _ ?side1 ?side2 A6.out).mono ?_); (case side1 => repeat (first | exact (Kd.C_below HR0_2.out HB.out) | (with_reducible refine Kd.C_alloc ?_ _) | (with_reducible refine Kd.C_drewN ?_ _) | (with_reducible refine Kd.C_drew ?_))); (case side2 => exact HC0_2.out); rintro e w15 ⟨rfl, hb⟩; refine ⟨_, rfl, ?_⟩; have n0_ := Aside0.mk (blk_below (g := gb561) (o := .cells #[.int .i64 a0_0, .bool a0_1, .slice A0_2 l0_2.length c0_2] 24 (0, 0)) (by (with_reducible repeat (first | refine blk_drewN ?_ _ | refine blk_drew ?_ | refine blk_alloc ?_ _)); exact BK561.out) hb); have n1_ := Aside0.mk (below_step (by repeat (first | (with_reducible first | exact HB.out | apply below_alloc | apply pw_below_drewN | apply below_drew1 | refine below_set ?_ GE561.out) | exact HB.out)) hb); clear BK561; clear HB; have BK561 := n0_; have HB := n1_; clear n0_ n1_; (try clear hb); (try clear hb2); (try clear hk); (try clear hi); have hcz16_0 : w15.cell? ⟨gb561, 0, none⟩ = some (.int .i64 a0_0) := (blk_cell BK561.out 0).trans rfl; have hcz16_1 : w15.cell? ⟨gb561, 1, none⟩ = some (.bool a0_1) := (blk_cell BK561.out 1).trans rfl; have hcz16_2 : w15.cell? ⟨gb561, 2, none⟩ = some (.slice A0_2 l0_2.length c0_2) := (blk_cell BK561.out 2).trans rfl; have hfz16_0 := blk_frozen BK561.out 0; have hfz16_1 := blk_frozen BK561.out 1; have hfz16_2 := blk_frozen BK561.out 2) | (go_at_call 99; (with_reducible refine (ebbtideref06_Node.calls a0_0 a0_1 _ _ l0_2 a2 true _ ?side1 ?side2 A8.out).mono ?_); (case side1 => repeat (first | exact (Kd.C_below HR0_2.out HB.out) | (with_reducible refine Kd.C_alloc ?_ _) | (with_reducible refine Kd.C_drewN ?_ _) | (with_reducible refine Kd.C_drew ?_))); (case side2 => exact HC0_2.out); rintro e w17 ⟨rfl, hb⟩; have n0_ := Aside0.mk (blk_below (g := gb561) (o := .cells #[.int .i64 a0_0, .bool a0_1, .slice A0_2 l0_2.length c0_2] 24 (0, 0)) (by (with_reducible repeat (first | refine blk_drewN ?_ _ | refine blk_drew ?_ | refine blk_alloc ?_ _)); exact BK561.out) hb); have n1_ := Aside0.mk (below_step (by repeat (first | (with_reducible first | exact HB.out | apply below_alloc | apply pw_below_drewN | apply below_drew1 | refine below_set ?_ GE561.out) | exact HB.out)) hb); clear BK561; clear HB; have BK561 := n0_; have HB := n1_; clear n0_ n1_; (try clear hb); (try clear hb2); (try clear hk); (try clear hi)))
 go_ret
 exact ⟨by first | rfl | (simp [errW_none, errW_some] <;> rfl) | (simp [*, errW_none, errW_some] <;> rfl), by repeat (first | (with_reducible first | exact HB.out | apply below_alloc | apply pw_below_drewN | apply below_drew1 | refine below_set ?_ GE561.out) | exact HB.out)⟩
end Go.Proofs.Ytkcpanpdipmmmaa.P
namespace Go.Proofs.Ytkcpanpdipmmmaa.Q
open Go.RowKit Go.Proofs.YtkcpanpdipmmmaaW.PrintWords Go.Proofs.YtkcpanpdipmmmaaW.PrintLast Go.Proofs.YtkcpanpdipmmmaaW.PrintMore Go.Proofs.Ytkcpanpdipmmmaa.P
open Go.Proofs.Ytkcpanpdipmmmaa.H (endsErr)
theorem ends_ev (n : Int) (b : Bool) (l : List S74) (s t : Int) : Ev (fun k => static_Ends.f k n b l s t) (endsErr n l s t) := by
 unfold static_Ends.f endsErr
 refine Ev.bind (check_ev n b l) ?_
 refine Ev.ite (fun h => ?_) (fun h => ?_)
 ·rw [if_pos h]
  refine Ev.ite (fun g => ?_) (fun g => ?_)
  ·exact Ev.done (by unfold mn at g; rw [if_neg (by omega)])
  ·unfold mn at g
   refine Ev.ite (fun g2 => ?_) (fun g2 => ?_)
   ·exact Ev.done (by unfold mx at g2; rw [if_neg (by omega)])
   ·unfold mx at g2
    refine Ev.ite (fun g3 => ?_) (fun g3 => ?_)
    ·exact Ev.done (by rw [if_neg (by omega)])
    ·exact Ev.done (by rw [if_pos (by omega)])
 ·rw [if_neg h]
  exact Ev.now _
theorem ref_ends_ev (n : Int) (b : Bool) (l : List S74) (s t : Int) : Ev (fun k => ebbtideref07_Ends.f k n b l s t) (endsErr n l s t) := by
 unfold ebbtideref07_Ends.f endsErr
 refine Ev.bind (ref_check_ev n b l) ?_
 refine Ev.ite (fun h => ?_) (fun h => ?_)
 ·rw [if_pos h]
  refine Ev.call (node_eq n b l s) ?_
  refine Ev.ite (fun g => ?_) (fun g => ?_)
  ·have g := of_decide_eq_true g
   refine Ev.call (node_eq n b l t) ?_
   refine Ev.ite (fun g2 => ?_) (fun g2 => ?_)
   ·have g2 := of_decide_eq_true g2
    refine Ev.ite (fun g3 => ?_) (fun g3 => ?_)
    ·exact Ev.done (by rw [if_neg (by omega)])
    ·exact Ev.done (by rw [if_pos (by omega)])
   ·have g2 := of_decide_eq_false (Bool.eq_false_iff.2 g2)
    exact Ev.done (by rw [if_neg (by omega)])
  ·have g := of_decide_eq_false (Bool.eq_false_iff.2 g)
   exact Ev.done (by rw [if_neg (by omega)])
 ·rw [if_neg h]
  exact Ev.now _
end Go.Proofs.Ytkcpanpdipmmmaa.Q
namespace Go.Proofs.Ytkcpanpdipmmmaa.H
open Go.RowKit Go.Proofs.YtkcpanpdipmmmaaW.PrintWords Go.Proofs.YtkcpanpdipmmmaaW.PrintLast Go.Proofs.YtkcpanpdipmmmaaW.PrintMore Go.Proofs.Ytkcpanpdipmmmaa.P Go.Proofs.Ytkcpanpdipmmmaa.Q
theorem right_of {n : Int} {l : List S74} {F : List Int} (h : askErr n l F = 0) : ∃ n0 : Nat, n = n0 ∧ Right l F n0 := by
 obtain ⟨hn, hf⟩ := askErr_ok h
 have h1 := hn.lo
 have h2 := hn.hi
 obtain ⟨n0, rfl⟩ : ∃ n0 : Nat, n = n0 := ⟨n.toNat, by omega⟩
 refine ⟨n0, rfl, ⟨by omega, by omega, hn.len, hf.len, fun i hi => ?_, fun i hi => ?_⟩⟩
 ·have ha := hn.at_ (i := (i : Int)) (by omega) (by omega)
  exact ⟨⟨ha.f0, ha.h0⟩, ⟨ha.f1, ha.h1⟩⟩
 ·have ha := hn.at_ (i := (i : Int)) (by omega) (by omega)
  have hb := hf.at_ i (by rw [hf.len]; exact hi)
  rw [rd_nat] at hb
  exact ⟨ha.f3, ha.h3, hb.1, hb.2, ha.h2⟩
end Go.Proofs.Ytkcpanpdipmmmaa.H
namespace Go.Proofs.Ytkcpanpdipmmmaa.H
open Go.RowKit Go.Proofs.YtkcpanpdipmmmaaW.PrintWords Go.Proofs.YtkcpanpdipmmmaaW.PrintLast Go.Proofs.YtkcpanpdipmmmaaW.PrintMore Go.Proofs.Ytkcpanpdipmmmaa.P Go.Proofs.Ytkcpanpdipmmmaa.Q
theorem levels_zero {n : Int} {l : List S74} {F : List Int} {s : Int} (h0 : askErr n l F = 0) (h : 0 ≤ s ∧ s < n) : levelsRes n l F s = (dOf n.toNat (bfP l F n.toNat s.toNat), 0) := by unfold levelsRes; rw [if_pos h0, if_pos h]
set_option maxHeartbeats 2000000 in
set_option maxRecDepth 100000 in
theorem level_Levels_calls (a0_0 : Int) (a0_1 : Bool) (A2 : Option Addr) (c2 : Nat) (l : List S74) (A1 : Option Addr) (c1 : Nat) (F : List Int) (s : Int) (r1 : List Int) (r2 : Int) (w : World) (hr2 : Kd.C k74 w A2 l.length l) (hc2 : l.length ≤ c2) (hr1 : Kd.C (Kd.int .i64) w A1 F.length F) (hc1 : F.length ≤ c1) (h : some (levelsRes a0_0 l F s) = some (r1, r2)) :
  Calls Try.prog 53 #[.agg #[.int .i64 a0_0, .bool a0_1, .slice A2 l.length c2], .slice A1 F.length c1, .int .i64 s] w fun e w' => ∃ v0_ : Value, e = .returned (.tuple #[v0_, .int .i64 r2]) ∧ Kd.R (Kd.int .i64) 3 w' w.heap.size (fun _ => True) v0_ r1 ∧ Below w.heap.size w w' := by
 have hu24 := Try.underlying24
 injection h with h
 obtain ⟨K, hK⟩ := asked_ev a0_0 a0_1 l F
 have hA := hK K (Nat.le_refl _)
 obtain ⟨k, hk⟩ : ∃ k_, k_ = K := ⟨_, rfl⟩
 rw [← hk] at hA
 clear hK hk K
 have H2 := Aside0.mk hr2
 have H3 := Aside0.mk hr1
 have HC2 := Aside0.mk hc2
 have HC1 := Aside0.mk hc1
 have HB := Aside0.mk (Below.refl w.heap.size w)
 clear hr2 hr1 hc2 hc1
 by_cases h0 : askErr a0_0 l F = 0
 ·rw [h0] at hA
  have HA := Aside0.mk hA
  clear hA
  by_cases hs : 0 ≤ s ∧ s < a0_0
  ·rw [levels_zero h0 hs] at h
   obtain ⟨n0, rfl, hR⟩ := right_of h0
   obtain ⟨s0, rfl⟩ : ∃ s0 : Nat, s = s0 := ⟨s.toNat, by omega⟩
   rw [Int.toNat_natCast, Int.toNat_natCast] at h
   injection h with q1 q2
   subst q1
   subst q2
   have HR := Aside0.mk hR
   have hn50 := hR.fifty
   have hs0 : s0 < n0 := by omega
   have e1 : decide ((s0 : Int) < 0) = false := decide_eq_false (by omega)
   have e2 : decide ((n0 : Int) ≤ (s0 : Int)) = false := decide_eq_false (by omega)
   clear hs h0 hR
   go_enter Try.func53, Try.ntmps53
   go_wp2_with (first | ((with_reducible refine gate_dst (N := 3) rfl ?_); refine box_event ?hg (N := 3) ?hd (cs := #[.int .i64 (n0 : Int), .bool a0_1, .slice A2 l.length c2]) (t := 24) ?hr ?_; (case hd => rfl); (case hg => rfl); (case hr => first | (go_simp; done) | (go_simp; rfl)); intro g3 hg w4 hbox hb; have n0_ := Aside0.mk (below_step HB.out hb); have B3 := Aside0.mk hbox; clear HB; have HB := n0_; clear n0_ hb hbox hg; have hb0 : w4.cell? ⟨g3, 0, none⟩ = some (.int .i64 (n0 : Int)) := (blk_cell B3.out 0).trans rfl; have hb1 : w4.cell? ⟨g3, 1, none⟩ = some (.bool a0_1) := (blk_cell B3.out 1).trans rfl; have hb2 : w4.cell? ⟨g3, 2, none⟩ = some (.slice A2 l.length c2) := (blk_cell B3.out 2).trans rfl) | (go_at_call 96; refine (static_Asked.calls k (n0 : Int) a0_1 A2 c2 l A1 c1 F 0 _ (Kd.C_below H2.out HB.out) HC2.out (Kd.C_below H3.out HB.out) HC1.out HA.out).mono ?_; rintro e_ w5 ⟨rfl, hb⟩; have n0_ := Aside0.mk (below_step HB.out hb); have n1_ := Aside0.mk (blk_below B3.out hb); clear HB B3 hb0 hb1 hb2 hb; have HB := n0_; have B3 := n1_; clear n0_ n1_; have hb0 : w5.cell? ⟨g3, 0, none⟩ = some (.int .i64 (n0 : Int)) := (blk_cell B3.out 0).trans rfl; have hb1 : w5.cell? ⟨g3, 1, none⟩ = some (.bool a0_1) := (blk_cell B3.out 1).trans rfl; have hb2 : w5.cell? ⟨g3, 2, none⟩ = some (.slice A2 l.length c2) := (blk_cell B3.out 2).trans rfl) | (go_at_call 101; refine (at_calls n0 a0_1 A2 c2 l A1 c1 F.length _ (Kd.C_below H2.out HB.out) HC2.out (by omega) (by omega) (by have := HR.out.arcs; omega) (fun k hk => (HR.out.ends k hk).1) (fun k hk => (HR.out.ends k hk).2)).mono ?_; rintro e_ w7 ⟨vr, rfl, hS, hb⟩; obtain ⟨A4, c4, ev⟩ := Kd.S_slice hS; subst ev; have H4 := Aside0.mk (Kd.S_reads' hS).2.2; rw [rowsAt_len] at H4 ⊢; have n0_ := Aside0.mk (below_step HB.out hb); have n1_ := Aside0.mk (blk_below B3.out hb); clear HB B3 hb0 hb1 hb2 hb; have HB := n0_; have B3 := n1_; clear n0_ n1_; clear hS) | (go_at_call 108; refine (far_calls n0 a0_1 A2 c2 l A1 c1 F A4 c4 s0 _ HR.out hs0 HC2.out HC1.out (Kd.C_below H2.out HB.out) (Kd.C_below H3.out HB.out) H4.out).mono ?_; rintro e_ w8 ⟨gd, rfl, hge, hd, hb⟩; have HGE := Aside0.mk (Nat.le_trans HB.out.size hge); have HD := Aside0.mk hd; have n0_ := Aside0.mk (below_step HB.out hb); clear HB hb hd hge; have HB := n0_; clear n0_) | fail)
   go_ret2
   have hr := HD.out.R (ok := fun _ => True) (by rw [dOf_len]; omega) HGE.out trivial
   rw [dOf_len] at hr
   exact ⟨_, rfl, hr, HB.out⟩
  ·have hl : levelsRes a0_0 l F s = ([], 1) := by unfold levelsRes; rw [if_pos h0, if_neg hs]
   rw [hl] at h
   injection h with q1 q2
   subst q1
   subst q2
   go_enter Try.func53, Try.ntmps53
   by_cases h1 : s < 0
   ·have e1 : decide (s < 0) = true := decide_eq_true h1
    clear hs h1 h0
    go_wp2_with (first | ((with_reducible refine gate_dst (N := 3) rfl ?_); refine box_event ?hg (N := 3) ?hd (cs := #[.int .i64 a0_0, .bool a0_1, .slice A2 l.length c2]) (t := 24) ?hr ?_; (case hd => rfl); (case hg => rfl); (case hr => first | (go_simp; done) | (go_simp; rfl)); intro g3 hg w4 hbox hb; have n0_ := Aside0.mk (below_step HB.out hb); have B3 := Aside0.mk hbox; clear HB; have HB := n0_; clear n0_ hb hbox hg; have hb0 : w4.cell? ⟨g3, 0, none⟩ = some (.int .i64 a0_0) := (blk_cell B3.out 0).trans rfl; have hb1 : w4.cell? ⟨g3, 1, none⟩ = some (.bool a0_1) := (blk_cell B3.out 1).trans rfl; have hb2 : w4.cell? ⟨g3, 2, none⟩ = some (.slice A2 l.length c2) := (blk_cell B3.out 2).trans rfl) | (go_at_call 96; refine (static_Asked.calls k a0_0 a0_1 A2 c2 l A1 c1 F 0 _ (Kd.C_below H2.out HB.out) HC2.out (Kd.C_below H3.out HB.out) HC1.out HA.out).mono ?_; rintro e_ w5 ⟨rfl, hb⟩; have n0_ := Aside0.mk (below_step HB.out hb); have n1_ := Aside0.mk (blk_below B3.out hb); clear HB B3 hb0 hb1 hb2 hb; have HB := n0_; have B3 := n1_; clear n0_ n1_; have hb0 : w5.cell? ⟨g3, 0, none⟩ = some (.int .i64 a0_0) := (blk_cell B3.out 0).trans rfl; have hb1 : w5.cell? ⟨g3, 1, none⟩ = some (.bool a0_1) := (blk_cell B3.out 1).trans rfl; have hb2 : w5.cell? ⟨g3, 2, none⟩ = some (.slice A2 l.length c2) := (blk_cell B3.out 2).trans rfl) | fail)
    go_ret2
    exact ⟨_, rfl, Kd.R_nil _ _ _ _ _, HB.out⟩
   ·have e1 : decide (s < 0) = false := decide_eq_false h1
    have e2 : decide (a0_0 ≤ s) = true := decide_eq_true (by omega)
    clear hs h1 h0
    go_wp2_with (first | ((with_reducible refine gate_dst (N := 3) rfl ?_); refine box_event ?hg (N := 3) ?hd (cs := #[.int .i64 a0_0, .bool a0_1, .slice A2 l.length c2]) (t := 24) ?hr ?_; (case hd => rfl); (case hg => rfl); (case hr => first | (go_simp; done) | (go_simp; rfl)); intro g3 hg w4 hbox hb; have n0_ := Aside0.mk (below_step HB.out hb); have B3 := Aside0.mk hbox; clear HB; have HB := n0_; clear n0_ hb hbox hg; have hb0 : w4.cell? ⟨g3, 0, none⟩ = some (.int .i64 a0_0) := (blk_cell B3.out 0).trans rfl; have hb1 : w4.cell? ⟨g3, 1, none⟩ = some (.bool a0_1) := (blk_cell B3.out 1).trans rfl; have hb2 : w4.cell? ⟨g3, 2, none⟩ = some (.slice A2 l.length c2) := (blk_cell B3.out 2).trans rfl) | (go_at_call 96; refine (static_Asked.calls k a0_0 a0_1 A2 c2 l A1 c1 F 0 _ (Kd.C_below H2.out HB.out) HC2.out (Kd.C_below H3.out HB.out) HC1.out HA.out).mono ?_; rintro e_ w5 ⟨rfl, hb⟩; have n0_ := Aside0.mk (below_step HB.out hb); have n1_ := Aside0.mk (blk_below B3.out hb); clear HB B3 hb0 hb1 hb2 hb; have HB := n0_; have B3 := n1_; clear n0_ n1_; have hb0 : w5.cell? ⟨g3, 0, none⟩ = some (.int .i64 a0_0) := (blk_cell B3.out 0).trans rfl; have hb1 : w5.cell? ⟨g3, 1, none⟩ = some (.bool a0_1) := (blk_cell B3.out 1).trans rfl; have hb2 : w5.cell? ⟨g3, 2, none⟩ = some (.slice A2 l.length c2) := (blk_cell B3.out 2).trans rfl) | fail)
    go_ret2
    exact ⟨_, rfl, Kd.R_nil _ _ _ _ _, HB.out⟩
 ·have hl : levelsRes a0_0 l F s = ([], askErr a0_0 l F) := by unfold levelsRes; rw [if_neg h0]
  rw [hl] at h
  injection h with q1 q2
  subst q1
  rw [q2] at hA h0
  have HA := Aside0.mk hA
  have e1 : (r2 != 0) = true := by rw [bne_iff_ne]; exact h0
  clear q2 h0 hA hl
  go_enter Try.func53, Try.ntmps53
  go_wp2_with (first | ((with_reducible refine gate_dst (N := 3) rfl ?_); refine box_event ?hg (N := 3) ?hd (cs := #[.int .i64 a0_0, .bool a0_1, .slice A2 l.length c2]) (t := 24) ?hr ?_; (case hd => rfl); (case hg => rfl); (case hr => first | (go_simp; done) | (go_simp; rfl)); intro g3 hg w4 hbox hb; have n0_ := Aside0.mk (below_step HB.out hb); have B3 := Aside0.mk hbox; clear HB; have HB := n0_; clear n0_ hb hbox hg; have hb0 : w4.cell? ⟨g3, 0, none⟩ = some (.int .i64 a0_0) := (blk_cell B3.out 0).trans rfl; have hb1 : w4.cell? ⟨g3, 1, none⟩ = some (.bool a0_1) := (blk_cell B3.out 1).trans rfl; have hb2 : w4.cell? ⟨g3, 2, none⟩ = some (.slice A2 l.length c2) := (blk_cell B3.out 2).trans rfl) | (go_at_call 96; refine (static_Asked.calls k a0_0 a0_1 A2 c2 l A1 c1 F r2 _ (Kd.C_below H2.out HB.out) HC2.out (Kd.C_below H3.out HB.out) HC1.out HA.out).mono ?_; rintro e_ w5 ⟨rfl, hb⟩; have n0_ := Aside0.mk (below_step HB.out hb); have n1_ := Aside0.mk (blk_below B3.out hb); clear HB B3 hb0 hb1 hb2 hb; have HB := n0_; have B3 := n1_; clear n0_ n1_; have hb0 : w5.cell? ⟨g3, 0, none⟩ = some (.int .i64 a0_0) := (blk_cell B3.out 0).trans rfl; have hb1 : w5.cell? ⟨g3, 1, none⟩ = some (.bool a0_1) := (blk_cell B3.out 1).trans rfl; have hb2 : w5.cell? ⟨g3, 2, none⟩ = some (.slice A2 l.length c2) := (blk_cell B3.out 2).trans rfl) | fail)
  go_ret2
  exact ⟨_, rfl, Kd.R_nil _ _ _ _ _, HB.out⟩
theorem ends_of {n : Nat} {l : List S74} {s t : Int} (h : endsErr n l s t = 0) : netErr n l = 0 ∧ ∃ s0 t0 : Nat, s = s0 ∧ t = t0 ∧ s0 < n ∧ t0 < n ∧ s0 ≠ t0 := by
 unfold endsErr at h
 split at h
 ·rename_i hn
  split at h
  ·rename_i h1
   exact ⟨hn, s.toNat, t.toNat, by omega, by omega, by omega, by omega, by omega⟩
  ·omega
 ·rename_i hn; exact absurd h hn
set_option maxHeartbeats 2000000 in
set_option maxRecDepth 100000 in
theorem level_Path_calls (a0_0 : Int) (a0_1 : Bool) (A2 : Option Addr) (c2 : Nat) (l : List S74) (A1 : Option Addr) (c1 : Nat) (F : List Int) (s t : Int) (r1 : List S38) (r2 : Bool) (r3 : Int) (w : World) (hr2 : Kd.C k74 w A2 l.length l) (hc2 : l.length ≤ c2) (hr1 : Kd.C (Kd.int .i64) w A1 F.length F) (hc1 : F.length ≤ c1) (h : some (pathRes a0_0 l F s t) = some (r1, r2, r3)) :
  Calls Try.prog 56 #[.agg #[.int .i64 a0_0, .bool a0_1, .slice A2 l.length c2], .slice A1 F.length c1, .int .i64 s, .int .i64 t] w fun e w' => ∃ v0_ : Value, e = .returned (.tuple #[v0_, .bool r2, .int .i64 r3]) ∧ Kd.R k38 38 w' w.heap.size (fun _ => True) v0_ r1 ∧ Below w.heap.size w w' := by
 have hu24 := Try.underlying24
 injection h with h
 obtain ⟨K, hK⟩ := asked_ev a0_0 a0_1 l F
 have hA := hK K (Nat.le_refl _)
 obtain ⟨k, hk⟩ : ∃ k_, k_ = K := ⟨_, rfl⟩
 rw [← hk] at hA
 clear hK hk K
 obtain ⟨K, hK⟩ := ends_ev a0_0 a0_1 l s t
 have hE := hK K (Nat.le_refl _)
 obtain ⟨k2, hk⟩ : ∃ k_, k_ = K := ⟨_, rfl⟩
 rw [← hk] at hE
 clear hK hk K
 have H2 := Aside0.mk hr2
 have H3 := Aside0.mk hr1
 have HC2 := Aside0.mk hc2
 have HC1 := Aside0.mk hc1
 have HB := Aside0.mk (Below.refl w.heap.size w)
 clear hr2 hr1 hc2 hc1
 by_cases h0 : askErr a0_0 l F = 0
 ·rw [h0] at hA
  have HA := Aside0.mk hA
  clear hA
  by_cases h1 : endsErr a0_0 l s t = 0
  ·have hl : pathRes a0_0 l F s t = (wayP l F a0_0.toNat s.toNat t.toNat, decide (t.toNat ∈ nodes (bfP l F a0_0.toNat s.toNat)), 0) := by unfold pathRes; rw [if_pos h0, if_pos h1]
   rw [hl] at h
   rw [h1] at hE
   obtain ⟨n0, rfl, hR⟩ := right_of h0
   obtain ⟨_, s0, t0, rfl, rfl, hs0, ht0, hst0⟩ := ends_of h1
   rw [Int.toNat_natCast, Int.toNat_natCast, Int.toNat_natCast] at h
   injection h with q1 q2
   injection q2 with q2 q3
   subst q1
   subst q2
   subst q3
   have HR := Aside0.mk hR
   have HE := Aside0.mk hE
   have hn50 := hR.fifty
   clear h0 h1 hR hE hl
   go_enter Try.func56, Try.ntmps56
   go_wp2_with (first | ((with_reducible refine gate_dst (N := 4) rfl ?_); refine box_event ?hg (N := 4) ?hd (cs := #[.int .i64 (n0 : Int), .bool a0_1, .slice A2 l.length c2]) (t := 24) ?hr ?_; (case hd => rfl); (case hg => rfl); (case hr => first | (go_simp; done) | (go_simp; rfl)); intro g3 hg w4 hbox hb; have n0_ := Aside0.mk (below_step HB.out hb); have B3 := Aside0.mk hbox; clear HB; have HB := n0_; clear n0_ hb hbox hg; have hb0 : w4.cell? ⟨g3, 0, none⟩ = some (.int .i64 (n0 : Int)) := (blk_cell B3.out 0).trans rfl; have hb1 : w4.cell? ⟨g3, 1, none⟩ = some (.bool a0_1) := (blk_cell B3.out 1).trans rfl; have hb2 : w4.cell? ⟨g3, 2, none⟩ = some (.slice A2 l.length c2) := (blk_cell B3.out 2).trans rfl) | (go_at_call 96; refine (static_Asked.calls k (n0 : Int) a0_1 A2 c2 l A1 c1 F 0 _ (Kd.C_below H2.out HB.out) HC2.out (Kd.C_below H3.out HB.out) HC1.out HA.out).mono ?_; rintro e_ w5 ⟨rfl, hb⟩; have n0_ := Aside0.mk (below_step HB.out hb); have n1_ := Aside0.mk (blk_below B3.out hb); clear HB B3 hb0 hb1 hb2 hb; have HB := n0_; have B3 := n1_; clear n0_ n1_; have hb0 : w5.cell? ⟨g3, 0, none⟩ = some (.int .i64 (n0 : Int)) := (blk_cell B3.out 0).trans rfl; have hb1 : w5.cell? ⟨g3, 1, none⟩ = some (.bool a0_1) := (blk_cell B3.out 1).trans rfl; have hb2 : w5.cell? ⟨g3, 2, none⟩ = some (.slice A2 l.length c2) := (blk_cell B3.out 2).trans rfl) | (go_at_call 111; refine (static_Ends.calls k2 (n0 : Int) a0_1 A2 c2 l (s0 : Int) (t0 : Int) 0 _ (Kd.C_below H2.out HB.out) HC2.out HE.out).mono ?_; rintro e_ w6 ⟨rfl, hb⟩; have n0_ := Aside0.mk (below_step HB.out hb); have n1_ := Aside0.mk (blk_below B3.out hb); clear HB B3 hb0 hb1 hb2 hb; have HB := n0_; have B3 := n1_; clear n0_ n1_; have hb0 : w6.cell? ⟨g3, 0, none⟩ = some (.int .i64 (n0 : Int)) := (blk_cell B3.out 0).trans rfl; have hb1 : w6.cell? ⟨g3, 1, none⟩ = some (.bool a0_1) := (blk_cell B3.out 1).trans rfl; have hb2 : w6.cell? ⟨g3, 2, none⟩ = some (.slice A2 l.length c2) := (blk_cell B3.out 2).trans rfl) | (go_at_call 101; refine (at_calls n0 a0_1 A2 c2 l A1 c1 F.length _ (Kd.C_below H2.out HB.out) HC2.out (by omega) (by omega) (by have := HR.out.arcs; omega) (fun k hk => (HR.out.ends k hk).1) (fun k hk => (HR.out.ends k hk).2)).mono ?_; rintro e_ w7 ⟨vr, rfl, hS, hb⟩; obtain ⟨A4, c4, ev⟩ := Kd.S_slice hS; subst ev; have H4 := Aside0.mk (Kd.S_reads' hS).2.2; rw [rowsAt_len] at H4 ⊢; have n0_ := Aside0.mk (below_step HB.out hb); have n1_ := Aside0.mk (blk_below B3.out hb); clear HB B3 hb0 hb1 hb2 hb; have HB := n0_; have B3 := n1_; clear n0_ n1_; clear hS) | (go_at_call 112; refine (way_calls n0 a0_1 A2 c2 l A1 c1 F A4 c4 s0 t0 _ HR.out hs0 ht0 hst0 HC2.out HC1.out (Kd.C_below H2.out HB.out) (Kd.C_below H3.out HB.out) H4.out).mono ?_; rintro e_ w8 ⟨vw, rfl, hv, hb⟩; have HV := Aside0.mk (Kd.R_lower hv HB.out.size); have n0_ := Aside0.mk (below_step HB.out hb); clear HB hb hv; have HB := n0_; clear n0_) | fail)
   go_ret3
   exact ⟨_, rfl, HV.out, HB.out⟩
  ·have hl : pathRes a0_0 l F s t = ([], false, endsErr a0_0 l s t) := by unfold pathRes; rw [if_pos h0, if_neg h1]
   rw [hl] at h
   injection h with q1 q2
   injection q2 with q2 q3
   subst q1
   subst q2
   rw [q3] at hE h1
   have HE := Aside0.mk hE
   have e1 : (r3 != 0) = true := by rw [bne_iff_ne]; exact h1
   clear q3 h0 h1 hE hl
   go_enter Try.func56, Try.ntmps56
   go_wp2_with (first | ((with_reducible refine gate_dst (N := 4) rfl ?_); refine box_event ?hg (N := 4) ?hd (cs := #[.int .i64 a0_0, .bool a0_1, .slice A2 l.length c2]) (t := 24) ?hr ?_; (case hd => rfl); (case hg => rfl); (case hr => first | (go_simp; done) | (go_simp; rfl)); intro g3 hg w4 hbox hb; have n0_ := Aside0.mk (below_step HB.out hb); have B3 := Aside0.mk hbox; clear HB; have HB := n0_; clear n0_ hb hbox hg; have hb0 : w4.cell? ⟨g3, 0, none⟩ = some (.int .i64 a0_0) := (blk_cell B3.out 0).trans rfl; have hb1 : w4.cell? ⟨g3, 1, none⟩ = some (.bool a0_1) := (blk_cell B3.out 1).trans rfl; have hb2 : w4.cell? ⟨g3, 2, none⟩ = some (.slice A2 l.length c2) := (blk_cell B3.out 2).trans rfl) | (go_at_call 96; refine (static_Asked.calls k a0_0 a0_1 A2 c2 l A1 c1 F 0 _ (Kd.C_below H2.out HB.out) HC2.out (Kd.C_below H3.out HB.out) HC1.out HA.out).mono ?_; rintro e_ w5 ⟨rfl, hb⟩; have n0_ := Aside0.mk (below_step HB.out hb); have n1_ := Aside0.mk (blk_below B3.out hb); clear HB B3 hb0 hb1 hb2 hb; have HB := n0_; have B3 := n1_; clear n0_ n1_; have hb0 : w5.cell? ⟨g3, 0, none⟩ = some (.int .i64 a0_0) := (blk_cell B3.out 0).trans rfl; have hb1 : w5.cell? ⟨g3, 1, none⟩ = some (.bool a0_1) := (blk_cell B3.out 1).trans rfl; have hb2 : w5.cell? ⟨g3, 2, none⟩ = some (.slice A2 l.length c2) := (blk_cell B3.out 2).trans rfl) | (go_at_call 111; refine (static_Ends.calls k2 a0_0 a0_1 A2 c2 l s t r3 _ (Kd.C_below H2.out HB.out) HC2.out HE.out).mono ?_; rintro e_ w6 ⟨rfl, hb⟩; have n0_ := Aside0.mk (below_step HB.out hb); have n1_ := Aside0.mk (blk_below B3.out hb); clear HB B3 hb0 hb1 hb2 hb; have HB := n0_; have B3 := n1_; clear n0_ n1_; have hb0 : w6.cell? ⟨g3, 0, none⟩ = some (.int .i64 a0_0) := (blk_cell B3.out 0).trans rfl; have hb1 : w6.cell? ⟨g3, 1, none⟩ = some (.bool a0_1) := (blk_cell B3.out 1).trans rfl; have hb2 : w6.cell? ⟨g3, 2, none⟩ = some (.slice A2 l.length c2) := (blk_cell B3.out 2).trans rfl) | fail)
   go_ret3
   exact ⟨_, rfl, Kd.R_nil _ _ _ _ _, HB.out⟩
 ·have hl : pathRes a0_0 l F s t = ([], false, askErr a0_0 l F) := by unfold pathRes; rw [if_neg h0]
  rw [hl] at h
  injection h with q1 q2
  injection q2 with q2 q3
  subst q1
  subst q2
  rw [q3] at hA h0
  have HA := Aside0.mk hA
  have e1 : (r3 != 0) = true := by rw [bne_iff_ne]; exact h0
  clear q3 h0 hA hl hE
  go_enter Try.func56, Try.ntmps56
  go_wp2_with (first | ((with_reducible refine gate_dst (N := 4) rfl ?_); refine box_event ?hg (N := 4) ?hd (cs := #[.int .i64 a0_0, .bool a0_1, .slice A2 l.length c2]) (t := 24) ?hr ?_; (case hd => rfl); (case hg => rfl); (case hr => first | (go_simp; done) | (go_simp; rfl)); intro g3 hg w4 hbox hb; have n0_ := Aside0.mk (below_step HB.out hb); have B3 := Aside0.mk hbox; clear HB; have HB := n0_; clear n0_ hb hbox hg; have hb0 : w4.cell? ⟨g3, 0, none⟩ = some (.int .i64 a0_0) := (blk_cell B3.out 0).trans rfl; have hb1 : w4.cell? ⟨g3, 1, none⟩ = some (.bool a0_1) := (blk_cell B3.out 1).trans rfl; have hb2 : w4.cell? ⟨g3, 2, none⟩ = some (.slice A2 l.length c2) := (blk_cell B3.out 2).trans rfl) | (go_at_call 96; refine (static_Asked.calls k a0_0 a0_1 A2 c2 l A1 c1 F r3 _ (Kd.C_below H2.out HB.out) HC2.out (Kd.C_below H3.out HB.out) HC1.out HA.out).mono ?_; rintro e_ w5 ⟨rfl, hb⟩; have n0_ := Aside0.mk (below_step HB.out hb); have n1_ := Aside0.mk (blk_below B3.out hb); clear HB B3 hb0 hb1 hb2 hb; have HB := n0_; have B3 := n1_; clear n0_ n1_; have hb0 : w5.cell? ⟨g3, 0, none⟩ = some (.int .i64 a0_0) := (blk_cell B3.out 0).trans rfl; have hb1 : w5.cell? ⟨g3, 1, none⟩ = some (.bool a0_1) := (blk_cell B3.out 1).trans rfl; have hb2 : w5.cell? ⟨g3, 2, none⟩ = some (.slice A2 l.length c2) := (blk_cell B3.out 2).trans rfl) | fail)
  go_ret3
  exact ⟨_, rfl, Kd.R_nil _ _ _ _ _, HB.out⟩
end Go.Proofs.Ytkcpanpdipmmmaa.H
namespace Go.Proofs.Ytkcpanpdipmmmaa.P
open Go.RowKit Go.Proofs.YtkcpanpdipmmmaaW.PrintWords Go.Proofs.YtkcpanpdipmmmaaW.PrintLast Go.Proofs.YtkcpanpdipmmmaaW.PrintMore
attribute [local go_sem] max2_int min2_int max_two min_two max_three min_three max_four min_four
def level_Path.f (a0_0 : Int) (a0_1 : Bool) (l0_2 : List (S74)) (l1 : List Int) (a2 : Int) (a3 : Int) : Option ((List (S38)) × Bool × Int) := some (H.pathRes a0_0 l0_2 l1 a2 a3)
theorem level_Path.calls (a0_0 : Int) (a0_1 : Bool) (A0_2 : Option Addr) (c0_2 : Nat) (l0_2 : List (S74)) (A1 : Option Addr) (c1 : Nat) (l1 : List Int) (a2 : Int) (a3 : Int) (r1 : List (S38)) (r2 : Bool) (r3 : Int) (w : World) (hr0_2 : Kd.C k74 w A0_2 l0_2.length l0_2) (hc0_2 : l0_2.length ≤ c0_2) (hr1 : Kd.C (Kd.int .i64) w A1 l1.length l1) (hc1 : l1.length ≤ c1) (h : level_Path.f a0_0 a0_1 l0_2 l1 a2 a3 = some (r1, r2, r3)) :
  Calls Try.prog 56 #[.agg #[.int .i64 a0_0, .bool a0_1, .slice A0_2 l0_2.length c0_2], .slice A1 l1.length c1, .int .i64 a2, .int .i64 a3] w fun e w' => ∃ v0_ : Value, e = .returned (.tuple #[v0_, .bool r2, .int .i64 r3]) ∧ Kd.R k38 38 w' w.heap.size (fun _ => True) v0_ r1 ∧ Below w.heap.size w w' := H.level_Path_calls a0_0 a0_1 A0_2 c0_2 l0_2 A1 c1 l1 a2 a3 r1 r2 r3 w hr0_2 hc0_2 hr1 hc1 h
end Go.Proofs.Ytkcpanpdipmmmaa.P
namespace Go.Proofs.Ytkcpanpdipmmmaa.P
open Go.RowKit Go.Proofs.YtkcpanpdipmmmaaW.PrintWords Go.Proofs.YtkcpanpdipmmmaaW.PrintLast Go.Proofs.YtkcpanpdipmmmaaW.PrintMore
attribute [local go_sem] max2_int min2_int max_two min_two max_three min_three max_four min_four
def level_Levels.f (a0_0 : Int) (a0_1 : Bool) (l0_2 : List (S74)) (l1 : List Int) (a2 : Int) : Option (List Int × Int) := some (H.levelsRes a0_0 l0_2 l1 a2)
theorem level_Levels.calls (a0_0 : Int) (a0_1 : Bool) (A0_2 : Option Addr) (c0_2 : Nat) (l0_2 : List (S74)) (A1 : Option Addr) (c1 : Nat) (l1 : List Int) (a2 : Int) (r1 : List Int) (r2 : Int) (w : World) (hr0_2 : Kd.C k74 w A0_2 l0_2.length l0_2) (hc0_2 : l0_2.length ≤ c0_2) (hr1 : Kd.C (Kd.int .i64) w A1 l1.length l1) (hc1 : l1.length ≤ c1) (h : level_Levels.f a0_0 a0_1 l0_2 l1 a2 = some (r1, r2)) :
  Calls Try.prog 53 #[.agg #[.int .i64 a0_0, .bool a0_1, .slice A0_2 l0_2.length c0_2], .slice A1 l1.length c1, .int .i64 a2] w fun e w' => ∃ v0_ : Value, e = .returned (.tuple #[v0_, .int .i64 r2]) ∧ Kd.R (Kd.int .i64) 3 w' w.heap.size (fun _ => True) v0_ r1 ∧ Below w.heap.size w w' := H.level_Levels_calls a0_0 a0_1 A0_2 c0_2 l0_2 A1 c1 l1 a2 r1 r2 w hr0_2 hc0_2 hr1 hc1 h
end Go.Proofs.Ytkcpanpdipmmmaa.P
namespace Go.Proofs.Ytkcpanpdipmmmaa.P
open Go.RowKit Go.Proofs.YtkcpanpdipmmmaaW.PrintWords Go.Proofs.YtkcpanpdipmmmaaW.PrintLast Go.Proofs.YtkcpanpdipmmmaaW.PrintMore
attribute [local go_sem] max2_int min2_int max_two min_two max_three min_three max_four min_four
theorem eqA38 (d : Nat) (w : World) (x0 y0 : Int) (x1 y1 : Bool) :
  (Op.equalIn (d + 2) 38 (.agg #[.int .i64 x0, .bool x1]) (.agg #[.int .i64 y0, .bool y1])).run Try.prog w = .ok (x0 == y0 && (x1 == y1)) w := by
 refine eqA_of Try.underlying38 (by kernel_rfl) ?_
 refine eqf_cons (by rfl) (by go_simp; rfl) (by go_simp; rfl) (by go_simp) ?_
 exact eqf_last (by rfl) (by go_simp; rfl) (by go_simp; rfl) (by go_simp)
end Go.Proofs.Ytkcpanpdipmmmaa.P
namespace Go.Proofs.Ytkcpanpdipmmmaa.P
open Go.RowKit Go.Proofs.YtkcpanpdipmmmaaW.PrintWords Go.Proofs.YtkcpanpdipmmmaaW.PrintLast Go.Proofs.YtkcpanpdipmmmaaW.PrintMore
attribute [local go_sem] max2_int min2_int max_two min_two max_three min_three max_four min_four
attribute [local go_sem high] eqA38
def ebbtideref08_Same.l0 : Nat → List (S38) → List (S38) → Int → Option (Bool)
 | 0, _, _, _ => none
 | k + 1, x0, x1, x5 => if x5 < (x0.length : Int) then (if 0 ≤ x5 then (if x5 < (x1.length : Int) then (if (!(((rd_T38 x0 x5).f0) == ((rd_T38 x1 x5).f0)) || (!(((rd_T38 x0 x5).f1) == ((rd_T38 x1 x5).f1)))) = true then (some false) else (ebbtideref08_Same.l0 k x0 x1 (wrap64 (x5 + 1)))) else (none)) else (none)) else (some true)
def ebbtideref08_Same.f (k : Nat) (l0 : List (S38)) (l1 : List (S38)) : Option (Bool) := if (l0.length : Int) = (l1.length : Int) then (ebbtideref08_Same.l0 k l0 l1 0) else (some false)
theorem ebbtideref08_Same.mono_l : ∀ k, (∀ y0 y1 y2, LeO (ebbtideref08_Same.l0 k y0 y1 y2) (ebbtideref08_Same.l0 (k + 1) y0 y1 y2))
 | 0 => fun _ _ _ r h => by simp [ebbtideref08_Same.l0] at h
 | k + 1 => by
  have ih0 := ebbtideref08_Same.mono_l k
  ·intro y0 y1 y2
   unfold ebbtideref08_Same.l0
   repeat' first
   | (with_reducible exact ih0 _ _ _)
   | (with_reducible exact LeO.refl _)
   | (with_reducible exact LeO.none _)
   | (with_reducible refine LeO.ite ?_ ?_)
   | (with_reducible refine LeO.bind ?_ (fun _ => ?_))
   | exact ih0 _ _ _
   | exact LeO.none _
   | refine LeO.ite ?_ ?_
   | refine LeO.bind ?_ (fun _ => ?_)
theorem ebbtideref08_Same.mono : ∀ a0 a1 k, LeO (ebbtideref08_Same.f k a0 a1) (ebbtideref08_Same.f (k + 1) a0 a1) := by
 intro a0 a1 k
 have ih0 := ebbtideref08_Same.mono_l k
 unfold ebbtideref08_Same.f
 repeat' first
   | (with_reducible exact ih0 _ _ _)
   | (with_reducible exact LeO.refl _)
   | (with_reducible exact LeO.none _)
   | (with_reducible refine LeO.ite ?_ ?_)
   | (with_reducible refine LeO.bind ?_ (fun _ => ?_))
   | exact ih0 _ _ _
   | exact LeO.none _
   | refine LeO.ite ?_ ?_
   | refine LeO.bind ?_ (fun _ => ?_)
set_option maxHeartbeats 8000000 in
set_option maxRecDepth 100000 in
theorem ebbtideref08_Same.calls (k : Nat) (A0 : Option Addr) (c0 : Nat) (l0 : List (S38)) (A1 : Option Addr) (c1 : Nat) (l1 : List (S38)) (r : Bool) (w : World) (hr0 : Kd.C k38 w A0 l0.length l0) (hc0 : l0.length ≤ c0) (hr1 : Kd.C k38 w A1 l1.length l1) (hc1 : l1.length ≤ c1) (h : ebbtideref08_Same.f k l0 l1 = some r) :
  Calls Try.prog 58 #[.slice A0 l0.length c0, .slice A1 l1.length c1] w fun e w' => e = .returned (.bool r) ∧ Drawn0 w w' := by
 have hu38 := Try.underlying38
 have HR0 := Aside0.mk hr0
 have HC0 := Aside0.mk hc0
 clear hr0 hc0
 have HR1 := Aside0.mk hr1
 have HC1 := Aside0.mk hc1
 clear hr1 hc1
 have H : (if (l0.length : Int) = (l1.length : Int) then (ebbtideref08_Same.l0 k l0 l1 0) else (some false)) = some r := h
 clear h
 by_cases c3 : (l0.length : Int) = (l1.length : Int)
 rotate_left
 ·rw [if_neg c3] at H
  have c3b0 : ((l0.length : Int) == (l1.length : Int)) = false := beq_eq_false_iff_ne.mpr c3
  have c3b1 : ((l0.length : Int) != (l1.length : Int)) = true := bne_iff_ne.mpr c3
  have c3b2 : (l0.length == l1.length) = false := by first | simpa using c3 | (simp at c3 ⊢; omega)
  obtain rfl := Option.some.inj H
  go_enter Try.func58, Try.ntmps58
  go_wp2
  repeat (go_quiet (fail); try go_wp2)
  go_ret
  exact ⟨by first | rfl | (simp; done) | (simp [*]; done), by repeat (first | exact Drawn0.refl _ | apply Drawn0.step)⟩
 rw [if_pos c3] at H
 have c3b0 : ((l0.length : Int) == (l1.length : Int)) = true := beq_iff_eq.mpr c3
 have c3b1 : ((l0.length : Int) != (l1.length : Int)) = false := bne_eq_false_iff_eq.mpr c3
 have c3b2 : (l0.length == l1.length) = true := by first | simpa using c3 | (simp at c3 ⊢; omega)
 clear c3
 have H' := Aside0.mk H
 clear H
 go_enter Try.func58, Try.ntmps58
 go_wp2
 repeat (go_quiet (fail); try go_wp2)
 go_loopg [5] k (fun kq v5 w' => ∃ (x5_1 : Int), v5 = .int .i64 x5_1 ∧ Aside0 (ebbtideref08_Same.l0 kq l0 l1 x5_1 = some r) ∧ Aside0 (kq ≤ k) ∧ Drawn0 w w')
 case atStart => exact ⟨(0), (by first | rfl | (simp; done) | (simp [*]; done)), H', ⟨Nat.le_refl _⟩, by repeat (first | exact Drawn0.refl _ | apply Drawn0.step)⟩
 case round =>
  clear H'
  try clear c1
  try clear p2
  try clear c3
  try clear c3b0
  try clear c3b1
  try clear c3b2
  obtain ⟨x5_1, rfl, HA, HK1, ⟨m1, rfl⟩⟩ := hrel
  cases gk with
  | zero => exact absurd HA.out (by simp [ebbtideref08_Same.l0])
  | succ k1 =>
   have H := HA.out
   clear HA
   simp only [ebbtideref08_Same.l0] at H
   by_cases c4 : x5_1 < (l0.length : Int)
   rotate_left
   ·rw [if_neg c4] at H
    have c4b0 : decide (x5_1 < (l0.length : Int)) = false := decide_eq_false c4
    clear c4
    obtain rfl := Option.some.inj H
    go_wp2
    repeat (go_quiet (fail); try go_wp2)
    go_ret
    exact ⟨by first | rfl | (simp; done) | (simp [*]; done), by repeat (first | exact Drawn0.refl _ | apply Drawn0.step)⟩
   rw [if_pos c4] at H
   have c4b0 : decide (x5_1 < (l0.length : Int)) = true := decide_eq_true c4
   clear c4
   by_cases c5 : 0 ≤ x5_1
   rotate_left
   ·rw [if_neg c5] at H
    exact absurd H (by simp)
   rw [if_pos c5] at H
   have c5b0 : decide (0 ≤ x5_1) = true := decide_eq_true c5
   clear c5
   by_cases c6 : x5_1 < (l1.length : Int)
   rotate_left
   ·rw [if_neg c6] at H
    exact absurd H (by simp)
   rw [if_pos c6] at H
   have c6b0 : decide (x5_1 < (l1.length : Int)) = true := decide_eq_true c6
   clear c6
   by_cases c7 : (!(((rd_T38 l0 x5_1).f0) == ((rd_T38 l1 x5_1).f0)) || (!(((rd_T38 l0 x5_1).f1) == ((rd_T38 l1 x5_1).f1)))) = true
   ·rw [if_pos c7] at H
    have c7b0 : (!(((rd_T38 l0 x5_1).f0) == ((rd_T38 l1 x5_1).f0)) || (!(((rd_T38 l0 x5_1).f1) == ((rd_T38 l1 x5_1).f1)))) = true := c7
    clear c7
    obtain rfl := Option.some.inj H
    have p498 : 0 ≤ (x5_1 : Int) := of_decide_eq_true (by first | (with_reducible assumption) | assumption)
    have q498 : x5_1 < (l0.length : Int) := of_decide_eq_true (by first | (with_reducible assumption) | assumption)
    obtain ⟨ad498, e498, hx498_0, hx498_1⟩ := at_T38 HR0.out x5_1 p498 q498
    cases e498
    replace p498 := eq_true p498
    replace q498 := eq_true q498
    have p499 : 0 ≤ (x5_1 : Int) := of_decide_eq_true (by first | (with_reducible assumption) | assumption)
    have q499 : x5_1 < (l1.length : Int) := of_decide_eq_true (by first | (with_reducible assumption) | assumption)
    obtain ⟨ad499, e499, hx499_0, hx499_1⟩ := at_T38 HR1.out x5_1 p499 q499
    cases e499
    replace p499 := eq_true p499
    replace q499 := eq_true q499
    go_wp2
    repeat (go_quiet (fail); try go_wp2)
    go_ret
    exact ⟨by first | rfl | (simp; done) | (simp [*]; done), by repeat (first | exact Drawn0.refl _ | apply Drawn0.step)⟩
   rw [if_neg c7] at H
   have c7b0 : (!(((rd_T38 l0 x5_1).f0) == ((rd_T38 l1 x5_1).f0)) || (!(((rd_T38 l0 x5_1).f1) == ((rd_T38 l1 x5_1).f1)))) = false := by simpa using c7
   clear c7
   have H' := Aside0.mk H
   clear H
   have p498 : 0 ≤ (x5_1 : Int) := of_decide_eq_true (by first | (with_reducible assumption) | assumption)
   have q498 : x5_1 < (l0.length : Int) := of_decide_eq_true (by first | (with_reducible assumption) | assumption)
   obtain ⟨ad498, e498, hx498_0, hx498_1⟩ := at_T38 HR0.out x5_1 p498 q498
   cases e498
   replace p498 := eq_true p498
   replace q498 := eq_true q498
   have p499 : 0 ≤ (x5_1 : Int) := of_decide_eq_true (by first | (with_reducible assumption) | assumption)
   have q499 : x5_1 < (l1.length : Int) := of_decide_eq_true (by first | (with_reducible assumption) | assumption)
   obtain ⟨ad499, e499, hx499_0, hx499_1⟩ := at_T38 HR1.out x5_1 p499 q499
   cases e499
   replace p499 := eq_true p499
   replace q499 := eq_true q499
   go_wp2
   repeat (go_quiet (fail); try go_wp2)
   go_roundg k1
   case measure => have := HK1.out; omega
   case rel => exact ⟨(wrap64 (x5_1 + 1)), (by first | rfl | (simp; done) | (simp [*]; done)), H', ⟨by have := HK1.out; omega⟩, by repeat (first | exact Drawn0.refl _ | apply Drawn0.step)⟩
end Go.Proofs.Ytkcpanpdipmmmaa.P
namespace Go.Proofs.Ytkcpanpdipmmmaa.P
open Go.RowKit Go.Proofs.YtkcpanpdipmmmaaW.PrintWords Go.Proofs.YtkcpanpdipmmmaaW.PrintLast Go.Proofs.YtkcpanpdipmmmaaW.PrintMore
attribute [local go_sem] max2_int min2_int max_two min_two max_three min_three max_four min_four
def ebbtidelaw08_line.f  : Option (Int × Bool × (List (S74))) := some (3, false, (([(⟨0, 1, 5, 0⟩ : S74), (⟨1, 2, 5, 0⟩ : S74)] : List (S74))))
set_option maxHeartbeats 8000000 in
set_option maxRecDepth 100000 in
theorem ebbtidelaw08_line.calls  (r1 : Int) (r2 : Bool) (r3 : List (S74)) (w : World) (h : ebbtidelaw08_line.f  = some (r1, r2, r3)) :
  Calls Try.prog 110 #[] w fun e w' => ∃ v2_ : Value, e = .returned (.agg #[.int .i64 r1, .bool r2, v2_]) ∧ Kd.R k74 74 w' w.heap.size (fun _ => True) v2_ r3 ∧ Below w.heap.size w w' := by
 have hu24 := Try.underlying24
 have hu74 := Try.underlying74
 have HB := Aside0.mk (Below.refl w.heap.size w)
 have H : (some (3, false, (([(⟨0, 1, 5, 0⟩ : S74), (⟨1, 2, 5, 0⟩ : S74)] : List (S74))))) = some (r1, r2, r3) := h
 clear h
 obtain ⟨y501, hy501⟩ : ∃ y_ : List (S74), y_ = (([(⟨0, 1, 5, 0⟩ : S74), (⟨1, 2, 5, 0⟩ : S74)] : List (S74))) := ⟨_, rfl⟩
 replace H : (some (3, false, y501)) = some (r1, r2, r3) := by first | (rw [hy501]; with_reducible exact H) | (have H2_ := (Option.bind_some _ _).symm.trans H; rw [hy501]; with_reducible exact H2_) | (have H2_ := (Option.bind_some _ _).symm.trans H; with_reducible exact H2_) | with_reducible exact H | (rw [hy501]; exact H) | exact H
 have Ny501 := Aside0.mk hy501
 clear hy501
 simp only [Option.some.injEq, Prod.mk.injEq] at H
 obtain ⟨rfl, rfl, rfl⟩ := H
 go_enter Try.func110, Try.ntmps110
 go_wp2_with (first | ((with_reducible refine gate_dst (N := 0) rfl ?_); refine box_event ?hg (N := 0) ?hd (cs := #[.int .i64 0, .bool false, .slice none 0 0]) (t := 24) ?hr ?_; (case hd => rfl); (case hg => rfl); (case hr => first | (go_simp; done) | (go_simp; rfl)); intro gb500 hg w1 hbox hb; have n0_ := Aside0.mk (below_step (by repeat (first | (with_reducible first | exact HB.out | apply below_alloc | apply pw_below_drewN | apply below_drew1) | exact HB.out)) hb); have n1_ := Aside0.mk (hbox); have n2_ := Aside0.mk ((by rw [hg]; exact (below_size (by repeat (first | (with_reducible first | exact HB.out | apply below_alloc | apply pw_below_drewN | apply below_drew1) | exact HB.out))) : w.heap.size ≤ gb500)); have n3_ := Aside0.mk ((by rw [hg]; exact (below_size (by repeat (first | (with_reducible first | exact HB.out | apply below_alloc | apply pw_below_drewN | apply below_drew1) | exact HB.out))) : w.heap.size ≤ gb500)); clear HB; have HB := n0_; have BK500 := n1_; have GW500 := n2_; have GE500 := n3_; clear n0_ n1_ n2_ n3_; clear hb hbox hg) | ((with_reducible refine gate_dst (N := 3) rfl ?_); refine Kd.R_lit k74 _ 74 ?hg (N := 3) ?hd (xs := ([(⟨0, 1, 5, 0⟩ : S74), (⟨1, 2, 5, 0⟩ : S74)] : List (S74))) (inner := [.int .i64 0, .int .i64 1, .int .i64 5, .int .i64 0, .int .i64 1, .int .i64 2, .int .i64 5, .int .i64 0]) (ok := fun _ => True) (okp := fun _ => True) ?hr ?hp (fun _ hk => hk) trivial (Below.refl _ _) (Nat.le_refl _) (by simp) ?_; (case hd => rfl); (case hg => rfl); (case hr => first | (go_simp; done) | (go_simp; rfl)); (case hp => exact (Reps.c4 (show Kd.M k74 _ _ _ (⟨0, 1, 5, 0⟩ : S74) [.int .i64 0, .int .i64 1, .int .i64 5, .int .i64 0] from (k74_mkM _ _ _ (⟨0, 1, 5, 0⟩ : S74) )) (Reps.c4 (show Kd.M k74 _ _ _ (⟨1, 2, 5, 0⟩ : S74) [.int .i64 1, .int .i64 2, .int .i64 5, .int .i64 0] from (k74_mkM _ _ _ (⟨1, 2, 5, 0⟩ : S74) )) (Reps.none _ _)))); intro v502 w2 ho3 hb hg_ hnew_; clear hg_ hnew_; (first | rw [← Ny501.out] at ho3 | (simp only [Int.reduceToNat] at ho3; rw [← Ny501.out] at ho3)); have n0_ := Aside0.mk (Kd.R_lower ho3 (below_size (by repeat (first | (with_reducible first | exact HB.out | apply below_alloc | apply pw_below_drewN | apply below_drew1 | refine below_set ?_ GE500.out) | exact HB.out)))); have n1_ := Aside0.mk (blk_below (g := gb500) (o := .cells #[.int .i64 0, .bool false, .slice none 0 0] 24 (0, 0)) (by (with_reducible repeat (first | refine blk_drewN ?_ _ | refine blk_drew ?_ | refine blk_alloc ?_ _)); exact BK500.out) hb); have n2_ := Aside0.mk (below_step (by repeat (first | (with_reducible first | exact HB.out | apply below_alloc | apply pw_below_drewN | apply below_drew1 | refine below_set ?_ GE500.out) | exact HB.out)) hb); clear BK500; clear HB; have HO503 := n0_; have BK500 := n1_; have HB := n2_; clear n0_ n1_ n2_; clear hb ho3; obtain ⟨Ao4, co4, eo4⟩ := Kd.R_slice HO503.out; subst eo4; have hcz5_0 : w2.cell? ⟨gb500, 0, none⟩ = some (.int .i64 0) := (blk_cell BK500.out 0).trans rfl; have hcz5_1 : w2.cell? ⟨gb500, 1, none⟩ = some (.bool false) := (blk_cell BK500.out 1).trans rfl; have hcz5_2 : w2.cell? ⟨gb500, 2, none⟩ = some (.slice none 0 0) := (blk_cell BK500.out 2).trans rfl; have hfz5_0 := blk_frozen BK500.out 0; have hfz5_1 := blk_frozen BK500.out 1; have hfz5_2 := blk_frozen BK500.out 2))
 refine bodyPost_ret (results_cell_row rfl _ _ gb500 24 #[.int .i64 3, .bool false, .slice Ao4 y501.length co4] (0, 0) _ rfl (by (with_reducible repeat (first | refine blk_drewN ?_ _ | refine blk_drew ?_ | refine blk_alloc ?_ _)); refine blk_put (cs := #[.int .i64 3, .bool false, .slice none 0 0]) ?_ 2 _ rfl; (with_reducible repeat (first | refine blk_drewN ?_ _ | refine blk_drew ?_ | refine blk_alloc ?_ _)); refine blk_put (cs := #[.int .i64 3, .bool false, .slice none 0 0]) ?_ 1 _ rfl; (with_reducible repeat (first | refine blk_drewN ?_ _ | refine blk_drew ?_ | refine blk_alloc ?_ _)); refine blk_put (cs := #[.int .i64 0, .bool false, .slice none 0 0]) ?_ 0 _ rfl; (with_reducible repeat (first | refine blk_drewN ?_ _ | refine blk_drew ?_ | refine blk_alloc ?_ _)); exact BK500.out) Try.underlying24 rfl (by kernel_rfl)) rfl ?_
 exact ⟨_, by first | rfl | (simp [errW_none, errW_some] <;> rfl) | (simp [*, errW_none, errW_some] <;> rfl), by (with_reducible repeat (first | apply Kd.R_alloc | apply Kd.R_drewN | apply Kd.R_drew)); exact Kd.R_mono (Kd.R_far (p := ⟨gb500, 2, none⟩) (Kd.R_far (p := ⟨gb500, 1, none⟩) (Kd.R_far (p := ⟨gb500, 0, none⟩) (Kd.R_types HO503.out BK500.out (by decide)) (fun _ hk => hk.2) (.int .i64 3)) (fun _ hk => hk.2) (.bool false)) (fun _ hk => hk.2) (.slice Ao4 y501.length co4)) (fun _ hk => trivial), by repeat (first | (with_reducible first | exact HB.out | apply below_alloc | apply pw_below_drewN | apply below_drew1 | refine below_set ?_ GE500.out) | exact HB.out)⟩
end Go.Proofs.Ytkcpanpdipmmmaa.P
namespace Go.Proofs.Ytkcpanpdipmmmaa.P
open Go.RowKit Go.Proofs.YtkcpanpdipmmmaaW.PrintWords Go.Proofs.YtkcpanpdipmmmaaW.PrintLast Go.Proofs.YtkcpanpdipmmmaaW.PrintMore
attribute [local go_sem] max2_int min2_int max_two min_two max_three min_three max_four min_four
def ebbtidelaw08_awake.f (k : Nat)  : Option (Bool) := (ebbtidelaw08_line.f).bind fun bt504 => ((level_Path.f bt504.1 bt504.2.1 bt504.2.2 (([0, 0] : List Int)) 0 2).bind fun bt512 => ((ebbtidelaw08_line.f).bind fun bt517 => ((level_Path.f bt517.1 bt517.2.1 bt517.2.2 (([5, 5] : List Int)) 0 2).bind fun bt525 => ((ebbtidelaw08_line.f).bind fun bt530 => ((level_Levels.f bt530.1 bt530.2.1 bt530.2.2 (([5, 5] : List Int)) 2).bind fun bt538 => (if bt512.2.2 = 0 then (if bt525.2.2 = 0 then (if bt538.2 = 0 then (if bt512.2.1 = true then (if bt525.2.1 = true then (some false) else ((ebbtideref08_Same.f k bt512.1 (([(⟨0, false⟩ : S38), (⟨1, false⟩ : S38)] : List (S38)))).bind fun t545 => (if t545 = true then ((ebbtideref03_SameInts.f k bt538.1 (([2, 1, 0] : List Int))).bind fun t549 => (some t549)) else (some false)))) else (some false)) else (some false)) else (some false)) else (some false)))))))
theorem ebbtidelaw08_awake.mono : ∀ k, LeO (ebbtidelaw08_awake.f k ) (ebbtidelaw08_awake.f (k + 1) ) := by
 intro  k
 unfold ebbtidelaw08_awake.f
 repeat' first
   | (with_reducible exact ebbtideref03_SameInts.mono _ _ _)
   | (with_reducible exact ebbtideref08_Same.mono _ _ _)
   | (with_reducible exact LeO.refl _)
   | (with_reducible exact LeO.none _)
   | (with_reducible refine LeO.ite ?_ ?_)
   | (with_reducible refine LeO.bind ?_ (fun _ => ?_))
   | exact ebbtideref03_SameInts.mono _ _ _
   | exact ebbtideref08_Same.mono _ _ _
   | exact LeO.none _
   | refine LeO.ite ?_ ?_
   | refine LeO.bind ?_ (fun _ => ?_)
set_option maxHeartbeats 8000000 in
set_option maxRecDepth 100000 in
theorem ebbtidelaw08_awake.calls (k : Nat)  (r : Bool) (w : World) (h : ebbtidelaw08_awake.f k  = some r) (hrT_ : r = true := by first | rfl | exact Aside0.out (by assumption)) :
  Calls Try.prog 55 #[] w fun e w' => e = .returned (.bool r) ∧ Below w.heap.size w w' := by
 have HRT := Aside0.mk hrT_
 clear hrT_
 have hu38 := Try.underlying38
 have HB := Aside0.mk (Below.refl w.heap.size w)
 have H : ((ebbtidelaw08_line.f).bind fun bt504 => ((level_Path.f bt504.1 bt504.2.1 bt504.2.2 (([0, 0] : List Int)) 0 2).bind fun bt512 => ((ebbtidelaw08_line.f).bind fun bt517 => ((level_Path.f bt517.1 bt517.2.1 bt517.2.2 (([5, 5] : List Int)) 0 2).bind fun bt525 => ((ebbtidelaw08_line.f).bind fun bt530 => ((level_Levels.f bt530.1 bt530.2.1 bt530.2.2 (([5, 5] : List Int)) 2).bind fun bt538 => (if bt512.2.2 = 0 then (if bt525.2.2 = 0 then (if bt538.2 = 0 then (if bt512.2.1 = true then (if bt525.2.1 = true then (some false) else ((ebbtideref08_Same.f k bt512.1 (([(⟨0, false⟩ : S38), (⟨1, false⟩ : S38)] : List (S38)))).bind fun t545 => (if t545 = true then ((ebbtideref03_SameInts.f k bt538.1 (([2, 1, 0] : List Int))).bind fun t549 => (some t549)) else (some false)))) else (some false)) else (some false)) else (some false)) else (some false)))))))) = some r := h
 clear h
 replace H := Option.bind_eq_some_iff.mp H
 obtain ⟨⟨t504, t505, t506⟩, A10, H⟩ := H
 replace H : ((level_Path.f t504 t505 t506 (([0, 0] : List Int)) 0 2).bind fun bt512 => ((ebbtidelaw08_line.f).bind fun bt517 => ((level_Path.f bt517.1 bt517.2.1 bt517.2.2 (([5, 5] : List Int)) 0 2).bind fun bt525 => ((ebbtidelaw08_line.f).bind fun bt530 => ((level_Levels.f bt530.1 bt530.2.1 bt530.2.2 (([5, 5] : List Int)) 2).bind fun bt538 => (if bt512.2.2 = 0 then (if bt525.2.2 = 0 then (if bt538.2 = 0 then (if bt512.2.1 = true then (if bt525.2.1 = true then (some false) else ((ebbtideref08_Same.f k bt512.1 (([(⟨0, false⟩ : S38), (⟨1, false⟩ : S38)] : List (S38)))).bind fun t545 => (if t545 = true then ((ebbtideref03_SameInts.f k bt538.1 (([2, 1, 0] : List Int))).bind fun t549 => (some t549)) else (some false)))) else (some false)) else (some false)) else (some false)) else (some false))))))) = some r := H
 have A1 := Aside0.mk A10
 clear A10
 obtain ⟨y509, hy509⟩ : ∃ y_ : List Int, y_ = (([0, 0] : List Int)) := ⟨_, rfl⟩
 replace H : ((level_Path.f t504 t505 t506 y509 0 2).bind fun bt512 => ((ebbtidelaw08_line.f).bind fun bt517 => ((level_Path.f bt517.1 bt517.2.1 bt517.2.2 (([5, 5] : List Int)) 0 2).bind fun bt525 => ((ebbtidelaw08_line.f).bind fun bt530 => ((level_Levels.f bt530.1 bt530.2.1 bt530.2.2 (([5, 5] : List Int)) 2).bind fun bt538 => (if bt512.2.2 = 0 then (if bt525.2.2 = 0 then (if bt538.2 = 0 then (if bt512.2.1 = true then (if bt525.2.1 = true then (some false) else ((ebbtideref08_Same.f k bt512.1 (([(⟨0, false⟩ : S38), (⟨1, false⟩ : S38)] : List (S38)))).bind fun t545 => (if t545 = true then ((ebbtideref03_SameInts.f k bt538.1 (([2, 1, 0] : List Int))).bind fun t549 => (some t549)) else (some false)))) else (some false)) else (some false)) else (some false)) else (some false))))))) = some r := by first | (rw [hy509]; with_reducible exact H) | (have H2_ := (Option.bind_some _ _).symm.trans H; rw [hy509]; with_reducible exact H2_) | (have H2_ := (Option.bind_some _ _).symm.trans H; with_reducible exact H2_) | with_reducible exact H | (rw [hy509]; exact H) | exact H
 have Ny509 := Aside0.mk hy509
 clear hy509
 replace H := Option.bind_eq_some_iff.mp H
 obtain ⟨⟨t512, t515, t516⟩, A20, H⟩ := H
 replace H : ((ebbtidelaw08_line.f).bind fun bt517 => ((level_Path.f bt517.1 bt517.2.1 bt517.2.2 (([5, 5] : List Int)) 0 2).bind fun bt525 => ((ebbtidelaw08_line.f).bind fun bt530 => ((level_Levels.f bt530.1 bt530.2.1 bt530.2.2 (([5, 5] : List Int)) 2).bind fun bt538 => (if t516 = 0 then (if bt525.2.2 = 0 then (if bt538.2 = 0 then (if t515 = true then (if bt525.2.1 = true then (some false) else ((ebbtideref08_Same.f k t512 (([(⟨0, false⟩ : S38), (⟨1, false⟩ : S38)] : List (S38)))).bind fun t545 => (if t545 = true then ((ebbtideref03_SameInts.f k bt538.1 (([2, 1, 0] : List Int))).bind fun t549 => (some t549)) else (some false)))) else (some false)) else (some false)) else (some false)) else (some false)))))) = some r := H
 have A2 := Aside0.mk A20
 clear A20
 replace H := Option.bind_eq_some_iff.mp H
 obtain ⟨⟨t517, t518, t519⟩, A30, H⟩ := H
 replace H : ((level_Path.f t517 t518 t519 (([5, 5] : List Int)) 0 2).bind fun bt525 => ((ebbtidelaw08_line.f).bind fun bt530 => ((level_Levels.f bt530.1 bt530.2.1 bt530.2.2 (([5, 5] : List Int)) 2).bind fun bt538 => (if t516 = 0 then (if bt525.2.2 = 0 then (if bt538.2 = 0 then (if t515 = true then (if bt525.2.1 = true then (some false) else ((ebbtideref08_Same.f k t512 (([(⟨0, false⟩ : S38), (⟨1, false⟩ : S38)] : List (S38)))).bind fun t545 => (if t545 = true then ((ebbtideref03_SameInts.f k bt538.1 (([2, 1, 0] : List Int))).bind fun t549 => (some t549)) else (some false)))) else (some false)) else (some false)) else (some false)) else (some false))))) = some r := H
 have A3 := Aside0.mk A30
 clear A30
 obtain ⟨y522, hy522⟩ : ∃ y_ : List Int, y_ = (([5, 5] : List Int)) := ⟨_, rfl⟩
 replace H : ((level_Path.f t517 t518 t519 y522 0 2).bind fun bt525 => ((ebbtidelaw08_line.f).bind fun bt530 => ((level_Levels.f bt530.1 bt530.2.1 bt530.2.2 (([5, 5] : List Int)) 2).bind fun bt538 => (if t516 = 0 then (if bt525.2.2 = 0 then (if bt538.2 = 0 then (if t515 = true then (if bt525.2.1 = true then (some false) else ((ebbtideref08_Same.f k t512 (([(⟨0, false⟩ : S38), (⟨1, false⟩ : S38)] : List (S38)))).bind fun t545 => (if t545 = true then ((ebbtideref03_SameInts.f k bt538.1 (([2, 1, 0] : List Int))).bind fun t549 => (some t549)) else (some false)))) else (some false)) else (some false)) else (some false)) else (some false))))) = some r := by first | (rw [hy522]; with_reducible exact H) | (have H2_ := (Option.bind_some _ _).symm.trans H; rw [hy522]; with_reducible exact H2_) | (have H2_ := (Option.bind_some _ _).symm.trans H; with_reducible exact H2_) | with_reducible exact H | (rw [hy522]; exact H) | exact H
 have Ny522 := Aside0.mk hy522
 clear hy522
 replace H := Option.bind_eq_some_iff.mp H
 obtain ⟨⟨t525, t528, t529⟩, A40, H⟩ := H
 replace H : ((ebbtidelaw08_line.f).bind fun bt530 => ((level_Levels.f bt530.1 bt530.2.1 bt530.2.2 (([5, 5] : List Int)) 2).bind fun bt538 => (if t516 = 0 then (if t529 = 0 then (if bt538.2 = 0 then (if t515 = true then (if t528 = true then (some false) else ((ebbtideref08_Same.f k t512 (([(⟨0, false⟩ : S38), (⟨1, false⟩ : S38)] : List (S38)))).bind fun t545 => (if t545 = true then ((ebbtideref03_SameInts.f k bt538.1 (([2, 1, 0] : List Int))).bind fun t549 => (some t549)) else (some false)))) else (some false)) else (some false)) else (some false)) else (some false)))) = some r := H
 have A4 := Aside0.mk A40
 clear A40
 replace H := Option.bind_eq_some_iff.mp H
 obtain ⟨⟨t530, t531, t532⟩, A50, H⟩ := H
 replace H : ((level_Levels.f t530 t531 t532 (([5, 5] : List Int)) 2).bind fun bt538 => (if t516 = 0 then (if t529 = 0 then (if bt538.2 = 0 then (if t515 = true then (if t528 = true then (some false) else ((ebbtideref08_Same.f k t512 (([(⟨0, false⟩ : S38), (⟨1, false⟩ : S38)] : List (S38)))).bind fun t545 => (if t545 = true then ((ebbtideref03_SameInts.f k bt538.1 (([2, 1, 0] : List Int))).bind fun t549 => (some t549)) else (some false)))) else (some false)) else (some false)) else (some false)) else (some false))) = some r := H
 have A5 := Aside0.mk A50
 clear A50
 obtain ⟨y535, hy535⟩ : ∃ y_ : List Int, y_ = (([5, 5] : List Int)) := ⟨_, rfl⟩
 replace H : ((level_Levels.f t530 t531 t532 y535 2).bind fun bt538 => (if t516 = 0 then (if t529 = 0 then (if bt538.2 = 0 then (if t515 = true then (if t528 = true then (some false) else ((ebbtideref08_Same.f k t512 (([(⟨0, false⟩ : S38), (⟨1, false⟩ : S38)] : List (S38)))).bind fun t545 => (if t545 = true then ((ebbtideref03_SameInts.f k bt538.1 (([2, 1, 0] : List Int))).bind fun t549 => (some t549)) else (some false)))) else (some false)) else (some false)) else (some false)) else (some false))) = some r := by first | (rw [hy535]; with_reducible exact H) | (have H2_ := (Option.bind_some _ _).symm.trans H; rw [hy535]; with_reducible exact H2_) | (have H2_ := (Option.bind_some _ _).symm.trans H; with_reducible exact H2_) | with_reducible exact H | (rw [hy535]; exact H) | exact H
 have Ny535 := Aside0.mk hy535
 clear hy535
 replace H := Option.bind_eq_some_iff.mp H
 obtain ⟨⟨t538, t541⟩, A60, H⟩ := H
 replace H : (if t516 = 0 then (if t529 = 0 then (if t541 = 0 then (if t515 = true then (if t528 = true then (some false) else ((ebbtideref08_Same.f k t512 (([(⟨0, false⟩ : S38), (⟨1, false⟩ : S38)] : List (S38)))).bind fun t545 => (if t545 = true then ((ebbtideref03_SameInts.f k t538 (([2, 1, 0] : List Int))).bind fun t549 => (some t549)) else (some false)))) else (some false)) else (some false)) else (some false)) else (some false)) = some r := H
 have A6 := Aside0.mk A60
 clear A60
 by_cases c7 : t516 = 0
 rotate_left
 ·rw [if_neg c7] at H
  exact absurd (Option.some.inj H) (by rw [HRT.out]; decide)
 rw [if_pos c7] at H
 have c7b0 : (t516 == 0) = true := beq_iff_eq.mpr c7
 have c7b1 : (t516 != 0) = false := bne_eq_false_iff_eq.mpr c7
 clear c7
 by_cases c8 : t529 = 0
 rotate_left
 ·rw [if_neg c8] at H
  exact absurd (Option.some.inj H) (by rw [HRT.out]; decide)
 rw [if_pos c8] at H
 have c8b0 : (t529 == 0) = true := beq_iff_eq.mpr c8
 have c8b1 : (t529 != 0) = false := bne_eq_false_iff_eq.mpr c8
 clear c8
 by_cases c9 : t541 = 0
 rotate_left
 ·rw [if_neg c9] at H
  exact absurd (Option.some.inj H) (by rw [HRT.out]; decide)
 rw [if_pos c9] at H
 have c9b0 : (t541 == 0) = true := beq_iff_eq.mpr c9
 have c9b1 : (t541 != 0) = false := bne_eq_false_iff_eq.mpr c9
 clear c9
 by_cases c10 : t515 = true
 rotate_left
 ·replace c10 := Bool.eq_false_iff.mpr c10
  subst c10
  have H1 : (some false) = some r := by rw [if_neg (show ¬ (false = true) by decide)] at H; exact H
  exact absurd (Option.some.inj H1) (by rw [HRT.out]; decide)
 subst c10
 have H1 : (if t528 = true then (some false) else ((ebbtideref08_Same.f k t512 (([(⟨0, false⟩ : S38), (⟨1, false⟩ : S38)] : List (S38)))).bind fun t545 => (if t545 = true then ((ebbtideref03_SameInts.f k t538 (([2, 1, 0] : List Int))).bind fun t549 => (some t549)) else (some false)))) = some r := by rw [if_pos rfl] at H; exact H
 clear H
 have H := H1
 clear H1
 by_cases c11 : t528 = true
 ·subst c11
  have H1 : (some false) = some r := by rw [if_pos rfl] at H; exact H
  exact absurd (Option.some.inj H1) (by rw [HRT.out]; decide)
 replace c11 := Bool.eq_false_iff.mpr c11
 subst c11
 have H1 : ((ebbtideref08_Same.f k t512 (([(⟨0, false⟩ : S38), (⟨1, false⟩ : S38)] : List (S38)))).bind fun t545 => (if t545 = true then ((ebbtideref03_SameInts.f k t538 (([2, 1, 0] : List Int))).bind fun t549 => (some t549)) else (some false))) = some r := by rw [if_neg (show ¬ (false = true) by decide)] at H; exact H
 clear H
 have H := H1
 clear H1
 obtain ⟨y542, hy542⟩ : ∃ y_ : List (S38), y_ = (([(⟨0, false⟩ : S38), (⟨1, false⟩ : S38)] : List (S38))) := ⟨_, rfl⟩
 replace H : ((ebbtideref08_Same.f k t512 y542).bind fun t545 => (if t545 = true then ((ebbtideref03_SameInts.f k t538 (([2, 1, 0] : List Int))).bind fun t549 => (some t549)) else (some false))) = some r := by first | (rw [hy542]; with_reducible exact H) | (have H2_ := (Option.bind_some _ _).symm.trans H; rw [hy542]; with_reducible exact H2_) | (have H2_ := (Option.bind_some _ _).symm.trans H; with_reducible exact H2_) | with_reducible exact H | (rw [hy542]; exact H) | exact H
 have Ny542 := Aside0.mk hy542
 clear hy542
 replace H := Option.bind_eq_some_iff.mp H
 obtain ⟨t545, A300, H⟩ := H
 replace H : (if t545 = true then ((ebbtideref03_SameInts.f k t538 (([2, 1, 0] : List Int))).bind fun t549 => (some t549)) else (some false)) = some r := H
 have A30 := Aside0.mk A300
 clear A300
 by_cases c31 : t545 = true
 rotate_left
 ·replace c31 := Bool.eq_false_iff.mpr c31
  subst c31
  have H1 : (some false) = some r := by rw [if_neg (show ¬ (false = true) by decide)] at H; exact H
  exact absurd (Option.some.inj H1) (by rw [HRT.out]; decide)
 subst c31
 have H1 : ((ebbtideref03_SameInts.f k t538 (([2, 1, 0] : List Int))).bind fun t549 => (some t549)) = some r := by rw [if_pos rfl] at H; exact H
 clear H
 have H := H1
 clear H1
 obtain ⟨y546, hy546⟩ : ∃ y_ : List Int, y_ = (([2, 1, 0] : List Int)) := ⟨_, rfl⟩
 replace H : ((ebbtideref03_SameInts.f k t538 y546).bind fun t549 => (some t549)) = some r := by first | (rw [hy546]; with_reducible exact H) | (have H2_ := (Option.bind_some _ _).symm.trans H; rw [hy546]; with_reducible exact H2_) | (have H2_ := (Option.bind_some _ _).symm.trans H; with_reducible exact H2_) | with_reducible exact H | (rw [hy546]; exact H) | exact H
 have Ny546 := Aside0.mk hy546
 clear hy546
 replace H := Option.bind_eq_some_iff.mp H
 obtain ⟨t549, A320, H⟩ := H
 replace H : (some t549) = some r := H
 have A32 := Aside0.mk A320
 clear A320
 obtain rfl := Option.some.inj H
 go_enter Try.func55, Try.ntmps55
 go_wp2_with (first | ((with_reducible refine gate_callee (f := 110) rfl ?_); refine goesL_ (some 10) rfl rfl Try.func110 (by kernel_rfl) rfl #[] rfl (by (try simp only [List.map_toArray, List.map_cons, List.map_nil]); first | done | rfl | (simp only [List.length_drop, List.length_take]; rfl)) ?_; (with_reducible refine (ebbtidelaw08_line.calls  t504 t505 t506 _ A1.out).mono ?_); rintro e w33 ⟨v507, rfl, ho0, hb⟩; refine ⟨_, rfl, ?_⟩; have n0_ := Aside0.mk (Kd.R_lower ho0 (below_size (by repeat (first | (with_reducible first | exact HB.out | apply below_alloc | apply pw_below_drewN | apply below_drew1) | exact HB.out)))); have n1_ := Aside0.mk (below_step (by repeat (first | (with_reducible first | exact HB.out | apply below_alloc | apply pw_below_drewN | apply below_drew1) | exact HB.out)) hb); clear HB; have HO508 := n0_; have HB := n1_; clear n0_ n1_; (try clear hb); (try clear hb2); (try clear hk); (try clear hi); (try clear ho0)) | ((with_reducible refine gate_dst (N := 11) rfl ?_); (try (refine gate_guard (by rfl) ?_; dsimp only)); refine Kd.R_lit (Kd.int .i64) _ 3 ?hg (N := 11) ?hd (xs := ([0, 0] : List Int)) (inner := [.int .i64 0, .int .i64 0]) (ok := fun _ => True) (okp := fun _ => True) ?hr ?hp (fun _ hk => hk) trivial (Below.refl _ _) (Nat.le_refl _) (by simp) ?_; (case hd => rfl); (case hg => rfl); (case hr => first | (go_simp; done) | (go_simp; rfl)); (case hp => exact (Reps.one (show Kd.M (Kd.int .i64) _ _ _ 0 [.int .i64 0] from rfl) (Reps.one (show Kd.M (Kd.int .i64) _ _ _ 0 [.int .i64 0] from rfl) (Reps.none _ _)))); intro v510 w34 ho35 hb hg_ hnew_; clear hg_ hnew_; (first | rw [← Ny509.out] at ho35 | (simp only [Int.reduceToNat] at ho35; rw [← Ny509.out] at ho35)); have n0_ := Aside0.mk (Kd.R_below (by (with_reducible repeat (first | apply Kd.R_alloc | apply Kd.R_drewN | apply Kd.R_drew)); exact HO508.out) hb); have n1_ := Aside0.mk (Kd.R_lower ho35 (below_size (by repeat (first | (with_reducible first | exact HB.out | apply below_alloc | apply pw_below_drewN | apply below_drew1) | exact HB.out)))); have n2_ := Aside0.mk (below_step (by repeat (first | (with_reducible first | exact HB.out | apply below_alloc | apply pw_below_drewN | apply below_drew1) | exact HB.out)) hb); clear HO508; clear HB; have HO508 := n0_; have HO511 := n1_; have HB := n2_; clear n0_ n1_ n2_; clear hb ho35; obtain ⟨Ao36, co36, eo36⟩ := Kd.R_slice HO508.out; subst eo36; obtain ⟨Ao37, co37, eo37⟩ := Kd.R_slice HO511.out; subst eo37) | ((with_reducible refine gate_callee (f := 56) rfl ?_); refine goesL_ (some 12) rfl rfl Try.func56 (by kernel_rfl) rfl #[.agg #[.int .i64 t504, .bool t505, .slice Ao36 t506.length co36], .slice Ao37 y509.length co37, .int .i64 0, .int .i64 2] rfl (by (try simp only [List.map_toArray, List.map_cons, List.map_nil]); first | done | rfl | (simp only [List.length_drop, List.length_take]; rfl)) ?_; (with_reducible refine (level_Path.calls t504 t505 _ _ t506 _ _ y509 0 2 t512 true t516 _ ?side1 ?side2 ?side3 ?side4 A2.out).mono ?_); (case side1 => repeat (first | exact (Kd.R_reads' HO508.out).2.2 | (with_reducible refine Kd.C_alloc ?_ _) | (with_reducible refine Kd.C_drewN ?_ _) | (with_reducible refine Kd.C_drew ?_))); (case side2 => exact (Kd.R_reads' HO508.out).2.1); (case side3 => repeat (first | exact (Kd.R_reads' HO511.out).2.2 | (with_reducible refine Kd.C_alloc ?_ _) | (with_reducible refine Kd.C_drewN ?_ _) | (with_reducible refine Kd.C_drew ?_))); (case side4 => exact (Kd.R_reads' HO511.out).2.1); rintro e w38 ⟨v513, rfl, ho0, hb⟩; refine ⟨_, rfl, ?_⟩; have n0_ := Aside0.mk (Kd.R_below (by (with_reducible repeat (first | apply Kd.R_alloc | apply Kd.R_drewN | apply Kd.R_drew)); exact HO508.out) hb); have n1_ := Aside0.mk (Kd.R_below (by (with_reducible repeat (first | apply Kd.R_alloc | apply Kd.R_drewN | apply Kd.R_drew)); exact HO511.out) hb); have n2_ := Aside0.mk (Kd.R_lower ho0 (below_size (by repeat (first | (with_reducible first | exact HB.out | apply below_alloc | apply pw_below_drewN | apply below_drew1) | exact HB.out)))); have n3_ := Aside0.mk (below_step (by repeat (first | (with_reducible first | exact HB.out | apply below_alloc | apply pw_below_drewN | apply below_drew1) | exact HB.out)) hb); clear HO508; clear HO511; clear HB; have HO508 := n0_; have HO511 := n1_; have HO514 := n2_; have HB := n3_; clear n0_ n1_ n2_ n3_; (try clear hb); (try clear hb2); (try clear hk); (try clear hi); (try clear ho0)) | ((with_reducible refine gate_callee (f := 110) rfl ?_); refine goesL_ (some 17) rfl rfl Try.func110 (by kernel_rfl) rfl #[] rfl (by (try simp only [List.map_toArray, List.map_cons, List.map_nil]); first | done | rfl | (simp only [List.length_drop, List.length_take]; rfl)) ?_; (with_reducible refine (ebbtidelaw08_line.calls  t517 t518 t519 _ A3.out).mono ?_); rintro e w39 ⟨v520, rfl, ho0, hb⟩; refine ⟨_, rfl, ?_⟩; have n0_ := Aside0.mk (Kd.R_elder' (by (with_reducible repeat (first | apply Kd.R_alloc | apply Kd.R_drewN | apply Kd.R_drew)); exact HO508.out) (Kd.R_base ho0) hb); have n1_ := Aside0.mk (Kd.R_below (by (with_reducible repeat (first | apply Kd.R_alloc | apply Kd.R_drewN | apply Kd.R_drew)); exact HO511.out) hb); have n2_ := Aside0.mk (Kd.R_below (by (with_reducible repeat (first | apply Kd.R_alloc | apply Kd.R_drewN | apply Kd.R_drew)); exact HO514.out) hb); have n3_ := Aside0.mk (Kd.R_lower (Kd.R_new' ho0 (Kd.R_lt (by (with_reducible repeat (first | apply Kd.R_alloc | apply Kd.R_drewN | apply Kd.R_drew)); exact HO508.out))) (below_size (by repeat (first | (with_reducible first | exact HB.out | apply below_alloc | apply pw_below_drewN | apply below_drew1) | exact HB.out)))); have n4_ := Aside0.mk (below_step (by repeat (first | (with_reducible first | exact HB.out | apply below_alloc | apply pw_below_drewN | apply below_drew1) | exact HB.out)) hb); clear HO508; clear HO511; clear HO514; clear HB; have HO508 := n0_; have HO511 := n1_; have HO514 := n2_; have HO521 := n3_; have HB := n4_; clear n0_ n1_ n2_ n3_ n4_; (try clear hb); (try clear hb2); (try clear hk); (try clear hi); (try clear ho0)) | ((with_reducible refine gate_dst (N := 18) rfl ?_); (try (refine gate_guard (by rfl) ?_; dsimp only)); refine Kd.R_lit (Kd.int .i64) _ 3 ?hg (N := 18) ?hd (xs := ([5, 5] : List Int)) (inner := [.int .i64 5, .int .i64 5]) (ok := fun _ => True) (okp := fun _ => True) ?hr ?hp (fun _ hk => hk) trivial (Below.refl _ _) (Nat.le_refl _) (by simp) ?_; (case hd => rfl); (case hg => rfl); (case hr => first | (go_simp; done) | (go_simp; rfl)); (case hp => exact (Reps.one (show Kd.M (Kd.int .i64) _ _ _ 5 [.int .i64 5] from rfl) (Reps.one (show Kd.M (Kd.int .i64) _ _ _ 5 [.int .i64 5] from rfl) (Reps.none _ _)))); intro v523 w40 ho41 hb hg_ hnew_; clear hg_ hnew_; (first | rw [← Ny522.out] at ho41 | (simp only [Int.reduceToNat] at ho41; rw [← Ny522.out] at ho41)); have n0_ := Aside0.mk (Kd.R_below (by (with_reducible repeat (first | apply Kd.R_alloc | apply Kd.R_drewN | apply Kd.R_drew)); exact HO508.out) hb); have n1_ := Aside0.mk (Kd.R_elder' (by (with_reducible repeat (first | apply Kd.R_alloc | apply Kd.R_drewN | apply Kd.R_drew)); exact HO511.out) (Kd.R_base ho41) hb); have n2_ := Aside0.mk (Kd.R_below (by (with_reducible repeat (first | apply Kd.R_alloc | apply Kd.R_drewN | apply Kd.R_drew)); exact HO514.out) hb); have n3_ := Aside0.mk (Kd.R_below (by (with_reducible repeat (first | apply Kd.R_alloc | apply Kd.R_drewN | apply Kd.R_drew)); exact HO521.out) hb); have n4_ := Aside0.mk (Kd.R_lower (Kd.R_new' ho41 (Kd.R_lt (by (with_reducible repeat (first | apply Kd.R_alloc | apply Kd.R_drewN | apply Kd.R_drew)); exact HO511.out))) (below_size (by repeat (first | (with_reducible first | exact HB.out | apply below_alloc | apply pw_below_drewN | apply below_drew1) | exact HB.out)))); have n5_ := Aside0.mk (below_step (by repeat (first | (with_reducible first | exact HB.out | apply below_alloc | apply pw_below_drewN | apply below_drew1) | exact HB.out)) hb); clear HO508; clear HO511; clear HO514; clear HO521; clear HB; have HO508 := n0_; have HO511 := n1_; have HO514 := n2_; have HO521 := n3_; have HO524 := n4_; have HB := n5_; clear n0_ n1_ n2_ n3_ n4_ n5_; clear hb ho41; obtain ⟨Ao42, co42, eo42⟩ := Kd.R_slice HO521.out; subst eo42; obtain ⟨Ao43, co43, eo43⟩ := Kd.R_slice HO524.out; subst eo43) | ((with_reducible refine gate_callee (f := 56) rfl ?_); refine goesL_ (some 19) rfl rfl Try.func56 (by kernel_rfl) rfl #[.agg #[.int .i64 t517, .bool t518, .slice Ao42 t519.length co42], .slice Ao43 y522.length co43, .int .i64 0, .int .i64 2] rfl (by (try simp only [List.map_toArray, List.map_cons, List.map_nil]); first | done | rfl | (simp only [List.length_drop, List.length_take]; rfl)) ?_; (with_reducible refine (level_Path.calls t517 t518 _ _ t519 _ _ y522 0 2 t525 false t529 _ ?side1 ?side2 ?side3 ?side4 A4.out).mono ?_); (case side1 => repeat (first | exact (Kd.R_reads' HO521.out).2.2 | (with_reducible refine Kd.C_alloc ?_ _) | (with_reducible refine Kd.C_drewN ?_ _) | (with_reducible refine Kd.C_drew ?_))); (case side2 => exact (Kd.R_reads' HO521.out).2.1); (case side3 => repeat (first | exact (Kd.R_reads' HO524.out).2.2 | (with_reducible refine Kd.C_alloc ?_ _) | (with_reducible refine Kd.C_drewN ?_ _) | (with_reducible refine Kd.C_drew ?_))); (case side4 => exact (Kd.R_reads' HO524.out).2.1); rintro e w44 ⟨v526, rfl, ho0, hb⟩; refine ⟨_, rfl, ?_⟩; have n0_ := Aside0.mk (Kd.R_below (by (with_reducible repeat (first | apply Kd.R_alloc | apply Kd.R_drewN | apply Kd.R_drew)); exact HO508.out) hb); have n1_ := Aside0.mk (Kd.R_below (by (with_reducible repeat (first | apply Kd.R_alloc | apply Kd.R_drewN | apply Kd.R_drew)); exact HO511.out) hb); have n2_ := Aside0.mk (Kd.R_elder' (by (with_reducible repeat (first | apply Kd.R_alloc | apply Kd.R_drewN | apply Kd.R_drew)); exact HO514.out) (Kd.R_base ho0) hb); have n3_ := Aside0.mk (Kd.R_below (by (with_reducible repeat (first | apply Kd.R_alloc | apply Kd.R_drewN | apply Kd.R_drew)); exact HO521.out) hb); have n4_ := Aside0.mk (Kd.R_below (by (with_reducible repeat (first | apply Kd.R_alloc | apply Kd.R_drewN | apply Kd.R_drew)); exact HO524.out) hb); have n5_ := Aside0.mk (Kd.R_lower (Kd.R_new' ho0 (Kd.R_lt (by (with_reducible repeat (first | apply Kd.R_alloc | apply Kd.R_drewN | apply Kd.R_drew)); exact HO514.out))) (below_size (by repeat (first | (with_reducible first | exact HB.out | apply below_alloc | apply pw_below_drewN | apply below_drew1) | exact HB.out)))); have n6_ := Aside0.mk (below_step (by repeat (first | (with_reducible first | exact HB.out | apply below_alloc | apply pw_below_drewN | apply below_drew1) | exact HB.out)) hb); clear HO508; clear HO511; clear HO514; clear HO521; clear HO524; clear HB; have HO508 := n0_; have HO511 := n1_; have HO514 := n2_; have HO521 := n3_; have HO524 := n4_; have HO527 := n5_; have HB := n6_; clear n0_ n1_ n2_ n3_ n4_ n5_ n6_; (try clear hb); (try clear hb2); (try clear hk); (try clear hi); (try clear ho0)) | ((with_reducible refine gate_callee (f := 110) rfl ?_); refine goesL_ (some 24) rfl rfl Try.func110 (by kernel_rfl) rfl #[] rfl (by (try simp only [List.map_toArray, List.map_cons, List.map_nil]); first | done | rfl | (simp only [List.length_drop, List.length_take]; rfl)) ?_; (with_reducible refine (ebbtidelaw08_line.calls  t530 t531 t532 _ A5.out).mono ?_); rintro e w45 ⟨v533, rfl, ho0, hb⟩; refine ⟨_, rfl, ?_⟩; have n0_ := Aside0.mk (Kd.R_elder' (by (with_reducible repeat (first | apply Kd.R_alloc | apply Kd.R_drewN | apply Kd.R_drew)); exact HO508.out) (Kd.R_base ho0) hb); have n1_ := Aside0.mk (Kd.R_below (by (with_reducible repeat (first | apply Kd.R_alloc | apply Kd.R_drewN | apply Kd.R_drew)); exact HO511.out) hb); have n2_ := Aside0.mk (Kd.R_below (by (with_reducible repeat (first | apply Kd.R_alloc | apply Kd.R_drewN | apply Kd.R_drew)); exact HO514.out) hb); have n3_ := Aside0.mk (Kd.R_elder' (by (with_reducible repeat (first | apply Kd.R_alloc | apply Kd.R_drewN | apply Kd.R_drew)); exact HO521.out) (Kd.R_base ho0) hb); have n4_ := Aside0.mk (Kd.R_below (by (with_reducible repeat (first | apply Kd.R_alloc | apply Kd.R_drewN | apply Kd.R_drew)); exact HO524.out) hb); have n5_ := Aside0.mk (Kd.R_below (by (with_reducible repeat (first | apply Kd.R_alloc | apply Kd.R_drewN | apply Kd.R_drew)); exact HO527.out) hb); have n6_ := Aside0.mk (Kd.R_lower (Kd.R_new' (Kd.R_new' ho0 (Kd.R_lt (by (with_reducible repeat (first | apply Kd.R_alloc | apply Kd.R_drewN | apply Kd.R_drew)); exact HO508.out))) (Kd.R_lt (by (with_reducible repeat (first | apply Kd.R_alloc | apply Kd.R_drewN | apply Kd.R_drew)); exact HO521.out))) (below_size (by repeat (first | (with_reducible first | exact HB.out | apply below_alloc | apply pw_below_drewN | apply below_drew1) | exact HB.out)))); have n7_ := Aside0.mk (below_step (by repeat (first | (with_reducible first | exact HB.out | apply below_alloc | apply pw_below_drewN | apply below_drew1) | exact HB.out)) hb); clear HO508; clear HO511; clear HO514; clear HO521; clear HO524; clear HO527; clear HB; have HO508 := n0_; have HO511 := n1_; have HO514 := n2_; have HO521 := n3_; have HO524 := n4_; have HO527 := n5_; have HO534 := n6_; have HB := n7_; clear n0_ n1_ n2_ n3_ n4_ n5_ n6_ n7_; (try clear hb); (try clear hb2); (try clear hk); (try clear hi); (try clear ho0)) | ((with_reducible refine gate_dst (N := 25) rfl ?_); (try (refine gate_guard (by rfl) ?_; dsimp only)); refine Kd.R_lit (Kd.int .i64) _ 3 ?hg (N := 25) ?hd (xs := ([5, 5] : List Int)) (inner := [.int .i64 5, .int .i64 5]) (ok := fun _ => True) (okp := fun _ => True) ?hr ?hp (fun _ hk => hk) trivial (Below.refl _ _) (Nat.le_refl _) (by simp) ?_; (case hd => rfl); (case hg => rfl); (case hr => first | (go_simp; done) | (go_simp; rfl)); (case hp => exact (Reps.one (show Kd.M (Kd.int .i64) _ _ _ 5 [.int .i64 5] from rfl) (Reps.one (show Kd.M (Kd.int .i64) _ _ _ 5 [.int .i64 5] from rfl) (Reps.none _ _)))); intro v536 w46 ho47 hb hg_ hnew_; clear hg_ hnew_; (first | rw [← Ny535.out] at ho47 | (simp only [Int.reduceToNat] at ho47; rw [← Ny535.out] at ho47)); have n0_ := Aside0.mk (Kd.R_below (by (with_reducible repeat (first | apply Kd.R_alloc | apply Kd.R_drewN | apply Kd.R_drew)); exact HO508.out) hb); have n1_ := Aside0.mk (Kd.R_elder' (by (with_reducible repeat (first | apply Kd.R_alloc | apply Kd.R_drewN | apply Kd.R_drew)); exact HO511.out) (Kd.R_base ho47) hb); have n2_ := Aside0.mk (Kd.R_below (by (with_reducible repeat (first | apply Kd.R_alloc | apply Kd.R_drewN | apply Kd.R_drew)); exact HO514.out) hb); have n3_ := Aside0.mk (Kd.R_below (by (with_reducible repeat (first | apply Kd.R_alloc | apply Kd.R_drewN | apply Kd.R_drew)); exact HO521.out) hb); have n4_ := Aside0.mk (Kd.R_elder' (by (with_reducible repeat (first | apply Kd.R_alloc | apply Kd.R_drewN | apply Kd.R_drew)); exact HO524.out) (Kd.R_base ho47) hb); have n5_ := Aside0.mk (Kd.R_below (by (with_reducible repeat (first | apply Kd.R_alloc | apply Kd.R_drewN | apply Kd.R_drew)); exact HO527.out) hb); have n6_ := Aside0.mk (Kd.R_below (by (with_reducible repeat (first | apply Kd.R_alloc | apply Kd.R_drewN | apply Kd.R_drew)); exact HO534.out) hb); have n7_ := Aside0.mk (Kd.R_lower (Kd.R_new' (Kd.R_new' ho47 (Kd.R_lt (by (with_reducible repeat (first | apply Kd.R_alloc | apply Kd.R_drewN | apply Kd.R_drew)); exact HO511.out))) (Kd.R_lt (by (with_reducible repeat (first | apply Kd.R_alloc | apply Kd.R_drewN | apply Kd.R_drew)); exact HO524.out))) (below_size (by repeat (first | (with_reducible first | exact HB.out | apply below_alloc | apply pw_below_drewN | apply below_drew1) | exact HB.out)))); have n8_ := Aside0.mk (below_step (by repeat (first | (with_reducible first | exact HB.out | apply below_alloc | apply pw_below_drewN | apply below_drew1) | exact HB.out)) hb); clear HO508; clear HO511; clear HO514; clear HO521; clear HO524; clear HO527; clear HO534; clear HB; have HO508 := n0_; have HO511 := n1_; have HO514 := n2_; have HO521 := n3_; have HO524 := n4_; have HO527 := n5_; have HO534 := n6_; have HO537 := n7_; have HB := n8_; clear n0_ n1_ n2_ n3_ n4_ n5_ n6_ n7_ n8_; clear hb ho47; obtain ⟨Ao48, co48, eo48⟩ := Kd.R_slice HO534.out; subst eo48; obtain ⟨Ao49, co49, eo49⟩ := Kd.R_slice HO537.out; subst eo49) | ((with_reducible refine gate_callee (f := 53) rfl ?_); refine goesL_ (some 26) rfl rfl Try.func53 (by kernel_rfl) rfl #[.agg #[.int .i64 t530, .bool t531, .slice Ao48 t532.length co48], .slice Ao49 y535.length co49, .int .i64 2] rfl (by (try simp only [List.map_toArray, List.map_cons, List.map_nil]); first | done | rfl | (simp only [List.length_drop, List.length_take]; rfl)) ?_; (with_reducible refine (level_Levels.calls t530 t531 _ _ t532 _ _ y535 2 t538 t541 _ ?side1 ?side2 ?side3 ?side4 A6.out).mono ?_); (case side1 => repeat (first | exact (Kd.R_reads' HO534.out).2.2 | (with_reducible refine Kd.C_alloc ?_ _) | (with_reducible refine Kd.C_drewN ?_ _) | (with_reducible refine Kd.C_drew ?_))); (case side2 => exact (Kd.R_reads' HO534.out).2.1); (case side3 => repeat (first | exact (Kd.R_reads' HO537.out).2.2 | (with_reducible refine Kd.C_alloc ?_ _) | (with_reducible refine Kd.C_drewN ?_ _) | (with_reducible refine Kd.C_drew ?_))); (case side4 => exact (Kd.R_reads' HO537.out).2.1); rintro e w50 ⟨v539, rfl, ho0, hb⟩; refine ⟨_, rfl, ?_⟩; have n0_ := Aside0.mk (Kd.R_below (by (with_reducible repeat (first | apply Kd.R_alloc | apply Kd.R_drewN | apply Kd.R_drew)); exact HO508.out) hb); have n1_ := Aside0.mk (Kd.R_elder' (by (with_reducible repeat (first | apply Kd.R_alloc | apply Kd.R_drewN | apply Kd.R_drew)); exact HO511.out) (Kd.R_base ho0) hb); have n2_ := Aside0.mk (Kd.R_below (by (with_reducible repeat (first | apply Kd.R_alloc | apply Kd.R_drewN | apply Kd.R_drew)); exact HO514.out) hb); have n3_ := Aside0.mk (Kd.R_below (by (with_reducible repeat (first | apply Kd.R_alloc | apply Kd.R_drewN | apply Kd.R_drew)); exact HO521.out) hb); have n4_ := Aside0.mk (Kd.R_elder' (by (with_reducible repeat (first | apply Kd.R_alloc | apply Kd.R_drewN | apply Kd.R_drew)); exact HO524.out) (Kd.R_base ho0) hb); have n5_ := Aside0.mk (Kd.R_below (by (with_reducible repeat (first | apply Kd.R_alloc | apply Kd.R_drewN | apply Kd.R_drew)); exact HO527.out) hb); have n6_ := Aside0.mk (Kd.R_below (by (with_reducible repeat (first | apply Kd.R_alloc | apply Kd.R_drewN | apply Kd.R_drew)); exact HO534.out) hb); have n7_ := Aside0.mk (Kd.R_elder' (by (with_reducible repeat (first | apply Kd.R_alloc | apply Kd.R_drewN | apply Kd.R_drew)); exact HO537.out) (Kd.R_base ho0) hb); have n8_ := Aside0.mk (Kd.R_lower (Kd.R_new' (Kd.R_new' (Kd.R_new' ho0 (Kd.R_lt (by (with_reducible repeat (first | apply Kd.R_alloc | apply Kd.R_drewN | apply Kd.R_drew)); exact HO511.out))) (Kd.R_lt (by (with_reducible repeat (first | apply Kd.R_alloc | apply Kd.R_drewN | apply Kd.R_drew)); exact HO524.out))) (Kd.R_lt (by (with_reducible repeat (first | apply Kd.R_alloc | apply Kd.R_drewN | apply Kd.R_drew)); exact HO537.out))) (below_size (by repeat (first | (with_reducible first | exact HB.out | apply below_alloc | apply pw_below_drewN | apply below_drew1) | exact HB.out)))); have n9_ := Aside0.mk (below_step (by repeat (first | (with_reducible first | exact HB.out | apply below_alloc | apply pw_below_drewN | apply below_drew1) | exact HB.out)) hb); clear HO508; clear HO511; clear HO514; clear HO521; clear HO524; clear HO527; clear HO534; clear HO537; clear HB; have HO508 := n0_; have HO511 := n1_; have HO514 := n2_; have HO521 := n3_; have HO524 := n4_; have HO527 := n5_; have HO534 := n6_; have HO537 := n7_; have HO540 := n8_; have HB := n9_; clear n0_ n1_ n2_ n3_ n4_ n5_ n6_ n7_ n8_ n9_; (try clear hb); (try clear hb2); (try clear hk); (try clear hi); (try clear ho0)) | ((with_reducible refine gate_dst (N := 50) rfl ?_); (try (refine gate_guard (by rfl) ?_; dsimp only)); refine Kd.R_lit k38 _ 38 ?hg (N := 50) ?hd (xs := ([(⟨0, false⟩ : S38), (⟨1, false⟩ : S38)] : List (S38))) (inner := [.int .i64 0, .bool false, .int .i64 1, .bool false]) (ok := fun _ => True) (okp := fun _ => True) ?hr ?hp (fun _ hk => hk) trivial (Below.refl _ _) (Nat.le_refl _) (by simp) ?_; (case hd => rfl); (case hg => rfl); (case hr => first | (go_simp; done) | (go_simp; rfl)); (case hp => exact (Reps.c2 (show Kd.M k38 _ _ _ (⟨0, false⟩ : S38) [.int .i64 0, .bool false] from (k38_mkM _ _ _ (⟨0, false⟩ : S38) )) (Reps.c2 (show Kd.M k38 _ _ _ (⟨1, false⟩ : S38) [.int .i64 1, .bool false] from (k38_mkM _ _ _ (⟨1, false⟩ : S38) )) (Reps.none _ _)))); intro v543 w51 ho52 hb hg_ hnew_; clear hg_ hnew_; (first | rw [← Ny542.out] at ho52 | (simp only [Int.reduceToNat] at ho52; rw [← Ny542.out] at ho52)); have n0_ := Aside0.mk (Kd.R_below (by (with_reducible repeat (first | apply Kd.R_alloc | apply Kd.R_drewN | apply Kd.R_drew)); exact HO508.out) hb); have n1_ := Aside0.mk (Kd.R_below (by (with_reducible repeat (first | apply Kd.R_alloc | apply Kd.R_drewN | apply Kd.R_drew)); exact HO511.out) hb); have n2_ := Aside0.mk (Kd.R_elder' (by (with_reducible repeat (first | apply Kd.R_alloc | apply Kd.R_drewN | apply Kd.R_drew)); exact HO514.out) (Kd.R_base ho52) hb); have n3_ := Aside0.mk (Kd.R_below (by (with_reducible repeat (first | apply Kd.R_alloc | apply Kd.R_drewN | apply Kd.R_drew)); exact HO521.out) hb); have n4_ := Aside0.mk (Kd.R_below (by (with_reducible repeat (first | apply Kd.R_alloc | apply Kd.R_drewN | apply Kd.R_drew)); exact HO524.out) hb); have n5_ := Aside0.mk (Kd.R_elder' (by (with_reducible repeat (first | apply Kd.R_alloc | apply Kd.R_drewN | apply Kd.R_drew)); exact HO527.out) (Kd.R_base ho52) hb); have n6_ := Aside0.mk (Kd.R_below (by (with_reducible repeat (first | apply Kd.R_alloc | apply Kd.R_drewN | apply Kd.R_drew)); exact HO534.out) hb); have n7_ := Aside0.mk (Kd.R_below (by (with_reducible repeat (first | apply Kd.R_alloc | apply Kd.R_drewN | apply Kd.R_drew)); exact HO537.out) hb); have n8_ := Aside0.mk (Kd.R_below (by (with_reducible repeat (first | apply Kd.R_alloc | apply Kd.R_drewN | apply Kd.R_drew)); exact HO540.out) hb); have n9_ := Aside0.mk (Kd.R_lower (Kd.R_new' (Kd.R_new' ho52 (Kd.R_lt (by (with_reducible repeat (first | apply Kd.R_alloc | apply Kd.R_drewN | apply Kd.R_drew)); exact HO514.out))) (Kd.R_lt (by (with_reducible repeat (first | apply Kd.R_alloc | apply Kd.R_drewN | apply Kd.R_drew)); exact HO527.out))) (below_size (by repeat (first | (with_reducible first | exact HB.out | apply below_alloc | apply pw_below_drewN | apply below_drew1) | exact HB.out)))); have n10_ := Aside0.mk (below_step (by repeat (first | (with_reducible first | exact HB.out | apply below_alloc | apply pw_below_drewN | apply below_drew1) | exact HB.out)) hb); clear HO508; clear HO511; clear HO514; clear HO521; clear HO524; clear HO527; clear HO534; clear HO537; clear HO540; clear HB; have HO508 := n0_; have HO511 := n1_; have HO514 := n2_; have HO521 := n3_; have HO524 := n4_; have HO527 := n5_; have HO534 := n6_; have HO537 := n7_; have HO540 := n8_; have HO544 := n9_; have HB := n10_; clear n0_ n1_ n2_ n3_ n4_ n5_ n6_ n7_ n8_ n9_ n10_; clear hb ho52; obtain ⟨Ao53, co53, eo53⟩ := Kd.R_slice HO514.out; subst eo53; obtain ⟨Ao54, co54, eo54⟩ := Kd.R_slice HO544.out; subst eo54) | (go_at_call 58; (with_reducible refine (ebbtideref08_Same.calls k _ _ t512 _ _ y542 true _ ?side1 ?side2 ?side3 ?side4 A30.out).mono ?_); (case side1 => repeat (first | exact (Kd.R_reads' HO514.out).2.2 | (with_reducible refine Kd.C_alloc ?_ _) | (with_reducible refine Kd.C_drewN ?_ _) | (with_reducible refine Kd.C_drew ?_))); (case side2 => exact (Kd.R_reads' HO514.out).2.1); (case side3 => repeat (first | exact (Kd.R_reads' HO544.out).2.2 | (with_reducible refine Kd.C_alloc ?_ _) | (with_reducible refine Kd.C_drewN ?_ _) | (with_reducible refine Kd.C_drew ?_))); (case side4 => exact (Kd.R_reads' HO544.out).2.1); rintro e w' ⟨rfl, ⟨nd, rfl⟩⟩) | ((with_reducible refine gate_dst (N := 55) rfl ?_); (try (refine gate_guard (by rfl) ?_; dsimp only)); refine Kd.R_lit (Kd.int .i64) _ 3 ?hg (N := 55) ?hd (xs := ([2, 1, 0] : List Int)) (inner := [.int .i64 2, .int .i64 1, .int .i64 0]) (ok := fun _ => True) (okp := fun _ => True) ?hr ?hp (fun _ hk => hk) trivial (Below.refl _ _) (Nat.le_refl _) (by simp) ?_; (case hd => rfl); (case hg => rfl); (case hr => first | (go_simp; done) | (go_simp; rfl)); (case hp => exact (Reps.one (show Kd.M (Kd.int .i64) _ _ _ 2 [.int .i64 2] from rfl) (Reps.one (show Kd.M (Kd.int .i64) _ _ _ 1 [.int .i64 1] from rfl) (Reps.one (show Kd.M (Kd.int .i64) _ _ _ 0 [.int .i64 0] from rfl) (Reps.none _ _))))); intro v547 w55 ho56 hb hg_ hnew_; clear hg_ hnew_; (first | rw [← Ny546.out] at ho56 | (simp only [Int.reduceToNat] at ho56; rw [← Ny546.out] at ho56)); have n0_ := Aside0.mk (Kd.R_below (by (with_reducible repeat (first | apply Kd.R_alloc | apply Kd.R_drewN | apply Kd.R_drew)); exact HO508.out) hb); have n1_ := Aside0.mk (Kd.R_elder' (by (with_reducible repeat (first | apply Kd.R_alloc | apply Kd.R_drewN | apply Kd.R_drew)); exact HO511.out) (Kd.R_base ho56) hb); have n2_ := Aside0.mk (Kd.R_below (by (with_reducible repeat (first | apply Kd.R_alloc | apply Kd.R_drewN | apply Kd.R_drew)); exact HO514.out) hb); have n3_ := Aside0.mk (Kd.R_below (by (with_reducible repeat (first | apply Kd.R_alloc | apply Kd.R_drewN | apply Kd.R_drew)); exact HO521.out) hb); have n4_ := Aside0.mk (Kd.R_elder' (by (with_reducible repeat (first | apply Kd.R_alloc | apply Kd.R_drewN | apply Kd.R_drew)); exact HO524.out) (Kd.R_base ho56) hb); have n5_ := Aside0.mk (Kd.R_below (by (with_reducible repeat (first | apply Kd.R_alloc | apply Kd.R_drewN | apply Kd.R_drew)); exact HO527.out) hb); have n6_ := Aside0.mk (Kd.R_below (by (with_reducible repeat (first | apply Kd.R_alloc | apply Kd.R_drewN | apply Kd.R_drew)); exact HO534.out) hb); have n7_ := Aside0.mk (Kd.R_elder' (by (with_reducible repeat (first | apply Kd.R_alloc | apply Kd.R_drewN | apply Kd.R_drew)); exact HO537.out) (Kd.R_base ho56) hb); have n8_ := Aside0.mk (Kd.R_elder' (by (with_reducible repeat (first | apply Kd.R_alloc | apply Kd.R_drewN | apply Kd.R_drew)); exact HO540.out) (Kd.R_base ho56) hb); have n9_ := Aside0.mk (Kd.R_below (by (with_reducible repeat (first | apply Kd.R_alloc | apply Kd.R_drewN | apply Kd.R_drew)); exact HO544.out) hb); have n10_ := Aside0.mk (Kd.R_lower (Kd.R_new' (Kd.R_new' (Kd.R_new' (Kd.R_new' ho56 (Kd.R_lt (by (with_reducible repeat (first | apply Kd.R_alloc | apply Kd.R_drewN | apply Kd.R_drew)); exact HO511.out))) (Kd.R_lt (by (with_reducible repeat (first | apply Kd.R_alloc | apply Kd.R_drewN | apply Kd.R_drew)); exact HO524.out))) (Kd.R_lt (by (with_reducible repeat (first | apply Kd.R_alloc | apply Kd.R_drewN | apply Kd.R_drew)); exact HO537.out))) (Kd.R_lt (by (with_reducible repeat (first | apply Kd.R_alloc | apply Kd.R_drewN | apply Kd.R_drew)); exact HO540.out))) (below_size (by repeat (first | (with_reducible first | exact HB.out | apply below_alloc | apply pw_below_drewN | apply below_drew1) | exact HB.out)))); have n11_ := Aside0.mk (below_step (by repeat (first | (with_reducible first | exact HB.out | apply below_alloc | apply pw_below_drewN | apply below_drew1) | exact HB.out)) hb); clear HO508; clear HO511; clear HO514; clear HO521; clear HO524; clear HO527; clear HO534; clear HO537; clear HO540; clear HO544; clear HB; have HO508 := n0_; have HO511 := n1_; have HO514 := n2_; have HO521 := n3_; have HO524 := n4_; have HO527 := n5_; have HO534 := n6_; have HO537 := n7_; have HO540 := n8_; have HO544 := n9_; have HO548 := n10_; have HB := n11_; clear n0_ n1_ n2_ n3_ n4_ n5_ n6_ n7_ n8_ n9_ n10_ n11_; clear hb ho56; obtain ⟨Ao57, co57, eo57⟩ := Kd.R_slice HO540.out; subst eo57; obtain ⟨Ao58, co58, eo58⟩ := Kd.R_slice HO548.out; subst eo58) | (go_at_call 41; (with_reducible refine (ebbtideref03_SameInts.calls k _ _ t538 _ _ y546 t549 _ ?side1 ?side2 ?side3 ?side4 A32.out).mono ?_); (case side1 => repeat (first | exact (Kd.R_reads' HO540.out).2.2 | (with_reducible refine Kd.C_alloc ?_ _) | (with_reducible refine Kd.C_drewN ?_ _) | (with_reducible refine Kd.C_drew ?_))); (case side2 => exact (Kd.R_reads' HO540.out).2.1); (case side3 => repeat (first | exact (Kd.R_reads' HO548.out).2.2 | (with_reducible refine Kd.C_alloc ?_ _) | (with_reducible refine Kd.C_drewN ?_ _) | (with_reducible refine Kd.C_drew ?_))); (case side4 => exact (Kd.R_reads' HO548.out).2.1); rintro e w' ⟨rfl, ⟨nd, rfl⟩⟩))
 go_ret
 exact ⟨by first | rfl | (simp [errW_none, errW_some] <;> rfl) | (simp [*, errW_none, errW_some] <;> rfl), by repeat (first | (with_reducible first | exact HB.out | apply below_alloc | apply pw_below_drewN | apply below_drew1) | exact HB.out)⟩
end Go.Proofs.Ytkcpanpdipmmmaa.P
namespace Go.Proofs.Ytkcpanpdipmmmaa.P
open Go.RowKit Go.Proofs.YtkcpanpdipmmmaaW.PrintWords Go.Proofs.YtkcpanpdipmmmaaW.PrintLast Go.Proofs.YtkcpanpdipmmmaaW.PrintMore
attribute [local go_sem] max2_int min2_int max_two min_two max_three min_three max_four min_four
def ebbtideref07_Check.l0 : Nat → Int → Int → List Int → Int → Int → Bool → List (S74) → Option (Int × Int)
 | 0, _, _, _, _, _, _, _ => none
 | k + 1, x1, x2, x11, x13, x654000, x654001, x654002 => if x13 < x654000 then (if x13 = x1 then (ebbtideref07_Check.l0 k x1 x2 x11 (wrap64 (x13 + 1)) x654000 x654001 x654002) else (if x13 = x2 then (ebbtideref07_Check.l0 k x1 x2 x11 (wrap64 (x13 + 1)) x654000 x654001 x654002) else (if 0 ≤ x13 then (if x13 < (x11.length : Int) then (if (rd x11 x13) = 0 then (ebbtideref07_Check.l0 k x1 x2 x11 (wrap64 (x13 + 1)) x654000 x654001 x654002) else (some (0, 71))) else (none)) else (none)))) else (if 0 ≤ x1 then (if x1 < (x11.length : Int) then (some (rd x11 x1, 0)) else (none)) else (none))
def ebbtideref07_Check.f (k : Nat) (a0_0 : Int) (a0_1 : Bool) (l0_2 : List (S74)) (a1 : Int) (a2 : Int) (l3 : List Int) : Option (Int × Int) := (ebbtideref07_Ends.f k a0_0 a0_1 l0_2 a1 a2).bind fun t654 => (if t654 = 0 then ((ebbtideref07_Balance.f k a0_0 a0_1 l0_2 l3).bind fun bt655 => (if bt655.2 = 0 then (ebbtideref07_Check.l0 k a1 a2 bt655.1 0 a0_0 a0_1 l0_2) else (some (0, bt655.2)))) else (some (0, t654)))
set_option maxHeartbeats 8000000 in
set_option maxRecDepth 100000 in
theorem ebbtideref07_Check.calls (k : Nat) (a0_0 : Int) (a0_1 : Bool) (A0_2 : Option Addr) (c0_2 : Nat) (l0_2 : List (S74)) (a1 : Int) (a2 : Int) (A3 : Option Addr) (c3 : Nat) (l3 : List Int) (r1 : Int) (r2 : Int) (w : World) (hr0_2 : Kd.C k74 w A0_2 l0_2.length l0_2) (hc0_2 : l0_2.length ≤ c0_2) (hr3 : Kd.C (Kd.int .i64) w A3 l3.length l3) (hc3 : l3.length ≤ c3) (h : ebbtideref07_Check.f k a0_0 a0_1 l0_2 a1 a2 l3 = some (r1, r2)) :
  Calls Try.prog 60 #[.agg #[.int .i64 a0_0, .bool a0_1, .slice A0_2 l0_2.length c0_2], .int .i64 a1, .int .i64 a2, .slice A3 l3.length c3] w fun e w' => e = .returned (.tuple #[.int .i64 r1, .int .i64 r2]) ∧ Below w.heap.size w w' := by
 have hu24 := Try.underlying24
 have HR0_2 := Aside0.mk hr0_2
 have HC0_2 := Aside0.mk hc0_2
 clear hr0_2 hc0_2
 have HR3 := Aside0.mk hr3
 have HC3 := Aside0.mk hc3
 clear hr3 hc3
 have HB := Aside0.mk (Below.refl w.heap.size w)
 have H : ((ebbtideref07_Ends.f k a0_0 a0_1 l0_2 a1 a2).bind fun t654 => (if t654 = 0 then ((ebbtideref07_Balance.f k a0_0 a0_1 l0_2 l3).bind fun bt655 => (if bt655.2 = 0 then (ebbtideref07_Check.l0 k a1 a2 bt655.1 0 a0_0 a0_1 l0_2) else (some (0, bt655.2)))) else (some (0, t654)))) = some (r1, r2) := h
 clear h
 replace H := Option.bind_eq_some_iff.mp H
 obtain ⟨t654, A50, H⟩ := H
 replace H : (if t654 = 0 then ((ebbtideref07_Balance.f k a0_0 a0_1 l0_2 l3).bind fun bt655 => (if bt655.2 = 0 then (ebbtideref07_Check.l0 k a1 a2 bt655.1 0 a0_0 a0_1 l0_2) else (some (0, bt655.2)))) else (some (0, t654))) = some (r1, r2) := H
 have A5 := Aside0.mk A50
 clear A50
 by_cases c6 : t654 = 0
 rotate_left
 ·rw [if_neg c6] at H
  have c6b0 : (t654 == 0) = false := beq_eq_false_iff_ne.mpr c6
  have c6b1 : (t654 != 0) = true := bne_iff_ne.mpr c6
  simp only [Option.some.injEq, Prod.mk.injEq] at H
  obtain ⟨rfl, rfl⟩ := H
  go_enter Try.func60, Try.ntmps60
  go_wp2_with (first | ((with_reducible refine gate_dst (N := 4) rfl ?_); refine box_event ?hg (N := 4) ?hd (cs := #[.int .i64 a0_0, .bool a0_1, .slice A0_2 l0_2.length c0_2]) (t := 24) ?hr ?_; (case hd => rfl); (case hg => rfl); (case hr => first | (go_simp; done) | (go_simp; rfl)); intro gb653 hg w35 hbox hb; have n0_ := Aside0.mk (below_step (by repeat (first | (with_reducible first | exact HB.out | apply below_alloc | apply pw_below_drewN | apply below_drew1) | exact HB.out)) hb); have n1_ := Aside0.mk (hbox); have n2_ := Aside0.mk ((by rw [hg]; exact (below_size (by repeat (first | (with_reducible first | exact HB.out | apply below_alloc | apply pw_below_drewN | apply below_drew1) | exact HB.out))) : w.heap.size ≤ gb653)); have n3_ := Aside0.mk ((by rw [hg]; exact (below_size (by repeat (first | (with_reducible first | exact HB.out | apply below_alloc | apply pw_below_drewN | apply below_drew1) | exact HB.out))) : w.heap.size ≤ gb653)); clear HB; have HB := n0_; have BK653 := n1_; have GW653 := n2_; have GE653 := n3_; clear n0_ n1_ n2_ n3_; clear hb hbox hg; have hcz36_0 : w35.cell? ⟨gb653, 0, none⟩ = some (.int .i64 a0_0) := (blk_cell BK653.out 0).trans rfl; have hcz36_1 : w35.cell? ⟨gb653, 1, none⟩ = some (.bool a0_1) := (blk_cell BK653.out 1).trans rfl; have hcz36_2 : w35.cell? ⟨gb653, 2, none⟩ = some (.slice A0_2 l0_2.length c0_2) := (blk_cell BK653.out 2).trans rfl; have hfz36_0 := blk_frozen BK653.out 0; have hfz36_1 := blk_frozen BK653.out 1; have hfz36_2 := blk_frozen BK653.out 2) | ((with_reducible refine gate_callee (f := 77) rfl ?_); refine goesL_ (some 17) rfl rfl Try.func77 (by kernel_rfl) rfl #[.agg #[.int .i64 a0_0, .bool a0_1, .slice A0_2 l0_2.length c0_2], .int .i64 a1, .int .i64 a2] rfl (by (try simp only [List.map_toArray, List.map_cons, List.map_nil]); first | done | rfl | (simp only [List.length_drop, List.length_take]; rfl)) ?_; (with_reducible refine (ebbtideref07_Ends.calls k a0_0 a0_1 _ _ l0_2 a1 a2 t654 _ ?side1 ?side2 A5.out).mono ?_); (case side1 => repeat (first | exact (Kd.C_below HR0_2.out HB.out) | (with_reducible refine Kd.C_alloc ?_ _) | (with_reducible refine Kd.C_drewN ?_ _) | (with_reducible refine Kd.C_drew ?_))); (case side2 => exact HC0_2.out); rintro e w37 ⟨rfl, hb⟩; refine ⟨_, rfl, ?_⟩; have n0_ := Aside0.mk (blk_below (g := gb653) (o := .cells #[.int .i64 a0_0, .bool a0_1, .slice A0_2 l0_2.length c0_2] 24 (0, 0)) (by (with_reducible repeat (first | refine blk_drewN ?_ _ | refine blk_drew ?_ | refine blk_alloc ?_ _)); exact BK653.out) hb); have n1_ := Aside0.mk (below_step (by repeat (first | (with_reducible first | exact HB.out | apply below_alloc | apply pw_below_drewN | apply below_drew1 | refine below_set ?_ GE653.out) | exact HB.out)) hb); clear BK653; clear HB; have BK653 := n0_; have HB := n1_; clear n0_ n1_; (try clear hb); (try clear hb2); (try clear hk); (try clear hi)))
  go_ret2
  exact ⟨by first | rfl | (simp [errW_none, errW_some] <;> rfl) | (simp [*, errW_none, errW_some] <;> rfl), by repeat (first | (with_reducible first | exact HB.out | apply below_alloc | apply pw_below_drewN | apply below_drew1 | refine below_set ?_ GE653.out) | exact HB.out)⟩
 rw [if_pos c6] at H
 have c6b0 : (t654 == 0) = true := beq_iff_eq.mpr c6
 have c6b1 : (t654 != 0) = false := bne_eq_false_iff_eq.mpr c6
 clear c6
 replace H := Option.bind_eq_some_iff.mp H
 obtain ⟨⟨t655, t658⟩, A70, H⟩ := H
 replace H : (if t658 = 0 then (ebbtideref07_Check.l0 k a1 a2 t655 0 a0_0 a0_1 l0_2) else (some (0, t658))) = some (r1, r2) := H
 have A7 := Aside0.mk A70
 clear A70
 by_cases c8 : t658 = 0
 rotate_left
 ·rw [if_neg c8] at H
  have c8b0 : (t658 == 0) = false := beq_eq_false_iff_ne.mpr c8
  have c8b1 : (t658 != 0) = true := bne_iff_ne.mpr c8
  simp only [Option.some.injEq, Prod.mk.injEq] at H
  obtain ⟨rfl, rfl⟩ := H
  go_enter Try.func60, Try.ntmps60
  go_wp2_with (first | ((with_reducible refine gate_dst (N := 4) rfl ?_); refine box_event ?hg (N := 4) ?hd (cs := #[.int .i64 a0_0, .bool a0_1, .slice A0_2 l0_2.length c0_2]) (t := 24) ?hr ?_; (case hd => rfl); (case hg => rfl); (case hr => first | (go_simp; done) | (go_simp; rfl)); intro gb653 hg w30 hbox hb; have n0_ := Aside0.mk (below_step (by repeat (first | (with_reducible first | exact HB.out | apply below_alloc | apply pw_below_drewN | apply below_drew1) | exact HB.out)) hb); have n1_ := Aside0.mk (hbox); have n2_ := Aside0.mk ((by rw [hg]; exact (below_size (by repeat (first | (with_reducible first | exact HB.out | apply below_alloc | apply pw_below_drewN | apply below_drew1) | exact HB.out))) : w.heap.size ≤ gb653)); have n3_ := Aside0.mk ((by rw [hg]; exact (below_size (by repeat (first | (with_reducible first | exact HB.out | apply below_alloc | apply pw_below_drewN | apply below_drew1) | exact HB.out))) : w.heap.size ≤ gb653)); clear HB; have HB := n0_; have BK653 := n1_; have GW653 := n2_; have GE653 := n3_; clear n0_ n1_ n2_ n3_; clear hb hbox hg; have hcz31_0 : w30.cell? ⟨gb653, 0, none⟩ = some (.int .i64 a0_0) := (blk_cell BK653.out 0).trans rfl; have hcz31_1 : w30.cell? ⟨gb653, 1, none⟩ = some (.bool a0_1) := (blk_cell BK653.out 1).trans rfl; have hcz31_2 : w30.cell? ⟨gb653, 2, none⟩ = some (.slice A0_2 l0_2.length c0_2) := (blk_cell BK653.out 2).trans rfl; have hfz31_0 := blk_frozen BK653.out 0; have hfz31_1 := blk_frozen BK653.out 1; have hfz31_2 := blk_frozen BK653.out 2) | ((with_reducible refine gate_callee (f := 77) rfl ?_); refine goesL_ (some 17) rfl rfl Try.func77 (by kernel_rfl) rfl #[.agg #[.int .i64 a0_0, .bool a0_1, .slice A0_2 l0_2.length c0_2], .int .i64 a1, .int .i64 a2] rfl (by (try simp only [List.map_toArray, List.map_cons, List.map_nil]); first | done | rfl | (simp only [List.length_drop, List.length_take]; rfl)) ?_; (with_reducible refine (ebbtideref07_Ends.calls k a0_0 a0_1 _ _ l0_2 a1 a2 t654 _ ?side1 ?side2 A5.out).mono ?_); (case side1 => repeat (first | exact (Kd.C_below HR0_2.out HB.out) | (with_reducible refine Kd.C_alloc ?_ _) | (with_reducible refine Kd.C_drewN ?_ _) | (with_reducible refine Kd.C_drew ?_))); (case side2 => exact HC0_2.out); rintro e w32 ⟨rfl, hb⟩; refine ⟨_, rfl, ?_⟩; have n0_ := Aside0.mk (blk_below (g := gb653) (o := .cells #[.int .i64 a0_0, .bool a0_1, .slice A0_2 l0_2.length c0_2] 24 (0, 0)) (by (with_reducible repeat (first | refine blk_drewN ?_ _ | refine blk_drew ?_ | refine blk_alloc ?_ _)); exact BK653.out) hb); have n1_ := Aside0.mk (below_step (by repeat (first | (with_reducible first | exact HB.out | apply below_alloc | apply pw_below_drewN | apply below_drew1 | refine below_set ?_ GE653.out) | exact HB.out)) hb); clear BK653; clear HB; have BK653 := n0_; have HB := n1_; clear n0_ n1_; (try clear hb); (try clear hb2); (try clear hk); (try clear hi); have hcz33_0 : w32.cell? ⟨gb653, 0, none⟩ = some (.int .i64 a0_0) := (blk_cell BK653.out 0).trans rfl; have hcz33_1 : w32.cell? ⟨gb653, 1, none⟩ = some (.bool a0_1) := (blk_cell BK653.out 1).trans rfl; have hcz33_2 : w32.cell? ⟨gb653, 2, none⟩ = some (.slice A0_2 l0_2.length c0_2) := (blk_cell BK653.out 2).trans rfl; have hfz33_0 := blk_frozen BK653.out 0; have hfz33_1 := blk_frozen BK653.out 1; have hfz33_2 := blk_frozen BK653.out 2) | ((with_reducible refine gate_callee (f := 48) rfl ?_); refine goesL_ (some 24) rfl rfl Try.func48 (by kernel_rfl) rfl #[.agg #[.int .i64 a0_0, .bool a0_1, .slice A0_2 l0_2.length c0_2], .slice A3 l3.length c3] rfl (by (try simp only [List.map_toArray, List.map_cons, List.map_nil]); first | done | rfl | (simp only [List.length_drop, List.length_take]; rfl)) ?_; (with_reducible refine (ebbtideref07_Balance.calls k a0_0 a0_1 _ _ l0_2 _ _ l3 t655 t658 _ ?side1 ?side2 ?side3 ?side4 A7.out).mono ?_); (case side1 => repeat (first | exact (Kd.C_below HR0_2.out HB.out) | (with_reducible refine Kd.C_alloc ?_ _) | (with_reducible refine Kd.C_drewN ?_ _) | (with_reducible refine Kd.C_drew ?_))); (case side2 => exact HC0_2.out); (case side3 => repeat (first | exact (Kd.C_below HR3.out HB.out) | (with_reducible refine Kd.C_alloc ?_ _) | (with_reducible refine Kd.C_drewN ?_ _) | (with_reducible refine Kd.C_drew ?_))); (case side4 => exact HC3.out); rintro e w34 ⟨v656, rfl, ho0, hb⟩; refine ⟨_, rfl, ?_⟩; have n0_ := Aside0.mk (Kd.R_lower ho0 (below_size (by repeat (first | (with_reducible first | exact HB.out | apply below_alloc | apply pw_below_drewN | apply below_drew1 | refine below_set ?_ GE653.out) | exact HB.out)))); have n1_ := Aside0.mk (blk_below (g := gb653) (o := .cells #[.int .i64 a0_0, .bool a0_1, .slice A0_2 l0_2.length c0_2] 24 (0, 0)) (by (with_reducible repeat (first | refine blk_drewN ?_ _ | refine blk_drew ?_ | refine blk_alloc ?_ _)); exact BK653.out) hb); have n2_ := Aside0.mk (below_step (by repeat (first | (with_reducible first | exact HB.out | apply below_alloc | apply pw_below_drewN | apply below_drew1 | refine below_set ?_ GE653.out) | exact HB.out)) hb); clear BK653; clear HB; have HO657 := n0_; have BK653 := n1_; have HB := n2_; clear n0_ n1_ n2_; (try clear hb); (try clear hb2); (try clear hk); (try clear hi); (try clear ho0)))
  go_ret2
  exact ⟨by first | rfl | (simp [errW_none, errW_some] <;> rfl) | (simp [*, errW_none, errW_some] <;> rfl), by repeat (first | (with_reducible first | exact HB.out | apply below_alloc | apply pw_below_drewN | apply below_drew1 | refine below_set ?_ GE653.out) | exact HB.out)⟩
 rw [if_pos c8] at H
 have c8b0 : (t658 == 0) = true := beq_iff_eq.mpr c8
 have c8b1 : (t658 != 0) = false := bne_eq_false_iff_eq.mpr c8
 clear c8
 have H' := Aside0.mk H
 clear H
 go_enter Try.func60, Try.ntmps60
 go_wp2_with (first | ((with_reducible refine gate_dst (N := 4) rfl ?_); refine box_event ?hg (N := 4) ?hd (cs := #[.int .i64 a0_0, .bool a0_1, .slice A0_2 l0_2.length c0_2]) (t := 24) ?hr ?_; (case hd => rfl); (case hg => rfl); (case hr => first | (go_simp; done) | (go_simp; rfl)); intro gb653 hg w9 hbox hb; have n0_ := Aside0.mk (below_step (by repeat (first | (with_reducible first | exact HB.out | apply below_alloc | apply pw_below_drewN | apply below_drew1) | exact HB.out)) hb); have n1_ := Aside0.mk (hbox); have n2_ := Aside0.mk ((by rw [hg]; exact (below_size (by repeat (first | (with_reducible first | exact HB.out | apply below_alloc | apply pw_below_drewN | apply below_drew1) | exact HB.out))) : w.heap.size ≤ gb653)); have n3_ := Aside0.mk ((by rw [hg]; exact (below_size (by repeat (first | (with_reducible first | exact HB.out | apply below_alloc | apply pw_below_drewN | apply below_drew1) | exact HB.out))) : w.heap.size ≤ gb653)); clear HB; have HB := n0_; have BK653 := n1_; have GW653 := n2_; have GE653 := n3_; clear n0_ n1_ n2_ n3_; clear hb hbox hg; have hcz10_0 : w9.cell? ⟨gb653, 0, none⟩ = some (.int .i64 a0_0) := (blk_cell BK653.out 0).trans rfl; have hcz10_1 : w9.cell? ⟨gb653, 1, none⟩ = some (.bool a0_1) := (blk_cell BK653.out 1).trans rfl; have hcz10_2 : w9.cell? ⟨gb653, 2, none⟩ = some (.slice A0_2 l0_2.length c0_2) := (blk_cell BK653.out 2).trans rfl; have hfz10_0 := blk_frozen BK653.out 0; have hfz10_1 := blk_frozen BK653.out 1; have hfz10_2 := blk_frozen BK653.out 2) | ((with_reducible refine gate_callee (f := 77) rfl ?_); refine goesL_ (some 17) rfl rfl Try.func77 (by kernel_rfl) rfl #[.agg #[.int .i64 a0_0, .bool a0_1, .slice A0_2 l0_2.length c0_2], .int .i64 a1, .int .i64 a2] rfl (by (try simp only [List.map_toArray, List.map_cons, List.map_nil]); first | done | rfl | (simp only [List.length_drop, List.length_take]; rfl)) ?_; (with_reducible refine (ebbtideref07_Ends.calls k a0_0 a0_1 _ _ l0_2 a1 a2 t654 _ ?side1 ?side2 A5.out).mono ?_); (case side1 => repeat (first | exact (Kd.C_below HR0_2.out HB.out) | (with_reducible refine Kd.C_alloc ?_ _) | (with_reducible refine Kd.C_drewN ?_ _) | (with_reducible refine Kd.C_drew ?_))); (case side2 => exact HC0_2.out); rintro e w11 ⟨rfl, hb⟩; refine ⟨_, rfl, ?_⟩; have n0_ := Aside0.mk (blk_below (g := gb653) (o := .cells #[.int .i64 a0_0, .bool a0_1, .slice A0_2 l0_2.length c0_2] 24 (0, 0)) (by (with_reducible repeat (first | refine blk_drewN ?_ _ | refine blk_drew ?_ | refine blk_alloc ?_ _)); exact BK653.out) hb); have n1_ := Aside0.mk (below_step (by repeat (first | (with_reducible first | exact HB.out | apply below_alloc | apply pw_below_drewN | apply below_drew1 | refine below_set ?_ GE653.out) | exact HB.out)) hb); clear BK653; clear HB; have BK653 := n0_; have HB := n1_; clear n0_ n1_; (try clear hb); (try clear hb2); (try clear hk); (try clear hi); have hcz12_0 : w11.cell? ⟨gb653, 0, none⟩ = some (.int .i64 a0_0) := (blk_cell BK653.out 0).trans rfl; have hcz12_1 : w11.cell? ⟨gb653, 1, none⟩ = some (.bool a0_1) := (blk_cell BK653.out 1).trans rfl; have hcz12_2 : w11.cell? ⟨gb653, 2, none⟩ = some (.slice A0_2 l0_2.length c0_2) := (blk_cell BK653.out 2).trans rfl; have hfz12_0 := blk_frozen BK653.out 0; have hfz12_1 := blk_frozen BK653.out 1; have hfz12_2 := blk_frozen BK653.out 2) | ((with_reducible refine gate_callee (f := 48) rfl ?_); refine goesL_ (some 24) rfl rfl Try.func48 (by kernel_rfl) rfl #[.agg #[.int .i64 a0_0, .bool a0_1, .slice A0_2 l0_2.length c0_2], .slice A3 l3.length c3] rfl (by (try simp only [List.map_toArray, List.map_cons, List.map_nil]); first | done | rfl | (simp only [List.length_drop, List.length_take]; rfl)) ?_; (with_reducible refine (ebbtideref07_Balance.calls k a0_0 a0_1 _ _ l0_2 _ _ l3 t655 t658 _ ?side1 ?side2 ?side3 ?side4 A7.out).mono ?_); (case side1 => repeat (first | exact (Kd.C_below HR0_2.out HB.out) | (with_reducible refine Kd.C_alloc ?_ _) | (with_reducible refine Kd.C_drewN ?_ _) | (with_reducible refine Kd.C_drew ?_))); (case side2 => exact HC0_2.out); (case side3 => repeat (first | exact (Kd.C_below HR3.out HB.out) | (with_reducible refine Kd.C_alloc ?_ _) | (with_reducible refine Kd.C_drewN ?_ _) | (with_reducible refine Kd.C_drew ?_))); (case side4 => exact HC3.out); rintro e w13 ⟨v656, rfl, ho0, hb⟩; refine ⟨_, rfl, ?_⟩; have n0_ := Aside0.mk (Kd.R_lower ho0 (below_size (by repeat (first | (with_reducible first | exact HB.out | apply below_alloc | apply pw_below_drewN | apply below_drew1 | refine below_set ?_ GE653.out) | exact HB.out)))); have n1_ := Aside0.mk (blk_below (g := gb653) (o := .cells #[.int .i64 a0_0, .bool a0_1, .slice A0_2 l0_2.length c0_2] 24 (0, 0)) (by (with_reducible repeat (first | refine blk_drewN ?_ _ | refine blk_drew ?_ | refine blk_alloc ?_ _)); exact BK653.out) hb); have n2_ := Aside0.mk (below_step (by repeat (first | (with_reducible first | exact HB.out | apply below_alloc | apply pw_below_drewN | apply below_drew1 | refine below_set ?_ GE653.out) | exact HB.out)) hb); clear BK653; clear HB; have HO657 := n0_; have BK653 := n1_; have HB := n2_; clear n0_ n1_ n2_; (try clear hb); (try clear hb2); (try clear hk); (try clear hi); (try clear ho0)))
 go_loopg [13] k (fun kq v13 w' => ∃ (x13_1 : Int), v13 = .int .i64 x13_1 ∧ Aside0 (ebbtideref07_Check.l0 kq a1 a2 t655 x13_1 a0_0 a0_1 l0_2 = some (r1, r2)) ∧ Aside0 (kq ≤ k) ∧ Aside0 (Kd.R (Kd.int .i64) 3 w' w.heap.size (fun _ => True) v656 t655) ∧ Aside0 (w'.heap[gb653]? = some (.cells #[.int .i64 a0_0, .bool a0_1, (.slice A0_2 l0_2.length c0_2)] 24 (0, 0))) ∧ Aside0 (Below w.heap.size w w'))
 case atStart => exact ⟨(0), (by first | rfl | (simp; done) | (simp [*]; done)), H', ⟨Nat.le_refl _⟩, ⟨by (with_reducible repeat (first | apply Kd.R_alloc | apply Kd.R_drewN | apply Kd.R_drew)); exact HO657.out⟩, ⟨by (with_reducible repeat (first | refine blk_drewN ?_ _ | refine blk_drew ?_ | refine blk_alloc ?_ _)); exact BK653.out⟩, ⟨by repeat (first | (with_reducible first | exact HB.out | apply below_alloc | apply pw_below_drewN | apply below_drew1 | refine below_set ?_ GE653.out) | exact HB.out)⟩⟩
 case round =>
  clear H'
  try clear p2
  try clear c3
  try clear c4
  try clear c6
  try clear c6b0
  try clear c6b1
  try clear c7
  try clear c8
  try clear c8b0
  try clear c8b1
  try clear hcz10_0
  try clear hcz10_1
  try clear hcz10_2
  try clear hcz12_0
  try clear hcz12_1
  try clear hcz12_2
  try clear hfz10_0
  try clear hfz10_1
  try clear hfz10_2
  try clear hfz12_0
  try clear hfz12_1
  try clear hfz12_2
  obtain ⟨x13_1, rfl, HA, HK1, HO_11, BK653, HB⟩ := hrel
  cases gk with
  | zero => exact absurd HA.out (by simp [ebbtideref07_Check.l0])
  | succ k1 =>
   have H := HA.out
   clear HA
   simp only [ebbtideref07_Check.l0] at H
   by_cases c14 : x13_1 < a0_0
   rotate_left
   ·rw [if_neg c14] at H
    have c14b0 : decide (x13_1 < a0_0) = false := decide_eq_false c14
    clear c14
    by_cases c26 : 0 ≤ a1
    rotate_left
    ·rw [if_neg c26] at H
     exact absurd H (by simp)
    rw [if_pos c26] at H
    have c26b0 : decide (0 ≤ a1) = true := decide_eq_true c26
    clear c26
    by_cases c27 : a1 < (t655.length : Int)
    rotate_left
    ·rw [if_neg c27] at H
     exact absurd H (by simp)
    rw [if_pos c27] at H
    have c27b0 : decide (a1 < (t655.length : Int)) = true := decide_eq_true c27
    clear c27
    simp only [Option.some.injEq, Prod.mk.injEq] at H
    obtain ⟨rfl, rfl⟩ := H
    have hcz28_0 : wr.cell? ⟨gb653, 0, none⟩ = some (.int .i64 a0_0) := (blk_cell BK653.out 0).trans rfl
    have hcz28_1 : wr.cell? ⟨gb653, 1, none⟩ = some (.bool a0_1) := (blk_cell BK653.out 1).trans rfl
    have hcz28_2 : wr.cell? ⟨gb653, 2, none⟩ = some (.slice A0_2 l0_2.length c0_2) := (blk_cell BK653.out 2).trans rfl
    have hfz28_0 := blk_frozen BK653.out 0
    have hfz28_1 := blk_frozen BK653.out 1
    have hfz28_2 := blk_frozen BK653.out 2
    obtain ⟨Ao29, co29, eo29⟩ := Kd.R_slice HO_11.out
    subst eo29
    have p660 : 0 ≤ (a1 : Int) := of_decide_eq_true (by first | (with_reducible assumption) | assumption)
    have q660 : a1 < (t655.length : Int) := of_decide_eq_true (by first | (with_reducible assumption) | assumption)
    obtain ⟨ad660, e660, hx660_0⟩ := Kd.at_int (Kd.R_reads' HO_11.out).2.2 a1 p660 q660
    cases e660
    replace p660 := eq_true p660
    replace q660 := eq_true q660
    go_wp2
    go_ret2
    exact ⟨by first | rfl | (simp [errW_none, errW_some] <;> rfl) | (simp [*, errW_none, errW_some] <;> rfl), by repeat (first | (with_reducible first | exact HB.out | apply below_alloc | apply pw_below_drewN | apply below_drew1 | refine below_set ?_ GE653.out) | exact HB.out)⟩
   rw [if_pos c14] at H
   have c14b0 : decide (x13_1 < a0_0) = true := decide_eq_true c14
   clear c14
   by_cases c15 : x13_1 = a1
   ·rw [if_pos c15] at H
    have c15b0 : (x13_1 == a1) = true := beq_iff_eq.mpr c15
    have c15b1 : (x13_1 != a1) = false := bne_eq_false_iff_eq.mpr c15
    clear c15
    have H' := Aside0.mk H
    clear H
    have hcz16_0 : wr.cell? ⟨gb653, 0, none⟩ = some (.int .i64 a0_0) := (blk_cell BK653.out 0).trans rfl
    have hcz16_1 : wr.cell? ⟨gb653, 1, none⟩ = some (.bool a0_1) := (blk_cell BK653.out 1).trans rfl
    have hcz16_2 : wr.cell? ⟨gb653, 2, none⟩ = some (.slice A0_2 l0_2.length c0_2) := (blk_cell BK653.out 2).trans rfl
    have hfz16_0 := blk_frozen BK653.out 0
    have hfz16_1 := blk_frozen BK653.out 1
    have hfz16_2 := blk_frozen BK653.out 2
    go_wp2
    go_roundg k1
    case measure => have := HK1.out; omega
    case rel => exact ⟨(wrap64 (x13_1 + 1)), (by first | rfl | (simp; done) | (simp [*]; done)), H', ⟨by have := HK1.out; omega⟩, ⟨by (with_reducible repeat (first | apply Kd.R_alloc | apply Kd.R_drewN | apply Kd.R_drew)); exact HO_11.out⟩, ⟨by (with_reducible repeat (first | refine blk_drewN ?_ _ | refine blk_drew ?_ | refine blk_alloc ?_ _)); exact BK653.out⟩, ⟨by repeat (first | (with_reducible first | exact HB.out | apply below_alloc | apply pw_below_drewN | apply below_drew1 | refine below_set ?_ GE653.out) | exact HB.out)⟩⟩
   rw [if_neg c15] at H
   have c15b0 : (x13_1 == a1) = false := beq_eq_false_iff_ne.mpr c15
   have c15b1 : (x13_1 != a1) = true := bne_iff_ne.mpr c15
   by_cases c17 : x13_1 = a2
   ·rw [if_pos c17] at H
    have c17b0 : (x13_1 == a2) = true := beq_iff_eq.mpr c17
    have c17b1 : (x13_1 != a2) = false := bne_eq_false_iff_eq.mpr c17
    clear c17
    have H' := Aside0.mk H
    clear H
    have hcz18_0 : wr.cell? ⟨gb653, 0, none⟩ = some (.int .i64 a0_0) := (blk_cell BK653.out 0).trans rfl
    have hcz18_1 : wr.cell? ⟨gb653, 1, none⟩ = some (.bool a0_1) := (blk_cell BK653.out 1).trans rfl
    have hcz18_2 : wr.cell? ⟨gb653, 2, none⟩ = some (.slice A0_2 l0_2.length c0_2) := (blk_cell BK653.out 2).trans rfl
    have hfz18_0 := blk_frozen BK653.out 0
    have hfz18_1 := blk_frozen BK653.out 1
    have hfz18_2 := blk_frozen BK653.out 2
    go_wp2
    go_roundg k1
    case measure => have := HK1.out; omega
    case rel => exact ⟨(wrap64 (x13_1 + 1)), (by first | rfl | (simp; done) | (simp [*]; done)), H', ⟨by have := HK1.out; omega⟩, ⟨by (with_reducible repeat (first | apply Kd.R_alloc | apply Kd.R_drewN | apply Kd.R_drew)); exact HO_11.out⟩, ⟨by (with_reducible repeat (first | refine blk_drewN ?_ _ | refine blk_drew ?_ | refine blk_alloc ?_ _)); exact BK653.out⟩, ⟨by repeat (first | (with_reducible first | exact HB.out | apply below_alloc | apply pw_below_drewN | apply below_drew1 | refine below_set ?_ GE653.out) | exact HB.out)⟩⟩
   rw [if_neg c17] at H
   have c17b0 : (x13_1 == a2) = false := beq_eq_false_iff_ne.mpr c17
   have c17b1 : (x13_1 != a2) = true := bne_iff_ne.mpr c17
   by_cases c19 : 0 ≤ x13_1
   rotate_left
   ·rw [if_neg c19] at H
    exact absurd H (by simp)
   rw [if_pos c19] at H
   have c19b0 : decide (0 ≤ x13_1) = true := decide_eq_true c19
   clear c19
   by_cases c20 : x13_1 < (t655.length : Int)
   rotate_left
   ·rw [if_neg c20] at H
    exact absurd H (by simp)
   rw [if_pos c20] at H
   have c20b0 : decide (x13_1 < (t655.length : Int)) = true := decide_eq_true c20
   clear c20
   by_cases c21 : (rd t655 x13_1) = 0
   rotate_left
   ·rw [if_neg c21] at H
    have c21b0 : ((rd t655 x13_1) == 0) = false := beq_eq_false_iff_ne.mpr c21
    have c21b1 : ((rd t655 x13_1) != 0) = true := bne_iff_ne.mpr c21
    simp only [Option.some.injEq, Prod.mk.injEq] at H
    obtain ⟨rfl, rfl⟩ := H
    have hcz24_0 : wr.cell? ⟨gb653, 0, none⟩ = some (.int .i64 a0_0) := (blk_cell BK653.out 0).trans rfl
    have hcz24_1 : wr.cell? ⟨gb653, 1, none⟩ = some (.bool a0_1) := (blk_cell BK653.out 1).trans rfl
    have hcz24_2 : wr.cell? ⟨gb653, 2, none⟩ = some (.slice A0_2 l0_2.length c0_2) := (blk_cell BK653.out 2).trans rfl
    have hfz24_0 := blk_frozen BK653.out 0
    have hfz24_1 := blk_frozen BK653.out 1
    have hfz24_2 := blk_frozen BK653.out 2
    obtain ⟨Ao25, co25, eo25⟩ := Kd.R_slice HO_11.out
    subst eo25
    have p659 : 0 ≤ (x13_1 : Int) := of_decide_eq_true (by first | (with_reducible assumption) | assumption)
    have q659 : x13_1 < (t655.length : Int) := of_decide_eq_true (by first | (with_reducible assumption) | assumption)
    obtain ⟨ad659, e659, hx659_0⟩ := Kd.at_int (Kd.R_reads' HO_11.out).2.2 x13_1 p659 q659
    cases e659
    replace p659 := eq_true p659
    replace q659 := eq_true q659
    go_wp2
    go_ret2
    exact ⟨by first | rfl | (simp [errW_none, errW_some] <;> rfl) | (simp [*, errW_none, errW_some] <;> rfl), by repeat (first | (with_reducible first | exact HB.out | apply below_alloc | apply pw_below_drewN | apply below_drew1 | refine below_set ?_ GE653.out) | exact HB.out)⟩
   rw [if_pos c21] at H
   have c21b0 : ((rd t655 x13_1) == 0) = true := beq_iff_eq.mpr c21
   have c21b1 : ((rd t655 x13_1) != 0) = false := bne_eq_false_iff_eq.mpr c21
   clear c21
   have H' := Aside0.mk H
   clear H
   have hcz22_0 : wr.cell? ⟨gb653, 0, none⟩ = some (.int .i64 a0_0) := (blk_cell BK653.out 0).trans rfl
   have hcz22_1 : wr.cell? ⟨gb653, 1, none⟩ = some (.bool a0_1) := (blk_cell BK653.out 1).trans rfl
   have hcz22_2 : wr.cell? ⟨gb653, 2, none⟩ = some (.slice A0_2 l0_2.length c0_2) := (blk_cell BK653.out 2).trans rfl
   have hfz22_0 := blk_frozen BK653.out 0
   have hfz22_1 := blk_frozen BK653.out 1
   have hfz22_2 := blk_frozen BK653.out 2
   obtain ⟨Ao23, co23, eo23⟩ := Kd.R_slice HO_11.out
   subst eo23
   have p659 : 0 ≤ (x13_1 : Int) := of_decide_eq_true (by first | (with_reducible assumption) | assumption)
   have q659 : x13_1 < (t655.length : Int) := of_decide_eq_true (by first | (with_reducible assumption) | assumption)
   obtain ⟨ad659, e659, hx659_0⟩ := Kd.at_int (Kd.R_reads' HO_11.out).2.2 x13_1 p659 q659
   cases e659
   replace p659 := eq_true p659
   replace q659 := eq_true q659
   go_wp2
   go_roundg k1
   case measure => have := HK1.out; omega
   case rel => exact ⟨(wrap64 (x13_1 + 1)), (by first | rfl | (simp; done) | (simp [*]; done)), H', ⟨by have := HK1.out; omega⟩, ⟨by (with_reducible repeat (first | apply Kd.R_alloc | apply Kd.R_drewN | apply Kd.R_drew)); exact HO_11.out⟩, ⟨by (with_reducible repeat (first | refine blk_drewN ?_ _ | refine blk_drew ?_ | refine blk_alloc ?_ _)); exact BK653.out⟩, ⟨by repeat (first | (with_reducible first | exact HB.out | apply below_alloc | apply pw_below_drewN | apply below_drew1 | refine below_set ?_ GE653.out) | exact HB.out)⟩⟩
end Go.Proofs.Ytkcpanpdipmmmaa.P
