/- What the law's row needs of these texts, taken out of them by wip/tool/mini.py: P144 P167 QOpen QLevelLaw QCheckRef QMostLaw QMinLaw QLMincut. -/
import Derived.Test.YtkcpanpdipmmmaaMimgbgd
import Derived.Test.YtkcpanpdipmmmaaMelgonb
import Derived.Test.YtkcpanpdipmmmaaVlibmik
import Derived.Deep.Slices
import Derived.Deep.Fields
import Derived.ChangeSame
import Derived.ChangeArms
import Derived.OpenShut
import Derived.Test.YtkcpanpdipmmmaaMcnngcc
import Derived.Test.YtkcpanpdipmmmaaMcdaine
import Derived.Deep.RegionHeld3
import Derived.Deep.DeepCutAuto
set_option linter.unusedVariables false
set_option linter.unusedSimpArgs false
namespace Go.Proofs.Ytkcpanpdipmmmaa.P
open Go.RowKit Go.Proofs.YtkcpanpdipmmmaaW.PrintWords Go.Proofs.YtkcpanpdipmmmaaW.PrintLast Go.Proofs.YtkcpanpdipmmmaaW.PrintMore
attribute [local go_sem] max2_int min2_int max_two min_two max_three min_three max_four min_four
def mincut_Side.f (k : Nat) (a0_0 : Int) (a0_1 : Bool) (l0_2 : List (S74)) (l1 : List Int) (a2 : Int) : Option (List Bool × Int) := (level_Levels.f a0_0 a0_1 l0_2 l1 a2).bind fun bt1093 => (if bt1093.2 = 0 then ((mincut_reached.f k bt1093.1).bind fun t1097 => (some (t1097, 0))) else (some (([] : List Bool), bt1093.2)))
set_option maxHeartbeats 8000000 in
set_option maxRecDepth 100000 in
theorem mincut_Side.calls (k : Nat) (a0_0 : Int) (a0_1 : Bool) (A0_2 : Option Addr) (c0_2 : Nat) (l0_2 : List (S74)) (A1 : Option Addr) (c1 : Nat) (l1 : List Int) (a2 : Int) (r1 : List Bool) (r2 : Int) (w : World) (hr0_2 : Kd.C k74 w A0_2 l0_2.length l0_2) (hc0_2 : l0_2.length ≤ c0_2) (hr1 : Kd.C (Kd.int .i64) w A1 l1.length l1) (hc1 : l1.length ≤ c1) (h : mincut_Side.f k a0_0 a0_1 l0_2 l1 a2 = some (r1, r2)) :
  Calls Try.prog 83 #[.agg #[.int .i64 a0_0, .bool a0_1, .slice A0_2 l0_2.length c0_2], .slice A1 l1.length c1, .int .i64 a2] w fun e w' => ∃ v0_ : Value, e = .returned (.tuple #[v0_, .int .i64 r2]) ∧ Kd.R Kd.bool 4 w' w.heap.size (fun _ => True) v0_ r1 ∧ Below w.heap.size w w' := by
 have hu24 := Try.underlying24
 have HR0_2 := Aside0.mk hr0_2
 have HC0_2 := Aside0.mk hc0_2
 clear hr0_2 hc0_2
 have HR1 := Aside0.mk hr1
 have HC1 := Aside0.mk hc1
 clear hr1 hc1
 have HB := Aside0.mk (Below.refl w.heap.size w)
 have H : ((level_Levels.f a0_0 a0_1 l0_2 l1 a2).bind fun bt1093 => (if bt1093.2 = 0 then ((mincut_reached.f k bt1093.1).bind fun t1097 => (some (t1097, 0))) else (some (([] : List Bool), bt1093.2)))) = some (r1, r2) := h
 clear h
 replace H := Option.bind_eq_some_iff.mp H
 obtain ⟨⟨t1093, t1096⟩, A40, H⟩ := H
 replace H : (if t1096 = 0 then ((mincut_reached.f k t1093).bind fun t1097 => (some (t1097, 0))) else (some (([] : List Bool), t1096))) = some (r1, r2) := H
 have A4 := Aside0.mk A40
 clear A40
 by_cases c5 : t1096 = 0
 rotate_left
 ·rw [if_neg c5] at H
  have c5b0 : (t1096 == 0) = false := beq_eq_false_iff_ne.mpr c5
  have c5b1 : (t1096 != 0) = true := bne_iff_ne.mpr c5
  simp only [Option.some.injEq, Prod.mk.injEq] at H
  obtain ⟨rfl, rfl⟩ := H
  go_enter Try.func83, Try.ntmps83
  go_wp2_with (first | ((with_reducible refine gate_dst (N := 3) rfl ?_); refine box_event ?hg (N := 3) ?hd (cs := #[.int .i64 a0_0, .bool a0_1, .slice A0_2 l0_2.length c0_2]) (t := 24) ?hr ?_; (case hd => rfl); (case hg => rfl); (case hr => first | (go_simp; done) | (go_simp; rfl)); intro gb1092 hg w12 hbox hb; have n0_ := Aside0.mk (below_step (by repeat (first | (with_reducible first | exact HB.out | apply below_alloc | apply pw_below_drewN | apply below_drew1) | exact HB.out)) hb); have n1_ := Aside0.mk (hbox); have n2_ := Aside0.mk ((by rw [hg]; exact (below_size (by repeat (first | (with_reducible first | exact HB.out | apply below_alloc | apply pw_below_drewN | apply below_drew1) | exact HB.out))) : w.heap.size ≤ gb1092)); have n3_ := Aside0.mk ((by rw [hg]; exact (below_size (by repeat (first | (with_reducible first | exact HB.out | apply below_alloc | apply pw_below_drewN | apply below_drew1) | exact HB.out))) : w.heap.size ≤ gb1092)); clear HB; have HB := n0_; have BK1092 := n1_; have GW1092 := n2_; have GE1092 := n3_; clear n0_ n1_ n2_ n3_; clear hb hbox hg; have hcz13_0 : w12.cell? ⟨gb1092, 0, none⟩ = some (.int .i64 a0_0) := (blk_cell BK1092.out 0).trans rfl; have hcz13_1 : w12.cell? ⟨gb1092, 1, none⟩ = some (.bool a0_1) := (blk_cell BK1092.out 1).trans rfl; have hcz13_2 : w12.cell? ⟨gb1092, 2, none⟩ = some (.slice A0_2 l0_2.length c0_2) := (blk_cell BK1092.out 2).trans rfl; have hfz13_0 := blk_frozen BK1092.out 0; have hfz13_1 := blk_frozen BK1092.out 1; have hfz13_2 := blk_frozen BK1092.out 2) | ((with_reducible refine gate_callee (f := 53) rfl ?_); refine goesL_ (some 14) rfl rfl Try.func53 (by kernel_rfl) rfl #[.agg #[.int .i64 a0_0, .bool a0_1, .slice A0_2 l0_2.length c0_2], .slice A1 l1.length c1, .int .i64 a2] rfl (by (try simp only [List.map_toArray, List.map_cons, List.map_nil]); first | done | rfl | (simp only [List.length_drop, List.length_take]; rfl)) ?_; (with_reducible refine (level_Levels.calls a0_0 a0_1 _ _ l0_2 _ _ l1 a2 t1093 t1096 _ ?side1 ?side2 ?side3 ?side4 A4.out).mono ?_); (case side1 => repeat (first | exact (Kd.C_below HR0_2.out HB.out) | (with_reducible refine Kd.C_alloc ?_ _) | (with_reducible refine Kd.C_drewN ?_ _) | (with_reducible refine Kd.C_drew ?_))); (case side2 => exact HC0_2.out); (case side3 => repeat (first | exact (Kd.C_below HR1.out HB.out) | (with_reducible refine Kd.C_alloc ?_ _) | (with_reducible refine Kd.C_drewN ?_ _) | (with_reducible refine Kd.C_drew ?_))); (case side4 => exact HC1.out); rintro e w14 ⟨v1094, rfl, ho0, hb⟩; refine ⟨_, rfl, ?_⟩; have n0_ := Aside0.mk (Kd.R_lower ho0 (below_size (by repeat (first | (with_reducible first | exact HB.out | apply below_alloc | apply pw_below_drewN | apply below_drew1 | refine below_set ?_ GE1092.out) | exact HB.out)))); have n1_ := Aside0.mk (blk_below (g := gb1092) (o := .cells #[.int .i64 a0_0, .bool a0_1, .slice A0_2 l0_2.length c0_2] 24 (0, 0)) (by (with_reducible repeat (first | refine blk_drewN ?_ _ | refine blk_drew ?_ | refine blk_alloc ?_ _)); exact BK1092.out) hb); have n2_ := Aside0.mk (below_step (by repeat (first | (with_reducible first | exact HB.out | apply below_alloc | apply pw_below_drewN | apply below_drew1 | refine below_set ?_ GE1092.out) | exact HB.out)) hb); clear BK1092; clear HB; have HO1095 := n0_; have BK1092 := n1_; have HB := n2_; clear n0_ n1_ n2_; (try clear hb); (try clear hb2); (try clear hk); (try clear hi); (try clear ho0)))
  go_ret2
  exact ⟨_, by first | rfl | (simp [errW_none, errW_some] <;> rfl) | (simp [*, errW_none, errW_some] <;> rfl), by first | exact Kd.R_nil _ _ _ _ _ | exact Kd.N_nil _ _ _ _ _ | exact Kd.V_nil _ _ _ _ _ | exact Kd.Q_nil _ _ _ _ _ | exact Kd.S_nil _ _ _ _ _, by repeat (first | (with_reducible first | exact HB.out | apply below_alloc | apply pw_below_drewN | apply below_drew1 | refine below_set ?_ GE1092.out) | exact HB.out)⟩
 rw [if_pos c5] at H
 have c5b0 : (t1096 == 0) = true := beq_iff_eq.mpr c5
 have c5b1 : (t1096 != 0) = false := bne_eq_false_iff_eq.mpr c5
 clear c5
 replace H := Option.bind_eq_some_iff.mp H
 obtain ⟨t1097, A60, H⟩ := H
 replace H : (some (t1097, 0)) = some (r1, r2) := H
 have A6 := Aside0.mk A60
 clear A60
 simp only [Option.some.injEq, Prod.mk.injEq] at H
 obtain ⟨rfl, rfl⟩ := H
 go_enter Try.func83, Try.ntmps83
 go_wp2_with (first | ((with_reducible refine gate_dst (N := 3) rfl ?_); refine box_event ?hg (N := 3) ?hd (cs := #[.int .i64 a0_0, .bool a0_1, .slice A0_2 l0_2.length c0_2]) (t := 24) ?hr ?_; (case hd => rfl); (case hg => rfl); (case hr => first | (go_simp; done) | (go_simp; rfl)); intro gb1092 hg w7 hbox hb; have n0_ := Aside0.mk (below_step (by repeat (first | (with_reducible first | exact HB.out | apply below_alloc | apply pw_below_drewN | apply below_drew1) | exact HB.out)) hb); have n1_ := Aside0.mk (hbox); have n2_ := Aside0.mk ((by rw [hg]; exact (below_size (by repeat (first | (with_reducible first | exact HB.out | apply below_alloc | apply pw_below_drewN | apply below_drew1) | exact HB.out))) : w.heap.size ≤ gb1092)); have n3_ := Aside0.mk ((by rw [hg]; exact (below_size (by repeat (first | (with_reducible first | exact HB.out | apply below_alloc | apply pw_below_drewN | apply below_drew1) | exact HB.out))) : w.heap.size ≤ gb1092)); clear HB; have HB := n0_; have BK1092 := n1_; have GW1092 := n2_; have GE1092 := n3_; clear n0_ n1_ n2_ n3_; clear hb hbox hg; have hcz8_0 : w7.cell? ⟨gb1092, 0, none⟩ = some (.int .i64 a0_0) := (blk_cell BK1092.out 0).trans rfl; have hcz8_1 : w7.cell? ⟨gb1092, 1, none⟩ = some (.bool a0_1) := (blk_cell BK1092.out 1).trans rfl; have hcz8_2 : w7.cell? ⟨gb1092, 2, none⟩ = some (.slice A0_2 l0_2.length c0_2) := (blk_cell BK1092.out 2).trans rfl; have hfz8_0 := blk_frozen BK1092.out 0; have hfz8_1 := blk_frozen BK1092.out 1; have hfz8_2 := blk_frozen BK1092.out 2) | ((with_reducible refine gate_callee (f := 53) rfl ?_); refine goesL_ (some 14) rfl rfl Try.func53 (by kernel_rfl) rfl #[.agg #[.int .i64 a0_0, .bool a0_1, .slice A0_2 l0_2.length c0_2], .slice A1 l1.length c1, .int .i64 a2] rfl (by (try simp only [List.map_toArray, List.map_cons, List.map_nil]); first | done | rfl | (simp only [List.length_drop, List.length_take]; rfl)) ?_; (with_reducible refine (level_Levels.calls a0_0 a0_1 _ _ l0_2 _ _ l1 a2 t1093 t1096 _ ?side1 ?side2 ?side3 ?side4 A4.out).mono ?_); (case side1 => repeat (first | exact (Kd.C_below HR0_2.out HB.out) | (with_reducible refine Kd.C_alloc ?_ _) | (with_reducible refine Kd.C_drewN ?_ _) | (with_reducible refine Kd.C_drew ?_))); (case side2 => exact HC0_2.out); (case side3 => repeat (first | exact (Kd.C_below HR1.out HB.out) | (with_reducible refine Kd.C_alloc ?_ _) | (with_reducible refine Kd.C_drewN ?_ _) | (with_reducible refine Kd.C_drew ?_))); (case side4 => exact HC1.out); rintro e w9 ⟨v1094, rfl, ho0, hb⟩; refine ⟨_, rfl, ?_⟩; have n0_ := Aside0.mk (Kd.R_lower ho0 (below_size (by repeat (first | (with_reducible first | exact HB.out | apply below_alloc | apply pw_below_drewN | apply below_drew1 | refine below_set ?_ GE1092.out) | exact HB.out)))); have n1_ := Aside0.mk (blk_below (g := gb1092) (o := .cells #[.int .i64 a0_0, .bool a0_1, .slice A0_2 l0_2.length c0_2] 24 (0, 0)) (by (with_reducible repeat (first | refine blk_drewN ?_ _ | refine blk_drew ?_ | refine blk_alloc ?_ _)); exact BK1092.out) hb); have n2_ := Aside0.mk (below_step (by repeat (first | (with_reducible first | exact HB.out | apply below_alloc | apply pw_below_drewN | apply below_drew1 | refine below_set ?_ GE1092.out) | exact HB.out)) hb); clear BK1092; clear HB; have HO1095 := n0_; have BK1092 := n1_; have HB := n2_; clear n0_ n1_ n2_; (try clear hb); (try clear hb2); (try clear hk); (try clear hi); (try clear ho0); obtain ⟨Ao10, co10, eo10⟩ := Kd.R_slice HO1095.out; subst eo10) | ((with_reducible refine gate_callee (f := 128) rfl ?_); refine goesL_ (some 21) rfl rfl Try.func128 (by kernel_rfl) rfl #[.slice Ao10 t1093.length co10] rfl (by (try simp only [List.map_toArray, List.map_cons, List.map_nil]); first | done | rfl | (simp only [List.length_drop, List.length_take]; rfl)) ?_; (with_reducible refine (mincut_reached.calls k _ _ t1093 t1097 _ ?side1 ?side2 A6.out).mono ?_); (case side1 => repeat (first | exact (Kd.R_reads' HO1095.out).2.2 | (with_reducible refine Kd.C_alloc ?_ _) | (with_reducible refine Kd.C_drewN ?_ _) | (with_reducible refine Kd.C_drew ?_))); (case side2 => exact (Kd.R_reads' HO1095.out).2.1); rintro e w11 ⟨v1098, rfl, ho0, hb⟩; refine ⟨_, rfl, ?_⟩; have n0_ := Aside0.mk (Kd.R_below (by (with_reducible repeat (first | apply Kd.R_alloc | apply Kd.R_drewN | apply Kd.R_drew)); exact HO1095.out) hb); have n1_ := Aside0.mk (Kd.R_lower ho0 (below_size (by repeat (first | (with_reducible first | exact HB.out | apply below_alloc | apply pw_below_drewN | apply below_drew1 | refine below_set ?_ GE1092.out) | exact HB.out)))); have n2_ := Aside0.mk (blk_below (g := gb1092) (o := .cells #[.int .i64 a0_0, .bool a0_1, .slice A0_2 l0_2.length c0_2] 24 (0, 0)) (by (with_reducible repeat (first | refine blk_drewN ?_ _ | refine blk_drew ?_ | refine blk_alloc ?_ _)); exact BK1092.out) hb); have n3_ := Aside0.mk (below_step (by repeat (first | (with_reducible first | exact HB.out | apply below_alloc | apply pw_below_drewN | apply below_drew1 | refine below_set ?_ GE1092.out) | exact HB.out)) hb); clear HO1095; clear BK1092; clear HB; have HO1095 := n0_; have HO1099 := n1_; have BK1092 := n2_; have HB := n3_; clear n0_ n1_ n2_ n3_; (try clear hb); (try clear hb2); (try clear hk); (try clear hi); (try clear ho0)))
 go_ret2
 exact ⟨_, by first | rfl | (simp [errW_none, errW_some] <;> rfl) | (simp [*, errW_none, errW_some] <;> rfl), by (with_reducible repeat (first | apply Kd.R_alloc | apply Kd.R_drewN | apply Kd.R_drew)); exact HO1099.out, by repeat (first | (with_reducible first | exact HB.out | apply below_alloc | apply pw_below_drewN | apply below_drew1 | refine below_set ?_ GE1092.out) | exact HB.out)⟩
end Go.Proofs.Ytkcpanpdipmmmaa.P
namespace Go.Proofs.Ytkcpanpdipmmmaa.P
open Go.RowKit Go.Proofs.YtkcpanpdipmmmaaW.PrintWords Go.Proofs.YtkcpanpdipmmmaaW.PrintLast Go.Proofs.YtkcpanpdipmmmaaW.PrintMore
attribute [local go_sem] max2_int min2_int max_two min_two max_three min_three max_four min_four
mutual
def ebbtidelaw10_MincutAny.j0 : Nat → Int → Int → List Bool → Bool → List Bool → Int → Int → List Int → Int → Bool → Int → Bool → List (S74) → Option (Bool)
 | 0, _, _, _, _, _, _, _, _, _, _, _, _, _ => none
 | k + 1, x1, x2, x3, x9, x10, x11, x12, x13, x15, x45, x1293000, x1293001, x1293002 => if x45 = true then (if x9 = true then (some (x12 == x15)) else (some false)) else ((mincut_Side.f k x1293000 x1293001 x1293002 x13 x1).bind fun bt1304 => (if bt1304.2 = 0 then ((ebbtideref10_Same.f k bt1304.1 x10).bind fun t1308 => (ebbtidelaw10_MincutAny.j1 k x1 x2 x3 x9 x10 x11 (!t1308) x1293000 x1293001 x1293002)) else (ebbtidelaw10_MincutAny.j1 k x1 x2 x3 x9 x10 x11 true x1293000 x1293001 x1293002)))
def ebbtidelaw10_MincutAny.j1 : Nat → Int → Int → List Bool → Bool → List Bool → Int → Bool → Int → Bool → List (S74) → Option (Bool)
 | 0, _, _, _, _, _, _, _, _, _, _ => none
 | k + 1, x1, x2, x3, x9, x10, x11, x66, x1293000, x1293001, x1293002 => if x66 = true then (some false) else ((mincut_Capacity.f k x1293000 x1293001 x1293002 x3).bind fun bt1309 => (if bt1309.2 = 0 then (if 0 ≤ x1 then (if x1 < (x3.length : Int) then (if rdOf false x3 x1 = true then (if 0 ≤ x2 then (if x2 < (x3.length : Int) then (ebbtidelaw10_MincutAny.j2 k x3 x9 x10 x11 bt1309.1 (rdOf false x3 x2)) else (none)) else (none)) else (ebbtidelaw10_MincutAny.j2 k x3 x9 x10 x11 bt1309.1 true)) else (none)) else (none)) else (ebbtidelaw10_MincutAny.j2 k x3 x9 x10 x11 bt1309.1 true)))
def ebbtidelaw10_MincutAny.j2 : Nat → List Bool → Bool → List Bool → Int → Int → Bool → Option (Bool)
 | 0, _, _, _, _, _, _ => none
 | k + 1, x3, x9, x10, x11, x18, x87 => if x87 = true then (some x9) else (if x18 < x11 then (some false) else (ebbtidelaw10_MincutAny.l0 k x3 x9 x10 x11 x18 0))
def ebbtidelaw10_MincutAny.l0 : Nat → List Bool → Bool → List Bool → Int → Int → Int → Option (Bool)
 | 0, _, _, _, _, _, _ => none
 | k + 1, x3, x9, x10, x11, x18, x20 => if x20 < (x10.length : Int) then (ebbtidelaw10_MincutAny.j4 k x3 x9 x10 x11 x18 x20 (x18 == x11)) else (ebbtidelaw10_MincutAny.j4 k x3 x9 x10 x11 x18 x20 false)
def ebbtidelaw10_MincutAny.j4 : Nat → List Bool → Bool → List Bool → Int → Int → Int → Bool → Option (Bool)
 | 0, _, _, _, _, _, _, _ => none
 | k + 1, x3, x9, x10, x11, x18, x20, x100 => if x100 = true then (if 0 ≤ x20 then (if x20 < (x10.length : Int) then (if rdOf false x10 x20 = true then (if x20 < (x3.length : Int) then (if rdOf false x3 x20 = true then (ebbtidelaw10_MincutAny.l0 k x3 x9 x10 x11 x18 (wrap64 (x20 + 1))) else (some false)) else (none)) else (ebbtidelaw10_MincutAny.l0 k x3 x9 x10 x11 x18 (wrap64 (x20 + 1)))) else (none)) else (none)) else (some x9)
end
def ebbtidelaw10_MincutAny.f (k : Nat) (a0_0 : Int) (a0_1 : Bool) (l0_2 : List (S74)) (a1 : Int) (a2 : Int) (l3 : List Bool) : Option (Bool) := (ebbtidelaw10_awake.f k).bind fun t1293 => (if t1293 = true then ((mincut_Least.f k a0_0 a0_1 l0_2 a1 a2).bind fun bt1294 => ((maxflow_Max.f k a0_0 a0_1 l0_2 a1 a2).bind fun bt1299 => (if bt1294.2.2 = 0 then (ebbtidelaw10_MincutAny.j0 k a1 a2 l3 t1293 bt1294.1 bt1294.2.1 bt1294.2.2 bt1299.1 bt1299.2.2 (bt1299.2.2 != 0) a0_0 a0_1 l0_2) else (ebbtidelaw10_MincutAny.j0 k a1 a2 l3 t1293 bt1294.1 bt1294.2.1 bt1294.2.2 bt1299.1 bt1299.2.2 true a0_0 a0_1 l0_2)))) else (some false))
set_option maxHeartbeats 8000000 in
set_option maxRecDepth 100000 in
theorem ebbtidelaw10_MincutAny.calls (k : Nat) (a0_0 : Int) (a0_1 : Bool) (A0_2 : Option Addr) (c0_2 : Nat) (l0_2 : List (S74)) (a1 : Int) (a2 : Int) (A3 : Option Addr) (c3 : Nat) (l3 : List Bool) (r : Bool) (w : World) (hr0_2 : Kd.C k74 w A0_2 l0_2.length l0_2) (hc0_2 : l0_2.length ≤ c0_2) (hr3 : Kd.C Kd.bool w A3 l3.length l3) (hc3 : l3.length ≤ c3) (h : ebbtidelaw10_MincutAny.f k a0_0 a0_1 l0_2 a1 a2 l3 = some r) (hrT_ : r = true := by first | rfl | exact Aside0.out (by assumption)) :
  Calls Try.prog 33 #[.agg #[.int .i64 a0_0, .bool a0_1, .slice A0_2 l0_2.length c0_2], .int .i64 a1, .int .i64 a2, .slice A3 l3.length c3] w fun e w' => e = .returned (.bool r) ∧ Below w.heap.size w w' := by
 have HRT := Aside0.mk hrT_
 clear hrT_
 have hu24 := Try.underlying24
 have HR0_2 := Aside0.mk hr0_2
 have HC0_2 := Aside0.mk hc0_2
 clear hr0_2 hc0_2
 have HR3 := Aside0.mk hr3
 have HC3 := Aside0.mk hc3
 clear hr3 hc3
 have HB := Aside0.mk (Below.refl w.heap.size w)
 have H : ((ebbtidelaw10_awake.f k).bind fun t1293 => (if t1293 = true then ((mincut_Least.f k a0_0 a0_1 l0_2 a1 a2).bind fun bt1294 => ((maxflow_Max.f k a0_0 a0_1 l0_2 a1 a2).bind fun bt1299 => (if bt1294.2.2 = 0 then (ebbtidelaw10_MincutAny.j0 k a1 a2 l3 t1293 bt1294.1 bt1294.2.1 bt1294.2.2 bt1299.1 bt1299.2.2 (bt1299.2.2 != 0) a0_0 a0_1 l0_2) else (ebbtidelaw10_MincutAny.j0 k a1 a2 l3 t1293 bt1294.1 bt1294.2.1 bt1294.2.2 bt1299.1 bt1299.2.2 true a0_0 a0_1 l0_2)))) else (some false))) = some r := h
 clear h
 replace H := Option.bind_eq_some_iff.mp H
 obtain ⟨t1293, A50, H⟩ := H
 replace H : (if t1293 = true then ((mincut_Least.f k a0_0 a0_1 l0_2 a1 a2).bind fun bt1294 => ((maxflow_Max.f k a0_0 a0_1 l0_2 a1 a2).bind fun bt1299 => (if bt1294.2.2 = 0 then (ebbtidelaw10_MincutAny.j0 k a1 a2 l3 t1293 bt1294.1 bt1294.2.1 bt1294.2.2 bt1299.1 bt1299.2.2 (bt1299.2.2 != 0) a0_0 a0_1 l0_2) else (ebbtidelaw10_MincutAny.j0 k a1 a2 l3 t1293 bt1294.1 bt1294.2.1 bt1294.2.2 bt1299.1 bt1299.2.2 true a0_0 a0_1 l0_2)))) else (some false)) = some r := H
 have A5 := Aside0.mk A50
 clear A50
 by_cases c6 : t1293 = true
 rotate_left
 ·replace c6 := Bool.eq_false_iff.mpr c6
  subst c6
  have H1 : (some false) = some r := by rw [if_neg (show ¬ (false = true) by decide)] at H; exact H
  exact absurd (Option.some.inj H1) (by rw [HRT.out]; decide)
 subst c6
 have H1 : ((mincut_Least.f k a0_0 a0_1 l0_2 a1 a2).bind fun bt1294 => ((maxflow_Max.f k a0_0 a0_1 l0_2 a1 a2).bind fun bt1299 => (if bt1294.2.2 = 0 then (ebbtidelaw10_MincutAny.j0 k a1 a2 l3 true bt1294.1 bt1294.2.1 bt1294.2.2 bt1299.1 bt1299.2.2 (bt1299.2.2 != 0) a0_0 a0_1 l0_2) else (ebbtidelaw10_MincutAny.j0 k a1 a2 l3 true bt1294.1 bt1294.2.1 bt1294.2.2 bt1299.1 bt1299.2.2 true a0_0 a0_1 l0_2)))) = some r := by first | (rw [if_pos rfl] at H; exact H) | (rw [if_pos trivial] at H; exact H)
 clear H
 have H := H1
 clear H1
 replace H := Option.bind_eq_some_iff.mp H
 obtain ⟨⟨t1294, t1297, t1298⟩, A70, H⟩ := H
 replace H : ((maxflow_Max.f k a0_0 a0_1 l0_2 a1 a2).bind fun bt1299 => (if t1298 = 0 then (ebbtidelaw10_MincutAny.j0 k a1 a2 l3 true t1294 t1297 t1298 bt1299.1 bt1299.2.2 (bt1299.2.2 != 0) a0_0 a0_1 l0_2) else (ebbtidelaw10_MincutAny.j0 k a1 a2 l3 true t1294 t1297 t1298 bt1299.1 bt1299.2.2 true a0_0 a0_1 l0_2))) = some r := H
 have A7 := Aside0.mk A70
 clear A70
 replace H := Option.bind_eq_some_iff.mp H
 obtain ⟨⟨t1299, t1302, t1303⟩, A80, H⟩ := H
 replace H : (if t1298 = 0 then (ebbtidelaw10_MincutAny.j0 k a1 a2 l3 true t1294 t1297 t1298 t1299 t1303 (t1303 != 0) a0_0 a0_1 l0_2) else (ebbtidelaw10_MincutAny.j0 k a1 a2 l3 true t1294 t1297 t1298 t1299 t1303 true a0_0 a0_1 l0_2)) = some r := H
 have A8 := Aside0.mk A80
 clear A80
 have HC9 := Aside0.mk H
 clear H
 go_enter Try.func33, Try.ntmps33
 go_upto_region 6 with (first | ((with_reducible refine gate_dst (N := 4) rfl ?_); refine box_event ?hg (N := 4) ?hd (cs := #[.int .i64 a0_0, .bool a0_1, .slice A0_2 l0_2.length c0_2]) (t := 24) ?hr ?_; (case hd => rfl); (case hg => rfl); (case hr => first | (go_simp; done) | (go_simp; rfl)); intro gb1292 hg w10 hbox hb; have n0_ := Aside0.mk (below_step (by repeat (first | (with_reducible first | exact HB.out | apply below_alloc | apply pw_below_drewN | apply below_drew1) | exact HB.out)) hb); have n1_ := Aside0.mk (hbox); have n2_ := Aside0.mk ((by rw [hg]; exact (below_size (by repeat (first | (with_reducible first | exact HB.out | apply below_alloc | apply pw_below_drewN | apply below_drew1) | exact HB.out))) : w.heap.size ≤ gb1292)); have n3_ := Aside0.mk ((by rw [hg]; exact (below_size (by repeat (first | (with_reducible first | exact HB.out | apply below_alloc | apply pw_below_drewN | apply below_drew1) | exact HB.out))) : w.heap.size ≤ gb1292)); clear HB; have HB := n0_; have BK1292 := n1_; have GW1292 := n2_; have GE1292 := n3_; clear n0_ n1_ n2_ n3_; clear hb hbox hg) | ((with_reducible refine gate_callee (f := 81) rfl ?_); refine goesL_ (some 21) rfl rfl Try.func81 (by kernel_rfl) rfl #[] rfl (by (try simp only [List.map_toArray, List.map_cons, List.map_nil]); first | done | rfl | (simp only [List.length_drop, List.length_take]; rfl)) ?_; (with_reducible refine (ebbtidelaw10_awake.calls k  true _ A5.out).mono ?_); rintro e w11 ⟨rfl, hb⟩; refine ⟨_, rfl, ?_⟩; have n0_ := Aside0.mk (blk_below (g := gb1292) (o := .cells #[.int .i64 a0_0, .bool a0_1, .slice A0_2 l0_2.length c0_2] 24 (0, 0)) (by (with_reducible repeat (first | refine blk_drewN ?_ _ | refine blk_drew ?_ | refine blk_alloc ?_ _)); exact BK1292.out) hb); have n1_ := Aside0.mk (below_step (by repeat (first | (with_reducible first | exact HB.out | apply below_alloc | apply pw_below_drewN | apply below_drew1 | refine below_set ?_ GE1292.out) | exact HB.out)) hb); clear BK1292; clear HB; have BK1292 := n0_; have HB := n1_; clear n0_ n1_; (try clear hb); (try clear hb2); (try clear hk); (try clear hi); have hcz12_0 : w11.cell? ⟨gb1292, 0, none⟩ = some (.int .i64 a0_0) := (blk_cell BK1292.out 0).trans rfl; have hcz12_1 : w11.cell? ⟨gb1292, 1, none⟩ = some (.bool a0_1) := (blk_cell BK1292.out 1).trans rfl; have hcz12_2 : w11.cell? ⟨gb1292, 2, none⟩ = some (.slice A0_2 l0_2.length c0_2) := (blk_cell BK1292.out 2).trans rfl; have hfz12_0 := blk_frozen BK1292.out 0; have hfz12_1 := blk_frozen BK1292.out 1; have hfz12_2 := blk_frozen BK1292.out 2) | ((with_reducible refine gate_callee (f := 79) rfl ?_); refine goesL_ (some 28) rfl rfl Try.func79 (by kernel_rfl) rfl #[.agg #[.int .i64 a0_0, .bool a0_1, .slice A0_2 l0_2.length c0_2], .int .i64 a1, .int .i64 a2] rfl (by (try simp only [List.map_toArray, List.map_cons, List.map_nil]); first | done | rfl | (simp only [List.length_drop, List.length_take]; rfl)) ?_; (with_reducible refine (mincut_Least.calls k a0_0 a0_1 _ _ l0_2 a1 a2 t1294 t1297 t1298 _ ?side1 ?side2 A7.out).mono ?_); (case side1 => repeat (first | exact (Kd.C_below HR0_2.out HB.out) | (with_reducible refine Kd.C_alloc ?_ _) | (with_reducible refine Kd.C_drewN ?_ _) | (with_reducible refine Kd.C_drew ?_))); (case side2 => exact HC0_2.out); rintro e w13 ⟨v1295, rfl, ho0, hb⟩; refine ⟨_, rfl, ?_⟩; have n0_ := Aside0.mk (Kd.R_lower ho0 (below_size (by repeat (first | (with_reducible first | exact HB.out | apply below_alloc | apply pw_below_drewN | apply below_drew1 | refine below_set ?_ GE1292.out) | exact HB.out)))); have n1_ := Aside0.mk (blk_below (g := gb1292) (o := .cells #[.int .i64 a0_0, .bool a0_1, .slice A0_2 l0_2.length c0_2] 24 (0, 0)) (by (with_reducible repeat (first | refine blk_drewN ?_ _ | refine blk_drew ?_ | refine blk_alloc ?_ _)); exact BK1292.out) hb); have n2_ := Aside0.mk (below_step (by repeat (first | (with_reducible first | exact HB.out | apply below_alloc | apply pw_below_drewN | apply below_drew1 | refine below_set ?_ GE1292.out) | exact HB.out)) hb); clear BK1292; clear HB; have HO1296 := n0_; have BK1292 := n1_; have HB := n2_; clear n0_ n1_ n2_; (try clear hb); (try clear hb2); (try clear hk); (try clear hi); (try clear ho0); have hcz14_0 : w13.cell? ⟨gb1292, 0, none⟩ = some (.int .i64 a0_0) := (blk_cell BK1292.out 0).trans rfl; have hcz14_1 : w13.cell? ⟨gb1292, 1, none⟩ = some (.bool a0_1) := (blk_cell BK1292.out 1).trans rfl; have hcz14_2 : w13.cell? ⟨gb1292, 2, none⟩ = some (.slice A0_2 l0_2.length c0_2) := (blk_cell BK1292.out 2).trans rfl; have hfz14_0 := blk_frozen BK1292.out 0; have hfz14_1 := blk_frozen BK1292.out 1; have hfz14_2 := blk_frozen BK1292.out 2) | ((with_reducible refine gate_callee (f := 76) rfl ?_); refine goesL_ (some 36) rfl rfl Try.func76 (by kernel_rfl) rfl #[.agg #[.int .i64 a0_0, .bool a0_1, .slice A0_2 l0_2.length c0_2], .int .i64 a1, .int .i64 a2] rfl (by (try simp only [List.map_toArray, List.map_cons, List.map_nil]); first | done | rfl | (simp only [List.length_drop, List.length_take]; rfl)) ?_; (with_reducible refine (maxflow_Max.calls k a0_0 a0_1 _ _ l0_2 a1 a2 t1299 t1302 t1303 _ ?side1 ?side2 A8.out).mono ?_); (case side1 => repeat (first | exact (Kd.C_below HR0_2.out HB.out) | (with_reducible refine Kd.C_alloc ?_ _) | (with_reducible refine Kd.C_drewN ?_ _) | (with_reducible refine Kd.C_drew ?_))); (case side2 => exact HC0_2.out); rintro e w15 ⟨v1300, rfl, ho0, hb⟩; refine ⟨_, rfl, ?_⟩; have n0_ := Aside0.mk (Kd.R_below (by (with_reducible repeat (first | apply Kd.R_alloc | apply Kd.R_drewN | apply Kd.R_drew)); exact HO1296.out) hb); have n1_ := Aside0.mk (Kd.R_lower ho0 (below_size (by repeat (first | (with_reducible first | exact HB.out | apply below_alloc | apply pw_below_drewN | apply below_drew1 | refine below_set ?_ GE1292.out) | exact HB.out)))); have n2_ := Aside0.mk (blk_below (g := gb1292) (o := .cells #[.int .i64 a0_0, .bool a0_1, .slice A0_2 l0_2.length c0_2] 24 (0, 0)) (by (with_reducible repeat (first | refine blk_drewN ?_ _ | refine blk_drew ?_ | refine blk_alloc ?_ _)); exact BK1292.out) hb); have n3_ := Aside0.mk (below_step (by repeat (first | (with_reducible first | exact HB.out | apply below_alloc | apply pw_below_drewN | apply below_drew1 | refine below_set ?_ GE1292.out) | exact HB.out)) hb); clear HO1296; clear BK1292; clear HB; have HO1296 := n0_; have HO1301 := n1_; have BK1292 := n2_; have HB := n3_; clear n0_ n1_ n2_ n3_; (try clear hb); (try clear hb2); (try clear hk); (try clear hi); (try clear ho0)))
 (try simp only [Act.put, List.setIfInBounds_toArray, List.set_cons_zero, List.set_cons_succ])
 go_cut [45] (fun v45 wc => ∃ (kq : Nat) (x45_8 : Bool), v45 = .bool x45_8 ∧ Aside0 (ebbtidelaw10_MincutAny.j0 kq a1 a2 l3 true t1294 t1297 t1298 t1299 t1303 x45_8 a0_0 a0_1 l0_2 = some r) ∧ Aside0 (kq ≤ k) ∧ Aside0 (Kd.R Kd.bool 4 wc w.heap.size (fun _ => True) v1295 t1294) ∧ Aside0 (Kd.R (Kd.int .i64) 3 wc w.heap.size (fun _ => True) v1300 t1299) ∧ Aside0 (wc.heap[gb1292]? = some (.cells #[.int .i64 a0_0, .bool a0_1, (.slice A0_2 l0_2.length c0_2)] 24 (0, 0))) ∧ Aside0 (Below w.heap.size w wc))
 case first =>
  have H := HC9.out
  clear HC9
  by_cases c16 : t1298 = 0
  rotate_left
  ·rw [if_neg c16] at H
   have c16b0 : (t1298 == 0) = false := beq_eq_false_iff_ne.mpr c16
   have c16b1 : (t1298 != 0) = true := bne_iff_ne.mpr c16
   (first | rw [c16b0] | (simp only [i64_w, i32_w]; rw [c16b0]) | skip)
   have H' := Aside0.mk H
   clear H
   go_wp2
   go_meet
   case rel => exact ⟨_, (true), (by first | rfl | (simp; done) | (simp [*]; done)), H', ⟨by first | omega | exact Nat.le_refl _⟩, ⟨by (with_reducible repeat (first | apply Kd.R_alloc | apply Kd.R_drewN | apply Kd.R_drew)); exact HO1296.out⟩, ⟨by (with_reducible repeat (first | apply Kd.R_alloc | apply Kd.R_drewN | apply Kd.R_drew)); exact HO1301.out⟩, ⟨by (with_reducible repeat (first | refine blk_drewN ?_ _ | refine blk_drew ?_ | refine blk_alloc ?_ _)); exact BK1292.out⟩, ⟨by repeat (first | (with_reducible first | exact HB.out | apply below_alloc | apply pw_below_drewN | apply below_drew1 | refine below_set ?_ GE1292.out) | exact HB.out)⟩⟩
  rw [if_pos c16] at H
  have c16b0 : (t1298 == 0) = true := beq_iff_eq.mpr c16
  have c16b1 : (t1298 != 0) = false := bne_eq_false_iff_eq.mpr c16
  clear c16
  (first | rw [c16b0] | (simp only [i64_w, i32_w]; rw [c16b0]) | skip)
  have H' := Aside0.mk H
  clear H
  go_wp2
  go_meet
  case rel => exact ⟨_, ((t1303 != 0)), (by first | rfl | (simp; done) | (simp [*]; done)), H', ⟨by first | omega | exact Nat.le_refl _⟩, ⟨by (with_reducible repeat (first | apply Kd.R_alloc | apply Kd.R_drewN | apply Kd.R_drew)); exact HO1296.out⟩, ⟨by (with_reducible repeat (first | apply Kd.R_alloc | apply Kd.R_drewN | apply Kd.R_drew)); exact HO1301.out⟩, ⟨by (with_reducible repeat (first | refine blk_drewN ?_ _ | refine blk_drew ?_ | refine blk_alloc ?_ _)); exact BK1292.out⟩, ⟨by repeat (first | (with_reducible first | exact HB.out | apply below_alloc | apply pw_below_drewN | apply below_drew1 | refine below_set ?_ GE1292.out) | exact HB.out)⟩⟩
 case rest =>
  clear HC9
  try clear c1
  try clear p2
  try clear c3
  try clear c6
  try clear c7
  try clear c8
  try clear c16
  try clear c16b0
  try clear c16b1
  try clear hcz12_0
  try clear hcz12_1
  try clear hcz12_2
  try clear hcz14_0
  try clear hcz14_1
  try clear hcz14_2
  try clear hfz12_0
  try clear hfz12_1
  try clear hfz12_2
  try clear hfz14_0
  try clear hfz14_1
  try clear hfz14_2
  obtain ⟨kq, x45_8, rfl, HA, HJ8, HO_10, HO_13, BK1292, HB⟩ := hcut
  cases kq with
  | zero => exact absurd HA.out (by simp [ebbtidelaw10_MincutAny.j0])
  | succ kj8 =>
   have H := HA.out
   clear HA
   simp only [ebbtidelaw10_MincutAny.j0] at H
   by_cases c17 : x45_8 = true
   ·subst c17
    have H1 : (if true = true then (some (t1298 == t1303)) else (some false)) = some r := by first | (rw [if_pos rfl] at H; exact H) | (rw [if_pos trivial] at H; exact H)
    clear H
    have H := H1
    clear H1
    by_cases c18 : true = true
    rotate_left
    ·exact absurd rfl c18
    clear c18
    have H1 : (some (t1298 == t1303)) = some r := by first | (rw [if_pos rfl] at H; exact H) | (rw [if_pos trivial] at H; exact H)
    clear H
    have H := H1
    clear H1
    obtain rfl := Option.some.inj H
    go_wp2
    go_ret
    exact ⟨by first | rfl | (simp [errW_none, errW_some] <;> rfl) | (simp [*, errW_none, errW_some] <;> rfl), by repeat (first | (with_reducible first | exact HB.out | apply below_alloc | apply pw_below_drewN | apply below_drew1 | refine below_set ?_ GE1292.out) | exact HB.out)⟩
   replace c17 := Bool.eq_false_iff.mpr c17
   subst c17
   have H1 : ((mincut_Side.f kj8 a0_0 a0_1 l0_2 t1299 a1).bind fun bt1304 => (if bt1304.2 = 0 then ((ebbtideref10_Same.f kj8 bt1304.1 t1294).bind fun t1308 => (ebbtidelaw10_MincutAny.j1 kj8 a1 a2 l3 true t1294 t1297 (!t1308) a0_0 a0_1 l0_2)) else (ebbtidelaw10_MincutAny.j1 kj8 a1 a2 l3 true t1294 t1297 true a0_0 a0_1 l0_2))) = some r := by rw [if_neg (show ¬ (false = true) by decide)] at H; exact H
   clear H
   have H := H1
   clear H1
   replace H := Option.bind_eq_some_iff.mp H
   obtain ⟨⟨t1304, t1307⟩, A190, H⟩ := H
   replace H : (if t1307 = 0 then ((ebbtideref10_Same.f kj8 t1304 t1294).bind fun t1308 => (ebbtidelaw10_MincutAny.j1 kj8 a1 a2 l3 true t1294 t1297 (!t1308) a0_0 a0_1 l0_2)) else (ebbtidelaw10_MincutAny.j1 kj8 a1 a2 l3 true t1294 t1297 true a0_0 a0_1 l0_2)) = some r := H
   have A19 := Aside0.mk A190
   clear A190
   have HC20 := Aside0.mk H
   clear H
   have hcz21_0 : wc.cell? ⟨gb1292, 0, none⟩ = some (.int .i64 a0_0) := (blk_cell BK1292.out 0).trans rfl
   have hcz21_1 : wc.cell? ⟨gb1292, 1, none⟩ = some (.bool a0_1) := (blk_cell BK1292.out 1).trans rfl
   have hcz21_2 : wc.cell? ⟨gb1292, 2, none⟩ = some (.slice A0_2 l0_2.length c0_2) := (blk_cell BK1292.out 2).trans rfl
   have hfz21_0 := blk_frozen BK1292.out 0
   have hfz21_1 := blk_frozen BK1292.out 1
   have hfz21_2 := blk_frozen BK1292.out 2
   obtain ⟨Ao22, co22, eo22⟩ := Kd.R_slice HO_13.out
   subst eo22
   go_upto_region 9 with (first | ((with_reducible refine gate_callee (f := 83) rfl ?_); refine goesL_ (some 56) rfl rfl Try.func83 (by kernel_rfl) rfl #[.agg #[.int .i64 a0_0, .bool a0_1, .slice A0_2 l0_2.length c0_2], .slice Ao22 t1299.length co22, .int .i64 a1] rfl (by (try simp only [List.map_toArray, List.map_cons, List.map_nil]); first | done | rfl | (simp only [List.length_drop, List.length_take]; rfl)) ?_; (with_reducible refine (mincut_Side.calls kj8 a0_0 a0_1 _ _ l0_2 _ _ t1299 a1 t1304 t1307 _ ?side1 ?side2 ?side3 ?side4 A19.out).mono ?_); (case side1 => repeat (first | exact (Kd.C_below HR0_2.out HB.out) | (with_reducible refine Kd.C_alloc ?_ _) | (with_reducible refine Kd.C_drewN ?_ _) | (with_reducible refine Kd.C_drew ?_))); (case side2 => exact HC0_2.out); (case side3 => repeat (first | exact (Kd.R_reads' HO_13.out).2.2 | (with_reducible refine Kd.C_alloc ?_ _) | (with_reducible refine Kd.C_drewN ?_ _) | (with_reducible refine Kd.C_drew ?_))); (case side4 => exact (Kd.R_reads' HO_13.out).2.1); rintro e w23 ⟨v1305, rfl, ho0, hb⟩; refine ⟨_, rfl, ?_⟩; have n0_ := Aside0.mk (Kd.R_elder' (by (with_reducible repeat (first | apply Kd.R_alloc | apply Kd.R_drewN | apply Kd.R_drew)); exact HO_10.out) (Kd.R_base ho0) hb); have n1_ := Aside0.mk (Kd.R_below (by (with_reducible repeat (first | apply Kd.R_alloc | apply Kd.R_drewN | apply Kd.R_drew)); exact HO_13.out) hb); have n2_ := Aside0.mk (Kd.R_lower (Kd.R_new' ho0 (Kd.R_lt (by (with_reducible repeat (first | apply Kd.R_alloc | apply Kd.R_drewN | apply Kd.R_drew)); exact HO_10.out))) (below_size (by repeat (first | (with_reducible first | exact HB.out | apply below_alloc | apply pw_below_drewN | apply below_drew1 | refine below_set ?_ GE1292.out) | exact HB.out)))); have n3_ := Aside0.mk (blk_below (g := gb1292) (o := .cells #[.int .i64 a0_0, .bool a0_1, .slice A0_2 l0_2.length c0_2] 24 (0, 0)) (by (with_reducible repeat (first | refine blk_drewN ?_ _ | refine blk_drew ?_ | refine blk_alloc ?_ _)); exact BK1292.out) hb); have n4_ := Aside0.mk (below_step (by repeat (first | (with_reducible first | exact HB.out | apply below_alloc | apply pw_below_drewN | apply below_drew1 | refine below_set ?_ GE1292.out) | exact HB.out)) hb); clear HO_10; clear HO_13; clear BK1292; clear HB; have HO_10 := n0_; have HO_13 := n1_; have HO1306 := n2_; have BK1292 := n3_; have HB := n4_; clear n0_ n1_ n2_ n3_ n4_; (try clear hb); (try clear hb2); (try clear hk); (try clear hi); (try clear ho0)))
   (try simp only [Act.put, List.setIfInBounds_toArray, List.set_cons_zero, List.set_cons_succ])
   go_cut [66] (fun v66 wc => ∃ (kq : Nat) (x66_19 : Bool), v66 = .bool x66_19 ∧ Aside0 (ebbtidelaw10_MincutAny.j1 kq a1 a2 l3 true t1294 t1297 x66_19 a0_0 a0_1 l0_2 = some r) ∧ Aside0 (kq ≤ kj8) ∧ Aside0 (Kd.R Kd.bool 4 wc w.heap.size (fun _ => True) v1295 t1294) ∧ Aside0 (wc.heap[gb1292]? = some (.cells #[.int .i64 a0_0, .bool a0_1, (.slice A0_2 l0_2.length c0_2)] 24 (0, 0))) ∧ Aside0 (Below w.heap.size w wc))
   case first =>
    have H := HC20.out
    clear HC20
    by_cases c24 : t1307 = 0
    rotate_left
    ·rw [if_neg c24] at H
     have c24b0 : (t1307 == 0) = false := beq_eq_false_iff_ne.mpr c24
     have c24b1 : (t1307 != 0) = true := bne_iff_ne.mpr c24
     (first | rw [c24b0] | (simp only [i64_w, i32_w]; rw [c24b0]) | skip)
     have H' := Aside0.mk H
     clear H
     go_wp2
     go_meet
     case rel => exact ⟨_, (true), (by first | rfl | (simp; done) | (simp [*]; done)), H', ⟨by have := HJ8.out; first | omega | exact Nat.le_refl _⟩, ⟨by (with_reducible repeat (first | apply Kd.R_alloc | apply Kd.R_drewN | apply Kd.R_drew)); exact Kd.R_mono HO_10.out (fun _ hk => trivial)⟩, ⟨by (with_reducible repeat (first | refine blk_drewN ?_ _ | refine blk_drew ?_ | refine blk_alloc ?_ _)); exact BK1292.out⟩, ⟨by repeat (first | (with_reducible first | exact HB.out | apply below_alloc | apply pw_below_drewN | apply below_drew1 | refine below_set ?_ GE1292.out) | exact HB.out)⟩⟩
    rw [if_pos c24] at H
    have c24b0 : (t1307 == 0) = true := beq_iff_eq.mpr c24
    have c24b1 : (t1307 != 0) = false := bne_eq_false_iff_eq.mpr c24
    clear c24
    (first | rw [c24b0] | (simp only [i64_w, i32_w]; rw [c24b0]) | skip)
    replace H := Option.bind_eq_some_iff.mp H
    obtain ⟨t1308, A250, H⟩ := H
    replace H : (ebbtidelaw10_MincutAny.j1 kj8 a1 a2 l3 true t1294 t1297 (!t1308) a0_0 a0_1 l0_2) = some r := H
    have A25 := Aside0.mk A250
    clear A250
    have H' := Aside0.mk H
    clear H
    obtain ⟨Ao26, co26, eo26⟩ := Kd.R_slice HO1306.out
    subst eo26
    obtain ⟨Ao27, co27, eo27⟩ := Kd.R_slice HO_10.out
    subst eo27
    go_wp2_with (first | (go_at_call 42; (with_reducible refine (ebbtideref10_Same.calls kj8 _ _ t1304 _ _ t1294 t1308 _ ?side1 ?side2 ?side3 ?side4 A25.out).mono ?_); (case side1 => repeat (first | exact (Kd.R_reads' HO1306.out).2.2 | (with_reducible refine Kd.C_alloc ?_ _) | (with_reducible refine Kd.C_drewN ?_ _) | (with_reducible refine Kd.C_drew ?_))); (case side2 => exact (Kd.R_reads' HO1306.out).2.1); (case side3 => repeat (first | exact (Kd.R_reads' HO_10.out).2.2 | (with_reducible refine Kd.C_alloc ?_ _) | (with_reducible refine Kd.C_drewN ?_ _) | (with_reducible refine Kd.C_drew ?_))); (case side4 => exact (Kd.R_reads' HO_10.out).2.1); rintro e w' ⟨rfl, ⟨nd, rfl⟩⟩))
    go_meet
    case rel => exact ⟨_, (!t1308), (by first | rfl | (simp; done) | (simp [*]; done)), H', ⟨by have := HJ8.out; first | omega | exact Nat.le_refl _⟩, ⟨by (with_reducible repeat (first | apply Kd.R_alloc | apply Kd.R_drewN | apply Kd.R_drew)); exact Kd.R_mono HO_10.out (fun _ hk => trivial)⟩, ⟨by (with_reducible repeat (first | refine blk_drewN ?_ _ | refine blk_drew ?_ | refine blk_alloc ?_ _)); exact BK1292.out⟩, ⟨by repeat (first | (with_reducible first | exact HB.out | apply below_alloc | apply pw_below_drewN | apply below_drew1 | refine below_set ?_ GE1292.out) | exact HB.out)⟩⟩
   case rest =>
    clear HC20
    try clear c1
    try clear c2
    try clear p2
    try clear c3
    try clear c6
    try clear c7
    try clear c8
    try clear c16
    try clear c16b0
    try clear c16b1
    try clear c17
    try clear c18
    try clear c24
    try clear c24b0
    try clear c24b1
    try clear hcz12_0
    try clear hcz12_1
    try clear hcz12_2
    try clear hcz14_0
    try clear hcz14_1
    try clear hcz14_2
    try clear hcz21_0
    try clear hcz21_1
    try clear hcz21_2
    try clear hfz12_0
    try clear hfz12_1
    try clear hfz12_2
    try clear hfz14_0
    try clear hfz14_1
    try clear hfz14_2
    try clear hfz21_0
    try clear hfz21_1
    try clear hfz21_2
    try clear p2
    obtain ⟨kq, x66_19, rfl, HA, HJ19, HO_10, BK1292, HB⟩ := hcut
    cases kq with
    | zero => exact absurd HA.out (by simp [ebbtidelaw10_MincutAny.j1])
    | succ kj19 =>
     have H := HA.out
     clear HA
     simp only [ebbtidelaw10_MincutAny.j1] at H
     by_cases c28 : x66_19 = true
     ·subst c28
      have H1 : (some false) = some r := by first | (rw [if_pos rfl] at H; exact H) | (rw [if_pos trivial] at H; exact H)
      exact absurd (Option.some.inj H1) (by rw [HRT.out]; decide)
     replace c28 := Bool.eq_false_iff.mpr c28
     subst c28
     have H1 : ((mincut_Capacity.f kj19 a0_0 a0_1 l0_2 l3).bind fun bt1309 => (if bt1309.2 = 0 then (if 0 ≤ a1 then (if a1 < (l3.length : Int) then (if rdOf false l3 a1 = true then (if 0 ≤ a2 then (if a2 < (l3.length : Int) then (ebbtidelaw10_MincutAny.j2 kj19 l3 true t1294 t1297 bt1309.1 (rdOf false l3 a2)) else (none)) else (none)) else (ebbtidelaw10_MincutAny.j2 kj19 l3 true t1294 t1297 bt1309.1 true)) else (none)) else (none)) else (ebbtidelaw10_MincutAny.j2 kj19 l3 true t1294 t1297 bt1309.1 true))) = some r := by rw [if_neg (show ¬ (false = true) by decide)] at H; exact H
     clear H
     have H := H1
     clear H1
     replace H := Option.bind_eq_some_iff.mp H
     obtain ⟨⟨t1309, t1310⟩, A290, H⟩ := H
     replace H : (if t1310 = 0 then (if 0 ≤ a1 then (if a1 < (l3.length : Int) then (if rdOf false l3 a1 = true then (if 0 ≤ a2 then (if a2 < (l3.length : Int) then (ebbtidelaw10_MincutAny.j2 kj19 l3 true t1294 t1297 t1309 (rdOf false l3 a2)) else (none)) else (none)) else (ebbtidelaw10_MincutAny.j2 kj19 l3 true t1294 t1297 t1309 true)) else (none)) else (none)) else (ebbtidelaw10_MincutAny.j2 kj19 l3 true t1294 t1297 t1309 true)) = some r := H
     have A29 := Aside0.mk A290
     clear A290
     have HC30 := Aside0.mk H
     clear H
     have hcz31_0 : wc.cell? ⟨gb1292, 0, none⟩ = some (.int .i64 a0_0) := (blk_cell BK1292.out 0).trans rfl
     have hcz31_1 : wc.cell? ⟨gb1292, 1, none⟩ = some (.bool a0_1) := (blk_cell BK1292.out 1).trans rfl
     have hcz31_2 : wc.cell? ⟨gb1292, 2, none⟩ = some (.slice A0_2 l0_2.length c0_2) := (blk_cell BK1292.out 2).trans rfl
     have hfz31_0 := blk_frozen BK1292.out 0
     have hfz31_1 := blk_frozen BK1292.out 1
     have hfz31_2 := blk_frozen BK1292.out 2
     go_upto_region 12 with (first | ((with_reducible refine gate_callee (f := 82) rfl ?_); refine goesL_ (some 70) rfl rfl Try.func82 (by kernel_rfl) rfl #[.agg #[.int .i64 a0_0, .bool a0_1, .slice A0_2 l0_2.length c0_2], .slice A3 l3.length c3] rfl (by (try simp only [List.map_toArray, List.map_cons, List.map_nil]); first | done | rfl | (simp only [List.length_drop, List.length_take]; rfl)) ?_; (with_reducible refine (mincut_Capacity.calls kj19 a0_0 a0_1 _ _ l0_2 _ _ l3 t1309 t1310 _ ?side1 ?side2 ?side3 ?side4 A29.out).mono ?_); (case side1 => repeat (first | exact (Kd.C_below HR0_2.out HB.out) | (with_reducible refine Kd.C_alloc ?_ _) | (with_reducible refine Kd.C_drewN ?_ _) | (with_reducible refine Kd.C_drew ?_))); (case side2 => exact HC0_2.out); (case side3 => repeat (first | exact (Kd.C_below HR3.out HB.out) | (with_reducible refine Kd.C_alloc ?_ _) | (with_reducible refine Kd.C_drewN ?_ _) | (with_reducible refine Kd.C_drew ?_))); (case side4 => exact HC3.out); rintro e w32 ⟨rfl, hb⟩; refine ⟨_, rfl, ?_⟩; have n0_ := Aside0.mk (Kd.R_below (by (with_reducible repeat (first | apply Kd.R_alloc | apply Kd.R_drewN | apply Kd.R_drew)); exact HO_10.out) hb); have n1_ := Aside0.mk (blk_below (g := gb1292) (o := .cells #[.int .i64 a0_0, .bool a0_1, .slice A0_2 l0_2.length c0_2] 24 (0, 0)) (by (with_reducible repeat (first | refine blk_drewN ?_ _ | refine blk_drew ?_ | refine blk_alloc ?_ _)); exact BK1292.out) hb); have n2_ := Aside0.mk (below_step (by repeat (first | (with_reducible first | exact HB.out | apply below_alloc | apply pw_below_drewN | apply below_drew1 | refine below_set ?_ GE1292.out) | exact HB.out)) hb); clear HO_10; clear BK1292; clear HB; have HO_10 := n0_; have BK1292 := n1_; have HB := n2_; clear n0_ n1_ n2_; (try clear hb); (try clear hb2); (try clear hk); (try clear hi)))
     (try simp only [Act.put, List.setIfInBounds_toArray, List.set_cons_zero, List.set_cons_succ])
     go_cut [87] (fun v87 wc => ∃ (kq : Nat) (x87_29 : Bool), v87 = .bool x87_29 ∧ Aside0 (ebbtidelaw10_MincutAny.j2 kq l3 true t1294 t1297 t1309 x87_29 = some r) ∧ Aside0 (kq ≤ kj19) ∧ Aside0 (Kd.R Kd.bool 4 wc w.heap.size (fun _ => True) v1295 t1294) ∧ Aside0 (wc.heap[gb1292]? = some (.cells #[.int .i64 a0_0, .bool a0_1, (.slice A0_2 l0_2.length c0_2)] 24 (0, 0))) ∧ Aside0 (Below w.heap.size w wc))
     case first =>
      have H := HC30.out
      clear HC30
      by_cases c33 : t1310 = 0
      rotate_left
      ·rw [if_neg c33] at H
       have c33b0 : (t1310 == 0) = false := beq_eq_false_iff_ne.mpr c33
       have c33b1 : (t1310 != 0) = true := bne_iff_ne.mpr c33
       (first | rw [c33b0] | (simp only [i64_w, i32_w]; rw [c33b0]) | skip)
       have H' := Aside0.mk H
       clear H
       go_wp2
       go_meet
       case rel => exact ⟨_, (true), (by first | rfl | (simp; done) | (simp [*]; done)), H', ⟨by have := HJ8.out; have := HJ19.out; first | omega | exact Nat.le_refl _⟩, ⟨by (with_reducible repeat (first | apply Kd.R_alloc | apply Kd.R_drewN | apply Kd.R_drew)); exact HO_10.out⟩, ⟨by (with_reducible repeat (first | refine blk_drewN ?_ _ | refine blk_drew ?_ | refine blk_alloc ?_ _)); exact BK1292.out⟩, ⟨by repeat (first | (with_reducible first | exact HB.out | apply below_alloc | apply pw_below_drewN | apply below_drew1 | refine below_set ?_ GE1292.out) | exact HB.out)⟩⟩
      rw [if_pos c33] at H
      have c33b0 : (t1310 == 0) = true := beq_iff_eq.mpr c33
      have c33b1 : (t1310 != 0) = false := bne_eq_false_iff_eq.mpr c33
      clear c33
      (first | rw [c33b0] | (simp only [i64_w, i32_w]; rw [c33b0]) | skip)
      by_cases c34 : 0 ≤ a1
      rotate_left
      ·rw [if_neg c34] at H
       exact absurd H (by simp)
      rw [if_pos c34] at H
      have c34b0 : decide (0 ≤ a1) = true := decide_eq_true c34
      clear c34
      by_cases c35 : a1 < (l3.length : Int)
      rotate_left
      ·rw [if_neg c35] at H
       exact absurd H (by simp)
      rw [if_pos c35] at H
      have c35b0 : decide (a1 < (l3.length : Int)) = true := decide_eq_true c35
      clear c35
      obtain ⟨bq36, hbq36⟩ : ∃ b_ : Bool, b_ = (rdOf false l3 a1) := ⟨_, rfl⟩
      replace H : (if bq36 = true then (if 0 ≤ a2 then (if a2 < (l3.length : Int) then (ebbtidelaw10_MincutAny.j2 kj19 l3 true t1294 t1297 t1309 (rdOf false l3 a2)) else (none)) else (none)) else (ebbtidelaw10_MincutAny.j2 kj19 l3 true t1294 t1297 t1309 true)) = some r := by rw [← hbq36] at H; exact H
      have Nbq36 := Aside0.mk hbq36
      clear hbq36
      by_cases c37 : bq36 = true
      rotate_left
      ·replace c37 := Bool.eq_false_iff.mpr c37
       subst c37
       have H1 : (ebbtidelaw10_MincutAny.j2 kj19 l3 true t1294 t1297 t1309 true) = some r := by rw [if_neg (show ¬ (false = true) by decide)] at H; exact H
       clear H
       have H := H1
       clear H1
       have H' := Aside0.mk H
       clear H
       have p1311 : 0 ≤ (a1 : Int) := of_decide_eq_true (by first | (with_reducible assumption) | assumption)
       have q1311 : a1 < (l3.length : Int) := of_decide_eq_true (by first | (with_reducible assumption) | assumption)
       obtain ⟨ad1311, e1311, hx1311_0⟩ := Kd.at_bool HR3.out a1 p1311 q1311
       (try rw [← Nbq36.out] at hx1311_0)
       cases e1311
       replace hx1311_0 := (HB.out.cell (World.block_lt_of_cell? w _ hx1311_0)).trans hx1311_0
       replace p1311 := eq_true p1311
       replace q1311 := eq_true q1311
       go_wp2
       go_meet
       case rel => exact ⟨_, (true), (by first | rfl | (simp; done) | (simp [*]; done)), H', ⟨by have := HJ8.out; have := HJ19.out; first | omega | exact Nat.le_refl _⟩, ⟨by (with_reducible repeat (first | apply Kd.R_alloc | apply Kd.R_drewN | apply Kd.R_drew)); exact HO_10.out⟩, ⟨by (with_reducible repeat (first | refine blk_drewN ?_ _ | refine blk_drew ?_ | refine blk_alloc ?_ _)); exact BK1292.out⟩, ⟨by repeat (first | (with_reducible first | exact HB.out | apply below_alloc | apply pw_below_drewN | apply below_drew1 | refine below_set ?_ GE1292.out) | exact HB.out)⟩⟩
      subst c37
      have H1 : (if 0 ≤ a2 then (if a2 < (l3.length : Int) then (ebbtidelaw10_MincutAny.j2 kj19 l3 true t1294 t1297 t1309 (rdOf false l3 a2)) else (none)) else (none)) = some r := by first | (rw [if_pos rfl] at H; exact H) | (rw [if_pos trivial] at H; exact H)
      clear H
      have H := H1
      clear H1
      by_cases c38 : 0 ≤ a2
      rotate_left
      ·rw [if_neg c38] at H
       exact absurd H (by simp)
      rw [if_pos c38] at H
      have c38b0 : decide (0 ≤ a2) = true := decide_eq_true c38
      clear c38
      by_cases c39 : a2 < (l3.length : Int)
      rotate_left
      ·rw [if_neg c39] at H
       exact absurd H (by simp)
      rw [if_pos c39] at H
      have c39b0 : decide (a2 < (l3.length : Int)) = true := decide_eq_true c39
      clear c39
      have H' := Aside0.mk H
      clear H
      have p1311 : 0 ≤ (a1 : Int) := of_decide_eq_true (by first | (with_reducible assumption) | assumption)
      have q1311 : a1 < (l3.length : Int) := of_decide_eq_true (by first | (with_reducible assumption) | assumption)
      obtain ⟨ad1311, e1311, hx1311_0⟩ := Kd.at_bool HR3.out a1 p1311 q1311
      (try rw [← Nbq36.out] at hx1311_0)
      cases e1311
      replace hx1311_0 := (HB.out.cell (World.block_lt_of_cell? w _ hx1311_0)).trans hx1311_0
      replace p1311 := eq_true p1311
      replace q1311 := eq_true q1311
      have p1312 : 0 ≤ (a2 : Int) := of_decide_eq_true (by first | (with_reducible assumption) | assumption)
      have q1312 : a2 < (l3.length : Int) := of_decide_eq_true (by first | (with_reducible assumption) | assumption)
      obtain ⟨ad1312, e1312, hx1312_0⟩ := Kd.at_bool HR3.out a2 p1312 q1312
      (try rw [← Nbq36.out] at hx1312_0)
      obtain rfl : ad1311 = ad1312 := (by injection e1312)
      replace hx1312_0 := (HB.out.cell (World.block_lt_of_cell? w _ hx1312_0)).trans hx1312_0
      replace p1312 := eq_true p1312
      replace q1312 := eq_true q1312
      go_wp2
      go_meet
      case rel => exact ⟨_, (rdOf false l3 a2), (by first | rfl | (simp; done) | (simp [*]; done)), H', ⟨by have := HJ8.out; have := HJ19.out; first | omega | exact Nat.le_refl _⟩, ⟨by (with_reducible repeat (first | apply Kd.R_alloc | apply Kd.R_drewN | apply Kd.R_drew)); exact HO_10.out⟩, ⟨by (with_reducible repeat (first | refine blk_drewN ?_ _ | refine blk_drew ?_ | refine blk_alloc ?_ _)); exact BK1292.out⟩, ⟨by repeat (first | (with_reducible first | exact HB.out | apply below_alloc | apply pw_below_drewN | apply below_drew1 | refine below_set ?_ GE1292.out) | exact HB.out)⟩⟩
     case rest =>
      clear HC30
      try clear c1
      try clear p1
      try clear q1
      try clear hx1
      try clear c2
      try clear p2
      try clear c3
      try clear q3
      try clear c6
      try clear c7
      try clear c8
      try clear p13
      try clear q13
      try clear hx13
      try clear c16
      try clear c16b0
      try clear c16b1
      try clear c17
      try clear c18
      try clear c24
      try clear c24b0
      try clear c24b1
      try clear c28
      try clear c33
      try clear c33b0
      try clear c33b1
      try clear c34
      try clear c34b0
      try clear c35
      try clear c35b0
      try clear q36
      try clear c37
      try clear c38
      try clear c38b0
      try clear c39
      try clear c39b0
      try clear hcz12_0
      try clear hcz12_1
      try clear hcz12_2
      try clear hcz14_0
      try clear hcz14_1
      try clear hcz14_2
      try clear hcz21_0
      try clear hcz21_1
      try clear hcz21_2
      try clear hcz31_0
      try clear hcz31_1
      try clear hcz31_2
      try clear hfz12_0
      try clear hfz12_1
      try clear hfz12_2
      try clear hfz14_0
      try clear hfz14_1
      try clear hfz14_2
      try clear hfz21_0
      try clear hfz21_1
      try clear hfz21_2
      try clear hfz31_0
      try clear hfz31_1
      try clear hfz31_2
      try clear hx1311_0
      try clear hx1312_0
      try clear p1311
      try clear p1312
      try clear p2
      try clear q1311
      try clear q1312
      obtain ⟨kq, x87_29, rfl, HA, HJ29, HO_10, BK1292, HB⟩ := hcut
      cases kq with
      | zero => exact absurd HA.out (by simp [ebbtidelaw10_MincutAny.j2])
      | succ kj29 =>
       have H := HA.out
       clear HA
       simp only [ebbtidelaw10_MincutAny.j2] at H
       by_cases c40 : x87_29 = true
       ·subst c40
        have H1 : (some true) = some r := by first | (rw [if_pos rfl] at H; exact H) | (rw [if_pos trivial] at H; exact H)
        clear H
        have H := H1
        clear H1
        obtain rfl := Option.some.inj H
        go_wp2
        go_ret
        exact ⟨by first | rfl | (simp [errW_none, errW_some] <;> rfl) | (simp [*, errW_none, errW_some] <;> rfl), by repeat (first | (with_reducible first | exact HB.out | apply below_alloc | apply pw_below_drewN | apply below_drew1 | refine below_set ?_ GE1292.out) | exact HB.out)⟩
       replace c40 := Bool.eq_false_iff.mpr c40
       subst c40
       have H1 : (if t1309 < t1297 then (some false) else (ebbtidelaw10_MincutAny.l0 kj29 l3 true t1294 t1297 t1309 0)) = some r := by rw [if_neg (show ¬ (false = true) by decide)] at H; exact H
       clear H
       have H := H1
       clear H1
       by_cases c41 : t1309 < t1297
       ·rw [if_pos c41] at H
        exact absurd (Option.some.inj H) (by rw [HRT.out]; decide)
       rw [if_neg c41] at H
       have c41b0 : decide (t1309 < t1297) = false := decide_eq_false c41
       clear c41
       have H' := Aside0.mk H
       clear H
       go_wp2
       go_loopg [20] kj29 (fun kq v20 w' => ∃ (x20_4 : Int), v20 = .int .i64 x20_4 ∧ Aside0 (ebbtidelaw10_MincutAny.l0 kq l3 true t1294 t1297 t1309 x20_4 = some r) ∧ Aside0 (kq ≤ kj29) ∧ Aside0 (Kd.R Kd.bool 4 w' w.heap.size (fun _ => True) v1295 t1294) ∧ Aside0 (w'.heap[gb1292]? = some (.cells #[.int .i64 a0_0, .bool a0_1, (.slice A0_2 l0_2.length c0_2)] 24 (0, 0))) ∧ Aside0 (Below w.heap.size w w'))
       case atStart => exact ⟨(0), (by first | rfl | (simp; done) | (simp [*]; done)), H', ⟨Nat.le_refl _⟩, ⟨by (with_reducible repeat (first | apply Kd.R_alloc | apply Kd.R_drewN | apply Kd.R_drew)); exact HO_10.out⟩, ⟨by (with_reducible repeat (first | refine blk_drewN ?_ _ | refine blk_drew ?_ | refine blk_alloc ?_ _)); exact BK1292.out⟩, ⟨by repeat (first | (with_reducible first | exact HB.out | apply below_alloc | apply pw_below_drewN | apply below_drew1 | refine below_set ?_ GE1292.out) | exact HB.out)⟩⟩
       case round =>
        clear H'
        try clear c1
        try clear p1
        try clear q1
        try clear hx1
        try clear c2
        try clear p2
        try clear c3
        try clear q3
        try clear c4
        try clear c6
        try clear c7
        try clear c8
        try clear p13
        try clear q13
        try clear hx13
        try clear c16
        try clear c16b0
        try clear c16b1
        try clear c17
        try clear c18
        try clear c24
        try clear c24b0
        try clear c24b1
        try clear c28
        try clear c33
        try clear c33b0
        try clear c33b1
        try clear c34
        try clear c34b0
        try clear c35
        try clear c35b0
        try clear q36
        try clear c37
        try clear c38
        try clear c38b0
        try clear c39
        try clear c39b0
        try clear c40
        try clear c41
        try clear c41b0
        try clear hcz12_0
        try clear hcz12_1
        try clear hcz12_2
        try clear hcz14_0
        try clear hcz14_1
        try clear hcz14_2
        try clear hcz21_0
        try clear hcz21_1
        try clear hcz21_2
        try clear hcz31_0
        try clear hcz31_1
        try clear hcz31_2
        try clear hfz12_0
        try clear hfz12_1
        try clear hfz12_2
        try clear hfz14_0
        try clear hfz14_1
        try clear hfz14_2
        try clear hfz21_0
        try clear hfz21_1
        try clear hfz21_2
        try clear hfz31_0
        try clear hfz31_1
        try clear hfz31_2
        try clear hx1311_0
        try clear hx1312_0
        try clear p1
        try clear p13
        try clear p1311
        try clear p1312
        try clear p2
        try clear q1
        try clear q13
        try clear q1311
        try clear q1312
        try clear q3
        try clear q36
        obtain ⟨x20_4, rfl, HA, HK4, HO_10, BK1292, HB⟩ := hrel
        cases gk with
        | zero => exact absurd HA.out (by simp [ebbtidelaw10_MincutAny.l0])
        | succ k4 =>
         have H := HA.out
         clear HA
         simp only [ebbtidelaw10_MincutAny.l0] at H
         have HC42 := Aside0.mk H
         clear H
         go_upto_region 17 with (fail)
         go_cut [100] (fun v100 wc => ∃ (kq : Nat) (x100_41 : Bool), v100 = .bool x100_41 ∧ Aside0 (ebbtidelaw10_MincutAny.j4 kq l3 true t1294 t1297 t1309 x20_4 x100_41 = some r) ∧ Aside0 (kq ≤ k4) ∧ Aside0 (Kd.R Kd.bool 4 wc w.heap.size (fun _ => True) v1295 t1294) ∧ Aside0 (wc.heap[gb1292]? = some (.cells #[.int .i64 a0_0, .bool a0_1, (.slice A0_2 l0_2.length c0_2)] 24 (0, 0))) ∧ Aside0 (Below w.heap.size w wc))
         case first =>
          have H := HC42.out
          clear HC42
          by_cases c43 : x20_4 < (t1294.length : Int)
          rotate_left
          ·rw [if_neg c43] at H
           have c43b0 : decide (x20_4 < (t1294.length : Int)) = false := decide_eq_false c43
           clear c43
           (first | rw [c43b0] | (simp only [i64_w, i32_w]; rw [c43b0]) | skip)
           have H' := Aside0.mk H
           clear H
           obtain ⟨Ao45, co45, eo45⟩ := Kd.R_slice HO_10.out
           subst eo45
           go_wp2
           go_meet
           case rel => exact ⟨_, (false), (by first | rfl | (simp; done) | (simp [*]; done)), H', ⟨by have := HJ8.out; have := HJ19.out; have := HJ29.out; have := HK4.out; first | omega | exact Nat.le_refl _⟩, ⟨by (with_reducible repeat (first | apply Kd.R_alloc | apply Kd.R_drewN | apply Kd.R_drew)); exact HO_10.out⟩, ⟨by (with_reducible repeat (first | refine blk_drewN ?_ _ | refine blk_drew ?_ | refine blk_alloc ?_ _)); exact BK1292.out⟩, ⟨by repeat (first | (with_reducible first | exact HB.out | apply below_alloc | apply pw_below_drewN | apply below_drew1 | refine below_set ?_ GE1292.out) | exact HB.out)⟩⟩
          rw [if_pos c43] at H
          have c43b0 : decide (x20_4 < (t1294.length : Int)) = true := decide_eq_true c43
          clear c43
          (first | rw [c43b0] | (simp only [i64_w, i32_w]; rw [c43b0]) | skip)
          have H' := Aside0.mk H
          clear H
          obtain ⟨Ao44, co44, eo44⟩ := Kd.R_slice HO_10.out
          subst eo44
          go_wp2
          go_meet
          case rel => exact ⟨_, ((t1309 == t1297)), (by first | rfl | (simp; done) | (simp [*]; done)), H', ⟨by have := HJ8.out; have := HJ19.out; have := HJ29.out; have := HK4.out; first | omega | exact Nat.le_refl _⟩, ⟨by (with_reducible repeat (first | apply Kd.R_alloc | apply Kd.R_drewN | apply Kd.R_drew)); exact HO_10.out⟩, ⟨by (with_reducible repeat (first | refine blk_drewN ?_ _ | refine blk_drew ?_ | refine blk_alloc ?_ _)); exact BK1292.out⟩, ⟨by repeat (first | (with_reducible first | exact HB.out | apply below_alloc | apply pw_below_drewN | apply below_drew1 | refine below_set ?_ GE1292.out) | exact HB.out)⟩⟩
         case rest =>
          clear HC42
          try clear c1
          try clear p1
          try clear q1
          try clear hx1
          try clear c2
          try clear p2
          try clear c3
          try clear q3
          try clear c4
          try clear c6
          try clear c7
          try clear c8
          try clear p13
          try clear q13
          try clear hx13
          try clear c16
          try clear c16b0
          try clear c16b1
          try clear c17
          try clear c18
          try clear c24
          try clear c24b0
          try clear c24b1
          try clear c28
          try clear c33
          try clear c33b0
          try clear c33b1
          try clear c34
          try clear c34b0
          try clear c35
          try clear c35b0
          try clear q36
          try clear c37
          try clear c38
          try clear c38b0
          try clear c39
          try clear c39b0
          try clear c40
          try clear c41
          try clear c41b0
          try clear c43
          try clear c43b0
          try clear hcz12_0
          try clear hcz12_1
          try clear hcz12_2
          try clear hcz14_0
          try clear hcz14_1
          try clear hcz14_2
          try clear hcz21_0
          try clear hcz21_1
          try clear hcz21_2
          try clear hcz31_0
          try clear hcz31_1
          try clear hcz31_2
          try clear hfz12_0
          try clear hfz12_1
          try clear hfz12_2
          try clear hfz14_0
          try clear hfz14_1
          try clear hfz14_2
          try clear hfz21_0
          try clear hfz21_1
          try clear hfz21_2
          try clear hfz31_0
          try clear hfz31_1
          try clear hfz31_2
          try clear hx1311_0
          try clear hx1312_0
          try clear p1
          try clear p13
          try clear p1311
          try clear p1312
          try clear p2
          try clear q1
          try clear q13
          try clear q1311
          try clear q1312
          try clear q3
          try clear q36
          obtain ⟨kq, x100_41, rfl, HA, HJ41, HO_10, BK1292, HB⟩ := hcut
          cases kq with
          | zero => exact absurd HA.out (by simp [ebbtidelaw10_MincutAny.j4])
          | succ kj41 =>
           have H := HA.out
           clear HA
           simp only [ebbtidelaw10_MincutAny.j4] at H
           by_cases c46 : x100_41 = true
           rotate_left
           ·replace c46 := Bool.eq_false_iff.mpr c46
            subst c46
            have H1 : (some true) = some r := by rw [if_neg (show ¬ (false = true) by decide)] at H; exact H
            clear H
            have H := H1
            clear H1
            obtain rfl := Option.some.inj H
            go_wp2
            go_ret
            exact ⟨by first | rfl | (simp [errW_none, errW_some] <;> rfl) | (simp [*, errW_none, errW_some] <;> rfl), by repeat (first | (with_reducible first | exact HB.out | apply below_alloc | apply pw_below_drewN | apply below_drew1 | refine below_set ?_ GE1292.out) | exact HB.out)⟩
           subst c46
           have H1 : (if 0 ≤ x20_4 then (if x20_4 < (t1294.length : Int) then (if rdOf false t1294 x20_4 = true then (if x20_4 < (l3.length : Int) then (if rdOf false l3 x20_4 = true then (ebbtidelaw10_MincutAny.l0 kj41 l3 true t1294 t1297 t1309 (wrap64 (x20_4 + 1))) else (some false)) else (none)) else (ebbtidelaw10_MincutAny.l0 kj41 l3 true t1294 t1297 t1309 (wrap64 (x20_4 + 1)))) else (none)) else (none)) = some r := by first | (rw [if_pos rfl] at H; exact H) | (rw [if_pos trivial] at H; exact H)
           clear H
           have H := H1
           clear H1
           by_cases c47 : 0 ≤ x20_4
           rotate_left
           ·rw [if_neg c47] at H
            exact absurd H (by simp)
           rw [if_pos c47] at H
           have c47b0 : decide (0 ≤ x20_4) = true := decide_eq_true c47
           clear c47
           by_cases c48 : x20_4 < (t1294.length : Int)
           rotate_left
           ·rw [if_neg c48] at H
            exact absurd H (by simp)
           rw [if_pos c48] at H
           have c48b0 : decide (x20_4 < (t1294.length : Int)) = true := decide_eq_true c48
           clear c48
           obtain ⟨bq49, hbq49⟩ : ∃ b_ : Bool, b_ = (rdOf false t1294 x20_4) := ⟨_, rfl⟩
           replace H : (if bq49 = true then (if x20_4 < (l3.length : Int) then (if rdOf false l3 x20_4 = true then (ebbtidelaw10_MincutAny.l0 kj41 l3 true t1294 t1297 t1309 (wrap64 (x20_4 + 1))) else (some false)) else (none)) else (ebbtidelaw10_MincutAny.l0 kj41 l3 true t1294 t1297 t1309 (wrap64 (x20_4 + 1)))) = some r := by rw [← hbq49] at H; exact H
           have Nbq49 := Aside0.mk hbq49
           clear hbq49
           by_cases c50 : bq49 = true
           rotate_left
           ·replace c50 := Bool.eq_false_iff.mpr c50
            subst c50
            have H1 : (ebbtidelaw10_MincutAny.l0 kj41 l3 true t1294 t1297 t1309 (wrap64 (x20_4 + 1))) = some r := by rw [if_neg (show ¬ (false = true) by decide)] at H; exact H
            clear H
            have H := H1
            clear H1
            have H' := Aside0.mk H
            clear H
            obtain ⟨Ao56, co56, eo56⟩ := Kd.R_slice HO_10.out
            subst eo56
            have p1313 : 0 ≤ (x20_4 : Int) := of_decide_eq_true (by first | (with_reducible assumption) | assumption)
            have q1313 : x20_4 < (t1294.length : Int) := of_decide_eq_true (by first | (with_reducible assumption) | assumption)
            obtain ⟨ad1313, e1313, hx1313_0⟩ := Kd.at_bool (Kd.R_reads' HO_10.out).2.2 x20_4 p1313 q1313
            (try rw [← Nbq49.out] at hx1313_0)
            cases e1313
            replace p1313 := eq_true p1313
            replace q1313 := eq_true q1313
            go_wp2
            go_roundg kj41
            case measure => have := HJ8.out; have := HJ19.out; have := HJ29.out; have := HK4.out; have := HJ41.out; omega
            case rel => exact ⟨(wrap64 (x20_4 + 1)), (by first | rfl | (simp; done) | (simp [*]; done)), H', ⟨by have := HJ8.out; have := HJ19.out; have := HJ29.out; have := HK4.out; have := HJ41.out; omega⟩, ⟨by (with_reducible repeat (first | apply Kd.R_alloc | apply Kd.R_drewN | apply Kd.R_drew)); exact HO_10.out⟩, ⟨by (with_reducible repeat (first | refine blk_drewN ?_ _ | refine blk_drew ?_ | refine blk_alloc ?_ _)); exact BK1292.out⟩, ⟨by repeat (first | (with_reducible first | exact HB.out | apply below_alloc | apply pw_below_drewN | apply below_drew1 | refine below_set ?_ GE1292.out) | exact HB.out)⟩⟩
           subst c50
           have H1 : (if x20_4 < (l3.length : Int) then (if rdOf false l3 x20_4 = true then (ebbtidelaw10_MincutAny.l0 kj41 l3 true t1294 t1297 t1309 (wrap64 (x20_4 + 1))) else (some false)) else (none)) = some r := by first | (rw [if_pos rfl] at H; exact H) | (rw [if_pos trivial] at H; exact H)
           clear H
           have H := H1
           clear H1
           by_cases c51 : x20_4 < (l3.length : Int)
           rotate_left
           ·rw [if_neg c51] at H
            exact absurd H (by simp)
           rw [if_pos c51] at H
           have c51b0 : decide (x20_4 < (l3.length : Int)) = true := decide_eq_true c51
           clear c51
           obtain ⟨bq52, hbq52⟩ : ∃ b_ : Bool, b_ = (rdOf false l3 x20_4) := ⟨_, rfl⟩
           replace H : (if bq52 = true then (ebbtidelaw10_MincutAny.l0 kj41 l3 true t1294 t1297 t1309 (wrap64 (x20_4 + 1))) else (some false)) = some r := by rw [← hbq52] at H; exact H
           have Nbq52 := Aside0.mk hbq52
           clear hbq52
           by_cases c53 : bq52 = true
           rotate_left
           ·replace c53 := Bool.eq_false_iff.mpr c53
            subst c53
            have H1 : (some false) = some r := by rw [if_neg (show ¬ (false = true) by decide)] at H; exact H
            exact absurd (Option.some.inj H1) (by rw [HRT.out]; decide)
           subst c53
           have H1 : (ebbtidelaw10_MincutAny.l0 kj41 l3 true t1294 t1297 t1309 (wrap64 (x20_4 + 1))) = some r := by first | (rw [if_pos rfl] at H; exact H) | (rw [if_pos trivial] at H; exact H)
           clear H
           have H := H1
           clear H1
           have H' := Aside0.mk H
           clear H
           obtain ⟨Ao54, co54, eo54⟩ := Kd.R_slice HO_10.out
           subst eo54
           have p1313 : 0 ≤ (x20_4 : Int) := of_decide_eq_true (by first | (with_reducible assumption) | assumption)
           have q1313 : x20_4 < (t1294.length : Int) := of_decide_eq_true (by first | (with_reducible assumption) | assumption)
           obtain ⟨ad1313, e1313, hx1313_0⟩ := Kd.at_bool (Kd.R_reads' HO_10.out).2.2 x20_4 p1313 q1313
           (try rw [← Nbq49.out] at hx1313_0)
           (try rw [← Nbq52.out] at hx1313_0)
           cases e1313
           replace p1313 := eq_true p1313
           replace q1313 := eq_true q1313
           have p1314 : 0 ≤ (x20_4 : Int) := of_decide_eq_true (by first | (with_reducible assumption) | assumption)
           have q1314 : x20_4 < (l3.length : Int) := of_decide_eq_true (by first | (with_reducible assumption) | assumption)
           obtain ⟨ad1314, e1314, hx1314_0⟩ := Kd.at_bool HR3.out x20_4 p1314 q1314
           (try rw [← Nbq49.out] at hx1314_0)
           (try rw [← Nbq52.out] at hx1314_0)
           cases e1314
           replace hx1314_0 := (HB.out.cell (World.block_lt_of_cell? w _ hx1314_0)).trans hx1314_0
           replace p1314 := eq_true p1314
           replace q1314 := eq_true q1314
           go_wp2
           go_roundg kj41
           case measure => have := HJ8.out; have := HJ19.out; have := HJ29.out; have := HK4.out; have := HJ41.out; omega
           case rel => exact ⟨(wrap64 (x20_4 + 1)), (by first | rfl | (simp; done) | (simp [*]; done)), H', ⟨by have := HJ8.out; have := HJ19.out; have := HJ29.out; have := HK4.out; have := HJ41.out; omega⟩, ⟨by (with_reducible repeat (first | apply Kd.R_alloc | apply Kd.R_drewN | apply Kd.R_drew)); exact HO_10.out⟩, ⟨by (with_reducible repeat (first | refine blk_drewN ?_ _ | refine blk_drew ?_ | refine blk_alloc ?_ _)); exact BK1292.out⟩, ⟨by repeat (first | (with_reducible first | exact HB.out | apply below_alloc | apply pw_below_drewN | apply below_drew1 | refine below_set ?_ GE1292.out) | exact HB.out)⟩⟩
end Go.Proofs.Ytkcpanpdipmmmaa.P
namespace Go.Proofs.Ytkcpanpdipmmmaa.Opn
open Go.RowKit Go.ChangeShapes Go.WideShapes Go.Deep Go.Proofs.YtkcpanpdipmmmaaW.PrintWords
def Opens (P : Program) (t : TypeId) {α : Type} (d : Kd α) (ok : α → Prop) : Prop :=
 ∀ (H : Type) (enc : TypeId × Value → H) (w : World) (base : Nat) (spare : Nat → Bool) (held : Bool) (fuel : Nat) (cs : List Value) (x : DataW H × List MemPlace),
  DataW.trod enc P w base spare held fuel t cs = some x → ∃ a : α, d.K w a cs ∧ ok a
theorem opens_int {P : Program} {t : TypeId} {k : IntKind} (ht : P.underlying t = some (.int k)) : Opens P t (Kd.int k) (fun n => (Lit.int k n).wf = true) := by
 intro H enc w base spare held fuel cs x h
 obtain ⟨n, rfl, _, hw⟩ := DataW.trod_int ht h
 exact ⟨n, rfl, hw⟩
theorem opens_bool {P : Program} {t : TypeId} (ht : P.underlying t = some .bool) : Opens P t Kd.bool (fun _ => True) := by
 intro H enc w base spare held fuel cs x h
 obtain ⟨b, rfl, _⟩ := DataW.trod_bool ht h
 exact ⟨b, rfl, trivial⟩
theorem opens_slice {P : Program} {t e : TypeId} {α : Type} {d : Kd α} {ok : α → Prop} (ht : P.underlying t = some (.slice e)) (hc : P.cellsOf e = d.sz) (h : Opens P e d ok) :
  Opens P t (Kd.slice e d) (fun l => l.length ≤ 9223372036854775807 ∧ ∀ x ∈ l, ok x) := by
 intro H enc w base spare held fuel cs x hx
 rcases open_slice ht hx with ⟨rfl, _⟩ | ⟨a, len, cap, m, n, D, Pl, rfl, hb, hl, hm, hmm, _, hi⟩
 ·exact ⟨[], ⟨none, 0, rfl, Nat.le_refl _, rfl, by simp, fun h => absurd h (by simp)⟩, by simp, by simp⟩
 ·have hlm : len ≤ m := by rw [hmm]; split <;> omega
  have hel : ∀ i : Nat, i < len → ∃ a' : α, ok a' ∧ ∃ c, c.length = d.sz ∧ d.K w a' c ∧ ∀ j u, c[j]? = some u → w.cell? (a.add (i * d.sz + j)) = some u := by
   intro i hil
   obtain ⟨cs', hcs, htr⟩ := hi i (by omega)
   obtain ⟨a', hK, hok⟩ := h H enc w base spare held n cs' _ htr
   rw [hc] at hcs
   obtain ⟨_, hcl, hat⟩ := World.cells?_some hcs
   refine ⟨a', hok, cs', hcl, hK, fun j u hu => ?_⟩
   have hj : j < d.sz := by have := (List.getElem?_eq_some_iff.1 hu).1; omega
   have := hat j hj
   rw [← Go.Deep.add_add, this, hu]
  have hrow : ∀ k : Nat, k ≤ len → ∃ xs : List α, xs.length = k ∧ (∀ x ∈ xs, ok x) ∧ ∀ j p, xs[j]? = some p → ∃ c, c.length = d.sz ∧ d.K w p c ∧ ∀ i u, c[i]? = some u → w.cell? (a.add (j * d.sz + i)) = some u := by
   intro k
   induction k with
   | zero => exact fun _ => ⟨[], rfl, by simp, by simp⟩
   | succ k ih =>
    intro hk
    obtain ⟨xs, h1, h2, h3⟩ := ih (by omega)
    obtain ⟨a', ho, c, hcl, hK, hcell⟩ := hel k (by omega)
    refine ⟨xs ++ [a'], by simp [h1], fun x hx => ?_, fun j p hj => ?_⟩
    ·rcases List.mem_append.1 hx with h | h
     ·exact h2 x h
     ·rw [List.mem_singleton.1 h]; exact ho
    ·by_cases hjk : j < xs.length
     ·rw [List.getElem?_append_left hjk] at hj
      exact h3 j p hj
     ·have hjl := (List.getElem?_eq_some_iff.1 hj).1
      simp at hjl
      have hje : j = k := by omega
      subst hje
      rw [← h1, List.getElem?_concat_length] at hj
      obtain rfl := Option.some.inj hj
      exact ⟨c, hcl, hK, hcell⟩
  obtain ⟨xs, h1, h2, h3⟩ := hrow len (Nat.le_refl _)
  have hmx : len ≤ 9223372036854775807 := by unfold maxLen at hm; omega
  subst h1
  exact ⟨xs, ⟨some a, cap, rfl, hl, rfl, hmx, fun _ => ⟨a, rfl, h3⟩⟩, hmx, h2⟩
theorem opens_iso {P : Program} {t : TypeId} {α β : Type} {d : Kd α} {ok : α → Prop} (h : Opens P t d ok) (f : β → α) (g : α → β) (hfg : ∀ x, f (g x) = x) : Opens P t (Kd.iso d f) (fun y => ok (f y)) := by
 intro H enc w base spare held fuel cs x hx
 obtain ⟨a, hK, hok⟩ := h H enc w base spare held fuel cs x hx
 exact ⟨g a, by show d.K w (f (g a)) cs; rw [hfg]; exact hK, by show ok (f (g a)); rw [hfg]; exact hok⟩
def OpensFs (P : Program) (fs : List Field) (off : Nat) {α : Type} (d : Kd α) (ok : α → Prop) : Prop :=
 ∀ (H : Type) (enc : TypeId × Value → H) (w : World) (base : Nat) (spare : Nat → Bool) (held : Bool) (n : Nat) (cs : List Value), cs.length = off + d.sz →
  (∀ f ∈ fs, ∃ y, DataW.trod enc P w base spare held n f.type ((cs.drop f.offset).take (P.cellsOf f.type)) = some y) → ∃ a : α, d.K w a (cs.drop off) ∧ ok a
theorem fs_one {P : Program} {f : Field} {off : Nat} {α : Type} {d : Kd α} {ok : α → Prop} (ho : f.offset = off) (hc : P.cellsOf f.type = d.sz) (h : Opens P f.type d ok) : OpensFs P [f] off d ok := by
 intro H enc w base spare held n cs hl hf
 obtain ⟨y, hy⟩ := hf f (by simp)
 rw [ho, hc, List.take_of_length_le (by simp; omega)] at hy
 exact h H enc w base spare held n _ y hy
theorem fs_cons {P : Program} {f : Field} {fs : List Field} {off : Nat} {α β : Type} {d : Kd α} {d' : Kd β} {ok : α → Prop} {ok' : β → Prop} (ho : f.offset = off) (hc : P.cellsOf f.type = d.sz) (h : Opens P f.type d ok)
  (hr : OpensFs P fs (off + d.sz) d' ok') : OpensFs P (f :: fs) off (Kd.pair d d') (fun x => ok x.1 ∧ ok' x.2) := by
 intro H enc w base spare held n cs hl hf
 have hsz : (Kd.pair d d').sz = d.sz + d'.sz := rfl
 rw [hsz] at hl
 obtain ⟨y, hy⟩ := hf f (by simp)
 rw [ho, hc] at hy
 obtain ⟨a, hK, hok⟩ := h H enc w base spare held n _ y hy
 obtain ⟨b, hKb, hokb⟩ := hr H enc w base spare held n cs (by omega) (fun f' hf' => hf f' (List.mem_cons_of_mem _ hf'))
 refine ⟨(a, b), ⟨_, _, ?_, hK, hKb⟩, hok, hokb⟩
 rw [← List.drop_drop]
 exact (List.take_append_drop _ _).symm
theorem opens_struct {P : Program} {t : TypeId} {fs : Array Field} {α : Type} {d : Kd α} {ok : α → Prop} (hs : P.underlying t = some (.struct fs)) (hC : P.cellsOf t = d.sz) (h : OpensFs P fs.toList 0 d ok) : Opens P t d ok := by
 intro H enc w base spare held fuel cs x hx
 obtain ⟨xs, n, _, _, hl, hlen, hf⟩ := DataW.trod_struct hs hx
 obtain ⟨a, hK, hok⟩ := h H enc w base spare held n cs (by rw [hl, hC, Nat.zero_add]) (fun f hfm => by
  obtain ⟨j, hj⟩ := List.getElem?_of_mem hfm
  have hj' : fs[j]? = some f := by rw [← hj]; simp
  have hjl : j < xs.length := by rw [hlen]; exact (Array.getElem?_eq_some_iff.1 hj').1
  have h1 := hf j f hj'
  rw [List.getElem?_eq_getElem hjl] at h1
  exact ⟨_, h1⟩)
 exact ⟨a, hK, hok⟩
theorem arg_struct {H : Type} {enc : TypeId × Value → H} {P : Program} {w : World} {base b0 : Nat} {spare : Nat → Bool} {held : Bool} {r : Reach} {t : TypeId} {fs : Array Field} {v : Value} {dd : DataW H} {p : List MemPlace} {α : Type} {d : Kd α} {ok : α → Prop}
  (hs : P.underlying t = some (.struct fs)) (ho : Opens P t d ok) (hv : Value.okWide P w r b0 t v) (h : DataW.Trod enc P w base spare held t v dd p) : ∃ a cs, v = .agg cs ∧ d.K w a cs.toList ∧ ok a := by
 obtain ⟨cs, rfl, hsz⟩ := okWide_struct hs hv
 obtain ⟨fuel, hf⟩ := h
 obtain ⟨a, hK, hok⟩ := ho H enc w base spare held fuel _ _ hf
 exact ⟨a, cs, rfl, by simpa [Value.cells] using hK, hok⟩
theorem arg_slice {H : Type} {enc : TypeId × Value → H} {P : Program} {w : World} {base b0 : Nat} {spare : Nat → Bool} {held : Bool} {r : Reach} {t e : TypeId} {v : Value} {dd : DataW H} {p : List MemPlace} {α : Type} {d : Kd α} {ok : List α → Prop}
  (hs : P.underlying t = some (.slice e)) (ho : Opens P t (Kd.slice e d) ok) (hv : Value.okWide P w r b0 t v) (h : DataW.Trod enc P w base spare held t v dd p) : ∃ A c l, v = .slice A l.length c ∧ l.length ≤ c ∧ d.C w A l.length l ∧ ok l := by
 obtain ⟨A, len, cap, rfl⟩ := okWide_slice hs hv
 obtain ⟨fuel, hf⟩ := h
 obtain ⟨l, ⟨A', c, he, hlc, hC⟩, hok⟩ := ho H enc w base spare held fuel _ _ hf
 simp [Value.cells] at he
 obtain ⟨rfl, rfl, rfl⟩ := he
 exact ⟨A, cap, l, rfl, hlc, hC, hok⟩
end Go.Proofs.Ytkcpanpdipmmmaa.Opn
namespace Go.Proofs.Ytkcpanpdipmmmaa.Q
open Go.RowKit Go.Proofs.YtkcpanpdipmmmaaW.PrintWords Go.Proofs.YtkcpanpdipmmmaaW.PrintLast Go.Proofs.YtkcpanpdipmmmaaW.PrintMore Go.Proofs.Ytkcpanpdipmmmaa.P
open Go.Proofs.Ytkcpanpdipmmmaa.H (levelsRes endsErr Right right_of bfP dOf nodes frP toP esP Fd bfP_upto dOf_len dOf_get fnd fnd_some fnd_none fnd_of backL_spec lv_lt esP_fr esP_to)
theorem levels_eq (n : Int) (b : Bool) (l : List S74) (F : List Int) (s : Int) : level_Levels.f n b l F s = some (levelsRes n l F s) := rfl
theorem levelsRes_len (n : Int) (l : List S74) (F : List Int) (s : Int) : (levelsRes n l F s).1.length ≤ 50 := by
 unfold levelsRes
 split
 ·rename_i h0
  split
  ·obtain ⟨n0, rfl, hr⟩ := right_of h0
   have := hr.fifty
   rw [Int.toNat_natCast]
   show (dOf n0 _).length ≤ 50
   rw [dOf_len]; omega
  ·simp
 ·simp
end Go.Proofs.Ytkcpanpdipmmmaa.Q
namespace Go.Proofs.Ytkcpanpdipmmmaa.Q
open Go.RowKit Go.Proofs.YtkcpanpdipmmmaaW.PrintWords Go.Proofs.YtkcpanpdipmmmaaW.PrintLast Go.Proofs.YtkcpanpdipmmmaaW.PrintMore Go.Proofs.Ytkcpanpdipmmmaa.P
open Go.Proofs.Ytkcpanpdipmmmaa.H (endsErr Right right_of StepOf stRoom IsFlow leastR pushW stRoom_in)
theorem flowOk_of {l : List S74} {F : List Int} {n : Nat} (hr : Right l F n) : FlowOk l F := by
 refine ⟨hr.len, fun i hi => ?_⟩
 have := hr.nums i (by rw [← hr.len]; exact hi)
 rw [rd_nat]
 exact ⟨this.2.2.1, this.2.2.2.1⟩
end Go.Proofs.Ytkcpanpdipmmmaa.Q
namespace Go.Proofs.Ytkcpanpdipmmmaa.Q
open Go.RowKit Go.Proofs.YtkcpanpdipmmmaaW.PrintWords Go.Proofs.YtkcpanpdipmmmaaW.PrintLast Go.Proofs.YtkcpanpdipmmmaaW.PrintMore Go.Proofs.Ytkcpanpdipmmmaa.P
open Go.Proofs.Ytkcpanpdipmmmaa.H (endsErr Right right_of StepOf stRoom IsFlow MaxF leastR pushW fillF bfP nodes netG dOf frP toP)
theorem max_fill {l : List S74} {n s t : Nat} (hr : Right l (List.replicate l.length 0) n) (hs : s < n) (ht : t < n) (hst : s ≠ t) : MaxF l (fillF l n s t) n s t := H.fill_max hr hs ht hst
theorem value_l0 (m : Int) (l : List S74) (f : List Int) (hn : NetOk m l) (hf : FlowOk l f) (v : Int) (d : Nat) : ∀ (i : Nat) (acc : Int), i + d = l.length → -(i * 2097152) ≤ acc → acc ≤ i * 2097152 →
  Ev (fun k => maxflow_Value.l0 k v f acc l (l.length : Int) (i : Int)) (acc + bal (l.drop i) (f.drop i) v) := by
 have hlen := hf.len
 have hl := hn.len
 induction d with
 | zero =>
  intro i acc hi h0 h1
  refine Ev.succ ?_; simp only [maxflow_Value.l0]
  repeat (first | exact Ev.now _ | with_reducible refine Ev.pos (by first | assumption | omega) ?_ | with_reducible refine Ev.neg (by first | assumption | omega) ?_ | with_reducible refine Ev.let_ ?_)
  rw [List.drop_of_length_le (by omega)]
  exact Ev.done (by simp [bal])
 | succ d ih =>
  intro i acc hi h0 h1
  have hs := hf.small hn (i := (i : Int)) (by omega) (by omega)
  refine Ev.succ ?_; simp only [maxflow_Value.l0]
  repeat (first | exact Ev.now _ | with_reducible refine Ev.pos (by first | assumption | omega) ?_ | with_reducible refine Ev.neg (by first | assumption | omega) ?_ | with_reducible refine Ev.let_ ?_)
  rw [wrap_succ (n := l.length) (by omega) (by omega), drop_getD l i z74 (by omega), drop_getD f i 0 (by omega), ← rdArc_nat, ← rd_nat, bal_cons]
  refine Ev.ite (fun g => ?_) (fun g => ?_)
  ·rw [if_pos g]
   refine Ev.pos (by omega) ?_
   refine Ev.ite (fun g2 => ?_) (fun g2 => ?_)
   ·rw [if_pos g2, wrap_id (x := acc + rd f (i : Int)) (by omega) (by omega), wrap_id (by omega) (by omega)]
    exact Ev.eq (ih (i + 1) _ (by omega) (by omega) (by omega)) (by omega)
   ·rw [if_neg g2, wrap_id (x := acc + rd f (i : Int)) (by omega) (by omega)]
    exact Ev.eq (ih (i + 1) _ (by omega) (by omega) (by omega)) (by omega)
  ·rw [if_neg g]
   refine Ev.ite (fun g2 => ?_) (fun g2 => ?_)
   ·refine Ev.pos (by omega) ?_
    rw [if_pos g2, wrap_id (x := acc - rd f (i : Int)) (by omega) (by omega)]
    exact Ev.eq (ih (i + 1) _ (by omega) (by omega) (by omega)) (by omega)
   ·rw [if_neg g2]
    exact Ev.eq (ih (i + 1) _ (by omega) (by omega) (by omega)) (by omega)
theorem value_ev (n m : Int) (b : Bool) (l : List S74) (f : List Int) (hn : NetOk m l) (hf : FlowOk l f) (v : Int) : Ev (fun k => maxflow_Value.f k n b l v f) (bal l f v) := by
 unfold maxflow_Value.f
 exact Ev.eq (value_l0 m l f hn hf v l.length 0 0 (by omega) (by omega) (by omega)) (by rw [List.drop_zero, List.drop_zero]; omega)
def maxR (n : Int) (l : List S74) (s t : Int) : List Int × Int × Int :=
 if endsErr n l s t = 0 then (fillF l n.toNat s.toNat t.toNat, bal l (fillF l n.toNat s.toNat t.toNat) s, 0) else ([], 0, endsErr n l s t)
theorem fill_eq {n : Int} {l : List S74} {s t : Int} (b : Bool) (h : endsErr n l s t = 0) : maxflow_Fill.f n b l s t = some (fillF l n.toNat s.toNat t.toNat) := by unfold maxflow_Fill.f; rw [if_pos h]
theorem max_ev (n : Int) (b : Bool) (l : List S74) (s t : Int) : Ev (fun k => maxflow_Max.f k n b l s t) (maxR n l s t) := by
 unfold maxflow_Max.f maxR
 refine Ev.bind (ends_ev n b l s t) ?_
 by_cases h : endsErr n l s t = 0
 ·rw [if_pos h]
  refine Ev.pos h ?_
  refine Ev.call (fill_eq b h) ?_
  obtain ⟨n0, s0, t0, rfl, rfl, rfl, hs, ht, hst, hn, hr⟩ := ends_zero h
  simp only [Int.toNat_natCast]
  refine Ev.bind (value_ev n0 n0 b l _ hn (flowOk_of (max_fill hr hs ht hst).flow.right) s0) ?_
  exact Ev.now _
 ·rw [if_neg h]
  refine Ev.neg h ?_
  exact Ev.now _
theorem maxR_nat {l : List S74} {n s t : Nat} (h : endsErr (n : Int) l (s : Int) (t : Int) = 0) : maxR n l s t = (fillF l n s t, bal l (fillF l n s t) s, 0) := by
 unfold maxR; rw [if_pos h]; simp only [Int.toNat_natCast]
end Go.Proofs.Ytkcpanpdipmmmaa.Q
namespace Go.Proofs.Ytkcpanpdipmmmaa.Q
open Go.RowKit Go.Proofs.YtkcpanpdipmmmaaW.PrintWords Go.Proofs.YtkcpanpdipmmmaaW.PrintLast Go.Proofs.YtkcpanpdipmmmaaW.PrintMore Go.Proofs.Ytkcpanpdipmmmaa.P
open Go.Proofs.Ytkcpanpdipmmmaa.H (endsErr Right right_of IsFlow MaxF fillF bfP nodes dOf dOf_len dOf_get fnd fnd_none levelsRes capR capR_cons sideP sideP_iff behindF)
def sd (S : List Bool) (v : Int) : Bool := rdOf false S v
theorem takes_l0 (m : Int) (l : List S74) (S : List Bool) (hn : NetOk m l) (hS : (S.length : Int) = m) (d : Nat) : ∀ (i : Nat) (acc : Int), i + d = l.length → 0 ≤ acc → acc ≤ 1048576 * i →
  Ev (fun k => mincut_takes.l0 k S acc l (l.length : Int) (i : Int)) (acc + capR (sd S) (l.drop i)) := by
 have hl := hn.len
 induction d with
 | zero =>
  intro i acc hi h0 h1
  refine Ev.succ ?_; simp only [mincut_takes.l0]
  refine Ev.neg (by omega) ?_
  rw [List.drop_of_length_le (by omega)]
  exact Ev.done (by simp [capR])
 | succ d ih =>
  intro i acc hi h0 h1
  have ha := hn.at_ (i := (i : Int)) (by omega) (by omega)
  have a0 := ha.f0
  have a1 := ha.f1
  have a2 := ha.f2
  have a3 := ha.h0
  have a4 := ha.h1
  have a5 := ha.h2
  rw [drop_getD l i z74 (by omega), ← rdArc_nat, capR_cons]
  refine Ev.succ ?_; simp only [mincut_takes.l0]
  refine Ev.pos (by omega) ?_
  refine Ev.pos (by omega) ?_
  refine Ev.pos (by omega) ?_
  refine Ev.pos (by omega) ?_
  refine Ev.pos (by omega) ?_
  rw [wrap_succ (n := l.length) (by omega) (by omega)]
  refine Ev.ite (fun g => ?_) (fun g => ?_)
  ·have g1 : sd S (rd_T74 l (i : Int)).f0 = true := g
   refine Ev.pos (by omega) ?_
   refine Ev.pos (by omega) ?_
   refine Ev.ite (fun g2 => ?_) (fun g2 => ?_)
   ·have g3 : sd S (rd_T74 l (i : Int)).f1 = true := g2
    rw [g1, g3, if_neg (by decide)]
    exact Ev.eq (ih (i + 1) _ (by omega) (by omega) (by omega)) (by omega)
   ·have g3 : sd S (rd_T74 l (i : Int)).f1 = false := Bool.eq_false_iff.2 g2
    rw [g1, g3, if_pos (by decide), wrap_id (by omega) (by omega)]
    exact Ev.eq (ih (i + 1) _ (by omega) (by omega) (by omega)) (by omega)
  ·have g1 : sd S (rd_T74 l (i : Int)).f0 = false := Bool.eq_false_iff.2 g
   rw [g1, if_neg (by simp)]
   exact Ev.eq (ih (i + 1) _ (by omega) (by omega) (by omega)) (by omega)
theorem takes_ev (n m : Int) (b : Bool) (l : List S74) (S : List Bool) (hn : NetOk m l) (hS : (S.length : Int) = m) : Ev (fun k => mincut_takes.f k n b l S) (capR (sd S) l) := by
 unfold mincut_takes.f
 exact Ev.eq (takes_l0 m l S hn hS l.length 0 0 (by omega) (by omega) (by omega)) (by rw [List.drop_zero]; omega)
def capaR (n : Int) (l : List S74) (S : List Bool) : Int × Int := if netErr n l = 0 then (if (S.length : Int) = n then (capR (sd S) l, 0) else (0, 1)) else (0, netErr n l)
theorem capacity_ev (n : Int) (b : Bool) (l : List S74) (S : List Bool) : Ev (fun k => mincut_Capacity.f k n b l S) (capaR n l S) := by
 unfold mincut_Capacity.f capaR
 refine Ev.bind (check_ev n b l) ?_
 refine Ev.ite (fun h => ?_) (fun h => ?_)
 ·rw [if_pos h]
  refine Ev.ite (fun g => ?_) (fun g => ?_)
  ·rw [if_pos g]
   exact Ev.bind (takes_ev n n b l S (netErr_ok h) g) (Ev.now _)
  ·rw [if_neg g]; exact Ev.now _
 ·rw [if_neg h]; exact Ev.now _
theorem capa_ok {n : Int} {l : List S74} {S : List Bool} (h : (capaR n l S).2 = 0) : netErr n l = 0 ∧ (S.length : Int) = n ∧ capaR n l S = (capR (sd S) l, 0) := by
 unfold capaR at h ⊢
 by_cases h1 : netErr n l = 0
 ·rw [if_pos h1] at h ⊢
  by_cases h2 : (S.length : Int) = n
  ·rw [if_pos h2]; exact ⟨h1, h2, rfl⟩
  ·rw [if_neg h2] at h; cases h
 ·rw [if_neg h1] at h; exact absurd h h1
def sideR (n : Int) (l : List S74) (F : List Int) (s : Int) : List Bool × Int := if (levelsRes n l F s).2 = 0 then (farB (levelsRes n l F s).1, 0) else ([], (levelsRes n l F s).2)
theorem side_ev (n : Int) (b : Bool) (l : List S74) (F : List Int) (s : Int) : Ev (fun k => mincut_Side.f k n b l F s) (sideR n l F s) := by
 unfold mincut_Side.f sideR
 refine Ev.call (levels_eq n b l F s) ?_
 refine Ev.ite (fun h => ?_) (fun h => ?_)
 ·rw [if_pos h]
  exact Ev.bind (reached_ev _ (by have := levelsRes_len n l F s; omega)) (Ev.now _)
 ·rw [if_neg h]; exact Ev.now _
theorem same10_l0 (a : List Bool) (hl : a.length ≤ 1000000) (d : Nat) : ∀ i : Nat, i + d = a.length → Ev (fun k => ebbtideref10_Same.l0 k a a (i : Int)) true := by
 induction d with
 | zero =>
  intro i hi
  refine Ev.succ ?_; simp only [ebbtideref10_Same.l0]
  refine Ev.neg (by omega) ?_
  exact Ev.now _
 | succ d ih =>
  intro i hi
  refine Ev.succ ?_; simp only [ebbtideref10_Same.l0]
  refine Ev.pos (by omega) ?_
  refine Ev.pos (by omega) ?_
  refine Ev.pos (by omega) ?_
  refine Ev.neg (by simp) ?_
  rw [wrap_succ (n := a.length) (by omega) (by omega)]
  exact ih (i + 1) (by omega)
theorem same10_ev (a : List Bool) (hl : a.length ≤ 1000000) : Ev (fun k => ebbtideref10_Same.f k a a) true := by
 unfold ebbtideref10_Same.f
 refine Ev.pos rfl ?_
 exact same10_l0 a hl a.length 0 (by omega)
theorem behind_len (l : List S74) (F : List Int) (n s : Nat) : (behindF l F n s).length = n := by unfold behindF; rw [List.length_map, dOf_len]
theorem behind_get {l : List S74} {F : List Int} {n s v : Nat} (hv : v < n) : sd (behindF l F n s) (v : Int) = decide (v ∈ nodes (bfP l F n s)) := by
 unfold sd rdOf behindF
 rw [Int.toNat_natCast, List.getD_eq_getElem?_getD, List.getElem?_map]
 have hlt : v < (dOf n (bfP l F n s)).length := by rw [dOf_len]; exact hv
 have h := H.dOf_neg (bfP l F n s) 0 hv
 rw [List.getD_eq_getElem?_getD, List.getElem?_eq_getElem hlt] at h
 rw [List.getElem?_eq_getElem hlt]
 simp only [Option.getD_some] at h
 show decide ((dOf n (bfP l F n s))[v] ≥ 0) = _
 by_cases hm : v ∈ nodes (bfP l F n s)
 ·rw [decide_eq_true hm, decide_eq_true]
  have : ¬ (dOf n (bfP l F n s))[v] < 0 := fun g => h.1 g hm
  omega
 ·rw [decide_eq_false hm, decide_eq_false]
  have := h.2 hm
  omega
theorem behind_ext {S T : List Bool} {n : Nat} (h1 : S.length = n) (h2 : T.length = n) (h : ∀ v : Nat, v < n → sd S v = sd T v) : S = T := by
 apply List.ext_getElem (by omega)
 intro i g1 g2
 have := h i (by omega)
 unfold sd rdOf at this
 rw [Int.toNat_natCast, List.getD_eq_getElem?_getD, List.getD_eq_getElem?_getD, List.getElem?_eq_getElem g1, List.getElem?_eq_getElem g2] at this
 simpa using this
theorem behind_same {l : List S74} {F G : List Int} {n s t : Nat} (h : MaxF l F n s t) (g : MaxF l G n s t) (hs : s < n) (hst : s ≠ t) : behindF l F n s = behindF l G n s := by
 refine behind_ext (behind_len _ _ _ _) (behind_len _ _ _ _) fun v hv => ?_
 rw [behind_get hv, behind_get hv]
 exact decide_eq_decide.2 (H.side_same h g hs hst v)
theorem capR_congr {R Q : Int → Bool} {n : Int} : ∀ {l : List S74}, (∀ a ∈ l, ArcOk n a) → (∀ v : Int, 0 ≤ v → v < n → R v = Q v) → capR R l = capR Q l
 | [], _, _ => rfl
 | a :: l, ha, h => by
  have h1 := ha a List.mem_cons_self
  rw [capR_cons, capR_cons, h _ h1.f0 h1.h0, h _ h1.f1 h1.h1, capR_congr (fun b hb => ha b (List.mem_cons_of_mem _ hb)) h]
theorem behind_cap {l : List S74} {F : List Int} {n s t : Nat} (hn : NetOk n l) (h : MaxF l F n s t) (hs : s < n) (hst : s ≠ t) : capR (sd (behindF l F n s)) l = bal l F s := by
 rw [(H.max_value h hs hst).1]
 refine capR_congr hn.arcs fun v h0 h1 => ?_
 obtain ⟨v, rfl⟩ : ∃ v' : Nat, v = v' := ⟨v.toNat, by omega⟩
 rw [behind_get (by omega)]
 unfold sideP
 rw [Int.toNat_natCast]
 exact decide_eq_decide.2 ⟨fun g => ⟨by omega, g⟩, fun g => g.2⟩
def leastS (n : Int) (l : List S74) (s t : Int) : List Bool × Int × Int :=
 if endsErr n l s t = 0 then (behindF l (fillF l n.toNat s.toNat t.toNat) n.toNat s.toNat, bal l (fillF l n.toNat s.toNat t.toNat) s, 0) else ([], 0, endsErr n l s t)
theorem leastS_nat {l : List S74} {n s t : Nat} (h : endsErr (n : Int) l (s : Int) (t : Int) = 0) : leastS n l s t = (behindF l (fillF l n s t) n s, bal l (fillF l n s t) s, 0) := by
 unfold leastS; rw [if_pos h]; simp only [Int.toNat_natCast]
theorem leastS_no {l : List S74} {n s t : Int} (h : ¬ endsErr n l s t = 0) : leastS n l s t = ([], 0, endsErr n l s t) := by unfold leastS; rw [if_neg h]
theorem least_ev (n : Int) (b : Bool) (l : List S74) (s t : Int) : Ev (fun k => mincut_Least.f k n b l s t) (leastS n l s t) := by
 unfold mincut_Least.f
 refine Ev.bind (ends_ev n b l s t) ?_
 by_cases h : endsErr n l s t = 0
 ·refine Ev.pos h ?_
  refine Ev.call (fill_eq b h) ?_
  obtain ⟨n0, s0, t0, rfl, rfl, rfl, hs, ht, hst, hn, hr⟩ := ends_zero h
  rw [leastS_nat h]
  simp only [Int.toNat_natCast]
  have hM := max_fill hr hs ht hst
  have ha := ask_of hn (flowOk_of hM.flow.right)
  have hB : mincut_Behind.f (n0 : Int) b l (fillF l n0 s0 t0) (s0 : Int) = some (behindF l (fillF l n0 s0 t0) n0 s0) := by
   unfold mincut_Behind.f
   rw [if_pos ⟨ha, by omega, by omega⟩, Int.toNat_natCast, Int.toNat_natCast]
  refine Ev.call hB ?_
  refine Ev.bind (takes_ev n0 n0 b l _ hn (by rw [behind_len])) ?_
  exact Ev.done (by rw [behind_cap hn hM hs hst])
 ·rw [leastS_no h]
  refine Ev.neg h ?_
  exact Ev.now _
end Go.Proofs.Ytkcpanpdipmmmaa.Q
namespace Go.Proofs.Ytkcpanpdipmmmaa.Q
open Go.RowKit Go.Proofs.YtkcpanpdipmmmaaW.PrintWords Go.Proofs.YtkcpanpdipmmmaaW.PrintLast Go.Proofs.YtkcpanpdipmmmaaW.PrintMore Go.Proofs.Ytkcpanpdipmmmaa.P
open Go.Proofs.Ytkcpanpdipmmmaa.H (endsErr Right right_of IsFlow MaxF fillF bfP nodes dOf dOf_len levelsRes capR capR_cons sideP sideP_iff behindF)
def two10 : List S74 := [(⟨0, 1, 3, 0⟩ : S74), (⟨1, 2, 1, 0⟩ : S74)]
theorem two10_right : Right two10 (List.replicate two10.length 0) 3 := by
 obtain ⟨n0, h1, h2⟩ := right_of (n := 3) (l := two10) (F := List.replicate two10.length 0) (by decide +kernel)
 obtain rfl : n0 = 3 := by omega
 exact h2
theorem two10_max : MaxF two10 (fillF two10 3 0 2) 3 0 2 := max_fill two10_right (by decide) (by decide) (by decide)
theorem two10_top : MaxF two10 [1, 1] 3 0 2 := by
 obtain ⟨n0, h1, h2⟩ := right_of (n := 3) (l := two10) (F := [1, 1]) (by decide +kernel)
 obtain rfl : n0 = 3 := by omega
 refine ⟨⟨h2, fun v a b c d => ?_⟩, by decide +kernel⟩
 obtain rfl : v = 1 := by omega
 decide +kernel
theorem awake10_ev : Ev (fun k => ebbtidelaw10_awake.f k) true := by
 have e1 : endsErr 3 two10 0 2 = 0 := by decide +kernel
 have v1 : bal two10 (fillF two10 3 0 2) 0 = 1 := by
  have h_ := H.max_same (s := 0) (t := 2) two10_max two10_top (by decide) (by decide)
  have h_2 : bal two10 [1, 1] ((0 : Nat) : Int) = 1 := by decide +kernel
  rw [h_2] at h_
  exact h_
 have v2 : behindF two10 (fillF two10 3 0 2) 3 0 = [true, true, false] := by
  rw [behind_same (s := 0) (t := 2) two10_max two10_top (by decide) (by decide)]
  decide +kernel
 have m1 : leastS 3 two10 0 2 = ([true, true, false], 1, 0) := by
  have h_ := leastS_nat (n := 3) (l := two10) (s := 0) (t := 2) e1
  have h_2 : leastS 3 two10 0 2 = (behindF two10 (fillF two10 3 0 2) 3 0, bal two10 (fillF two10 3 0 2) 0, 0) := h_
  rw [h_2, v1, v2]
 have m2 : capaR 3 two10 [true, false, false] = (3, 0) := by decide +kernel
 unfold ebbtidelaw10_awake.f
 refine Ev.let_ ?_
 refine Ev.bind (least_ev 3 false two10 0 2) ?_
 refine Ev.bind (capacity_ev 3 false two10 _) ?_
 rw [m1, m2]
 refine Ev.pos rfl ?_
 refine Ev.pos rfl ?_
 refine Ev.bind (same10_ev [true, true, false] (by decide)) ?_
 refine Ev.pos rfl ?_
 refine Ev.pos rfl ?_
 exact Ev.now _
theorem any_l0 {S T : List Bool} (hl : S.length ≤ T.length) (hl2 : S.length ≤ 1000000) (k c : Int) (h : c = k → ∀ v : Nat, v < S.length → sd S v = true → sd T v = true) (d : Nat) : ∀ i : Nat, i + d = S.length →
  Ev (fun m => ebbtidelaw10_MincutAny.l0 m T true S k c (i : Int)) true := by
 induction d with
 | zero =>
  intro i hi
  refine Ev.succ ?_; simp only [ebbtidelaw10_MincutAny.l0]
  refine Ev.neg (by omega) ?_
  refine Ev.succ ?_; simp only [ebbtidelaw10_MincutAny.j4]
  refine Ev.neg (by decide) ?_
  exact Ev.now _
 | succ d ih =>
  intro i hi
  refine Ev.succ ?_; simp only [ebbtidelaw10_MincutAny.l0]
  refine Ev.pos (by omega) ?_
  refine Ev.succ ?_; simp only [ebbtidelaw10_MincutAny.j4]
  rw [wrap_succ (n := S.length) (by omega) (by omega)]
  refine Ev.ite (fun g => ?_) (fun _ => Ev.now _)
  have g := beq_iff_eq.1 g
  refine Ev.pos (by omega) ?_
  refine Ev.pos (by omega) ?_
  refine Ev.ite (fun g1 => ?_) (fun _ => ih (i + 1) (by omega))
  refine Ev.pos (by omega) ?_
  refine Ev.pos (h g i (by omega) g1) ?_
  exact ih (i + 1) (by omega)
theorem mincutAny_ev (n : Int) (b : Bool) (l : List S74) (s t : Int) (T : List Bool) : Ev (fun k => ebbtidelaw10_MincutAny.f k n b l s t T) true := by
 unfold ebbtidelaw10_MincutAny.f
 refine Ev.bind awake10_ev ?_
 refine Ev.pos rfl ?_
 refine Ev.bind (least_ev n b l s t) ?_
 refine Ev.bind (max_ev n b l s t) ?_
 by_cases h : endsErr n l s t = 0
 ·obtain ⟨n0, s0, t0, rfl, rfl, rfl, hs, ht, hst, hn, hr⟩ := ends_zero h
  have hM := max_fill hr hs ht hst
  have ha := ask_of hn (flowOk_of hM.flow.right)
  have hl := behind_len l (fillF l n0 s0 t0) n0 s0
  have hhi := hn.hi
  have hS : sideR n0 l (fillF l n0 s0 t0) s0 = (behindF l (fillF l n0 s0 t0) n0 s0, 0) := by
   have hl : levelsRes n0 l (fillF l n0 s0 t0) s0 = (dOf n0 (bfP l (fillF l n0 s0 t0) n0 s0), 0) := by unfold levelsRes; rw [if_pos ha, if_pos (by omega), Int.toNat_natCast, Int.toNat_natCast]
   unfold sideR
   rw [hl, if_pos rfl]
   rfl
  rw [leastS_nat h, maxR_nat h]
  refine Ev.pos rfl ?_
  refine Ev.succ ?_; simp only [ebbtidelaw10_MincutAny.j0]
  refine Ev.neg (by simp) ?_
  refine Ev.bind (side_ev n0 b l _ s0) ?_
  rw [hS]
  refine Ev.pos rfl ?_
  refine Ev.bind (same10_ev _ (by rw [hl]; omega)) ?_
  refine Ev.succ ?_; simp only [ebbtidelaw10_MincutAny.j1]
  refine Ev.neg (by simp) ?_
  refine Ev.bind (capacity_ev n0 b l T) ?_
  refine Ev.ite (fun g => ?_) (fun _ => ?_)
  ·obtain ⟨c1, c2, c3⟩ := capa_ok g
   refine Ev.pos (by omega) ?_
   refine Ev.pos (by omega) ?_
   refine Ev.ite (fun g1 => ?_) (fun _ => ?_)
   ·refine Ev.pos (by omega) ?_
    refine Ev.pos (by omega) ?_
    refine Ev.succ ?_; simp only [ebbtidelaw10_MincutAny.j2]
    refine Ev.ite (fun _ => Ev.now _) (fun g2 => ?_)
    have g2 : sd T (t0 : Int) = false := Bool.eq_false_iff.2 g2
    have hle := H.value_le hM.flow (sd T) g1 g2 (by omega) (by omega)
    rw [c3]
    refine Ev.neg (by show ¬ capR (sd T) l < _; omega) ?_
    refine any_l0 (by rw [hl]; omega) (by rw [hl]; omega) _ _ (fun e v hv hsv => ?_) (behindF l (fillF l n0 s0 t0) n0 s0).length 0 (by omega)
    have e : capR (sd T) l = bal l (fillF l n0 s0 t0) s0 := e
    rw [hl] at hv
    rw [behind_get hv] at hsv
    exact H.least_side hM.flow hs (sd T) g1 g2 e.symm (of_decide_eq_true hsv)
   ·refine Ev.succ ?_; simp only [ebbtidelaw10_MincutAny.j2]
    refine Ev.pos (by first | trivial | rfl) ?_
    exact Ev.now _
  ·refine Ev.succ ?_; simp only [ebbtidelaw10_MincutAny.j2]
   refine Ev.pos (by first | trivial | rfl) ?_
   exact Ev.now _
 ·have e2 : maxR n l s t = ([], 0, endsErr n l s t) := by unfold maxR; rw [if_neg h]
  rw [leastS_no h, e2]
  refine Ev.neg h ?_
  refine Ev.succ ?_; simp only [ebbtidelaw10_MincutAny.j0]
  refine Ev.pos (by first | trivial | rfl) ?_
  refine Ev.pos (by first | trivial | rfl) ?_
  exact Ev.done (beq_self_eq_true _)
end Go.Proofs.Ytkcpanpdipmmmaa.Q
