/- What the law's row needs of these texts, taken out of them by wip/tool/mini.py: P183 QOpen QSoughtLaw QLevelLaw QRoomRef QLLevelWays. -/
import Derived.Test.YtkcpanpdipmmmaaMhikljd
import Derived.Test.YtkcpanpdipmmmaaMdejceo
import Derived.Test.YtkcpanpdipmmmaaVjgfkca
import Derived.Deep.Slices
import Derived.Deep.Fields
import Derived.ChangeSame
import Derived.ChangeArms
import Derived.OpenShut
import Derived.Test.YtkcpanpdipmmmaaMeeohon
import Derived.Test.YtkcpanpdipmmmaaMhbkcgg
import Derived.Deep.RegionHeld3
import Derived.Deep.DeepCutAuto
set_option linter.unusedVariables false
set_option linter.unusedSimpArgs false
namespace Go.Proofs.Ytkcpanpdipmmmaa.P
open Go.RowKit Go.Proofs.YtkcpanpdipmmmaaW.PrintWords Go.Proofs.YtkcpanpdipmmmaaW.PrintLast Go.Proofs.YtkcpanpdipmmmaaW.PrintMore
attribute [local go_sem] max2_int min2_int max_two min_two max_three min_three max_four min_four
mutual
def ebbtidelaw08_LevelWays.j0 : Nat → List Int → Int → Int → Bool → List (S38) → Bool → List Int → Bool → Int → Bool → List (S74) → Option (Bool)
 | 0, _, _, _, _, _, _, _, _, _, _, _ => none
 | k + 1, x1, x2, x3, x9, x10, x11, x13, x58, x598000, x598001, x598002 => if x58 = true then (some false) else (if x11 = true then (if 0 ≤ x3 then (if x3 < (x13.length : Int) then (if (x10.length : Int) = (rd x13 x3) then (ebbtidelaw08_LevelWays.j1 k x1 x2 x3 x9 x10 x13 ((x10.length : Int) == 0) x598000 x598001 x598002) else (ebbtidelaw08_LevelWays.j1 k x1 x2 x3 x9 x10 x13 true x598000 x598001 x598002)) else (none)) else (none)) else (if x9 = true then (if 0 ≤ x3 then (if x3 < (x13.length : Int) then (if (rd x13 x3) = (-1) then (some ((x10.length : Int) == 0)) else (some false)) else (none)) else (none)) else (some false)))
def ebbtidelaw08_LevelWays.j1 : Nat → List Int → Int → Int → Bool → List (S38) → List Int → Bool → Int → Bool → List (S74) → Option (Bool)
 | 0, _, _, _, _, _, _, _, _, _, _ => none
 | k + 1, x1, x2, x3, x9, x10, x13, x85, x598000, x598001, x598002 => if x85 = true then (some false) else (ebbtidelaw08_LevelWays.l0 k x1 x3 x9 x10 x13 x2 0 x598000 x598001 x598002)
def ebbtidelaw08_LevelWays.l0 : Nat → List Int → Int → Bool → List (S38) → List Int → Int → Int → Int → Bool → List (S74) → Option (Bool)
 | 0, _, _, _, _, _, _, _, _, _, _ => none
 | k + 1, x1, x3, x9, x10, x13, x15, x16, x598000, x598001, x598002 => if x16 < (x10.length : Int) then (if 0 ≤ x16 then ((ebbtideref07_Room.f k x598000 x598001 x598002 x1 ((rd_T38 x10 x16).f0) ((rd_T38 x10 x16).f1)).bind fun bt611 => (if bt611.2 = 0 then (if bt611.1 = 0 then (ebbtidelaw08_LevelWays.j3 k x1 x3 x9 x10 x13 x16 true x598000 x598001 x598002) else ((ebbtideref07_From.f x598000 x598001 x598002 ((rd_T38 x10 x16).f0) ((rd_T38 x10 x16).f1)).bind fun t614 => (ebbtidelaw08_LevelWays.j3 k x1 x3 x9 x10 x13 x16 (t614 != x15) x598000 x598001 x598002))) else (ebbtidelaw08_LevelWays.j3 k x1 x3 x9 x10 x13 x16 true x598000 x598001 x598002))) else (none)) else (if x9 = true then (some (x15 == x3)) else (some false))
def ebbtidelaw08_LevelWays.j3 : Nat → List Int → Int → Bool → List (S38) → List Int → Int → Bool → Int → Bool → List (S74) → Option (Bool)
 | 0, _, _, _, _, _, _, _, _, _, _ => none
 | k + 1, x1, x3, x9, x10, x13, x16, x118, x598000, x598001, x598002 => if x118 = true then (some false) else (if 0 ≤ x16 then (if x16 < (x10.length : Int) then ((ebbtideref07_To.f x598000 x598001 x598002 ((rd_T38 x10 x16).f0) ((rd_T38 x10 x16).f1)).bind fun t616 => (if 0 ≤ t616 then (if t616 < (x13.length : Int) then (if (rd x13 t616) = (wrap64 (x16 + 1)) then (ebbtidelaw08_LevelWays.l0 k x1 x3 x9 x10 x13 t616 (wrap64 (x16 + 1)) x598000 x598001 x598002) else (some false)) else (none)) else (none))) else (none)) else (none))
end
def ebbtidelaw08_LevelWays.f (k : Nat) (a0_0 : Int) (a0_1 : Bool) (l0_2 : List (S74)) (l1 : List Int) (a2 : Int) (a3 : Int) : Option (Bool) := (ebbtidelaw08_awake.f k).bind fun t598 => (if t598 = true then ((level_Path.f a0_0 a0_1 l0_2 l1 a2 a3).bind fun bt599 => (if bt599.2.2 = 0 then ((level_Levels.f a0_0 a0_1 l0_2 l1 a2).bind fun bt604 => (if bt604.2 = 0 then (ebbtidelaw08_LevelWays.j0 k l1 a2 a3 t598 bt599.1 bt599.2.1 bt604.1 ((bt604.1.length : Int) != a0_0) a0_0 a0_1 l0_2) else (ebbtidelaw08_LevelWays.j0 k l1 a2 a3 t598 bt599.1 bt599.2.1 bt604.1 true a0_0 a0_1 l0_2))) else (if bt599.2.1 = true then (some false) else (some ((bt599.1.length : Int) == 0))))) else (some false))
def ebbtidelaw08_LevelWays.T18 : Bool × List (List Nat × List Nat) := (true, [([], []), ([], []), ([], []), ([], []), ([2, 3], [2, 3]), ([4], [4]), ([0, 1, 5], [0, 1, 5]), ([6], [6]), ([7], [7]), ([7], [7]), ([8, 6, 0, 1, 2, 3, 4, 5, 6, 7, 8], [8]), ([9, 10, 0, 1, 2, 3, 4, 5, 6, 7, 8, 9, 10], [9])])
def ebbtidelaw08_LevelWays.B18 : List Nat := [0, 0, 0, 0, 12, 28, 63, 127, 255, 255, 511, 2047]
theorem ebbtidelaw08_LevelWays.tab18 : rtab .any (opsOf Try.f11 18) = ebbtidelaw08_LevelWays.T18 := by kernel_rfl
theorem ebbtidelaw08_LevelWays.bits18 : waitsOk ebbtidelaw08_LevelWays.T18.2 ebbtidelaw08_LevelWays.B18 = true := by kernel_rfl
def ebbtidelaw08_LevelWays.T19 : Bool × List (List Nat × List Nat) := (true, [([], []), ([0], [0]), ([1], [1]), ([2], [2]), ([3, 2], [2, 3]), ([2, 4], [2, 4]), ([5, 2], [5]), ([6], [6]), ([6], [6]), ([6], [6]), ([8, 9, 6], [6, 8, 9]), ([10, 6], [6, 10]), ([7, 11, 6, 6], [6, 7, 11]), ([6], [6]), ([12, 13, 6], [6, 12, 13]), ([6, 14], [6, 14])])
def ebbtidelaw08_LevelWays.B19 : List Nat := [0, 1, 3, 7, 15, 31, 63, 127, 127, 127, 895, 1919, 4095, 127, 16383, 32767]
theorem ebbtidelaw08_LevelWays.tab19 : rtab .any (opsOf Try.f11 19) = ebbtidelaw08_LevelWays.T19 := by kernel_rfl
theorem ebbtidelaw08_LevelWays.bits19 : waitsOk ebbtidelaw08_LevelWays.T19.2 ebbtidelaw08_LevelWays.B19 = true := by kernel_rfl
set_option maxHeartbeats 8000000 in
set_option maxRecDepth 100000 in
theorem ebbtidelaw08_LevelWays.calls (k : Nat) (a0_0 : Int) (a0_1 : Bool) (A0_2 : Option Addr) (c0_2 : Nat) (l0_2 : List (S74)) (A1 : Option Addr) (c1 : Nat) (l1 : List Int) (a2 : Int) (a3 : Int) (r : Bool) (w : World) (hr0_2 : Kd.C k74 w A0_2 l0_2.length l0_2) (hc0_2 : l0_2.length ≤ c0_2) (hr1 : Kd.C (Kd.int .i64) w A1 l1.length l1) (hc1 : l1.length ≤ c1) (h : ebbtidelaw08_LevelWays.f k a0_0 a0_1 l0_2 l1 a2 a3 = some r) (hrT_ : r = true := by first | rfl | exact Aside0.out (by assumption)) :
  Calls Try.prog 11 #[.agg #[.int .i64 a0_0, .bool a0_1, .slice A0_2 l0_2.length c0_2], .slice A1 l1.length c1, .int .i64 a2, .int .i64 a3] w fun e w' => e = .returned (.bool r) ∧ Below w.heap.size w w' := by
 have HRT := Aside0.mk hrT_
 clear hrT_
 have hu24 := Try.underlying24
 have hu38 := Try.underlying38
 have HR0_2 := Aside0.mk hr0_2
 have HC0_2 := Aside0.mk hc0_2
 clear hr0_2 hc0_2
 have HR1 := Aside0.mk hr1
 have HC1 := Aside0.mk hc1
 clear hr1 hc1
 have HB := Aside0.mk (Below.refl w.heap.size w)
 have H : ((ebbtidelaw08_awake.f k).bind fun t598 => (if t598 = true then ((level_Path.f a0_0 a0_1 l0_2 l1 a2 a3).bind fun bt599 => (if bt599.2.2 = 0 then ((level_Levels.f a0_0 a0_1 l0_2 l1 a2).bind fun bt604 => (if bt604.2 = 0 then (ebbtidelaw08_LevelWays.j0 k l1 a2 a3 t598 bt599.1 bt599.2.1 bt604.1 ((bt604.1.length : Int) != a0_0) a0_0 a0_1 l0_2) else (ebbtidelaw08_LevelWays.j0 k l1 a2 a3 t598 bt599.1 bt599.2.1 bt604.1 true a0_0 a0_1 l0_2))) else (if bt599.2.1 = true then (some false) else (some ((bt599.1.length : Int) == 0))))) else (some false))) = some r := h
 clear h
 replace H := Option.bind_eq_some_iff.mp H
 obtain ⟨t598, A50, H⟩ := H
 replace H : (if t598 = true then ((level_Path.f a0_0 a0_1 l0_2 l1 a2 a3).bind fun bt599 => (if bt599.2.2 = 0 then ((level_Levels.f a0_0 a0_1 l0_2 l1 a2).bind fun bt604 => (if bt604.2 = 0 then (ebbtidelaw08_LevelWays.j0 k l1 a2 a3 t598 bt599.1 bt599.2.1 bt604.1 ((bt604.1.length : Int) != a0_0) a0_0 a0_1 l0_2) else (ebbtidelaw08_LevelWays.j0 k l1 a2 a3 t598 bt599.1 bt599.2.1 bt604.1 true a0_0 a0_1 l0_2))) else (if bt599.2.1 = true then (some false) else (some ((bt599.1.length : Int) == 0))))) else (some false)) = some r := H
 have A5 := Aside0.mk A50
 clear A50
 by_cases c6 : t598 = true
 rotate_left
 ·replace c6 := Bool.eq_false_iff.mpr c6
  subst c6
  have H1 : (some false) = some r := by rw [if_neg (show ¬ (false = true) by decide)] at H; exact H
  exact absurd (Option.some.inj H1) (by rw [HRT.out]; decide)
 subst c6
 have H1 : ((level_Path.f a0_0 a0_1 l0_2 l1 a2 a3).bind fun bt599 => (if bt599.2.2 = 0 then ((level_Levels.f a0_0 a0_1 l0_2 l1 a2).bind fun bt604 => (if bt604.2 = 0 then (ebbtidelaw08_LevelWays.j0 k l1 a2 a3 true bt599.1 bt599.2.1 bt604.1 ((bt604.1.length : Int) != a0_0) a0_0 a0_1 l0_2) else (ebbtidelaw08_LevelWays.j0 k l1 a2 a3 true bt599.1 bt599.2.1 bt604.1 true a0_0 a0_1 l0_2))) else (if bt599.2.1 = true then (some false) else (some ((bt599.1.length : Int) == 0))))) = some r := by first | (rw [if_pos rfl] at H; exact H) | (rw [if_pos trivial] at H; exact H)
 clear H
 have H := H1
 clear H1
 replace H := Option.bind_eq_some_iff.mp H
 obtain ⟨⟨t599, t602, t603⟩, A70, H⟩ := H
 replace H : (if t603 = 0 then ((level_Levels.f a0_0 a0_1 l0_2 l1 a2).bind fun bt604 => (if bt604.2 = 0 then (ebbtidelaw08_LevelWays.j0 k l1 a2 a3 true t599 t602 bt604.1 ((bt604.1.length : Int) != a0_0) a0_0 a0_1 l0_2) else (ebbtidelaw08_LevelWays.j0 k l1 a2 a3 true t599 t602 bt604.1 true a0_0 a0_1 l0_2))) else (if t602 = true then (some false) else (some ((t599.length : Int) == 0)))) = some r := H
 have A7 := Aside0.mk A70
 clear A70
 by_cases c8 : t603 = 0
 rotate_left
 ·rw [if_neg c8] at H
  have c8b0 : (t603 == 0) = false := beq_eq_false_iff_ne.mpr c8
  have c8b1 : (t603 != 0) = true := bne_iff_ne.mpr c8
  by_cases c68 : t602 = true
  ·subst c68
   have H1 : (some false) = some r := by first | (rw [if_pos rfl] at H; exact H) | (rw [if_pos trivial] at H; exact H)
   exact absurd (Option.some.inj H1) (by rw [HRT.out]; decide)
  replace c68 := Bool.eq_false_iff.mpr c68
  subst c68
  have H1 : (some ((t599.length : Int) == 0)) = some r := by rw [if_neg (show ¬ (false = true) by decide)] at H; exact H
  clear H
  have H := H1
  clear H1
  obtain rfl := Option.some.inj H
  go_enter Try.func11, Try.ntmps11
  go_wp2_with (first | ((with_reducible refine gate_dst (N := 4) rfl ?_); (try (refine gate_guard (by rfl) ?_; dsimp only)); refine box_event ?hg (N := 4) ?hd (cs := #[.int .i64 a0_0, .bool a0_1, .slice A0_2 l0_2.length c0_2]) (t := 24) ?hr ?_; (case hd => rfl); (case hg => rfl); (case hr => first | (go_simp; done) | (go_simp; rfl)); intro gb597 hg w73 hbox hb; have n0_ := Aside0.mk (below_step (by repeat (first | (with_reducible first | exact HB.out | apply below_alloc | apply pw_below_drewN | apply below_drew1) | exact HB.out)) hb); have n1_ := Aside0.mk (hbox); have n2_ := Aside0.mk ((by rw [hg]; exact (below_size (by repeat (first | (with_reducible first | exact HB.out | apply below_alloc | apply pw_below_drewN | apply below_drew1) | exact HB.out))) : w.heap.size ≤ gb597)); have n3_ := Aside0.mk ((by rw [hg]; exact (below_size (by repeat (first | (with_reducible first | exact HB.out | apply below_alloc | apply pw_below_drewN | apply below_drew1) | exact HB.out))) : w.heap.size ≤ gb597)); clear HB; have HB := n0_; have BK597 := n1_; have GW597 := n2_; have GE597 := n3_; clear n0_ n1_ n2_ n3_; clear hb hbox hg) | ((with_reducible refine gate_callee (f := 55) rfl ?_); refine goesL_ (some 19) rfl rfl Try.func55 (by kernel_rfl) rfl #[] rfl (by (try simp only [List.map_toArray, List.map_cons, List.map_nil]); first | done | rfl | (simp only [List.length_drop, List.length_take]; rfl)) ?_; (with_reducible refine (ebbtidelaw08_awake.calls k  true _ A5.out).mono ?_); rintro e w74 ⟨rfl, hb⟩; refine ⟨_, rfl, ?_⟩; have n0_ := Aside0.mk (blk_below (g := gb597) (o := .cells #[.int .i64 a0_0, .bool a0_1, .slice A0_2 l0_2.length c0_2] 24 (0, 0)) (by (with_reducible repeat (first | refine blk_drewN ?_ _ | refine blk_drew ?_ | refine blk_alloc ?_ _)); exact BK597.out) hb); have n1_ := Aside0.mk (below_step (by repeat (first | (with_reducible first | exact HB.out | apply below_alloc | apply pw_below_drewN | apply below_drew1 | refine below_set ?_ GE597.out) | exact HB.out)) hb); clear BK597; clear HB; have BK597 := n0_; have HB := n1_; clear n0_ n1_; (try clear hb); (try clear hb2); (try clear hk); (try clear hi); have hcz75_0 : w74.cell? ⟨gb597, 0, none⟩ = some (.int .i64 a0_0) := (blk_cell BK597.out 0).trans rfl; have hcz75_1 : w74.cell? ⟨gb597, 1, none⟩ = some (.bool a0_1) := (blk_cell BK597.out 1).trans rfl; have hcz75_2 : w74.cell? ⟨gb597, 2, none⟩ = some (.slice A0_2 l0_2.length c0_2) := (blk_cell BK597.out 2).trans rfl; have hfz75_0 := blk_frozen BK597.out 0; have hfz75_1 := blk_frozen BK597.out 1; have hfz75_2 := blk_frozen BK597.out 2) | ((with_reducible refine gate_callee (f := 56) rfl ?_); refine goesL_ (some 27) rfl rfl Try.func56 (by kernel_rfl) rfl #[.agg #[.int .i64 a0_0, .bool a0_1, .slice A0_2 l0_2.length c0_2], .slice A1 l1.length c1, .int .i64 a2, .int .i64 a3] rfl (by (try simp only [List.map_toArray, List.map_cons, List.map_nil]); first | done | rfl | (simp only [List.length_drop, List.length_take]; rfl)) ?_; (with_reducible refine (level_Path.calls a0_0 a0_1 _ _ l0_2 _ _ l1 a2 a3 t599 false t603 _ ?side1 ?side2 ?side3 ?side4 A7.out).mono ?_); (case side1 => repeat (first | exact (Kd.C_below HR0_2.out HB.out) | (with_reducible refine Kd.C_alloc ?_ _) | (with_reducible refine Kd.C_drewN ?_ _) | (with_reducible refine Kd.C_drew ?_))); (case side2 => exact HC0_2.out); (case side3 => repeat (first | exact (Kd.C_below HR1.out HB.out) | (with_reducible refine Kd.C_alloc ?_ _) | (with_reducible refine Kd.C_drewN ?_ _) | (with_reducible refine Kd.C_drew ?_))); (case side4 => exact HC1.out); rintro e w76 ⟨v600, rfl, ho0, hb⟩; refine ⟨_, rfl, ?_⟩; have n0_ := Aside0.mk (Kd.R_lower ho0 (below_size (by repeat (first | (with_reducible first | exact HB.out | apply below_alloc | apply pw_below_drewN | apply below_drew1 | refine below_set ?_ GE597.out) | exact HB.out)))); have n1_ := Aside0.mk (blk_below (g := gb597) (o := .cells #[.int .i64 a0_0, .bool a0_1, .slice A0_2 l0_2.length c0_2] 24 (0, 0)) (by (with_reducible repeat (first | refine blk_drewN ?_ _ | refine blk_drew ?_ | refine blk_alloc ?_ _)); exact BK597.out) hb); have n2_ := Aside0.mk (below_step (by repeat (first | (with_reducible first | exact HB.out | apply below_alloc | apply pw_below_drewN | apply below_drew1 | refine below_set ?_ GE597.out) | exact HB.out)) hb); clear BK597; clear HB; have HO601 := n0_; have BK597 := n1_; have HB := n2_; clear n0_ n1_ n2_; (try clear hb); (try clear hb2); (try clear hk); (try clear hi); (try clear ho0); obtain ⟨Ao77, co77, eo77⟩ := Kd.R_slice HO601.out; subst eo77))
  go_ret
  exact ⟨by first | rfl | (simp [errW_none, errW_some] <;> rfl) | (simp [*, errW_none, errW_some] <;> rfl), by repeat (first | (with_reducible first | exact HB.out | apply below_alloc | apply pw_below_drewN | apply below_drew1 | refine below_set ?_ GE597.out) | exact HB.out)⟩
 rw [if_pos c8] at H
 have c8b0 : (t603 == 0) = true := beq_iff_eq.mpr c8
 have c8b1 : (t603 != 0) = false := bne_eq_false_iff_eq.mpr c8
 clear c8
 replace H := Option.bind_eq_some_iff.mp H
 obtain ⟨⟨t604, t607⟩, A90, H⟩ := H
 replace H : (if t607 = 0 then (ebbtidelaw08_LevelWays.j0 k l1 a2 a3 true t599 t602 t604 ((t604.length : Int) != a0_0) a0_0 a0_1 l0_2) else (ebbtidelaw08_LevelWays.j0 k l1 a2 a3 true t599 t602 t604 true a0_0 a0_1 l0_2)) = some r := H
 have A9 := Aside0.mk A90
 clear A90
 have HC10 := Aside0.mk H
 clear H
 go_enter Try.func11, Try.ntmps11
 go_upto_region 8 with (first | ((with_reducible refine gate_dst (N := 4) rfl ?_); (try (refine gate_guard (by rfl) ?_; dsimp only)); refine box_event ?hg (N := 4) ?hd (cs := #[.int .i64 a0_0, .bool a0_1, .slice A0_2 l0_2.length c0_2]) (t := 24) ?hr ?_; (case hd => rfl); (case hg => rfl); (case hr => first | (go_simp; done) | (go_simp; rfl)); intro gb597 hg w11 hbox hb; have n0_ := Aside0.mk (below_step (by repeat (first | (with_reducible first | exact HB.out | apply below_alloc | apply pw_below_drewN | apply below_drew1) | exact HB.out)) hb); have n1_ := Aside0.mk (hbox); have n2_ := Aside0.mk ((by rw [hg]; exact (below_size (by repeat (first | (with_reducible first | exact HB.out | apply below_alloc | apply pw_below_drewN | apply below_drew1) | exact HB.out))) : w.heap.size ≤ gb597)); have n3_ := Aside0.mk ((by rw [hg]; exact (below_size (by repeat (first | (with_reducible first | exact HB.out | apply below_alloc | apply pw_below_drewN | apply below_drew1) | exact HB.out))) : w.heap.size ≤ gb597)); clear HB; have HB := n0_; have BK597 := n1_; have GW597 := n2_; have GE597 := n3_; clear n0_ n1_ n2_ n3_; clear hb hbox hg) | ((with_reducible refine gate_callee (f := 55) rfl ?_); refine goesL_ (some 19) rfl rfl Try.func55 (by kernel_rfl) rfl #[] rfl (by (try simp only [List.map_toArray, List.map_cons, List.map_nil]); first | done | rfl | (simp only [List.length_drop, List.length_take]; rfl)) ?_; (with_reducible refine (ebbtidelaw08_awake.calls k  true _ A5.out).mono ?_); rintro e w12 ⟨rfl, hb⟩; refine ⟨_, rfl, ?_⟩; have n0_ := Aside0.mk (blk_below (g := gb597) (o := .cells #[.int .i64 a0_0, .bool a0_1, .slice A0_2 l0_2.length c0_2] 24 (0, 0)) (by (with_reducible repeat (first | refine blk_drewN ?_ _ | refine blk_drew ?_ | refine blk_alloc ?_ _)); exact BK597.out) hb); have n1_ := Aside0.mk (below_step (by repeat (first | (with_reducible first | exact HB.out | apply below_alloc | apply pw_below_drewN | apply below_drew1 | refine below_set ?_ GE597.out) | exact HB.out)) hb); clear BK597; clear HB; have BK597 := n0_; have HB := n1_; clear n0_ n1_; (try clear hb); (try clear hb2); (try clear hk); (try clear hi); have hcz13_0 : w12.cell? ⟨gb597, 0, none⟩ = some (.int .i64 a0_0) := (blk_cell BK597.out 0).trans rfl; have hcz13_1 : w12.cell? ⟨gb597, 1, none⟩ = some (.bool a0_1) := (blk_cell BK597.out 1).trans rfl; have hcz13_2 : w12.cell? ⟨gb597, 2, none⟩ = some (.slice A0_2 l0_2.length c0_2) := (blk_cell BK597.out 2).trans rfl; have hfz13_0 := blk_frozen BK597.out 0; have hfz13_1 := blk_frozen BK597.out 1; have hfz13_2 := blk_frozen BK597.out 2) | ((with_reducible refine gate_callee (f := 56) rfl ?_); refine goesL_ (some 27) rfl rfl Try.func56 (by kernel_rfl) rfl #[.agg #[.int .i64 a0_0, .bool a0_1, .slice A0_2 l0_2.length c0_2], .slice A1 l1.length c1, .int .i64 a2, .int .i64 a3] rfl (by (try simp only [List.map_toArray, List.map_cons, List.map_nil]); first | done | rfl | (simp only [List.length_drop, List.length_take]; rfl)) ?_; (with_reducible refine (level_Path.calls a0_0 a0_1 _ _ l0_2 _ _ l1 a2 a3 t599 t602 t603 _ ?side1 ?side2 ?side3 ?side4 A7.out).mono ?_); (case side1 => repeat (first | exact (Kd.C_below HR0_2.out HB.out) | (with_reducible refine Kd.C_alloc ?_ _) | (with_reducible refine Kd.C_drewN ?_ _) | (with_reducible refine Kd.C_drew ?_))); (case side2 => exact HC0_2.out); (case side3 => repeat (first | exact (Kd.C_below HR1.out HB.out) | (with_reducible refine Kd.C_alloc ?_ _) | (with_reducible refine Kd.C_drewN ?_ _) | (with_reducible refine Kd.C_drew ?_))); (case side4 => exact HC1.out); rintro e w14 ⟨v600, rfl, ho0, hb⟩; refine ⟨_, rfl, ?_⟩; have n0_ := Aside0.mk (Kd.R_lower ho0 (below_size (by repeat (first | (with_reducible first | exact HB.out | apply below_alloc | apply pw_below_drewN | apply below_drew1 | refine below_set ?_ GE597.out) | exact HB.out)))); have n1_ := Aside0.mk (blk_below (g := gb597) (o := .cells #[.int .i64 a0_0, .bool a0_1, .slice A0_2 l0_2.length c0_2] 24 (0, 0)) (by (with_reducible repeat (first | refine blk_drewN ?_ _ | refine blk_drew ?_ | refine blk_alloc ?_ _)); exact BK597.out) hb); have n2_ := Aside0.mk (below_step (by repeat (first | (with_reducible first | exact HB.out | apply below_alloc | apply pw_below_drewN | apply below_drew1 | refine below_set ?_ GE597.out) | exact HB.out)) hb); clear BK597; clear HB; have HO601 := n0_; have BK597 := n1_; have HB := n2_; clear n0_ n1_ n2_; (try clear hb); (try clear hb2); (try clear hk); (try clear hi); (try clear ho0); have hcz15_0 : w14.cell? ⟨gb597, 0, none⟩ = some (.int .i64 a0_0) := (blk_cell BK597.out 0).trans rfl; have hcz15_1 : w14.cell? ⟨gb597, 1, none⟩ = some (.bool a0_1) := (blk_cell BK597.out 1).trans rfl; have hcz15_2 : w14.cell? ⟨gb597, 2, none⟩ = some (.slice A0_2 l0_2.length c0_2) := (blk_cell BK597.out 2).trans rfl; have hfz15_0 := blk_frozen BK597.out 0; have hfz15_1 := blk_frozen BK597.out 1; have hfz15_2 := blk_frozen BK597.out 2) | ((with_reducible refine gate_callee (f := 53) rfl ?_); refine goesL_ (some 47) rfl rfl Try.func53 (by kernel_rfl) rfl #[.agg #[.int .i64 a0_0, .bool a0_1, .slice A0_2 l0_2.length c0_2], .slice A1 l1.length c1, .int .i64 a2] rfl (by (try simp only [List.map_toArray, List.map_cons, List.map_nil]); first | done | rfl | (simp only [List.length_drop, List.length_take]; rfl)) ?_; (with_reducible refine (level_Levels.calls a0_0 a0_1 _ _ l0_2 _ _ l1 a2 t604 t607 _ ?side1 ?side2 ?side3 ?side4 A9.out).mono ?_); (case side1 => repeat (first | exact (Kd.C_below HR0_2.out HB.out) | (with_reducible refine Kd.C_alloc ?_ _) | (with_reducible refine Kd.C_drewN ?_ _) | (with_reducible refine Kd.C_drew ?_))); (case side2 => exact HC0_2.out); (case side3 => repeat (first | exact (Kd.C_below HR1.out HB.out) | (with_reducible refine Kd.C_alloc ?_ _) | (with_reducible refine Kd.C_drewN ?_ _) | (with_reducible refine Kd.C_drew ?_))); (case side4 => exact HC1.out); rintro e w16 ⟨v605, rfl, ho0, hb⟩; refine ⟨_, rfl, ?_⟩; have n0_ := Aside0.mk (Kd.R_below (by (with_reducible repeat (first | apply Kd.R_alloc | apply Kd.R_drewN | apply Kd.R_drew)); exact HO601.out) hb); have n1_ := Aside0.mk (Kd.R_lower ho0 (below_size (by repeat (first | (with_reducible first | exact HB.out | apply below_alloc | apply pw_below_drewN | apply below_drew1 | refine below_set ?_ GE597.out) | exact HB.out)))); have n2_ := Aside0.mk (blk_below (g := gb597) (o := .cells #[.int .i64 a0_0, .bool a0_1, .slice A0_2 l0_2.length c0_2] 24 (0, 0)) (by (with_reducible repeat (first | refine blk_drewN ?_ _ | refine blk_drew ?_ | refine blk_alloc ?_ _)); exact BK597.out) hb); have n3_ := Aside0.mk (below_step (by repeat (first | (with_reducible first | exact HB.out | apply below_alloc | apply pw_below_drewN | apply below_drew1 | refine below_set ?_ GE597.out) | exact HB.out)) hb); clear HO601; clear BK597; clear HB; have HO601 := n0_; have HO606 := n1_; have BK597 := n2_; have HB := n3_; clear n0_ n1_ n2_ n3_; (try clear hb); (try clear hb2); (try clear hk); (try clear hi); (try clear ho0)))
 (try simp only [Act.put, List.setIfInBounds_toArray, List.set_cons_zero, List.set_cons_succ])
 go_cut [58] (fun v58 wc => ∃ (kq : Nat) (x58_9 : Bool), v58 = .bool x58_9 ∧ Aside0 (ebbtidelaw08_LevelWays.j0 kq l1 a2 a3 true t599 t602 t604 x58_9 a0_0 a0_1 l0_2 = some r) ∧ Aside0 (kq ≤ k) ∧ Aside0 (Kd.R k38 38 wc w.heap.size (fun _ => True) v600 t599) ∧ Aside0 (Kd.R (Kd.int .i64) 3 wc w.heap.size (fun _ => True) v605 t604) ∧ Aside0 (wc.heap[gb597]? = some (.cells #[.int .i64 a0_0, .bool a0_1, (.slice A0_2 l0_2.length c0_2)] 24 (0, 0))) ∧ Aside0 (Below w.heap.size w wc))
 case first =>
  have H := HC10.out
  clear HC10
  by_cases c17 : t607 = 0
  rotate_left
  ·rw [if_neg c17] at H
   have c17b0 : (t607 == 0) = false := beq_eq_false_iff_ne.mpr c17
   have c17b1 : (t607 != 0) = true := bne_iff_ne.mpr c17
   (first | rw [c17b0] | (simp only [i64_w, i32_w]; rw [c17b0]) | skip)
   have H' := Aside0.mk H
   clear H
   go_wp2
   go_meet
   case rel => exact ⟨_, (true), (by first | rfl | (simp; done) | (simp [*]; done)), H', ⟨by first | omega | exact Nat.le_refl _⟩, ⟨by (with_reducible repeat (first | apply Kd.R_alloc | apply Kd.R_drewN | apply Kd.R_drew)); exact HO601.out⟩, ⟨by (with_reducible repeat (first | apply Kd.R_alloc | apply Kd.R_drewN | apply Kd.R_drew)); exact HO606.out⟩, ⟨by (with_reducible repeat (first | refine blk_drewN ?_ _ | refine blk_drew ?_ | refine blk_alloc ?_ _)); exact BK597.out⟩, ⟨by repeat (first | (with_reducible first | exact HB.out | apply below_alloc | apply pw_below_drewN | apply below_drew1 | refine below_set ?_ GE597.out) | exact HB.out)⟩⟩
  rw [if_pos c17] at H
  have c17b0 : (t607 == 0) = true := beq_iff_eq.mpr c17
  have c17b1 : (t607 != 0) = false := bne_eq_false_iff_eq.mpr c17
  clear c17
  (first | rw [c17b0] | (simp only [i64_w, i32_w]; rw [c17b0]) | skip)
  have H' := Aside0.mk H
  clear H
  obtain ⟨Ao18, co18, eo18⟩ := Kd.R_slice HO606.out
  subst eo18
  have hcz19_0 : w16.cell? ⟨gb597, 0, none⟩ = some (.int .i64 a0_0) := (blk_cell BK597.out 0).trans rfl
  have hcz19_1 : w16.cell? ⟨gb597, 1, none⟩ = some (.bool a0_1) := (blk_cell BK597.out 1).trans rfl
  have hcz19_2 : w16.cell? ⟨gb597, 2, none⟩ = some (.slice A0_2 l0_2.length c0_2) := (blk_cell BK597.out 2).trans rfl
  have hfz19_0 := blk_frozen BK597.out 0
  have hfz19_1 := blk_frozen BK597.out 1
  have hfz19_2 := blk_frozen BK597.out 2
  go_wp2
  go_meet
  case rel => exact ⟨_, (((t604.length : Int) != a0_0)), (by first | rfl | (simp; done) | (simp [*]; done)), H', ⟨by first | omega | exact Nat.le_refl _⟩, ⟨by (with_reducible repeat (first | apply Kd.R_alloc | apply Kd.R_drewN | apply Kd.R_drew)); exact HO601.out⟩, ⟨by (with_reducible repeat (first | apply Kd.R_alloc | apply Kd.R_drewN | apply Kd.R_drew)); exact HO606.out⟩, ⟨by (with_reducible repeat (first | refine blk_drewN ?_ _ | refine blk_drew ?_ | refine blk_alloc ?_ _)); exact BK597.out⟩, ⟨by repeat (first | (with_reducible first | exact HB.out | apply below_alloc | apply pw_below_drewN | apply below_drew1 | refine below_set ?_ GE597.out) | exact HB.out)⟩⟩
 case rest =>
  clear HC10
  try clear c1
  try clear p2
  try clear c5
  try clear c6
  try clear c8
  try clear c8b0
  try clear c8b1
  try clear c11
  try clear c17
  try clear c17b0
  try clear c17b1
  try clear hcz13_0
  try clear hcz13_1
  try clear hcz13_2
  try clear hcz15_0
  try clear hcz15_1
  try clear hcz15_2
  try clear hcz19_0
  try clear hcz19_1
  try clear hcz19_2
  try clear hfz13_0
  try clear hfz13_1
  try clear hfz13_2
  try clear hfz15_0
  try clear hfz15_1
  try clear hfz15_2
  try clear hfz19_0
  try clear hfz19_1
  try clear hfz19_2
  obtain ⟨kq, x58_9, rfl, HA, HJ9, HO_10, HO_13, BK597, HB⟩ := hcut
  cases kq with
  | zero => exact absurd HA.out (by simp [ebbtidelaw08_LevelWays.j0])
  | succ kj9 =>
   have H := HA.out
   clear HA
   simp only [ebbtidelaw08_LevelWays.j0] at H
   by_cases c20 : x58_9 = true
   ·subst c20
    have H1 : (some false) = some r := by first | (rw [if_pos rfl] at H; exact H) | (rw [if_pos trivial] at H; exact H)
    exact absurd (Option.some.inj H1) (by rw [HRT.out]; decide)
   replace c20 := Bool.eq_false_iff.mpr c20
   subst c20
   have H1 : (if t602 = true then (if 0 ≤ a3 then (if a3 < (t604.length : Int) then (if (t599.length : Int) = (rd t604 a3) then (ebbtidelaw08_LevelWays.j1 kj9 l1 a2 a3 true t599 t604 ((t599.length : Int) == 0) a0_0 a0_1 l0_2) else (ebbtidelaw08_LevelWays.j1 kj9 l1 a2 a3 true t599 t604 true a0_0 a0_1 l0_2)) else (none)) else (none)) else (if true = true then (if 0 ≤ a3 then (if a3 < (t604.length : Int) then (if (rd t604 a3) = (-1) then (some ((t599.length : Int) == 0)) else (some false)) else (none)) else (none)) else (some false))) = some r := by rw [if_neg (show ¬ (false = true) by decide)] at H; exact H
   clear H
   have H := H1
   clear H1
   by_cases c21 : t602 = true
   rotate_left
   ·replace c21 := Bool.eq_false_iff.mpr c21
    subst c21
    have H1 : (if true = true then (if 0 ≤ a3 then (if a3 < (t604.length : Int) then (if (rd t604 a3) = (-1) then (some ((t599.length : Int) == 0)) else (some false)) else (none)) else (none)) else (some false)) = some r := by rw [if_neg (show ¬ (false = true) by decide)] at H; exact H
    clear H
    have H := H1
    clear H1
    by_cases c61 : true = true
    rotate_left
    ·exact absurd rfl c61
    clear c61
    have H1 : (if 0 ≤ a3 then (if a3 < (t604.length : Int) then (if (rd t604 a3) = (-1) then (some ((t599.length : Int) == 0)) else (some false)) else (none)) else (none)) = some r := by first | (rw [if_pos rfl] at H; exact H) | (rw [if_pos trivial] at H; exact H)
    clear H
    have H := H1
    clear H1
    by_cases c62 : 0 ≤ a3
    rotate_left
    ·rw [if_neg c62] at H
     exact absurd H (by simp)
    rw [if_pos c62] at H
    have c62b0 : decide (0 ≤ a3) = true := decide_eq_true c62
    clear c62
    by_cases c63 : a3 < (t604.length : Int)
    rotate_left
    ·rw [if_neg c63] at H
     exact absurd H (by simp)
    rw [if_pos c63] at H
    have c63b0 : decide (a3 < (t604.length : Int)) = true := decide_eq_true c63
    clear c63
    by_cases c64 : (rd t604 a3) = (-1)
    rotate_left
    ·rw [if_neg c64] at H
     exact absurd (Option.some.inj H) (by rw [HRT.out]; decide)
    rw [if_pos c64] at H
    have c64b0 : ((rd t604 a3) == (-1)) = true := beq_iff_eq.mpr c64
    have c64b1 : ((rd t604 a3) != (-1)) = false := bne_eq_false_iff_eq.mpr c64
    clear c64
    obtain rfl := Option.some.inj H
    obtain ⟨Ao65, co65, eo65⟩ := Kd.R_slice HO_13.out
    subst eo65
    have p608 : 0 ≤ (a3 : Int) := of_decide_eq_true (by first | (with_reducible assumption) | assumption)
    have q608 : a3 < (t604.length : Int) := of_decide_eq_true (by first | (with_reducible assumption) | assumption)
    obtain ⟨ad608, e608, hx608_0⟩ := Kd.at_int (Kd.R_reads' HO_13.out).2.2 a3 p608 q608
    cases e608
    replace p608 := eq_true p608
    replace q608 := eq_true q608
    obtain ⟨Ao66, co66, eo66⟩ := Kd.R_slice HO_10.out
    subst eo66
    go_wp2
    go_ret
    exact ⟨by first | rfl | (simp [errW_none, errW_some] <;> rfl) | (simp [*, errW_none, errW_some] <;> rfl), by repeat (first | (with_reducible first | exact HB.out | apply below_alloc | apply pw_below_drewN | apply below_drew1 | refine below_set ?_ GE597.out) | exact HB.out)⟩
   subst c21
   have H1 : (if 0 ≤ a3 then (if a3 < (t604.length : Int) then (if (t599.length : Int) = (rd t604 a3) then (ebbtidelaw08_LevelWays.j1 kj9 l1 a2 a3 true t599 t604 ((t599.length : Int) == 0) a0_0 a0_1 l0_2) else (ebbtidelaw08_LevelWays.j1 kj9 l1 a2 a3 true t599 t604 true a0_0 a0_1 l0_2)) else (none)) else (none)) = some r := by first | (rw [if_pos rfl] at H; exact H) | (rw [if_pos trivial] at H; exact H)
   clear H
   have H := H1
   clear H1
   have HC22 := Aside0.mk H
   clear H
   go_upto_region 12 with (fail)
   go_cut [85] (fun v85 wc => ∃ (kq : Nat) (x85_21 : Bool), v85 = .bool x85_21 ∧ Aside0 (ebbtidelaw08_LevelWays.j1 kq l1 a2 a3 true t599 t604 x85_21 a0_0 a0_1 l0_2 = some r) ∧ Aside0 (kq ≤ kj9) ∧ Aside0 (Kd.R k38 38 wc w.heap.size (fun _ => True) v600 t599) ∧ Aside0 (Kd.R (Kd.int .i64) 3 wc w.heap.size (fun _ => True) v605 t604) ∧ Aside0 (wc.heap[gb597]? = some (.cells #[.int .i64 a0_0, .bool a0_1, (.slice A0_2 l0_2.length c0_2)] 24 (0, 0))) ∧ Aside0 (Below w.heap.size w wc))
   case first =>
    have H := HC22.out
    clear HC22
    by_cases c23 : 0 ≤ a3
    rotate_left
    ·rw [if_neg c23] at H
     exact absurd H (by simp)
    rw [if_pos c23] at H
    have c23b0 : decide (0 ≤ a3) = true := decide_eq_true c23
    clear c23
    (first | rw [c23b0] | (simp only [i64_w, i32_w]; rw [c23b0]) | skip)
    by_cases c24 : a3 < (t604.length : Int)
    rotate_left
    ·rw [if_neg c24] at H
     exact absurd H (by simp)
    rw [if_pos c24] at H
    have c24b0 : decide (a3 < (t604.length : Int)) = true := decide_eq_true c24
    clear c24
    by_cases c25 : (t599.length : Int) = (rd t604 a3)
    rotate_left
    ·rw [if_neg c25] at H
     have c25b0 : ((t599.length : Int) == (rd t604 a3)) = false := beq_eq_false_iff_ne.mpr c25
     have c25b1 : ((t599.length : Int) != (rd t604 a3)) = true := bne_iff_ne.mpr c25
     have H' := Aside0.mk H
     clear H
     obtain ⟨Ao28, co28, eo28⟩ := Kd.R_slice HO_10.out
     subst eo28
     obtain ⟨Ao29, co29, eo29⟩ := Kd.R_slice HO_13.out
     subst eo29
     have p609 : 0 ≤ (a3 : Int) := of_decide_eq_true (by first | (with_reducible assumption) | assumption)
     have q609 : a3 < (t604.length : Int) := of_decide_eq_true (by first | (with_reducible assumption) | assumption)
     obtain ⟨ad609, e609, hx609_0⟩ := Kd.at_int (Kd.R_reads' HO_13.out).2.2 a3 p609 q609
     cases e609
     replace p609 := eq_true p609
     replace q609 := eq_true q609
     go_wp2
     go_meet
     case rel => exact ⟨_, (true), (by first | rfl | (simp; done) | (simp [*]; done)), H', ⟨by have := HJ9.out; first | omega | exact Nat.le_refl _⟩, ⟨by (with_reducible repeat (first | apply Kd.R_alloc | apply Kd.R_drewN | apply Kd.R_drew)); exact HO_10.out⟩, ⟨by (with_reducible repeat (first | apply Kd.R_alloc | apply Kd.R_drewN | apply Kd.R_drew)); exact HO_13.out⟩, ⟨by (with_reducible repeat (first | refine blk_drewN ?_ _ | refine blk_drew ?_ | refine blk_alloc ?_ _)); exact BK597.out⟩, ⟨by repeat (first | (with_reducible first | exact HB.out | apply below_alloc | apply pw_below_drewN | apply below_drew1 | refine below_set ?_ GE597.out) | exact HB.out)⟩⟩
    rw [if_pos c25] at H
    have c25b0 : ((t599.length : Int) == (rd t604 a3)) = true := beq_iff_eq.mpr c25
    have c25b1 : ((t599.length : Int) != (rd t604 a3)) = false := bne_eq_false_iff_eq.mpr c25
    clear c25
    have H' := Aside0.mk H
    clear H
    obtain ⟨Ao26, co26, eo26⟩ := Kd.R_slice HO_10.out
    subst eo26
    obtain ⟨Ao27, co27, eo27⟩ := Kd.R_slice HO_13.out
    subst eo27
    have p609 : 0 ≤ (a3 : Int) := of_decide_eq_true (by first | (with_reducible assumption) | assumption)
    have q609 : a3 < (t604.length : Int) := of_decide_eq_true (by first | (with_reducible assumption) | assumption)
    obtain ⟨ad609, e609, hx609_0⟩ := Kd.at_int (Kd.R_reads' HO_13.out).2.2 a3 p609 q609
    cases e609
    replace p609 := eq_true p609
    replace q609 := eq_true q609
    go_wp2
    go_meet
    case rel => exact ⟨_, (((t599.length : Int) == 0)), (by first | rfl | (simp; done) | (simp [*]; done)), H', ⟨by have := HJ9.out; first | omega | exact Nat.le_refl _⟩, ⟨by (with_reducible repeat (first | apply Kd.R_alloc | apply Kd.R_drewN | apply Kd.R_drew)); exact HO_10.out⟩, ⟨by (with_reducible repeat (first | apply Kd.R_alloc | apply Kd.R_drewN | apply Kd.R_drew)); exact HO_13.out⟩, ⟨by (with_reducible repeat (first | refine blk_drewN ?_ _ | refine blk_drew ?_ | refine blk_alloc ?_ _)); exact BK597.out⟩, ⟨by repeat (first | (with_reducible first | exact HB.out | apply below_alloc | apply pw_below_drewN | apply below_drew1 | refine below_set ?_ GE597.out) | exact HB.out)⟩⟩
   case rest =>
    clear HC22
    try clear c1
    try clear c2
    try clear p2
    try clear c5
    try clear c6
    try clear p6
    try clear q6
    try clear hx6
    try clear c8
    try clear c8b0
    try clear c8b1
    try clear c11
    try clear c17
    try clear c17b0
    try clear c17b1
    try clear c20
    try clear c21
    try clear c23
    try clear c23b0
    try clear c24
    try clear c24b0
    try clear c25
    try clear c25b0
    try clear c25b1
    try clear hcz13_0
    try clear hcz13_1
    try clear hcz13_2
    try clear hcz15_0
    try clear hcz15_1
    try clear hcz15_2
    try clear hcz19_0
    try clear hcz19_1
    try clear hcz19_2
    try clear hfz13_0
    try clear hfz13_1
    try clear hfz13_2
    try clear hfz15_0
    try clear hfz15_1
    try clear hfz15_2
    try clear hfz19_0
    try clear hfz19_1
    try clear hfz19_2
    try clear hx609_0
    try clear p2
    try clear p609
    try clear q609
    obtain ⟨kq, x85_21, rfl, HA, HJ21, HO_10, HO_13, BK597, HB⟩ := hcut
    cases kq with
    | zero => exact absurd HA.out (by simp [ebbtidelaw08_LevelWays.j1])
    | succ kj21 =>
     have H := HA.out
     clear HA
     simp only [ebbtidelaw08_LevelWays.j1] at H
     by_cases c30 : x85_21 = true
     ·subst c30
      have H1 : (some false) = some r := by first | (rw [if_pos rfl] at H; exact H) | (rw [if_pos trivial] at H; exact H)
      exact absurd (Option.some.inj H1) (by rw [HRT.out]; decide)
     replace c30 := Bool.eq_false_iff.mpr c30
     subst c30
     have H1 : (ebbtidelaw08_LevelWays.l0 kj21 l1 a3 true t599 t604 a2 0 a0_0 a0_1 l0_2) = some r := by rw [if_neg (show ¬ (false = true) by decide)] at H; exact H
     clear H
     have H := H1
     clear H1
     have H' := Aside0.mk H
     clear H
     go_wp2
     go_loopg [15, 16] kj21 (fun kq v15 v16 w' => ∃ (x15_3 : Int) (x16_3 : Int), v15 = .int .i64 x15_3 ∧ v16 = .int .i64 x16_3 ∧ Aside0 (ebbtidelaw08_LevelWays.l0 kq l1 a3 true t599 t604 x15_3 x16_3 a0_0 a0_1 l0_2 = some r) ∧ Aside0 (kq ≤ kj21) ∧ Aside0 (Kd.R k38 38 w' w.heap.size (fun _ => True) v600 t599) ∧ Aside0 (Kd.R (Kd.int .i64) 3 w' w.heap.size (fun _ => True) v605 t604) ∧ Aside0 (w'.heap[gb597]? = some (.cells #[.int .i64 a0_0, .bool a0_1, (.slice A0_2 l0_2.length c0_2)] 24 (0, 0))) ∧ Aside0 (Below w.heap.size w w'))
     case atStart => exact ⟨(a2), (0), (by first | rfl | (simp; done) | (simp [*]; done)), (by first | rfl | (simp; done) | (simp [*]; done)), H', ⟨Nat.le_refl _⟩, ⟨by (with_reducible repeat (first | apply Kd.R_alloc | apply Kd.R_drewN | apply Kd.R_drew)); exact HO_10.out⟩, ⟨by (with_reducible repeat (first | apply Kd.R_alloc | apply Kd.R_drewN | apply Kd.R_drew)); exact HO_13.out⟩, ⟨by (with_reducible repeat (first | refine blk_drewN ?_ _ | refine blk_drew ?_ | refine blk_alloc ?_ _)); exact BK597.out⟩, ⟨by repeat (first | (with_reducible first | exact HB.out | apply below_alloc | apply pw_below_drewN | apply below_drew1 | refine below_set ?_ GE597.out) | exact HB.out)⟩⟩
     case round =>
      clear H'
      try clear c1
      try clear c2
      try clear p2
      try clear c3
      try clear c5
      try clear c6
      try clear p6
      try clear q6
      try clear hx6
      try clear c8
      try clear c8b0
      try clear c8b1
      try clear c11
      try clear c17
      try clear c17b0
      try clear c17b1
      try clear c20
      try clear c21
      try clear c23
      try clear c23b0
      try clear c24
      try clear c24b0
      try clear c25
      try clear c25b0
      try clear c25b1
      try clear c30
      try clear hcz13_0
      try clear hcz13_1
      try clear hcz13_2
      try clear hcz15_0
      try clear hcz15_1
      try clear hcz15_2
      try clear hcz19_0
      try clear hcz19_1
      try clear hcz19_2
      try clear hfz13_0
      try clear hfz13_1
      try clear hfz13_2
      try clear hfz15_0
      try clear hfz15_1
      try clear hfz15_2
      try clear hfz19_0
      try clear hfz19_1
      try clear hfz19_2
      try clear hx609_0
      try clear p2
      try clear p6
      try clear p609
      try clear q6
      try clear q609
      obtain ⟨x15_3, x16_3, rfl, rfl, HA, HK3, HO_10, HO_13, BK597, HB⟩ := hrel
      cases gk with
      | zero => exact absurd HA.out (by simp [ebbtidelaw08_LevelWays.l0])
      | succ k3 =>
       have H := HA.out
       clear HA
       simp only [ebbtidelaw08_LevelWays.l0] at H
       by_cases c31 : x16_3 < (t599.length : Int)
       rotate_left
       ·rw [if_neg c31] at H
        have c31b0 : decide (x16_3 < (t599.length : Int)) = false := decide_eq_false c31
        clear c31
        by_cases c58 : true = true
        rotate_left
        ·exact absurd rfl c58
        clear c58
        have H1 : (some (x15_3 == a3)) = some r := by first | (rw [if_pos rfl] at H; exact H) | (rw [if_pos trivial] at H; exact H)
        clear H
        have H := H1
        clear H1
        obtain rfl := Option.some.inj H
        obtain ⟨Ao59, co59, eo59⟩ := Kd.R_slice HO_10.out
        subst eo59
        go_wp2
        go_ret
        exact ⟨by first | rfl | (simp [errW_none, errW_some] <;> rfl) | (simp [*, errW_none, errW_some] <;> rfl), by repeat (first | (with_reducible first | exact HB.out | apply below_alloc | apply pw_below_drewN | apply below_drew1 | refine below_set ?_ GE597.out) | exact HB.out)⟩
       rw [if_pos c31] at H
       have c31b0 : decide (x16_3 < (t599.length : Int)) = true := decide_eq_true c31
       clear c31
       by_cases c32 : 0 ≤ x16_3
       rotate_left
       ·rw [if_neg c32] at H
        exact absurd H (by simp)
       rw [if_pos c32] at H
       have c32b0 : decide (0 ≤ x16_3) = true := decide_eq_true c32
       clear c32
       replace H := Option.bind_eq_some_iff.mp H
       obtain ⟨⟨t611, t612⟩, A330, H⟩ := H
       replace H : (if t612 = 0 then (if t611 = 0 then (ebbtidelaw08_LevelWays.j3 k3 l1 a3 true t599 t604 x16_3 true a0_0 a0_1 l0_2) else ((ebbtideref07_From.f a0_0 a0_1 l0_2 ((rd_T38 t599 x16_3).f0) ((rd_T38 t599 x16_3).f1)).bind fun t614 => (ebbtidelaw08_LevelWays.j3 k3 l1 a3 true t599 t604 x16_3 (t614 != x15_3) a0_0 a0_1 l0_2))) else (ebbtidelaw08_LevelWays.j3 k3 l1 a3 true t599 t604 x16_3 true a0_0 a0_1 l0_2)) = some r := H
       have A33 := Aside0.mk A330
       clear A330
       have HC34 := Aside0.mk H
       clear H
       obtain ⟨Ao35, co35, eo35⟩ := Kd.R_slice HO_10.out
       subst eo35
       try go_wp2
       have n0_ := Aside0.mk (Kd.R_drew HO_10.out)
       have n1_ := Aside0.mk (Kd.R_drew HO_13.out)
       have n2_ := Aside0.mk (blk_drew BK597.out)
       have n3_ := Aside0.mk (below_drew1 HB.out)
       clear HO_10
       clear HO_13
       clear BK597
       clear HB
       have HO_10 := n0_
       have HO_13 := n1_
       have BK597 := n2_
       have HB := n3_
       clear n0_ n1_ n2_ n3_
       have p610 : 0 ≤ (x16_3 : Int) := of_decide_eq_true (by first | (with_reducible assumption) | assumption)
       have q610 : x16_3 < (t599.length : Int) := of_decide_eq_true (by first | (with_reducible assumption) | assumption)
       obtain ⟨ad610, e610, hx610_0, hx610_1⟩ := at_T38 (Kd.R_reads' HO_10.out).2.2 x16_3 p610 q610
       cases e610
       replace p610 := eq_true p610
       replace q610 := eq_true q610
       refine start_ (n := 12) (S := fun w' => w'.cell? ⟨gb597, 0, none⟩ = some (.int .i64 a0_0) ∧ w'.cell? ⟨gb597, 1, none⟩ = some (.bool a0_1) ∧ w'.cell? ⟨gb597, 2, none⟩ = some (.slice A0_2 l0_2.length c0_2) ∧ w'.cell? (ad610.add ((x16_3).toNat * 2)) = some (.int .i64 ((rd_T38 t599 x16_3).f0)) ∧ w'.cell? ⟨(ad610.add ((x16_3).toNat * 2)).block, (ad610.add ((x16_3).toNat * 2)).off + 1, none⟩ = some (.bool ((rd_T38 t599 x16_3).f1))) (ds := []) #[false, false, false, false, false, false, false, false, false, false, false, false] (by kernel_rfl) rfl rfl ⟨(blk_cell BK597.out 0).trans rfl, (blk_cell BK597.out 1).trans rfl, (blk_cell BK597.out 2).trans rfl, hx610_0, hx610_1⟩ (fun hHeld => ?_); refine with_tabW ebbtidelaw08_LevelWays.tab18 ebbtidelaw08_LevelWays.bits18 (fun HT_ HW_ => ?_)
       generalize wr.drew = w36 at HO_10 HO_13 BK597 HB hx610_0 hx610_1 hHeld ⊢
       refine pure_ (i := 1) (N := some 95) (v := ?_) (a' := ?_) #[false, true, false, false, false, false, false, false, false, false, false, false] rfl rfl (any_of HT_.out (by kernel_rfl)) (fun _ _ _ h => h) (Or.inl ⟨by rfl, ?_⟩) ?_ ?_
       rotate_left
       ·intro w'
        go_simp
        with_reducible rfl
       rotate_left
       ·simp only [Act.put, List.setIfInBounds_toArray, List.set_cons_zero, List.set_cons_succ, i64_w, i32_w]
        rfl
       refine pure_ (i := 2) (N := some 96) (v := ?_) (a' := ?_) #[false, true, true, false, false, false, false, false, false, false, false, false] rfl rfl (any_of HT_.out (by kernel_rfl)) (fun _ _ _ h => h) (Or.inl ⟨by rfl, ?_⟩) ?_ ?_
       rotate_left
       ·intro w'
        go_simp
        with_reducible rfl
       rotate_left
       ·simp only [Act.put, List.setIfInBounds_toArray, List.set_cons_zero, List.set_cons_succ, i64_w, i32_w]
        rfl
       refine pure_ (i := 3) (N := some 97) (v := ?_) (a' := ?_) #[false, true, true, true, false, false, false, false, false, false, false, false] rfl rfl (any_of HT_.out (by kernel_rfl)) (fun _ _ _ h => h) (Or.inl ⟨by rfl, ?_⟩) ?_ ?_
       rotate_left
       ·intro w'
        go_simp
        with_reducible rfl
       rotate_left
       ·simp only [Act.put, List.setIfInBounds_toArray, List.set_cons_zero, List.set_cons_succ, i64_w, i32_w]
        rfl
       refine pure_ (i := 4) (N := some 98) (v := ?_) (a' := ?_) #[false, true, true, true, true, false, false, false, false, false, false, false] rfl rfl (any_of HT_.out (by kernel_rfl)) (fun _ _ _ h => h) (Or.inl ⟨by rfl, ?_⟩) ?_ ?_
       rotate_left
       ·intro w'
        go_simp
        with_reducible rfl
       rotate_left
       ·simp only [Act.put, List.setIfInBounds_toArray, List.set_cons_zero, List.set_cons_succ, i64_w, i32_w]
        rfl
       refine take_ (i := 0) (N := some 94) (v := ?_) (a' := ?_) #[true, true, true, true, true, false, false, false, false, false, false, false] rfl rfl (take_ofW HT_.out HW_.out (by kernel_rfl)) (fun _ _ _ h => h) (Or.inl ⟨by rfl, ?_⟩) hHeld ?_ ?_
       rotate_left
       ·rintro w' ⟨s0, s1, s2, s3, s4⟩
        go_simp
        with_reducible rfl
       rotate_left
       ·simp only [Act.put, List.setIfInBounds_toArray, List.set_cons_zero, List.set_cons_succ, i64_w, i32_w]
        rfl
       refine take_ (i := 5) (N := some 99) (v := ?_) (a' := ?_) #[true, true, true, true, true, true, false, false, false, false, false, false] rfl rfl (take_ofW HT_.out HW_.out (by kernel_rfl)) (fun _ _ _ h => h) (Or.inl ⟨by rfl, ?_⟩) hHeld ?_ ?_
       rotate_left
       ·rintro w' ⟨s0, s1, s2, s3, s4⟩
        go_simp
        with_reducible rfl
       rotate_left
       ·simp only [Act.put, List.setIfInBounds_toArray, List.set_cons_zero, List.set_cons_succ, i64_w, i32_w]
        rfl
       refine one_ (i := 6) (N := some 100) #[true, true, true, true, true, true, true, false, false, false, false, false] rfl rfl (one_of HT_.out (by kernel_rfl)) (by decide) (fun K hK => ?_)
       refine goes_ Try.func59 (by kernel_rfl) rfl #[.agg #[.int .i64 a0_0, .bool a0_1, .slice A0_2 l0_2.length c0_2], .slice A1 l1.length c1, .agg #[.int .i64 ((rd_T38 t599 x16_3).f0), .bool ((rd_T38 t599 x16_3).f1)]] (by rfl) rfl rfl (by (try simp only [List.map_toArray, List.map_cons, List.map_nil]); first | done | rfl | (simp only [List.length_drop, List.length_take]; rfl)) ?_
       with_reducible refine (ebbtideref07_Room.calls k3 a0_0 a0_1 _ _ l0_2 _ _ l1 ((rd_T38 t599 x16_3).f0) ((rd_T38 t599 x16_3).f1) t611 t612 _ ?side1 ?side2 ?side3 ?side4 A33.out).mono ?_
       (case side1 => repeat (first | exact (Kd.C_below HR0_2.out HB.out) | (with_reducible refine Kd.C_alloc ?_ _) | (with_reducible refine Kd.C_drewN ?_ _) | (with_reducible refine Kd.C_drew ?_)))
       (case side2 => exact HC0_2.out)
       (case side3 => repeat (first | exact (Kd.C_below HR1.out HB.out) | (with_reducible refine Kd.C_alloc ?_ _) | (with_reducible refine Kd.C_drewN ?_ _) | (with_reducible refine Kd.C_drew ?_)))
       (case side4 => exact HC1.out)
       rintro e w37 ⟨rfl, hb⟩
       have HS3_ := (hb.cell (World.block_lt_of_cell? _ _ (hHeld.2.2.2.1))).trans (hHeld.2.2.2.1)
       have HS4_ := (hb.cell (World.block_lt_of_cell? _ _ (hHeld.2.2.2.2))).trans (hHeld.2.2.2.2)
       refine ⟨_, rfl, ?_⟩
       have n0_ := Aside0.mk (Kd.R_below (by (with_reducible repeat (first | apply Kd.R_alloc | apply Kd.R_drewN | apply Kd.R_drew)); exact HO_10.out) hb)
       have n1_ := Aside0.mk (Kd.R_below (by (with_reducible repeat (first | apply Kd.R_alloc | apply Kd.R_drewN | apply Kd.R_drew)); exact HO_13.out) hb)
       have n2_ := Aside0.mk (blk_below (g := gb597) (o := .cells #[.int .i64 a0_0, .bool a0_1, .slice A0_2 l0_2.length c0_2] 24 (0, 0)) (by (with_reducible repeat (first | refine blk_drewN ?_ _ | refine blk_drew ?_ | refine blk_alloc ?_ _)); exact BK597.out) hb)
       have n3_ := Aside0.mk (below_step (by repeat (first | (with_reducible first | exact HB.out | apply below_alloc | apply pw_below_drewN | apply below_drew1 | refine below_set ?_ GE597.out) | exact HB.out)) hb)
       clear HO_10
       clear HO_13
       clear BK597
       clear HB
       have HO_10 := n0_
       have HO_13 := n1_
       have BK597 := n2_
       have HB := n3_
       clear n0_ n1_ n2_ n3_
       (try clear hb)
       (try clear hb2)
       (try clear hk)
       (try clear hi)
       refine hK.out _ _ ⟨(blk_cell BK597.out 0).trans rfl, (blk_cell BK597.out 1).trans rfl, (blk_cell BK597.out 2).trans rfl, HS3_, HS4_⟩ (fun hHeld => ?_)
       clear hK K
       refine norm_ (a' := ?_) ?_ ?_
       rotate_left
       ·show Act.put _ (some 100) _ = _
        simp only [Act.put, List.setIfInBounds_toArray, List.set_cons_zero, List.set_cons_succ, i64_w, i32_w]
        rfl
       refine pure_ (i := 7) (N := some 93) (v := ?_) (a' := ?_) #[true, true, true, true, true, true, true, true, false, false, false, false] rfl rfl (any_of HT_.out (by kernel_rfl)) (fun _ _ _ h => h) (Or.inl ⟨by rfl, ?_⟩) ?_ ?_
       rotate_left
       ·intro w'
        go_simp
        with_reducible rfl
       rotate_left
       ·simp only [Act.put, List.setIfInBounds_toArray, List.set_cons_zero, List.set_cons_succ, i64_w, i32_w]
        rfl
       refine pure_ (i := 8) (N := some 101) (v := ?_) (a' := ?_) #[true, true, true, true, true, true, true, true, true, false, false, false] rfl rfl (any_of HT_.out (by kernel_rfl)) (fun _ _ _ h => h) (Or.inl ⟨by rfl, ?_⟩) ?_ ?_
       rotate_left
       ·intro w'
        go_simp
        with_reducible rfl
       rotate_left
       ·simp only [Act.put, List.setIfInBounds_toArray, List.set_cons_zero, List.set_cons_succ, i64_w, i32_w]
        rfl
       refine pure_ (i := 9) (N := some 102) (v := ?_) (a' := ?_) #[true, true, true, true, true, true, true, true, true, true, false, false] rfl rfl (any_of HT_.out (by kernel_rfl)) (fun _ _ _ h => h) (Or.inl ⟨by rfl, ?_⟩) ?_ ?_
       rotate_left
       ·intro w'
        go_simp
        with_reducible rfl
       rotate_left
       ·simp only [Act.put, List.setIfInBounds_toArray, List.set_cons_zero, List.set_cons_succ, i64_w, i32_w]
        rfl
       refine pure_ (i := 10) (N := some 17) (v := ?_) (a' := ?_) #[true, true, true, true, true, true, true, true, true, true, true, false] rfl rfl (any_of HT_.out (by kernel_rfl)) (fun _ _ _ h => h) (Or.inl ⟨by rfl, ?_⟩) ?_ ?_
       rotate_left
       ·intro w'
        go_simp
        with_reducible rfl
       rotate_left
       ·simp only [Act.put, List.setIfInBounds_toArray, List.set_cons_zero, List.set_cons_succ, i64_w, i32_w]
        rfl
       refine pure_ (i := 11) (N := some 18) (v := ?_) (a' := ?_) #[true, true, true, true, true, true, true, true, true, true, true, true] rfl rfl (any_of HT_.out (by kernel_rfl)) (fun _ _ _ h => h) (Or.inl ⟨by rfl, ?_⟩) ?_ ?_
       rotate_left
       ·intro w'
        go_simp
        with_reducible rfl
       rotate_left
       ·simp only [Act.put, List.setIfInBounds_toArray, List.set_cons_zero, List.set_cons_succ, i64_w, i32_w]
        rfl
       refine done_ (done_of HT_.out (by kernel_rfl)) ?_
       go_upto_region 19 with (fail)
       go_cut [118] (fun v118 wc => ∃ (kq : Nat) (x118_33 : Bool), v118 = .bool x118_33 ∧ Aside0 (ebbtidelaw08_LevelWays.j3 kq l1 a3 true t599 t604 x16_3 x118_33 a0_0 a0_1 l0_2 = some r) ∧ Aside0 (kq ≤ k3) ∧ Aside0 (Kd.R k38 38 wc w.heap.size (fun _ => True) (.slice (some ad610) t599.length co35) t599) ∧ Aside0 (Kd.R (Kd.int .i64) 3 wc w.heap.size (fun _ => True) v605 t604) ∧ Aside0 (wc.heap[gb597]? = some (.cells #[.int .i64 a0_0, .bool a0_1, (.slice A0_2 l0_2.length c0_2)] 24 (0, 0))) ∧ Aside0 (Below w.heap.size w wc))
       case first =>
        have H := HC34.out
        clear HC34
        by_cases c38 : t612 = 0
        rotate_left
        ·rw [if_neg c38] at H
         have c38b0 : (t612 == 0) = false := beq_eq_false_iff_ne.mpr c38
         have c38b1 : (t612 != 0) = true := bne_iff_ne.mpr c38
         (first | rw [c38b0] | (simp only [i64_w, i32_w]; rw [c38b0]) | skip)
         have H' := Aside0.mk H
         clear H
         try go_wp2
         have n0_ := Aside0.mk (Kd.R_drew HO_10.out)
         have n1_ := Aside0.mk (Kd.R_drew HO_13.out)
         have n2_ := Aside0.mk (blk_drew BK597.out)
         have n3_ := Aside0.mk (below_drew1 HB.out)
         clear HO_10
         clear HO_13
         clear BK597
         clear HB
         have HO_10 := n0_
         have HO_13 := n1_
         have BK597 := n2_
         have HB := n3_
         clear n0_ n1_ n2_ n3_
         refine start_ (n := 16) (S := fun w' => True) (ds := []) #[false, false, false, false, false, false, false, false, false, false, false, false, false, false, false, false] (by kernel_rfl) rfl rfl trivial (fun hHeld => ?_); refine with_tabW ebbtidelaw08_LevelWays.tab19 ebbtidelaw08_LevelWays.bits19 (fun HT_ HW_ => ?_)
         generalize w37.drew = w44 at HO_10 HO_13 BK597 HB hHeld ⊢
         refine pure_ (i := 0) (N := some 103) (v := ?_) (a' := ?_) #[true, false, false, false, false, false, false, false, false, false, false, false, false, false, false, false] rfl rfl (any_of HT_.out (by kernel_rfl)) (fun _ _ _ h => h) (Or.inl ⟨by rfl, ?_⟩) ?_ ?_
         rotate_left
         ·intro w'
          go_simp
          with_reducible rfl
         rotate_left
         ·simp only [Act.put, List.setIfInBounds_toArray, List.set_cons_zero, List.set_cons_succ, i64_w, i32_w]
          rfl
         refine pure_ (i := 1) (N := some 104) (v := ?_) (a' := ?_) #[true, true, false, false, false, false, false, false, false, false, false, false, false, false, false, false] rfl rfl (any_of HT_.out (by kernel_rfl)) (fun _ _ _ h => h) (Or.inl ⟨by rfl, ?_⟩) ?_ ?_
         rotate_left
         ·intro w'
          go_simp
          with_reducible rfl
         rotate_left
         ·simp only [Act.put, List.setIfInBounds_toArray, List.set_cons_zero, List.set_cons_succ, i64_w, i32_w]
          rfl
         refine pure_ (i := 2) (N := some 105) (v := ?_) (a' := ?_) #[true, true, true, false, false, false, false, false, false, false, false, false, false, false, false, false] rfl rfl (any_of HT_.out (by kernel_rfl)) (fun _ _ _ h => h) (Or.inl ⟨by rfl, ?_⟩) ?_ ?_
         rotate_left
         ·intro w'
          go_simp
          with_reducible rfl
         rotate_left
         ·simp only [Act.put, List.setIfInBounds_toArray, List.set_cons_zero, List.set_cons_succ, i64_w, i32_w]
          rfl
         refine pure_ (i := 3) (N := some 106) (v := undef) (a' := ?_) #[true, true, true, true, false, false, false, false, false, false, false, false, false, false, false, false] rfl rfl (any_of HT_.out (by kernel_rfl)) (fun _ _ _ h => h) (Or.inr ⟨by rfl, rfl⟩) ?_ ?_
         rotate_left
         ·simp only [Act.put, List.setIfInBounds_toArray, List.set_cons_zero, List.set_cons_succ, i64_w, i32_w]
          rfl
         refine pure_ (i := 4) (N := some 107) (v := undef) (a' := ?_) #[true, true, true, true, true, false, false, false, false, false, false, false, false, false, false, false] rfl rfl (any_of HT_.out (by kernel_rfl)) (fun _ _ _ h => h) (Or.inr ⟨by rfl, rfl⟩) ?_ ?_
         rotate_left
         ·simp only [Act.put, List.setIfInBounds_toArray, List.set_cons_zero, List.set_cons_succ, i64_w, i32_w]
          rfl
         refine pure_ (i := 5) (N := some 108) (v := ?_) (a' := ?_) #[true, true, true, true, true, true, false, false, false, false, false, false, false, false, false, false] rfl rfl (any_of HT_.out (by kernel_rfl)) (fun _ _ _ h => h) (Or.inl ⟨by rfl, ?_⟩) ?_ ?_
         rotate_left
         ·intro w'
          go_simp
          with_reducible rfl
         rotate_left
         ·simp only [Act.put, List.setIfInBounds_toArray, List.set_cons_zero, List.set_cons_succ, i64_w, i32_w]
          rfl
         refine pure_ (i := 6) (N := some 109) (v := ?_) (a' := ?_) #[true, true, true, true, true, true, true, false, false, false, false, false, false, false, false, false] rfl rfl (any_of HT_.out (by kernel_rfl)) (fun _ _ _ h => h) (Or.inl ⟨by rfl, ?_⟩) ?_ ?_
         rotate_left
         ·intro w'
          go_simp
          with_reducible rfl
         rotate_left
         ·simp only [Act.put, List.setIfInBounds_toArray, List.set_cons_zero, List.set_cons_succ, i64_w, i32_w]
          rfl
         refine pure_ (i := 7) (N := some 110) (v := undef) (a' := ?_) #[true, true, true, true, true, true, true, true, false, false, false, false, false, false, false, false] rfl rfl (any_of HT_.out (by kernel_rfl)) (fun _ _ _ h => h) (Or.inr ⟨by rfl, rfl⟩) ?_ ?_
         rotate_left
         ·simp only [Act.put, List.setIfInBounds_toArray, List.set_cons_zero, List.set_cons_succ, i64_w, i32_w]
          rfl
         refine pure_ (i := 8) (N := some 111) (v := undef) (a' := ?_) #[true, true, true, true, true, true, true, true, true, false, false, false, false, false, false, false] rfl rfl (any_of HT_.out (by kernel_rfl)) (fun _ _ _ h => h) (Or.inr ⟨by rfl, rfl⟩) ?_ ?_
         rotate_left
         ·simp only [Act.put, List.setIfInBounds_toArray, List.set_cons_zero, List.set_cons_succ, i64_w, i32_w]
          rfl
         refine pure_ (i := 9) (N := some 112) (v := undef) (a' := ?_) #[true, true, true, true, true, true, true, true, true, true, false, false, false, false, false, false] rfl rfl (any_of HT_.out (by kernel_rfl)) (fun _ _ _ h => h) (Or.inr ⟨by rfl, rfl⟩) ?_ ?_
         rotate_left
         ·simp only [Act.put, List.setIfInBounds_toArray, List.set_cons_zero, List.set_cons_succ, i64_w, i32_w]
          rfl
         refine pure_ (i := 10) (N := some 113) (v := undef) (a' := ?_) #[true, true, true, true, true, true, true, true, true, true, true, false, false, false, false, false] rfl rfl (any_of HT_.out (by kernel_rfl)) (fun _ _ _ h => h) (Or.inr ⟨by rfl, rfl⟩) ?_ ?_
         rotate_left
         ·simp only [Act.put, List.setIfInBounds_toArray, List.set_cons_zero, List.set_cons_succ, i64_w, i32_w]
          rfl
         refine pure_ (i := 11) (N := some 114) (v := undef) (a' := ?_) #[true, true, true, true, true, true, true, true, true, true, true, true, false, false, false, false] rfl rfl (any_of HT_.out (by kernel_rfl)) (fun _ _ _ h => h) (Or.inr ⟨by rfl, rfl⟩) ?_ ?_
         rotate_left
         ·simp only [Act.put, List.setIfInBounds_toArray, List.set_cons_zero, List.set_cons_succ, i64_w, i32_w]
          rfl
         refine pure_ (i := 12) (N := some 115) (v := undef) (a' := ?_) #[true, true, true, true, true, true, true, true, true, true, true, true, true, false, false, false] rfl rfl (any_of HT_.out (by kernel_rfl)) (fun _ _ _ h => h) (Or.inr ⟨by rfl, rfl⟩) ?_ ?_
         rotate_left
         ·simp only [Act.put, List.setIfInBounds_toArray, List.set_cons_zero, List.set_cons_succ, i64_w, i32_w]
          rfl
         refine pure_ (i := 13) (N := some 116) (v := undef) (a' := ?_) #[true, true, true, true, true, true, true, true, true, true, true, true, true, true, false, false] rfl rfl (any_of HT_.out (by kernel_rfl)) (fun _ _ _ h => h) (Or.inr ⟨by rfl, rfl⟩) ?_ ?_
         rotate_left
         ·simp only [Act.put, List.setIfInBounds_toArray, List.set_cons_zero, List.set_cons_succ, i64_w, i32_w]
          rfl
         refine pure_ (i := 14) (N := some 117) (v := undef) (a' := ?_) #[true, true, true, true, true, true, true, true, true, true, true, true, true, true, true, false] rfl rfl (any_of HT_.out (by kernel_rfl)) (fun _ _ _ h => h) (Or.inr ⟨by rfl, rfl⟩) ?_ ?_
         rotate_left
         ·simp only [Act.put, List.setIfInBounds_toArray, List.set_cons_zero, List.set_cons_succ, i64_w, i32_w]
          rfl
         refine pure_ (i := 15) (N := some 118) (v := ?_) (a' := ?_) #[true, true, true, true, true, true, true, true, true, true, true, true, true, true, true, true] rfl rfl (any_of HT_.out (by kernel_rfl)) (fun _ _ _ h => h) (Or.inl ⟨by rfl, ?_⟩) ?_ ?_
         rotate_left
         ·intro w'
          go_simp
          with_reducible rfl
         rotate_left
         ·simp only [Act.put, List.setIfInBounds_toArray, List.set_cons_zero, List.set_cons_succ, i64_w, i32_w]
          rfl
         refine done_ (done_of HT_.out (by kernel_rfl)) ?_
         try go_wp2
         go_meet
         case rel => exact ⟨_, (true), (by first | rfl | (simp; done) | (simp [*]; done)), H', ⟨by have := HJ9.out; have := HJ21.out; have := HK3.out; first | omega | exact Nat.le_refl _⟩, ⟨by (with_reducible repeat (first | apply Kd.R_alloc | apply Kd.R_drewN | apply Kd.R_drew)); exact HO_10.out⟩, ⟨by (with_reducible repeat (first | apply Kd.R_alloc | apply Kd.R_drewN | apply Kd.R_drew)); exact HO_13.out⟩, ⟨by (with_reducible repeat (first | refine blk_drewN ?_ _ | refine blk_drew ?_ | refine blk_alloc ?_ _)); exact BK597.out⟩, ⟨by repeat (first | (with_reducible first | exact HB.out | apply below_alloc | apply pw_below_drewN | apply below_drew1 | refine below_set ?_ GE597.out) | exact HB.out)⟩⟩
        rw [if_pos c38] at H
        have c38b0 : (t612 == 0) = true := beq_iff_eq.mpr c38
        have c38b1 : (t612 != 0) = false := bne_eq_false_iff_eq.mpr c38
        clear c38
        (first | rw [c38b0] | (simp only [i64_w, i32_w]; rw [c38b0]) | skip)
        by_cases c39 : t611 = 0
        ·rw [if_pos c39] at H
         have c39b0 : (t611 == 0) = true := beq_iff_eq.mpr c39
         have c39b1 : (t611 != 0) = false := bne_eq_false_iff_eq.mpr c39
         clear c39
         have H' := Aside0.mk H
         clear H
         try go_wp2
         have n0_ := Aside0.mk (Kd.R_drew HO_10.out)
         have n1_ := Aside0.mk (Kd.R_drew HO_13.out)
         have n2_ := Aside0.mk (blk_drew BK597.out)
         have n3_ := Aside0.mk (below_drew1 HB.out)
         clear HO_10
         clear HO_13
         clear BK597
         clear HB
         have HO_10 := n0_
         have HO_13 := n1_
         have BK597 := n2_
         have HB := n3_
         clear n0_ n1_ n2_ n3_
         refine start_ (n := 16) (S := fun w' => True) (ds := []) #[false, false, false, false, false, false, false, false, false, false, false, false, false, false, false, false] (by kernel_rfl) rfl rfl trivial (fun hHeld => ?_); refine with_tabW ebbtidelaw08_LevelWays.tab19 ebbtidelaw08_LevelWays.bits19 (fun HT_ HW_ => ?_)
         generalize w37.drew = w40 at HO_10 HO_13 BK597 HB hHeld ⊢
         refine pure_ (i := 0) (N := some 103) (v := ?_) (a' := ?_) #[true, false, false, false, false, false, false, false, false, false, false, false, false, false, false, false] rfl rfl (any_of HT_.out (by kernel_rfl)) (fun _ _ _ h => h) (Or.inl ⟨by rfl, ?_⟩) ?_ ?_
         rotate_left
         ·intro w'
          go_simp
          with_reducible rfl
         rotate_left
         ·simp only [Act.put, List.setIfInBounds_toArray, List.set_cons_zero, List.set_cons_succ, i64_w, i32_w]
          rfl
         refine pure_ (i := 1) (N := some 104) (v := ?_) (a' := ?_) #[true, true, false, false, false, false, false, false, false, false, false, false, false, false, false, false] rfl rfl (any_of HT_.out (by kernel_rfl)) (fun _ _ _ h => h) (Or.inl ⟨by rfl, ?_⟩) ?_ ?_
         rotate_left
         ·intro w'
          go_simp
          with_reducible rfl
         rotate_left
         ·simp only [Act.put, List.setIfInBounds_toArray, List.set_cons_zero, List.set_cons_succ, i64_w, i32_w]
          rfl
         refine pure_ (i := 2) (N := some 105) (v := ?_) (a' := ?_) #[true, true, true, false, false, false, false, false, false, false, false, false, false, false, false, false] rfl rfl (any_of HT_.out (by kernel_rfl)) (fun _ _ _ h => h) (Or.inl ⟨by rfl, ?_⟩) ?_ ?_
         rotate_left
         ·intro w'
          go_simp
          with_reducible rfl
         rotate_left
         ·simp only [Act.put, List.setIfInBounds_toArray, List.set_cons_zero, List.set_cons_succ, i64_w, i32_w]
          rfl
         refine pure_ (i := 3) (N := some 106) (v := ?_) (a' := ?_) #[true, true, true, true, false, false, false, false, false, false, false, false, false, false, false, false] rfl rfl (any_of HT_.out (by kernel_rfl)) (fun _ _ _ h => h) (Or.inl ⟨by rfl, ?_⟩) ?_ ?_
         rotate_left
         ·intro w'
          go_simp
          with_reducible rfl
         rotate_left
         ·simp only [Act.put, List.setIfInBounds_toArray, List.set_cons_zero, List.set_cons_succ, i64_w, i32_w]
          rfl
         refine pure_ (i := 4) (N := some 107) (v := ?_) (a' := ?_) #[true, true, true, true, true, false, false, false, false, false, false, false, false, false, false, false] rfl rfl (any_of HT_.out (by kernel_rfl)) (fun _ _ _ h => h) (Or.inl ⟨by rfl, ?_⟩) ?_ ?_
         rotate_left
         ·intro w'
          go_simp
          with_reducible rfl
         rotate_left
         ·simp only [Act.put, List.setIfInBounds_toArray, List.set_cons_zero, List.set_cons_succ, i64_w, i32_w]
          rfl
         refine pure_ (i := 5) (N := some 108) (v := ?_) (a' := ?_) #[true, true, true, true, true, true, false, false, false, false, false, false, false, false, false, false] rfl rfl (any_of HT_.out (by kernel_rfl)) (fun _ _ _ h => h) (Or.inl ⟨by rfl, ?_⟩) ?_ ?_
         rotate_left
         ·intro w'
          go_simp
          with_reducible rfl
         rotate_left
         ·simp only [Act.put, List.setIfInBounds_toArray, List.set_cons_zero, List.set_cons_succ, i64_w, i32_w]
          rfl
         refine pure_ (i := 6) (N := some 109) (v := ?_) (a' := ?_) #[true, true, true, true, true, true, true, false, false, false, false, false, false, false, false, false] rfl rfl (any_of HT_.out (by kernel_rfl)) (fun _ _ _ h => h) (Or.inl ⟨by rfl, ?_⟩) ?_ ?_
         rotate_left
         ·intro w'
          go_simp
          with_reducible rfl
         rotate_left
         ·simp only [Act.put, List.setIfInBounds_toArray, List.set_cons_zero, List.set_cons_succ, i64_w, i32_w]
          rfl
         refine pure_ (i := 7) (N := some 110) (v := undef) (a' := ?_) #[true, true, true, true, true, true, true, true, false, false, false, false, false, false, false, false] rfl rfl (any_of HT_.out (by kernel_rfl)) (fun _ _ _ h => h) (Or.inr ⟨by rfl, rfl⟩) ?_ ?_
         rotate_left
         ·simp only [Act.put, List.setIfInBounds_toArray, List.set_cons_zero, List.set_cons_succ, i64_w, i32_w]
          rfl
         refine pure_ (i := 8) (N := some 111) (v := undef) (a' := ?_) #[true, true, true, true, true, true, true, true, true, false, false, false, false, false, false, false] rfl rfl (any_of HT_.out (by kernel_rfl)) (fun _ _ _ h => h) (Or.inr ⟨by rfl, rfl⟩) ?_ ?_
         rotate_left
         ·simp only [Act.put, List.setIfInBounds_toArray, List.set_cons_zero, List.set_cons_succ, i64_w, i32_w]
          rfl
         refine pure_ (i := 9) (N := some 112) (v := undef) (a' := ?_) #[true, true, true, true, true, true, true, true, true, true, false, false, false, false, false, false] rfl rfl (any_of HT_.out (by kernel_rfl)) (fun _ _ _ h => h) (Or.inr ⟨by rfl, rfl⟩) ?_ ?_
         rotate_left
         ·simp only [Act.put, List.setIfInBounds_toArray, List.set_cons_zero, List.set_cons_succ, i64_w, i32_w]
          rfl
         refine pure_ (i := 10) (N := some 113) (v := undef) (a' := ?_) #[true, true, true, true, true, true, true, true, true, true, true, false, false, false, false, false] rfl rfl (any_of HT_.out (by kernel_rfl)) (fun _ _ _ h => h) (Or.inr ⟨by rfl, rfl⟩) ?_ ?_
         rotate_left
         ·simp only [Act.put, List.setIfInBounds_toArray, List.set_cons_zero, List.set_cons_succ, i64_w, i32_w]
          rfl
         refine pure_ (i := 11) (N := some 114) (v := undef) (a' := ?_) #[true, true, true, true, true, true, true, true, true, true, true, true, false, false, false, false] rfl rfl (any_of HT_.out (by kernel_rfl)) (fun _ _ _ h => h) (Or.inr ⟨by rfl, rfl⟩) ?_ ?_
         rotate_left
         ·simp only [Act.put, List.setIfInBounds_toArray, List.set_cons_zero, List.set_cons_succ, i64_w, i32_w]
          rfl
         refine pure_ (i := 12) (N := some 115) (v := undef) (a' := ?_) #[true, true, true, true, true, true, true, true, true, true, true, true, true, false, false, false] rfl rfl (any_of HT_.out (by kernel_rfl)) (fun _ _ _ h => h) (Or.inr ⟨by rfl, rfl⟩) ?_ ?_
         rotate_left
         ·simp only [Act.put, List.setIfInBounds_toArray, List.set_cons_zero, List.set_cons_succ, i64_w, i32_w]
          rfl
         refine pure_ (i := 13) (N := some 116) (v := undef) (a' := ?_) #[true, true, true, true, true, true, true, true, true, true, true, true, true, true, false, false] rfl rfl (any_of HT_.out (by kernel_rfl)) (fun _ _ _ h => h) (Or.inr ⟨by rfl, rfl⟩) ?_ ?_
         rotate_left
         ·simp only [Act.put, List.setIfInBounds_toArray, List.set_cons_zero, List.set_cons_succ, i64_w, i32_w]
          rfl
         refine pure_ (i := 14) (N := some 117) (v := undef) (a' := ?_) #[true, true, true, true, true, true, true, true, true, true, true, true, true, true, true, false] rfl rfl (any_of HT_.out (by kernel_rfl)) (fun _ _ _ h => h) (Or.inr ⟨by rfl, rfl⟩) ?_ ?_
         rotate_left
         ·simp only [Act.put, List.setIfInBounds_toArray, List.set_cons_zero, List.set_cons_succ, i64_w, i32_w]
          rfl
         refine pure_ (i := 15) (N := some 118) (v := ?_) (a' := ?_) #[true, true, true, true, true, true, true, true, true, true, true, true, true, true, true, true] rfl rfl (any_of HT_.out (by kernel_rfl)) (fun _ _ _ h => h) (Or.inl ⟨by rfl, ?_⟩) ?_ ?_
         rotate_left
         ·intro w'
          go_simp
          with_reducible rfl
         rotate_left
         ·simp only [Act.put, List.setIfInBounds_toArray, List.set_cons_zero, List.set_cons_succ, i64_w, i32_w]
          rfl
         refine done_ (done_of HT_.out (by kernel_rfl)) ?_
         try go_wp2
         go_meet
         case rel => exact ⟨_, (true), (by first | rfl | (simp; done) | (simp [*]; done)), H', ⟨by have := HJ9.out; have := HJ21.out; have := HK3.out; first | omega | exact Nat.le_refl _⟩, ⟨by (with_reducible repeat (first | apply Kd.R_alloc | apply Kd.R_drewN | apply Kd.R_drew)); exact HO_10.out⟩, ⟨by (with_reducible repeat (first | apply Kd.R_alloc | apply Kd.R_drewN | apply Kd.R_drew)); exact HO_13.out⟩, ⟨by (with_reducible repeat (first | refine blk_drewN ?_ _ | refine blk_drew ?_ | refine blk_alloc ?_ _)); exact BK597.out⟩, ⟨by repeat (first | (with_reducible first | exact HB.out | apply below_alloc | apply pw_below_drewN | apply below_drew1 | refine below_set ?_ GE597.out) | exact HB.out)⟩⟩
        rw [if_neg c39] at H
        have c39b0 : (t611 == 0) = false := beq_eq_false_iff_ne.mpr c39
        have c39b1 : (t611 != 0) = true := bne_iff_ne.mpr c39
        replace H := Option.bind_eq_some_iff.mp H
        obtain ⟨t614, A410, H⟩ := H
        replace H : (ebbtidelaw08_LevelWays.j3 k3 l1 a3 true t599 t604 x16_3 (t614 != x15_3) a0_0 a0_1 l0_2) = some r := H
        have A41 := Aside0.mk A410
        clear A410
        have H' := Aside0.mk H
        clear H
        try go_wp2
        have n0_ := Aside0.mk (Kd.R_drew HO_10.out)
        have n1_ := Aside0.mk (Kd.R_drew HO_13.out)
        have n2_ := Aside0.mk (blk_drew BK597.out)
        have n3_ := Aside0.mk (below_drew1 HB.out)
        clear HO_10
        clear HO_13
        clear BK597
        clear HB
        have HO_10 := n0_
        have HO_13 := n1_
        have BK597 := n2_
        have HB := n3_
        clear n0_ n1_ n2_ n3_
        have p613 : 0 ≤ (x16_3 : Int) := of_decide_eq_true (by first | (with_reducible assumption) | assumption)
        have q613 : x16_3 < (t599.length : Int) := of_decide_eq_true (by first | (with_reducible assumption) | assumption)
        obtain ⟨ad613, e613, hx613_0, hx613_1⟩ := at_T38 (Kd.R_reads' HO_10.out).2.2 x16_3 p613 q613
        obtain rfl : ad610 = ad613 := (by injection e613)
        replace p613 := eq_true p613
        replace q613 := eq_true q613
        refine start_ (n := 16) (S := fun w' => w'.cell? ⟨gb597, 0, none⟩ = some (.int .i64 a0_0) ∧ w'.cell? ⟨gb597, 1, none⟩ = some (.bool a0_1) ∧ w'.cell? ⟨gb597, 2, none⟩ = some (.slice A0_2 l0_2.length c0_2) ∧ w'.cell? (ad610.add ((x16_3).toNat * 2)) = some (.int .i64 ((rd_T38 t599 x16_3).f0)) ∧ w'.cell? ⟨(ad610.add ((x16_3).toNat * 2)).block, (ad610.add ((x16_3).toNat * 2)).off + 1, none⟩ = some (.bool ((rd_T38 t599 x16_3).f1))) (ds := []) #[false, false, false, false, false, false, false, false, false, false, false, false, false, false, false, false] (by kernel_rfl) rfl rfl ⟨(blk_cell BK597.out 0).trans rfl, (blk_cell BK597.out 1).trans rfl, (blk_cell BK597.out 2).trans rfl, hx613_0, hx613_1⟩ (fun hHeld => ?_); refine with_tabW ebbtidelaw08_LevelWays.tab19 ebbtidelaw08_LevelWays.bits19 (fun HT_ HW_ => ?_)
        generalize w37.drew = w42 at HO_10 HO_13 BK597 HB hx613_0 hx613_1 hHeld ⊢
        refine pure_ (i := 0) (N := some 103) (v := ?_) (a' := ?_) #[true, false, false, false, false, false, false, false, false, false, false, false, false, false, false, false] rfl rfl (any_of HT_.out (by kernel_rfl)) (fun _ _ _ h => h) (Or.inl ⟨by rfl, ?_⟩) ?_ ?_
        rotate_left
        ·intro w'
         go_simp
         with_reducible rfl
        rotate_left
        ·simp only [Act.put, List.setIfInBounds_toArray, List.set_cons_zero, List.set_cons_succ, i64_w, i32_w]
         rfl
        refine pure_ (i := 1) (N := some 104) (v := ?_) (a' := ?_) #[true, true, false, false, false, false, false, false, false, false, false, false, false, false, false, false] rfl rfl (any_of HT_.out (by kernel_rfl)) (fun _ _ _ h => h) (Or.inl ⟨by rfl, ?_⟩) ?_ ?_
        rotate_left
        ·intro w'
         go_simp
         with_reducible rfl
        rotate_left
        ·simp only [Act.put, List.setIfInBounds_toArray, List.set_cons_zero, List.set_cons_succ, i64_w, i32_w]
         rfl
        refine pure_ (i := 2) (N := some 105) (v := ?_) (a' := ?_) #[true, true, true, false, false, false, false, false, false, false, false, false, false, false, false, false] rfl rfl (any_of HT_.out (by kernel_rfl)) (fun _ _ _ h => h) (Or.inl ⟨by rfl, ?_⟩) ?_ ?_
        rotate_left
        ·intro w'
         go_simp
         with_reducible rfl
        rotate_left
        ·simp only [Act.put, List.setIfInBounds_toArray, List.set_cons_zero, List.set_cons_succ, i64_w, i32_w]
         rfl
        refine pure_ (i := 3) (N := some 106) (v := ?_) (a' := ?_) #[true, true, true, true, false, false, false, false, false, false, false, false, false, false, false, false] rfl rfl (any_of HT_.out (by kernel_rfl)) (fun _ _ _ h => h) (Or.inl ⟨by rfl, ?_⟩) ?_ ?_
        rotate_left
        ·intro w'
         go_simp
         with_reducible rfl
        rotate_left
        ·simp only [Act.put, List.setIfInBounds_toArray, List.set_cons_zero, List.set_cons_succ, i64_w, i32_w]
         rfl
        refine pure_ (i := 4) (N := some 107) (v := ?_) (a' := ?_) #[true, true, true, true, true, false, false, false, false, false, false, false, false, false, false, false] rfl rfl (any_of HT_.out (by kernel_rfl)) (fun _ _ _ h => h) (Or.inl ⟨by rfl, ?_⟩) ?_ ?_
        rotate_left
        ·intro w'
         go_simp
         with_reducible rfl
        rotate_left
        ·simp only [Act.put, List.setIfInBounds_toArray, List.set_cons_zero, List.set_cons_succ, i64_w, i32_w]
         rfl
        refine pure_ (i := 5) (N := some 108) (v := ?_) (a' := ?_) #[true, true, true, true, true, true, false, false, false, false, false, false, false, false, false, false] rfl rfl (any_of HT_.out (by kernel_rfl)) (fun _ _ _ h => h) (Or.inl ⟨by rfl, ?_⟩) ?_ ?_
        rotate_left
        ·intro w'
         go_simp
         with_reducible rfl
        rotate_left
        ·simp only [Act.put, List.setIfInBounds_toArray, List.set_cons_zero, List.set_cons_succ, i64_w, i32_w]
         rfl
        refine pure_ (i := 6) (N := some 109) (v := ?_) (a' := ?_) #[true, true, true, true, true, true, true, false, false, false, false, false, false, false, false, false] rfl rfl (any_of HT_.out (by kernel_rfl)) (fun _ _ _ h => h) (Or.inl ⟨by rfl, ?_⟩) ?_ ?_
        rotate_left
        ·intro w'
         go_simp
         with_reducible rfl
        rotate_left
        ·simp only [Act.put, List.setIfInBounds_toArray, List.set_cons_zero, List.set_cons_succ, i64_w, i32_w]
         rfl
        refine pure_ (i := 8) (N := some 111) (v := ?_) (a' := ?_) #[true, true, true, true, true, true, true, false, true, false, false, false, false, false, false, false] rfl rfl (any_of HT_.out (by kernel_rfl)) (fun _ _ _ h => h) (Or.inl ⟨by rfl, ?_⟩) ?_ ?_
        rotate_left
        ·intro w'
         go_simp
         with_reducible rfl
        rotate_left
        ·simp only [Act.put, List.setIfInBounds_toArray, List.set_cons_zero, List.set_cons_succ, i64_w, i32_w]
         rfl
        refine pure_ (i := 9) (N := some 112) (v := ?_) (a' := ?_) #[true, true, true, true, true, true, true, false, true, true, false, false, false, false, false, false] rfl rfl (any_of HT_.out (by kernel_rfl)) (fun _ _ _ h => h) (Or.inl ⟨by rfl, ?_⟩) ?_ ?_
        rotate_left
        ·intro w'
         go_simp
         with_reducible rfl
        rotate_left
        ·simp only [Act.put, List.setIfInBounds_toArray, List.set_cons_zero, List.set_cons_succ, i64_w, i32_w]
         rfl
        refine pure_ (i := 10) (N := some 113) (v := ?_) (a' := ?_) #[true, true, true, true, true, true, true, false, true, true, true, false, false, false, false, false] rfl rfl (any_of HT_.out (by kernel_rfl)) (fun _ _ _ h => h) (Or.inl ⟨by rfl, ?_⟩) ?_ ?_
        rotate_left
        ·intro w'
         go_simp
         with_reducible rfl
        rotate_left
        ·simp only [Act.put, List.setIfInBounds_toArray, List.set_cons_zero, List.set_cons_succ, i64_w, i32_w]
         rfl
        refine pure_ (i := 13) (N := some 116) (v := ?_) (a' := ?_) #[true, true, true, true, true, true, true, false, true, true, true, false, false, true, false, false] rfl rfl (any_of HT_.out (by kernel_rfl)) (fun _ _ _ h => h) (Or.inl ⟨by rfl, ?_⟩) ?_ ?_
        rotate_left
        ·intro w'
         go_simp
         with_reducible rfl
        rotate_left
        ·simp only [Act.put, List.setIfInBounds_toArray, List.set_cons_zero, List.set_cons_succ, i64_w, i32_w]
         rfl
        refine take_ (i := 7) (N := some 110) (v := ?_) (a' := ?_) #[true, true, true, true, true, true, true, true, true, true, true, false, false, true, false, false] rfl rfl (take_ofW HT_.out HW_.out (by kernel_rfl)) (fun _ _ _ h => h) (Or.inl ⟨by rfl, ?_⟩) hHeld ?_ ?_
        rotate_left
        ·rintro w' ⟨s0, s1, s2, s3, s4⟩
         go_simp
         with_reducible rfl
        rotate_left
        ·simp only [Act.put, List.setIfInBounds_toArray, List.set_cons_zero, List.set_cons_succ, i64_w, i32_w]
         rfl
        refine take_ (i := 11) (N := some 114) (v := ?_) (a' := ?_) #[true, true, true, true, true, true, true, true, true, true, true, true, false, true, false, false] rfl rfl (take_ofW HT_.out HW_.out (by kernel_rfl)) (fun _ _ _ h => h) (Or.inl ⟨by rfl, ?_⟩) hHeld ?_ ?_
        rotate_left
        ·rintro w' ⟨s0, s1, s2, s3, s4⟩
         go_simp
         with_reducible rfl
        rotate_left
        ·simp only [Act.put, List.setIfInBounds_toArray, List.set_cons_zero, List.set_cons_succ, i64_w, i32_w]
         rfl
        refine one_ (i := 12) (N := some 115) #[true, true, true, true, true, true, true, true, true, true, true, true, true, true, false, false] rfl rfl (one_of HT_.out (by kernel_rfl)) (by decide) (fun K hK => ?_)
        refine goes_ Try.func44 (by kernel_rfl) rfl #[.agg #[.int .i64 a0_0, .bool a0_1, .slice A0_2 l0_2.length c0_2], .agg #[.int .i64 ((rd_T38 t599 x16_3).f0), .bool ((rd_T38 t599 x16_3).f1)]] (by rfl) rfl rfl (by (try simp only [List.map_toArray, List.map_cons, List.map_nil]); first | done | rfl | (simp only [List.length_drop, List.length_take]; rfl)) ?_
        with_reducible refine (ebbtideref07_From.calls a0_0 a0_1 _ _ l0_2 ((rd_T38 t599 x16_3).f0) ((rd_T38 t599 x16_3).f1) t614 _ ?side1 ?side2 A41.out).mono ?_
        (case side1 => repeat (first | exact (Kd.C_below HR0_2.out HB.out) | (with_reducible refine Kd.C_alloc ?_ _) | (with_reducible refine Kd.C_drewN ?_ _) | (with_reducible refine Kd.C_drew ?_)))
        (case side2 => exact HC0_2.out)
        rintro e w43 ⟨rfl, hb⟩
        have HS3_ := (hb.cell (World.block_lt_of_cell? _ _ (hHeld.2.2.2.1))).trans (hHeld.2.2.2.1)
        have HS4_ := (hb.cell (World.block_lt_of_cell? _ _ (hHeld.2.2.2.2))).trans (hHeld.2.2.2.2)
        refine ⟨_, rfl, ?_⟩
        have n0_ := Aside0.mk (Kd.R_below (by (with_reducible repeat (first | apply Kd.R_alloc | apply Kd.R_drewN | apply Kd.R_drew)); exact HO_10.out) hb)
        have n1_ := Aside0.mk (Kd.R_below (by (with_reducible repeat (first | apply Kd.R_alloc | apply Kd.R_drewN | apply Kd.R_drew)); exact HO_13.out) hb)
        have n2_ := Aside0.mk (blk_below (g := gb597) (o := .cells #[.int .i64 a0_0, .bool a0_1, .slice A0_2 l0_2.length c0_2] 24 (0, 0)) (by (with_reducible repeat (first | refine blk_drewN ?_ _ | refine blk_drew ?_ | refine blk_alloc ?_ _)); exact BK597.out) hb)
        have n3_ := Aside0.mk (below_step (by repeat (first | (with_reducible first | exact HB.out | apply below_alloc | apply pw_below_drewN | apply below_drew1 | refine below_set ?_ GE597.out) | exact HB.out)) hb)
        clear HO_10
        clear HO_13
        clear BK597
        clear HB
        have HO_10 := n0_
        have HO_13 := n1_
        have BK597 := n2_
        have HB := n3_
        clear n0_ n1_ n2_ n3_
        (try clear hb)
        (try clear hb2)
        (try clear hk)
        (try clear hi)
        refine hK.out _ _ ⟨(blk_cell BK597.out 0).trans rfl, (blk_cell BK597.out 1).trans rfl, (blk_cell BK597.out 2).trans rfl, HS3_, HS4_⟩ (fun hHeld => ?_)
        clear hK K
        refine norm_ (a' := ?_) ?_ ?_
        rotate_left
        ·show Act.put _ (some 115) _ = _
         simp only [Act.put, List.setIfInBounds_toArray, List.set_cons_zero, List.set_cons_succ, i64_w, i32_w]
         rfl
        refine pure_ (i := 14) (N := some 117) (v := ?_) (a' := ?_) #[true, true, true, true, true, true, true, true, true, true, true, true, true, true, true, false] rfl rfl (any_of HT_.out (by kernel_rfl)) (fun _ _ _ h => h) (Or.inl ⟨by rfl, ?_⟩) ?_ ?_
        rotate_left
        ·intro w'
         go_simp
         with_reducible rfl
        rotate_left
        ·simp only [Act.put, List.setIfInBounds_toArray, List.set_cons_zero, List.set_cons_succ, i64_w, i32_w]
         rfl
        refine pure_ (i := 15) (N := some 118) (v := ?_) (a' := ?_) #[true, true, true, true, true, true, true, true, true, true, true, true, true, true, true, true] rfl rfl (any_of HT_.out (by kernel_rfl)) (fun _ _ _ h => h) (Or.inl ⟨by rfl, ?_⟩) ?_ ?_
        rotate_left
        ·intro w'
         go_simp
         with_reducible rfl
        rotate_left
        ·simp only [Act.put, List.setIfInBounds_toArray, List.set_cons_zero, List.set_cons_succ, i64_w, i32_w]
         rfl
        refine done_ (done_of HT_.out (by kernel_rfl)) ?_
        try go_wp2
        go_meet
        case rel => exact ⟨_, ((t614 != x15_3)), (by first | rfl | (simp; done) | (simp [*]; done)), H', ⟨by have := HJ9.out; have := HJ21.out; have := HK3.out; first | omega | exact Nat.le_refl _⟩, ⟨by (with_reducible repeat (first | apply Kd.R_alloc | apply Kd.R_drewN | apply Kd.R_drew)); exact HO_10.out⟩, ⟨by (with_reducible repeat (first | apply Kd.R_alloc | apply Kd.R_drewN | apply Kd.R_drew)); exact HO_13.out⟩, ⟨by (with_reducible repeat (first | refine blk_drewN ?_ _ | refine blk_drew ?_ | refine blk_alloc ?_ _)); exact BK597.out⟩, ⟨by repeat (first | (with_reducible first | exact HB.out | apply below_alloc | apply pw_below_drewN | apply below_drew1 | refine below_set ?_ GE597.out) | exact HB.out)⟩⟩
       case rest =>
        clear HC34
        try clear c1
        try clear p2
        try clear c3
        try clear c4
        try clear c5
        try clear p6
        try clear q6
        try clear hx6
        try clear c31
        try clear c31b0
        try clear c32
        try clear c32b0
        try clear c38
        try clear c38b0
        try clear c38b1
        try clear c39
        try clear c39b0
        try clear c39b1
        try clear c44
        try clear hx610_0
        try clear hx610_1
        try clear hx613_0
        try clear hx613_1
        try clear p610
        try clear p613
        try clear q610
        try clear q613
        obtain ⟨kq, x118_33, rfl, HA, HJ33, HO_10, HO_13, BK597, HB⟩ := hcut
        cases kq with
        | zero => exact absurd HA.out (by simp [ebbtidelaw08_LevelWays.j3])
        | succ kj33 =>
         have H := HA.out
         clear HA
         simp only [ebbtidelaw08_LevelWays.j3] at H
         by_cases c45 : x118_33 = true
         ·subst c45
          have H1 : (some false) = some r := by first | (rw [if_pos rfl] at H; exact H) | (rw [if_pos trivial] at H; exact H)
          exact absurd (Option.some.inj H1) (by rw [HRT.out]; decide)
         replace c45 := Bool.eq_false_iff.mpr c45
         subst c45
         have H1 : (if 0 ≤ x16_3 then (if x16_3 < (t599.length : Int) then ((ebbtideref07_To.f a0_0 a0_1 l0_2 ((rd_T38 t599 x16_3).f0) ((rd_T38 t599 x16_3).f1)).bind fun t616 => (if 0 ≤ t616 then (if t616 < (t604.length : Int) then (if (rd t604 t616) = (wrap64 (x16_3 + 1)) then (ebbtidelaw08_LevelWays.l0 kj33 l1 a3 true t599 t604 t616 (wrap64 (x16_3 + 1)) a0_0 a0_1 l0_2) else (some false)) else (none)) else (none))) else (none)) else (none)) = some r := by rw [if_neg (show ¬ (false = true) by decide)] at H; exact H
         clear H
         have H := H1
         clear H1
         by_cases c46 : 0 ≤ x16_3
         rotate_left
         ·rw [if_neg c46] at H
          exact absurd H (by simp)
         rw [if_pos c46] at H
         have c46b0 : decide (0 ≤ x16_3) = true := decide_eq_true c46
         clear c46
         by_cases c47 : x16_3 < (t599.length : Int)
         rotate_left
         ·rw [if_neg c47] at H
          exact absurd H (by simp)
         rw [if_pos c47] at H
         have c47b0 : decide (x16_3 < (t599.length : Int)) = true := decide_eq_true c47
         clear c47
         replace H := Option.bind_eq_some_iff.mp H
         obtain ⟨t616, A480, H⟩ := H
         replace H : (if 0 ≤ t616 then (if t616 < (t604.length : Int) then (if (rd t604 t616) = (wrap64 (x16_3 + 1)) then (ebbtidelaw08_LevelWays.l0 kj33 l1 a3 true t599 t604 t616 (wrap64 (x16_3 + 1)) a0_0 a0_1 l0_2) else (some false)) else (none)) else (none)) = some r := H
         have A48 := Aside0.mk A480
         clear A480
         by_cases c49 : 0 ≤ t616
         rotate_left
         ·rw [if_neg c49] at H
          exact absurd H (by simp)
         rw [if_pos c49] at H
         have c49b0 : decide (0 ≤ t616) = true := decide_eq_true c49
         clear c49
         by_cases c50 : t616 < (t604.length : Int)
         rotate_left
         ·rw [if_neg c50] at H
          exact absurd H (by simp)
         rw [if_pos c50] at H
         have c50b0 : decide (t616 < (t604.length : Int)) = true := decide_eq_true c50
         clear c50
         by_cases c51 : (rd t604 t616) = (wrap64 (x16_3 + 1))
         rotate_left
         ·rw [if_neg c51] at H
          exact absurd (Option.some.inj H) (by rw [HRT.out]; decide)
         rw [if_pos c51] at H
         have c51b0 : ((rd t604 t616) == (wrap64 (x16_3 + 1))) = true := beq_iff_eq.mpr c51
         have c51b1 : ((rd t604 t616) != (wrap64 (x16_3 + 1))) = false := bne_eq_false_iff_eq.mpr c51
         clear c51
         have H' := Aside0.mk H
         clear H
         try go_wp2
         have n0_ := Aside0.mk (Kd.R_drew HO_10.out)
         have n1_ := Aside0.mk (Kd.R_drew HO_13.out)
         have n2_ := Aside0.mk (blk_drew BK597.out)
         have n3_ := Aside0.mk (below_drew1 HB.out)
         clear HO_10
         clear HO_13
         clear BK597
         clear HB
         have HO_10 := n0_
         have HO_13 := n1_
         have BK597 := n2_
         have HB := n3_
         clear n0_ n1_ n2_ n3_
         have p615 : 0 ≤ (x16_3 : Int) := of_decide_eq_true (by first | (with_reducible assumption) | assumption)
         have q615 : x16_3 < (t599.length : Int) := of_decide_eq_true (by first | (with_reducible assumption) | assumption)
         obtain ⟨ad615, e615, hx615_0, hx615_1⟩ := at_T38 (Kd.R_reads' HO_10.out).2.2 x16_3 p615 q615
         obtain rfl : ad610 = ad615 := (by injection e615)
         replace p615 := eq_true p615
         replace q615 := eq_true q615
         refine start_ (n := 7) (S := fun w' => w'.cell? ⟨gb597, 0, none⟩ = some (.int .i64 a0_0) ∧ w'.cell? ⟨gb597, 1, none⟩ = some (.bool a0_1) ∧ w'.cell? ⟨gb597, 2, none⟩ = some (.slice A0_2 l0_2.length c0_2) ∧ w'.cell? (ad610.add ((x16_3).toNat * 2)) = some (.int .i64 ((rd_T38 t599 x16_3).f0)) ∧ w'.cell? ⟨(ad610.add ((x16_3).toNat * 2)).block, (ad610.add ((x16_3).toNat * 2)).off + 1, none⟩ = some (.bool ((rd_T38 t599 x16_3).f1))) (ds := []) #[false, false, false, false, false, false, false] (by kernel_rfl) rfl rfl ⟨(blk_cell BK597.out 0).trans rfl, (blk_cell BK597.out 1).trans rfl, (blk_cell BK597.out 2).trans rfl, hx615_0, hx615_1⟩ (fun hHeld => ?_)
         generalize wc.drew = w52 at HO_10 HO_13 BK597 HB hx615_0 hx615_1 hHeld ⊢
         refine pure_ (i := 1) (N := some 120) (v := ?_) (a' := ?_) #[false, true, false, false, false, false, false] rfl rfl (by kernel_rfl) (fun _ _ _ h => h) (Or.inl ⟨by rfl, ?_⟩) ?_ ?_
         rotate_left
         ·intro w'
          go_simp
          with_reducible rfl
         rotate_left
         ·simp only [Act.put, List.setIfInBounds_toArray, List.set_cons_zero, List.set_cons_succ, i64_w, i32_w]
          rfl
         refine pure_ (i := 2) (N := some 121) (v := ?_) (a' := ?_) #[false, true, true, false, false, false, false] rfl rfl (by kernel_rfl) (fun _ _ _ h => h) (Or.inl ⟨by rfl, ?_⟩) ?_ ?_
         rotate_left
         ·intro w'
          go_simp
          with_reducible rfl
         rotate_left
         ·simp only [Act.put, List.setIfInBounds_toArray, List.set_cons_zero, List.set_cons_succ, i64_w, i32_w]
          rfl
         refine pure_ (i := 3) (N := some 122) (v := ?_) (a' := ?_) #[false, true, true, true, false, false, false] rfl rfl (by kernel_rfl) (fun _ _ _ h => h) (Or.inl ⟨by rfl, ?_⟩) ?_ ?_
         rotate_left
         ·intro w'
          go_simp
          with_reducible rfl
         rotate_left
         ·simp only [Act.put, List.setIfInBounds_toArray, List.set_cons_zero, List.set_cons_succ, i64_w, i32_w]
          rfl
         refine take_ (i := 0) (N := some 119) (v := ?_) (a' := ?_) #[true, true, true, true, false, false, false] rfl rfl (by kernel_rfl) (fun _ _ _ h => h) (Or.inl ⟨by rfl, ?_⟩) hHeld ?_ ?_
         rotate_left
         ·rintro w' ⟨s0, s1, s2, s3, s4⟩
          go_simp
          with_reducible rfl
         rotate_left
         ·simp only [Act.put, List.setIfInBounds_toArray, List.set_cons_zero, List.set_cons_succ, i64_w, i32_w]
          rfl
         refine take_ (i := 4) (N := some 123) (v := ?_) (a' := ?_) #[true, true, true, true, true, false, false] rfl rfl (by kernel_rfl) (fun _ _ _ h => h) (Or.inl ⟨by rfl, ?_⟩) hHeld ?_ ?_
         rotate_left
         ·rintro w' ⟨s0, s1, s2, s3, s4⟩
          go_simp
          with_reducible rfl
         rotate_left
         ·simp only [Act.put, List.setIfInBounds_toArray, List.set_cons_zero, List.set_cons_succ, i64_w, i32_w]
          rfl
         refine one_ (i := 5) (N := some 124) #[true, true, true, true, true, true, false] rfl rfl (by kernel_rfl) (by decide) (fun K hK => ?_)
         refine goes_ Try.func45 (by kernel_rfl) rfl #[.agg #[.int .i64 a0_0, .bool a0_1, .slice A0_2 l0_2.length c0_2], .agg #[.int .i64 ((rd_T38 t599 x16_3).f0), .bool ((rd_T38 t599 x16_3).f1)]] (by rfl) rfl rfl (by (try simp only [List.map_toArray, List.map_cons, List.map_nil]); first | done | rfl | (simp only [List.length_drop, List.length_take]; rfl)) ?_
         with_reducible refine (ebbtideref07_To.calls a0_0 a0_1 _ _ l0_2 ((rd_T38 t599 x16_3).f0) ((rd_T38 t599 x16_3).f1) t616 _ ?side1 ?side2 A48.out).mono ?_
         (case side1 => repeat (first | exact (Kd.C_below HR0_2.out HB.out) | (with_reducible refine Kd.C_alloc ?_ _) | (with_reducible refine Kd.C_drewN ?_ _) | (with_reducible refine Kd.C_drew ?_)))
         (case side2 => exact HC0_2.out)
         rintro e w53 ⟨rfl, hb⟩
         have HS3_ := (hb.cell (World.block_lt_of_cell? _ _ (hHeld.2.2.2.1))).trans (hHeld.2.2.2.1)
         have HS4_ := (hb.cell (World.block_lt_of_cell? _ _ (hHeld.2.2.2.2))).trans (hHeld.2.2.2.2)
         refine ⟨_, rfl, ?_⟩
         have n0_ := Aside0.mk (Kd.R_below (by (with_reducible repeat (first | apply Kd.R_alloc | apply Kd.R_drewN | apply Kd.R_drew)); exact HO_10.out) hb)
         have n1_ := Aside0.mk (Kd.R_below (by (with_reducible repeat (first | apply Kd.R_alloc | apply Kd.R_drewN | apply Kd.R_drew)); exact HO_13.out) hb)
         have n2_ := Aside0.mk (blk_below (g := gb597) (o := .cells #[.int .i64 a0_0, .bool a0_1, .slice A0_2 l0_2.length c0_2] 24 (0, 0)) (by (with_reducible repeat (first | refine blk_drewN ?_ _ | refine blk_drew ?_ | refine blk_alloc ?_ _)); exact BK597.out) hb)
         have n3_ := Aside0.mk (below_step (by repeat (first | (with_reducible first | exact HB.out | apply below_alloc | apply pw_below_drewN | apply below_drew1 | refine below_set ?_ GE597.out) | exact HB.out)) hb)
         clear HO_10
         clear HO_13
         clear BK597
         clear HB
         have HO_10 := n0_
         have HO_13 := n1_
         have BK597 := n2_
         have HB := n3_
         clear n0_ n1_ n2_ n3_
         (try clear hb)
         (try clear hb2)
         (try clear hk)
         (try clear hi)
         refine hK.out _ _ ⟨(blk_cell BK597.out 0).trans rfl, (blk_cell BK597.out 1).trans rfl, (blk_cell BK597.out 2).trans rfl, HS3_, HS4_⟩ (fun hHeld => ?_)
         clear hK K
         refine norm_ (a' := ?_) ?_ ?_
         rotate_left
         ·show Act.put _ (some 124) _ = _
          simp only [Act.put, List.setIfInBounds_toArray, List.set_cons_zero, List.set_cons_succ, i64_w, i32_w]
          rfl
         refine pure_ (i := 6) (N := some 15) (v := ?_) (a' := ?_) #[true, true, true, true, true, true, true] rfl rfl (by kernel_rfl) (fun _ _ _ h => h) (Or.inl ⟨by rfl, ?_⟩) ?_ ?_
         rotate_left
         ·intro w'
          go_simp
          with_reducible rfl
         rotate_left
         ·simp only [Act.put, List.setIfInBounds_toArray, List.set_cons_zero, List.set_cons_succ, i64_w, i32_w]
          rfl
         refine done_ (by kernel_rfl) ?_
         obtain ⟨Ao54, co54, eo54⟩ := Kd.R_slice HO_13.out
         subst eo54
         have p617 : 0 ≤ (t616 : Int) := of_decide_eq_true (by first | (with_reducible assumption) | assumption)
         have q617 : t616 < (t604.length : Int) := of_decide_eq_true (by first | (with_reducible assumption) | assumption)
         obtain ⟨ad617, e617, hx617_0⟩ := Kd.at_int (Kd.R_reads' HO_13.out).2.2 t616 p617 q617
         cases e617
         replace p617 := eq_true p617
         replace q617 := eq_true q617
         try go_wp2
         go_roundg kj33
         case measure => have := HJ9.out; have := HJ21.out; have := HK3.out; have := HJ33.out; omega
         case rel => exact ⟨(t616), (wrap64 (x16_3 + 1)), (by first | rfl | (simp; done) | (simp [*]; done)), (by first | rfl | (simp; done) | (simp [*]; done)), H', ⟨by have := HJ9.out; have := HJ21.out; have := HK3.out; have := HJ33.out; omega⟩, ⟨by (with_reducible repeat (first | apply Kd.R_alloc | apply Kd.R_drewN | apply Kd.R_drew)); exact HO_10.out⟩, ⟨by (with_reducible repeat (first | apply Kd.R_alloc | apply Kd.R_drewN | apply Kd.R_drew)); exact HO_13.out⟩, ⟨by (with_reducible repeat (first | refine blk_drewN ?_ _ | refine blk_drew ?_ | refine blk_alloc ?_ _)); exact BK597.out⟩, ⟨by repeat (first | (with_reducible first | exact HB.out | apply below_alloc | apply pw_below_drewN | apply below_drew1 | refine below_set ?_ GE597.out) | exact HB.out)⟩⟩
end Go.Proofs.Ytkcpanpdipmmmaa.P
namespace Go.Proofs.Ytkcpanpdipmmmaa.Opn
open Go.RowKit Go.ChangeShapes Go.WideShapes Go.Deep Go.Proofs.YtkcpanpdipmmmaaW.PrintWords
def Opens (P : Program) (t : TypeId) {α : Type} (d : Kd α) (ok : α → Prop) : Prop :=
 ∀ (H : Type) (enc : TypeId × Value → H) (w : World) (base : Nat) (spare : Nat → Bool) (held : Bool) (fuel : Nat) (cs : List Value) (x : DataW H × List MemPlace),
  DataW.trod enc P w base spare held fuel t cs = some x → ∃ a : α, d.K w a cs ∧ ok a
theorem opens_int {P : Program} {t : TypeId} {k : IntKind} (ht : P.underlying t = some (.int k)) : Opens P t (Kd.int k) (fun n => (Lit.int k n).wf = true) := by
 intro H enc w base spare held fuel cs x h
 obtain ⟨n, rfl, _, hw⟩ := DataW.trod_int ht h
 exact ⟨n, rfl, hw⟩
theorem opens_bool {P : Program} {t : TypeId} (ht : P.underlying t = some .bool) : Opens P t Kd.bool (fun _ => True) := by
 intro H enc w base spare held fuel cs x h
 obtain ⟨b, rfl, _⟩ := DataW.trod_bool ht h
 exact ⟨b, rfl, trivial⟩
theorem opens_slice {P : Program} {t e : TypeId} {α : Type} {d : Kd α} {ok : α → Prop} (ht : P.underlying t = some (.slice e)) (hc : P.cellsOf e = d.sz) (h : Opens P e d ok) :
  Opens P t (Kd.slice e d) (fun l => l.length ≤ 9223372036854775807 ∧ ∀ x ∈ l, ok x) := by
 intro H enc w base spare held fuel cs x hx
 rcases open_slice ht hx with ⟨rfl, _⟩ | ⟨a, len, cap, m, n, D, Pl, rfl, hb, hl, hm, hmm, _, hi⟩
 ·exact ⟨[], ⟨none, 0, rfl, Nat.le_refl _, rfl, by simp, fun h => absurd h (by simp)⟩, by simp, by simp⟩
 ·have hlm : len ≤ m := by rw [hmm]; split <;> omega
  have hel : ∀ i : Nat, i < len → ∃ a' : α, ok a' ∧ ∃ c, c.length = d.sz ∧ d.K w a' c ∧ ∀ j u, c[j]? = some u → w.cell? (a.add (i * d.sz + j)) = some u := by
   intro i hil
   obtain ⟨cs', hcs, htr⟩ := hi i (by omega)
   obtain ⟨a', hK, hok⟩ := h H enc w base spare held n cs' _ htr
   rw [hc] at hcs
   obtain ⟨_, hcl, hat⟩ := World.cells?_some hcs
   refine ⟨a', hok, cs', hcl, hK, fun j u hu => ?_⟩
   have hj : j < d.sz := by have := (List.getElem?_eq_some_iff.1 hu).1; omega
   have := hat j hj
   rw [← Go.Deep.add_add, this, hu]
  have hrow : ∀ k : Nat, k ≤ len → ∃ xs : List α, xs.length = k ∧ (∀ x ∈ xs, ok x) ∧ ∀ j p, xs[j]? = some p → ∃ c, c.length = d.sz ∧ d.K w p c ∧ ∀ i u, c[i]? = some u → w.cell? (a.add (j * d.sz + i)) = some u := by
   intro k
   induction k with
   | zero => exact fun _ => ⟨[], rfl, by simp, by simp⟩
   | succ k ih =>
    intro hk
    obtain ⟨xs, h1, h2, h3⟩ := ih (by omega)
    obtain ⟨a', ho, c, hcl, hK, hcell⟩ := hel k (by omega)
    refine ⟨xs ++ [a'], by simp [h1], fun x hx => ?_, fun j p hj => ?_⟩
    ·rcases List.mem_append.1 hx with h | h
     ·exact h2 x h
     ·rw [List.mem_singleton.1 h]; exact ho
    ·by_cases hjk : j < xs.length
     ·rw [List.getElem?_append_left hjk] at hj
      exact h3 j p hj
     ·have hjl := (List.getElem?_eq_some_iff.1 hj).1
      simp at hjl
      have hje : j = k := by omega
      subst hje
      rw [← h1, List.getElem?_concat_length] at hj
      obtain rfl := Option.some.inj hj
      exact ⟨c, hcl, hK, hcell⟩
  obtain ⟨xs, h1, h2, h3⟩ := hrow len (Nat.le_refl _)
  have hmx : len ≤ 9223372036854775807 := by unfold maxLen at hm; omega
  subst h1
  exact ⟨xs, ⟨some a, cap, rfl, hl, rfl, hmx, fun _ => ⟨a, rfl, h3⟩⟩, hmx, h2⟩
theorem opens_iso {P : Program} {t : TypeId} {α β : Type} {d : Kd α} {ok : α → Prop} (h : Opens P t d ok) (f : β → α) (g : α → β) (hfg : ∀ x, f (g x) = x) : Opens P t (Kd.iso d f) (fun y => ok (f y)) := by
 intro H enc w base spare held fuel cs x hx
 obtain ⟨a, hK, hok⟩ := h H enc w base spare held fuel cs x hx
 exact ⟨g a, by show d.K w (f (g a)) cs; rw [hfg]; exact hK, by show ok (f (g a)); rw [hfg]; exact hok⟩
def OpensFs (P : Program) (fs : List Field) (off : Nat) {α : Type} (d : Kd α) (ok : α → Prop) : Prop :=
 ∀ (H : Type) (enc : TypeId × Value → H) (w : World) (base : Nat) (spare : Nat → Bool) (held : Bool) (n : Nat) (cs : List Value), cs.length = off + d.sz →
  (∀ f ∈ fs, ∃ y, DataW.trod enc P w base spare held n f.type ((cs.drop f.offset).take (P.cellsOf f.type)) = some y) → ∃ a : α, d.K w a (cs.drop off) ∧ ok a
theorem fs_one {P : Program} {f : Field} {off : Nat} {α : Type} {d : Kd α} {ok : α → Prop} (ho : f.offset = off) (hc : P.cellsOf f.type = d.sz) (h : Opens P f.type d ok) : OpensFs P [f] off d ok := by
 intro H enc w base spare held n cs hl hf
 obtain ⟨y, hy⟩ := hf f (by simp)
 rw [ho, hc, List.take_of_length_le (by simp; omega)] at hy
 exact h H enc w base spare held n _ y hy
theorem fs_cons {P : Program} {f : Field} {fs : List Field} {off : Nat} {α β : Type} {d : Kd α} {d' : Kd β} {ok : α → Prop} {ok' : β → Prop} (ho : f.offset = off) (hc : P.cellsOf f.type = d.sz) (h : Opens P f.type d ok)
  (hr : OpensFs P fs (off + d.sz) d' ok') : OpensFs P (f :: fs) off (Kd.pair d d') (fun x => ok x.1 ∧ ok' x.2) := by
 intro H enc w base spare held n cs hl hf
 have hsz : (Kd.pair d d').sz = d.sz + d'.sz := rfl
 rw [hsz] at hl
 obtain ⟨y, hy⟩ := hf f (by simp)
 rw [ho, hc] at hy
 obtain ⟨a, hK, hok⟩ := h H enc w base spare held n _ y hy
 obtain ⟨b, hKb, hokb⟩ := hr H enc w base spare held n cs (by omega) (fun f' hf' => hf f' (List.mem_cons_of_mem _ hf'))
 refine ⟨(a, b), ⟨_, _, ?_, hK, hKb⟩, hok, hokb⟩
 rw [← List.drop_drop]
 exact (List.take_append_drop _ _).symm
theorem opens_struct {P : Program} {t : TypeId} {fs : Array Field} {α : Type} {d : Kd α} {ok : α → Prop} (hs : P.underlying t = some (.struct fs)) (hC : P.cellsOf t = d.sz) (h : OpensFs P fs.toList 0 d ok) : Opens P t d ok := by
 intro H enc w base spare held fuel cs x hx
 obtain ⟨xs, n, _, _, hl, hlen, hf⟩ := DataW.trod_struct hs hx
 obtain ⟨a, hK, hok⟩ := h H enc w base spare held n cs (by rw [hl, hC, Nat.zero_add]) (fun f hfm => by
  obtain ⟨j, hj⟩ := List.getElem?_of_mem hfm
  have hj' : fs[j]? = some f := by rw [← hj]; simp
  have hjl : j < xs.length := by rw [hlen]; exact (Array.getElem?_eq_some_iff.1 hj').1
  have h1 := hf j f hj'
  rw [List.getElem?_eq_getElem hjl] at h1
  exact ⟨_, h1⟩)
 exact ⟨a, hK, hok⟩
theorem arg_struct {H : Type} {enc : TypeId × Value → H} {P : Program} {w : World} {base b0 : Nat} {spare : Nat → Bool} {held : Bool} {r : Reach} {t : TypeId} {fs : Array Field} {v : Value} {dd : DataW H} {p : List MemPlace} {α : Type} {d : Kd α} {ok : α → Prop}
  (hs : P.underlying t = some (.struct fs)) (ho : Opens P t d ok) (hv : Value.okWide P w r b0 t v) (h : DataW.Trod enc P w base spare held t v dd p) : ∃ a cs, v = .agg cs ∧ d.K w a cs.toList ∧ ok a := by
 obtain ⟨cs, rfl, hsz⟩ := okWide_struct hs hv
 obtain ⟨fuel, hf⟩ := h
 obtain ⟨a, hK, hok⟩ := ho H enc w base spare held fuel _ _ hf
 exact ⟨a, cs, rfl, by simpa [Value.cells] using hK, hok⟩
theorem arg_slice {H : Type} {enc : TypeId × Value → H} {P : Program} {w : World} {base b0 : Nat} {spare : Nat → Bool} {held : Bool} {r : Reach} {t e : TypeId} {v : Value} {dd : DataW H} {p : List MemPlace} {α : Type} {d : Kd α} {ok : List α → Prop}
  (hs : P.underlying t = some (.slice e)) (ho : Opens P t (Kd.slice e d) ok) (hv : Value.okWide P w r b0 t v) (h : DataW.Trod enc P w base spare held t v dd p) : ∃ A c l, v = .slice A l.length c ∧ l.length ≤ c ∧ d.C w A l.length l ∧ ok l := by
 obtain ⟨A, len, cap, rfl⟩ := okWide_slice hs hv
 obtain ⟨fuel, hf⟩ := h
 obtain ⟨l, ⟨A', c, he, hlc, hC⟩, hok⟩ := ho H enc w base spare held fuel _ _ hf
 simp [Value.cells] at he
 obtain ⟨rfl, rfl, rfl⟩ := he
 exact ⟨A, cap, l, rfl, hlc, hC, hok⟩
end Go.Proofs.Ytkcpanpdipmmmaa.Opn
namespace Go.Proofs.Ytkcpanpdipmmmaa.H
open Go.RowKit Go.Proofs.YtkcpanpdipmmmaaW.PrintWords Go.Proofs.YtkcpanpdipmmmaaW.PrintLast Go.Proofs.YtkcpanpdipmmmaaW.PrintMore Go.Proofs.Ytkcpanpdipmmmaa.P Go.Proofs.Ytkcpanpdipmmmaa.Q
structure StepsOk (l : List S74) (n : Nat) (L : List S38) : Prop where
 ends : ends l n
 arcs : l.length ≤ 200
 of : ∀ s, s ∈ L → StepOf l s
 len : L.length ≤ 400
section
variable {l : List S74} {n : Nat} {L : List S38}
theorem rfrom_ok (h : StepsOk l n L) {s : S38} (hs : s ∈ L) (a : Int) (b : Bool) : ebbtideref07_From.f a b l s.f0 s.f1 = some (stFrom l s) := by
 obtain ⟨i, h1, h2⟩ := h.of s hs
 unfold ebbtideref07_From.f stFrom eFrom eTo
 rw [h2]
 cases s.f1 <;> simp [h1]
theorem rto_ok (h : StepsOk l n L) {s : S38} (hs : s ∈ L) (a : Int) (b : Bool) : ebbtideref07_To.f a b l s.f0 s.f1 = some (stTo l s) := by
 obtain ⟨i, h1, h2⟩ := h.of s hs
 unfold ebbtideref07_To.f stTo eFrom eTo
 rw [h2]
 cases s.f1 <;> simp [h1]
end
end Go.Proofs.Ytkcpanpdipmmmaa.H
namespace Go.Proofs.Ytkcpanpdipmmmaa.Q
open Go.RowKit Go.Proofs.YtkcpanpdipmmmaaW.PrintWords Go.Proofs.YtkcpanpdipmmmaaW.PrintLast Go.Proofs.YtkcpanpdipmmmaaW.PrintMore Go.Proofs.Ytkcpanpdipmmmaa.P
open Go.Proofs.Ytkcpanpdipmmmaa.H (levelsRes pathRes wayP endsErr StepsOk Right right_of stepsR bfP dOf nodes wayL frP toP esP Fd bfP_upto dOf_len dOf_get fnd fnd_some fnd_none fnd_of backL_spec lv_lt esP_fr esP_to)
theorem awake08_at : ebbtidelaw08_awake.f 100 = some true := by decide +kernel
theorem awake08_ev : Ev (fun k => ebbtidelaw08_awake.f k) true := Ev.of ebbtidelaw08_awake.mono awake08_at
theorem stepsOk {l : List S74} {F : List Int} {n : Nat} (hr : Right l F n) : StepsOk l n (stepsR l F F.length) :=
 ⟨hr.ends, hr.arcs, fun s hs => H.stepsR_of hr s hs, by have := H.stepsR_len l F F.length; have := hr.len; have := hr.arcs; omega⟩
theorem wayP_len {l : List S74} {F : List Int} {n : Nat} (hr : Right l F n) {s : Nat} (hs : s < n) {v : Nat} (hv : v < n) (h : v ∈ nodes (bfP l F n s)) : ((wayP l F n s v).length : Int) = (dOf n (bfP l F n s)).getD v 0 := by
 obtain ⟨x, hx, rfl⟩ := List.mem_map.1 h
 have hu := (bfP_upto hr hs).fds
 unfold wayP
 rw [if_pos h]
 unfold wayL
 rw [List.length_reverse, (backL_spec hu esP_fr _ hx (Nat.le_of_lt (lv_lt hu hx))).1, H.dOf_mem hu.nodup hx 0 hv]
theorem levels_eq (n : Int) (b : Bool) (l : List S74) (F : List Int) (s : Int) : level_Levels.f n b l F s = some (levelsRes n l F s) := rfl
theorem path_eq (n : Int) (b : Bool) (l : List S74) (F : List Int) (s t : Int) : level_Path.f n b l F s t = some (pathRes n l F s t) := rfl
theorem pathRes_len (n : Int) (l : List S74) (F : List Int) (s t : Int) : (pathRes n l F s t).1.length ≤ 50 := by
 unfold pathRes
 split
 ·rename_i h0
  split
  ·rename_i h1
   obtain ⟨n0, rfl, hr⟩ := right_of h0
   have := hr.fifty
   have he : 0 ≤ s ∧ s < (n0 : Int) ∧ 0 ≤ t ∧ t < (n0 : Int) ∧ s ≠ t := by
    unfold endsErr at h1
    by_cases hn : netErr n0 l = 0
    ·rw [if_pos hn] at h1
     split at h1
     ·assumption
     ·cases h1
    ·rw [if_neg hn] at h1; exact absurd h1 hn
   obtain ⟨s0, rfl⟩ : ∃ s0 : Nat, s = s0 := ⟨s.toNat, by omega⟩
   obtain ⟨t0, rfl⟩ : ∃ t0 : Nat, t = t0 := ⟨t.toNat, by omega⟩
   simp only [Int.toNat_natCast]
   by_cases hm : t0 ∈ nodes (bfP l F n0 s0)
   ·obtain ⟨x, hx, rfl⟩ := List.mem_map.1 hm
    have hu := (bfP_upto hr (show s0 < n0 by omega)).fds
    have h3 := lv_lt hu hx
    have h4 := H.fds_len hu (esP_to hr) (show s0 < n0 by omega)
    unfold wayP
    rw [if_pos hm]
    unfold wayL
    rw [List.length_reverse, (backL_spec hu esP_fr _ hx (Nat.le_of_lt h3)).1]
    omega
   ·unfold wayP
    rw [if_neg hm]
    simp
  ·simp
 ·simp
end Go.Proofs.Ytkcpanpdipmmmaa.Q
namespace Go.Proofs.Ytkcpanpdipmmmaa.Q
open Go.RowKit Go.Proofs.YtkcpanpdipmmmaaW.PrintWords Go.Proofs.YtkcpanpdipmmmaaW.PrintLast Go.Proofs.YtkcpanpdipmmmaaW.PrintMore Go.Proofs.Ytkcpanpdipmmmaa.P
open Go.Proofs.Ytkcpanpdipmmmaa.H (stRoom)
def StepIn (l : List S74) (s : S38) : Prop := 0 ≤ s.f0 ∧ s.f0 < l.length
theorem stRoom_small {n : Int} {l : List S74} {f : List Int} (hn : NetOk n l) (hf : FlowOk l f) {s : S38} (hs : StepIn l s) : 0 ≤ stRoom l f s ∧ stRoom l f s ≤ 1048576 := by
 have h1 := hf.small hn hs.1 (by rw [hf.len]; exact hs.2)
 have h2 := hf.int hs.1 (by rw [hf.len]; exact hs.2)
 have h3 := (hn.at_ hs.1 hs.2).h2
 unfold rd at h1 h2
 unfold stRoom
 split <;> omega
theorem left_st {n : Int} {l : List S74} {f : List Int} (m : Int) (b : Bool) (hn : NetOk n l) (hf : FlowOk l f) {s : S38} (hs : StepIn l s) : ebbtideref07_Left.f m b l f s.f0 s.f1 = some (stRoom l f s) := by
 have h0 := stRoom_small hn hf hs
 have hl := hf.len
 obtain ⟨h1, h2⟩ := hs
 unfold ebbtideref07_Left.f
 unfold stRoom at *
 by_cases g : s.f1 = true
 ·simp only [if_pos g] at h0 ⊢
  rw [if_pos h1, if_pos (by omega)]
  rfl
 ·simp only [if_neg g] at h0 ⊢
  rw [if_pos h1, if_pos h2, if_pos (by omega)]
  have e : rd f s.f0 = f.getD s.f0.toNat 0 := rfl
  rw [e, wrap_id (by omega) (by omega)]
theorem ref_room_ev {n : Int} {l : List S74} {f : List Int} (b : Bool) (h : askErr n l f = 0) {s : S38} (hs : StepIn l s) : Ev (fun m => ebbtideref07_Room.f m n b l f s.f0 s.f1) (stRoom l f s, 0) := by
 unfold ebbtideref07_Room.f
 refine Ev.bind (ref_asked_ev n b l f) ?_
 refine Ev.pos h ?_
 obtain ⟨hn, hf⟩ := askErr_ok h
 have hl := hf.len
 refine Ev.neg (by have := hs.1; omega) ?_
 refine Ev.neg (by have := hs.2; omega) ?_
 exact Ev.call (left_st n b hn hf hs) (Ev.now _)
theorem rdStep_nat (l : List S38) (i : Nat) : rd_T38 l (i : Int) = l.getD i z38 := by unfold rd_T38; rw [Int.toNat_natCast]
end Go.Proofs.Ytkcpanpdipmmmaa.Q
namespace Go.Proofs.Ytkcpanpdipmmmaa.Q
open Go.RowKit Go.Proofs.YtkcpanpdipmmmaaW.PrintWords Go.Proofs.YtkcpanpdipmmmaaW.PrintLast Go.Proofs.YtkcpanpdipmmmaaW.PrintMore Go.Proofs.Ytkcpanpdipmmmaa.P
open Go.Proofs.Ytkcpanpdipmmmaa.H (levelsRes pathRes wayP endsErr Right right_of stepsR bfP dOf nodes wayL frP toP esP Fd bfP_upto dOf_len dOf_get fnd fnd_none fnd_of backL backL_spec backL_more lv_lt esP_fr esP_to stFrom stTo stRoom Fds rfrom_ok rto_ok mem_esP stL_of stTo_in)
theorem esP_steps {l : List S74} {F : List Int} {n : Nat} (hr : Right l F n) {v : Nat} {e : S38} (h : e ∈ esP l F v) : e ∈ stepsR l F F.length := by
 obtain ⟨h1, h2⟩ := mem_esP.1 h
 obtain ⟨i, h3, h4⟩ := stL_of h1
 exact (H.mem_stepsR l F F.length e).2 ⟨⟨i, by rw [hr.len]; exact h3, h4⟩, h2⟩
theorem stTo_toP {l : List S74} {F : List Int} {n : Nat} (hr : Right l F n) {v : Nat} {e : S38} (h : e ∈ esP l F v) : stTo l e = ((toP l e : Nat) : Int) := by
 have h1 := stTo_in hr (stL_of (mem_esP.1 h).1)
 unfold toP; omega
theorem stFrom_v {l : List S74} {F : List Int} {n : Nat} (hr : Right l F n) {v : Nat} {e : S38} (h : e ∈ esP l F v) : stFrom l e = (v : Int) := by
 have h1 := H.stFrom_in hr (stL_of (mem_esP.1 h).1)
 have h2 := esP_fr _ _ h
 unfold frP at h2
 omega
section
variable {l : List S74} {F : List Int} {n s t : Nat}
theorem ways_one (hr : Right l F n) (hs : s < n) (b : Bool) {W : List S38} (hW : W.length ≤ 50) {z : H.Fd S38} {e : S38} (he : e ∈ esP l F z.v) (hi : W[z.lv]? = some e) (hD : (dOf n (bfP l F n s)).getD (toP l e) 0 = ((z.lv + 1 : Nat) : Int)) (h0 : askErr n l F = 0)
  (h : Ev (fun k => ebbtidelaw08_LevelWays.l0 k F (t : Int) true W (dOf n (bfP l F n s)) ((toP l e : Nat) : Int) ((z.lv + 1 : Nat) : Int) (n : Int) b l) true) :
  Ev (fun k => ebbtidelaw08_LevelWays.l0 k F (t : Int) true W (dOf n (bfP l F n s)) (z.v : Int) (z.lv : Int) (n : Int) b l) true := by
 obtain ⟨hil, hie⟩ := List.getElem?_eq_some_iff.1 hi
 have hgd : rd_T38 W (z.lv : Int) = e := by rw [rdStep_nat, List.getD_eq_getElem?_getD, hi]; rfl
 have hst := esP_steps hr he
 have hto := stTo_toP hr he
 have hfr := stFrom_v hr he
 have hso : e.f0 < l.length ∧ 0 ≤ e.f0 := by obtain ⟨i, h3, h4⟩ := stL_of (mem_esP.1 he).1; omega
 have hroom := (mem_esP.1 he).2
 have hton := esP_to hr _ _ he
 refine Ev.succ ?_; simp only [ebbtidelaw08_LevelWays.l0]
 refine Ev.pos (by omega) ?_
 refine Ev.pos (by omega) ?_
 rw [hgd]
 refine Ev.bind (ref_room_ev b h0 ⟨hso.2, hso.1⟩) ?_
 refine Ev.pos rfl ?_
 refine Ev.neg (by show ¬ stRoom l F e = 0; omega) ?_
 refine Ev.call (rfrom_ok (stepsOk hr) hst _ b) ?_
 rw [hfr]
 refine Ev.succ ?_; simp only [ebbtidelaw08_LevelWays.j3]
 refine Ev.neg (by simp) ?_
 refine Ev.pos (by omega) ?_
 refine Ev.pos (by omega) ?_
 rw [hgd]
 refine Ev.call (rto_ok (stepsOk hr) hst _ b) ?_
 rw [hto]
 refine Ev.pos (by omega) ?_
 refine Ev.pos (by rw [dOf_len]; omega) ?_
 rw [rd_nat, hD, wrap_succ (n := W.length) hil (by omega)]
 refine Ev.pos rfl ?_
 exact h
theorem ways_up (hr : Right l F n) (hs : s < n) (b : Bool) (h0 : askErr n l F = 0) {W : List S38} (hW : W.length ≤ 50) (k : Nat) : ∀ (x : H.Fd S38) (R : List S38), x ∈ bfP l F n s → x.lv = k → W = (backL (frP l) (bfP l F n s) s x.lv x.v).reverse ++ R →
  Ev (fun k => ebbtidelaw08_LevelWays.l0 k F (t : Int) true W (dOf n (bfP l F n s)) (x.v : Int) (x.lv : Int) (n : Int) b l) true →
  Ev (fun k => ebbtidelaw08_LevelWays.l0 k F (t : Int) true W (dOf n (bfP l F n s)) (s : Int) 0 (n : Int) b l) true := by
 have hu := (bfP_upto hr hs).fds
 induction k with
 | zero =>
  intro x R hx hk hWx h
  rcases hu.mem_lv hx with ⟨h1, h2⟩ | ⟨_, _, z, _, _, h2⟩
  ·rw [h1, h2] at h; exact h
  ·omega
 | succ k ih =>
  intro x R hx hk hWx h
  rcases hu.mem_lv hx with ⟨h1, h2⟩ | ⟨hne, hto, z, hz, hze, hlv⟩
  ·omega
  have hb : backL (frP l) (bfP l F n s) s x.lv x.v = x.by_ :: backL (frP l) (bfP l F n s) s z.lv z.v := by
   rw [hlv, backL, if_neg hne, fnd_of hu.nodup hx]
   show x.by_ :: _ = _
   rw [esP_fr _ _ hze]
  rw [hb, List.reverse_cons, List.append_assoc] at hWx
  have hlen := (backL_spec hu esP_fr _ hz (Nat.le_refl _)).1
  have hi : W[z.lv]? = some x.by_ := by
   rw [hWx, List.getElem?_append_right (by rw [List.length_reverse, hlen]; exact Nat.le_refl _), List.length_reverse, hlen, Nat.sub_self]
   rfl
  refine ih z _ hz (by omega) hWx (ways_one hr hs b hW hze hi ?_ h0 ?_)
  ·rw [hto, H.dOf_mem hu.nodup hx 0 (H.fds_lt hu (esP_to hr) hs _ (List.mem_map_of_mem hx)), hlv]
  ·rw [hto, ← hlv]
   exact h
end
theorem path_no {n : Int} {l : List S74} {F : List Int} {s t : Int} (h : ¬ (askErr n l F = 0 ∧ endsErr n l s t = 0)) : ∃ e, e ≠ 0 ∧ pathRes n l F s t = ([], false, e) := by
 unfold pathRes
 by_cases h0 : askErr n l F = 0
 ·rw [if_pos h0]
  by_cases h1 : endsErr n l s t = 0
  ·exact absurd ⟨h0, h1⟩ h
  ·rw [if_neg h1]; exact ⟨_, h1, rfl⟩
 ·rw [if_neg h0]; exact ⟨_, h0, rfl⟩
theorem path_yes {n : Int} {l : List S74} {F : List Int} {s t : Int} (h0 : askErr n l F = 0) (h1 : endsErr n l s t = 0) : ∃ n0 s0 t0 : Nat, n = n0 ∧ s = s0 ∧ t = t0 ∧ Right l F n0 ∧ s0 < n0 ∧ t0 < n0 ∧ s0 ≠ t0 ∧
  pathRes n l F s t = (wayP l F n0 s0 t0, decide (t0 ∈ nodes (bfP l F n0 s0)), 0) ∧ levelsRes n l F s = (dOf n0 (bfP l F n0 s0), 0) := by
 obtain ⟨n0, rfl, hr⟩ := right_of h0
 have h1' := h1
 have he : 0 ≤ s ∧ s < (n0 : Int) ∧ 0 ≤ t ∧ t < (n0 : Int) ∧ s ≠ t := by
  unfold endsErr at h1
  by_cases hn : netErr n0 l = 0
  ·rw [if_pos hn] at h1
   split at h1
   ·assumption
   ·cases h1
  ·rw [if_neg hn] at h1; exact absurd h1 hn
 obtain ⟨s0, rfl⟩ : ∃ s0 : Nat, s = s0 := ⟨s.toNat, by omega⟩
 obtain ⟨t0, rfl⟩ : ∃ t0 : Nat, t = t0 := ⟨t.toNat, by omega⟩
 refine ⟨n0, s0, t0, rfl, rfl, rfl, hr, by omega, by omega, by omega, ?_, ?_⟩
 ·unfold pathRes
  rw [if_pos h0, if_pos h1']
  simp only [Int.toNat_natCast]
 ·unfold levelsRes
  rw [if_pos h0, if_pos ⟨by omega, by omega⟩]
  simp only [Int.toNat_natCast]
theorem levelWays_ev (n : Int) (b : Bool) (l : List S74) (F : List Int) (s t : Int) : Ev (fun k => ebbtidelaw08_LevelWays.f k n b l F s t) true := by
 unfold ebbtidelaw08_LevelWays.f
 refine Ev.bind awake08_ev ?_
 refine Ev.pos rfl ?_
 refine Ev.call (path_eq n b l F s t) ?_
 by_cases hok : askErr n l F = 0 ∧ endsErr n l s t = 0
 ·obtain ⟨h0, h1⟩ := hok
  obtain ⟨n0, s0, t0, rfl, rfl, rfl, hr, hs, ht, hst, hp, hl⟩ := path_yes h0 h1
  have hlen := pathRes_len n0 l F s0 t0
  rw [hp] at hlen ⊢
  refine Ev.pos rfl ?_
  refine Ev.call (levels_eq n0 b l F s0) ?_
  rw [hl]
  refine Ev.pos rfl ?_
  have hD := dOf_len n0 (bfP l F n0 s0)
  refine Ev.succ ?_; simp only [ebbtidelaw08_LevelWays.j0]
  refine Ev.neg (by simp [hD]) ?_
  by_cases hm : t0 ∈ nodes (bfP l F n0 s0)
  ·refine Ev.pos (decide_eq_true hm) ?_
   refine Ev.pos (by omega) ?_
   refine Ev.pos (by omega) ?_
   have hW := wayP_len hr hs ht hm
   rw [rd_nat]
   refine Ev.pos hW ?_
   obtain ⟨x, hx, hxt⟩ := List.mem_map.1 hm
   have hu := (bfP_upto hr hs).fds
   have hxl : (dOf n0 (bfP l F n0 s0)).getD t0 0 = (x.lv : Int) := by rw [← hxt]; exact H.dOf_mem hu.nodup hx 0 (by omega)
   have hx1 : 1 ≤ x.lv := by
    rcases hu.mem_lv hx with ⟨h2, _⟩ | ⟨_, _, z, _, _, h2⟩
    ·omega
    ·omega
   have hWx : wayP l F n0 s0 t0 = (backL (frP l) (bfP l F n0 s0) s0 x.lv x.v).reverse := by rw [← hxt]; exact H.way_of hr hs hu ⟨[], by rw [List.append_nil]⟩ hx
   refine Ev.succ ?_; simp only [ebbtidelaw08_LevelWays.j1]
   refine Ev.neg (by simp only [beq_iff_eq]; omega) ?_
   refine ways_up hr hs b h0 (by omega) x.lv x [] hx rfl (by rw [List.append_nil]; exact hWx) ?_
   refine Ev.succ ?_; simp only [ebbtidelaw08_LevelWays.l0]
   refine Ev.neg (by omega) ?_
   refine Ev.pos trivial ?_
   exact Ev.done (by rw [hxt]; exact beq_self_eq_true _)
  ·refine Ev.neg (by simpa using hm) ?_
   refine Ev.pos trivial ?_
   refine Ev.pos (by omega) ?_
   refine Ev.pos (by omega) ?_
   rw [rd_nat, dOf_get _ 0 ht, fnd_none.2 hm]
   refine Ev.pos rfl ?_
   refine Ev.done ?_
   unfold wayP
   rw [if_neg hm]
   rfl
 ·obtain ⟨e, he, hp⟩ := path_no hok
  rw [hp]
  refine Ev.neg he ?_
  refine Ev.neg (by simp) ?_
  exact Ev.now _
end Go.Proofs.Ytkcpanpdipmmmaa.Q
