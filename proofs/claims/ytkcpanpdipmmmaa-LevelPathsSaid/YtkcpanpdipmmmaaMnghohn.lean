/- What the law's row needs of these texts, taken out of them by wip/tool/mini.py: P68 QSoughtLaw QWayRef P176 P181 P182 QOpen QLevelLaw QLLevelFars. -/
import Derived.Test.YtkcpanpdipmmmaaMbpjoml
import Derived.Test.YtkcpanpdipmmmaaMohdbpe
import Derived.Test.YtkcpanpdipmmmaaMjmgako
import Derived.Test.YtkcpanpdipmmmaaMddbenf
import Derived.Deep.RegionHeld3
import Derived.Deep.DeepCutAuto
import Derived.Test.YtkcpanpdipmmmaaVapdbhc
import Derived.Deep.Slices
import Derived.Deep.Fields
import Derived.ChangeSame
import Derived.ChangeArms
import Derived.OpenShut
set_option linter.unusedVariables false
set_option linter.unusedSimpArgs false
namespace Go.Proofs.Ytkcpanpdipmmmaa.P
open Go.RowKit Go.Proofs.YtkcpanpdipmmmaaW.PrintWords Go.Proofs.YtkcpanpdipmmmaaW.PrintLast Go.Proofs.YtkcpanpdipmmmaaW.PrintMore
attribute [local go_sem] max2_int min2_int max_two min_two max_three min_three max_four min_four
mutual
def ebbtideref08_sought.l0 : Nat → List (S38) → Int → Int → Bool → List (S74) → List Int → List (S38) → Option (List Int × (List (S38)))
 | 0, _, _, _, _, _, _, _ => none
 | k + 1, x2, x8, x450000, x450001, x450002, x452000, x452001 => if x8 < (x452000.length : Int) then (ebbtideref08_sought.l1 k x2 x8 0 x450000 x450001 x450002 x452000 x452001) else (some (x452000, x452001))
def ebbtideref08_sought.l1 : Nat → List (S38) → Int → Int → Int → Bool → List (S74) → List Int → List (S38) → Option (List Int × (List (S38)))
 | 0, _, _, _, _, _, _, _, _ => none
 | k + 1, x2, x8, x9, x450000, x450001, x450002, x452000, x452001 => if x9 < (x2.length : Int) then (if 0 ≤ x9 then ((ebbtideref07_From.f x450000 x450001 x450002 ((rd_T38 x2 x9).f0) ((rd_T38 x2 x9).f1)).bind fun t459 => (if 0 ≤ x8 then (if x8 < (x452000.length : Int) then (if t459 = (rd x452000 x8) then ((ebbtideref07_To.f x450000 x450001 x450002 ((rd_T38 x2 x9).f0) ((rd_T38 x2 x9).f1)).bind fun t462 => ((ebbtideref08_found_has.f k x452000 x452001 t462).bind fun t463 => (if t463 < 0 then ((ebbtideref07_To.f x450000 x450001 x450002 ((rd_T38 x2 x9).f0) ((rd_T38 x2 x9).f1)).bind fun t465 => (if x452000.length < 17592186044416 then (if x452001.length < 8796093022208 then (ebbtideref08_sought.l1 k x2 x8 (wrap64 (x9 + 1)) x450000 x450001 x450002 (x452000 ++ [t465]) (x452001 ++ [(⟨(rd_T38 x2 x9).f0, (rd_T38 x2 x9).f1⟩ : S38)])) else (none)) else (none))) else (ebbtideref08_sought.l1 k x2 x8 (wrap64 (x9 + 1)) x450000 x450001 x450002 x452000 x452001)))) else (ebbtideref08_sought.l1 k x2 x8 (wrap64 (x9 + 1)) x450000 x450001 x450002 x452000 x452001)) else (none)) else (none))) else (none)) else (ebbtideref08_sought.l0 k x2 (wrap64 (x8 + 1)) x450000 x450001 x450002 x452000 x452001)
end
def ebbtideref08_sought.f (k : Nat) (a0_0 : Int) (a0_1 : Bool) (l0_2 : List (S74)) (a1 : Int) (l2 : List (S38)) : Option (List Int × (List (S38))) := if ([] : List Int).length < 17592186044416 then (if ([] : List (S38)).length < 8796093022208 then (ebbtideref08_sought.l0 k l2 0 a0_0 a0_1 l0_2 (([] : List Int) ++ [a1]) (([] : List (S38)) ++ [(⟨0, false⟩ : S38)])) else (none)) else (none)
def ebbtideref08_sought.T10 : Bool × List (List Nat × List Nat) := (true, [([], []), ([], []), ([], []), ([1, 2], [1, 2]), ([3], [3]), ([0, 4], [0, 4]), ([], []), ([6], [6]), ([], []), ([7, 8], [7, 8]), ([9], [9]), ([5, 10], [5, 10]), ([11, 5], [11]), ([12], [12]), ([12], [12]), ([12], [12]), ([12], [12]), ([15, 16, 12], [12, 15, 16]), ([17, 12], [12, 17]), ([14, 18, 12, 12], [12, 14, 18]), ([13, 19, 19, 12], [12, 13, 19]), ([20, 12], [12, 20]), ([12, 21], [12, 21])])
def ebbtideref08_sought.B10 : List Nat := [0, 0, 0, 6, 14, 31, 0, 64, 0, 448, 960, 2047, 4095, 8191, 8191, 8191, 8191, 106495, 237567, 516095, 1048575, 2097151, 4194303]
theorem ebbtideref08_sought.tab10 : rtab .any (opsOf Try.f146 10) = ebbtideref08_sought.T10 := by kernel_rfl
theorem ebbtideref08_sought.bits10 : waitsOk ebbtideref08_sought.T10.2 ebbtideref08_sought.B10 = true := by kernel_rfl
def ebbtideref08_sought.T11 : Bool × List (List Nat × List Nat) := (true, [([], []), ([0], [0]), ([], []), ([], []), ([], []), ([3, 4], [3, 4]), ([5], [5]), ([2, 6], [2, 6]), ([7], [7]), ([1, 8, 7], [1, 8]), ([0, 1, 2, 3, 4, 5, 6, 7, 8, 9], []), ([10, 9, 9, 0, 1, 2, 3, 4, 5, 6, 7, 8, 9], [9, 10])])
def ebbtideref08_sought.B11 : List Nat := [0, 1, 0, 0, 0, 24, 56, 124, 252, 511, 1023, 2047]
theorem ebbtideref08_sought.tab11 : rtab .any (opsOf Try.f146 11) = ebbtideref08_sought.T11 := by kernel_rfl
theorem ebbtideref08_sought.bits11 : waitsOk ebbtideref08_sought.T11.2 ebbtideref08_sought.B11 = true := by kernel_rfl
def ebbtideref08_sought.T12 : Bool × List (List Nat × List Nat) := (true, [([], []), ([0], [0]), ([], []), ([], []), ([2, 3], [2, 3]), ([4], [4]), ([5], [5]), ([1, 6], [1, 6]), ([0, 1, 2, 3, 4, 5, 6, 7], []), ([8, 7, 7, 0, 1, 2, 3, 4, 5, 6, 7], [7, 8])])
def ebbtideref08_sought.B12 : List Nat := [0, 1, 0, 0, 12, 28, 60, 127, 255, 511]
theorem ebbtideref08_sought.tab12 : rtab .any (opsOf Try.f146 12) = ebbtideref08_sought.T12 := by kernel_rfl
theorem ebbtideref08_sought.bits12 : waitsOk ebbtideref08_sought.T12.2 ebbtideref08_sought.B12 = true := by kernel_rfl
set_option maxHeartbeats 8000000 in
set_option maxRecDepth 100000 in
theorem ebbtideref08_sought.calls (k : Nat) (a0_0 : Int) (a0_1 : Bool) (A0_2 : Option Addr) (c0_2 : Nat) (l0_2 : List (S74)) (a1 : Int) (A2 : Option Addr) (c2 : Nat) (l2 : List (S38)) (r1 : List Int) (r2 : List (S38)) (w : World) (hr0_2 : Kd.C k74 w A0_2 l0_2.length l0_2) (hc0_2 : l0_2.length ≤ c0_2) (hr2 : Kd.C k38 w A2 l2.length l2) (hc2 : l2.length ≤ c2) (h : ebbtideref08_sought.f k a0_0 a0_1 l0_2 a1 l2 = some (r1, r2)) :
  Calls Try.prog 146 #[.agg #[.int .i64 a0_0, .bool a0_1, .slice A0_2 l0_2.length c0_2], .int .i64 a1, .slice A2 l2.length c2] w fun e w' => ∃ v0_ v1_ : Value, e = .returned (.agg #[v0_, v1_]) ∧ Kd.R (Kd.int .i64) 3 w' w.heap.size (fun _ => True) v0_ r1 ∧ Kd.R k38 38 w' w.heap.size (fun _ => True) v1_ r2 ∧ Below w.heap.size w w' := by
 have hu24 := Try.underlying24
 have hu161 := Try.underlying161
 have hu38 := Try.underlying38
 have HR0_2 := Aside0.mk hr0_2
 have HC0_2 := Aside0.mk hc0_2
 clear hr0_2 hc0_2
 have HR2 := Aside0.mk hr2
 have HC2 := Aside0.mk hc2
 clear hr2 hc2
 have HB := Aside0.mk (Below.refl w.heap.size w)
 have H : (if ([] : List Int).length < 17592186044416 then (if ([] : List (S38)).length < 8796093022208 then (ebbtideref08_sought.l0 k l2 0 a0_0 a0_1 l0_2 (([] : List Int) ++ [a1]) (([] : List (S38)) ++ [(⟨0, false⟩ : S38)])) else (none)) else (none)) = some (r1, r2) := h
 clear h
 by_cases c4 : ([] : List Int).length < 17592186044416
 rotate_left
 ·rw [if_neg c4] at H
  exact absurd H (by simp)
 rw [if_pos c4] at H
 have LMc4 := Aside0.mk c4
 clear c4
 obtain ⟨y452, hy452⟩ : ∃ y_ : List Int, y_ = (([] : List Int) ++ [a1]) := ⟨_, rfl⟩
 replace H : (if ([] : List (S38)).length < 8796093022208 then (ebbtideref08_sought.l0 k l2 0 a0_0 a0_1 l0_2 y452 (([] : List (S38)) ++ [(⟨0, false⟩ : S38)])) else (none)) = some (r1, r2) := by first | (rw [hy452]; with_reducible exact H) | (have H2_ := (Option.bind_some _ _).symm.trans H; rw [hy452]; with_reducible exact H2_) | (have H2_ := (Option.bind_some _ _).symm.trans H; with_reducible exact H2_) | with_reducible exact H | (rw [hy452]; exact H) | exact H
 have Ny452 := Aside0.mk hy452
 clear hy452
 by_cases c5 : ([] : List (S38)).length < 8796093022208
 rotate_left
 ·rw [if_neg c5] at H
  exact absurd H (by simp)
 rw [if_pos c5] at H
 have LMc5 := Aside0.mk c5
 clear c5
 obtain ⟨y455, hy455⟩ : ∃ y_ : List (S38), y_ = (([] : List (S38)) ++ [(⟨0, false⟩ : S38)]) := ⟨_, rfl⟩
 replace H : (ebbtideref08_sought.l0 k l2 0 a0_0 a0_1 l0_2 y452 y455) = some (r1, r2) := by first | (rw [hy455]; with_reducible exact H) | (have H2_ := (Option.bind_some _ _).symm.trans H; rw [hy455]; with_reducible exact H2_) | (have H2_ := (Option.bind_some _ _).symm.trans H; with_reducible exact H2_) | with_reducible exact H | (rw [hy455]; exact H) | exact H
 have Ny455 := Aside0.mk hy455
 clear hy455
 have H' := Aside0.mk H
 clear H
 go_enter Try.func146, Try.ntmps146
 go_wp2_with (first | ((with_reducible refine gate_dst (N := 3) rfl ?_); refine box_event ?hg (N := 3) ?hd (cs := #[.int .i64 a0_0, .bool a0_1, .slice A0_2 l0_2.length c0_2]) (t := 24) ?hr ?_; (case hd => rfl); (case hg => rfl); (case hr => first | (go_simp; done) | (go_simp; rfl)); intro gb449 hg w6 hbox hb; have n0_ := Aside0.mk (below_step (by repeat (first | (with_reducible first | exact HB.out | apply below_alloc | apply pw_below_drewN | apply below_drew1) | exact HB.out)) hb); have n1_ := Aside0.mk (hbox); have n2_ := Aside0.mk ((by rw [hg]; exact (below_size (by repeat (first | (with_reducible first | exact HB.out | apply below_alloc | apply pw_below_drewN | apply below_drew1) | exact HB.out))) : w.heap.size ≤ gb449)); have n3_ := Aside0.mk ((by rw [hg]; exact (below_size (by repeat (first | (with_reducible first | exact HB.out | apply below_alloc | apply pw_below_drewN | apply below_drew1) | exact HB.out))) : w.heap.size ≤ gb449)); clear HB; have HB := n0_; have BK449 := n1_; have GW449 := n2_; have GE449 := n3_; clear n0_ n1_ n2_ n3_; clear hb hbox hg) | ((with_reducible refine gate_dst (N := 6) rfl ?_); refine box_event ?hg (N := 6) ?hd (cs := #[.slice none 0 0, .slice none 0 0]) (t := 161) ?hr ?_; (case hd => rfl); (case hg => rfl); (case hr => first | (go_simp; done) | (go_simp; rfl)); intro gb450 hg w7 hbox hb; have n0_ := Aside0.mk (blk_below (g := gb449) (o := .cells #[.int .i64 a0_0, .bool a0_1, .slice A0_2 l0_2.length c0_2] 24 (0, 0)) (by (with_reducible repeat (first | refine blk_drewN ?_ _ | refine blk_drew ?_ | refine blk_alloc ?_ _)); exact BK449.out) hb); have n1_ := Aside0.mk (below_step (by repeat (first | (with_reducible first | exact HB.out | apply below_alloc | apply pw_below_drewN | apply below_drew1 | refine below_set ?_ GE449.out) | exact HB.out)) hb); have n2_ := Aside0.mk (hbox); have n3_ := Aside0.mk ((by rw [hg]; exact (below_size (by repeat (first | (with_reducible first | exact HB.out | apply below_alloc | apply pw_below_drewN | apply below_drew1 | refine below_set ?_ GE449.out) | exact HB.out))) : w.heap.size ≤ gb450)); have n4_ := Aside0.mk ((by rw [hg]; exact (below_size (by repeat (first | (with_reducible first | exact HB.out | apply below_alloc | apply pw_below_drewN | apply below_drew1 | refine below_set ?_ GE449.out) | exact HB.out))) : w.heap.size ≤ gb450)); have n5_ := Aside0.mk ((by rw [hg]; exact Nat.ne_of_lt (blk_lt (g := gb449) (o := .cells #[.int .i64 a0_0, .bool a0_1, .slice A0_2 l0_2.length c0_2] 24 (0, 0)) (by (with_reducible repeat (first | refine blk_drewN ?_ _ | refine blk_drew ?_ | refine blk_alloc ?_ _)); exact BK449.out)) : gb449 ≠ gb450)); have n6_ := Aside0.mk ((by rw [hg]; exact Nat.ne_of_gt (blk_lt (g := gb449) (o := .cells #[.int .i64 a0_0, .bool a0_1, .slice A0_2 l0_2.length c0_2] 24 (0, 0)) (by (with_reducible repeat (first | refine blk_drewN ?_ _ | refine blk_drew ?_ | refine blk_alloc ?_ _)); exact BK449.out)) : gb450 ≠ gb449)); clear BK449; clear HB; have BK449 := n0_; have HB := n1_; have BK450 := n2_; have GW450 := n3_; have GE450 := n4_; have NB449_450 := n5_; have NB450_449 := n6_; clear n0_ n1_ n2_ n3_ n4_ n5_ n6_; clear hb hbox hg) | ((with_reducible refine gate_dst (N := 7) rfl ?_); refine box_event ?hg (N := 7) ?hd (cs := #[.slice none 0 0, .slice none 0 0]) (t := 161) ?hr ?_; (case hd => rfl); (case hg => rfl); (case hr => first | (go_simp; done) | (go_simp; rfl)); intro gb451 hg w8 hbox hb; have n0_ := Aside0.mk (blk_below (g := gb449) (o := .cells #[.int .i64 a0_0, .bool a0_1, .slice A0_2 l0_2.length c0_2] 24 (0, 0)) (by (with_reducible repeat (first | refine blk_drewN ?_ _ | refine blk_drew ?_ | refine blk_alloc ?_ _)); exact BK449.out) hb); have n1_ := Aside0.mk (blk_below (g := gb450) (o := .cells #[.slice none 0 0, .slice none 0 0] 161 (0, 0)) (by (with_reducible repeat (first | refine blk_drewN ?_ _ | refine blk_drew ?_ | refine blk_alloc ?_ _)); exact BK450.out) hb); have n2_ := Aside0.mk (below_step (by repeat (first | (with_reducible first | exact HB.out | apply below_alloc | apply pw_below_drewN | apply below_drew1 | refine below_set ?_ GE449.out | refine below_set ?_ GE450.out) | exact HB.out)) hb); have n3_ := Aside0.mk (hbox); have n4_ := Aside0.mk ((by rw [hg]; exact (below_size (by repeat (first | (with_reducible first | exact HB.out | apply below_alloc | apply pw_below_drewN | apply below_drew1 | refine below_set ?_ GE449.out | refine below_set ?_ GE450.out) | exact HB.out))) : w.heap.size ≤ gb451)); have n5_ := Aside0.mk ((by rw [hg]; exact (below_size (by repeat (first | (with_reducible first | exact HB.out | apply below_alloc | apply pw_below_drewN | apply below_drew1 | refine below_set ?_ GE449.out | refine below_set ?_ GE450.out) | exact HB.out))) : w.heap.size ≤ gb451)); have n6_ := Aside0.mk ((by rw [hg]; exact Nat.ne_of_lt (blk_lt (g := gb449) (o := .cells #[.int .i64 a0_0, .bool a0_1, .slice A0_2 l0_2.length c0_2] 24 (0, 0)) (by (with_reducible repeat (first | refine blk_drewN ?_ _ | refine blk_drew ?_ | refine blk_alloc ?_ _)); exact BK449.out)) : gb449 ≠ gb451)); have n7_ := Aside0.mk ((by rw [hg]; exact Nat.ne_of_gt (blk_lt (g := gb449) (o := .cells #[.int .i64 a0_0, .bool a0_1, .slice A0_2 l0_2.length c0_2] 24 (0, 0)) (by (with_reducible repeat (first | refine blk_drewN ?_ _ | refine blk_drew ?_ | refine blk_alloc ?_ _)); exact BK449.out)) : gb451 ≠ gb449)); have n8_ := Aside0.mk ((by rw [hg]; exact Nat.ne_of_lt (blk_lt (g := gb450) (o := .cells #[.slice none 0 0, .slice none 0 0] 161 (0, 0)) (by (with_reducible repeat (first | refine blk_drewN ?_ _ | refine blk_drew ?_ | refine blk_alloc ?_ _)); exact BK450.out)) : gb450 ≠ gb451)); have n9_ := Aside0.mk ((by rw [hg]; exact Nat.ne_of_gt (blk_lt (g := gb450) (o := .cells #[.slice none 0 0, .slice none 0 0] 161 (0, 0)) (by (with_reducible repeat (first | refine blk_drewN ?_ _ | refine blk_drew ?_ | refine blk_alloc ?_ _)); exact BK450.out)) : gb451 ≠ gb450)); clear BK449; clear BK450; clear HB; have BK449 := n0_; have BK450 := n1_; have HB := n2_; have BK451 := n3_; have GW451 := n4_; have GE451 := n5_; have NB449_451 := n6_; have NB451_449 := n7_; have NB450_451 := n8_; have NB451_450 := n9_; clear n0_ n1_ n2_ n3_ n4_ n5_ n6_ n7_ n8_ n9_; clear hb hbox hg; have hnb9 := NB451_449.out; have hnc9 := NB449_451.out; have hnb10 := NB451_450.out; have hnc10 := NB450_451.out; have hcz11_0 : w8.cell? ⟨gb451, 0, none⟩ = some (.slice none 0 0) := (blk_cell BK451.out 0).trans rfl; have hcz11_1 : w8.cell? ⟨gb451, 1, none⟩ = some (.slice none 0 0) := (blk_cell BK451.out 1).trans rfl; have hfz11_0 := blk_frozen BK451.out 0; have hfz11_1 := blk_frozen BK451.out 1) | ((with_reducible refine gate_builtin (b := .append) (xs := #[.tmp 11, .tmp 13]) rfl ?_); at_builtin; refine Kd.R_append (Kd.int .i64) (w0 := w) w.heap.size rfl (.tmp 11) (.tmp 13) 25 3 (.int .i64 0) 8 rfl Try.underlying25 info3 rfl (by decide) (by omega) (.slice none 0 0) ([] : List Int) a1 [.int .i64 a1] (fun _ => True) (fun _ => False) rfl rfl ?aP (fun _ hk => hk.elim) ?aF ?aO ?aB ?aS ?aL ?_; (case aP => exact rfl); (case aB => exact (by repeat (first | (with_reducible first | exact HB.out | apply below_alloc | apply pw_below_drewN | apply below_drew1 | refine below_set ?_ GE449.out | refine below_set ?_ GE450.out | refine below_set ?_ GE451.out) | exact HB.out))); (case aF => exact (fun _ _ => trivial)); (case aO => exact ((Kd.R_nil _ _ _ _ (fun _ => True)))); (case aS => exact (below_size (by repeat (first | (with_reducible first | exact HB.out | apply below_alloc | apply pw_below_drewN | apply below_drew1 | refine below_set ?_ GE449.out | refine below_set ?_ GE450.out | refine below_set ?_ GE451.out) | exact HB.out)))); (case aL => have := LMc4.out; omega); intro v453 w12 ho hb hg hat; rw [← Ny452.out] at ho; have n0_ := Aside0.mk (blk_grown (g := gb449) (o := .cells #[.int .i64 a0_0, .bool a0_1, .slice A0_2 l0_2.length c0_2] 24 (0, 0)) (by (with_reducible repeat (first | refine blk_drewN ?_ _ | refine blk_drew ?_ | refine blk_alloc ?_ _)); exact BK449.out) hg (by simp [Value.ownBlock])); have n1_ := Aside0.mk (blk_grown (g := gb450) (o := .cells #[.slice none 0 0, .slice none 0 0] 161 (0, 0)) (by (with_reducible repeat (first | refine blk_drewN ?_ _ | refine blk_drew ?_ | refine blk_alloc ?_ _)); exact BK450.out) hg (by simp [Value.ownBlock])); have n2_ := Aside0.mk (blk_grown (g := gb451) (o := .cells #[.slice none 0 0, .slice none 0 0] 161 (0, 0)) (by (with_reducible repeat (first | refine blk_drewN ?_ _ | refine blk_drew ?_ | refine blk_alloc ?_ _)); exact BK451.out) hg (by simp [Value.ownBlock])); have n3_ := Aside0.mk (hb); have n4_ := Aside0.mk (ho); clear BK449; clear BK450; clear BK451; clear HB; have BK449 := n0_; have BK450 := n1_; have BK451 := n2_; have HB := n3_; have HO454 := n4_; clear n0_ n1_ n2_ n3_ n4_; clear ho hb hg hat; obtain ⟨Ao13, co13, eo13⟩ := Kd.R_slice HO454.out; subst eo13; have hcz14_0 : w12.cell? ⟨gb451, 0, none⟩ = some (.slice none 0 0) := (blk_cell BK451.out 0).trans rfl; have hcz14_1 : w12.cell? ⟨gb451, 1, none⟩ = some (.slice none 0 0) := (blk_cell BK451.out 1).trans rfl; have hfz14_0 := blk_frozen BK451.out 0; have hfz14_1 := blk_frozen BK451.out 1) | ((with_reducible refine gate_builtin (b := .append) (xs := #[.tmp 17, .tmp 19]) rfl ?_); at_builtin; refine Kd.R_append k38 (w0 := w) w.heap.size rfl (.tmp 17) (.tmp 19) 34 38 (.agg #[(.int .i64 0), (.bool false)]) 16 rfl Try.underlying34 info38 rfl (by decide) (by omega) (.slice none 0 0) ([] : List (S38)) (⟨0, false⟩ : S38) [.int .i64 0, .bool false] (fun _ => True) (fun _ => False) rfl (by first | (go_simp; done) | (go_simp; rfl)) ?aP (fun _ hk => hk.elim) ?aF ?aO ?aB ?aS ?aL ?_; (case aP => exact k38_mkM _ _ _ (⟨0, false⟩ : S38)); (case aB => exact (by repeat (first | (with_reducible first | exact HB.out | apply below_alloc | apply pw_below_drewN | apply below_drew1 | refine below_set ?_ GE449.out | refine below_set ?_ GE450.out | refine below_set ?_ GE451.out) | exact HB.out))); (case aF => exact (fun _ _ => trivial)); (case aO => exact ((Kd.R_nil _ _ _ _ (fun _ => True)))); (case aS => exact (below_size (by repeat (first | (with_reducible first | exact HB.out | apply below_alloc | apply pw_below_drewN | apply below_drew1 | refine below_set ?_ GE449.out | refine below_set ?_ GE450.out | refine below_set ?_ GE451.out) | exact HB.out)))); (case aL => have := LMc5.out; omega); intro v456 w15 ho hb hg hat; rw [← Ny455.out] at ho; have n0_ := Aside0.mk (blk_grown (g := gb449) (o := .cells #[.int .i64 a0_0, .bool a0_1, .slice A0_2 l0_2.length c0_2] 24 (0, 0)) (by (with_reducible repeat (first | refine blk_drewN ?_ _ | refine blk_drew ?_ | refine blk_alloc ?_ _)); refine blk_far ?_ NB449_451.out _; (with_reducible repeat (first | refine blk_drewN ?_ _ | refine blk_drew ?_ | refine blk_alloc ?_ _)); exact BK449.out) hg (by simp [Value.ownBlock])); have n1_ := Aside0.mk (blk_grown (g := gb450) (o := .cells #[.slice none 0 0, .slice none 0 0] 161 (0, 0)) (by (with_reducible repeat (first | refine blk_drewN ?_ _ | refine blk_drew ?_ | refine blk_alloc ?_ _)); refine blk_far ?_ NB450_451.out _; (with_reducible repeat (first | refine blk_drewN ?_ _ | refine blk_drew ?_ | refine blk_alloc ?_ _)); exact BK450.out) hg (by simp [Value.ownBlock])); have n2_ := Aside0.mk (blk_grown (g := gb451) (o := .cells #[.slice Ao13 y452.length co13, .slice none 0 0] 161 (0, 0)) (by (with_reducible repeat (first | refine blk_drewN ?_ _ | refine blk_drew ?_ | refine blk_alloc ?_ _)); refine blk_put (cs := #[.slice none 0 0, .slice none 0 0]) ?_ 0 _ rfl; (with_reducible repeat (first | refine blk_drewN ?_ _ | refine blk_drew ?_ | refine blk_alloc ?_ _)); exact BK451.out) hg (by simp [Value.ownBlock])); have n3_ := Aside0.mk (Kd.R_grown (by (with_reducible repeat (first | apply Kd.R_alloc | apply Kd.R_drewN | apply Kd.R_drew)); exact (Kd.R_mono (Kd.R_far (p := ⟨gb451, 0, none⟩) (Kd.R_types HO454.out BK451.out (by decide)) (fun _ hk => hk.2) (.slice Ao13 y452.length co13)) (fun _ h_ => h_.1))) hg (fun _ _ => by simp [Value.ownBlock])); have n4_ := Aside0.mk (hb); have n5_ := Aside0.mk (ho); clear BK449; clear BK450; clear BK451; clear HO454; clear HB; have BK449 := n0_; have BK450 := n1_; have BK451 := n2_; have HO454 := n3_; have HB := n4_; have HO457 := n5_; clear n0_ n1_ n2_ n3_ n4_ n5_; clear ho hb hg hat; obtain ⟨Ao16, co16, eo16⟩ := Kd.R_slice HO457.out; subst eo16; have hcz17_0 : w15.cell? ⟨gb451, 0, none⟩ = some (.slice Ao13 y452.length co13) := (blk_cell BK451.out 0).trans rfl; have hcz17_1 : w15.cell? ⟨gb451, 1, none⟩ = some (.slice none 0 0) := (blk_cell BK451.out 1).trans rfl; have hfz17_0 := blk_frozen BK451.out 0; have hfz17_1 := blk_frozen BK451.out 1))
 go_loopg [8] k (fun kq v8 w' => ∃ (x8_1 : Int) (x452000_1 : List Int) (x452001_1 : List (S38)) (u452000 : Value) (u452001 : Value), v8 = .int .i64 x8_1 ∧ Aside0 (ebbtideref08_sought.l0 kq l2 x8_1 a0_0 a0_1 l0_2 x452000_1 x452001_1 = some (r1, r2)) ∧ Aside0 (kq ≤ k) ∧ Aside0 (Kd.R (Kd.int .i64) 3 w' w.heap.size (fun _ => True) u452000 x452000_1) ∧ Aside0 (Kd.R k38 38 w' w.heap.size (fun _ => True) u452001 x452001_1) ∧ Aside0 (w'.heap[gb449]? = some (.cells #[.int .i64 a0_0, .bool a0_1, (.slice A0_2 l0_2.length c0_2)] 24 (0, 0))) ∧ Aside0 (w'.heap[gb450]? = some (.cells #[(.slice none 0 0), (.slice none 0 0)] 161 (0, 0))) ∧ Aside0 (w'.heap[gb451]? = some (.cells #[u452000, u452001] 161 (0, 0))) ∧ Aside0 (Below w.heap.size w w'))
 case atStart => exact ⟨(0), (y452), (y455), (.slice Ao13 y452.length co13), (.slice Ao16 y455.length co16), (by first | rfl | (simp; done) | (simp [*]; done)), H', ⟨Nat.le_refl _⟩, ⟨by (with_reducible repeat (first | apply Kd.R_alloc | apply Kd.R_drewN | apply Kd.R_drew)); exact Kd.R_mono (Kd.R_far (p := ⟨gb451, 1, none⟩) (Kd.R_types HO454.out BK451.out (by decide)) (fun _ hk => hk.2) (.slice Ao16 y455.length co16)) (fun _ hk => trivial)⟩, ⟨by (with_reducible repeat (first | apply Kd.R_alloc | apply Kd.R_drewN | apply Kd.R_drew)); exact Kd.R_mono (Kd.R_far (p := ⟨gb451, 1, none⟩) (Kd.R_types HO457.out BK451.out (by decide)) (fun _ hk => hk.2) (.slice Ao16 y455.length co16)) (fun _ hk => trivial)⟩, ⟨by (with_reducible repeat (first | refine blk_drewN ?_ _ | refine blk_drew ?_ | refine blk_alloc ?_ _)); refine blk_far ?_ NB449_451.out _; (with_reducible repeat (first | refine blk_drewN ?_ _ | refine blk_drew ?_ | refine blk_alloc ?_ _)); exact BK449.out⟩, ⟨by (with_reducible repeat (first | refine blk_drewN ?_ _ | refine blk_drew ?_ | refine blk_alloc ?_ _)); refine blk_far ?_ NB450_451.out _; (with_reducible repeat (first | refine blk_drewN ?_ _ | refine blk_drew ?_ | refine blk_alloc ?_ _)); exact BK450.out⟩, ⟨by (with_reducible repeat (first | refine blk_drewN ?_ _ | refine blk_drew ?_ | refine blk_alloc ?_ _)); refine blk_put (cs := #[.slice Ao13 y452.length co13, .slice none 0 0]) ?_ 1 _ rfl; (with_reducible repeat (first | refine blk_drewN ?_ _ | refine blk_drew ?_ | refine blk_alloc ?_ _)); exact BK451.out⟩, ⟨by repeat (first | (with_reducible first | exact HB.out | apply below_alloc | apply pw_below_drewN | apply below_drew1 | refine below_set ?_ GE449.out | refine below_set ?_ GE450.out | refine below_set ?_ GE451.out) | exact HB.out)⟩⟩
 case round =>
  clear H'
  try clear c1
  try clear c2
  try clear p2
  try clear c4
  try clear c5
  try clear c9
  try clear c10
  try clear c14
  try clear hcz11_0
  try clear hcz11_1
  try clear hcz14_0
  try clear hcz14_1
  try clear hcz17_0
  try clear hcz17_1
  try clear hfz11_0
  try clear hfz11_1
  try clear hfz14_0
  try clear hfz14_1
  try clear hfz17_0
  try clear hfz17_1
  obtain ⟨x8_1, x452000_1, x452001_1, u452000, u452001, rfl, HA, HK1, HO_452000, HO_452001, BK449, BK450, BK451, HB⟩ := hrel
  cases gk with
  | zero => exact absurd HA.out (by simp [ebbtideref08_sought.l0])
  | succ k1 =>
   have H := HA.out
   clear HA
   simp only [ebbtideref08_sought.l0] at H
   by_cases c18 : x8_1 < (x452000_1.length : Int)
   rotate_left
   ·rw [if_neg c18] at H
    have c18b0 : decide (x8_1 < (x452000_1.length : Int)) = false := decide_eq_false c18
    clear c18
    simp only [Option.some.injEq, Prod.mk.injEq] at H
    obtain ⟨rfl, rfl⟩ := H
    have hnb60 := NB451_449.out
    have hnc60 := NB449_451.out
    have hnb61 := NB451_450.out
    have hnc61 := NB450_451.out
    have hcz62_0 : wr.cell? ⟨gb451, 0, none⟩ = some (u452000) := (blk_cell BK451.out 0).trans rfl
    have hcz62_1 : wr.cell? ⟨gb451, 1, none⟩ = some (u452001) := (blk_cell BK451.out 1).trans rfl
    have hfz62_0 := blk_frozen BK451.out 0
    have hfz62_1 := blk_frozen BK451.out 1
    obtain ⟨Ao63, co63, eo63⟩ := Kd.R_slice HO_452000.out
    subst eo63
    have hnb64 := NB450_449.out
    have hnc64 := NB449_450.out
    have hcz65_0 : wr.cell? ⟨gb450, 0, none⟩ = some (.slice none 0 0) := (blk_cell BK450.out 0).trans rfl
    have hcz65_1 : wr.cell? ⟨gb450, 1, none⟩ = some (.slice none 0 0) := (blk_cell BK450.out 1).trans rfl
    have hfz65_0 := blk_frozen BK450.out 0
    have hfz65_1 := blk_frozen BK450.out 1
    obtain ⟨Ao66, co66, eo66⟩ := Kd.R_slice HO_452001.out
    subst eo66
    go_wp2
    refine bodyPost_ret (results_cell_row rfl _ _ gb450 161 #[.slice Ao63 x452000_1.length co63, .slice Ao66 x452001_1.length co66] (0, 0) _ rfl (by (with_reducible repeat (first | refine blk_drewN ?_ _ | refine blk_drew ?_ | refine blk_alloc ?_ _)); refine blk_put (cs := #[.slice Ao63 x452000_1.length co63, .slice none 0 0]) ?_ 1 _ rfl; (with_reducible repeat (first | refine blk_drewN ?_ _ | refine blk_drew ?_ | refine blk_alloc ?_ _)); refine blk_put (cs := #[.slice none 0 0, .slice none 0 0]) ?_ 0 _ rfl; (with_reducible repeat (first | refine blk_drewN ?_ _ | refine blk_drew ?_ | refine blk_alloc ?_ _)); exact BK450.out) Try.underlying161 rfl (by kernel_rfl)) rfl ?_
    exact ⟨_, _, by first | rfl | (simp [errW_none, errW_some] <;> rfl) | (simp [*, errW_none, errW_some] <;> rfl), by (with_reducible repeat (first | apply Kd.R_alloc | apply Kd.R_drewN | apply Kd.R_drew)); exact Kd.R_mono (Kd.R_far (p := ⟨gb450, 1, none⟩) (Kd.R_far (p := ⟨gb450, 0, none⟩) (Kd.R_types HO_452000.out BK450.out (by decide)) (fun _ hk => hk.2) (.slice Ao63 x452000_1.length co63)) (fun _ hk => hk.2) (.slice Ao66 x452001_1.length co66)) (fun _ hk => trivial), by (with_reducible repeat (first | apply Kd.R_alloc | apply Kd.R_drewN | apply Kd.R_drew)); exact Kd.R_mono (Kd.R_far (p := ⟨gb450, 1, none⟩) (Kd.R_far (p := ⟨gb450, 0, none⟩) (Kd.R_types HO_452001.out BK450.out (by decide)) (fun _ hk => hk.2) (.slice Ao63 x452000_1.length co63)) (fun _ hk => hk.2) (.slice Ao66 x452001_1.length co66)) (fun _ hk => trivial), by repeat (first | (with_reducible first | exact HB.out | apply below_alloc | apply pw_below_drewN | apply below_drew1 | refine below_set ?_ GE449.out | refine below_set ?_ GE450.out | refine below_set ?_ GE451.out) | exact HB.out)⟩
   rw [if_pos c18] at H
   have c18b0 : decide (x8_1 < (x452000_1.length : Int)) = true := decide_eq_true c18
   clear c18
   have H' := Aside0.mk H
   clear H
   have hnb19 := NB451_449.out
   have hnc19 := NB449_451.out
   have hnb20 := NB451_450.out
   have hnc20 := NB450_451.out
   have hcz21_0 : wr.cell? ⟨gb451, 0, none⟩ = some (u452000) := (blk_cell BK451.out 0).trans rfl
   have hcz21_1 : wr.cell? ⟨gb451, 1, none⟩ = some (u452001) := (blk_cell BK451.out 1).trans rfl
   have hfz21_0 := blk_frozen BK451.out 0
   have hfz21_1 := blk_frozen BK451.out 1
   obtain ⟨Ao22, co22, eo22⟩ := Kd.R_slice HO_452000.out
   subst eo22
   go_wp2
   go_loopg [9] k1 (fun kq v9 w' => ∃ (x9_2 : Int) (x452000_2 : List Int) (x452001_2 : List (S38)) (u452000 : Value) (u452001 : Value), v9 = .int .i64 x9_2 ∧ Aside0 (ebbtideref08_sought.l1 kq l2 x8_1 x9_2 a0_0 a0_1 l0_2 x452000_2 x452001_2 = some (r1, r2)) ∧ Aside0 (kq ≤ k1) ∧ Aside0 (Kd.R (Kd.int .i64) 3 w' w.heap.size (fun _ => True) u452000 x452000_2) ∧ Aside0 (Kd.R k38 38 w' w.heap.size (fun _ => True) u452001 x452001_2) ∧ Aside0 (w'.heap[gb449]? = some (.cells #[.int .i64 a0_0, .bool a0_1, (.slice A0_2 l0_2.length c0_2)] 24 (0, 0))) ∧ Aside0 (w'.heap[gb450]? = some (.cells #[(.slice none 0 0), (.slice none 0 0)] 161 (0, 0))) ∧ Aside0 (w'.heap[gb451]? = some (.cells #[u452000, u452001] 161 (0, 0))) ∧ Aside0 (Below w.heap.size w w'))
   case atStart => exact ⟨(0), (x452000_1), (x452001_1), (.slice Ao22 x452000_1.length co22), (u452001), (by first | rfl | (simp; done) | (simp [*]; done)), H', ⟨Nat.le_refl _⟩, ⟨by (with_reducible repeat (first | apply Kd.R_alloc | apply Kd.R_drewN | apply Kd.R_drew)); exact HO_452000.out⟩, ⟨by (with_reducible repeat (first | apply Kd.R_alloc | apply Kd.R_drewN | apply Kd.R_drew)); exact HO_452001.out⟩, ⟨by (with_reducible repeat (first | refine blk_drewN ?_ _ | refine blk_drew ?_ | refine blk_alloc ?_ _)); exact BK449.out⟩, ⟨by (with_reducible repeat (first | refine blk_drewN ?_ _ | refine blk_drew ?_ | refine blk_alloc ?_ _)); exact BK450.out⟩, ⟨by (with_reducible repeat (first | refine blk_drewN ?_ _ | refine blk_drew ?_ | refine blk_alloc ?_ _)); exact BK451.out⟩, ⟨by repeat (first | (with_reducible first | exact HB.out | apply below_alloc | apply pw_below_drewN | apply below_drew1 | refine below_set ?_ GE449.out | refine below_set ?_ GE450.out | refine below_set ?_ GE451.out) | exact HB.out)⟩⟩
   case round =>
    clear H'
    try clear c1
    try clear c2
    try clear p2
    try clear c4
    try clear c5
    try clear c9
    try clear c10
    try clear c14
    try clear c18
    try clear c18b0
    try clear c19
    try clear c20
    try clear hcz11_0
    try clear hcz11_1
    try clear hcz14_0
    try clear hcz14_1
    try clear hcz17_0
    try clear hcz17_1
    try clear hcz21_0
    try clear hcz21_1
    try clear hfz11_0
    try clear hfz11_1
    try clear hfz14_0
    try clear hfz14_1
    try clear hfz17_0
    try clear hfz17_1
    try clear hfz21_0
    try clear hfz21_1
    try clear p2
    obtain ⟨x9_2, x452000_2, x452001_2, u452000, u452001, rfl, HA, HK2, HO_452000, HO_452001, BK449, BK450, BK451, HB⟩ := hrel
    cases gk with
    | zero => exact absurd HA.out (by simp [ebbtideref08_sought.l1])
    | succ k2 =>
     have H := HA.out
     clear HA
     simp only [ebbtideref08_sought.l1] at H
     by_cases c23 : x9_2 < (l2.length : Int)
     rotate_left
     ·rw [if_neg c23] at H
      have c23b0 : decide (x9_2 < (l2.length : Int)) = false := decide_eq_false c23
      clear c23
      have H' := Aside0.mk H
      clear H
      go_wp2
      go_roundg k2
      case measure => have := HK1.out; have := HK2.out; omega
      case rel => exact ⟨(wrap64 (x8_1 + 1)), (x452000_2), (x452001_2), (u452000), (u452001), (by first | rfl | (simp; done) | (simp [*]; done)), H', ⟨by have := HK1.out; have := HK2.out; omega⟩, ⟨by (with_reducible repeat (first | apply Kd.R_alloc | apply Kd.R_drewN | apply Kd.R_drew)); exact HO_452000.out⟩, ⟨by (with_reducible repeat (first | apply Kd.R_alloc | apply Kd.R_drewN | apply Kd.R_drew)); exact HO_452001.out⟩, ⟨by (with_reducible repeat (first | refine blk_drewN ?_ _ | refine blk_drew ?_ | refine blk_alloc ?_ _)); exact BK449.out⟩, ⟨by (with_reducible repeat (first | refine blk_drewN ?_ _ | refine blk_drew ?_ | refine blk_alloc ?_ _)); exact BK450.out⟩, ⟨by (with_reducible repeat (first | refine blk_drewN ?_ _ | refine blk_drew ?_ | refine blk_alloc ?_ _)); exact BK451.out⟩, ⟨by repeat (first | (with_reducible first | exact HB.out | apply below_alloc | apply pw_below_drewN | apply below_drew1 | refine below_set ?_ GE449.out | refine below_set ?_ GE450.out | refine below_set ?_ GE451.out) | exact HB.out)⟩⟩
     rw [if_pos c23] at H
     have c23b0 : decide (x9_2 < (l2.length : Int)) = true := decide_eq_true c23
     clear c23
     by_cases c24 : 0 ≤ x9_2
     rotate_left
     ·rw [if_neg c24] at H
      exact absurd H (by simp)
     rw [if_pos c24] at H
     have c24b0 : decide (0 ≤ x9_2) = true := decide_eq_true c24
     clear c24
     replace H := Option.bind_eq_some_iff.mp H
     obtain ⟨t459, A250, H⟩ := H
     replace H : (if 0 ≤ x8_1 then (if x8_1 < (x452000_2.length : Int) then (if t459 = (rd x452000_2 x8_1) then ((ebbtideref07_To.f a0_0 a0_1 l0_2 ((rd_T38 l2 x9_2).f0) ((rd_T38 l2 x9_2).f1)).bind fun t462 => ((ebbtideref08_found_has.f k2 x452000_2 x452001_2 t462).bind fun t463 => (if t463 < 0 then ((ebbtideref07_To.f a0_0 a0_1 l0_2 ((rd_T38 l2 x9_2).f0) ((rd_T38 l2 x9_2).f1)).bind fun t465 => (if x452000_2.length < 17592186044416 then (if x452001_2.length < 8796093022208 then (ebbtideref08_sought.l1 k2 l2 x8_1 (wrap64 (x9_2 + 1)) a0_0 a0_1 l0_2 (x452000_2 ++ [t465]) (x452001_2 ++ [(⟨(rd_T38 l2 x9_2).f0, (rd_T38 l2 x9_2).f1⟩ : S38)])) else (none)) else (none))) else (ebbtideref08_sought.l1 k2 l2 x8_1 (wrap64 (x9_2 + 1)) a0_0 a0_1 l0_2 x452000_2 x452001_2)))) else (ebbtideref08_sought.l1 k2 l2 x8_1 (wrap64 (x9_2 + 1)) a0_0 a0_1 l0_2 x452000_2 x452001_2)) else (none)) else (none)) = some (r1, r2) := H
     have A25 := Aside0.mk A250
     clear A250
     by_cases c26 : 0 ≤ x8_1
     rotate_left
     ·rw [if_neg c26] at H
      exact absurd H (by simp)
     rw [if_pos c26] at H
     have c26b0 : decide (0 ≤ x8_1) = true := decide_eq_true c26
     clear c26
     by_cases c27 : x8_1 < (x452000_2.length : Int)
     rotate_left
     ·rw [if_neg c27] at H
      exact absurd H (by simp)
     rw [if_pos c27] at H
     have c27b0 : decide (x8_1 < (x452000_2.length : Int)) = true := decide_eq_true c27
     clear c27
     by_cases c28 : t459 = (rd x452000_2 x8_1)
     rotate_left
     ·rw [if_neg c28] at H
      have c28b0 : (t459 == (rd x452000_2 x8_1)) = false := beq_eq_false_iff_ne.mpr c28
      have c28b1 : (t459 != (rd x452000_2 x8_1)) = true := bne_iff_ne.mpr c28
      have H' := Aside0.mk H
      clear H
      try go_wp2
      have n0_ := Aside0.mk (Kd.R_drew HO_452000.out)
      have n1_ := Aside0.mk (Kd.R_drew HO_452001.out)
      have n2_ := Aside0.mk (blk_drew BK449.out)
      have n3_ := Aside0.mk (blk_drew BK450.out)
      have n4_ := Aside0.mk (blk_drew BK451.out)
      have n5_ := Aside0.mk (below_drew1 HB.out)
      clear HO_452000
      clear HO_452001
      clear BK449
      clear BK450
      clear BK451
      clear HB
      have HO_452000 := n0_
      have HO_452001 := n1_
      have BK449 := n2_
      have BK450 := n3_
      have BK451 := n4_
      have HB := n5_
      clear n0_ n1_ n2_ n3_ n4_ n5_
      have p458 : 0 ≤ (x9_2 : Int) := of_decide_eq_true (by first | (with_reducible assumption) | assumption)
      have q458 : x9_2 < (l2.length : Int) := of_decide_eq_true (by first | (with_reducible assumption) | assumption)
      obtain ⟨ad458, e458, hx458_0, hx458_1⟩ := at_T38 HR2.out x9_2 p458 q458
      have hw458_1 := hx458_1
      have hw458_0 := hx458_0
      cases e458
      replace hx458_0 := (HB.out.cell (World.block_lt_of_cell? w _ hx458_0)).trans hx458_0
      replace hx458_1 := (HB.out.cell (World.block_lt_of_cell? w _ hx458_1)).trans hx458_1
      replace p458 := eq_true p458
      replace q458 := eq_true q458
      obtain ⟨Ao58, co58, eo58⟩ := Kd.R_slice HO_452000.out
      (first | subst eo58 | (injection eo58 with f1_ f2_ f3_; have f4_ := f1_.symm; have f5_ := f3_.symm; clear f1_ f2_ f3_; subst f4_; subst f5_))
      have p460 : 0 ≤ (x8_1 : Int) := of_decide_eq_true (by first | (with_reducible assumption) | assumption)
      have q460 : x8_1 < (x452000_2.length : Int) := of_decide_eq_true (by first | (with_reducible assumption) | assumption)
      obtain ⟨ad460, e460, hx460_0⟩ := Kd.at_int (Kd.R_reads' HO_452000.out).2.2 x8_1 p460 q460
      cases e460
      replace p460 := eq_true p460
      replace q460 := eq_true q460
      refine start_ (n := 23) (S := fun w' => w'.cell? ⟨gb449, 0, none⟩ = some (.int .i64 a0_0) ∧ w'.cell? ⟨gb449, 1, none⟩ = some (.bool a0_1) ∧ w'.cell? ⟨gb449, 2, none⟩ = some (.slice A0_2 l0_2.length c0_2) ∧ w'.cell? ⟨gb451, 0, none⟩ = some (.slice (some ad460) x452000_2.length co58) ∧ w'.cell? ⟨gb451, 1, none⟩ = some (u452001) ∧ w'.cell? (ad458.add ((x9_2).toNat * 2)) = some (.int .i64 ((rd_T38 l2 x9_2).f0)) ∧ w'.cell? ⟨(ad458.add ((x9_2).toNat * 2)).block, (ad458.add ((x9_2).toNat * 2)).off + 1, none⟩ = some (.bool ((rd_T38 l2 x9_2).f1)) ∧ w'.cell? (ad460.add (x8_1).toNat) = some (.int .i64 (rd x452000_2 x8_1))) (ds := []) #[false, false, false, false, false, false, false, false, false, false, false, false, false, false, false, false, false, false, false, false, false, false, false] (by kernel_rfl) rfl rfl ⟨(blk_cell BK449.out 0).trans rfl, (blk_cell BK449.out 1).trans rfl, (blk_cell BK449.out 2).trans rfl, (blk_cell BK451.out 0).trans rfl, (blk_cell BK451.out 1).trans rfl, ((HB.out.cell (World.block_lt_of_cell? w _ hw458_0)).trans hw458_0), ((HB.out.cell (World.block_lt_of_cell? w _ hw458_1)).trans hw458_1), hx460_0⟩ (fun hHeld => ?_); refine with_tabW ebbtideref08_sought.tab10 ebbtideref08_sought.bits10 (fun HT_ HW_ => ?_)
      generalize wr.drew = w57 at HO_452000 HO_452001 BK449 BK450 BK451 HB hx458_0 hx458_1 hx460_0 hHeld ⊢
      refine pure_ (i := 1) (N := some 36) (v := ?_) (a' := ?_) #[false, true, false, false, false, false, false, false, false, false, false, false, false, false, false, false, false, false, false, false, false, false, false] rfl rfl (any_of HT_.out (by kernel_rfl)) (fun _ _ _ h => h) (Or.inl ⟨by rfl, ?_⟩) ?_ ?_
      rotate_left
      ·intro w'
       go_simp
       with_reducible rfl
      rotate_left
      ·simp only [Act.put, List.setIfInBounds_toArray, List.set_cons_zero, List.set_cons_succ, i64_w, i32_w]
       rfl
      refine pure_ (i := 2) (N := some 37) (v := ?_) (a' := ?_) #[false, true, true, false, false, false, false, false, false, false, false, false, false, false, false, false, false, false, false, false, false, false, false] rfl rfl (any_of HT_.out (by kernel_rfl)) (fun _ _ _ h => h) (Or.inl ⟨by rfl, ?_⟩) ?_ ?_
      rotate_left
      ·intro w'
       go_simp
       with_reducible rfl
      rotate_left
      ·simp only [Act.put, List.setIfInBounds_toArray, List.set_cons_zero, List.set_cons_succ, i64_w, i32_w]
       rfl
      refine pure_ (i := 3) (N := some 38) (v := ?_) (a' := ?_) #[false, true, true, true, false, false, false, false, false, false, false, false, false, false, false, false, false, false, false, false, false, false, false] rfl rfl (any_of HT_.out (by kernel_rfl)) (fun _ _ _ h => h) (Or.inl ⟨by rfl, ?_⟩) ?_ ?_
      rotate_left
      ·intro w'
       go_simp
       with_reducible rfl
      rotate_left
      ·simp only [Act.put, List.setIfInBounds_toArray, List.set_cons_zero, List.set_cons_succ, i64_w, i32_w]
       rfl
      refine pure_ (i := 6) (N := some 41) (v := ?_) (a' := ?_) #[false, true, true, true, false, false, true, false, false, false, false, false, false, false, false, false, false, false, false, false, false, false, false] rfl rfl (any_of HT_.out (by kernel_rfl)) (fun _ _ _ h => h) (Or.inl ⟨by rfl, ?_⟩) ?_ ?_
      rotate_left
      ·intro w'
       go_simp
       with_reducible rfl
      rotate_left
      ·simp only [Act.put, List.setIfInBounds_toArray, List.set_cons_zero, List.set_cons_succ, i64_w, i32_w]
       rfl
      refine pure_ (i := 8) (N := some 43) (v := ?_) (a' := ?_) #[false, true, true, true, false, false, true, false, true, false, false, false, false, false, false, false, false, false, false, false, false, false, false] rfl rfl (any_of HT_.out (by kernel_rfl)) (fun _ _ _ h => h) (Or.inl ⟨by rfl, ?_⟩) ?_ ?_
      rotate_left
      ·intro w'
       go_simp
       with_reducible rfl
      rotate_left
      ·simp only [Act.put, List.setIfInBounds_toArray, List.set_cons_zero, List.set_cons_succ, i64_w, i32_w]
       rfl
      refine take_ (i := 0) (N := some 35) (v := ?_) (a' := ?_) #[true, true, true, true, false, false, true, false, true, false, false, false, false, false, false, false, false, false, false, false, false, false, false] rfl rfl (take_ofW HT_.out HW_.out (by kernel_rfl)) (fun _ _ _ h => h) (Or.inl ⟨by rfl, ?_⟩) hHeld ?_ ?_
      rotate_left
      ·rintro w' ⟨s0, s1, s2, s3, s4, s5, s6, s7⟩
       go_simp
       with_reducible rfl
      rotate_left
      ·simp only [Act.put, List.setIfInBounds_toArray, List.set_cons_zero, List.set_cons_succ, i64_w, i32_w]
       rfl
      refine take_ (i := 4) (N := some 39) (v := ?_) (a' := ?_) #[true, true, true, true, true, false, true, false, true, false, false, false, false, false, false, false, false, false, false, false, false, false, false] rfl rfl (take_ofW HT_.out HW_.out (by kernel_rfl)) (fun _ _ _ h => h) (Or.inl ⟨by rfl, ?_⟩) hHeld ?_ ?_
      rotate_left
      ·rintro w' ⟨s0, s1, s2, s3, s4, s5, s6, s7⟩
       go_simp
       with_reducible rfl
      rotate_left
      ·simp only [Act.put, List.setIfInBounds_toArray, List.set_cons_zero, List.set_cons_succ, i64_w, i32_w]
       rfl
      refine take_ (i := 7) (N := some 42) (v := ?_) (a' := ?_) #[true, true, true, true, true, false, true, true, true, false, false, false, false, false, false, false, false, false, false, false, false, false, false] rfl rfl (take_ofW HT_.out HW_.out (by kernel_rfl)) (fun _ _ _ h => h) (Or.inl ⟨by rfl, ?_⟩) hHeld ?_ ?_
      rotate_left
      ·rintro w' ⟨s0, s1, s2, s3, s4, s5, s6, s7⟩
       go_simp
       with_reducible rfl
      rotate_left
      ·simp only [Act.put, List.setIfInBounds_toArray, List.set_cons_zero, List.set_cons_succ, i64_w, i32_w]
       rfl
      refine pure_ (i := 9) (N := some 44) (v := ?_) (a' := ?_) #[true, true, true, true, true, false, true, true, true, true, false, false, false, false, false, false, false, false, false, false, false, false, false] rfl rfl (any_of HT_.out (by kernel_rfl)) (fun _ _ _ h => h) (Or.inl ⟨by rfl, ?_⟩) ?_ ?_
      rotate_left
      ·intro w'
       go_simp
       with_reducible rfl
      rotate_left
      ·simp only [Act.put, List.setIfInBounds_toArray, List.set_cons_zero, List.set_cons_succ, i64_w, i32_w]
       rfl
      refine take_ (i := 10) (N := some 45) (v := ?_) (a' := ?_) #[true, true, true, true, true, false, true, true, true, true, true, false, false, false, false, false, false, false, false, false, false, false, false] rfl rfl (take_ofW HT_.out HW_.out (by kernel_rfl)) (fun _ _ _ h => h) (Or.inl ⟨by rfl, ?_⟩) hHeld ?_ ?_
      rotate_left
      ·rintro w' ⟨s0, s1, s2, s3, s4, s5, s6, s7⟩
       go_simp
       with_reducible rfl
      rotate_left
      ·simp only [Act.put, List.setIfInBounds_toArray, List.set_cons_zero, List.set_cons_succ, i64_w, i32_w]
       rfl
      refine one_ (i := 5) (N := some 40) #[true, true, true, true, true, true, true, true, true, true, true, false, false, false, false, false, false, false, false, false, false, false, false] rfl rfl (one_of HT_.out (by kernel_rfl)) (by decide) (fun K hK => ?_)
      refine goes_ Try.func44 (by kernel_rfl) rfl #[.agg #[.int .i64 a0_0, .bool a0_1, .slice A0_2 l0_2.length c0_2], .agg #[.int .i64 ((rd_T38 l2 x9_2).f0), .bool ((rd_T38 l2 x9_2).f1)]] (by rfl) rfl rfl (by (try simp only [List.map_toArray, List.map_cons, List.map_nil]); first | done | rfl | (simp only [List.length_drop, List.length_take]; rfl)) ?_
      with_reducible refine (ebbtideref07_From.calls a0_0 a0_1 _ _ l0_2 ((rd_T38 l2 x9_2).f0) ((rd_T38 l2 x9_2).f1) t459 _ ?side1 ?side2 A25.out).mono ?_
      (case side1 => repeat (first | exact (Kd.C_below HR0_2.out HB.out) | (with_reducible refine Kd.C_alloc ?_ _) | (with_reducible refine Kd.C_drewN ?_ _) | (with_reducible refine Kd.C_drew ?_)))
      (case side2 => exact HC0_2.out)
      rintro e w59 ⟨rfl, hb⟩
      have HS7_ := (hb.cell (World.block_lt_of_cell? _ _ (hHeld.2.2.2.2.2.2.2))).trans (hHeld.2.2.2.2.2.2.2)
      refine ⟨_, rfl, ?_⟩
      have n0_ := Aside0.mk (Kd.R_below (by (with_reducible repeat (first | apply Kd.R_alloc | apply Kd.R_drewN | apply Kd.R_drew)); exact HO_452000.out) hb)
      have n1_ := Aside0.mk (Kd.R_below (by (with_reducible repeat (first | apply Kd.R_alloc | apply Kd.R_drewN | apply Kd.R_drew)); exact HO_452001.out) hb)
      have n2_ := Aside0.mk (blk_below (g := gb449) (o := .cells #[.int .i64 a0_0, .bool a0_1, .slice A0_2 l0_2.length c0_2] 24 (0, 0)) (by (with_reducible repeat (first | refine blk_drewN ?_ _ | refine blk_drew ?_ | refine blk_alloc ?_ _)); exact BK449.out) hb)
      have n3_ := Aside0.mk (blk_below (g := gb450) (o := .cells #[.slice none 0 0, .slice none 0 0] 161 (0, 0)) (by (with_reducible repeat (first | refine blk_drewN ?_ _ | refine blk_drew ?_ | refine blk_alloc ?_ _)); exact BK450.out) hb)
      have n4_ := Aside0.mk (blk_below (g := gb451) (o := .cells #[.slice (some ad460) x452000_2.length co58, u452001] 161 (0, 0)) (by (with_reducible repeat (first | refine blk_drewN ?_ _ | refine blk_drew ?_ | refine blk_alloc ?_ _)); exact BK451.out) hb)
      have n5_ := Aside0.mk (below_step (by repeat (first | (with_reducible first | exact HB.out | apply below_alloc | apply pw_below_drewN | apply below_drew1 | refine below_set ?_ GE449.out | refine below_set ?_ GE450.out | refine below_set ?_ GE451.out) | exact HB.out)) hb)
      clear HO_452000
      clear HO_452001
      clear BK449
      clear BK450
      clear BK451
      clear HB
      have HO_452000 := n0_
      have HO_452001 := n1_
      have BK449 := n2_
      have BK450 := n3_
      have BK451 := n4_
      have HB := n5_
      clear n0_ n1_ n2_ n3_ n4_ n5_
      (try clear hb)
      (try clear hb2)
      (try clear hk)
      (try clear hi)
      refine hK.out _ _ ⟨(blk_cell BK449.out 0).trans rfl, (blk_cell BK449.out 1).trans rfl, (blk_cell BK449.out 2).trans rfl, (blk_cell BK451.out 0).trans rfl, (blk_cell BK451.out 1).trans rfl, ((HB.out.cell (World.block_lt_of_cell? w _ hw458_0)).trans hw458_0), ((HB.out.cell (World.block_lt_of_cell? w _ hw458_1)).trans hw458_1), HS7_⟩ (fun hHeld => ?_)
      clear hK K
      refine norm_ (a' := ?_) ?_ ?_
      rotate_left
      ·show Act.put _ (some 40) _ = _
       simp only [Act.put, List.setIfInBounds_toArray, List.set_cons_zero, List.set_cons_succ, i64_w, i32_w]
       rfl
      refine pure_ (i := 11) (N := some 46) (v := ?_) (a' := ?_) #[true, true, true, true, true, true, true, true, true, true, true, true, false, false, false, false, false, false, false, false, false, false, false] rfl rfl (any_of HT_.out (by kernel_rfl)) (fun _ _ _ h => h) (Or.inl ⟨by rfl, ?_⟩) ?_ ?_
      rotate_left
      ·intro w'
       go_simp
       with_reducible rfl
      rotate_left
      ·simp only [Act.put, List.setIfInBounds_toArray, List.set_cons_zero, List.set_cons_succ, i64_w, i32_w]
       rfl
      refine pure_ (i := 12) (N := some 47) (v := ?_) (a' := ?_) #[true, true, true, true, true, true, true, true, true, true, true, true, true, false, false, false, false, false, false, false, false, false, false] rfl rfl (any_of HT_.out (by kernel_rfl)) (fun _ _ _ h => h) (Or.inl ⟨by rfl, ?_⟩) ?_ ?_
      rotate_left
      ·intro w'
       go_simp
       with_reducible rfl
      rotate_left
      ·simp only [Act.put, List.setIfInBounds_toArray, List.set_cons_zero, List.set_cons_succ, i64_w, i32_w]
       rfl
      refine pure_ (i := 13) (N := some 48) (v := undef) (a' := ?_) #[true, true, true, true, true, true, true, true, true, true, true, true, true, true, false, false, false, false, false, false, false, false, false] rfl rfl (any_of HT_.out (by kernel_rfl)) (fun _ _ _ h => h) (Or.inr ⟨by rfl, rfl⟩) ?_ ?_
      rotate_left
      ·simp only [Act.put, List.setIfInBounds_toArray, List.set_cons_zero, List.set_cons_succ, i64_w, i32_w]
       rfl
      refine pure_ (i := 14) (N := some 49) (v := undef) (a' := ?_) #[true, true, true, true, true, true, true, true, true, true, true, true, true, true, true, false, false, false, false, false, false, false, false] rfl rfl (any_of HT_.out (by kernel_rfl)) (fun _ _ _ h => h) (Or.inr ⟨by rfl, rfl⟩) ?_ ?_
      rotate_left
      ·simp only [Act.put, List.setIfInBounds_toArray, List.set_cons_zero, List.set_cons_succ, i64_w, i32_w]
       rfl
      refine pure_ (i := 15) (N := some 50) (v := undef) (a' := ?_) #[true, true, true, true, true, true, true, true, true, true, true, true, true, true, true, true, false, false, false, false, false, false, false] rfl rfl (any_of HT_.out (by kernel_rfl)) (fun _ _ _ h => h) (Or.inr ⟨by rfl, rfl⟩) ?_ ?_
      rotate_left
      ·simp only [Act.put, List.setIfInBounds_toArray, List.set_cons_zero, List.set_cons_succ, i64_w, i32_w]
       rfl
      refine pure_ (i := 16) (N := some 51) (v := undef) (a' := ?_) #[true, true, true, true, true, true, true, true, true, true, true, true, true, true, true, true, true, false, false, false, false, false, false] rfl rfl (any_of HT_.out (by kernel_rfl)) (fun _ _ _ h => h) (Or.inr ⟨by rfl, rfl⟩) ?_ ?_
      rotate_left
      ·simp only [Act.put, List.setIfInBounds_toArray, List.set_cons_zero, List.set_cons_succ, i64_w, i32_w]
       rfl
      refine pure_ (i := 17) (N := some 52) (v := undef) (a' := ?_) #[true, true, true, true, true, true, true, true, true, true, true, true, true, true, true, true, true, true, false, false, false, false, false] rfl rfl (any_of HT_.out (by kernel_rfl)) (fun _ _ _ h => h) (Or.inr ⟨by rfl, rfl⟩) ?_ ?_
      rotate_left
      ·simp only [Act.put, List.setIfInBounds_toArray, List.set_cons_zero, List.set_cons_succ, i64_w, i32_w]
       rfl
      refine pure_ (i := 18) (N := some 53) (v := undef) (a' := ?_) #[true, true, true, true, true, true, true, true, true, true, true, true, true, true, true, true, true, true, true, false, false, false, false] rfl rfl (any_of HT_.out (by kernel_rfl)) (fun _ _ _ h => h) (Or.inr ⟨by rfl, rfl⟩) ?_ ?_
      rotate_left
      ·simp only [Act.put, List.setIfInBounds_toArray, List.set_cons_zero, List.set_cons_succ, i64_w, i32_w]
       rfl
      refine pure_ (i := 19) (N := some 54) (v := undef) (a' := ?_) #[true, true, true, true, true, true, true, true, true, true, true, true, true, true, true, true, true, true, true, true, false, false, false] rfl rfl (any_of HT_.out (by kernel_rfl)) (fun _ _ _ h => h) (Or.inr ⟨by rfl, rfl⟩) ?_ ?_
      rotate_left
      ·simp only [Act.put, List.setIfInBounds_toArray, List.set_cons_zero, List.set_cons_succ, i64_w, i32_w]
       rfl
      refine pure_ (i := 20) (N := some 55) (v := undef) (a' := ?_) #[true, true, true, true, true, true, true, true, true, true, true, true, true, true, true, true, true, true, true, true, true, false, false] rfl rfl (any_of HT_.out (by kernel_rfl)) (fun _ _ _ h => h) (Or.inr ⟨by rfl, rfl⟩) ?_ ?_
      rotate_left
      ·simp only [Act.put, List.setIfInBounds_toArray, List.set_cons_zero, List.set_cons_succ, i64_w, i32_w]
       rfl
      refine pure_ (i := 21) (N := some 56) (v := undef) (a' := ?_) #[true, true, true, true, true, true, true, true, true, true, true, true, true, true, true, true, true, true, true, true, true, true, false] rfl rfl (any_of HT_.out (by kernel_rfl)) (fun _ _ _ h => h) (Or.inr ⟨by rfl, rfl⟩) ?_ ?_
      rotate_left
      ·simp only [Act.put, List.setIfInBounds_toArray, List.set_cons_zero, List.set_cons_succ, i64_w, i32_w]
       rfl
      refine pure_ (i := 22) (N := some 57) (v := ?_) (a' := ?_) #[true, true, true, true, true, true, true, true, true, true, true, true, true, true, true, true, true, true, true, true, true, true, true] rfl rfl (any_of HT_.out (by kernel_rfl)) (fun _ _ _ h => h) (Or.inl ⟨by rfl, ?_⟩) ?_ ?_
      rotate_left
      ·intro w'
       go_simp
       with_reducible rfl
      rotate_left
      ·simp only [Act.put, List.setIfInBounds_toArray, List.set_cons_zero, List.set_cons_succ, i64_w, i32_w]
       rfl
      refine done_ (done_of HT_.out (by kernel_rfl)) ?_
      try go_wp2
      go_roundg k2
      case measure => have := HK1.out; have := HK2.out; omega
      case rel => exact ⟨(wrap64 (x9_2 + 1)), (x452000_2), (x452001_2), (.slice (some ad460) x452000_2.length co58), (u452001), (by first | rfl | (simp; done) | (simp [*]; done)), H', ⟨by have := HK1.out; have := HK2.out; omega⟩, ⟨by (with_reducible repeat (first | apply Kd.R_alloc | apply Kd.R_drewN | apply Kd.R_drew)); exact HO_452000.out⟩, ⟨by (with_reducible repeat (first | apply Kd.R_alloc | apply Kd.R_drewN | apply Kd.R_drew)); exact HO_452001.out⟩, ⟨by (with_reducible repeat (first | refine blk_drewN ?_ _ | refine blk_drew ?_ | refine blk_alloc ?_ _)); exact BK449.out⟩, ⟨by (with_reducible repeat (first | refine blk_drewN ?_ _ | refine blk_drew ?_ | refine blk_alloc ?_ _)); exact BK450.out⟩, ⟨by (with_reducible repeat (first | refine blk_drewN ?_ _ | refine blk_drew ?_ | refine blk_alloc ?_ _)); exact BK451.out⟩, ⟨by repeat (first | (with_reducible first | exact HB.out | apply below_alloc | apply pw_below_drewN | apply below_drew1 | refine below_set ?_ GE449.out | refine below_set ?_ GE450.out | refine below_set ?_ GE451.out) | exact HB.out)⟩⟩
     rw [if_pos c28] at H
     have c28b0 : (t459 == (rd x452000_2 x8_1)) = true := beq_iff_eq.mpr c28
     have c28b1 : (t459 != (rd x452000_2 x8_1)) = false := bne_eq_false_iff_eq.mpr c28
     clear c28
     replace H := Option.bind_eq_some_iff.mp H
     obtain ⟨t462, A290, H⟩ := H
     replace H : ((ebbtideref08_found_has.f k2 x452000_2 x452001_2 t462).bind fun t463 => (if t463 < 0 then ((ebbtideref07_To.f a0_0 a0_1 l0_2 ((rd_T38 l2 x9_2).f0) ((rd_T38 l2 x9_2).f1)).bind fun t465 => (if x452000_2.length < 17592186044416 then (if x452001_2.length < 8796093022208 then (ebbtideref08_sought.l1 k2 l2 x8_1 (wrap64 (x9_2 + 1)) a0_0 a0_1 l0_2 (x452000_2 ++ [t465]) (x452001_2 ++ [(⟨(rd_T38 l2 x9_2).f0, (rd_T38 l2 x9_2).f1⟩ : S38)])) else (none)) else (none))) else (ebbtideref08_sought.l1 k2 l2 x8_1 (wrap64 (x9_2 + 1)) a0_0 a0_1 l0_2 x452000_2 x452001_2))) = some (r1, r2) := H
     have A29 := Aside0.mk A290
     clear A290
     replace H := Option.bind_eq_some_iff.mp H
     obtain ⟨t463, A300, H⟩ := H
     replace H : (if t463 < 0 then ((ebbtideref07_To.f a0_0 a0_1 l0_2 ((rd_T38 l2 x9_2).f0) ((rd_T38 l2 x9_2).f1)).bind fun t465 => (if x452000_2.length < 17592186044416 then (if x452001_2.length < 8796093022208 then (ebbtideref08_sought.l1 k2 l2 x8_1 (wrap64 (x9_2 + 1)) a0_0 a0_1 l0_2 (x452000_2 ++ [t465]) (x452001_2 ++ [(⟨(rd_T38 l2 x9_2).f0, (rd_T38 l2 x9_2).f1⟩ : S38)])) else (none)) else (none))) else (ebbtideref08_sought.l1 k2 l2 x8_1 (wrap64 (x9_2 + 1)) a0_0 a0_1 l0_2 x452000_2 x452001_2)) = some (r1, r2) := H
     have A30 := Aside0.mk A300
     clear A300
     by_cases c31 : t463 < 0
     rotate_left
     ·rw [if_neg c31] at H
      have c31b0 : decide (t463 < 0) = false := decide_eq_false c31
      clear c31
      have H' := Aside0.mk H
      clear H
      try go_wp2
      have n0_ := Aside0.mk (Kd.R_drew HO_452000.out)
      have n1_ := Aside0.mk (Kd.R_drew HO_452001.out)
      have n2_ := Aside0.mk (blk_drew BK449.out)
      have n3_ := Aside0.mk (blk_drew BK450.out)
      have n4_ := Aside0.mk (blk_drew BK451.out)
      have n5_ := Aside0.mk (below_drew1 HB.out)
      clear HO_452000
      clear HO_452001
      clear BK449
      clear BK450
      clear BK451
      clear HB
      have HO_452000 := n0_
      have HO_452001 := n1_
      have BK449 := n2_
      have BK450 := n3_
      have BK451 := n4_
      have HB := n5_
      clear n0_ n1_ n2_ n3_ n4_ n5_
      have p458 : 0 ≤ (x9_2 : Int) := of_decide_eq_true (by first | (with_reducible assumption) | assumption)
      have q458 : x9_2 < (l2.length : Int) := of_decide_eq_true (by first | (with_reducible assumption) | assumption)
      obtain ⟨ad458, e458, hx458_0, hx458_1⟩ := at_T38 HR2.out x9_2 p458 q458
      have hw458_1 := hx458_1
      have hw458_0 := hx458_0
      cases e458
      replace hx458_0 := (HB.out.cell (World.block_lt_of_cell? w _ hx458_0)).trans hx458_0
      replace hx458_1 := (HB.out.cell (World.block_lt_of_cell? w _ hx458_1)).trans hx458_1
      replace p458 := eq_true p458
      replace q458 := eq_true q458
      obtain ⟨Ao52, co52, eo52⟩ := Kd.R_slice HO_452000.out
      (first | subst eo52 | (injection eo52 with f1_ f2_ f3_; have f4_ := f1_.symm; have f5_ := f3_.symm; clear f1_ f2_ f3_; subst f4_; subst f5_))
      have p460 : 0 ≤ (x8_1 : Int) := of_decide_eq_true (by first | (with_reducible assumption) | assumption)
      have q460 : x8_1 < (x452000_2.length : Int) := of_decide_eq_true (by first | (with_reducible assumption) | assumption)
      obtain ⟨ad460, e460, hx460_0⟩ := Kd.at_int (Kd.R_reads' HO_452000.out).2.2 x8_1 p460 q460
      cases e460
      replace p460 := eq_true p460
      replace q460 := eq_true q460
      have p461 : 0 ≤ (x9_2 : Int) := of_decide_eq_true (by first | (with_reducible assumption) | assumption)
      have q461 : x9_2 < (l2.length : Int) := of_decide_eq_true (by first | (with_reducible assumption) | assumption)
      obtain ⟨ad461, e461, hx461_0, hx461_1⟩ := at_T38 HR2.out x9_2 p461 q461
      have hw461_1 := hx461_1
      have hw461_0 := hx461_0
      obtain rfl : ad458 = ad461 := (by injection e461)
      replace hx461_0 := (HB.out.cell (World.block_lt_of_cell? w _ hx461_0)).trans hx461_0
      replace hx461_1 := (HB.out.cell (World.block_lt_of_cell? w _ hx461_1)).trans hx461_1
      replace p461 := eq_true p461
      replace q461 := eq_true q461
      refine start_ (n := 23) (S := fun w' => w'.cell? ⟨gb449, 0, none⟩ = some (.int .i64 a0_0) ∧ w'.cell? ⟨gb449, 1, none⟩ = some (.bool a0_1) ∧ w'.cell? ⟨gb449, 2, none⟩ = some (.slice A0_2 l0_2.length c0_2) ∧ w'.cell? ⟨gb451, 0, none⟩ = some (.slice (some ad460) x452000_2.length co52) ∧ w'.cell? ⟨gb451, 1, none⟩ = some (u452001) ∧ w'.cell? (ad458.add ((x9_2).toNat * 2)) = some (.int .i64 ((rd_T38 l2 x9_2).f0)) ∧ w'.cell? ⟨(ad458.add ((x9_2).toNat * 2)).block, (ad458.add ((x9_2).toNat * 2)).off + 1, none⟩ = some (.bool ((rd_T38 l2 x9_2).f1)) ∧ w'.cell? (ad460.add (x8_1).toNat) = some (.int .i64 (rd x452000_2 x8_1)) ∧ w'.cell? (ad458.add ((x9_2).toNat * 2)) = some (.int .i64 ((rd_T38 l2 x9_2).f0)) ∧ w'.cell? ⟨(ad458.add ((x9_2).toNat * 2)).block, (ad458.add ((x9_2).toNat * 2)).off + 1, none⟩ = some (.bool ((rd_T38 l2 x9_2).f1))) (ds := []) #[false, false, false, false, false, false, false, false, false, false, false, false, false, false, false, false, false, false, false, false, false, false, false] (by kernel_rfl) rfl rfl ⟨(blk_cell BK449.out 0).trans rfl, (blk_cell BK449.out 1).trans rfl, (blk_cell BK449.out 2).trans rfl, (blk_cell BK451.out 0).trans rfl, (blk_cell BK451.out 1).trans rfl, ((HB.out.cell (World.block_lt_of_cell? w _ hw458_0)).trans hw458_0), ((HB.out.cell (World.block_lt_of_cell? w _ hw458_1)).trans hw458_1), hx460_0, ((HB.out.cell (World.block_lt_of_cell? w _ hw461_0)).trans hw461_0), ((HB.out.cell (World.block_lt_of_cell? w _ hw461_1)).trans hw461_1)⟩ (fun hHeld => ?_); refine with_tabW ebbtideref08_sought.tab10 ebbtideref08_sought.bits10 (fun HT_ HW_ => ?_)
      generalize wr.drew = w51 at HO_452000 HO_452001 BK449 BK450 BK451 HB hx458_0 hx458_1 hx460_0 hx461_0 hx461_1 hHeld ⊢
      refine pure_ (i := 1) (N := some 36) (v := ?_) (a' := ?_) #[false, true, false, false, false, false, false, false, false, false, false, false, false, false, false, false, false, false, false, false, false, false, false] rfl rfl (any_of HT_.out (by kernel_rfl)) (fun _ _ _ h => h) (Or.inl ⟨by rfl, ?_⟩) ?_ ?_
      rotate_left
      ·intro w'
       go_simp
       with_reducible rfl
      rotate_left
      ·simp only [Act.put, List.setIfInBounds_toArray, List.set_cons_zero, List.set_cons_succ, i64_w, i32_w]
       rfl
      refine pure_ (i := 2) (N := some 37) (v := ?_) (a' := ?_) #[false, true, true, false, false, false, false, false, false, false, false, false, false, false, false, false, false, false, false, false, false, false, false] rfl rfl (any_of HT_.out (by kernel_rfl)) (fun _ _ _ h => h) (Or.inl ⟨by rfl, ?_⟩) ?_ ?_
      rotate_left
      ·intro w'
       go_simp
       with_reducible rfl
      rotate_left
      ·simp only [Act.put, List.setIfInBounds_toArray, List.set_cons_zero, List.set_cons_succ, i64_w, i32_w]
       rfl
      refine pure_ (i := 3) (N := some 38) (v := ?_) (a' := ?_) #[false, true, true, true, false, false, false, false, false, false, false, false, false, false, false, false, false, false, false, false, false, false, false] rfl rfl (any_of HT_.out (by kernel_rfl)) (fun _ _ _ h => h) (Or.inl ⟨by rfl, ?_⟩) ?_ ?_
      rotate_left
      ·intro w'
       go_simp
       with_reducible rfl
      rotate_left
      ·simp only [Act.put, List.setIfInBounds_toArray, List.set_cons_zero, List.set_cons_succ, i64_w, i32_w]
       rfl
      refine pure_ (i := 6) (N := some 41) (v := ?_) (a' := ?_) #[false, true, true, true, false, false, true, false, false, false, false, false, false, false, false, false, false, false, false, false, false, false, false] rfl rfl (any_of HT_.out (by kernel_rfl)) (fun _ _ _ h => h) (Or.inl ⟨by rfl, ?_⟩) ?_ ?_
      rotate_left
      ·intro w'
       go_simp
       with_reducible rfl
      rotate_left
      ·simp only [Act.put, List.setIfInBounds_toArray, List.set_cons_zero, List.set_cons_succ, i64_w, i32_w]
       rfl
      refine pure_ (i := 8) (N := some 43) (v := ?_) (a' := ?_) #[false, true, true, true, false, false, true, false, true, false, false, false, false, false, false, false, false, false, false, false, false, false, false] rfl rfl (any_of HT_.out (by kernel_rfl)) (fun _ _ _ h => h) (Or.inl ⟨by rfl, ?_⟩) ?_ ?_
      rotate_left
      ·intro w'
       go_simp
       with_reducible rfl
      rotate_left
      ·simp only [Act.put, List.setIfInBounds_toArray, List.set_cons_zero, List.set_cons_succ, i64_w, i32_w]
       rfl
      refine take_ (i := 0) (N := some 35) (v := ?_) (a' := ?_) #[true, true, true, true, false, false, true, false, true, false, false, false, false, false, false, false, false, false, false, false, false, false, false] rfl rfl (take_ofW HT_.out HW_.out (by kernel_rfl)) (fun _ _ _ h => h) (Or.inl ⟨by rfl, ?_⟩) hHeld ?_ ?_
      rotate_left
      ·rintro w' ⟨s0, s1, s2, s3, s4, s5, s6, s7, s8, s9⟩
       go_simp
       with_reducible rfl
      rotate_left
      ·simp only [Act.put, List.setIfInBounds_toArray, List.set_cons_zero, List.set_cons_succ, i64_w, i32_w]
       rfl
      refine take_ (i := 4) (N := some 39) (v := ?_) (a' := ?_) #[true, true, true, true, true, false, true, false, true, false, false, false, false, false, false, false, false, false, false, false, false, false, false] rfl rfl (take_ofW HT_.out HW_.out (by kernel_rfl)) (fun _ _ _ h => h) (Or.inl ⟨by rfl, ?_⟩) hHeld ?_ ?_
      rotate_left
      ·rintro w' ⟨s0, s1, s2, s3, s4, s5, s6, s7, s8, s9⟩
       go_simp
       with_reducible rfl
      rotate_left
      ·simp only [Act.put, List.setIfInBounds_toArray, List.set_cons_zero, List.set_cons_succ, i64_w, i32_w]
       rfl
      refine take_ (i := 7) (N := some 42) (v := ?_) (a' := ?_) #[true, true, true, true, true, false, true, true, true, false, false, false, false, false, false, false, false, false, false, false, false, false, false] rfl rfl (take_ofW HT_.out HW_.out (by kernel_rfl)) (fun _ _ _ h => h) (Or.inl ⟨by rfl, ?_⟩) hHeld ?_ ?_
      rotate_left
      ·rintro w' ⟨s0, s1, s2, s3, s4, s5, s6, s7, s8, s9⟩
       go_simp
       with_reducible rfl
      rotate_left
      ·simp only [Act.put, List.setIfInBounds_toArray, List.set_cons_zero, List.set_cons_succ, i64_w, i32_w]
       rfl
      refine pure_ (i := 9) (N := some 44) (v := ?_) (a' := ?_) #[true, true, true, true, true, false, true, true, true, true, false, false, false, false, false, false, false, false, false, false, false, false, false] rfl rfl (any_of HT_.out (by kernel_rfl)) (fun _ _ _ h => h) (Or.inl ⟨by rfl, ?_⟩) ?_ ?_
      rotate_left
      ·intro w'
       go_simp
       with_reducible rfl
      rotate_left
      ·simp only [Act.put, List.setIfInBounds_toArray, List.set_cons_zero, List.set_cons_succ, i64_w, i32_w]
       rfl
      refine take_ (i := 10) (N := some 45) (v := ?_) (a' := ?_) #[true, true, true, true, true, false, true, true, true, true, true, false, false, false, false, false, false, false, false, false, false, false, false] rfl rfl (take_ofW HT_.out HW_.out (by kernel_rfl)) (fun _ _ _ h => h) (Or.inl ⟨by rfl, ?_⟩) hHeld ?_ ?_
      rotate_left
      ·rintro w' ⟨s0, s1, s2, s3, s4, s5, s6, s7, s8, s9⟩
       go_simp
       with_reducible rfl
      rotate_left
      ·simp only [Act.put, List.setIfInBounds_toArray, List.set_cons_zero, List.set_cons_succ, i64_w, i32_w]
       rfl
      refine one_ (i := 5) (N := some 40) #[true, true, true, true, true, true, true, true, true, true, true, false, false, false, false, false, false, false, false, false, false, false, false] rfl rfl (one_of HT_.out (by kernel_rfl)) (by decide) (fun K hK => ?_)
      refine goes_ Try.func44 (by kernel_rfl) rfl #[.agg #[.int .i64 a0_0, .bool a0_1, .slice A0_2 l0_2.length c0_2], .agg #[.int .i64 ((rd_T38 l2 x9_2).f0), .bool ((rd_T38 l2 x9_2).f1)]] (by rfl) rfl rfl (by (try simp only [List.map_toArray, List.map_cons, List.map_nil]); first | done | rfl | (simp only [List.length_drop, List.length_take]; rfl)) ?_
      with_reducible refine (ebbtideref07_From.calls a0_0 a0_1 _ _ l0_2 ((rd_T38 l2 x9_2).f0) ((rd_T38 l2 x9_2).f1) t459 _ ?side1 ?side2 A25.out).mono ?_
      (case side1 => repeat (first | exact (Kd.C_below HR0_2.out HB.out) | (with_reducible refine Kd.C_alloc ?_ _) | (with_reducible refine Kd.C_drewN ?_ _) | (with_reducible refine Kd.C_drew ?_)))
      (case side2 => exact HC0_2.out)
      rintro e w53 ⟨rfl, hb⟩
      have HS7_ := (hb.cell (World.block_lt_of_cell? _ _ (hHeld.2.2.2.2.2.2.2.1))).trans (hHeld.2.2.2.2.2.2.2.1)
      refine ⟨_, rfl, ?_⟩
      have n0_ := Aside0.mk (Kd.R_below (by (with_reducible repeat (first | apply Kd.R_alloc | apply Kd.R_drewN | apply Kd.R_drew)); exact HO_452000.out) hb)
      have n1_ := Aside0.mk (Kd.R_below (by (with_reducible repeat (first | apply Kd.R_alloc | apply Kd.R_drewN | apply Kd.R_drew)); exact HO_452001.out) hb)
      have n2_ := Aside0.mk (blk_below (g := gb449) (o := .cells #[.int .i64 a0_0, .bool a0_1, .slice A0_2 l0_2.length c0_2] 24 (0, 0)) (by (with_reducible repeat (first | refine blk_drewN ?_ _ | refine blk_drew ?_ | refine blk_alloc ?_ _)); exact BK449.out) hb)
      have n3_ := Aside0.mk (blk_below (g := gb450) (o := .cells #[.slice none 0 0, .slice none 0 0] 161 (0, 0)) (by (with_reducible repeat (first | refine blk_drewN ?_ _ | refine blk_drew ?_ | refine blk_alloc ?_ _)); exact BK450.out) hb)
      have n4_ := Aside0.mk (blk_below (g := gb451) (o := .cells #[.slice (some ad460) x452000_2.length co52, u452001] 161 (0, 0)) (by (with_reducible repeat (first | refine blk_drewN ?_ _ | refine blk_drew ?_ | refine blk_alloc ?_ _)); exact BK451.out) hb)
      have n5_ := Aside0.mk (below_step (by repeat (first | (with_reducible first | exact HB.out | apply below_alloc | apply pw_below_drewN | apply below_drew1 | refine below_set ?_ GE449.out | refine below_set ?_ GE450.out | refine below_set ?_ GE451.out) | exact HB.out)) hb)
      clear HO_452000
      clear HO_452001
      clear BK449
      clear BK450
      clear BK451
      clear HB
      have HO_452000 := n0_
      have HO_452001 := n1_
      have BK449 := n2_
      have BK450 := n3_
      have BK451 := n4_
      have HB := n5_
      clear n0_ n1_ n2_ n3_ n4_ n5_
      (try clear hb)
      (try clear hb2)
      (try clear hk)
      (try clear hi)
      refine hK.out _ _ ⟨(blk_cell BK449.out 0).trans rfl, (blk_cell BK449.out 1).trans rfl, (blk_cell BK449.out 2).trans rfl, (blk_cell BK451.out 0).trans rfl, (blk_cell BK451.out 1).trans rfl, ((HB.out.cell (World.block_lt_of_cell? w _ hw458_0)).trans hw458_0), ((HB.out.cell (World.block_lt_of_cell? w _ hw458_1)).trans hw458_1), HS7_, ((HB.out.cell (World.block_lt_of_cell? w _ hw461_0)).trans hw461_0), ((HB.out.cell (World.block_lt_of_cell? w _ hw461_1)).trans hw461_1)⟩ (fun hHeld => ?_)
      clear hK K
      refine norm_ (a' := ?_) ?_ ?_
      rotate_left
      ·show Act.put _ (some 40) _ = _
       simp only [Act.put, List.setIfInBounds_toArray, List.set_cons_zero, List.set_cons_succ, i64_w, i32_w]
       rfl
      refine pure_ (i := 11) (N := some 46) (v := ?_) (a' := ?_) #[true, true, true, true, true, true, true, true, true, true, true, true, false, false, false, false, false, false, false, false, false, false, false] rfl rfl (any_of HT_.out (by kernel_rfl)) (fun _ _ _ h => h) (Or.inl ⟨by rfl, ?_⟩) ?_ ?_
      rotate_left
      ·intro w'
       go_simp
       with_reducible rfl
      rotate_left
      ·simp only [Act.put, List.setIfInBounds_toArray, List.set_cons_zero, List.set_cons_succ, i64_w, i32_w]
       rfl
      refine pure_ (i := 12) (N := some 47) (v := ?_) (a' := ?_) #[true, true, true, true, true, true, true, true, true, true, true, true, true, false, false, false, false, false, false, false, false, false, false] rfl rfl (any_of HT_.out (by kernel_rfl)) (fun _ _ _ h => h) (Or.inl ⟨by rfl, ?_⟩) ?_ ?_
      rotate_left
      ·intro w'
       go_simp
       with_reducible rfl
      rotate_left
      ·simp only [Act.put, List.setIfInBounds_toArray, List.set_cons_zero, List.set_cons_succ, i64_w, i32_w]
       rfl
      refine pure_ (i := 15) (N := some 50) (v := ?_) (a' := ?_) #[true, true, true, true, true, true, true, true, true, true, true, true, true, false, false, true, false, false, false, false, false, false, false] rfl rfl (any_of HT_.out (by kernel_rfl)) (fun _ _ _ h => h) (Or.inl ⟨by rfl, ?_⟩) ?_ ?_
      rotate_left
      ·intro w'
       go_simp
       with_reducible rfl
      rotate_left
      ·simp only [Act.put, List.setIfInBounds_toArray, List.set_cons_zero, List.set_cons_succ, i64_w, i32_w]
       rfl
      refine pure_ (i := 16) (N := some 51) (v := ?_) (a' := ?_) #[true, true, true, true, true, true, true, true, true, true, true, true, true, false, false, true, true, false, false, false, false, false, false] rfl rfl (any_of HT_.out (by kernel_rfl)) (fun _ _ _ h => h) (Or.inl ⟨by rfl, ?_⟩) ?_ ?_
      rotate_left
      ·intro w'
       go_simp
       with_reducible rfl
      rotate_left
      ·simp only [Act.put, List.setIfInBounds_toArray, List.set_cons_zero, List.set_cons_succ, i64_w, i32_w]
       rfl
      refine pure_ (i := 17) (N := some 52) (v := ?_) (a' := ?_) #[true, true, true, true, true, true, true, true, true, true, true, true, true, false, false, true, true, true, false, false, false, false, false] rfl rfl (any_of HT_.out (by kernel_rfl)) (fun _ _ _ h => h) (Or.inl ⟨by rfl, ?_⟩) ?_ ?_
      rotate_left
      ·intro w'
       go_simp
       with_reducible rfl
      rotate_left
      ·simp only [Act.put, List.setIfInBounds_toArray, List.set_cons_zero, List.set_cons_succ, i64_w, i32_w]
       rfl
      refine take_ (i := 13) (N := some 48) (v := ?_) (a' := ?_) #[true, true, true, true, true, true, true, true, true, true, true, true, true, true, false, true, true, true, false, false, false, false, false] rfl rfl (take_ofW HT_.out HW_.out (by kernel_rfl)) (fun _ _ _ h => h) (Or.inl ⟨by rfl, ?_⟩) hHeld ?_ ?_
      rotate_left
      ·rintro w' ⟨s0, s1, s2, s3, s4, s5, s6, s7, s8, s9⟩
       go_simp
       with_reducible rfl
      rotate_left
      ·simp only [Act.put, List.setIfInBounds_toArray, List.set_cons_zero, List.set_cons_succ, i64_w, i32_w]
       rfl
      refine take_ (i := 14) (N := some 49) (v := ?_) (a' := ?_) #[true, true, true, true, true, true, true, true, true, true, true, true, true, true, true, true, true, true, false, false, false, false, false] rfl rfl (take_ofW HT_.out HW_.out (by kernel_rfl)) (fun _ _ _ h => h) (Or.inl ⟨by rfl, ?_⟩) hHeld ?_ ?_
      rotate_left
      ·rintro w' ⟨s0, s1, s2, s3, s4, s5, s6, s7, s8, s9⟩
       go_simp
       with_reducible rfl
      rotate_left
      ·simp only [Act.put, List.setIfInBounds_toArray, List.set_cons_zero, List.set_cons_succ, i64_w, i32_w]
       rfl
      refine take_ (i := 18) (N := some 53) (v := ?_) (a' := ?_) #[true, true, true, true, true, true, true, true, true, true, true, true, true, true, true, true, true, true, true, false, false, false, false] rfl rfl (take_ofW HT_.out HW_.out (by kernel_rfl)) (fun _ _ _ h => h) (Or.inl ⟨by rfl, ?_⟩) hHeld ?_ ?_
      rotate_left
      ·rintro w' ⟨s0, s1, s2, s3, s4, s5, s6, s7, s8, s9⟩
       go_simp
       with_reducible rfl
      rotate_left
      ·simp only [Act.put, List.setIfInBounds_toArray, List.set_cons_zero, List.set_cons_succ, i64_w, i32_w]
       rfl
      refine one_ (i := 19) (N := some 54) #[true, true, true, true, true, true, true, true, true, true, true, true, true, true, true, true, true, true, true, true, false, false, false] rfl rfl (one_of HT_.out (by kernel_rfl)) (by decide) (fun K hK => ?_)
      refine goes_ Try.func45 (by kernel_rfl) rfl #[.agg #[.int .i64 a0_0, .bool a0_1, .slice A0_2 l0_2.length c0_2], .agg #[.int .i64 ((rd_T38 l2 x9_2).f0), .bool ((rd_T38 l2 x9_2).f1)]] (by rfl) rfl rfl (by (try simp only [List.map_toArray, List.map_cons, List.map_nil]); first | done | rfl | (simp only [List.length_drop, List.length_take]; rfl)) ?_
      with_reducible refine (ebbtideref07_To.calls a0_0 a0_1 _ _ l0_2 ((rd_T38 l2 x9_2).f0) ((rd_T38 l2 x9_2).f1) t462 _ ?side1 ?side2 A29.out).mono ?_
      (case side1 => repeat (first | exact (Kd.C_below HR0_2.out HB.out) | (with_reducible refine Kd.C_alloc ?_ _) | (with_reducible refine Kd.C_drewN ?_ _) | (with_reducible refine Kd.C_drew ?_)))
      (case side2 => exact HC0_2.out)
      rintro e w54 ⟨rfl, hb⟩
      have HS7_ := (hb.cell (World.block_lt_of_cell? _ _ (hHeld.2.2.2.2.2.2.2.1))).trans (hHeld.2.2.2.2.2.2.2.1)
      refine ⟨_, rfl, ?_⟩
      have n0_ := Aside0.mk (Kd.R_below (by (with_reducible repeat (first | apply Kd.R_alloc | apply Kd.R_drewN | apply Kd.R_drew)); exact HO_452000.out) hb)
      have n1_ := Aside0.mk (Kd.R_below (by (with_reducible repeat (first | apply Kd.R_alloc | apply Kd.R_drewN | apply Kd.R_drew)); exact HO_452001.out) hb)
      have n2_ := Aside0.mk (blk_below (g := gb449) (o := .cells #[.int .i64 a0_0, .bool a0_1, .slice A0_2 l0_2.length c0_2] 24 (0, 0)) (by (with_reducible repeat (first | refine blk_drewN ?_ _ | refine blk_drew ?_ | refine blk_alloc ?_ _)); exact BK449.out) hb)
      have n3_ := Aside0.mk (blk_below (g := gb450) (o := .cells #[.slice none 0 0, .slice none 0 0] 161 (0, 0)) (by (with_reducible repeat (first | refine blk_drewN ?_ _ | refine blk_drew ?_ | refine blk_alloc ?_ _)); exact BK450.out) hb)
      have n4_ := Aside0.mk (blk_below (g := gb451) (o := .cells #[.slice (some ad460) x452000_2.length co52, u452001] 161 (0, 0)) (by (with_reducible repeat (first | refine blk_drewN ?_ _ | refine blk_drew ?_ | refine blk_alloc ?_ _)); exact BK451.out) hb)
      have n5_ := Aside0.mk (below_step (by repeat (first | (with_reducible first | exact HB.out | apply below_alloc | apply pw_below_drewN | apply below_drew1 | refine below_set ?_ GE449.out | refine below_set ?_ GE450.out | refine below_set ?_ GE451.out) | exact HB.out)) hb)
      clear HO_452000
      clear HO_452001
      clear BK449
      clear BK450
      clear BK451
      clear HB
      have HO_452000 := n0_
      have HO_452001 := n1_
      have BK449 := n2_
      have BK450 := n3_
      have BK451 := n4_
      have HB := n5_
      clear n0_ n1_ n2_ n3_ n4_ n5_
      (try clear hb)
      (try clear hb2)
      (try clear hk)
      (try clear hi)
      obtain ⟨Ao55, co55, eo55⟩ := Kd.R_slice HO_452001.out
      (first | subst eo55 | (injection eo55 with f1_ f2_ f3_; have f4_ := f1_.symm; have f5_ := f3_.symm; clear f1_ f2_ f3_; subst f4_; subst f5_))
      refine hK.out _ _ ⟨(blk_cell BK449.out 0).trans rfl, (blk_cell BK449.out 1).trans rfl, (blk_cell BK449.out 2).trans rfl, (blk_cell BK451.out 0).trans rfl, (blk_cell BK451.out 1).trans rfl, ((HB.out.cell (World.block_lt_of_cell? w _ hw458_0)).trans hw458_0), ((HB.out.cell (World.block_lt_of_cell? w _ hw458_1)).trans hw458_1), HS7_, ((HB.out.cell (World.block_lt_of_cell? w _ hw461_0)).trans hw461_0), ((HB.out.cell (World.block_lt_of_cell? w _ hw461_1)).trans hw461_1)⟩ (fun hHeld => ?_)
      clear hK K
      refine norm_ (a' := ?_) ?_ ?_
      rotate_left
      ·show Act.put _ (some 54) _ = _
       simp only [Act.put, List.setIfInBounds_toArray, List.set_cons_zero, List.set_cons_succ, i64_w, i32_w]
       rfl
      refine one_ (i := 20) (N := some 55) #[true, true, true, true, true, true, true, true, true, true, true, true, true, true, true, true, true, true, true, true, true, false, false] rfl rfl (one_of HT_.out (by kernel_rfl)) (by decide) (fun K hK => ?_)
      refine goes_ Try.func147 (by kernel_rfl) rfl #[.agg #[.slice (some ad460) x452000_2.length co52, .slice Ao55 x452001_2.length co55], .int .i64 t462] (by rfl) rfl rfl (by (try simp only [List.map_toArray, List.map_cons, List.map_nil]); first | done | rfl | (simp only [List.length_drop, List.length_take]; rfl)) ?_
      with_reducible refine (ebbtideref08_found_has.calls k2 _ _ x452000_2 _ _ x452001_2 t462 t463 _ ?side1 ?side2 ?side3 ?side4 A30.out).mono ?_
      (case side1 => repeat (first | exact (Kd.R_reads' HO_452000.out).2.2 | (with_reducible refine Kd.C_alloc ?_ _) | (with_reducible refine Kd.C_drewN ?_ _) | (with_reducible refine Kd.C_drew ?_)))
      (case side2 => exact (Kd.R_reads' HO_452000.out).2.1)
      (case side3 => repeat (first | exact (Kd.R_reads' HO_452001.out).2.2 | (with_reducible refine Kd.C_alloc ?_ _) | (with_reducible refine Kd.C_drewN ?_ _) | (with_reducible refine Kd.C_drew ?_)))
      (case side4 => exact (Kd.R_reads' HO_452001.out).2.1)
      rintro e w56 ⟨rfl, hb⟩
      have HS7_ := (hb.cell (World.block_lt_of_cell? _ _ (hHeld.2.2.2.2.2.2.2.1))).trans (hHeld.2.2.2.2.2.2.2.1)
      refine ⟨_, rfl, ?_⟩
      have n0_ := Aside0.mk (Kd.R_below (by (with_reducible repeat (first | apply Kd.R_alloc | apply Kd.R_drewN | apply Kd.R_drew)); exact HO_452000.out) hb)
      have n1_ := Aside0.mk (Kd.R_below (by (with_reducible repeat (first | apply Kd.R_alloc | apply Kd.R_drewN | apply Kd.R_drew)); exact HO_452001.out) hb)
      have n2_ := Aside0.mk (blk_below (g := gb449) (o := .cells #[.int .i64 a0_0, .bool a0_1, .slice A0_2 l0_2.length c0_2] 24 (0, 0)) (by (with_reducible repeat (first | refine blk_drewN ?_ _ | refine blk_drew ?_ | refine blk_alloc ?_ _)); exact BK449.out) hb)
      have n3_ := Aside0.mk (blk_below (g := gb450) (o := .cells #[.slice none 0 0, .slice none 0 0] 161 (0, 0)) (by (with_reducible repeat (first | refine blk_drewN ?_ _ | refine blk_drew ?_ | refine blk_alloc ?_ _)); exact BK450.out) hb)
      have n4_ := Aside0.mk (blk_below (g := gb451) (o := .cells #[.slice (some ad460) x452000_2.length co52, .slice Ao55 x452001_2.length co55] 161 (0, 0)) (by (with_reducible repeat (first | refine blk_drewN ?_ _ | refine blk_drew ?_ | refine blk_alloc ?_ _)); exact BK451.out) hb)
      have n5_ := Aside0.mk (below_step (by repeat (first | (with_reducible first | exact HB.out | apply below_alloc | apply pw_below_drewN | apply below_drew1 | refine below_set ?_ GE449.out | refine below_set ?_ GE450.out | refine below_set ?_ GE451.out) | exact HB.out)) hb)
      clear HO_452000
      clear HO_452001
      clear BK449
      clear BK450
      clear BK451
      clear HB
      have HO_452000 := n0_
      have HO_452001 := n1_
      have BK449 := n2_
      have BK450 := n3_
      have BK451 := n4_
      have HB := n5_
      clear n0_ n1_ n2_ n3_ n4_ n5_
      (try clear hb)
      (try clear hb2)
      (try clear hk)
      (try clear hi)
      refine hK.out _ _ ⟨(blk_cell BK449.out 0).trans rfl, (blk_cell BK449.out 1).trans rfl, (blk_cell BK449.out 2).trans rfl, (blk_cell BK451.out 0).trans rfl, (blk_cell BK451.out 1).trans rfl, ((HB.out.cell (World.block_lt_of_cell? w _ hw458_0)).trans hw458_0), ((HB.out.cell (World.block_lt_of_cell? w _ hw458_1)).trans hw458_1), HS7_, ((HB.out.cell (World.block_lt_of_cell? w _ hw461_0)).trans hw461_0), ((HB.out.cell (World.block_lt_of_cell? w _ hw461_1)).trans hw461_1)⟩ (fun hHeld => ?_)
      clear hK K
      refine norm_ (a' := ?_) ?_ ?_
      rotate_left
      ·show Act.put _ (some 55) _ = _
       simp only [Act.put, List.setIfInBounds_toArray, List.set_cons_zero, List.set_cons_succ, i64_w, i32_w]
       rfl
      refine pure_ (i := 21) (N := some 56) (v := ?_) (a' := ?_) #[true, true, true, true, true, true, true, true, true, true, true, true, true, true, true, true, true, true, true, true, true, true, false] rfl rfl (any_of HT_.out (by kernel_rfl)) (fun _ _ _ h => h) (Or.inl ⟨by rfl, ?_⟩) ?_ ?_
      rotate_left
      ·intro w'
       go_simp
       with_reducible rfl
      rotate_left
      ·simp only [Act.put, List.setIfInBounds_toArray, List.set_cons_zero, List.set_cons_succ, i64_w, i32_w]
       rfl
      refine pure_ (i := 22) (N := some 57) (v := ?_) (a' := ?_) #[true, true, true, true, true, true, true, true, true, true, true, true, true, true, true, true, true, true, true, true, true, true, true] rfl rfl (any_of HT_.out (by kernel_rfl)) (fun _ _ _ h => h) (Or.inl ⟨by rfl, ?_⟩) ?_ ?_
      rotate_left
      ·intro w'
       go_simp
       with_reducible rfl
      rotate_left
      ·simp only [Act.put, List.setIfInBounds_toArray, List.set_cons_zero, List.set_cons_succ, i64_w, i32_w]
       rfl
      refine done_ (done_of HT_.out (by kernel_rfl)) ?_
      try go_wp2
      go_roundg k2
      case measure => have := HK1.out; have := HK2.out; omega
      case rel => exact ⟨(wrap64 (x9_2 + 1)), (x452000_2), (x452001_2), (.slice (some ad460) x452000_2.length co52), (.slice Ao55 x452001_2.length co55), (by first | rfl | (simp; done) | (simp [*]; done)), H', ⟨by have := HK1.out; have := HK2.out; omega⟩, ⟨by (with_reducible repeat (first | apply Kd.R_alloc | apply Kd.R_drewN | apply Kd.R_drew)); exact HO_452000.out⟩, ⟨by (with_reducible repeat (first | apply Kd.R_alloc | apply Kd.R_drewN | apply Kd.R_drew)); exact HO_452001.out⟩, ⟨by (with_reducible repeat (first | refine blk_drewN ?_ _ | refine blk_drew ?_ | refine blk_alloc ?_ _)); exact BK449.out⟩, ⟨by (with_reducible repeat (first | refine blk_drewN ?_ _ | refine blk_drew ?_ | refine blk_alloc ?_ _)); exact BK450.out⟩, ⟨by (with_reducible repeat (first | refine blk_drewN ?_ _ | refine blk_drew ?_ | refine blk_alloc ?_ _)); exact BK451.out⟩, ⟨by repeat (first | (with_reducible first | exact HB.out | apply below_alloc | apply pw_below_drewN | apply below_drew1 | refine below_set ?_ GE449.out | refine below_set ?_ GE450.out | refine below_set ?_ GE451.out) | exact HB.out)⟩⟩
     rw [if_pos c31] at H
     have c31b0 : decide (t463 < 0) = true := decide_eq_true c31
     clear c31
     replace H := Option.bind_eq_some_iff.mp H
     obtain ⟨t465, A320, H⟩ := H
     replace H : (if x452000_2.length < 17592186044416 then (if x452001_2.length < 8796093022208 then (ebbtideref08_sought.l1 k2 l2 x8_1 (wrap64 (x9_2 + 1)) a0_0 a0_1 l0_2 (x452000_2 ++ [t465]) (x452001_2 ++ [(⟨(rd_T38 l2 x9_2).f0, (rd_T38 l2 x9_2).f1⟩ : S38)])) else (none)) else (none)) = some (r1, r2) := H
     have A32 := Aside0.mk A320
     clear A320
     by_cases c33 : x452000_2.length < 17592186044416
     rotate_left
     ·rw [if_neg c33] at H
      exact absurd H (by simp)
     rw [if_pos c33] at H
     have LMc33 := Aside0.mk c33
     clear c33
     obtain ⟨y466, hy466⟩ : ∃ y_ : List Int, y_ = (x452000_2 ++ [t465]) := ⟨_, rfl⟩
     replace H : (if x452001_2.length < 8796093022208 then (ebbtideref08_sought.l1 k2 l2 x8_1 (wrap64 (x9_2 + 1)) a0_0 a0_1 l0_2 y466 (x452001_2 ++ [(⟨(rd_T38 l2 x9_2).f0, (rd_T38 l2 x9_2).f1⟩ : S38)])) else (none)) = some (r1, r2) := by first | (rw [hy466]; with_reducible exact H) | (have H2_ := (Option.bind_some _ _).symm.trans H; rw [hy466]; with_reducible exact H2_) | (have H2_ := (Option.bind_some _ _).symm.trans H; with_reducible exact H2_) | with_reducible exact H | (rw [hy466]; exact H) | exact H
     have Ny466 := Aside0.mk hy466
     clear hy466
     by_cases c34 : x452001_2.length < 8796093022208
     rotate_left
     ·rw [if_neg c34] at H
      exact absurd H (by simp)
     rw [if_pos c34] at H
     have LMc34 := Aside0.mk c34
     clear c34
     obtain ⟨y470, hy470⟩ : ∃ y_ : List (S38), y_ = (x452001_2 ++ [(⟨(rd_T38 l2 x9_2).f0, (rd_T38 l2 x9_2).f1⟩ : S38)]) := ⟨_, rfl⟩
     replace H : (ebbtideref08_sought.l1 k2 l2 x8_1 (wrap64 (x9_2 + 1)) a0_0 a0_1 l0_2 y466 y470) = some (r1, r2) := by first | (rw [hy470]; with_reducible exact H) | (have H2_ := (Option.bind_some _ _).symm.trans H; rw [hy470]; with_reducible exact H2_) | (have H2_ := (Option.bind_some _ _).symm.trans H; with_reducible exact H2_) | with_reducible exact H | (rw [hy470]; exact H) | exact H
     have Ny470 := Aside0.mk hy470
     clear hy470
     have H' := Aside0.mk H
     clear H
     try go_wp2
     have n0_ := Aside0.mk (Kd.R_drew HO_452000.out)
     have n1_ := Aside0.mk (Kd.R_drew HO_452001.out)
     have n2_ := Aside0.mk (blk_drew BK449.out)
     have n3_ := Aside0.mk (blk_drew BK450.out)
     have n4_ := Aside0.mk (blk_drew BK451.out)
     have n5_ := Aside0.mk (below_drew1 HB.out)
     clear HO_452000
     clear HO_452001
     clear BK449
     clear BK450
     clear BK451
     clear HB
     have HO_452000 := n0_
     have HO_452001 := n1_
     have BK449 := n2_
     have BK450 := n3_
     have BK451 := n4_
     have HB := n5_
     clear n0_ n1_ n2_ n3_ n4_ n5_
     have p458 : 0 ≤ (x9_2 : Int) := of_decide_eq_true (by first | (with_reducible assumption) | assumption)
     have q458 : x9_2 < (l2.length : Int) := of_decide_eq_true (by first | (with_reducible assumption) | assumption)
     obtain ⟨ad458, e458, hx458_0, hx458_1⟩ := at_T38 HR2.out x9_2 p458 q458
     have hw458_1 := hx458_1
     have hw458_0 := hx458_0
     cases e458
     replace hx458_0 := (HB.out.cell (World.block_lt_of_cell? w _ hx458_0)).trans hx458_0
     replace hx458_1 := (HB.out.cell (World.block_lt_of_cell? w _ hx458_1)).trans hx458_1
     replace p458 := eq_true p458
     replace q458 := eq_true q458
     obtain ⟨Ao36, co36, eo36⟩ := Kd.R_slice HO_452000.out
     (first | subst eo36 | (injection eo36 with f1_ f2_ f3_; have f4_ := f1_.symm; have f5_ := f3_.symm; clear f1_ f2_ f3_; subst f4_; subst f5_))
     have p460 : 0 ≤ (x8_1 : Int) := of_decide_eq_true (by first | (with_reducible assumption) | assumption)
     have q460 : x8_1 < (x452000_2.length : Int) := of_decide_eq_true (by first | (with_reducible assumption) | assumption)
     obtain ⟨ad460, e460, hx460_0⟩ := Kd.at_int (Kd.R_reads' HO_452000.out).2.2 x8_1 p460 q460
     cases e460
     replace p460 := eq_true p460
     replace q460 := eq_true q460
     have p461 : 0 ≤ (x9_2 : Int) := of_decide_eq_true (by first | (with_reducible assumption) | assumption)
     have q461 : x9_2 < (l2.length : Int) := of_decide_eq_true (by first | (with_reducible assumption) | assumption)
     obtain ⟨ad461, e461, hx461_0, hx461_1⟩ := at_T38 HR2.out x9_2 p461 q461
     have hw461_1 := hx461_1
     have hw461_0 := hx461_0
     obtain rfl : ad458 = ad461 := (by injection e461)
     replace hx461_0 := (HB.out.cell (World.block_lt_of_cell? w _ hx461_0)).trans hx461_0
     replace hx461_1 := (HB.out.cell (World.block_lt_of_cell? w _ hx461_1)).trans hx461_1
     replace p461 := eq_true p461
     replace q461 := eq_true q461
     refine start_ (n := 23) (S := fun w' => w'.cell? ⟨gb449, 0, none⟩ = some (.int .i64 a0_0) ∧ w'.cell? ⟨gb449, 1, none⟩ = some (.bool a0_1) ∧ w'.cell? ⟨gb449, 2, none⟩ = some (.slice A0_2 l0_2.length c0_2) ∧ w'.cell? ⟨gb451, 0, none⟩ = some (.slice (some ad460) x452000_2.length co36) ∧ w'.cell? ⟨gb451, 1, none⟩ = some (u452001) ∧ w'.cell? (ad458.add ((x9_2).toNat * 2)) = some (.int .i64 ((rd_T38 l2 x9_2).f0)) ∧ w'.cell? ⟨(ad458.add ((x9_2).toNat * 2)).block, (ad458.add ((x9_2).toNat * 2)).off + 1, none⟩ = some (.bool ((rd_T38 l2 x9_2).f1)) ∧ w'.cell? (ad460.add (x8_1).toNat) = some (.int .i64 (rd x452000_2 x8_1)) ∧ w'.cell? (ad458.add ((x9_2).toNat * 2)) = some (.int .i64 ((rd_T38 l2 x9_2).f0)) ∧ w'.cell? ⟨(ad458.add ((x9_2).toNat * 2)).block, (ad458.add ((x9_2).toNat * 2)).off + 1, none⟩ = some (.bool ((rd_T38 l2 x9_2).f1))) (ds := []) #[false, false, false, false, false, false, false, false, false, false, false, false, false, false, false, false, false, false, false, false, false, false, false] (by kernel_rfl) rfl rfl ⟨(blk_cell BK449.out 0).trans rfl, (blk_cell BK449.out 1).trans rfl, (blk_cell BK449.out 2).trans rfl, (blk_cell BK451.out 0).trans rfl, (blk_cell BK451.out 1).trans rfl, ((HB.out.cell (World.block_lt_of_cell? w _ hw458_0)).trans hw458_0), ((HB.out.cell (World.block_lt_of_cell? w _ hw458_1)).trans hw458_1), hx460_0, ((HB.out.cell (World.block_lt_of_cell? w _ hw461_0)).trans hw461_0), ((HB.out.cell (World.block_lt_of_cell? w _ hw461_1)).trans hw461_1)⟩ (fun hHeld => ?_); refine with_tabW ebbtideref08_sought.tab10 ebbtideref08_sought.bits10 (fun HT_ HW_ => ?_)
     generalize wr.drew = w35 at HO_452000 HO_452001 BK449 BK450 BK451 HB hx458_0 hx458_1 hx460_0 hx461_0 hx461_1 hHeld ⊢
     refine pure_ (i := 1) (N := some 36) (v := ?_) (a' := ?_) #[false, true, false, false, false, false, false, false, false, false, false, false, false, false, false, false, false, false, false, false, false, false, false] rfl rfl (any_of HT_.out (by kernel_rfl)) (fun _ _ _ h => h) (Or.inl ⟨by rfl, ?_⟩) ?_ ?_
     rotate_left
     ·intro w'
      go_simp
      with_reducible rfl
     rotate_left
     ·simp only [Act.put, List.setIfInBounds_toArray, List.set_cons_zero, List.set_cons_succ, i64_w, i32_w]
      rfl
     refine pure_ (i := 2) (N := some 37) (v := ?_) (a' := ?_) #[false, true, true, false, false, false, false, false, false, false, false, false, false, false, false, false, false, false, false, false, false, false, false] rfl rfl (any_of HT_.out (by kernel_rfl)) (fun _ _ _ h => h) (Or.inl ⟨by rfl, ?_⟩) ?_ ?_
     rotate_left
     ·intro w'
      go_simp
      with_reducible rfl
     rotate_left
     ·simp only [Act.put, List.setIfInBounds_toArray, List.set_cons_zero, List.set_cons_succ, i64_w, i32_w]
      rfl
     refine pure_ (i := 3) (N := some 38) (v := ?_) (a' := ?_) #[false, true, true, true, false, false, false, false, false, false, false, false, false, false, false, false, false, false, false, false, false, false, false] rfl rfl (any_of HT_.out (by kernel_rfl)) (fun _ _ _ h => h) (Or.inl ⟨by rfl, ?_⟩) ?_ ?_
     rotate_left
     ·intro w'
      go_simp
      with_reducible rfl
     rotate_left
     ·simp only [Act.put, List.setIfInBounds_toArray, List.set_cons_zero, List.set_cons_succ, i64_w, i32_w]
      rfl
     refine pure_ (i := 6) (N := some 41) (v := ?_) (a' := ?_) #[false, true, true, true, false, false, true, false, false, false, false, false, false, false, false, false, false, false, false, false, false, false, false] rfl rfl (any_of HT_.out (by kernel_rfl)) (fun _ _ _ h => h) (Or.inl ⟨by rfl, ?_⟩) ?_ ?_
     rotate_left
     ·intro w'
      go_simp
      with_reducible rfl
     rotate_left
     ·simp only [Act.put, List.setIfInBounds_toArray, List.set_cons_zero, List.set_cons_succ, i64_w, i32_w]
      rfl
     refine pure_ (i := 8) (N := some 43) (v := ?_) (a' := ?_) #[false, true, true, true, false, false, true, false, true, false, false, false, false, false, false, false, false, false, false, false, false, false, false] rfl rfl (any_of HT_.out (by kernel_rfl)) (fun _ _ _ h => h) (Or.inl ⟨by rfl, ?_⟩) ?_ ?_
     rotate_left
     ·intro w'
      go_simp
      with_reducible rfl
     rotate_left
     ·simp only [Act.put, List.setIfInBounds_toArray, List.set_cons_zero, List.set_cons_succ, i64_w, i32_w]
      rfl
     refine take_ (i := 0) (N := some 35) (v := ?_) (a' := ?_) #[true, true, true, true, false, false, true, false, true, false, false, false, false, false, false, false, false, false, false, false, false, false, false] rfl rfl (take_ofW HT_.out HW_.out (by kernel_rfl)) (fun _ _ _ h => h) (Or.inl ⟨by rfl, ?_⟩) hHeld ?_ ?_
     rotate_left
     ·rintro w' ⟨s0, s1, s2, s3, s4, s5, s6, s7, s8, s9⟩
      go_simp
      with_reducible rfl
     rotate_left
     ·simp only [Act.put, List.setIfInBounds_toArray, List.set_cons_zero, List.set_cons_succ, i64_w, i32_w]
      rfl
     refine take_ (i := 4) (N := some 39) (v := ?_) (a' := ?_) #[true, true, true, true, true, false, true, false, true, false, false, false, false, false, false, false, false, false, false, false, false, false, false] rfl rfl (take_ofW HT_.out HW_.out (by kernel_rfl)) (fun _ _ _ h => h) (Or.inl ⟨by rfl, ?_⟩) hHeld ?_ ?_
     rotate_left
     ·rintro w' ⟨s0, s1, s2, s3, s4, s5, s6, s7, s8, s9⟩
      go_simp
      with_reducible rfl
     rotate_left
     ·simp only [Act.put, List.setIfInBounds_toArray, List.set_cons_zero, List.set_cons_succ, i64_w, i32_w]
      rfl
     refine take_ (i := 7) (N := some 42) (v := ?_) (a' := ?_) #[true, true, true, true, true, false, true, true, true, false, false, false, false, false, false, false, false, false, false, false, false, false, false] rfl rfl (take_ofW HT_.out HW_.out (by kernel_rfl)) (fun _ _ _ h => h) (Or.inl ⟨by rfl, ?_⟩) hHeld ?_ ?_
     rotate_left
     ·rintro w' ⟨s0, s1, s2, s3, s4, s5, s6, s7, s8, s9⟩
      go_simp
      with_reducible rfl
     rotate_left
     ·simp only [Act.put, List.setIfInBounds_toArray, List.set_cons_zero, List.set_cons_succ, i64_w, i32_w]
      rfl
     refine pure_ (i := 9) (N := some 44) (v := ?_) (a' := ?_) #[true, true, true, true, true, false, true, true, true, true, false, false, false, false, false, false, false, false, false, false, false, false, false] rfl rfl (any_of HT_.out (by kernel_rfl)) (fun _ _ _ h => h) (Or.inl ⟨by rfl, ?_⟩) ?_ ?_
     rotate_left
     ·intro w'
      go_simp
      with_reducible rfl
     rotate_left
     ·simp only [Act.put, List.setIfInBounds_toArray, List.set_cons_zero, List.set_cons_succ, i64_w, i32_w]
      rfl
     refine take_ (i := 10) (N := some 45) (v := ?_) (a' := ?_) #[true, true, true, true, true, false, true, true, true, true, true, false, false, false, false, false, false, false, false, false, false, false, false] rfl rfl (take_ofW HT_.out HW_.out (by kernel_rfl)) (fun _ _ _ h => h) (Or.inl ⟨by rfl, ?_⟩) hHeld ?_ ?_
     rotate_left
     ·rintro w' ⟨s0, s1, s2, s3, s4, s5, s6, s7, s8, s9⟩
      go_simp
      with_reducible rfl
     rotate_left
     ·simp only [Act.put, List.setIfInBounds_toArray, List.set_cons_zero, List.set_cons_succ, i64_w, i32_w]
      rfl
     refine one_ (i := 5) (N := some 40) #[true, true, true, true, true, true, true, true, true, true, true, false, false, false, false, false, false, false, false, false, false, false, false] rfl rfl (one_of HT_.out (by kernel_rfl)) (by decide) (fun K hK => ?_)
     refine goes_ Try.func44 (by kernel_rfl) rfl #[.agg #[.int .i64 a0_0, .bool a0_1, .slice A0_2 l0_2.length c0_2], .agg #[.int .i64 ((rd_T38 l2 x9_2).f0), .bool ((rd_T38 l2 x9_2).f1)]] (by rfl) rfl rfl (by (try simp only [List.map_toArray, List.map_cons, List.map_nil]); first | done | rfl | (simp only [List.length_drop, List.length_take]; rfl)) ?_
     with_reducible refine (ebbtideref07_From.calls a0_0 a0_1 _ _ l0_2 ((rd_T38 l2 x9_2).f0) ((rd_T38 l2 x9_2).f1) t459 _ ?side1 ?side2 A25.out).mono ?_
     (case side1 => repeat (first | exact (Kd.C_below HR0_2.out HB.out) | (with_reducible refine Kd.C_alloc ?_ _) | (with_reducible refine Kd.C_drewN ?_ _) | (with_reducible refine Kd.C_drew ?_)))
     (case side2 => exact HC0_2.out)
     rintro e w37 ⟨rfl, hb⟩
     have HS7_ := (hb.cell (World.block_lt_of_cell? _ _ (hHeld.2.2.2.2.2.2.2.1))).trans (hHeld.2.2.2.2.2.2.2.1)
     refine ⟨_, rfl, ?_⟩
     have n0_ := Aside0.mk (Kd.R_below (by (with_reducible repeat (first | apply Kd.R_alloc | apply Kd.R_drewN | apply Kd.R_drew)); exact HO_452000.out) hb)
     have n1_ := Aside0.mk (Kd.R_below (by (with_reducible repeat (first | apply Kd.R_alloc | apply Kd.R_drewN | apply Kd.R_drew)); exact HO_452001.out) hb)
     have n2_ := Aside0.mk (blk_below (g := gb449) (o := .cells #[.int .i64 a0_0, .bool a0_1, .slice A0_2 l0_2.length c0_2] 24 (0, 0)) (by (with_reducible repeat (first | refine blk_drewN ?_ _ | refine blk_drew ?_ | refine blk_alloc ?_ _)); exact BK449.out) hb)
     have n3_ := Aside0.mk (blk_below (g := gb450) (o := .cells #[.slice none 0 0, .slice none 0 0] 161 (0, 0)) (by (with_reducible repeat (first | refine blk_drewN ?_ _ | refine blk_drew ?_ | refine blk_alloc ?_ _)); exact BK450.out) hb)
     have n4_ := Aside0.mk (blk_below (g := gb451) (o := .cells #[.slice (some ad460) x452000_2.length co36, u452001] 161 (0, 0)) (by (with_reducible repeat (first | refine blk_drewN ?_ _ | refine blk_drew ?_ | refine blk_alloc ?_ _)); exact BK451.out) hb)
     have n5_ := Aside0.mk (below_step (by repeat (first | (with_reducible first | exact HB.out | apply below_alloc | apply pw_below_drewN | apply below_drew1 | refine below_set ?_ GE449.out | refine below_set ?_ GE450.out | refine below_set ?_ GE451.out) | exact HB.out)) hb)
     clear HO_452000
     clear HO_452001
     clear BK449
     clear BK450
     clear BK451
     clear HB
     have HO_452000 := n0_
     have HO_452001 := n1_
     have BK449 := n2_
     have BK450 := n3_
     have BK451 := n4_
     have HB := n5_
     clear n0_ n1_ n2_ n3_ n4_ n5_
     (try clear hb)
     (try clear hb2)
     (try clear hk)
     (try clear hi)
     refine hK.out _ _ ⟨(blk_cell BK449.out 0).trans rfl, (blk_cell BK449.out 1).trans rfl, (blk_cell BK449.out 2).trans rfl, (blk_cell BK451.out 0).trans rfl, (blk_cell BK451.out 1).trans rfl, ((HB.out.cell (World.block_lt_of_cell? w _ hw458_0)).trans hw458_0), ((HB.out.cell (World.block_lt_of_cell? w _ hw458_1)).trans hw458_1), HS7_, ((HB.out.cell (World.block_lt_of_cell? w _ hw461_0)).trans hw461_0), ((HB.out.cell (World.block_lt_of_cell? w _ hw461_1)).trans hw461_1)⟩ (fun hHeld => ?_)
     clear hK K
     refine norm_ (a' := ?_) ?_ ?_
     rotate_left
     ·show Act.put _ (some 40) _ = _
      simp only [Act.put, List.setIfInBounds_toArray, List.set_cons_zero, List.set_cons_succ, i64_w, i32_w]
      rfl
     refine pure_ (i := 11) (N := some 46) (v := ?_) (a' := ?_) #[true, true, true, true, true, true, true, true, true, true, true, true, false, false, false, false, false, false, false, false, false, false, false] rfl rfl (any_of HT_.out (by kernel_rfl)) (fun _ _ _ h => h) (Or.inl ⟨by rfl, ?_⟩) ?_ ?_
     rotate_left
     ·intro w'
      go_simp
      with_reducible rfl
     rotate_left
     ·simp only [Act.put, List.setIfInBounds_toArray, List.set_cons_zero, List.set_cons_succ, i64_w, i32_w]
      rfl
     refine pure_ (i := 12) (N := some 47) (v := ?_) (a' := ?_) #[true, true, true, true, true, true, true, true, true, true, true, true, true, false, false, false, false, false, false, false, false, false, false] rfl rfl (any_of HT_.out (by kernel_rfl)) (fun _ _ _ h => h) (Or.inl ⟨by rfl, ?_⟩) ?_ ?_
     rotate_left
     ·intro w'
      go_simp
      with_reducible rfl
     rotate_left
     ·simp only [Act.put, List.setIfInBounds_toArray, List.set_cons_zero, List.set_cons_succ, i64_w, i32_w]
      rfl
     refine pure_ (i := 15) (N := some 50) (v := ?_) (a' := ?_) #[true, true, true, true, true, true, true, true, true, true, true, true, true, false, false, true, false, false, false, false, false, false, false] rfl rfl (any_of HT_.out (by kernel_rfl)) (fun _ _ _ h => h) (Or.inl ⟨by rfl, ?_⟩) ?_ ?_
     rotate_left
     ·intro w'
      go_simp
      with_reducible rfl
     rotate_left
     ·simp only [Act.put, List.setIfInBounds_toArray, List.set_cons_zero, List.set_cons_succ, i64_w, i32_w]
      rfl
     refine pure_ (i := 16) (N := some 51) (v := ?_) (a' := ?_) #[true, true, true, true, true, true, true, true, true, true, true, true, true, false, false, true, true, false, false, false, false, false, false] rfl rfl (any_of HT_.out (by kernel_rfl)) (fun _ _ _ h => h) (Or.inl ⟨by rfl, ?_⟩) ?_ ?_
     rotate_left
     ·intro w'
      go_simp
      with_reducible rfl
     rotate_left
     ·simp only [Act.put, List.setIfInBounds_toArray, List.set_cons_zero, List.set_cons_succ, i64_w, i32_w]
      rfl
     refine pure_ (i := 17) (N := some 52) (v := ?_) (a' := ?_) #[true, true, true, true, true, true, true, true, true, true, true, true, true, false, false, true, true, true, false, false, false, false, false] rfl rfl (any_of HT_.out (by kernel_rfl)) (fun _ _ _ h => h) (Or.inl ⟨by rfl, ?_⟩) ?_ ?_
     rotate_left
     ·intro w'
      go_simp
      with_reducible rfl
     rotate_left
     ·simp only [Act.put, List.setIfInBounds_toArray, List.set_cons_zero, List.set_cons_succ, i64_w, i32_w]
      rfl
     refine take_ (i := 13) (N := some 48) (v := ?_) (a' := ?_) #[true, true, true, true, true, true, true, true, true, true, true, true, true, true, false, true, true, true, false, false, false, false, false] rfl rfl (take_ofW HT_.out HW_.out (by kernel_rfl)) (fun _ _ _ h => h) (Or.inl ⟨by rfl, ?_⟩) hHeld ?_ ?_
     rotate_left
     ·rintro w' ⟨s0, s1, s2, s3, s4, s5, s6, s7, s8, s9⟩
      go_simp
      with_reducible rfl
     rotate_left
     ·simp only [Act.put, List.setIfInBounds_toArray, List.set_cons_zero, List.set_cons_succ, i64_w, i32_w]
      rfl
     refine take_ (i := 14) (N := some 49) (v := ?_) (a' := ?_) #[true, true, true, true, true, true, true, true, true, true, true, true, true, true, true, true, true, true, false, false, false, false, false] rfl rfl (take_ofW HT_.out HW_.out (by kernel_rfl)) (fun _ _ _ h => h) (Or.inl ⟨by rfl, ?_⟩) hHeld ?_ ?_
     rotate_left
     ·rintro w' ⟨s0, s1, s2, s3, s4, s5, s6, s7, s8, s9⟩
      go_simp
      with_reducible rfl
     rotate_left
     ·simp only [Act.put, List.setIfInBounds_toArray, List.set_cons_zero, List.set_cons_succ, i64_w, i32_w]
      rfl
     refine take_ (i := 18) (N := some 53) (v := ?_) (a' := ?_) #[true, true, true, true, true, true, true, true, true, true, true, true, true, true, true, true, true, true, true, false, false, false, false] rfl rfl (take_ofW HT_.out HW_.out (by kernel_rfl)) (fun _ _ _ h => h) (Or.inl ⟨by rfl, ?_⟩) hHeld ?_ ?_
     rotate_left
     ·rintro w' ⟨s0, s1, s2, s3, s4, s5, s6, s7, s8, s9⟩
      go_simp
      with_reducible rfl
     rotate_left
     ·simp only [Act.put, List.setIfInBounds_toArray, List.set_cons_zero, List.set_cons_succ, i64_w, i32_w]
      rfl
     refine one_ (i := 19) (N := some 54) #[true, true, true, true, true, true, true, true, true, true, true, true, true, true, true, true, true, true, true, true, false, false, false] rfl rfl (one_of HT_.out (by kernel_rfl)) (by decide) (fun K hK => ?_)
     refine goes_ Try.func45 (by kernel_rfl) rfl #[.agg #[.int .i64 a0_0, .bool a0_1, .slice A0_2 l0_2.length c0_2], .agg #[.int .i64 ((rd_T38 l2 x9_2).f0), .bool ((rd_T38 l2 x9_2).f1)]] (by rfl) rfl rfl (by (try simp only [List.map_toArray, List.map_cons, List.map_nil]); first | done | rfl | (simp only [List.length_drop, List.length_take]; rfl)) ?_
     with_reducible refine (ebbtideref07_To.calls a0_0 a0_1 _ _ l0_2 ((rd_T38 l2 x9_2).f0) ((rd_T38 l2 x9_2).f1) t462 _ ?side1 ?side2 A29.out).mono ?_
     (case side1 => repeat (first | exact (Kd.C_below HR0_2.out HB.out) | (with_reducible refine Kd.C_alloc ?_ _) | (with_reducible refine Kd.C_drewN ?_ _) | (with_reducible refine Kd.C_drew ?_)))
     (case side2 => exact HC0_2.out)
     rintro e w38 ⟨rfl, hb⟩
     have HS7_ := (hb.cell (World.block_lt_of_cell? _ _ (hHeld.2.2.2.2.2.2.2.1))).trans (hHeld.2.2.2.2.2.2.2.1)
     refine ⟨_, rfl, ?_⟩
     have n0_ := Aside0.mk (Kd.R_below (by (with_reducible repeat (first | apply Kd.R_alloc | apply Kd.R_drewN | apply Kd.R_drew)); exact HO_452000.out) hb)
     have n1_ := Aside0.mk (Kd.R_below (by (with_reducible repeat (first | apply Kd.R_alloc | apply Kd.R_drewN | apply Kd.R_drew)); exact HO_452001.out) hb)
     have n2_ := Aside0.mk (blk_below (g := gb449) (o := .cells #[.int .i64 a0_0, .bool a0_1, .slice A0_2 l0_2.length c0_2] 24 (0, 0)) (by (with_reducible repeat (first | refine blk_drewN ?_ _ | refine blk_drew ?_ | refine blk_alloc ?_ _)); exact BK449.out) hb)
     have n3_ := Aside0.mk (blk_below (g := gb450) (o := .cells #[.slice none 0 0, .slice none 0 0] 161 (0, 0)) (by (with_reducible repeat (first | refine blk_drewN ?_ _ | refine blk_drew ?_ | refine blk_alloc ?_ _)); exact BK450.out) hb)
     have n4_ := Aside0.mk (blk_below (g := gb451) (o := .cells #[.slice (some ad460) x452000_2.length co36, u452001] 161 (0, 0)) (by (with_reducible repeat (first | refine blk_drewN ?_ _ | refine blk_drew ?_ | refine blk_alloc ?_ _)); exact BK451.out) hb)
     have n5_ := Aside0.mk (below_step (by repeat (first | (with_reducible first | exact HB.out | apply below_alloc | apply pw_below_drewN | apply below_drew1 | refine below_set ?_ GE449.out | refine below_set ?_ GE450.out | refine below_set ?_ GE451.out) | exact HB.out)) hb)
     clear HO_452000
     clear HO_452001
     clear BK449
     clear BK450
     clear BK451
     clear HB
     have HO_452000 := n0_
     have HO_452001 := n1_
     have BK449 := n2_
     have BK450 := n3_
     have BK451 := n4_
     have HB := n5_
     clear n0_ n1_ n2_ n3_ n4_ n5_
     (try clear hb)
     (try clear hb2)
     (try clear hk)
     (try clear hi)
     obtain ⟨Ao39, co39, eo39⟩ := Kd.R_slice HO_452001.out
     (first | subst eo39 | (injection eo39 with f1_ f2_ f3_; have f4_ := f1_.symm; have f5_ := f3_.symm; clear f1_ f2_ f3_; subst f4_; subst f5_))
     refine hK.out _ _ ⟨(blk_cell BK449.out 0).trans rfl, (blk_cell BK449.out 1).trans rfl, (blk_cell BK449.out 2).trans rfl, (blk_cell BK451.out 0).trans rfl, (blk_cell BK451.out 1).trans rfl, ((HB.out.cell (World.block_lt_of_cell? w _ hw458_0)).trans hw458_0), ((HB.out.cell (World.block_lt_of_cell? w _ hw458_1)).trans hw458_1), HS7_, ((HB.out.cell (World.block_lt_of_cell? w _ hw461_0)).trans hw461_0), ((HB.out.cell (World.block_lt_of_cell? w _ hw461_1)).trans hw461_1)⟩ (fun hHeld => ?_)
     clear hK K
     refine norm_ (a' := ?_) ?_ ?_
     rotate_left
     ·show Act.put _ (some 54) _ = _
      simp only [Act.put, List.setIfInBounds_toArray, List.set_cons_zero, List.set_cons_succ, i64_w, i32_w]
      rfl
     refine one_ (i := 20) (N := some 55) #[true, true, true, true, true, true, true, true, true, true, true, true, true, true, true, true, true, true, true, true, true, false, false] rfl rfl (one_of HT_.out (by kernel_rfl)) (by decide) (fun K hK => ?_)
     refine goes_ Try.func147 (by kernel_rfl) rfl #[.agg #[.slice (some ad460) x452000_2.length co36, .slice Ao39 x452001_2.length co39], .int .i64 t462] (by rfl) rfl rfl (by (try simp only [List.map_toArray, List.map_cons, List.map_nil]); first | done | rfl | (simp only [List.length_drop, List.length_take]; rfl)) ?_
     with_reducible refine (ebbtideref08_found_has.calls k2 _ _ x452000_2 _ _ x452001_2 t462 t463 _ ?side1 ?side2 ?side3 ?side4 A30.out).mono ?_
     (case side1 => repeat (first | exact (Kd.R_reads' HO_452000.out).2.2 | (with_reducible refine Kd.C_alloc ?_ _) | (with_reducible refine Kd.C_drewN ?_ _) | (with_reducible refine Kd.C_drew ?_)))
     (case side2 => exact (Kd.R_reads' HO_452000.out).2.1)
     (case side3 => repeat (first | exact (Kd.R_reads' HO_452001.out).2.2 | (with_reducible refine Kd.C_alloc ?_ _) | (with_reducible refine Kd.C_drewN ?_ _) | (with_reducible refine Kd.C_drew ?_)))
     (case side4 => exact (Kd.R_reads' HO_452001.out).2.1)
     rintro e w40 ⟨rfl, hb⟩
     have HS7_ := (hb.cell (World.block_lt_of_cell? _ _ (hHeld.2.2.2.2.2.2.2.1))).trans (hHeld.2.2.2.2.2.2.2.1)
     refine ⟨_, rfl, ?_⟩
     have n0_ := Aside0.mk (Kd.R_below (by (with_reducible repeat (first | apply Kd.R_alloc | apply Kd.R_drewN | apply Kd.R_drew)); exact HO_452000.out) hb)
     have n1_ := Aside0.mk (Kd.R_below (by (with_reducible repeat (first | apply Kd.R_alloc | apply Kd.R_drewN | apply Kd.R_drew)); exact HO_452001.out) hb)
     have n2_ := Aside0.mk (blk_below (g := gb449) (o := .cells #[.int .i64 a0_0, .bool a0_1, .slice A0_2 l0_2.length c0_2] 24 (0, 0)) (by (with_reducible repeat (first | refine blk_drewN ?_ _ | refine blk_drew ?_ | refine blk_alloc ?_ _)); exact BK449.out) hb)
     have n3_ := Aside0.mk (blk_below (g := gb450) (o := .cells #[.slice none 0 0, .slice none 0 0] 161 (0, 0)) (by (with_reducible repeat (first | refine blk_drewN ?_ _ | refine blk_drew ?_ | refine blk_alloc ?_ _)); exact BK450.out) hb)
     have n4_ := Aside0.mk (blk_below (g := gb451) (o := .cells #[.slice (some ad460) x452000_2.length co36, .slice Ao39 x452001_2.length co39] 161 (0, 0)) (by (with_reducible repeat (first | refine blk_drewN ?_ _ | refine blk_drew ?_ | refine blk_alloc ?_ _)); exact BK451.out) hb)
     have n5_ := Aside0.mk (below_step (by repeat (first | (with_reducible first | exact HB.out | apply below_alloc | apply pw_below_drewN | apply below_drew1 | refine below_set ?_ GE449.out | refine below_set ?_ GE450.out | refine below_set ?_ GE451.out) | exact HB.out)) hb)
     clear HO_452000
     clear HO_452001
     clear BK449
     clear BK450
     clear BK451
     clear HB
     have HO_452000 := n0_
     have HO_452001 := n1_
     have BK449 := n2_
     have BK450 := n3_
     have BK451 := n4_
     have HB := n5_
     clear n0_ n1_ n2_ n3_ n4_ n5_
     (try clear hb)
     (try clear hb2)
     (try clear hk)
     (try clear hi)
     refine hK.out _ _ ⟨(blk_cell BK449.out 0).trans rfl, (blk_cell BK449.out 1).trans rfl, (blk_cell BK449.out 2).trans rfl, (blk_cell BK451.out 0).trans rfl, (blk_cell BK451.out 1).trans rfl, ((HB.out.cell (World.block_lt_of_cell? w _ hw458_0)).trans hw458_0), ((HB.out.cell (World.block_lt_of_cell? w _ hw458_1)).trans hw458_1), HS7_, ((HB.out.cell (World.block_lt_of_cell? w _ hw461_0)).trans hw461_0), ((HB.out.cell (World.block_lt_of_cell? w _ hw461_1)).trans hw461_1)⟩ (fun hHeld => ?_)
     clear hK K
     refine norm_ (a' := ?_) ?_ ?_
     rotate_left
     ·show Act.put _ (some 55) _ = _
      simp only [Act.put, List.setIfInBounds_toArray, List.set_cons_zero, List.set_cons_succ, i64_w, i32_w]
      rfl
     refine pure_ (i := 21) (N := some 56) (v := ?_) (a' := ?_) #[true, true, true, true, true, true, true, true, true, true, true, true, true, true, true, true, true, true, true, true, true, true, false] rfl rfl (any_of HT_.out (by kernel_rfl)) (fun _ _ _ h => h) (Or.inl ⟨by rfl, ?_⟩) ?_ ?_
     rotate_left
     ·intro w'
      go_simp
      with_reducible rfl
     rotate_left
     ·simp only [Act.put, List.setIfInBounds_toArray, List.set_cons_zero, List.set_cons_succ, i64_w, i32_w]
      rfl
     refine pure_ (i := 22) (N := some 57) (v := ?_) (a' := ?_) #[true, true, true, true, true, true, true, true, true, true, true, true, true, true, true, true, true, true, true, true, true, true, true] rfl rfl (any_of HT_.out (by kernel_rfl)) (fun _ _ _ h => h) (Or.inl ⟨by rfl, ?_⟩) ?_ ?_
     rotate_left
     ·intro w'
      go_simp
      with_reducible rfl
     rotate_left
     ·simp only [Act.put, List.setIfInBounds_toArray, List.set_cons_zero, List.set_cons_succ, i64_w, i32_w]
      rfl
     refine done_ (done_of HT_.out (by kernel_rfl)) ?_
     try go_wp2
     have n0_ := Aside0.mk (Kd.R_drew HO_452000.out)
     have n1_ := Aside0.mk (Kd.R_drew HO_452001.out)
     have n2_ := Aside0.mk (blk_drew BK449.out)
     have n3_ := Aside0.mk (blk_drew BK450.out)
     have n4_ := Aside0.mk (blk_drew BK451.out)
     have n5_ := Aside0.mk (below_drew1 HB.out)
     clear HO_452000
     clear HO_452001
     clear BK449
     clear BK450
     clear BK451
     clear HB
     have HO_452000 := n0_
     have HO_452001 := n1_
     have BK449 := n2_
     have BK450 := n3_
     have BK451 := n4_
     have HB := n5_
     clear n0_ n1_ n2_ n3_ n4_ n5_
     have p464 : 0 ≤ (x9_2 : Int) := of_decide_eq_true (by first | (with_reducible assumption) | assumption)
     have q464 : x9_2 < (l2.length : Int) := of_decide_eq_true (by first | (with_reducible assumption) | assumption)
     obtain ⟨ad464, e464, hx464_0, hx464_1⟩ := at_T38 HR2.out x9_2 p464 q464
     have hw464_1 := hx464_1
     have hw464_0 := hx464_0
     obtain rfl : ad458 = ad464 := (by injection e464)
     replace hx464_0 := (HB.out.cell (World.block_lt_of_cell? w _ hx464_0)).trans hx464_0
     replace hx464_1 := (HB.out.cell (World.block_lt_of_cell? w _ hx464_1)).trans hx464_1
     replace p464 := eq_true p464
     replace q464 := eq_true q464
     refine start_ (n := 12) (S := fun w' => w'.cell? ⟨gb451, 0, none⟩ = some (.slice (some ad460) x452000_2.length co36) ∧ w'.cell? ⟨gb451, 1, none⟩ = some (.slice Ao39 x452001_2.length co39) ∧ w'.cell? ⟨gb449, 0, none⟩ = some (.int .i64 a0_0) ∧ w'.cell? ⟨gb449, 1, none⟩ = some (.bool a0_1) ∧ w'.cell? ⟨gb449, 2, none⟩ = some (.slice A0_2 l0_2.length c0_2) ∧ w'.cell? (ad458.add ((x9_2).toNat * 2)) = some (.int .i64 ((rd_T38 l2 x9_2).f0)) ∧ w'.cell? ⟨(ad458.add ((x9_2).toNat * 2)).block, (ad458.add ((x9_2).toNat * 2)).off + 1, none⟩ = some (.bool ((rd_T38 l2 x9_2).f1))) (ds := [11]) #[false, false, false, false, false, false, false, false, false, false, false, false] (by kernel_rfl) rfl rfl ⟨(blk_cell BK451.out 0).trans rfl, (blk_cell BK451.out 1).trans rfl, (blk_cell BK449.out 0).trans rfl, (blk_cell BK449.out 1).trans rfl, (blk_cell BK449.out 2).trans rfl, ((HB.out.cell (World.block_lt_of_cell? w _ hw464_0)).trans hw464_0), ((HB.out.cell (World.block_lt_of_cell? w _ hw464_1)).trans hw464_1)⟩ (fun hHeld => ?_); refine with_tabW ebbtideref08_sought.tab11 ebbtideref08_sought.bits11 (fun HT_ HW_ => ?_)
     generalize w40.drew = w41 at HO_452000 HO_452001 BK449 BK450 BK451 HB hx464_0 hx464_1 hHeld ⊢
     refine pure_ (i := 0) (N := some 58) (v := ?_) (a' := ?_) #[true, false, false, false, false, false, false, false, false, false, false, false] rfl rfl (any_of HT_.out (by kernel_rfl)) (fun _ _ _ h => h) (Or.inl ⟨by rfl, ?_⟩) ?_ ?_
     rotate_left
     ·intro w'
      go_simp
      with_reducible rfl
     rotate_left
     ·simp only [Act.put, List.setIfInBounds_toArray, List.set_cons_zero, List.set_cons_succ, i64_w, i32_w]
      rfl
     refine pure_ (i := 3) (N := some 61) (v := ?_) (a' := ?_) #[true, false, false, true, false, false, false, false, false, false, false, false] rfl rfl (any_of HT_.out (by kernel_rfl)) (fun _ _ _ h => h) (Or.inl ⟨by rfl, ?_⟩) ?_ ?_
     rotate_left
     ·intro w'
      go_simp
      with_reducible rfl
     rotate_left
     ·simp only [Act.put, List.setIfInBounds_toArray, List.set_cons_zero, List.set_cons_succ, i64_w, i32_w]
      rfl
     refine pure_ (i := 4) (N := some 62) (v := ?_) (a' := ?_) #[true, false, false, true, true, false, false, false, false, false, false, false] rfl rfl (any_of HT_.out (by kernel_rfl)) (fun _ _ _ h => h) (Or.inl ⟨by rfl, ?_⟩) ?_ ?_
     rotate_left
     ·intro w'
      go_simp
      with_reducible rfl
     rotate_left
     ·simp only [Act.put, List.setIfInBounds_toArray, List.set_cons_zero, List.set_cons_succ, i64_w, i32_w]
      rfl
     refine pure_ (i := 5) (N := some 63) (v := ?_) (a' := ?_) #[true, false, false, true, true, true, false, false, false, false, false, false] rfl rfl (any_of HT_.out (by kernel_rfl)) (fun _ _ _ h => h) (Or.inl ⟨by rfl, ?_⟩) ?_ ?_
     rotate_left
     ·intro w'
      go_simp
      with_reducible rfl
     rotate_left
     ·simp only [Act.put, List.setIfInBounds_toArray, List.set_cons_zero, List.set_cons_succ, i64_w, i32_w]
      rfl
     refine take_ (i := 1) (N := some 59) (v := ?_) (a' := ?_) #[true, true, false, true, true, true, false, false, false, false, false, false] rfl rfl (take_ofW HT_.out HW_.out (by kernel_rfl)) (fun _ _ _ h => h) (Or.inl ⟨by rfl, ?_⟩) hHeld ?_ ?_
     rotate_left
     ·rintro w' ⟨s0, s1, s2, s3, s4, s5, s6⟩
      go_simp
      with_reducible rfl
     rotate_left
     ·simp only [Act.put, List.setIfInBounds_toArray, List.set_cons_zero, List.set_cons_succ, i64_w, i32_w]
      rfl
     refine take_ (i := 2) (N := some 60) (v := ?_) (a' := ?_) #[true, true, true, true, true, true, false, false, false, false, false, false] rfl rfl (take_ofW HT_.out HW_.out (by kernel_rfl)) (fun _ _ _ h => h) (Or.inl ⟨by rfl, ?_⟩) hHeld ?_ ?_
     rotate_left
     ·rintro w' ⟨s0, s1, s2, s3, s4, s5, s6⟩
      go_simp
      with_reducible rfl
     rotate_left
     ·simp only [Act.put, List.setIfInBounds_toArray, List.set_cons_zero, List.set_cons_succ, i64_w, i32_w]
      rfl
     refine take_ (i := 6) (N := some 64) (v := ?_) (a' := ?_) #[true, true, true, true, true, true, true, false, false, false, false, false] rfl rfl (take_ofW HT_.out HW_.out (by kernel_rfl)) (fun _ _ _ h => h) (Or.inl ⟨by rfl, ?_⟩) hHeld ?_ ?_
     rotate_left
     ·rintro w' ⟨s0, s1, s2, s3, s4, s5, s6⟩
      go_simp
      with_reducible rfl
     rotate_left
     ·simp only [Act.put, List.setIfInBounds_toArray, List.set_cons_zero, List.set_cons_succ, i64_w, i32_w]
      rfl
     refine one_ (i := 7) (N := some 65) #[true, true, true, true, true, true, true, true, false, false, false, false] rfl rfl (one_of HT_.out (by kernel_rfl)) (by decide) (fun K hK => ?_)
     refine goes_ Try.func45 (by kernel_rfl) rfl #[.agg #[.int .i64 a0_0, .bool a0_1, .slice A0_2 l0_2.length c0_2], .agg #[.int .i64 ((rd_T38 l2 x9_2).f0), .bool ((rd_T38 l2 x9_2).f1)]] (by rfl) rfl rfl (by (try simp only [List.map_toArray, List.map_cons, List.map_nil]); first | done | rfl | (simp only [List.length_drop, List.length_take]; rfl)) ?_
     with_reducible refine (ebbtideref07_To.calls a0_0 a0_1 _ _ l0_2 ((rd_T38 l2 x9_2).f0) ((rd_T38 l2 x9_2).f1) t465 _ ?side1 ?side2 A32.out).mono ?_
     (case side1 => repeat (first | exact (Kd.C_below HR0_2.out HB.out) | (with_reducible refine Kd.C_alloc ?_ _) | (with_reducible refine Kd.C_drewN ?_ _) | (with_reducible refine Kd.C_drew ?_)))
     (case side2 => exact HC0_2.out)
     rintro e w42 ⟨rfl, hb⟩
     refine ⟨_, rfl, ?_⟩
     have n0_ := Aside0.mk (Kd.R_below (by (with_reducible repeat (first | apply Kd.R_alloc | apply Kd.R_drewN | apply Kd.R_drew)); exact HO_452000.out) hb)
     have n1_ := Aside0.mk (Kd.R_below (by (with_reducible repeat (first | apply Kd.R_alloc | apply Kd.R_drewN | apply Kd.R_drew)); exact HO_452001.out) hb)
     have n2_ := Aside0.mk (blk_below (g := gb449) (o := .cells #[.int .i64 a0_0, .bool a0_1, .slice A0_2 l0_2.length c0_2] 24 (0, 0)) (by (with_reducible repeat (first | refine blk_drewN ?_ _ | refine blk_drew ?_ | refine blk_alloc ?_ _)); exact BK449.out) hb)
     have n3_ := Aside0.mk (blk_below (g := gb450) (o := .cells #[.slice none 0 0, .slice none 0 0] 161 (0, 0)) (by (with_reducible repeat (first | refine blk_drewN ?_ _ | refine blk_drew ?_ | refine blk_alloc ?_ _)); exact BK450.out) hb)
     have n4_ := Aside0.mk (blk_below (g := gb451) (o := .cells #[.slice (some ad460) x452000_2.length co36, .slice Ao39 x452001_2.length co39] 161 (0, 0)) (by (with_reducible repeat (first | refine blk_drewN ?_ _ | refine blk_drew ?_ | refine blk_alloc ?_ _)); exact BK451.out) hb)
     have n5_ := Aside0.mk (below_step (by repeat (first | (with_reducible first | exact HB.out | apply below_alloc | apply pw_below_drewN | apply below_drew1 | refine below_set ?_ GE449.out | refine below_set ?_ GE450.out | refine below_set ?_ GE451.out) | exact HB.out)) hb)
     clear HO_452000
     clear HO_452001
     clear BK449
     clear BK450
     clear BK451
     clear HB
     have HO_452000 := n0_
     have HO_452001 := n1_
     have BK449 := n2_
     have BK450 := n3_
     have BK451 := n4_
     have HB := n5_
     clear n0_ n1_ n2_ n3_ n4_ n5_
     (try clear hb)
     (try clear hb2)
     (try clear hk)
     (try clear hi)
     refine hK.out _ _ ⟨(blk_cell BK451.out 0).trans rfl, (blk_cell BK451.out 1).trans rfl, (blk_cell BK449.out 0).trans rfl, (blk_cell BK449.out 1).trans rfl, (blk_cell BK449.out 2).trans rfl, ((HB.out.cell (World.block_lt_of_cell? w _ hw464_0)).trans hw464_0), ((HB.out.cell (World.block_lt_of_cell? w _ hw464_1)).trans hw464_1)⟩ (fun hHeld => ?_)
     clear hK K
     refine norm_ (a' := ?_) ?_ ?_
     rotate_left
     ·show Act.put _ (some 65) _ = _
      simp only [Act.put, List.setIfInBounds_toArray, List.set_cons_zero, List.set_cons_succ, i64_w, i32_w]
      rfl
     refine one_ (i := 8) (N := some 66) #[true, true, true, true, true, true, true, true, true, false, false, false] rfl rfl (one_of HT_.out (by kernel_rfl)) (by decide) (fun K hK => ?_)
     refine value_ (w1 := ?_) (v := ?_) (by rfl) rfl ?_ ?_
     rotate_left 2
     ·go_simp
      constructor
      ·rfl
      ·rfl
     refine hK.out _ _ ⟨(blk_cell (blk_alloc BK451.out _) 0).trans rfl, (blk_cell (blk_alloc BK451.out _) 1).trans rfl, (blk_cell (blk_alloc BK449.out _) 0).trans rfl, (blk_cell (blk_alloc BK449.out _) 1).trans rfl, (blk_cell (blk_alloc BK449.out _) 2).trans rfl, (World.cell?_alloc_lt _ _ _ (World.block_lt_of_cell? _ _ (((HB.out.cell (World.block_lt_of_cell? w _ hw464_0)).trans hw464_0)))).trans (((HB.out.cell (World.block_lt_of_cell? w _ hw464_0)).trans hw464_0)), (World.cell?_alloc_lt _ _ _ (World.block_lt_of_cell? _ _ (((HB.out.cell (World.block_lt_of_cell? w _ hw464_1)).trans hw464_1)))).trans (((HB.out.cell (World.block_lt_of_cell? w _ hw464_1)).trans hw464_1))⟩ (fun hHeld => ?_)
     clear hK K
     refine norm_ (a' := ?_) ?_ ?_
     rotate_left
     ·show Act.put _ (some 66) _ = _
      simp only [Act.put, List.setIfInBounds_toArray, List.set_cons_zero, List.set_cons_succ, i64_w, i32_w]
      rfl
     refine one_ (i := 9) (N := some 67) #[true, true, true, true, true, true, true, true, true, true, false, false] rfl rfl (one_of HT_.out (by kernel_rfl)) (by decide) (fun K hK => ?_)
     refine Kd.R_append_step (Kd.int .i64) (w0 := w) w.heap.size (by rfl) (.tmp 59) (.tmp 66) 25 3 (.int .i64 0) 8 rfl Try.underlying25 info3 rfl (by decide) (by omega) (.slice (some ad460) x452000_2.length co36) x452000_2 t465 [.int .i64 t465] (fun _ => True) (fun _ => False) rfl rfl ?aP (fun _ hk => hk.elim) ?aF ?aO ?aB ?aS ?aL ?_
     (case aP => exact rfl)
     (case aB => exact (by repeat (first | (with_reducible first | exact HB.out | apply below_alloc | apply pw_below_drewN | apply below_drew1 | refine below_set ?_ GE449.out | refine below_set ?_ GE450.out | refine below_set ?_ GE451.out) | exact HB.out)))
     (case aF => exact (fun _ _ => trivial))
     (case aO => exact (by (with_reducible repeat (first | apply Kd.R_alloc | apply Kd.R_drewN | apply Kd.R_drew)); exact HO_452000.out))
     (case aS => exact (below_size (by repeat (first | (with_reducible first | exact HB.out | apply below_alloc | apply pw_below_drewN | apply below_drew1 | refine below_set ?_ GE449.out | refine below_set ?_ GE450.out | refine below_set ?_ GE451.out) | exact HB.out))))
     (case aL => have := LMc33.out; omega)
     intro v467 w43 ho hb hg hat
     rw [← Ny466.out] at ho
     have n0_ := Aside0.mk (Kd.R_over' (by (with_reducible repeat (first | apply Kd.R_alloc | apply Kd.R_drewN | apply Kd.R_drew)); exact HO_452001.out) (Kd.R_typed (by (with_reducible repeat (first | apply Kd.R_alloc | apply Kd.R_drewN | apply Kd.R_drew)); exact HO_452000.out)) (by decide) hg)
     have n1_ := Aside0.mk (blk_grown (g := gb449) (o := .cells #[.int .i64 a0_0, .bool a0_1, .slice A0_2 l0_2.length c0_2] 24 (0, 0)) (by (with_reducible repeat (first | refine blk_drewN ?_ _ | refine blk_drew ?_ | refine blk_alloc ?_ _)); exact BK449.out) hg (Kd.R_ne HO_452000.out BK449.out (by decide)))
     have n2_ := Aside0.mk (blk_grown (g := gb450) (o := .cells #[.slice none 0 0, .slice none 0 0] 161 (0, 0)) (by (with_reducible repeat (first | refine blk_drewN ?_ _ | refine blk_drew ?_ | refine blk_alloc ?_ _)); exact BK450.out) hg (Kd.R_ne HO_452000.out BK450.out (by decide)))
     have n3_ := Aside0.mk (blk_grown (g := gb451) (o := .cells #[.slice (some ad460) x452000_2.length co36, .slice Ao39 x452001_2.length co39] 161 (0, 0)) (by (with_reducible repeat (first | refine blk_drewN ?_ _ | refine blk_drew ?_ | refine blk_alloc ?_ _)); exact BK451.out) hg (Kd.R_ne HO_452000.out BK451.out (by decide)))
     have n4_ := Aside0.mk (hb)
     have n5_ := Aside0.mk (ho)
     clear HO_452001
     clear BK449
     clear BK450
     clear BK451
     clear HB
     clear HO_452000
     have HO_452001 := n0_
     have BK449 := n1_
     have BK450 := n2_
     have BK451 := n3_
     have HB := n4_
     have HO468 := n5_
     clear n0_ n1_ n2_ n3_ n4_ n5_
     clear ho hb hg hat
     obtain ⟨Ao44, co44, eo44⟩ := Kd.R_slice HO468.out
     (first | subst eo44 | (injection eo44 with f1_ f2_ f3_; have f4_ := f1_.symm; have f5_ := f3_.symm; clear f1_ f2_ f3_; subst f4_; subst f5_))
     refine hK.out _ _ ⟨(blk_cell BK451.out 0).trans rfl, (blk_cell BK451.out 1).trans rfl, (blk_cell BK449.out 0).trans rfl, (blk_cell BK449.out 1).trans rfl, (blk_cell BK449.out 2).trans rfl, ((HB.out.cell (World.block_lt_of_cell? w _ hw464_0)).trans hw464_0), ((HB.out.cell (World.block_lt_of_cell? w _ hw464_1)).trans hw464_1)⟩ (fun hHeld => ?_)
     clear hK K
     refine norm_ (a' := ?_) ?_ ?_
     rotate_left
     ·show Act.put _ (some 67) _ = _
      simp only [Act.put, List.setIfInBounds_toArray, List.set_cons_zero, List.set_cons_succ, i64_w, i32_w]
      rfl
     refine pure_ (i := 10) (N := some 68) (v := ?_) (a' := ?_) #[true, true, true, true, true, true, true, true, true, true, true, false] rfl rfl (any_of HT_.out (by kernel_rfl)) (fun _ _ _ h => h) (Or.inl ⟨by rfl, ?_⟩) ?_ ?_
     rotate_left
     ·intro w'
      go_simp
      with_reducible rfl
     rotate_left
     ·simp only [Act.put, List.setIfInBounds_toArray, List.set_cons_zero, List.set_cons_succ, i64_w, i32_w]
      rfl
     refine last_ (i := 11) (N := none) #[true, true, true, true, true, true, true, true, true, true, true, true] rfl rfl (one_of HT_.out (by kernel_rfl)) (by decide) (fun K hK => ?_)
     have hs45 : w43.cell? ⟨gb451, 0, none⟩ = some (.slice (some ad460) x452000_2.length co36) := (blk_cell BK451.out 0).trans rfl
     have hfs45 := blk_frozen BK451.out 0
     have hns45_0 := NB449_451.out
     have hns45_1 := NB450_451.out
     have hms45_0 := NB451_449.out
     have hms45_1 := NB451_450.out
     refine skip_ (w1 := ?_) (by rfl) rfl ?_ ?_
     rotate_left
     ·go_simp
      rfl
     refine hK.out _ _ ?_
     clear hK K
     refine done_ (done_of HT_.out (by kernel_rfl)) ?_
     try go_wp2
     have n0_ : Aside0 (Kd.R k38 38 (w43.setCell ⟨gb451, 0, none⟩ (.slice Ao44 y466.length co44)) w.heap.size (fun _ => True) (.slice Ao39 x452001_2.length co39) x452001_2) := ⟨by (with_reducible repeat (first | apply Kd.R_alloc | apply Kd.R_drewN | apply Kd.R_drew)); exact Kd.R_mono (Kd.R_far (p := ⟨gb451, 0, none⟩) (Kd.R_types HO_452001.out BK451.out (by decide)) (fun _ hk => hk.2) (.slice Ao44 y466.length co44)) (fun _ hk => trivial)⟩
     have n1_ : Aside0 (Kd.R (Kd.int .i64) 3 (w43.setCell ⟨gb451, 0, none⟩ (.slice Ao44 y466.length co44)) w.heap.size (fun _ => True) (.slice Ao44 y466.length co44) y466) := ⟨by (with_reducible repeat (first | apply Kd.R_alloc | apply Kd.R_drewN | apply Kd.R_drew)); exact Kd.R_mono (Kd.R_far (p := ⟨gb451, 0, none⟩) (Kd.R_types HO468.out BK451.out (by decide)) (fun _ hk => hk.2) (.slice Ao44 y466.length co44)) (fun _ hk => trivial)⟩
     have n2_ : Aside0 ((w43.setCell ⟨gb451, 0, none⟩ (.slice Ao44 y466.length co44)).heap[gb449]? = some (.cells #[.int .i64 a0_0, .bool a0_1, .slice A0_2 l0_2.length c0_2] 24 (0, 0))) := ⟨by (with_reducible repeat (first | refine blk_drewN ?_ _ | refine blk_drew ?_ | refine blk_alloc ?_ _)); refine blk_far ?_ NB449_451.out _; (with_reducible repeat (first | refine blk_drewN ?_ _ | refine blk_drew ?_ | refine blk_alloc ?_ _)); exact BK449.out⟩
     have n3_ : Aside0 ((w43.setCell ⟨gb451, 0, none⟩ (.slice Ao44 y466.length co44)).heap[gb450]? = some (.cells #[.slice none 0 0, .slice none 0 0] 161 (0, 0))) := ⟨by (with_reducible repeat (first | refine blk_drewN ?_ _ | refine blk_drew ?_ | refine blk_alloc ?_ _)); refine blk_far ?_ NB450_451.out _; (with_reducible repeat (first | refine blk_drewN ?_ _ | refine blk_drew ?_ | refine blk_alloc ?_ _)); exact BK450.out⟩
     have n4_ : Aside0 ((w43.setCell ⟨gb451, 0, none⟩ (.slice Ao44 y466.length co44)).heap[gb451]? = some (.cells #[.slice Ao44 y466.length co44, .slice Ao39 x452001_2.length co39] 161 (0, 0))) := ⟨by (with_reducible repeat (first | refine blk_drewN ?_ _ | refine blk_drew ?_ | refine blk_alloc ?_ _)); refine blk_put (cs := #[.slice (some ad460) x452000_2.length co36, .slice Ao39 x452001_2.length co39]) ?_ 0 _ rfl; (with_reducible repeat (first | refine blk_drewN ?_ _ | refine blk_drew ?_ | refine blk_alloc ?_ _)); exact BK451.out⟩
     have n5_ : Aside0 (Below w.heap.size w (w43.setCell ⟨gb451, 0, none⟩ (.slice Ao44 y466.length co44))) := ⟨by repeat (first | (with_reducible first | exact HB.out | apply below_alloc | apply pw_below_drewN | apply below_drew1 | refine below_set ?_ GE449.out | refine below_set ?_ GE450.out | refine below_set ?_ GE451.out) | exact HB.out)⟩
     (try clear HO_452001)
     (try clear HO468)
     (try clear BK449)
     (try clear BK450)
     (try clear BK451)
     (try clear HB)
     generalize (w43.setCell ⟨gb451, 0, none⟩ (.slice Ao44 y466.length co44)) = w46 at n0_ n1_ n2_ n3_ n4_ n5_ ⊢
     have HO_452001 := n0_
     have HO468 := n1_
     have BK449 := n2_
     have BK450 := n3_
     have BK451 := n4_
     have HB := n5_
     clear n0_ n1_ n2_ n3_ n4_ n5_
     have n0_ := Aside0.mk (Kd.R_drew HO_452001.out)
     have n1_ := Aside0.mk (Kd.R_drew HO468.out)
     have n2_ := Aside0.mk (blk_drew BK449.out)
     have n3_ := Aside0.mk (blk_drew BK450.out)
     have n4_ := Aside0.mk (blk_drew BK451.out)
     have n5_ := Aside0.mk (below_drew1 HB.out)
     clear HO_452001
     clear HO468
     clear BK449
     clear BK450
     clear BK451
     clear HB
     have HO_452001 := n0_
     have HO468 := n1_
     have BK449 := n2_
     have BK450 := n3_
     have BK451 := n4_
     have HB := n5_
     clear n0_ n1_ n2_ n3_ n4_ n5_
     have p469 : 0 ≤ (x9_2 : Int) := of_decide_eq_true (by first | (with_reducible assumption) | assumption)
     have q469 : x9_2 < (l2.length : Int) := of_decide_eq_true (by first | (with_reducible assumption) | assumption)
     obtain ⟨ad469, e469, hx469_0, hx469_1⟩ := at_T38 HR2.out x9_2 p469 q469
     have hw469_1 := hx469_1
     have hw469_0 := hx469_0
     obtain rfl : ad458 = ad469 := (by injection e469)
     replace hx469_0 := (HB.out.cell (World.block_lt_of_cell? w _ hx469_0)).trans hx469_0
     replace hx469_1 := (HB.out.cell (World.block_lt_of_cell? w _ hx469_1)).trans hx469_1
     replace p469 := eq_true p469
     replace q469 := eq_true q469
     refine start_ (n := 10) (S := fun w' => w'.cell? ⟨gb451, 0, none⟩ = some (.slice Ao44 y466.length co44) ∧ w'.cell? ⟨gb451, 1, none⟩ = some (.slice Ao39 x452001_2.length co39) ∧ w'.cell? (ad458.add ((x9_2).toNat * 2)) = some (.int .i64 ((rd_T38 l2 x9_2).f0)) ∧ w'.cell? ⟨(ad458.add ((x9_2).toNat * 2)).block, (ad458.add ((x9_2).toNat * 2)).off + 1, none⟩ = some (.bool ((rd_T38 l2 x9_2).f1))) (ds := [9]) #[false, false, false, false, false, false, false, false, false, false] (by kernel_rfl) rfl rfl ⟨(blk_cell BK451.out 0).trans rfl, (blk_cell BK451.out 1).trans rfl, ((HB.out.cell (World.block_lt_of_cell? w _ hw469_0)).trans hw469_0), ((HB.out.cell (World.block_lt_of_cell? w _ hw469_1)).trans hw469_1)⟩ (fun hHeld => ?_); refine with_tabW ebbtideref08_sought.tab12 ebbtideref08_sought.bits12 (fun HT_ HW_ => ?_)
     generalize w46.drew = w47 at HO_452001 HO468 BK449 BK450 BK451 HB hx469_0 hx469_1 hHeld ⊢
     refine pure_ (i := 0) (N := some 69) (v := ?_) (a' := ?_) #[true, false, false, false, false, false, false, false, false, false] rfl rfl (any_of HT_.out (by kernel_rfl)) (fun _ _ _ h => h) (Or.inl ⟨by rfl, ?_⟩) ?_ ?_
     rotate_left
     ·intro w'
      go_simp
      with_reducible rfl
     rotate_left
     ·simp only [Act.put, List.setIfInBounds_toArray, List.set_cons_zero, List.set_cons_succ, i64_w, i32_w]
      rfl
     refine pure_ (i := 2) (N := some 71) (v := ?_) (a' := ?_) #[true, false, true, false, false, false, false, false, false, false] rfl rfl (any_of HT_.out (by kernel_rfl)) (fun _ _ _ h => h) (Or.inl ⟨by rfl, ?_⟩) ?_ ?_
     rotate_left
     ·intro w'
      go_simp
      with_reducible rfl
     rotate_left
     ·simp only [Act.put, List.setIfInBounds_toArray, List.set_cons_zero, List.set_cons_succ, i64_w, i32_w]
      rfl
     refine pure_ (i := 3) (N := some 72) (v := ?_) (a' := ?_) #[true, false, true, true, false, false, false, false, false, false] rfl rfl (any_of HT_.out (by kernel_rfl)) (fun _ _ _ h => h) (Or.inl ⟨by rfl, ?_⟩) ?_ ?_
     rotate_left
     ·intro w'
      go_simp
      with_reducible rfl
     rotate_left
     ·simp only [Act.put, List.setIfInBounds_toArray, List.set_cons_zero, List.set_cons_succ, i64_w, i32_w]
      rfl
     refine pure_ (i := 4) (N := some 73) (v := ?_) (a' := ?_) #[true, false, true, true, true, false, false, false, false, false] rfl rfl (any_of HT_.out (by kernel_rfl)) (fun _ _ _ h => h) (Or.inl ⟨by rfl, ?_⟩) ?_ ?_
     rotate_left
     ·intro w'
      go_simp
      with_reducible rfl
     rotate_left
     ·simp only [Act.put, List.setIfInBounds_toArray, List.set_cons_zero, List.set_cons_succ, i64_w, i32_w]
      rfl
     refine take_ (i := 1) (N := some 70) (v := ?_) (a' := ?_) #[true, true, true, true, true, false, false, false, false, false] rfl rfl (take_ofW HT_.out HW_.out (by kernel_rfl)) (fun _ _ _ h => h) (Or.inl ⟨by rfl, ?_⟩) hHeld ?_ ?_
     rotate_left
     ·rintro w' ⟨s0, s1, s2, s3⟩
      go_simp
      with_reducible rfl
     rotate_left
     ·simp only [Act.put, List.setIfInBounds_toArray, List.set_cons_zero, List.set_cons_succ, i64_w, i32_w]
      rfl
     refine take_ (i := 5) (N := some 74) (v := ?_) (a' := ?_) #[true, true, true, true, true, true, false, false, false, false] rfl rfl (take_ofW HT_.out HW_.out (by kernel_rfl)) (fun _ _ _ h => h) (Or.inl ⟨by rfl, ?_⟩) hHeld ?_ ?_
     rotate_left
     ·rintro w' ⟨s0, s1, s2, s3⟩
      go_simp
      with_reducible rfl
     rotate_left
     ·simp only [Act.put, List.setIfInBounds_toArray, List.set_cons_zero, List.set_cons_succ, i64_w, i32_w]
      rfl
     refine one_ (i := 6) (N := some 75) #[true, true, true, true, true, true, true, false, false, false] rfl rfl (one_of HT_.out (by kernel_rfl)) (by decide) (fun K hK => ?_)
     refine value_ (w1 := ?_) (v := ?_) (by rfl) rfl ?_ ?_
     rotate_left 2
     ·go_simp
      constructor
      ·rfl
      ·rfl
     refine hK.out _ _ ⟨(blk_cell (blk_alloc BK451.out _) 0).trans rfl, (blk_cell (blk_alloc BK451.out _) 1).trans rfl, (World.cell?_alloc_lt _ _ _ (World.block_lt_of_cell? _ _ (((HB.out.cell (World.block_lt_of_cell? w _ hw469_0)).trans hw469_0)))).trans (((HB.out.cell (World.block_lt_of_cell? w _ hw469_0)).trans hw469_0)), (World.cell?_alloc_lt _ _ _ (World.block_lt_of_cell? _ _ (((HB.out.cell (World.block_lt_of_cell? w _ hw469_1)).trans hw469_1)))).trans (((HB.out.cell (World.block_lt_of_cell? w _ hw469_1)).trans hw469_1))⟩ (fun hHeld => ?_)
     clear hK K
     refine norm_ (a' := ?_) ?_ ?_
     rotate_left
     ·show Act.put _ (some 75) _ = _
      simp only [Act.put, List.setIfInBounds_toArray, List.set_cons_zero, List.set_cons_succ, i64_w, i32_w]
      rfl
     refine one_ (i := 7) (N := some 76) #[true, true, true, true, true, true, true, true, false, false] rfl rfl (one_of HT_.out (by kernel_rfl)) (by decide) (fun K hK => ?_)
     refine Kd.R_append_step k38 (w0 := w) w.heap.size (by rfl) (.tmp 70) (.tmp 75) 34 38 (.agg #[(.int .i64 0), (.bool false)]) 16 rfl Try.underlying34 info38 rfl (by decide) (by omega) (.slice Ao39 x452001_2.length co39) x452001_2 (⟨(rd_T38 l2 x9_2).f0, (rd_T38 l2 x9_2).f1⟩ : S38) [.int .i64 ((rd_T38 l2 x9_2).f0), .bool ((rd_T38 l2 x9_2).f1)] (fun _ => True) (fun _ => False) rfl rfl ?aP (fun _ hk => hk.elim) ?aF ?aO ?aB ?aS ?aL ?_
     (case aP => exact k38_mkM _ _ _ (⟨(rd_T38 l2 x9_2).f0, (rd_T38 l2 x9_2).f1⟩ : S38))
     (case aB => exact (by repeat (first | (with_reducible first | exact HB.out | apply below_alloc | apply pw_below_drewN | apply below_drew1 | refine below_set ?_ GE449.out | refine below_set ?_ GE450.out | refine below_set ?_ GE451.out) | exact HB.out)))
     (case aF => exact (fun _ _ => trivial))
     (case aO => exact (by (with_reducible repeat (first | apply Kd.R_alloc | apply Kd.R_drewN | apply Kd.R_drew)); exact HO_452001.out))
     (case aS => exact (below_size (by repeat (first | (with_reducible first | exact HB.out | apply below_alloc | apply pw_below_drewN | apply below_drew1 | refine below_set ?_ GE449.out | refine below_set ?_ GE450.out | refine below_set ?_ GE451.out) | exact HB.out))))
     (case aL => have := LMc34.out; omega)
     intro v471 w48 ho hb hg hat
     rw [← Ny470.out] at ho
     have n0_ := Aside0.mk (blk_grown (g := gb449) (o := .cells #[.int .i64 a0_0, .bool a0_1, .slice A0_2 l0_2.length c0_2] 24 (0, 0)) (by (with_reducible repeat (first | refine blk_drewN ?_ _ | refine blk_drew ?_ | refine blk_alloc ?_ _)); exact BK449.out) hg (Kd.R_ne HO_452001.out BK449.out (by decide)))
     have n1_ := Aside0.mk (blk_grown (g := gb450) (o := .cells #[.slice none 0 0, .slice none 0 0] 161 (0, 0)) (by (with_reducible repeat (first | refine blk_drewN ?_ _ | refine blk_drew ?_ | refine blk_alloc ?_ _)); exact BK450.out) hg (Kd.R_ne HO_452001.out BK450.out (by decide)))
     have n2_ := Aside0.mk (blk_grown (g := gb451) (o := .cells #[.slice Ao44 y466.length co44, .slice Ao39 x452001_2.length co39] 161 (0, 0)) (by (with_reducible repeat (first | refine blk_drewN ?_ _ | refine blk_drew ?_ | refine blk_alloc ?_ _)); exact BK451.out) hg (Kd.R_ne HO_452001.out BK451.out (by decide)))
     have n3_ := Aside0.mk (Kd.R_over' (by (with_reducible repeat (first | apply Kd.R_alloc | apply Kd.R_drewN | apply Kd.R_drew)); exact HO468.out) (Kd.R_typed (by (with_reducible repeat (first | apply Kd.R_alloc | apply Kd.R_drewN | apply Kd.R_drew)); exact HO_452001.out)) (by decide) hg)
     have n4_ := Aside0.mk (hb)
     have n5_ := Aside0.mk (ho)
     clear BK449
     clear BK450
     clear BK451
     clear HO468
     clear HB
     clear HO_452001
     have BK449 := n0_
     have BK450 := n1_
     have BK451 := n2_
     have HO468 := n3_
     have HB := n4_
     have HO472 := n5_
     clear n0_ n1_ n2_ n3_ n4_ n5_
     clear ho hb hg hat
     obtain ⟨Ao49, co49, eo49⟩ := Kd.R_slice HO472.out
     (first | subst eo49 | (injection eo49 with f1_ f2_ f3_; have f4_ := f1_.symm; have f5_ := f3_.symm; clear f1_ f2_ f3_; subst f4_; subst f5_))
     refine hK.out _ _ ⟨(blk_cell BK451.out 0).trans rfl, (blk_cell BK451.out 1).trans rfl, ((HB.out.cell (World.block_lt_of_cell? w _ hw469_0)).trans hw469_0), ((HB.out.cell (World.block_lt_of_cell? w _ hw469_1)).trans hw469_1)⟩ (fun hHeld => ?_)
     clear hK K
     refine norm_ (a' := ?_) ?_ ?_
     rotate_left
     ·show Act.put _ (some 76) _ = _
      simp only [Act.put, List.setIfInBounds_toArray, List.set_cons_zero, List.set_cons_succ, i64_w, i32_w]
      rfl
     refine pure_ (i := 8) (N := some 77) (v := ?_) (a' := ?_) #[true, true, true, true, true, true, true, true, true, false] rfl rfl (any_of HT_.out (by kernel_rfl)) (fun _ _ _ h => h) (Or.inl ⟨by rfl, ?_⟩) ?_ ?_
     rotate_left
     ·intro w'
      go_simp
      with_reducible rfl
     rotate_left
     ·simp only [Act.put, List.setIfInBounds_toArray, List.set_cons_zero, List.set_cons_succ, i64_w, i32_w]
      rfl
     refine last_ (i := 9) (N := none) #[true, true, true, true, true, true, true, true, true, true] rfl rfl (one_of HT_.out (by kernel_rfl)) (by decide) (fun K hK => ?_)
     have hs50 : w48.cell? ⟨gb451, 1, none⟩ = some (.slice Ao39 x452001_2.length co39) := (blk_cell BK451.out 1).trans rfl
     have hfs50 := blk_frozen BK451.out 1
     have hns50_0 := NB449_451.out
     have hns50_1 := NB450_451.out
     have hms50_0 := NB451_449.out
     have hms50_1 := NB451_450.out
     refine skip_ (w1 := ?_) (by rfl) rfl ?_ ?_
     rotate_left
     ·go_simp
      rfl
     refine hK.out _ _ ?_
     clear hK K
     refine done_ (done_of HT_.out (by kernel_rfl)) ?_
     try go_wp2
     go_roundg k2
     case measure => have := HK1.out; have := HK2.out; omega
     case rel => exact ⟨(wrap64 (x9_2 + 1)), (y466), (y470), (.slice Ao44 y466.length co44), (.slice Ao49 y470.length co49), (by first | rfl | (simp; done) | (simp [*]; done)), H', ⟨by have := HK1.out; have := HK2.out; omega⟩, ⟨by (with_reducible repeat (first | apply Kd.R_alloc | apply Kd.R_drewN | apply Kd.R_drew)); exact Kd.R_mono (Kd.R_far (p := ⟨gb451, 1, none⟩) (Kd.R_types HO468.out BK451.out (by decide)) (fun _ hk => hk.2) (.slice Ao49 y470.length co49)) (fun _ hk => trivial)⟩, ⟨by (with_reducible repeat (first | apply Kd.R_alloc | apply Kd.R_drewN | apply Kd.R_drew)); exact Kd.R_mono (Kd.R_far (p := ⟨gb451, 1, none⟩) (Kd.R_types HO472.out BK451.out (by decide)) (fun _ hk => hk.2) (.slice Ao49 y470.length co49)) (fun _ hk => trivial)⟩, ⟨by (with_reducible repeat (first | refine blk_drewN ?_ _ | refine blk_drew ?_ | refine blk_alloc ?_ _)); refine blk_far ?_ NB449_451.out _; (with_reducible repeat (first | refine blk_drewN ?_ _ | refine blk_drew ?_ | refine blk_alloc ?_ _)); exact BK449.out⟩, ⟨by (with_reducible repeat (first | refine blk_drewN ?_ _ | refine blk_drew ?_ | refine blk_alloc ?_ _)); refine blk_far ?_ NB450_451.out _; (with_reducible repeat (first | refine blk_drewN ?_ _ | refine blk_drew ?_ | refine blk_alloc ?_ _)); exact BK450.out⟩, ⟨by (with_reducible repeat (first | refine blk_drewN ?_ _ | refine blk_drew ?_ | refine blk_alloc ?_ _)); refine blk_put (cs := #[.slice Ao44 y466.length co44, .slice Ao39 x452001_2.length co39]) ?_ 1 _ rfl; (with_reducible repeat (first | refine blk_drewN ?_ _ | refine blk_drew ?_ | refine blk_alloc ?_ _)); exact BK451.out⟩, ⟨by repeat (first | (with_reducible first | exact HB.out | apply below_alloc | apply pw_below_drewN | apply below_drew1 | refine below_set ?_ GE449.out | refine below_set ?_ GE450.out | refine below_set ?_ GE451.out) | exact HB.out)⟩⟩
end Go.Proofs.Ytkcpanpdipmmmaa.P
namespace Go.Proofs.Ytkcpanpdipmmmaa.H
open Go.RowKit Go.Proofs.YtkcpanpdipmmmaaW.PrintWords Go.Proofs.YtkcpanpdipmmmaaW.PrintLast Go.Proofs.YtkcpanpdipmmmaaW.PrintMore Go.Proofs.Ytkcpanpdipmmmaa.P Go.Proofs.Ytkcpanpdipmmmaa.Q
def esL (l : List S74) (L : List S38) (u : Nat) : List S38 := L.filter fun e => decide (stFrom l e = (u : Int))
def bfL (l : List S74) (L : List S38) (n s : Nat) : List (Fd S38) := bfsN (toP l) (esL l L) z38 n s
theorem es_same (l : List S74) (F : List Int) (u : Nat) (k : Nat) : (stL l u k).filter (fun e => decide (0 < stRoom l F e)) = (stepsR l F k).filter (fun e => decide (stFrom l e = (u : Int))) := by
 induction k with
 | zero => rfl
 | succ k ih =>
  unfold stL stepsR
  rw [List.filter_append, List.filter_append, List.filter_append, List.filter_append, ih]
  congr 1
  ·congr 1
   have e1 : stRoom l F ⟨(k : Int), false⟩ = (rd_T74 l k).f2 - F.getD k 0 := by unfold stRoom; simp
   have e2 : stFrom l ⟨(k : Int), false⟩ = eFrom (rd_T74 l k) := rfl
   by_cases h1 : eFrom (rd_T74 l k) = (u : Int) <;> by_cases h2 : F.getD k 0 < (rd_T74 l k).f2
   ·rw [if_pos h1, if_pos h2, List.filter_cons, List.filter_cons, if_pos (by rw [decide_eq_true_eq, e1]; omega), if_pos (by rw [decide_eq_true_eq, e2]; exact h1)]; rfl
   ·rw [if_pos h1, if_neg h2, List.filter_cons, if_neg (by rw [decide_eq_true_eq, e1]; omega)]; rfl
   ·rw [if_neg h1, if_pos h2, List.filter_cons, if_neg (by rw [decide_eq_true_eq, e2]; exact h1)]; rfl
   ·rw [if_neg h1, if_neg h2]; rfl
  ·have e1 : stRoom l F ⟨(k : Int), true⟩ = F.getD k 0 := by unfold stRoom; simp
   have e2 : stFrom l ⟨(k : Int), true⟩ = eTo (rd_T74 l k) := rfl
   by_cases h1 : eTo (rd_T74 l k) = (u : Int) <;> by_cases h2 : 0 < F.getD k 0
   ·rw [if_pos h1, if_pos h2, List.filter_cons, List.filter_cons, if_pos (by rw [decide_eq_true_eq, e1]; omega), if_pos (by rw [decide_eq_true_eq, e2]; exact h1)]; rfl
   ·rw [if_pos h1, if_neg h2, List.filter_cons, if_neg (by rw [decide_eq_true_eq, e1]; omega)]; rfl
   ·rw [if_neg h1, if_pos h2, List.filter_cons, if_neg (by rw [decide_eq_true_eq, e2]; exact h1)]; rfl
   ·rw [if_neg h1, if_neg h2]; rfl
theorem bf_same {l : List S74} {F : List Int} {n : Nat} (hr : Right l F n) (s : Nat) : bfL l (stepsR l F F.length) n s = bfP l F n s := by
 unfold bfL bfP
 have : esL l (stepsR l F F.length) = esP l F := by
  funext u
  unfold esL esP
  rw [hr.len]
  exact (es_same l F u l.length).symm
 rw [this]
def hasI (X : List Int) (a : Int) (i : Nat) : Int := if a ∈ X.drop i then ((i + (X.drop i).idxOf a : Nat) : Int) else -1
theorem has_l0 (X : List Int) (Y : List S38) (a : Int) (hl : X.length ≤ 1000000) (d : Nat) : ∀ i : Nat, i + d = X.length → Ev (fun k => ebbtideref08_found_has.l0 k a (i : Int) X Y) (hasI X a i) := by
 induction d with
 | zero =>
  intro i hi
  refine Ev.succ ?_; simp only [ebbtideref08_found_has.l0]
  refine Ev.neg (by omega) ?_
  exact Ev.done (by unfold hasI; rw [List.drop_of_length_le (by omega), if_neg (by simp)])
 | succ d ih =>
  intro i hi
  refine Ev.succ ?_; simp only [ebbtideref08_found_has.l0]
  refine Ev.pos (by omega) ?_
  refine Ev.pos (by omega) ?_
  have hd := drop_getD X i 0 (by omega)
  rw [rd_nat]
  refine Ev.ite (fun g => ?_) (fun g => ?_)
  ·exact Ev.done (by unfold hasI; rw [hd, g, if_pos List.mem_cons_self, List.idxOf_cons_self]; rfl)
  ·rw [wrap_succ (n := X.length) (by omega) (by omega)]
   refine Ev.eq (ih (i + 1) (by omega)) ?_
   unfold hasI
   rw [hd]
   by_cases hm : a ∈ X.drop (i + 1)
   ·have e3 : (X.getD i 0 :: X.drop (i + 1)).idxOf a = (X.drop (i + 1)).idxOf a + 1 := by
     rw [List.idxOf_cons]
     have : (X.getD i 0 == a) = false := beq_eq_false_iff_ne.2 g
     rw [this]
     rfl
    rw [if_pos hm, if_pos (List.mem_cons_of_mem _ hm), e3]
    omega
   ·rw [if_neg hm, if_neg (by intro h; rcases List.mem_cons.1 h with h | h; exact g h.symm; exact hm h)]
theorem has_ev (X : List Int) (Y : List S38) (a : Int) (hl : X.length ≤ 1000000) : Ev (fun k => ebbtideref08_found_has.f k X Y a) (hasI X a 0) := by
 unfold ebbtideref08_found_has.f
 exact has_l0 X Y a hl X.length 0 (by omega)
def nX (st : List (Fd S38)) : List Int := (nodes st).map fun v : Nat => (v : Int)
def bY (st : List (Fd S38)) : List S38 := st.map Fd.by_
theorem nX_len (st : List (Fd S38)) : (nX st).length = st.length := by simp [nX, nodes]
theorem bY_len (st : List (Fd S38)) : (bY st).length = st.length := by simp [bY]
theorem nX_snoc (st : List (Fd S38)) (x : Fd S38) : nX (st ++ [x]) = nX st ++ [(x.v : Int)] := by simp [nX, nodes]
theorem bY_snoc (st : List (Fd S38)) (x : Fd S38) : bY (st ++ [x]) = bY st ++ [x.by_] := by simp [bY]
theorem mem_nX {st : List (Fd S38)} {v : Nat} : (v : Int) ∈ nX st ↔ v ∈ nodes st := by
 unfold nX
 rw [List.mem_map]
 constructor
 ·rintro ⟨u, hu, e⟩
  have : u = v := by omega
  rw [← this]; exact hu
 ·intro h; exact ⟨v, h, rfl⟩
theorem hasI_neg {st : List (Fd S38)} {v : Nat} : hasI (nX st) (v : Int) 0 < 0 ↔ v ∉ nodes st := by
 unfold hasI
 rw [List.drop_zero]
 by_cases h : v ∈ nodes st
 ·rw [if_pos (mem_nX.2 h)]
  constructor
  ·intro h2; omega
  ·intro h2; exact absurd h h2
 ·rw [if_neg (fun h2 => h (mem_nX.1 h2))]
  simp [h]
theorem nX_get {st : List (Fd S38)} {i : Nat} {x : Fd S38} (h : st[i]? = some x) : rd (nX st) (i : Int) = (x.v : Int) := by
 rw [rd_nat, List.getD_eq_getElem?_getD]
 unfold nX nodes
 rw [List.getElem?_map, List.getElem?_map, h]
 rfl
structure StepsOk (l : List S74) (n : Nat) (L : List S38) : Prop where
 ends : ends l n
 arcs : l.length ≤ 200
 of : ∀ s, s ∈ L → StepOf l s
 len : L.length ≤ 400
section
variable {l : List S74} {n : Nat} {L : List S38}
theorem StepsOk.to_in (h : StepsOk l n L) {s : S38} (hs : s ∈ L) : 0 ≤ stTo l s ∧ stTo l s < n := by
 obtain ⟨i, h1, h2⟩ := h.of s hs
 have := h.ends i h1
 unfold stTo
 rw [h2]
 split
 ·exact this.1
 ·exact this.2
theorem esL_to (h : StepsOk l n L) : ∀ (u : Nat) (e : S38), e ∈ esL l L u → toP l e < n := by
 intro u e he
 have := h.to_in (List.mem_filter.1 he).1
 unfold toP; omega
theorem esL_fr : ∀ (u : Nat) (e : S38), e ∈ esL l L u → frP l e = u := by
 intro u e he
 have h := of_decide_eq_true (List.mem_filter.1 he).2
 unfold frP
 rw [h, Int.toNat_natCast]
theorem rfrom_ok (h : StepsOk l n L) {s : S38} (hs : s ∈ L) (a : Int) (b : Bool) : ebbtideref07_From.f a b l s.f0 s.f1 = some (stFrom l s) := by
 obtain ⟨i, h1, h2⟩ := h.of s hs
 unfold ebbtideref07_From.f stFrom eFrom eTo
 rw [h2]
 cases s.f1 <;> simp [h1]
theorem rto_ok (h : StepsOk l n L) {s : S38} (hs : s ∈ L) (a : Int) (b : Bool) : ebbtideref07_To.f a b l s.f0 s.f1 = some (stTo l s) := by
 obtain ⟨i, h1, h2⟩ := h.of s hs
 unfold ebbtideref07_To.f stTo eFrom eTo
 rw [h2]
 cases s.f1 <;> simp [h1]
theorem sought_l1 (h : StepsOk l n L) (hn : n ≤ 50) (a : Int) (b : Bool) {s i : Nat} (hs : s < n) {x : Fd S38} {R : List Int × List S38} (d : Nat) : ∀ (j : Nat) (stj : List (Fd S38)), j + d = L.length → Fds (frP l) (toP l) (esL l L) s stj → stj[i]? = some x → (∀ y, y ∈ stj → y.lv ≤ x.lv + 1) →
  Ev (fun k => ebbtideref08_sought.l0 k L ((i + 1 : Nat) : Int) a b l (nX (((L.drop j).filter fun e => decide (stFrom l e = (x.v : Int))).foldl (vis (toP l) x.lv) stj)) (bY (((L.drop j).filter fun e => decide (stFrom l e = (x.v : Int))).foldl (vis (toP l) x.lv) stj))) R →
  Ev (fun k => ebbtideref08_sought.l1 k L (i : Int) (j : Int) a b l (nX stj) (bY stj)) R := by
 induction d with
 | zero =>
  intro j stj hj hf hx hm he
  have hil := (List.getElem?_eq_some_iff.1 hx).1
  have hln := fds_len hf (esL_to h) hs
  rw [List.drop_of_length_le (by omega)] at he
  refine Ev.succ ?_; simp only [ebbtideref08_sought.l1]
  refine Ev.neg (by omega) ?_
  rw [wrap_succ (n := 51) (by omega) (by omega)]
  exact he
 | succ d ih =>
  intro j stj hj hf hx hm he
  have hil := (List.getElem?_eq_some_iff.1 hx).1
  have hln := fds_len hf (esL_to h) hs
  have hll := h.len
  refine Ev.succ ?_; simp only [ebbtideref08_sought.l1]
  refine Ev.pos (by omega) ?_
  refine Ev.pos (by omega) ?_
  have hd := drop_getD L j z38 (by omega)
  obtain ⟨e, hee⟩ : ∃ e, e = L.getD j z38 := ⟨_, rfl⟩
  have hr : rd_T38 L (j : Int) = e := by unfold rd_T38; rw [Int.toNat_natCast, hee]
  have hem : e ∈ L := by rw [hee]; exact getD_mem (by omega)
  rw [hr]
  rw [hd, ← hee, List.filter_cons] at he
  refine Ev.call (rfrom_ok h hem a b) ?_
  refine Ev.pos (by omega) ?_
  refine Ev.pos (by rw [nX_len]; omega) ?_
  rw [nX_get hx, wrap_succ (n := L.length) (by omega) (by omega)]
  refine Ev.ite (fun g => ?_) (fun g => ?_)
  ·rw [if_pos (by simpa using g), List.foldl_cons] at he
   have hto := h.to_in hem
   have htp : stTo l e = ((toP l e : Nat) : Int) := by unfold toP; omega
   refine Ev.call (rto_ok h hem a b) ?_
   rw [htp]
   refine Ev.bind (has_ev (nX stj) (bY stj) _ (by rw [nX_len]; omega)) ?_
   refine Ev.ite (fun g2 => ?_) (fun g2 => ?_)
   ·have hnm := hasI_neg.1 g2
    have hv : vis (toP l) x.lv stj e = stj ++ [⟨toP l e, e, x.lv + 1⟩] := by unfold vis; rw [if_neg hnm]
    obtain ⟨f1, f2⟩ := hf.vis hx hm (List.mem_filter.2 ⟨hem, by simpa using g⟩)
    rw [hv] at f1 f2 he
    refine Ev.call (rto_ok h hem a b) ?_
    rw [htp]
    refine Ev.pos (by rw [nX_len]; omega) ?_
    refine Ev.pos (by rw [bY_len]; omega) ?_
    have h2 := ih (j + 1) (stj ++ [⟨toP l e, e, x.lv + 1⟩]) (by omega) f1 (by rw [List.getElem?_append_left hil]; exact hx) f2 he
    rw [nX_snoc, bY_snoc] at h2
    exact h2
   ·have hmm : toP l e ∈ nodes stj := Classical.byContradiction fun hc => g2 (hasI_neg.2 hc)
    have hv : vis (toP l) x.lv stj e = stj := by unfold vis; rw [if_pos hmm]
    rw [hv] at he
    exact ih (j + 1) stj (by omega) hf hx hm he
  ·rw [if_neg (by simpa using g)] at he
   exact ih (j + 1) stj (by omega) hf hx hm he
theorem sought_l0 (h : StepsOk l n L) (hn : n ≤ 50) (a : Int) (b : Bool) {s : Nat} (hs : s < n) (d : Nat) : ∀ (i : Nat) (st : List (Fd S38)), Upto (frP l) (toP l) (esL l L) s i st → i + d = n → i ≤ st.length →
  Ev (fun k => ebbtideref08_sought.l0 k L (i : Int) a b l (nX st) (bY st)) (nX (bfs (toP l) (esL l L) d i st), bY (bfs (toP l) (esL l L) d i st)) := by
 induction d with
 | zero =>
  intro i st hu hi hil
  have hln := fds_len hu.fds (esL_to h) hs
  refine Ev.succ ?_; simp only [ebbtideref08_sought.l0]
  refine Ev.neg (by rw [nX_len]; omega) ?_
  exact Ev.now _
 | succ d ih =>
  intro i st hu hi hil
  unfold bfs
  cases hx : st[i]? with
  | none =>
   have := List.getElem?_eq_none_iff.1 hx
   refine Ev.succ ?_; simp only [ebbtideref08_sought.l0]
   refine Ev.neg (by rw [nX_len]; omega) ?_
   exact Ev.now _
  | some x =>
   have hlt := (List.getElem?_eq_some_iff.1 hx).1
   refine Ev.succ ?_; simp only [ebbtideref08_sought.l0]
   refine Ev.pos (by rw [nX_len]; omega) ?_
   refine sought_l1 h hn a b hs L.length 0 st (by omega) hu.fds hx (hu.most x hx) ?_
   rw [List.drop_zero]
   have hnx := hu.next hx
   have hpl : i + 1 ≤ (proc (toP l) (esL l L) st x).length := by
    obtain ⟨r, hr⟩ := fold_pre (toP l) x.lv (esL l L x.v) st
    unfold proc
    rw [hr, List.length_append]
    omega
   exact ih (i + 1) (proc (toP l) (esL l L) st x) hnx (by omega) hpl
theorem sought_ev (h : StepsOk l n L) (hn : n ≤ 50) (b : Bool) {s : Nat} (hs : s < n) : Ev (fun k => ebbtideref08_sought.f k (n : Int) b l (s : Int) L) (nX (bfL l L n s), bY (bfL l L n s)) := by
 unfold ebbtideref08_sought.f
 refine Ev.pos (by simp) ?_
 refine Ev.pos (by simp) ?_
 exact sought_l0 h hn (n : Int) b hs n 0 [⟨s, z38, 0⟩] (upto_start _ _ _ _ _) (by omega) (Nat.zero_le _)
end
end Go.Proofs.Ytkcpanpdipmmmaa.H
namespace Go.Proofs.Ytkcpanpdipmmmaa.H
open Go.RowKit Go.Proofs.YtkcpanpdipmmmaaW.PrintWords Go.Proofs.YtkcpanpdipmmmaaW.PrintLast Go.Proofs.YtkcpanpdipmmmaaW.PrintMore Go.Proofs.Ytkcpanpdipmmmaa.P Go.Proofs.Ytkcpanpdipmmmaa.Q
attribute [local irreducible] wpQuiet
def wayRes (l : List S74) (L : List S38) (n s : Nat) (t : Int) : List S38 × Bool := if t ∈ nX (bfL l L n s) then (wayL (frP l) (bfL l L n s) s t.toNat, true) else ([], false)
theorem nX_nodup {st : List (Fd S38)} (h : (nodes st).Nodup) : (nX st).Nodup := by
 unfold nX
 refine List.pairwise_map.2 (h.imp fun {a b} hab e => hab ?_)
 omega
theorem hasI_at {st : List (Fd S38)} (h : (nodes st).Nodup) {i : Nat} {x : Fd S38} (hx : st[i]? = some x) : hasI (nX st) (x.v : Int) 0 = (i : Int) := by
 have hil := (List.getElem?_eq_some_iff.1 hx).1
 have hm : (x.v : Int) ∈ nX st := mem_nX.2 (List.mem_map_of_mem (List.mem_of_getElem? hx))
 unfold hasI
 rw [List.drop_zero, if_pos hm, Nat.zero_add]
 have h1 := List.idxOf_lt_length_of_mem hm
 have h2 : (nX st)[(nX st).idxOf (x.v : Int)] = (x.v : Int) := List.getElem_idxOf h1
 have hi : i < (nX st).length := by rw [nX_len]; exact hil
 have h3 : (nX st)[i]'hi = (x.v : Int) := by
  have h4 := nX_get hx
  rw [rd_nat, List.getD_eq_getElem?_getD, List.getElem?_eq_getElem hi] at h4
  exact h4
 have hp := List.pairwise_iff_getElem.1 (nX_nodup h)
 rcases Nat.lt_trichotomy ((nX st).idxOf (x.v : Int)) i with g | g | g
 ·exact absurd (h2.trans h3.symm) (hp _ _ h1 hi g)
 ·rw [g]
 ·exact absurd (h3.trans h2.symm) (hp _ _ hi h1 g)
def wayOk (n : Int) (l : List S74) (L : List S38) (s : Int) : Bool :=
 decide (0 ≤ s) && decide (s < n) && decide (n ≤ 50) && decide (l.length ≤ 200) && decide (L.length ≤ 400) && (l.all fun a => decide (0 ≤ a.f0) && decide (a.f0 < n) && decide (0 ≤ a.f1) && decide (a.f1 < n)) && (L.all fun e => decide (0 ≤ e.f0) && decide (e.f0 < (l.length : Int)))
theorem wayOk_iff {n : Nat} {l : List S74} {L : List S38} {s : Nat} : wayOk n l L s = true ↔ StepsOk l n L ∧ s < n ∧ n ≤ 50 := by
 unfold wayOk
 simp only [Bool.and_eq_true, decide_eq_true_eq, List.all_eq_true]
 constructor
 ·rintro ⟨⟨⟨⟨⟨⟨_, h1⟩, h2⟩, h3⟩, h4⟩, h5⟩, h6⟩
  refine ⟨⟨?_, h3, ?_, h4⟩, by omega, by omega⟩
  ·intro i hi
   have hg := h5 _ (List.getElem_mem hi)
   have e1 : rd_T74 l i = l[i] := by rw [rdArc_nat, List.getD_eq_getElem?_getD, List.getElem?_eq_getElem hi]; rfl
   unfold eFrom eTo
   rw [e1]
   omega
  ·intro e he
   have := h6 e he
   exact ⟨e.f0.toNat, by omega, by omega⟩
 ·rintro ⟨h, h1, h2⟩
  refine ⟨⟨⟨⟨⟨⟨by omega, by omega⟩, by omega⟩, h.arcs⟩, h.len⟩, ?_⟩, ?_⟩
  ·intro a ha
   obtain ⟨i, hi, rfl⟩ := List.mem_iff_getElem.1 ha
   have hg := h.ends i hi
   have e1 : rd_T74 l i = l[i] := by rw [rdArc_nat, List.getD_eq_getElem?_getD, List.getElem?_eq_getElem hi]; rfl
   unfold eFrom eTo at hg
   rw [e1] at hg
   omega
  ·intro e he
   obtain ⟨i, h3, h4⟩ := h.of e he
   omega
theorem y_cells {w : World} {base g cap : Nat} {ok : Nat → Prop} {B : List S38} (h : Kd.R k38 38 w base ok (.slice (some ⟨g, 0, none⟩) B.length cap) B) {i : Nat} {x : S38} (hx : B[i]? = some x) :
  w.cell? ⟨g, i * 2, none⟩ = some (.int .i64 x.f0) ∧ w.cell? ⟨g, i * 2 + 1, none⟩ = some (.bool x.f1) := by
 have hi := (List.getElem?_eq_some_iff.1 hx).1
 obtain ⟨c, _, hM, hc, _⟩ := Kd.R_elem h z38 (i : Int) (by omega) (by omega)
 have hgd : B.getD (i : Int).toNat z38 = x := by rw [Int.toNat_natCast, List.getD_eq_getElem?_getD, hx]; rfl
 rw [hgd] at hM
 obtain rfl := k38_openM hM
 exact ⟨hc 0 _ rfl, hc 1 _ rfl⟩
theorem way_nat (l : List S74) (L : List S38) (n s t : Nat) : wayRes l L n s (t : Int) = if t ∈ nodes (bfL l L n s) then (wayL (frP l) (bfL l L n s) s t, true) else ([], false) := by
 unfold wayRes
 by_cases h : t ∈ nodes (bfL l L n s)
 ·rw [if_pos (mem_nX.2 h), if_pos h, Int.toNat_natCast]
 ·rw [if_neg (fun g => h (mem_nX.1 g)), if_neg h]
set_option maxHeartbeats 2000000 in
set_option maxRecDepth 100000 in
theorem way_ref (n0 : Nat) (a0_1 : Bool) (A2 : Option Addr) (c2 : Nat) (l : List S74) (s : Nat) (t : Int) (A3 : Option Addr) (c3 : Nat) (L : List S38) (w : World)
  (hL : StepsOk l n0 L) (hs : s < n0) (hn50 : n0 ≤ 50) (h2 : Kd.C k74 w A2 l.length l) (hc2 : l.length ≤ c2) (h3 : Kd.C k38 w A3 L.length L) (hc3 : L.length ≤ c3) :
  Calls Try.prog 109 #[.agg #[.int .i64 n0, .bool a0_1, .slice A2 l.length c2], .int .i64 (s : Int), .int .i64 t, .slice A3 L.length c3] w fun e w' => ∃ v : Value, e = .returned (.tuple #[v, .bool (wayRes l L n0 s t).2]) ∧ Kd.R k38 38 w' w.heap.size (fun _ => True) v (wayRes l L n0 s t).1 ∧ Below w.heap.size w w' := by
 have hu24 := Try.underlying24
 have hu161 := Try.underlying161
 have hu38 := Try.underlying38
 obtain ⟨st, hst⟩ : ∃ st_, st_ = bfL l L n0 s := ⟨_, rfl⟩
 have hF : Fds (frP l) (toP l) (esL l L) s st := by rw [hst]; exact (bfsN_upto (esL_to hL) hs).fds
 have hstl : st.length ≤ n0 := fds_len hF (esL_to hL) hs
 have HF := Aside0.mk hF
 have HST := Aside0.mk hst
 obtain ⟨K1, hK1⟩ := sought_ev hL hn50 a0_1 hs
 obtain ⟨K2, hK2⟩ := has_ev (nX (bfL l L n0 s)) (bY (bfL l L n0 s)) t (by rw [nX_len, ← hst]; omega)
 have hs1 := hK1 K1 (Nat.le_refl _)
 have hh1 := hK2 K2 (Nat.le_refl _)
 rw [← hst] at hs1 hh1
 obtain ⟨K, hk⟩ : ∃ k_, k_ = K1 := ⟨_, rfl⟩
 obtain ⟨KH, hkh⟩ : ∃ k_, k_ = K2 := ⟨_, rfl⟩
 rw [← hk] at hs1
 rw [← hkh] at hh1
 have HSO := Aside0.mk hs1
 have HH := Aside0.mk hh1
 have XL : Aside0 (0 < st.length) := ⟨by obtain ⟨x, r, h1, _⟩ := hF.head; rw [h1]; simp⟩
 clear hK1 hK2 hk hkh hs1 hh1 hF hst K1 K2
 have HL := Aside0.mk hL
 have HC2 := Aside0.mk hc2
 have HC3 := Aside0.mk hc3
 have H2 := Aside0.mk h2
 have H3 := Aside0.mk h3
 have HB := Aside0.mk (Below.refl w.heap.size w)
 clear hL h2 h3 hc2 hc3
 go_enter Try.func109, Try.ntmps109
 go_upto_region 2 with (first | ((with_reducible refine gate_dst (N := 4) rfl ?_); refine box_event ?hg (N := 4) ?hd (cs := #[.int .i64 n0, .bool a0_1, .slice A2 l.length c2]) (t := 24) ?hr ?_; (case hd => rfl); (case hg => rfl); (case hr => first | (go_simp; done) | (go_simp; rfl)); intro g3 hg w5 hbox hb; have n0_ := Aside0.mk (below_step HB.out hb); have B3 := Aside0.mk hbox; clear HB; have HB := n0_; have GE3 : Aside0 (w.heap.size ≤ g3) := ⟨Nat.le_of_eq hg.symm⟩; clear n0_ hb hbox hg; have c0 : w5.cell? ⟨g3, 0, none⟩ = some (.int .i64 n0) := (blk_cell B3.out 0).trans rfl; have c1 : w5.cell? ⟨g3, 1, none⟩ = some (.bool a0_1) := (blk_cell B3.out 1).trans rfl; have c2_ : w5.cell? ⟨g3, 2, none⟩ = some (.slice A2 l.length c2) := (blk_cell B3.out 2).trans rfl) | (go_at_call 146; refine (ebbtideref08_sought.calls K (n0 : Int) a0_1 A2 c2 l (s : Int) A3 c3 L _ _ _ (Kd.C_below H2.out HB.out) HC2.out (Kd.C_below H3.out HB.out) HC3.out HSO.out).mono ?_; rintro e_ w6 ⟨vx, vy, rfl, hx, hy, hb⟩; obtain ⟨gx, cx, rfl, hgx, hgx2, cellsx, hcx⟩ := Kd.R_form hx (by have := XL.out; rw [nX_len]; omega); obtain ⟨gy, cy, rfl, hgy, hgy2, cellsy, hcy⟩ := Kd.R_form hy (by have := XL.out; rw [bY_len]; omega); clear hcx hcy cellsx cellsy; have HX := Aside0.mk hx; have HY := Aside0.mk hy; have HGX : Aside0 (g3 < gx ∧ g3 < gy ∧ gx < w6.heap.size ∧ gy < w6.heap.size) := ⟨by have := blk_lt B3.out; omega⟩; have m0_ := Aside0.mk (below_step HB.out hb); have m1_ := Aside0.mk (blk_below B3.out hb); clear HB B3 hx hy hb hgx hgx2 hgy hgy2 c0 c1 c2_; have HB := m0_; have B3 := m1_; clear m0_ m1_) | fail)
 have HW : Aside0 ((w6.alloc (Obj.cells #[.slice (some ⟨gx, 0, none⟩) (nX st).length cx, .slice (some ⟨gy, 0, none⟩) (bY st).length cy] 161)).heap[w6.heap.size]? = some (.cells #[.slice (some ⟨gx, 0, none⟩) (nX st).length cx, .slice (some ⟨gy, 0, none⟩) (bY st).length cy] 161 (0, 0))) := ⟨heap_alloc_new _ _⟩
 have h_ := HB.out.size
 have m0_ := Aside0.mk (below_alloc HB.out (Obj.cells #[.slice (some ⟨gx, 0, none⟩) (nX st).length cx, .slice (some ⟨gy, 0, none⟩) (bY st).length cy] 161))
 have m1_ := Aside0.mk (blk_below B3.out (below_alloc (Below.refl _ _) (Obj.cells #[.slice (some ⟨gx, 0, none⟩) (nX st).length cx, .slice (some ⟨gy, 0, none⟩) (bY st).length cy] 161)))
 have m2_ := Aside0.mk (Kd.R_below HX.out (below_alloc (Below.refl _ _) (Obj.cells #[.slice (some ⟨gx, 0, none⟩) (nX st).length cx, .slice (some ⟨gy, 0, none⟩) (bY st).length cy] 161)))
 have m3_ := Aside0.mk (Kd.R_below HY.out (below_alloc (Below.refl _ _) (Obj.cells #[.slice (some ⟨gx, 0, none⟩) (nX st).length cx, .slice (some ⟨gy, 0, none⟩) (bY st).length cy] 161)))
 clear HB B3 HX HY h_
 have HB := m0_
 have B3 := m1_
 have HX := m2_
 have HY := m3_
 clear m0_ m1_ m2_ m3_
 generalize w6.alloc _ = w7 at *
 generalize w6.heap.size = g10 at *
 obtain ⟨t0, t1⟩ : w7.cell? ⟨g10, 0, none⟩ = some (.slice (some ⟨gx, 0, none⟩) (nX st).length cx) ∧ w7.cell? ⟨g10, 1, none⟩ = some (.slice (some ⟨gy, 0, none⟩) (bY st).length cy) := ⟨(blk_cell HW.out 0).trans rfl, (blk_cell HW.out 1).trans rfl⟩
 by_cases hmem : t ∈ nX st
 ·obtain ⟨tn, rfl⟩ : ∃ tn : Nat, t = tn := by
   obtain ⟨v, _, hv⟩ := List.mem_map.1 hmem
   exact ⟨v, hv.symm⟩
  have hmem := mem_nX.1 hmem
  have e0 : decide (hasI (nX st) (tn : Int) 0 < 0) = false := decide_eq_false (fun h => hasI_neg.1 h hmem)
  obtain ⟨x0, hx0, hxt⟩ := List.mem_map.1 hmem
  have HX0 := Aside0.mk hx0
  have HXT := Aside0.mk hxt
  have HWR : Aside0 (wayRes l L n0 s (tn : Int) = (wayL (frP l) st s tn, true)) := ⟨by rw [way_nat, ← HST.out, if_pos hmem]⟩
  have HBK0 : Aside0 ((backL (frP l) st s x0.lv x0.v).reverse = wayL (frP l) st s tn) := ⟨by
   unfold wayL
   rw [← HXT.out]
   have hlv := lv_lt HF.out HX0.out
   have h_ := backL_more HF.out esL_fr [] x0.lv HX0.out (Nat.le_refl _) (k' := st.length) (Nat.le_of_lt hlv)
   rw [List.append_nil] at h_
   rw [h_]⟩
  clear hx0 hxt hmem
  go_wp2_with (first | (go_at_call 147; refine (ebbtideref08_found_has.calls KH _ cx (nX st) _ cy (bY st) _ _ _ (Kd.R_reads' HX.out).2.2 (Kd.R_reads' HX.out).2.1 (Kd.R_reads' HY.out).2.2 (Kd.R_reads' HY.out).2.1 HH.out).mono ?_; rintro e_ w8 ⟨rfl, hb⟩; have m0_ := Aside0.mk (below_step HB.out hb); have m1_ := Aside0.mk (blk_below B3.out hb); have m2_ := Aside0.mk (blk_below HW.out hb); have m3_ := Aside0.mk (Kd.R_below HX.out hb); have m4_ := Aside0.mk (Kd.R_below HY.out hb); clear HB B3 HW HX HY hb; have HB := m0_; have B3 := m1_; have HW := m2_; have HX := m3_; have HY := m4_; clear m0_ m1_ m2_ m3_ m4_; clear t0 t1) | fail)
  have h8 := HB.out.size
  go_loopw [11, 12] (fun v11 v12 w' => ∃ (x : Fd S38) (O : List S38), v12 = .int .i64 x.v ∧ x ∈ st ∧ Aside0 (O ++ backL (frP l) st s x.lv x.v = backL (frP l) st s x0.lv x0.v) ∧ O.length + x.lv ≤ 50 ∧ Aside0 (Kd.R k38 38 w' w8.heap.size (fun _ => True) v11 O) ∧ Aside0 (Below w8.heap.size w8 w')) (fun _ v12 _ => ((dOf n0 st).getD (intOf v12).toNat 0).toNat)
  case atStart => exact ⟨x0, [], by rw [HXT.out], HX0.out, ⟨rfl⟩, by have := lv_lt HF.out HX0.out; show 0 + _ ≤ 50; omega, ⟨Kd.R_nil _ _ _ _ _⟩, ⟨Below.refl _ _⟩⟩
  case round =>
   obtain ⟨x, O, rfl, hx, HBK, hlen, HO, HC⟩ := hrel
   have hxn : x.v < n0 := fds_lt HF.out (esL_to HL.out) hs _ (List.mem_map_of_mem hx)
   by_cases hxs : x.v = s
   ·have e1 : ((x.v : Int) != (s : Int)) = false := by rw [hxs]; simp
    have hO : O = backL (frP l) st s x0.lv x0.v := by
     have h_ := HBK.out
     rw [hxs, back_end, List.append_nil] at h_
     exact h_
    have HOE := Aside0.mk hO
    have hOl : O.length ≤ 50 := by omega
    clear hxs hO hlen
    obtain ⟨A11, c11, e11⟩ := Kd.R_slice HO.out
    subst e11
    have hwr : IntKind.i64.wrap ((O.length : Int) - 1) = (O.length : Int) - 1 := IntWalk.i64_in _ (by omega)
    generalize wr = wE at *
    go_wp2_with fail
    have m0_ := Aside0.mk (below_step HB.out HC.out)
    clear HB HC hwr e1
    have HB := m0_
    clear m0_
    go_loopw [14, 15] (fun v14 v15 w' => ∃ (q : Int) (U : List S38), v15 = .int .i64 q ∧ (-1 ≤ q ∧ q < (O.length : Int)) ∧ Aside0 (U = (O.drop (q + 1).toNat).reverse) ∧ Aside0 (Kd.R k38 38 w' wE.heap.size (fun _ => True) v14 U) ∧ Aside0 (Below wE.heap.size wE w')) (fun _ v15 _ => (intOf v15 + 1).toNat)
    case atStart => exact ⟨(O.length : Int) - 1, [], rfl, ⟨by omega, by omega⟩, ⟨by rw [show ((O.length : Int) - 1 + 1).toNat = O.length by omega, List.drop_length]; rfl⟩, ⟨Kd.R_nil _ _ _ _ _⟩, ⟨Below.refl _ _⟩⟩
    case round =>
     obtain ⟨q, U, rfl, ⟨hq1, hq2⟩, HU, HV, HC⟩ := hrel
     by_cases hq : 0 ≤ q
     ·have e1 : decide (0 ≤ q) = true := decide_eq_true hq
      obtain ⟨g, cap, ev, _⟩ := Kd.R_form HO.out (by omega)
      injection ev with ev1 _ ev2
      subst ev1
      subst ev2
      have hqi : O[q.toNat]? = some O[q.toNat] := List.getElem?_eq_getElem (by omega)
      generalize O[q.toNat] = e at hqi
      obtain ⟨b0, b1⟩ := y_cells (Kd.R_below HO.out HC.out) hqi
      have hwr : IntKind.i64.wrap (q - 1) = q - 1 := IntWalk.i64_in _ (by omega)
      have HU2 : Aside0 (U ++ [e] = (O.drop (q - 1 + 1).toNat).reverse) := ⟨by
       have hd : O.drop q.toNat = e :: O.drop (q.toNat + 1) := by
        obtain ⟨h1, h2⟩ := List.getElem?_eq_some_iff.1 hqi
        rw [List.drop_eq_getElem_cons h1, h2]
       rw [show (q - 1 + 1).toNat = q.toNat by omega, hd, List.reverse_cons, HU.out, show (q + 1).toNat = q.toNat + 1 by omega]⟩
      have hUl : U.length ≤ 50 := by rw [HU.out, List.length_reverse, List.length_drop]; omega
      clear hqi HU
      go_wp2_with (first | ((with_reducible refine gate_builtin (b := .append) (xs := #[.tmp 49, .tmp 54]) rfl ?_); at_builtin; refine Kd.R_append k38 (w0 := wE) wE.heap.size rfl (.tmp 49) (.tmp 54) 34 38 (.agg #[(.int .i64 0), (.bool false)]) 16 rfl Try.underlying34 info38 rfl (by decide) (by omega) u14 U e [.int .i64 e.f0, .bool e.f1] (fun _ => True) (fun _ => False) rfl rfl ?aP (fun _ hk => hk.elim) ?aF ?aO ?aB ?aS ?aL ?_; (case aP => exact k38_mkM _ _ _ e); (case aF => exact (fun k hk => trivial)); (case aO => exact HV.out); (case aB => exact HC.out); (case aS => exact HC.out.size); (case aL => omega); intro v1 w9 ho hb hg hat; have m0_ := Aside0.mk ho; have m1_ := Aside0.mk hb; clear HV HC ho hb hg hat b0 b1; have HV := m0_; have HC := m1_; clear m0_ m1_) | fail)
      go_roundw
      case rel => exact ⟨q - 1, U ++ [e], rfl, ⟨by omega, by omega⟩, HU2, HV, HC⟩
      case measure => simp [intOf] <;> omega
     ·have e1 : decide (0 ≤ q) = false := decide_eq_false hq
      go_wp2_with fail
      go_ret2
      rw [HWR.out]
      refine ⟨_, rfl, ?_, below_step HB.out HC.out⟩
      have h_ := HV.out
      rw [HU.out, show (q + 1).toNat = 0 by omega, List.drop_zero, HOE.out, HBK0.out] at h_
      exact Kd.R_lower h_ HB.out.size
   ·have e1 : ((x.v : Int) != (s : Int)) = true := by rw [bne_iff_ne]; omega
    rcases HF.out.mem_lv hx with ⟨h1, _⟩ | ⟨_, hto, z, hz, hze, hlv⟩
    ·exact absurd h1 hxs
    obtain ⟨i, hi⟩ := List.getElem?_of_mem hx
    have hbk : backL (frP l) st s x.lv x.v = x.by_ :: backL (frP l) st s z.lv z.v := by
     rw [hlv, backL, if_neg hxs, fnd_of HF.out.nodup hx]
     show x.by_ :: _ = _
     rw [esL_fr _ _ hze]
    have hbi : (bY st)[i]? = some x.by_ := by unfold bY; rw [List.getElem?_map, hi]; rfl
    obtain ⟨b0, b1⟩ := y_cells (Kd.R_below HY.out HC.out) hbi
    have hfm := rfrom_ok HL.out (List.mem_filter.1 hze).1 (n0 : Int) a0_1
    have hfr : stFrom l x.by_ = (z.v : Int) := of_decide_eq_true (List.mem_filter.1 hze).2
    rw [hfr] at hfm
    obtain ⟨K3, hK3⟩ := has_ev (nX st) (bY st) (x.v : Int) (by rw [nX_len]; omega)
    have hh3 := hK3 K3 (Nat.le_refl _)
    rw [hasI_at HF.out.nodup hi] at hh3
    obtain ⟨k3, hk3⟩ : ∃ k_, k_ = K3 := ⟨_, rfl⟩
    rw [← hk3] at hh3
    have HH3 := Aside0.mk hh3
    obtain ⟨e, hee⟩ : ∃ e_, e_ = x.by_ := ⟨_, rfl⟩
    rw [← hee] at b0 b1 hfm hbk
    have HFM := Aside0.mk hfm
    have HBK2 : Aside0 ((O ++ [e]) ++ backL (frP l) st s z.lv z.v = backL (frP l) st s x0.lv x0.v) := ⟨by rw [← HBK.out, hbk, List.append_assoc]; rfl⟩
    have HZ := Aside0.mk hz
    have hl2 : (O ++ [e]).length + z.lv ≤ 50 := by rw [List.length_append, List.length_singleton]; omega
    have HL2 := Aside0.mk hl2
    have hOl : O.length ≤ 50 := by omega
    have hmz : ((dOf n0 st).getD z.v 0).toNat < ((dOf n0 st).getD x.v 0).toNat := by
     rw [dOf_mem HF.out.nodup hz 0 (fds_lt HF.out (esL_to HL.out) hs _ (List.mem_map_of_mem hz)), dOf_mem HF.out.nodup hx 0 hxn]
     omega
    have HMZ := Aside0.mk hmz
    have px : (0 : Int) ≤ (i : Int) := by omega
    have qx : (i : Int) < ((bY st).length : Int) := by rw [bY_len]; have := (List.getElem?_eq_some_iff.1 hi).1; omega
    obtain ⟨t0, t1⟩ : wr.cell? ⟨g10, 0, none⟩ = some (.slice (some ⟨gx, 0, none⟩) (nX st).length cx) ∧ wr.cell? ⟨g10, 1, none⟩ = some (.slice (some ⟨gy, 0, none⟩) (bY st).length cy) := ⟨pw_cell_below HC.out ((blk_cell HW.out 0).trans rfl), pw_cell_below HC.out ((blk_cell HW.out 1).trans rfl)⟩
    have H5 := Aside0.mk (Kd.C_below (Kd.R_reads' HX.out).2.2 HC.out)
    have H6 := Aside0.mk (Kd.C_below (Kd.R_reads' HY.out).2.2 HC.out)
    clear hz hze hlv hbk hfr hfm hee HBK hlen hl2 hmz hto hxs hi hbi hh3 hk3 hK3 K3
    go_upto_region 7 with fail
    go_cut [13] (fun v13 wx => ∃ g13 : Nat, v13 = .pointer (some ⟨g13, 0, none⟩) ∧ wr.heap.size ≤ g13 ∧ Aside0 (wx.heap[g13]? = some (.cells #[.int .i64 e.f0, .bool e.f1] 38 (0, 0))) ∧ Aside0 (Below wr.heap.size wr wx))
    case first =>
     go_region_held3 (fun w' => w'.cell? ⟨g10, 0, none⟩ = some (.slice (some ⟨gx, 0, none⟩) (nX st).length cx) ∧ w'.cell? ⟨g10, 1, none⟩ = some (.slice (some ⟨gy, 0, none⟩) (bY st).length cy) ∧ w'.cell? ⟨gy, i * 2, none⟩ = some (.int .i64 e.f0) ∧ w'.cell? ⟨gy, i * 2 + 1, none⟩ = some (.bool e.f1))
      (first | ((try dsimp only); (refine ⟨?_, ?_, ?_, ?_⟩) <;> first | (exact pw_cell_below (below_drew (Below.refl _ _)) (by assumption)) | (exact pw_cell_below (below_alloc (Below.refl _ _) _) (by assumption)) | (exact pw_cell_below hbr (by assumption)) | (exact pw_cell_below (below_alloc (below_step (below_drew (Below.refl wr.heap.size wr)) hbr) _) (by assumption)) | (exact pw_cell_below (below_alloc (Below.refl wr.heap.size wr) _) (by assumption)) | (exact pw_cell_below (below_step (below_drew (below_alloc (Below.refl wr.heap.size wr) _)) hbr) (by assumption)) | (exact pw_cell_below (below_set (below_set (below_step (below_drew (below_alloc (Below.refl wr.heap.size wr) _)) hbr) (Nat.le_refl _)) (Nat.le_refl _)) (by assumption))) | go_keep)
      (first | (go_at_call 147; refine (ebbtideref08_found_has.calls k3 _ cx (nX st) _ cy (bY st) (x.v : Int) _ _ ?hX (Kd.R_reads' HX.out).2.1 ?hY (Kd.R_reads' HY.out).2.1 HH3.out).mono ?_; (case hX => first | exact Kd.C_below H5.out (below_drew (Below.refl _ _)) | exact Kd.C_below H5.out (below_drew (below_alloc (Below.refl _ _) _))); (case hY => first | exact Kd.C_below H6.out (below_drew (Below.refl _ _)) | exact Kd.C_below H6.out (below_drew (below_alloc (Below.refl _ _) _))); rintro e_ w9 ⟨rfl, hbr⟩; try (have hk9 : w9.heap[wr.heap.size]? = some (.cells #[.int .i64 0, .bool false] 38 (0, 0)) := (hbr.block _ (by simp)).trans (heap_alloc_new wr (.cells #[.int .i64 0, .bool false] 38)); have kc0 := blk_cell hk9 0; have kc1 := blk_cell hk9 1; have kz0 := blk_frozen hk9 0; have kz1 := blk_frozen hk9 1)))
     ·go_wp2_with fail
      go_meet
      exact ⟨w9.heap.size, rfl, by have := hbr.size; simpa using this, ⟨heap_alloc_new w9 _⟩, ⟨below_alloc (below_step (below_drew (Below.refl wr.heap.size wr)) hbr) _⟩⟩
     ·go_wp2_with fail
      go_meet
      exact ⟨wr.heap.size, rfl, Nat.le_refl _, ⟨(blk_set (blk_set hk9 0 (.int .i64 e.f0)) 1 (.bool e.f1)).trans rfl⟩, ⟨below_set (below_set (below_step (below_drew (below_alloc (Below.refl wr.heap.size wr) _)) hbr) (Nat.le_refl _)) (Nat.le_refl _)⟩⟩
    case rest =>
     obtain ⟨g13, rfl, hg13, HG13, HBC⟩ := hcut
     have m0_ := Aside0.mk (below_step HC.out HBC.out)
     have m1_ := Aside0.mk (Kd.R_below (Kd.R_mono (ok' := fun k => k ≠ g13) (Kd.R_bound HO.out) (fun k hk => by have := hk.2.2.1; omega)) HBC.out)
     clear HC HO HBC t0 t1 b0 b1 H5 H6
     have HC := m0_
     have HO := m1_
     clear m0_ m1_
     have b0 : wc.cell? ⟨g13, 0, none⟩ = some (.int .i64 e.f0) := (blk_cell HG13.out 0).trans rfl
     have b1 : wc.cell? ⟨g13, 1, none⟩ = some (.bool e.f1) := (blk_cell HG13.out 1).trans rfl
     go_wp2_with (first | ((with_reducible refine gate_builtin (b := .append) (xs := #[.tmp 35, .tmp 37]) rfl ?_); at_builtin; refine Kd.R_append k38 (w0 := w8) w8.heap.size rfl (.tmp 35) (.tmp 37) 34 38 (.agg #[(.int .i64 0), (.bool false)]) 16 rfl Try.underlying34 info38 rfl (by decide) (by omega) u11 O e [.int .i64 e.f0, .bool e.f1] (fun k => k ≠ g13) (fun _ => False) rfl rfl ?aP (fun _ hk => hk.elim) ?aF ?aO ?aB ?aS ?aL ?_; (case aP => exact k38_mkM _ _ _ e); (case aF => exact (fun k hk => by have := blk_lt HG13.out; omega)); (case aO => exact HO.out); (case aB => exact HC.out); (case aS => exact HC.out.size); (case aL => omega); intro v1 w9 ho hb hg hat; have m0_ := Aside0.mk ho; have m1_ := Aside0.mk hb; have m2_ := Aside0.mk ((hg.block g13 (blk_lt HG13.out) (fun h => HO.out.1 g13 h.symm rfl)).trans HG13.out); clear HO HC HG13 ho hb hg hat b0 b1; have HO := m0_; have HC := m1_; have HG13 := m2_; clear m0_ m1_ m2_; have b0 : w9.cell? ⟨g13, 0, none⟩ = some (.int .i64 e.f0) := (blk_cell HG13.out 0).trans rfl; have b1 : w9.cell? ⟨g13, 1, none⟩ = some (.bool e.f1) := (blk_cell HG13.out 1).trans rfl; have c0 : w9.cell? ⟨g3, 0, none⟩ = some (.int .i64 n0) := pw_cell_below HC.out ((blk_cell B3.out 0).trans rfl); have c1 : w9.cell? ⟨g3, 1, none⟩ = some (.bool a0_1) := pw_cell_below HC.out ((blk_cell B3.out 1).trans rfl); have c2_ : w9.cell? ⟨g3, 2, none⟩ = some (.slice A2 l.length c2) := pw_cell_below HC.out ((blk_cell B3.out 2).trans rfl)) | (go_at_call 44; refine (ebbtideref07_From.calls (n0 : Int) a0_1 A2 c2 l e.f0 e.f1 (z.v : Int) _ (Kd.C_below (Kd.C_below H2.out HB.out) HC.out) HC2.out HFM.out).mono ?_; rintro e_ w10 ⟨rfl, hb⟩; have m0_ := Aside0.mk (below_step HC.out hb); have m1_ := Aside0.mk (Kd.R_below HO.out hb); clear HC HO b0 b1 c0 c1 c2_ hb; have HC := m0_; have HO := m1_; clear m0_ m1_) | fail)
     go_roundw
     case rel => exact ⟨z, O ++ [e], rfl, HZ.out, HBK2, HL2.out, ⟨Kd.R_mono HO.out (fun _ _ => trivial)⟩, HC⟩
     case measure => have h_ := HMZ.out; simpa [intOf] using h_
 ·have e0 : decide (hasI (nX st) t 0 < 0) = true := decide_eq_true (by
   unfold hasI
   rw [List.drop_zero, if_neg hmem]
   omega)
  have HNO : Aside0 (wayRes l L n0 s t = ([], false)) := ⟨by unfold wayRes; rw [← HST.out, if_neg hmem]⟩
  clear hmem
  go_wp2_with (first | (go_at_call 147; refine (ebbtideref08_found_has.calls KH _ cx (nX st) _ cy (bY st) _ _ _ (Kd.R_reads' HX.out).2.2 (Kd.R_reads' HX.out).2.1 (Kd.R_reads' HY.out).2.2 (Kd.R_reads' HY.out).2.1 HH.out).mono ?_; rintro e_ w8 ⟨rfl, hb⟩; have m0_ := Aside0.mk (below_step HB.out hb); have m1_ := Aside0.mk (blk_below B3.out hb); have m2_ := Aside0.mk (blk_below HW.out hb); have m3_ := Aside0.mk (Kd.R_below HX.out hb); have m4_ := Aside0.mk (Kd.R_below HY.out hb); clear HB B3 HW HX HY hb; have HB := m0_; have B3 := m1_; have HW := m2_; have HX := m3_; have HY := m4_; clear m0_ m1_ m2_ m3_ m4_; clear t0 t1) | fail)
  go_ret2
  rw [HNO.out]
  exact ⟨_, rfl, Kd.R_nil _ _ _ _ _, HB.out⟩
def wayF (n : Int) (l : List S74) (s t : Int) (L : List S38) : Option (List S38 × Bool) := if wayOk n l L s = true then some (wayRes l L n.toNat s.toNat t) else none
theorem ebbtideref08_Way_calls (a0_0 : Int) (a0_1 : Bool) (A0_2 : Option Addr) (c0_2 : Nat) (l0_2 : List S74) (a1 a2 : Int) (A3 : Option Addr) (c3 : Nat) (l3 : List S38) (r1 : List S38) (r2 : Bool) (w : World) (hr0_2 : Kd.C k74 w A0_2 l0_2.length l0_2) (hc0_2 : l0_2.length ≤ c0_2) (hr3 : Kd.C k38 w A3 l3.length l3) (hc3 : l3.length ≤ c3) (h : wayF a0_0 l0_2 a1 a2 l3 = some (r1, r2)) :
  Calls Try.prog 109 #[.agg #[.int .i64 a0_0, .bool a0_1, .slice A0_2 l0_2.length c0_2], .int .i64 a1, .int .i64 a2, .slice A3 l3.length c3] w fun e w' => ∃ v0_ : Value, e = .returned (.tuple #[v0_, .bool r2]) ∧ Kd.R k38 38 w' w.heap.size (fun _ => True) v0_ r1 ∧ Below w.heap.size w w' := by
 unfold wayF at h
 split at h
 ·rename_i hok
  obtain ⟨n0, rfl⟩ : ∃ n0 : Nat, a0_0 = n0 := ⟨a0_0.toNat, by unfold wayOk at hok; simp only [Bool.and_eq_true, decide_eq_true_eq] at hok; omega⟩
  obtain ⟨s0, rfl⟩ : ∃ s0 : Nat, a1 = s0 := ⟨a1.toNat, by unfold wayOk at hok; simp only [Bool.and_eq_true, decide_eq_true_eq] at hok; omega⟩
  obtain ⟨h1, h2, h3⟩ := wayOk_iff.1 hok
  injection h with h
  rw [Int.toNat_natCast, Int.toNat_natCast] at h
  have h_ := way_ref n0 a0_1 A0_2 c0_2 l0_2 s0 a2 A3 c3 l3 w h1 h2 h3 hr0_2 hc0_2 hr3 hc3
  rw [h] at h_
  exact h_
 ·cases h
theorem wayF_eq {n0 : Nat} {l : List S74} {L : List S38} {s0 : Nat} (h1 : StepsOk l n0 L) (h2 : s0 < n0) (h3 : n0 ≤ 50) (t : Int) : wayF n0 l s0 t L = some (wayRes l L n0 s0 t) := by
 unfold wayF
 rw [if_pos (wayOk_iff.2 ⟨h1, h2, h3⟩), Int.toNat_natCast, Int.toNat_natCast]
end Go.Proofs.Ytkcpanpdipmmmaa.H
namespace Go.Proofs.Ytkcpanpdipmmmaa.P
open Go.RowKit Go.Proofs.YtkcpanpdipmmmaaW.PrintWords Go.Proofs.YtkcpanpdipmmmaaW.PrintLast Go.Proofs.YtkcpanpdipmmmaaW.PrintMore
attribute [local go_sem] max2_int min2_int max_two min_two max_three min_three max_four min_four
def ebbtideref08_Way.f (a0_0 : Int) (a0_1 : Bool) (l0_2 : List (S74)) (a1 : Int) (a2 : Int) (l3 : List (S38)) : Option ((List (S38)) × Bool) := H.wayF a0_0 l0_2 a1 a2 l3
theorem ebbtideref08_Way.calls (a0_0 : Int) (a0_1 : Bool) (A0_2 : Option Addr) (c0_2 : Nat) (l0_2 : List (S74)) (a1 : Int) (a2 : Int) (A3 : Option Addr) (c3 : Nat) (l3 : List (S38)) (r1 : List (S38)) (r2 : Bool) (w : World) (hr0_2 : Kd.C k74 w A0_2 l0_2.length l0_2) (hc0_2 : l0_2.length ≤ c0_2) (hr3 : Kd.C k38 w A3 l3.length l3) (hc3 : l3.length ≤ c3) (h : ebbtideref08_Way.f a0_0 a0_1 l0_2 a1 a2 l3 = some (r1, r2)) :
  Calls Try.prog 109 #[.agg #[.int .i64 a0_0, .bool a0_1, .slice A0_2 l0_2.length c0_2], .int .i64 a1, .int .i64 a2, .slice A3 l3.length c3] w fun e w' => ∃ v0_ : Value, e = .returned (.tuple #[v0_, .bool r2]) ∧ Kd.R k38 38 w' w.heap.size (fun _ => True) v0_ r1 ∧ Below w.heap.size w w' := H.ebbtideref08_Way_calls a0_0 a0_1 A0_2 c0_2 l0_2 a1 a2 A3 c3 l3 r1 r2 w hr0_2 hc0_2 hr3 hc3 h
end Go.Proofs.Ytkcpanpdipmmmaa.P
namespace Go.Proofs.Ytkcpanpdipmmmaa.P
open Go.RowKit Go.Proofs.YtkcpanpdipmmmaaW.PrintWords Go.Proofs.YtkcpanpdipmmmaaW.PrintLast Go.Proofs.YtkcpanpdipmmmaaW.PrintMore
attribute [local go_sem] max2_int min2_int max_two min_two max_three min_three max_four min_four
def ebbtideref08_Path.f (k : Nat) (a0_0 : Int) (a0_1 : Bool) (l0_2 : List (S74)) (l1 : List Int) (a2 : Int) (a3 : Int) : Option ((List (S38)) × Bool × Int) := (ebbtideref07_Asked.f k a0_0 a0_1 l0_2 l1).bind fun t566 => (if t566 = 0 then ((ebbtideref07_Ends.f k a0_0 a0_1 l0_2 a2 a3).bind fun t567 => (if t567 = 0 then ((ebbtideref07_Steps.f k a0_0 a0_1 l0_2 l1).bind fun t568 => ((ebbtideref08_Way.f a0_0 a0_1 l0_2 a2 a3 t568).bind fun bt571 => (some (bt571.1, bt571.2, 0)))) else (some (([] : List (S38)), false, t567)))) else (some (([] : List (S38)), false, t566)))
def ebbtideref08_Path.T7 : Bool × List (List Nat × List Nat) := (true, [([], []), ([], []), ([], []), ([], []), ([], []), ([3, 4], [3, 4]), ([0, 1, 2, 5, 5], [0, 1, 2, 5]), ([6], [6]), ([7], [7]), ([7], [7]), ([8, 6, 0, 1, 2, 3, 4, 5, 6, 7, 8], [8]), ([9, 10, 0, 1, 2, 3, 4, 5, 6, 7, 8, 9, 10], [9])])
def ebbtideref08_Path.B7 : List Nat := [0, 0, 0, 0, 0, 24, 63, 127, 255, 255, 511, 2047]
theorem ebbtideref08_Path.tab7 : rtab .any (opsOf Try.f57 7) = ebbtideref08_Path.T7 := by kernel_rfl
theorem ebbtideref08_Path.bits7 : waitsOk ebbtideref08_Path.T7.2 ebbtideref08_Path.B7 = true := by kernel_rfl
set_option maxHeartbeats 8000000 in
set_option maxRecDepth 100000 in
theorem ebbtideref08_Path.calls (k : Nat) (a0_0 : Int) (a0_1 : Bool) (A0_2 : Option Addr) (c0_2 : Nat) (l0_2 : List (S74)) (A1 : Option Addr) (c1 : Nat) (l1 : List Int) (a2 : Int) (a3 : Int) (r1 : List (S38)) (r2 : Bool) (r3 : Int) (w : World) (hr0_2 : Kd.C k74 w A0_2 l0_2.length l0_2) (hc0_2 : l0_2.length ≤ c0_2) (hr1 : Kd.C (Kd.int .i64) w A1 l1.length l1) (hc1 : l1.length ≤ c1) (h : ebbtideref08_Path.f k a0_0 a0_1 l0_2 l1 a2 a3 = some (r1, r2, r3)) :
  Calls Try.prog 57 #[.agg #[.int .i64 a0_0, .bool a0_1, .slice A0_2 l0_2.length c0_2], .slice A1 l1.length c1, .int .i64 a2, .int .i64 a3] w fun e w' => ∃ v0_ : Value, e = .returned (.tuple #[v0_, .bool r2, .int .i64 r3]) ∧ Kd.R k38 38 w' w.heap.size (fun _ => True) v0_ r1 ∧ Below w.heap.size w w' := by
 have hu24 := Try.underlying24
 have HR0_2 := Aside0.mk hr0_2
 have HC0_2 := Aside0.mk hc0_2
 clear hr0_2 hc0_2
 have HR1 := Aside0.mk hr1
 have HC1 := Aside0.mk hc1
 clear hr1 hc1
 have HB := Aside0.mk (Below.refl w.heap.size w)
 have H : ((ebbtideref07_Asked.f k a0_0 a0_1 l0_2 l1).bind fun t566 => (if t566 = 0 then ((ebbtideref07_Ends.f k a0_0 a0_1 l0_2 a2 a3).bind fun t567 => (if t567 = 0 then ((ebbtideref07_Steps.f k a0_0 a0_1 l0_2 l1).bind fun t568 => ((ebbtideref08_Way.f a0_0 a0_1 l0_2 a2 a3 t568).bind fun bt571 => (some (bt571.1, bt571.2, 0)))) else (some (([] : List (S38)), false, t567)))) else (some (([] : List (S38)), false, t566)))) = some (r1, r2, r3) := h
 clear h
 replace H := Option.bind_eq_some_iff.mp H
 obtain ⟨t566, A50, H⟩ := H
 replace H : (if t566 = 0 then ((ebbtideref07_Ends.f k a0_0 a0_1 l0_2 a2 a3).bind fun t567 => (if t567 = 0 then ((ebbtideref07_Steps.f k a0_0 a0_1 l0_2 l1).bind fun t568 => ((ebbtideref08_Way.f a0_0 a0_1 l0_2 a2 a3 t568).bind fun bt571 => (some (bt571.1, bt571.2, 0)))) else (some (([] : List (S38)), false, t567)))) else (some (([] : List (S38)), false, t566))) = some (r1, r2, r3) := H
 have A5 := Aside0.mk A50
 clear A50
 by_cases c6 : t566 = 0
 rotate_left
 ·rw [if_neg c6] at H
  have c6b0 : (t566 == 0) = false := beq_eq_false_iff_ne.mpr c6
  have c6b1 : (t566 != 0) = true := bne_iff_ne.mpr c6
  simp only [Option.some.injEq, Prod.mk.injEq] at H
  obtain ⟨rfl, rfl, rfl⟩ := H
  go_enter Try.func57, Try.ntmps57
  go_wp2_with (first | ((with_reducible refine gate_dst (N := 4) rfl ?_); refine box_event ?hg (N := 4) ?hd (cs := #[.int .i64 a0_0, .bool a0_1, .slice A0_2 l0_2.length c0_2]) (t := 24) ?hr ?_; (case hd => rfl); (case hg => rfl); (case hr => first | (go_simp; done) | (go_simp; rfl)); intro gb565 hg w25 hbox hb; have n0_ := Aside0.mk (below_step (by repeat (first | (with_reducible first | exact HB.out | apply below_alloc | apply pw_below_drewN | apply below_drew1) | exact HB.out)) hb); have n1_ := Aside0.mk (hbox); have n2_ := Aside0.mk ((by rw [hg]; exact (below_size (by repeat (first | (with_reducible first | exact HB.out | apply below_alloc | apply pw_below_drewN | apply below_drew1) | exact HB.out))) : w.heap.size ≤ gb565)); have n3_ := Aside0.mk ((by rw [hg]; exact (below_size (by repeat (first | (with_reducible first | exact HB.out | apply below_alloc | apply pw_below_drewN | apply below_drew1) | exact HB.out))) : w.heap.size ≤ gb565)); clear HB; have HB := n0_; have BK565 := n1_; have GW565 := n2_; have GE565 := n3_; clear n0_ n1_ n2_ n3_; clear hb hbox hg; have hcz26_0 : w25.cell? ⟨gb565, 0, none⟩ = some (.int .i64 a0_0) := (blk_cell BK565.out 0).trans rfl; have hcz26_1 : w25.cell? ⟨gb565, 1, none⟩ = some (.bool a0_1) := (blk_cell BK565.out 1).trans rfl; have hcz26_2 : w25.cell? ⟨gb565, 2, none⟩ = some (.slice A0_2 l0_2.length c0_2) := (blk_cell BK565.out 2).trans rfl; have hfz26_0 := blk_frozen BK565.out 0; have hfz26_1 := blk_frozen BK565.out 1; have hfz26_2 := blk_frozen BK565.out 2) | ((with_reducible refine gate_callee (f := 98) rfl ?_); refine goesL_ (some 17) rfl rfl Try.func98 (by kernel_rfl) rfl #[.agg #[.int .i64 a0_0, .bool a0_1, .slice A0_2 l0_2.length c0_2], .slice A1 l1.length c1] rfl (by (try simp only [List.map_toArray, List.map_cons, List.map_nil]); first | done | rfl | (simp only [List.length_drop, List.length_take]; rfl)) ?_; (with_reducible refine (ebbtideref07_Asked.calls k a0_0 a0_1 _ _ l0_2 _ _ l1 t566 _ ?side1 ?side2 ?side3 ?side4 A5.out).mono ?_); (case side1 => repeat (first | exact (Kd.C_below HR0_2.out HB.out) | (with_reducible refine Kd.C_alloc ?_ _) | (with_reducible refine Kd.C_drewN ?_ _) | (with_reducible refine Kd.C_drew ?_))); (case side2 => exact HC0_2.out); (case side3 => repeat (first | exact (Kd.C_below HR1.out HB.out) | (with_reducible refine Kd.C_alloc ?_ _) | (with_reducible refine Kd.C_drewN ?_ _) | (with_reducible refine Kd.C_drew ?_))); (case side4 => exact HC1.out); rintro e w27 ⟨rfl, hb⟩; refine ⟨_, rfl, ?_⟩; have n0_ := Aside0.mk (blk_below (g := gb565) (o := .cells #[.int .i64 a0_0, .bool a0_1, .slice A0_2 l0_2.length c0_2] 24 (0, 0)) (by (with_reducible repeat (first | refine blk_drewN ?_ _ | refine blk_drew ?_ | refine blk_alloc ?_ _)); exact BK565.out) hb); have n1_ := Aside0.mk (below_step (by repeat (first | (with_reducible first | exact HB.out | apply below_alloc | apply pw_below_drewN | apply below_drew1 | refine below_set ?_ GE565.out) | exact HB.out)) hb); clear BK565; clear HB; have BK565 := n0_; have HB := n1_; clear n0_ n1_; (try clear hb); (try clear hb2); (try clear hk); (try clear hi)))
  go_ret3
  exact ⟨_, by first | rfl | (simp [errW_none, errW_some] <;> rfl) | (simp [*, errW_none, errW_some] <;> rfl), by first | exact Kd.R_nil _ _ _ _ _ | exact Kd.N_nil _ _ _ _ _ | exact Kd.V_nil _ _ _ _ _ | exact Kd.Q_nil _ _ _ _ _ | exact Kd.S_nil _ _ _ _ _, by repeat (first | (with_reducible first | exact HB.out | apply below_alloc | apply pw_below_drewN | apply below_drew1 | refine below_set ?_ GE565.out) | exact HB.out)⟩
 rw [if_pos c6] at H
 have c6b0 : (t566 == 0) = true := beq_iff_eq.mpr c6
 have c6b1 : (t566 != 0) = false := bne_eq_false_iff_eq.mpr c6
 clear c6
 replace H := Option.bind_eq_some_iff.mp H
 obtain ⟨t567, A70, H⟩ := H
 replace H : (if t567 = 0 then ((ebbtideref07_Steps.f k a0_0 a0_1 l0_2 l1).bind fun t568 => ((ebbtideref08_Way.f a0_0 a0_1 l0_2 a2 a3 t568).bind fun bt571 => (some (bt571.1, bt571.2, 0)))) else (some (([] : List (S38)), false, t567))) = some (r1, r2, r3) := H
 have A7 := Aside0.mk A70
 clear A70
 by_cases c8 : t567 = 0
 rotate_left
 ·rw [if_neg c8] at H
  have c8b0 : (t567 == 0) = false := beq_eq_false_iff_ne.mpr c8
  have c8b1 : (t567 != 0) = true := bne_iff_ne.mpr c8
  simp only [Option.some.injEq, Prod.mk.injEq] at H
  obtain ⟨rfl, rfl, rfl⟩ := H
  go_enter Try.func57, Try.ntmps57
  go_wp2_with (first | ((with_reducible refine gate_dst (N := 4) rfl ?_); refine box_event ?hg (N := 4) ?hd (cs := #[.int .i64 a0_0, .bool a0_1, .slice A0_2 l0_2.length c0_2]) (t := 24) ?hr ?_; (case hd => rfl); (case hg => rfl); (case hr => first | (go_simp; done) | (go_simp; rfl)); intro gb565 hg w20 hbox hb; have n0_ := Aside0.mk (below_step (by repeat (first | (with_reducible first | exact HB.out | apply below_alloc | apply pw_below_drewN | apply below_drew1) | exact HB.out)) hb); have n1_ := Aside0.mk (hbox); have n2_ := Aside0.mk ((by rw [hg]; exact (below_size (by repeat (first | (with_reducible first | exact HB.out | apply below_alloc | apply pw_below_drewN | apply below_drew1) | exact HB.out))) : w.heap.size ≤ gb565)); have n3_ := Aside0.mk ((by rw [hg]; exact (below_size (by repeat (first | (with_reducible first | exact HB.out | apply below_alloc | apply pw_below_drewN | apply below_drew1) | exact HB.out))) : w.heap.size ≤ gb565)); clear HB; have HB := n0_; have BK565 := n1_; have GW565 := n2_; have GE565 := n3_; clear n0_ n1_ n2_ n3_; clear hb hbox hg; have hcz21_0 : w20.cell? ⟨gb565, 0, none⟩ = some (.int .i64 a0_0) := (blk_cell BK565.out 0).trans rfl; have hcz21_1 : w20.cell? ⟨gb565, 1, none⟩ = some (.bool a0_1) := (blk_cell BK565.out 1).trans rfl; have hcz21_2 : w20.cell? ⟨gb565, 2, none⟩ = some (.slice A0_2 l0_2.length c0_2) := (blk_cell BK565.out 2).trans rfl; have hfz21_0 := blk_frozen BK565.out 0; have hfz21_1 := blk_frozen BK565.out 1; have hfz21_2 := blk_frozen BK565.out 2) | ((with_reducible refine gate_callee (f := 98) rfl ?_); refine goesL_ (some 17) rfl rfl Try.func98 (by kernel_rfl) rfl #[.agg #[.int .i64 a0_0, .bool a0_1, .slice A0_2 l0_2.length c0_2], .slice A1 l1.length c1] rfl (by (try simp only [List.map_toArray, List.map_cons, List.map_nil]); first | done | rfl | (simp only [List.length_drop, List.length_take]; rfl)) ?_; (with_reducible refine (ebbtideref07_Asked.calls k a0_0 a0_1 _ _ l0_2 _ _ l1 t566 _ ?side1 ?side2 ?side3 ?side4 A5.out).mono ?_); (case side1 => repeat (first | exact (Kd.C_below HR0_2.out HB.out) | (with_reducible refine Kd.C_alloc ?_ _) | (with_reducible refine Kd.C_drewN ?_ _) | (with_reducible refine Kd.C_drew ?_))); (case side2 => exact HC0_2.out); (case side3 => repeat (first | exact (Kd.C_below HR1.out HB.out) | (with_reducible refine Kd.C_alloc ?_ _) | (with_reducible refine Kd.C_drewN ?_ _) | (with_reducible refine Kd.C_drew ?_))); (case side4 => exact HC1.out); rintro e w22 ⟨rfl, hb⟩; refine ⟨_, rfl, ?_⟩; have n0_ := Aside0.mk (blk_below (g := gb565) (o := .cells #[.int .i64 a0_0, .bool a0_1, .slice A0_2 l0_2.length c0_2] 24 (0, 0)) (by (with_reducible repeat (first | refine blk_drewN ?_ _ | refine blk_drew ?_ | refine blk_alloc ?_ _)); exact BK565.out) hb); have n1_ := Aside0.mk (below_step (by repeat (first | (with_reducible first | exact HB.out | apply below_alloc | apply pw_below_drewN | apply below_drew1 | refine below_set ?_ GE565.out) | exact HB.out)) hb); clear BK565; clear HB; have BK565 := n0_; have HB := n1_; clear n0_ n1_; (try clear hb); (try clear hb2); (try clear hk); (try clear hi); have hcz23_0 : w22.cell? ⟨gb565, 0, none⟩ = some (.int .i64 a0_0) := (blk_cell BK565.out 0).trans rfl; have hcz23_1 : w22.cell? ⟨gb565, 1, none⟩ = some (.bool a0_1) := (blk_cell BK565.out 1).trans rfl; have hcz23_2 : w22.cell? ⟨gb565, 2, none⟩ = some (.slice A0_2 l0_2.length c0_2) := (blk_cell BK565.out 2).trans rfl; have hfz23_0 := blk_frozen BK565.out 0; have hfz23_1 := blk_frozen BK565.out 1; have hfz23_2 := blk_frozen BK565.out 2) | ((with_reducible refine gate_callee (f := 77) rfl ?_); refine goesL_ (some 24) rfl rfl Try.func77 (by kernel_rfl) rfl #[.agg #[.int .i64 a0_0, .bool a0_1, .slice A0_2 l0_2.length c0_2], .int .i64 a2, .int .i64 a3] rfl (by (try simp only [List.map_toArray, List.map_cons, List.map_nil]); first | done | rfl | (simp only [List.length_drop, List.length_take]; rfl)) ?_; (with_reducible refine (ebbtideref07_Ends.calls k a0_0 a0_1 _ _ l0_2 a2 a3 t567 _ ?side1 ?side2 A7.out).mono ?_); (case side1 => repeat (first | exact (Kd.C_below HR0_2.out HB.out) | (with_reducible refine Kd.C_alloc ?_ _) | (with_reducible refine Kd.C_drewN ?_ _) | (with_reducible refine Kd.C_drew ?_))); (case side2 => exact HC0_2.out); rintro e w24 ⟨rfl, hb⟩; refine ⟨_, rfl, ?_⟩; have n0_ := Aside0.mk (blk_below (g := gb565) (o := .cells #[.int .i64 a0_0, .bool a0_1, .slice A0_2 l0_2.length c0_2] 24 (0, 0)) (by (with_reducible repeat (first | refine blk_drewN ?_ _ | refine blk_drew ?_ | refine blk_alloc ?_ _)); exact BK565.out) hb); have n1_ := Aside0.mk (below_step (by repeat (first | (with_reducible first | exact HB.out | apply below_alloc | apply pw_below_drewN | apply below_drew1 | refine below_set ?_ GE565.out) | exact HB.out)) hb); clear BK565; clear HB; have BK565 := n0_; have HB := n1_; clear n0_ n1_; (try clear hb); (try clear hb2); (try clear hk); (try clear hi)))
  go_ret3
  exact ⟨_, by first | rfl | (simp [errW_none, errW_some] <;> rfl) | (simp [*, errW_none, errW_some] <;> rfl), by first | exact Kd.R_nil _ _ _ _ _ | exact Kd.N_nil _ _ _ _ _ | exact Kd.V_nil _ _ _ _ _ | exact Kd.Q_nil _ _ _ _ _ | exact Kd.S_nil _ _ _ _ _, by repeat (first | (with_reducible first | exact HB.out | apply below_alloc | apply pw_below_drewN | apply below_drew1 | refine below_set ?_ GE565.out) | exact HB.out)⟩
 rw [if_pos c8] at H
 have c8b0 : (t567 == 0) = true := beq_iff_eq.mpr c8
 have c8b1 : (t567 != 0) = false := bne_eq_false_iff_eq.mpr c8
 clear c8
 replace H := Option.bind_eq_some_iff.mp H
 obtain ⟨t568, A90, H⟩ := H
 replace H : ((ebbtideref08_Way.f a0_0 a0_1 l0_2 a2 a3 t568).bind fun bt571 => (some (bt571.1, bt571.2, 0))) = some (r1, r2, r3) := H
 have A9 := Aside0.mk A90
 clear A90
 replace H := Option.bind_eq_some_iff.mp H
 obtain ⟨⟨t571, t574⟩, A100, H⟩ := H
 replace H : (some (t571, t574, 0)) = some (r1, r2, r3) := H
 have A10 := Aside0.mk A100
 clear A100
 simp only [Option.some.injEq, Prod.mk.injEq] at H
 obtain ⟨rfl, rfl, rfl⟩ := H
 go_enter Try.func57, Try.ntmps57
 try go_wp2_with (first | ((with_reducible refine gate_dst (N := 4) rfl ?_); refine box_event ?hg (N := 4) ?hd (cs := #[.int .i64 a0_0, .bool a0_1, .slice A0_2 l0_2.length c0_2]) (t := 24) ?hr ?_; (case hd => rfl); (case hg => rfl); (case hr => first | (go_simp; done) | (go_simp; rfl)); intro gb565 hg w11 hbox hb; have n0_ := Aside0.mk (below_step (by repeat (first | (with_reducible first | exact HB.out | apply below_alloc | apply pw_below_drewN | apply below_drew1) | exact HB.out)) hb); have n1_ := Aside0.mk (hbox); have n2_ := Aside0.mk ((by rw [hg]; exact (below_size (by repeat (first | (with_reducible first | exact HB.out | apply below_alloc | apply pw_below_drewN | apply below_drew1) | exact HB.out))) : w.heap.size ≤ gb565)); have n3_ := Aside0.mk ((by rw [hg]; exact (below_size (by repeat (first | (with_reducible first | exact HB.out | apply below_alloc | apply pw_below_drewN | apply below_drew1) | exact HB.out))) : w.heap.size ≤ gb565)); clear HB; have HB := n0_; have BK565 := n1_; have GW565 := n2_; have GE565 := n3_; clear n0_ n1_ n2_ n3_; clear hb hbox hg; have hcz12_0 : w11.cell? ⟨gb565, 0, none⟩ = some (.int .i64 a0_0) := (blk_cell BK565.out 0).trans rfl; have hcz12_1 : w11.cell? ⟨gb565, 1, none⟩ = some (.bool a0_1) := (blk_cell BK565.out 1).trans rfl; have hcz12_2 : w11.cell? ⟨gb565, 2, none⟩ = some (.slice A0_2 l0_2.length c0_2) := (blk_cell BK565.out 2).trans rfl; have hfz12_0 := blk_frozen BK565.out 0; have hfz12_1 := blk_frozen BK565.out 1; have hfz12_2 := blk_frozen BK565.out 2) | ((with_reducible refine gate_callee (f := 98) rfl ?_); refine goesL_ (some 17) rfl rfl Try.func98 (by kernel_rfl) rfl #[.agg #[.int .i64 a0_0, .bool a0_1, .slice A0_2 l0_2.length c0_2], .slice A1 l1.length c1] rfl (by (try simp only [List.map_toArray, List.map_cons, List.map_nil]); first | done | rfl | (simp only [List.length_drop, List.length_take]; rfl)) ?_; (with_reducible refine (ebbtideref07_Asked.calls k a0_0 a0_1 _ _ l0_2 _ _ l1 t566 _ ?side1 ?side2 ?side3 ?side4 A5.out).mono ?_); (case side1 => repeat (first | exact (Kd.C_below HR0_2.out HB.out) | (with_reducible refine Kd.C_alloc ?_ _) | (with_reducible refine Kd.C_drewN ?_ _) | (with_reducible refine Kd.C_drew ?_))); (case side2 => exact HC0_2.out); (case side3 => repeat (first | exact (Kd.C_below HR1.out HB.out) | (with_reducible refine Kd.C_alloc ?_ _) | (with_reducible refine Kd.C_drewN ?_ _) | (with_reducible refine Kd.C_drew ?_))); (case side4 => exact HC1.out); rintro e w13 ⟨rfl, hb⟩; refine ⟨_, rfl, ?_⟩; have n0_ := Aside0.mk (blk_below (g := gb565) (o := .cells #[.int .i64 a0_0, .bool a0_1, .slice A0_2 l0_2.length c0_2] 24 (0, 0)) (by (with_reducible repeat (first | refine blk_drewN ?_ _ | refine blk_drew ?_ | refine blk_alloc ?_ _)); exact BK565.out) hb); have n1_ := Aside0.mk (below_step (by repeat (first | (with_reducible first | exact HB.out | apply below_alloc | apply pw_below_drewN | apply below_drew1 | refine below_set ?_ GE565.out) | exact HB.out)) hb); clear BK565; clear HB; have BK565 := n0_; have HB := n1_; clear n0_ n1_; (try clear hb); (try clear hb2); (try clear hk); (try clear hi); have hcz14_0 : w13.cell? ⟨gb565, 0, none⟩ = some (.int .i64 a0_0) := (blk_cell BK565.out 0).trans rfl; have hcz14_1 : w13.cell? ⟨gb565, 1, none⟩ = some (.bool a0_1) := (blk_cell BK565.out 1).trans rfl; have hcz14_2 : w13.cell? ⟨gb565, 2, none⟩ = some (.slice A0_2 l0_2.length c0_2) := (blk_cell BK565.out 2).trans rfl; have hfz14_0 := blk_frozen BK565.out 0; have hfz14_1 := blk_frozen BK565.out 1; have hfz14_2 := blk_frozen BK565.out 2) | ((with_reducible refine gate_callee (f := 77) rfl ?_); refine goesL_ (some 24) rfl rfl Try.func77 (by kernel_rfl) rfl #[.agg #[.int .i64 a0_0, .bool a0_1, .slice A0_2 l0_2.length c0_2], .int .i64 a2, .int .i64 a3] rfl (by (try simp only [List.map_toArray, List.map_cons, List.map_nil]); first | done | rfl | (simp only [List.length_drop, List.length_take]; rfl)) ?_; (with_reducible refine (ebbtideref07_Ends.calls k a0_0 a0_1 _ _ l0_2 a2 a3 t567 _ ?side1 ?side2 A7.out).mono ?_); (case side1 => repeat (first | exact (Kd.C_below HR0_2.out HB.out) | (with_reducible refine Kd.C_alloc ?_ _) | (with_reducible refine Kd.C_drewN ?_ _) | (with_reducible refine Kd.C_drew ?_))); (case side2 => exact HC0_2.out); rintro e w15 ⟨rfl, hb⟩; refine ⟨_, rfl, ?_⟩; have n0_ := Aside0.mk (blk_below (g := gb565) (o := .cells #[.int .i64 a0_0, .bool a0_1, .slice A0_2 l0_2.length c0_2] 24 (0, 0)) (by (with_reducible repeat (first | refine blk_drewN ?_ _ | refine blk_drew ?_ | refine blk_alloc ?_ _)); exact BK565.out) hb); have n1_ := Aside0.mk (below_step (by repeat (first | (with_reducible first | exact HB.out | apply below_alloc | apply pw_below_drewN | apply below_drew1 | refine below_set ?_ GE565.out) | exact HB.out)) hb); clear BK565; clear HB; have BK565 := n0_; have HB := n1_; clear n0_ n1_; (try clear hb); (try clear hb2); (try clear hk); (try clear hi)))
 have n0_ := Aside0.mk (blk_drew BK565.out)
 have n1_ := Aside0.mk (below_drew1 HB.out)
 clear BK565
 clear HB
 have BK565 := n0_
 have HB := n1_
 clear n0_ n1_
 refine start_ (n := 12) (S := fun w' => w'.cell? ⟨gb565, 0, none⟩ = some (.int .i64 a0_0) ∧ w'.cell? ⟨gb565, 1, none⟩ = some (.bool a0_1) ∧ w'.cell? ⟨gb565, 2, none⟩ = some (.slice A0_2 l0_2.length c0_2)) (ds := []) #[false, false, false, false, false, false, false, false, false, false, false, false] (by kernel_rfl) rfl rfl ⟨(blk_cell BK565.out 0).trans rfl, (blk_cell BK565.out 1).trans rfl, (blk_cell BK565.out 2).trans rfl⟩ (fun hHeld => ?_); refine with_tabW ebbtideref08_Path.tab7 ebbtideref08_Path.bits7 (fun HT_ HW_ => ?_)
 generalize w15.drew = w16 at BK565 HB hHeld ⊢
 refine pure_ (i := 1) (N := some 30) (v := ?_) (a' := ?_) #[false, true, false, false, false, false, false, false, false, false, false, false] rfl rfl (any_of HT_.out (by kernel_rfl)) (fun _ _ _ h => h) (Or.inl ⟨by rfl, ?_⟩) ?_ ?_
 rotate_left
 ·intro w'
  go_simp
  with_reducible rfl
 rotate_left
 ·simp only [Act.put, List.setIfInBounds_toArray, List.set_cons_zero, List.set_cons_succ, i64_w, i32_w]
  rfl
 refine pure_ (i := 2) (N := some 31) (v := ?_) (a' := ?_) #[false, true, true, false, false, false, false, false, false, false, false, false] rfl rfl (any_of HT_.out (by kernel_rfl)) (fun _ _ _ h => h) (Or.inl ⟨by rfl, ?_⟩) ?_ ?_
 rotate_left
 ·intro w'
  go_simp
  with_reducible rfl
 rotate_left
 ·simp only [Act.put, List.setIfInBounds_toArray, List.set_cons_zero, List.set_cons_succ, i64_w, i32_w]
  rfl
 refine pure_ (i := 4) (N := some 33) (v := ?_) (a' := ?_) #[false, true, true, false, true, false, false, false, false, false, false, false] rfl rfl (any_of HT_.out (by kernel_rfl)) (fun _ _ _ h => h) (Or.inl ⟨by rfl, ?_⟩) ?_ ?_
 rotate_left
 ·intro w'
  go_simp
  with_reducible rfl
 rotate_left
 ·simp only [Act.put, List.setIfInBounds_toArray, List.set_cons_zero, List.set_cons_succ, i64_w, i32_w]
  rfl
 refine take_ (i := 0) (N := some 29) (v := ?_) (a' := ?_) #[true, true, true, false, true, false, false, false, false, false, false, false] rfl rfl (take_ofW HT_.out HW_.out (by kernel_rfl)) (fun _ _ _ h => h) (Or.inl ⟨by rfl, ?_⟩) hHeld ?_ ?_
 rotate_left
 ·rintro w' ⟨s0, s1, s2⟩
  go_simp
  with_reducible rfl
 rotate_left
 ·simp only [Act.put, List.setIfInBounds_toArray, List.set_cons_zero, List.set_cons_succ, i64_w, i32_w]
  rfl
 refine take_ (i := 3) (N := some 32) (v := ?_) (a' := ?_) #[true, true, true, true, true, false, false, false, false, false, false, false] rfl rfl (take_ofW HT_.out HW_.out (by kernel_rfl)) (fun _ _ _ h => h) (Or.inl ⟨by rfl, ?_⟩) hHeld ?_ ?_
 rotate_left
 ·rintro w' ⟨s0, s1, s2⟩
  go_simp
  with_reducible rfl
 rotate_left
 ·simp only [Act.put, List.setIfInBounds_toArray, List.set_cons_zero, List.set_cons_succ, i64_w, i32_w]
  rfl
 refine one_ (i := 5) (N := some 34) #[true, true, true, true, true, true, false, false, false, false, false, false] rfl rfl (one_of HT_.out (by kernel_rfl)) (by decide) (fun K hK => ?_)
 refine goes_ Try.func43 (by kernel_rfl) rfl #[.agg #[.int .i64 a0_0, .bool a0_1, .slice A0_2 l0_2.length c0_2], .slice A1 l1.length c1] (by rfl) rfl rfl (by (try simp only [List.map_toArray, List.map_cons, List.map_nil]); first | done | rfl | (simp only [List.length_drop, List.length_take]; rfl)) ?_
 with_reducible refine (ebbtideref07_Steps.calls k a0_0 a0_1 _ _ l0_2 _ _ l1 t568 _ ?side1 ?side2 ?side3 ?side4 A9.out).mono ?_
 (case side1 => repeat (first | exact (Kd.C_below HR0_2.out HB.out) | (with_reducible refine Kd.C_alloc ?_ _) | (with_reducible refine Kd.C_drewN ?_ _) | (with_reducible refine Kd.C_drew ?_)))
 (case side2 => exact HC0_2.out)
 (case side3 => repeat (first | exact (Kd.C_below HR1.out HB.out) | (with_reducible refine Kd.C_alloc ?_ _) | (with_reducible refine Kd.C_drewN ?_ _) | (with_reducible refine Kd.C_drew ?_)))
 (case side4 => exact HC1.out)
 rintro e w17 ⟨v569, rfl, ho0, hb⟩
 refine ⟨_, rfl, ?_⟩
 have n0_ := Aside0.mk (Kd.R_lower ho0 (below_size (by repeat (first | (with_reducible first | exact HB.out | apply below_alloc | apply pw_below_drewN | apply below_drew1 | refine below_set ?_ GE565.out) | exact HB.out))))
 have n1_ := Aside0.mk (blk_below (g := gb565) (o := .cells #[.int .i64 a0_0, .bool a0_1, .slice A0_2 l0_2.length c0_2] 24 (0, 0)) (by (with_reducible repeat (first | refine blk_drewN ?_ _ | refine blk_drew ?_ | refine blk_alloc ?_ _)); exact BK565.out) hb)
 have n2_ := Aside0.mk (below_step (by repeat (first | (with_reducible first | exact HB.out | apply below_alloc | apply pw_below_drewN | apply below_drew1 | refine below_set ?_ GE565.out) | exact HB.out)) hb)
 clear BK565
 clear HB
 have HO570 := n0_
 have BK565 := n1_
 have HB := n2_
 clear n0_ n1_ n2_
 (try clear hb)
 (try clear hb2)
 (try clear hk)
 (try clear hi)
 (try clear ho0)
 obtain ⟨Ao18, co18, eo18⟩ := Kd.R_slice HO570.out
 (first | subst eo18 | (injection eo18 with f1_ f2_ f3_; have f4_ := f1_.symm; have f5_ := f3_.symm; clear f1_ f2_ f3_; subst f4_; subst f5_))
 refine hK.out _ _ ⟨(blk_cell BK565.out 0).trans rfl, (blk_cell BK565.out 1).trans rfl, (blk_cell BK565.out 2).trans rfl⟩ (fun hHeld => ?_)
 clear hK K
 refine norm_ (a' := ?_) ?_ ?_
 rotate_left
 ·show Act.put _ (some 34) _ = _
  simp only [Act.put, List.setIfInBounds_toArray, List.set_cons_zero, List.set_cons_succ, i64_w, i32_w]
  rfl
 refine one_ (i := 6) (N := some 35) #[true, true, true, true, true, true, true, false, false, false, false, false] rfl rfl (one_of HT_.out (by kernel_rfl)) (by decide) (fun K hK => ?_)
 refine goes_ Try.func109 (by kernel_rfl) rfl #[.agg #[.int .i64 a0_0, .bool a0_1, .slice A0_2 l0_2.length c0_2], .int .i64 a2, .int .i64 a3, .slice Ao18 t568.length co18] (by rfl) rfl rfl (by (try simp only [List.map_toArray, List.map_cons, List.map_nil]); first | done | rfl | (simp only [List.length_drop, List.length_take]; rfl)) ?_
 with_reducible refine (ebbtideref08_Way.calls a0_0 a0_1 _ _ l0_2 a2 a3 _ _ t568 t571 t574 _ ?side1 ?side2 ?side3 ?side4 A10.out).mono ?_
 (case side1 => repeat (first | exact (Kd.C_below HR0_2.out HB.out) | (with_reducible refine Kd.C_alloc ?_ _) | (with_reducible refine Kd.C_drewN ?_ _) | (with_reducible refine Kd.C_drew ?_)))
 (case side2 => exact HC0_2.out)
 (case side3 => repeat (first | exact (Kd.R_reads' HO570.out).2.2 | (with_reducible refine Kd.C_alloc ?_ _) | (with_reducible refine Kd.C_drewN ?_ _) | (with_reducible refine Kd.C_drew ?_)))
 (case side4 => exact (Kd.R_reads' HO570.out).2.1)
 rintro e w19 ⟨v572, rfl, ho0, hb⟩
 refine ⟨_, rfl, ?_⟩
 have n0_ := Aside0.mk (Kd.R_elder' (by (with_reducible repeat (first | apply Kd.R_alloc | apply Kd.R_drewN | apply Kd.R_drew)); exact HO570.out) (Kd.R_base ho0) hb)
 have n1_ := Aside0.mk (Kd.R_lower (Kd.R_new' ho0 (Kd.R_lt (by (with_reducible repeat (first | apply Kd.R_alloc | apply Kd.R_drewN | apply Kd.R_drew)); exact HO570.out))) (below_size (by repeat (first | (with_reducible first | exact HB.out | apply below_alloc | apply pw_below_drewN | apply below_drew1 | refine below_set ?_ GE565.out) | exact HB.out))))
 have n2_ := Aside0.mk (blk_below (g := gb565) (o := .cells #[.int .i64 a0_0, .bool a0_1, .slice A0_2 l0_2.length c0_2] 24 (0, 0)) (by (with_reducible repeat (first | refine blk_drewN ?_ _ | refine blk_drew ?_ | refine blk_alloc ?_ _)); exact BK565.out) hb)
 have n3_ := Aside0.mk (below_step (by repeat (first | (with_reducible first | exact HB.out | apply below_alloc | apply pw_below_drewN | apply below_drew1 | refine below_set ?_ GE565.out) | exact HB.out)) hb)
 clear HO570
 clear BK565
 clear HB
 have HO570 := n0_
 have HO573 := n1_
 have BK565 := n2_
 have HB := n3_
 clear n0_ n1_ n2_ n3_
 (try clear hb)
 (try clear hb2)
 (try clear hk)
 (try clear hi)
 (try clear ho0)
 refine hK.out _ _ ⟨(blk_cell BK565.out 0).trans rfl, (blk_cell BK565.out 1).trans rfl, (blk_cell BK565.out 2).trans rfl⟩ (fun hHeld => ?_)
 clear hK K
 refine norm_ (a' := ?_) ?_ ?_
 rotate_left
 ·show Act.put _ (some 35) _ = _
  simp only [Act.put, List.setIfInBounds_toArray, List.set_cons_zero, List.set_cons_succ, i64_w, i32_w]
  rfl
 refine pure_ (i := 7) (N := some 28) (v := ?_) (a' := ?_) #[true, true, true, true, true, true, true, true, false, false, false, false] rfl rfl (any_of HT_.out (by kernel_rfl)) (fun _ _ _ h => h) (Or.inl ⟨by rfl, ?_⟩) ?_ ?_
 rotate_left
 ·intro w'
  go_simp
  with_reducible rfl
 rotate_left
 ·simp only [Act.put, List.setIfInBounds_toArray, List.set_cons_zero, List.set_cons_succ, i64_w, i32_w]
  rfl
 refine pure_ (i := 8) (N := some 36) (v := ?_) (a' := ?_) #[true, true, true, true, true, true, true, true, true, false, false, false] rfl rfl (any_of HT_.out (by kernel_rfl)) (fun _ _ _ h => h) (Or.inl ⟨by rfl, ?_⟩) ?_ ?_
 rotate_left
 ·intro w'
  go_simp
  with_reducible rfl
 rotate_left
 ·simp only [Act.put, List.setIfInBounds_toArray, List.set_cons_zero, List.set_cons_succ, i64_w, i32_w]
  rfl
 refine pure_ (i := 9) (N := some 37) (v := ?_) (a' := ?_) #[true, true, true, true, true, true, true, true, true, true, false, false] rfl rfl (any_of HT_.out (by kernel_rfl)) (fun _ _ _ h => h) (Or.inl ⟨by rfl, ?_⟩) ?_ ?_
 rotate_left
 ·intro w'
  go_simp
  with_reducible rfl
 rotate_left
 ·simp only [Act.put, List.setIfInBounds_toArray, List.set_cons_zero, List.set_cons_succ, i64_w, i32_w]
  rfl
 refine pure_ (i := 10) (N := some 13) (v := ?_) (a' := ?_) #[true, true, true, true, true, true, true, true, true, true, true, false] rfl rfl (any_of HT_.out (by kernel_rfl)) (fun _ _ _ h => h) (Or.inl ⟨by rfl, ?_⟩) ?_ ?_
 rotate_left
 ·intro w'
  go_simp
  with_reducible rfl
 rotate_left
 ·simp only [Act.put, List.setIfInBounds_toArray, List.set_cons_zero, List.set_cons_succ, i64_w, i32_w]
  rfl
 refine pure_ (i := 11) (N := some 14) (v := ?_) (a' := ?_) #[true, true, true, true, true, true, true, true, true, true, true, true] rfl rfl (any_of HT_.out (by kernel_rfl)) (fun _ _ _ h => h) (Or.inl ⟨by rfl, ?_⟩) ?_ ?_
 rotate_left
 ·intro w'
  go_simp
  with_reducible rfl
 rotate_left
 ·simp only [Act.put, List.setIfInBounds_toArray, List.set_cons_zero, List.set_cons_succ, i64_w, i32_w]
  rfl
 refine done_ (done_of HT_.out (by kernel_rfl)) ?_
 try go_wp2
 go_ret3
 exact ⟨_, by first | rfl | (simp [errW_none, errW_some] <;> rfl) | (simp [*, errW_none, errW_some] <;> rfl), by (with_reducible repeat (first | apply Kd.R_alloc | apply Kd.R_drewN | apply Kd.R_drew)); exact Kd.R_mono HO573.out (fun _ hk => trivial), by repeat (first | (with_reducible first | exact HB.out | apply below_alloc | apply pw_below_drewN | apply below_drew1 | refine below_set ?_ GE565.out) | exact HB.out)⟩
end Go.Proofs.Ytkcpanpdipmmmaa.P
namespace Go.Proofs.Ytkcpanpdipmmmaa.P
open Go.RowKit Go.Proofs.YtkcpanpdipmmmaaW.PrintWords Go.Proofs.YtkcpanpdipmmmaaW.PrintLast Go.Proofs.YtkcpanpdipmmmaaW.PrintMore
attribute [local go_sem] max2_int min2_int max_two min_two max_three min_three max_four min_four
def ebbtidelaw08_LevelPaths.f (k : Nat) (a0_0 : Int) (a0_1 : Bool) (l0_2 : List (S74)) (l1 : List Int) (a2 : Int) (a3 : Int) : Option (Bool) := (level_Path.f a0_0 a0_1 l0_2 l1 a2 a3).bind fun bt576 => ((ebbtideref08_Path.f k a0_0 a0_1 l0_2 l1 a2 a3).bind fun bt581 => ((ebbtidelaw08_awake.f k).bind fun t586 => (if t586 = true then ((ebbtideref08_Same.f k bt576.1 bt581.1).bind fun t587 => (if t587 = true then (if (bt576.2.1 == bt581.2.1) = true then (some (bt576.2.2 == bt581.2.2)) else (some false)) else (some false))) else (some false))))
set_option maxHeartbeats 8000000 in
set_option maxRecDepth 100000 in
theorem ebbtidelaw08_LevelPaths.calls (k : Nat) (a0_0 : Int) (a0_1 : Bool) (A0_2 : Option Addr) (c0_2 : Nat) (l0_2 : List (S74)) (A1 : Option Addr) (c1 : Nat) (l1 : List Int) (a2 : Int) (a3 : Int) (r : Bool) (w : World) (hr0_2 : Kd.C k74 w A0_2 l0_2.length l0_2) (hc0_2 : l0_2.length ≤ c0_2) (hr1 : Kd.C (Kd.int .i64) w A1 l1.length l1) (hc1 : l1.length ≤ c1) (h : ebbtidelaw08_LevelPaths.f k a0_0 a0_1 l0_2 l1 a2 a3 = some r) (hrT_ : r = true := by first | rfl | exact Aside0.out (by assumption)) :
  Calls Try.prog 10 #[.agg #[.int .i64 a0_0, .bool a0_1, .slice A0_2 l0_2.length c0_2], .slice A1 l1.length c1, .int .i64 a2, .int .i64 a3] w fun e w' => e = .returned (.bool r) ∧ Below w.heap.size w w' := by
 have HRT := Aside0.mk hrT_
 clear hrT_
 have hu24 := Try.underlying24
 have HR0_2 := Aside0.mk hr0_2
 have HC0_2 := Aside0.mk hc0_2
 clear hr0_2 hc0_2
 have HR1 := Aside0.mk hr1
 have HC1 := Aside0.mk hc1
 clear hr1 hc1
 have HB := Aside0.mk (Below.refl w.heap.size w)
 have H : ((level_Path.f a0_0 a0_1 l0_2 l1 a2 a3).bind fun bt576 => ((ebbtideref08_Path.f k a0_0 a0_1 l0_2 l1 a2 a3).bind fun bt581 => ((ebbtidelaw08_awake.f k).bind fun t586 => (if t586 = true then ((ebbtideref08_Same.f k bt576.1 bt581.1).bind fun t587 => (if t587 = true then (if (bt576.2.1 == bt581.2.1) = true then (some (bt576.2.2 == bt581.2.2)) else (some false)) else (some false))) else (some false))))) = some r := h
 clear h
 replace H := Option.bind_eq_some_iff.mp H
 obtain ⟨⟨t576, t579, t580⟩, A50, H⟩ := H
 replace H : ((ebbtideref08_Path.f k a0_0 a0_1 l0_2 l1 a2 a3).bind fun bt581 => ((ebbtidelaw08_awake.f k).bind fun t586 => (if t586 = true then ((ebbtideref08_Same.f k t576 bt581.1).bind fun t587 => (if t587 = true then (if (t579 == bt581.2.1) = true then (some (t580 == bt581.2.2)) else (some false)) else (some false))) else (some false)))) = some r := H
 have A5 := Aside0.mk A50
 clear A50
 replace H := Option.bind_eq_some_iff.mp H
 obtain ⟨⟨t581, t584, t585⟩, A60, H⟩ := H
 replace H : ((ebbtidelaw08_awake.f k).bind fun t586 => (if t586 = true then ((ebbtideref08_Same.f k t576 t581).bind fun t587 => (if t587 = true then (if (t579 == t584) = true then (some (t580 == t585)) else (some false)) else (some false))) else (some false))) = some r := H
 have A6 := Aside0.mk A60
 clear A60
 replace H := Option.bind_eq_some_iff.mp H
 obtain ⟨t586, A70, H⟩ := H
 replace H : (if t586 = true then ((ebbtideref08_Same.f k t576 t581).bind fun t587 => (if t587 = true then (if (t579 == t584) = true then (some (t580 == t585)) else (some false)) else (some false))) else (some false)) = some r := H
 have A7 := Aside0.mk A70
 clear A70
 by_cases c8 : t586 = true
 rotate_left
 ·replace c8 := Bool.eq_false_iff.mpr c8
  subst c8
  have H1 : (some false) = some r := by rw [if_neg (show ¬ (false = true) by decide)] at H; exact H
  exact absurd (Option.some.inj H1) (by rw [HRT.out]; decide)
 subst c8
 have H1 : ((ebbtideref08_Same.f k t576 t581).bind fun t587 => (if t587 = true then (if (t579 == t584) = true then (some (t580 == t585)) else (some false)) else (some false))) = some r := by rw [if_pos rfl] at H; exact H
 clear H
 have H := H1
 clear H1
 replace H := Option.bind_eq_some_iff.mp H
 obtain ⟨t587, A90, H⟩ := H
 replace H : (if t587 = true then (if (t579 == t584) = true then (some (t580 == t585)) else (some false)) else (some false)) = some r := H
 have A9 := Aside0.mk A90
 clear A90
 by_cases c10 : t587 = true
 rotate_left
 ·replace c10 := Bool.eq_false_iff.mpr c10
  subst c10
  have H1 : (some false) = some r := by rw [if_neg (show ¬ (false = true) by decide)] at H; exact H
  exact absurd (Option.some.inj H1) (by rw [HRT.out]; decide)
 subst c10
 have H1 : (if (t579 == t584) = true then (some (t580 == t585)) else (some false)) = some r := by rw [if_pos rfl] at H; exact H
 clear H
 have H := H1
 clear H1
 by_cases c11 : (t579 == t584) = true
 rotate_left
 ·rw [if_neg c11] at H
  exact absurd (Option.some.inj H) (by rw [HRT.out]; decide)
 rw [if_pos c11] at H
 have c11b0 : (t579 == t584) = true := c11
 (try (have c11b1 : decide (t579 = t584) = true := by simpa using c11))
 (try (have c11b2 : (t579 == t584) = true := by simpa using c11))
 clear c11
 obtain rfl := Option.some.inj H
 go_enter Try.func10, Try.ntmps10
 go_wp2_with (first | ((with_reducible refine gate_dst (N := 4) rfl ?_); refine box_event ?hg (N := 4) ?hd (cs := #[.int .i64 a0_0, .bool a0_1, .slice A0_2 l0_2.length c0_2]) (t := 24) ?hr ?_; (case hd => rfl); (case hg => rfl); (case hr => first | (go_simp; done) | (go_simp; rfl)); intro gb575 hg w12 hbox hb; have n0_ := Aside0.mk (below_step (by repeat (first | (with_reducible first | exact HB.out | apply below_alloc | apply pw_below_drewN | apply below_drew1) | exact HB.out)) hb); have n1_ := Aside0.mk (hbox); have n2_ := Aside0.mk ((by rw [hg]; exact (below_size (by repeat (first | (with_reducible first | exact HB.out | apply below_alloc | apply pw_below_drewN | apply below_drew1) | exact HB.out))) : w.heap.size ≤ gb575)); have n3_ := Aside0.mk ((by rw [hg]; exact (below_size (by repeat (first | (with_reducible first | exact HB.out | apply below_alloc | apply pw_below_drewN | apply below_drew1) | exact HB.out))) : w.heap.size ≤ gb575)); clear HB; have HB := n0_; have BK575 := n1_; have GW575 := n2_; have GE575 := n3_; clear n0_ n1_ n2_ n3_; clear hb hbox hg; have hcz13_0 : w12.cell? ⟨gb575, 0, none⟩ = some (.int .i64 a0_0) := (blk_cell BK575.out 0).trans rfl; have hcz13_1 : w12.cell? ⟨gb575, 1, none⟩ = some (.bool a0_1) := (blk_cell BK575.out 1).trans rfl; have hcz13_2 : w12.cell? ⟨gb575, 2, none⟩ = some (.slice A0_2 l0_2.length c0_2) := (blk_cell BK575.out 2).trans rfl; have hfz13_0 := blk_frozen BK575.out 0; have hfz13_1 := blk_frozen BK575.out 1; have hfz13_2 := blk_frozen BK575.out 2) | ((with_reducible refine gate_callee (f := 56) rfl ?_); refine goesL_ (some 20) rfl rfl Try.func56 (by kernel_rfl) rfl #[.agg #[.int .i64 a0_0, .bool a0_1, .slice A0_2 l0_2.length c0_2], .slice A1 l1.length c1, .int .i64 a2, .int .i64 a3] rfl (by (try simp only [List.map_toArray, List.map_cons, List.map_nil]); first | done | rfl | (simp only [List.length_drop, List.length_take]; rfl)) ?_; (with_reducible refine (level_Path.calls a0_0 a0_1 _ _ l0_2 _ _ l1 a2 a3 t576 t579 t580 _ ?side1 ?side2 ?side3 ?side4 A5.out).mono ?_); (case side1 => repeat (first | exact (Kd.C_below HR0_2.out HB.out) | (with_reducible refine Kd.C_alloc ?_ _) | (with_reducible refine Kd.C_drewN ?_ _) | (with_reducible refine Kd.C_drew ?_))); (case side2 => exact HC0_2.out); (case side3 => repeat (first | exact (Kd.C_below HR1.out HB.out) | (with_reducible refine Kd.C_alloc ?_ _) | (with_reducible refine Kd.C_drewN ?_ _) | (with_reducible refine Kd.C_drew ?_))); (case side4 => exact HC1.out); rintro e w14 ⟨v577, rfl, ho0, hb⟩; refine ⟨_, rfl, ?_⟩; have n0_ := Aside0.mk (Kd.R_lower ho0 (below_size (by repeat (first | (with_reducible first | exact HB.out | apply below_alloc | apply pw_below_drewN | apply below_drew1 | refine below_set ?_ GE575.out) | exact HB.out)))); have n1_ := Aside0.mk (blk_below (g := gb575) (o := .cells #[.int .i64 a0_0, .bool a0_1, .slice A0_2 l0_2.length c0_2] 24 (0, 0)) (by (with_reducible repeat (first | refine blk_drewN ?_ _ | refine blk_drew ?_ | refine blk_alloc ?_ _)); exact BK575.out) hb); have n2_ := Aside0.mk (below_step (by repeat (first | (with_reducible first | exact HB.out | apply below_alloc | apply pw_below_drewN | apply below_drew1 | refine below_set ?_ GE575.out) | exact HB.out)) hb); clear BK575; clear HB; have HO578 := n0_; have BK575 := n1_; have HB := n2_; clear n0_ n1_ n2_; (try clear hb); (try clear hb2); (try clear hk); (try clear hi); (try clear ho0); have hcz15_0 : w14.cell? ⟨gb575, 0, none⟩ = some (.int .i64 a0_0) := (blk_cell BK575.out 0).trans rfl; have hcz15_1 : w14.cell? ⟨gb575, 1, none⟩ = some (.bool a0_1) := (blk_cell BK575.out 1).trans rfl; have hcz15_2 : w14.cell? ⟨gb575, 2, none⟩ = some (.slice A0_2 l0_2.length c0_2) := (blk_cell BK575.out 2).trans rfl; have hfz15_0 := blk_frozen BK575.out 0; have hfz15_1 := blk_frozen BK575.out 1; have hfz15_2 := blk_frozen BK575.out 2) | ((with_reducible refine gate_callee (f := 57) rfl ?_); refine goesL_ (some 29) rfl rfl Try.func57 (by kernel_rfl) rfl #[.agg #[.int .i64 a0_0, .bool a0_1, .slice A0_2 l0_2.length c0_2], .slice A1 l1.length c1, .int .i64 a2, .int .i64 a3] rfl (by (try simp only [List.map_toArray, List.map_cons, List.map_nil]); first | done | rfl | (simp only [List.length_drop, List.length_take]; rfl)) ?_; (with_reducible refine (ebbtideref08_Path.calls k a0_0 a0_1 _ _ l0_2 _ _ l1 a2 a3 t581 t584 t585 _ ?side1 ?side2 ?side3 ?side4 A6.out).mono ?_); (case side1 => repeat (first | exact (Kd.C_below HR0_2.out HB.out) | (with_reducible refine Kd.C_alloc ?_ _) | (with_reducible refine Kd.C_drewN ?_ _) | (with_reducible refine Kd.C_drew ?_))); (case side2 => exact HC0_2.out); (case side3 => repeat (first | exact (Kd.C_below HR1.out HB.out) | (with_reducible refine Kd.C_alloc ?_ _) | (with_reducible refine Kd.C_drewN ?_ _) | (with_reducible refine Kd.C_drew ?_))); (case side4 => exact HC1.out); rintro e w16 ⟨v582, rfl, ho0, hb⟩; refine ⟨_, rfl, ?_⟩; have n0_ := Aside0.mk (Kd.R_elder' (by (with_reducible repeat (first | apply Kd.R_alloc | apply Kd.R_drewN | apply Kd.R_drew)); exact HO578.out) (Kd.R_base ho0) hb); have n1_ := Aside0.mk (Kd.R_lower (Kd.R_new' ho0 (Kd.R_lt (by (with_reducible repeat (first | apply Kd.R_alloc | apply Kd.R_drewN | apply Kd.R_drew)); exact HO578.out))) (below_size (by repeat (first | (with_reducible first | exact HB.out | apply below_alloc | apply pw_below_drewN | apply below_drew1 | refine below_set ?_ GE575.out) | exact HB.out)))); have n2_ := Aside0.mk (blk_below (g := gb575) (o := .cells #[.int .i64 a0_0, .bool a0_1, .slice A0_2 l0_2.length c0_2] 24 (0, 0)) (by (with_reducible repeat (first | refine blk_drewN ?_ _ | refine blk_drew ?_ | refine blk_alloc ?_ _)); exact BK575.out) hb); have n3_ := Aside0.mk (below_step (by repeat (first | (with_reducible first | exact HB.out | apply below_alloc | apply pw_below_drewN | apply below_drew1 | refine below_set ?_ GE575.out) | exact HB.out)) hb); clear HO578; clear BK575; clear HB; have HO578 := n0_; have HO583 := n1_; have BK575 := n2_; have HB := n3_; clear n0_ n1_ n2_ n3_; (try clear hb); (try clear hb2); (try clear hk); (try clear hi); (try clear ho0)) | ((with_reducible refine gate_callee (f := 55) rfl ?_); refine goesL_ (some 33) rfl rfl Try.func55 (by kernel_rfl) rfl #[] rfl (by (try simp only [List.map_toArray, List.map_cons, List.map_nil]); first | done | rfl | (simp only [List.length_drop, List.length_take]; rfl)) ?_; (with_reducible refine (ebbtidelaw08_awake.calls k  true _ A7.out).mono ?_); rintro e w17 ⟨rfl, hb⟩; refine ⟨_, rfl, ?_⟩; have n0_ := Aside0.mk (Kd.R_below (by (with_reducible repeat (first | apply Kd.R_alloc | apply Kd.R_drewN | apply Kd.R_drew)); exact HO578.out) hb); have n1_ := Aside0.mk (Kd.R_below (by (with_reducible repeat (first | apply Kd.R_alloc | apply Kd.R_drewN | apply Kd.R_drew)); exact HO583.out) hb); have n2_ := Aside0.mk (blk_below (g := gb575) (o := .cells #[.int .i64 a0_0, .bool a0_1, .slice A0_2 l0_2.length c0_2] 24 (0, 0)) (by (with_reducible repeat (first | refine blk_drewN ?_ _ | refine blk_drew ?_ | refine blk_alloc ?_ _)); exact BK575.out) hb); have n3_ := Aside0.mk (below_step (by repeat (first | (with_reducible first | exact HB.out | apply below_alloc | apply pw_below_drewN | apply below_drew1 | refine below_set ?_ GE575.out) | exact HB.out)) hb); clear HO578; clear HO583; clear BK575; clear HB; have HO578 := n0_; have HO583 := n1_; have BK575 := n2_; have HB := n3_; clear n0_ n1_ n2_ n3_; (try clear hb); (try clear hb2); (try clear hk); (try clear hi); obtain ⟨Ao18, co18, eo18⟩ := Kd.R_slice HO578.out; subst eo18; obtain ⟨Ao19, co19, eo19⟩ := Kd.R_slice HO583.out; subst eo19) | (go_at_call 58; (with_reducible refine (ebbtideref08_Same.calls k _ _ t576 _ _ t581 true _ ?side1 ?side2 ?side3 ?side4 A9.out).mono ?_); (case side1 => repeat (first | exact (Kd.R_reads' HO578.out).2.2 | (with_reducible refine Kd.C_alloc ?_ _) | (with_reducible refine Kd.C_drewN ?_ _) | (with_reducible refine Kd.C_drew ?_))); (case side2 => exact (Kd.R_reads' HO578.out).2.1); (case side3 => repeat (first | exact (Kd.R_reads' HO583.out).2.2 | (with_reducible refine Kd.C_alloc ?_ _) | (with_reducible refine Kd.C_drewN ?_ _) | (with_reducible refine Kd.C_drew ?_))); (case side4 => exact (Kd.R_reads' HO583.out).2.1); rintro e w' ⟨rfl, ⟨nd, rfl⟩⟩))
 go_ret
 exact ⟨by first | rfl | (simp [errW_none, errW_some] <;> rfl) | (simp [*, errW_none, errW_some] <;> rfl), by repeat (first | (with_reducible first | exact HB.out | apply below_alloc | apply pw_below_drewN | apply below_drew1 | refine below_set ?_ GE575.out) | exact HB.out)⟩
end Go.Proofs.Ytkcpanpdipmmmaa.P
namespace Go.Proofs.Ytkcpanpdipmmmaa.Opn
open Go.RowKit Go.ChangeShapes Go.WideShapes Go.Deep Go.Proofs.YtkcpanpdipmmmaaW.PrintWords
def Opens (P : Program) (t : TypeId) {α : Type} (d : Kd α) (ok : α → Prop) : Prop :=
 ∀ (H : Type) (enc : TypeId × Value → H) (w : World) (base : Nat) (spare : Nat → Bool) (held : Bool) (fuel : Nat) (cs : List Value) (x : DataW H × List MemPlace),
  DataW.trod enc P w base spare held fuel t cs = some x → ∃ a : α, d.K w a cs ∧ ok a
theorem opens_int {P : Program} {t : TypeId} {k : IntKind} (ht : P.underlying t = some (.int k)) : Opens P t (Kd.int k) (fun n => (Lit.int k n).wf = true) := by
 intro H enc w base spare held fuel cs x h
 obtain ⟨n, rfl, _, hw⟩ := DataW.trod_int ht h
 exact ⟨n, rfl, hw⟩
theorem opens_bool {P : Program} {t : TypeId} (ht : P.underlying t = some .bool) : Opens P t Kd.bool (fun _ => True) := by
 intro H enc w base spare held fuel cs x h
 obtain ⟨b, rfl, _⟩ := DataW.trod_bool ht h
 exact ⟨b, rfl, trivial⟩
theorem opens_slice {P : Program} {t e : TypeId} {α : Type} {d : Kd α} {ok : α → Prop} (ht : P.underlying t = some (.slice e)) (hc : P.cellsOf e = d.sz) (h : Opens P e d ok) :
  Opens P t (Kd.slice e d) (fun l => l.length ≤ 9223372036854775807 ∧ ∀ x ∈ l, ok x) := by
 intro H enc w base spare held fuel cs x hx
 rcases open_slice ht hx with ⟨rfl, _⟩ | ⟨a, len, cap, m, n, D, Pl, rfl, hb, hl, hm, hmm, _, hi⟩
 ·exact ⟨[], ⟨none, 0, rfl, Nat.le_refl _, rfl, by simp, fun h => absurd h (by simp)⟩, by simp, by simp⟩
 ·have hlm : len ≤ m := by rw [hmm]; split <;> omega
  have hel : ∀ i : Nat, i < len → ∃ a' : α, ok a' ∧ ∃ c, c.length = d.sz ∧ d.K w a' c ∧ ∀ j u, c[j]? = some u → w.cell? (a.add (i * d.sz + j)) = some u := by
   intro i hil
   obtain ⟨cs', hcs, htr⟩ := hi i (by omega)
   obtain ⟨a', hK, hok⟩ := h H enc w base spare held n cs' _ htr
   rw [hc] at hcs
   obtain ⟨_, hcl, hat⟩ := World.cells?_some hcs
   refine ⟨a', hok, cs', hcl, hK, fun j u hu => ?_⟩
   have hj : j < d.sz := by have := (List.getElem?_eq_some_iff.1 hu).1; omega
   have := hat j hj
   rw [← Go.Deep.add_add, this, hu]
  have hrow : ∀ k : Nat, k ≤ len → ∃ xs : List α, xs.length = k ∧ (∀ x ∈ xs, ok x) ∧ ∀ j p, xs[j]? = some p → ∃ c, c.length = d.sz ∧ d.K w p c ∧ ∀ i u, c[i]? = some u → w.cell? (a.add (j * d.sz + i)) = some u := by
   intro k
   induction k with
   | zero => exact fun _ => ⟨[], rfl, by simp, by simp⟩
   | succ k ih =>
    intro hk
    obtain ⟨xs, h1, h2, h3⟩ := ih (by omega)
    obtain ⟨a', ho, c, hcl, hK, hcell⟩ := hel k (by omega)
    refine ⟨xs ++ [a'], by simp [h1], fun x hx => ?_, fun j p hj => ?_⟩
    ·rcases List.mem_append.1 hx with h | h
     ·exact h2 x h
     ·rw [List.mem_singleton.1 h]; exact ho
    ·by_cases hjk : j < xs.length
     ·rw [List.getElem?_append_left hjk] at hj
      exact h3 j p hj
     ·have hjl := (List.getElem?_eq_some_iff.1 hj).1
      simp at hjl
      have hje : j = k := by omega
      subst hje
      rw [← h1, List.getElem?_concat_length] at hj
      obtain rfl := Option.some.inj hj
      exact ⟨c, hcl, hK, hcell⟩
  obtain ⟨xs, h1, h2, h3⟩ := hrow len (Nat.le_refl _)
  have hmx : len ≤ 9223372036854775807 := by unfold maxLen at hm; omega
  subst h1
  exact ⟨xs, ⟨some a, cap, rfl, hl, rfl, hmx, fun _ => ⟨a, rfl, h3⟩⟩, hmx, h2⟩
theorem opens_iso {P : Program} {t : TypeId} {α β : Type} {d : Kd α} {ok : α → Prop} (h : Opens P t d ok) (f : β → α) (g : α → β) (hfg : ∀ x, f (g x) = x) : Opens P t (Kd.iso d f) (fun y => ok (f y)) := by
 intro H enc w base spare held fuel cs x hx
 obtain ⟨a, hK, hok⟩ := h H enc w base spare held fuel cs x hx
 exact ⟨g a, by show d.K w (f (g a)) cs; rw [hfg]; exact hK, by show ok (f (g a)); rw [hfg]; exact hok⟩
def OpensFs (P : Program) (fs : List Field) (off : Nat) {α : Type} (d : Kd α) (ok : α → Prop) : Prop :=
 ∀ (H : Type) (enc : TypeId × Value → H) (w : World) (base : Nat) (spare : Nat → Bool) (held : Bool) (n : Nat) (cs : List Value), cs.length = off + d.sz →
  (∀ f ∈ fs, ∃ y, DataW.trod enc P w base spare held n f.type ((cs.drop f.offset).take (P.cellsOf f.type)) = some y) → ∃ a : α, d.K w a (cs.drop off) ∧ ok a
theorem fs_one {P : Program} {f : Field} {off : Nat} {α : Type} {d : Kd α} {ok : α → Prop} (ho : f.offset = off) (hc : P.cellsOf f.type = d.sz) (h : Opens P f.type d ok) : OpensFs P [f] off d ok := by
 intro H enc w base spare held n cs hl hf
 obtain ⟨y, hy⟩ := hf f (by simp)
 rw [ho, hc, List.take_of_length_le (by simp; omega)] at hy
 exact h H enc w base spare held n _ y hy
theorem fs_cons {P : Program} {f : Field} {fs : List Field} {off : Nat} {α β : Type} {d : Kd α} {d' : Kd β} {ok : α → Prop} {ok' : β → Prop} (ho : f.offset = off) (hc : P.cellsOf f.type = d.sz) (h : Opens P f.type d ok)
  (hr : OpensFs P fs (off + d.sz) d' ok') : OpensFs P (f :: fs) off (Kd.pair d d') (fun x => ok x.1 ∧ ok' x.2) := by
 intro H enc w base spare held n cs hl hf
 have hsz : (Kd.pair d d').sz = d.sz + d'.sz := rfl
 rw [hsz] at hl
 obtain ⟨y, hy⟩ := hf f (by simp)
 rw [ho, hc] at hy
 obtain ⟨a, hK, hok⟩ := h H enc w base spare held n _ y hy
 obtain ⟨b, hKb, hokb⟩ := hr H enc w base spare held n cs (by omega) (fun f' hf' => hf f' (List.mem_cons_of_mem _ hf'))
 refine ⟨(a, b), ⟨_, _, ?_, hK, hKb⟩, hok, hokb⟩
 rw [← List.drop_drop]
 exact (List.take_append_drop _ _).symm
theorem opens_struct {P : Program} {t : TypeId} {fs : Array Field} {α : Type} {d : Kd α} {ok : α → Prop} (hs : P.underlying t = some (.struct fs)) (hC : P.cellsOf t = d.sz) (h : OpensFs P fs.toList 0 d ok) : Opens P t d ok := by
 intro H enc w base spare held fuel cs x hx
 obtain ⟨xs, n, _, _, hl, hlen, hf⟩ := DataW.trod_struct hs hx
 obtain ⟨a, hK, hok⟩ := h H enc w base spare held n cs (by rw [hl, hC, Nat.zero_add]) (fun f hfm => by
  obtain ⟨j, hj⟩ := List.getElem?_of_mem hfm
  have hj' : fs[j]? = some f := by rw [← hj]; simp
  have hjl : j < xs.length := by rw [hlen]; exact (Array.getElem?_eq_some_iff.1 hj').1
  have h1 := hf j f hj'
  rw [List.getElem?_eq_getElem hjl] at h1
  exact ⟨_, h1⟩)
 exact ⟨a, hK, hok⟩
theorem arg_struct {H : Type} {enc : TypeId × Value → H} {P : Program} {w : World} {base b0 : Nat} {spare : Nat → Bool} {held : Bool} {r : Reach} {t : TypeId} {fs : Array Field} {v : Value} {dd : DataW H} {p : List MemPlace} {α : Type} {d : Kd α} {ok : α → Prop}
  (hs : P.underlying t = some (.struct fs)) (ho : Opens P t d ok) (hv : Value.okWide P w r b0 t v) (h : DataW.Trod enc P w base spare held t v dd p) : ∃ a cs, v = .agg cs ∧ d.K w a cs.toList ∧ ok a := by
 obtain ⟨cs, rfl, hsz⟩ := okWide_struct hs hv
 obtain ⟨fuel, hf⟩ := h
 obtain ⟨a, hK, hok⟩ := ho H enc w base spare held fuel _ _ hf
 exact ⟨a, cs, rfl, by simpa [Value.cells] using hK, hok⟩
theorem arg_slice {H : Type} {enc : TypeId × Value → H} {P : Program} {w : World} {base b0 : Nat} {spare : Nat → Bool} {held : Bool} {r : Reach} {t e : TypeId} {v : Value} {dd : DataW H} {p : List MemPlace} {α : Type} {d : Kd α} {ok : List α → Prop}
  (hs : P.underlying t = some (.slice e)) (ho : Opens P t (Kd.slice e d) ok) (hv : Value.okWide P w r b0 t v) (h : DataW.Trod enc P w base spare held t v dd p) : ∃ A c l, v = .slice A l.length c ∧ l.length ≤ c ∧ d.C w A l.length l ∧ ok l := by
 obtain ⟨A, len, cap, rfl⟩ := okWide_slice hs hv
 obtain ⟨fuel, hf⟩ := h
 obtain ⟨l, ⟨A', c, he, hlc, hC⟩, hok⟩ := ho H enc w base spare held fuel _ _ hf
 simp [Value.cells] at he
 obtain ⟨rfl, rfl, rfl⟩ := he
 exact ⟨A, cap, l, rfl, hlc, hC, hok⟩
end Go.Proofs.Ytkcpanpdipmmmaa.Opn
namespace Go.Proofs.Ytkcpanpdipmmmaa.Q
open Go.RowKit Go.Proofs.YtkcpanpdipmmmaaW.PrintWords Go.Proofs.YtkcpanpdipmmmaaW.PrintLast Go.Proofs.YtkcpanpdipmmmaaW.PrintMore Go.Proofs.Ytkcpanpdipmmmaa.P
open Go.Proofs.Ytkcpanpdipmmmaa.H (levelsRes pathRes wayP endsErr wayRes wayF wayF_eq StepsOk Right right_of stepsR bfP bfL dOf nodes wayL frP toP esP way_nat bf_same Fd bfP_upto dOf_len dOf_get fnd fnd_some fnd_none fnd_of backL_spec lv_lt esP_fr esP_to steps_ev)
theorem awake08_at : ebbtidelaw08_awake.f 100 = some true := by decide +kernel
theorem awake08_ev : Ev (fun k => ebbtidelaw08_awake.f k) true := Ev.of ebbtidelaw08_awake.mono awake08_at
theorem stepsOk {l : List S74} {F : List Int} {n : Nat} (hr : Right l F n) : StepsOk l n (stepsR l F F.length) :=
 ⟨hr.ends, hr.arcs, fun s hs => H.stepsR_of hr s hs, by have := H.stepsR_len l F F.length; have := hr.len; have := hr.arcs; omega⟩
theorem way_same {l : List S74} {F : List Int} {n : Nat} (hr : Right l F n) (s v : Nat) : wayRes l (stepsR l F F.length) n s (v : Int) = (wayP l F n s v, decide (v ∈ nodes (bfP l F n s))) := by
 rw [way_nat, bf_same hr]
 unfold wayP
 by_cases h : v ∈ nodes (bfP l F n s)
 ·rw [if_pos h, if_pos h, decide_eq_true h]
 ·rw [if_neg h, if_neg h, decide_eq_false h]
theorem way_ref_eq {l : List S74} {F : List Int} {n : Nat} (hr : Right l F n) {s : Nat} (hs : s < n) (b : Bool) (v : Nat) : ebbtideref08_Way.f (n : Int) b l (s : Int) (v : Int) (stepsR l F F.length) = some (wayP l F n s v, decide (v ∈ nodes (bfP l F n s))) := by
 unfold ebbtideref08_Way.f
 rw [wayF_eq (stepsOk hr) hs hr.fifty, way_same hr]
theorem path_eq (n : Int) (b : Bool) (l : List S74) (F : List Int) (s t : Int) : level_Path.f n b l F s t = some (pathRes n l F s t) := rfl
theorem ref_path_ev (n : Int) (b : Bool) (l : List S74) (F : List Int) (s t : Int) : Ev (fun k => ebbtideref08_Path.f k n b l F s t) (pathRes n l F s t) := by
 unfold ebbtideref08_Path.f pathRes
 refine Ev.bind (ref_asked_ev n b l F) ?_
 by_cases h0 : askErr n l F = 0
 ·rw [if_pos h0]
  refine Ev.pos h0 ?_
  refine Ev.bind (ref_ends_ev n b l s t) ?_
  by_cases h1 : endsErr n l s t = 0
  ·rw [if_pos h1]
   refine Ev.pos h1 ?_
   obtain ⟨n0, rfl, hr⟩ := right_of h0
   have he : 0 ≤ s ∧ s < (n0 : Int) ∧ 0 ≤ t ∧ t < (n0 : Int) ∧ s ≠ t := by
    unfold endsErr at h1
    by_cases hn : netErr n0 l = 0
    ·rw [if_pos hn] at h1
     split at h1
     ·assumption
     ·cases h1
    ·rw [if_neg hn] at h1; exact absurd h1 hn
   obtain ⟨s0, rfl⟩ : ∃ s0 : Nat, s = s0 := ⟨s.toNat, by omega⟩
   obtain ⟨t0, rfl⟩ : ∃ t0 : Nat, t = t0 := ⟨t.toNat, by omega⟩
   refine Ev.bind (steps_ev hr _ b) ?_
   refine Ev.call (way_ref_eq hr (by omega) b t0) ?_
   exact Ev.done (by simp only [Int.toNat_natCast])
  ·rw [if_neg h1]
   refine Ev.neg h1 ?_
   exact Ev.now _
 ·rw [if_neg h0]
  refine Ev.neg h0 ?_
  exact Ev.now _
theorem same8_l0 (a : List S38) (hl : a.length ≤ 1000000) (d : Nat) : ∀ i : Nat, i + d = a.length → Ev (fun k => ebbtideref08_Same.l0 k a a (i : Int)) true := by
 induction d with
 | zero =>
  intro i hi
  refine Ev.succ ?_; simp only [ebbtideref08_Same.l0]
  refine Ev.neg (by omega) ?_
  exact Ev.now _
 | succ d ih =>
  intro i hi
  refine Ev.succ ?_; simp only [ebbtideref08_Same.l0]
  refine Ev.pos (by omega) ?_
  refine Ev.pos (by omega) ?_
  refine Ev.pos (by omega) ?_
  refine Ev.neg (by simp) ?_
  rw [wrap_succ (n := a.length) (by omega) (by omega)]
  exact ih (i + 1) (by omega)
theorem same8_ev (a : List S38) (hl : a.length ≤ 1000000) : Ev (fun k => ebbtideref08_Same.f k a a) true := by
 unfold ebbtideref08_Same.f
 refine Ev.pos rfl ?_
 exact same8_l0 a hl a.length 0 (by omega)
theorem pathRes_len (n : Int) (l : List S74) (F : List Int) (s t : Int) : (pathRes n l F s t).1.length ≤ 50 := by
 unfold pathRes
 split
 ·rename_i h0
  split
  ·rename_i h1
   obtain ⟨n0, rfl, hr⟩ := right_of h0
   have := hr.fifty
   have he : 0 ≤ s ∧ s < (n0 : Int) ∧ 0 ≤ t ∧ t < (n0 : Int) ∧ s ≠ t := by
    unfold endsErr at h1
    by_cases hn : netErr n0 l = 0
    ·rw [if_pos hn] at h1
     split at h1
     ·assumption
     ·cases h1
    ·rw [if_neg hn] at h1; exact absurd h1 hn
   obtain ⟨s0, rfl⟩ : ∃ s0 : Nat, s = s0 := ⟨s.toNat, by omega⟩
   obtain ⟨t0, rfl⟩ : ∃ t0 : Nat, t = t0 := ⟨t.toNat, by omega⟩
   simp only [Int.toNat_natCast]
   by_cases hm : t0 ∈ nodes (bfP l F n0 s0)
   ·obtain ⟨x, hx, rfl⟩ := List.mem_map.1 hm
    have hu := (bfP_upto hr (show s0 < n0 by omega)).fds
    have h3 := lv_lt hu hx
    have h4 := H.fds_len hu (esP_to hr) (show s0 < n0 by omega)
    unfold wayP
    rw [if_pos hm]
    unfold wayL
    rw [List.length_reverse, (backL_spec hu esP_fr _ hx (Nat.le_of_lt h3)).1]
    omega
   ·unfold wayP
    rw [if_neg hm]
    simp
  ·simp
 ·simp
end Go.Proofs.Ytkcpanpdipmmmaa.Q
namespace Go.Proofs.Ytkcpanpdipmmmaa.Q
open Go.RowKit Go.Proofs.YtkcpanpdipmmmaaW.PrintWords Go.Proofs.YtkcpanpdipmmmaaW.PrintLast Go.Proofs.YtkcpanpdipmmmaaW.PrintMore Go.Proofs.Ytkcpanpdipmmmaa.P
open Go.Proofs.Ytkcpanpdipmmmaa.H (levelsRes pathRes)
theorem levelPaths_ev (n : Int) (b : Bool) (l : List S74) (f : List Int) (s t : Int) : Ev (fun k => ebbtidelaw08_LevelPaths.f k n b l f s t) true := by
 unfold ebbtidelaw08_LevelPaths.f
 refine Ev.call (path_eq n b l f s t) ?_
 refine Ev.bind (ref_path_ev n b l f s t) ?_
 refine Ev.bind awake08_ev ?_
 refine Ev.pos rfl ?_
 refine Ev.bind (same8_ev _ (by have := pathRes_len n l f s t; omega)) ?_
 refine Ev.pos rfl ?_
 refine Ev.pos (beq_self_eq_true _) ?_
 exact Ev.done (beq_self_eq_true _)
end Go.Proofs.Ytkcpanpdipmmmaa.Q
