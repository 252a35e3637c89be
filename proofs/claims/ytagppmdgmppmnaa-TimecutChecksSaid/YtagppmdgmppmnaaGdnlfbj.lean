/- Joined by wip/tool/bundle.py out of: P70 QRead12 QMade18 QAwake18 QLTcA. -/
import Derived.Test.YtagppmdgmppmnaaGhhiiib
import Derived.Test.YtagppmdgmppmnaaGhkhjdm
import Derived.Test.YtagppmdgmppmnaaGbegmnb
import Derived.Test.YtagppmdgmppmnaaGncaaid
-- Laid by wip/tool/mk.py, by the kit's print.py, for all laws of this seat in one namespace; a function told as by hand has a proof of this session's own.
namespace Go.Proofs.Ytagppmdgmppmnaa.P
open Go.RowKit Go.Proofs.YtagppmdgmppmnaaW.PrintWords Go.Proofs.YtagppmdgmppmnaaW.PrintLast Go.Proofs.YtagppmdgmppmnaaW.PrintMore
attribute [local go_sem] max2_int min2_int max_two min_two max_three min_three max_four min_four   -- for this text's walks alone
set_option linter.unusedVariables false
set_option linter.unusedSimpArgs false

/-! ### ebbtidelaw18_TimecutOrder: function 10 -/
def ebbtidelaw18_TimecutOrder.l0 : Nat → Bool → Int → Int → Int → List (S59) → List (S59) → Int → Int → Bool → List (S69) → Option (Bool)
 | 0, _, _, _, _, _, _, _, _, _, _ => none
 | k + 1, x5, x7, x8, x9, x10, x11, x12, x638000, x638001, x638002 => if x12 ≥ 0 then (if 0 ≤ x12 then (if x12 < (x10.length : Int) then (if 0 ≤ (wrap64 (Int.tdiv x12 2)) then (if (wrap64 (Int.tdiv x12 2)) < (x10.length : Int) then ((some (([(⟨(rd_T59 x10 x12).f0, (rd_T59 x10 x12).f1⟩ : S59), (⟨(rd_T59 x10 (wrap64 (Int.tdiv x12 2))).f0, (rd_T59 x10 (wrap64 (Int.tdiv x12 2))).f1⟩ : S59)] : List (S59)) : List (S59))).bind fun y643 => (if x11.length + y643.length < 8796093022208 then (ebbtidelaw18_TimecutOrder.l0 k x5 x7 x8 x9 x10 (x11 ++ y643) (wrap64 (x12 - 1)) x638000 x638001 x638002) else (none))) else (none)) else (none)) else (none)) else (none)) else ((timecut_Check.f k x638000 x638001 x638002 x7 x8 x9 x10).bind fun bt649 => ((timecut_Check.f k x638000 x638001 x638002 x7 x8 x9 x11).bind fun bt651 => (if x5 = true then (if bt649.2 = 0 then (if bt651.2 = 0 then (some (bt649.1 == bt651.1)) else (some false)) else (some false)) else (some false))))
def ebbtidelaw18_TimecutOrder.f (k : Nat) (a0_0 : Int) (a0_1 : Bool) (l0_2 : List (S79)) (a0_3 : Int) (a0_4 : Int) (a0_5 : Int) (l1 : List Int) : Option (Bool) := (ebbtidelaw18_awake.f k).bind fun t628 => (if t628 = true then ((ebbtidelaw12_Read.f k a0_0 a0_1 l0_2 a0_3 a0_4 a0_5 10).bind fun bt629 => ((ebbtidelaw18_Made.f k bt629.1 bt629.2.1 bt629.2.2.1 bt629.2.2.2.1 bt629.2.2.2.2.1 bt629.2.2.2.2.2 l1).bind fun t638 => (ebbtidelaw18_TimecutOrder.l0 k t628 bt629.2.2.2.1 bt629.2.2.2.2.1 bt629.2.2.2.2.2 t638 ([] : List (S59)) (wrap64 ((t638.length : Int) - 1)) bt629.1 bt629.2.1 bt629.2.2.1))) else (some false))
theorem ebbtidelaw18_TimecutOrder.mono_l : ∀ k, (∀ y0 y1 y2 y3 y4 y5 y6 y7 y8 y9, LeO (ebbtidelaw18_TimecutOrder.l0 k y0 y1 y2 y3 y4 y5 y6 y7 y8 y9) (ebbtidelaw18_TimecutOrder.l0 (k + 1) y0 y1 y2 y3 y4 y5 y6 y7 y8 y9))
 | 0 => fun _ _ _ _ _ _ _ _ _ _ r h => by simp [ebbtidelaw18_TimecutOrder.l0] at h
 | k + 1 => by
  have ih0 := ebbtidelaw18_TimecutOrder.mono_l k
  ·intro y0 y1 y2 y3 y4 y5 y6 y7 y8 y9
   unfold ebbtidelaw18_TimecutOrder.l0
   repeat' first
   | (with_reducible exact ih0 _ _ _ _ _ _ _ _ _ _)
   | (with_reducible exact ebbtidelaw12_Read.mono _ _ _ _ _ _ _ _)
   | (with_reducible exact ebbtidelaw18_Made.mono _ _ _ _ _ _ _ _)
   | (with_reducible exact ebbtidelaw18_awake.mono _)
   | (with_reducible exact timecut_Check.mono _ _ _ _ _ _ _ _)
   | (with_reducible exact LeO.refl _)
   | (with_reducible exact LeO.none _)
   | (with_reducible refine LeO.ite ?_ ?_)
   | (with_reducible refine LeO.bind ?_ (fun _ => ?_))
   | exact ih0 _ _ _ _ _ _ _ _ _ _
   | exact ebbtidelaw12_Read.mono _ _ _ _ _ _ _ _
   | exact ebbtidelaw18_Made.mono _ _ _ _ _ _ _ _
   | exact ebbtidelaw18_awake.mono _
   | exact timecut_Check.mono _ _ _ _ _ _ _ _
   | exact LeO.none _
   | refine LeO.ite ?_ ?_
   | refine LeO.bind ?_ (fun _ => ?_)
theorem ebbtidelaw18_TimecutOrder.mono : ∀ a0 a1 a2 a3 a4 a5 a6 k, LeO (ebbtidelaw18_TimecutOrder.f k a0 a1 a2 a3 a4 a5 a6) (ebbtidelaw18_TimecutOrder.f (k + 1) a0 a1 a2 a3 a4 a5 a6) := by
 intro a0 a1 a2 a3 a4 a5 a6 k
 have ih0 := ebbtidelaw18_TimecutOrder.mono_l k
 unfold ebbtidelaw18_TimecutOrder.f
 repeat' first
   | (with_reducible exact ih0 _ _ _ _ _ _ _ _ _ _)
   | (with_reducible exact ebbtidelaw12_Read.mono _ _ _ _ _ _ _ _)
   | (with_reducible exact ebbtidelaw18_Made.mono _ _ _ _ _ _ _ _)
   | (with_reducible exact ebbtidelaw18_awake.mono _)
   | (with_reducible exact timecut_Check.mono _ _ _ _ _ _ _ _)
   | (with_reducible exact LeO.refl _)
   | (with_reducible exact LeO.none _)
   | (with_reducible refine LeO.ite ?_ ?_)
   | (with_reducible refine LeO.bind ?_ (fun _ => ?_))
   | exact ih0 _ _ _ _ _ _ _ _ _ _
   | exact ebbtidelaw12_Read.mono _ _ _ _ _ _ _ _
   | exact ebbtidelaw18_Made.mono _ _ _ _ _ _ _ _
   | exact ebbtidelaw18_awake.mono _
   | exact timecut_Check.mono _ _ _ _ _ _ _ _
   | exact LeO.none _
   | refine LeO.ite ?_ ?_
   | refine LeO.bind ?_ (fun _ => ?_)
def ebbtidelaw18_TimecutOrder.T10 : Bool × List (List Nat × List Nat) := (true, [([], []), ([], []), ([], []), ([1, 2], [1, 2]), ([3], [3]), ([], []), ([], []), ([6], [6]), ([5, 7], [5, 7]), ([8], [8]), ([4, 9], [4, 9]), ([0, 10], [0, 10]), ([11, 11, 0, 1, 2, 3, 4, 5, 6, 7, 8, 9, 10, 11], [0, 11])])
def ebbtidelaw18_TimecutOrder.B10 : List Nat := [0, 0, 0, 6, 14, 0, 0, 64, 224, 480, 1022, 2047, 4095]
theorem ebbtidelaw18_TimecutOrder.tab10 : rtab .any (opsOf Try.f10 10) = ebbtidelaw18_TimecutOrder.T10 := by kernel_rfl
theorem ebbtidelaw18_TimecutOrder.bits10 : waitsOk ebbtidelaw18_TimecutOrder.T10.2 ebbtidelaw18_TimecutOrder.B10 = true := by kernel_rfl
set_option maxHeartbeats 8000000 in
set_option maxRecDepth 100000 in
theorem ebbtidelaw18_TimecutOrder.calls (k : Nat) (a0_0 : Int) (a0_1 : Bool) (A0_2 : Option Addr) (c0_2 : Nat) (l0_2 : List (S79)) (a0_3 : Int) (a0_4 : Int) (a0_5 : Int) (A1 : Option Addr) (c1 : Nat) (l1 : List Int) (r : Bool) (w : World) (hr0_2 : Kd.C k79 w A0_2 l0_2.length l0_2) (hc0_2 : l0_2.length ≤ c0_2) (hr1 : Kd.C (Kd.int .u16) w A1 l1.length l1) (hc1 : l1.length ≤ c1) (h : ebbtidelaw18_TimecutOrder.f k a0_0 a0_1 l0_2 a0_3 a0_4 a0_5 l1 = some r) (hrT_ : r = true := by first | rfl | exact Aside0.out (by assumption)) :
  Calls Try.prog 10 #[.agg #[.int .u8 a0_0, .bool a0_1, .slice A0_2 l0_2.length c0_2, .int .u8 a0_3, .int .u8 a0_4, .int .u8 a0_5], .slice A1 l1.length c1] w fun e w' => e = .returned (.bool r) ∧ Below w.heap.size w w' := by
 have HRT := Aside0.mk hrT_
 clear hrT_
 have hu38 := Try.underlying38
 have hu24 := Try.underlying24
 have hu59 := Try.underlying59
 have HR0_2 := Aside0.mk hr0_2
 have HC0_2 := Aside0.mk hc0_2
 clear hr0_2 hc0_2
 have HR1 := Aside0.mk hr1
 have HC1 := Aside0.mk hc1
 clear hr1 hc1
 have HB := Aside0.mk (Below.refl w.heap.size w)
 have H : ((ebbtidelaw18_awake.f k).bind fun t628 => (if t628 = true then ((ebbtidelaw12_Read.f k a0_0 a0_1 l0_2 a0_3 a0_4 a0_5 10).bind fun bt629 => ((ebbtidelaw18_Made.f k bt629.1 bt629.2.1 bt629.2.2.1 bt629.2.2.2.1 bt629.2.2.2.2.1 bt629.2.2.2.2.2 l1).bind fun t638 => (ebbtidelaw18_TimecutOrder.l0 k t628 bt629.2.2.2.1 bt629.2.2.2.2.1 bt629.2.2.2.2.2 t638 ([] : List (S59)) (wrap64 ((t638.length : Int) - 1)) bt629.1 bt629.2.1 bt629.2.2.1))) else (some false))) = some r := h
 clear h
 replace H := Option.bind_eq_some_iff.mp H
 obtain ⟨t628, A30, H⟩ := H
 replace H : (if t628 = true then ((ebbtidelaw12_Read.f k a0_0 a0_1 l0_2 a0_3 a0_4 a0_5 10).bind fun bt629 => ((ebbtidelaw18_Made.f k bt629.1 bt629.2.1 bt629.2.2.1 bt629.2.2.2.1 bt629.2.2.2.2.1 bt629.2.2.2.2.2 l1).bind fun t638 => (ebbtidelaw18_TimecutOrder.l0 k t628 bt629.2.2.2.1 bt629.2.2.2.2.1 bt629.2.2.2.2.2 t638 ([] : List (S59)) (wrap64 ((t638.length : Int) - 1)) bt629.1 bt629.2.1 bt629.2.2.1))) else (some false)) = some r := H
 have A3 := Aside0.mk A30
 clear A30
 by_cases c4 : t628 = true
 ·subst c4
  have H1 : ((ebbtidelaw12_Read.f k a0_0 a0_1 l0_2 a0_3 a0_4 a0_5 10).bind fun bt629 => ((ebbtidelaw18_Made.f k bt629.1 bt629.2.1 bt629.2.2.1 bt629.2.2.2.1 bt629.2.2.2.2.1 bt629.2.2.2.2.2 l1).bind fun t638 => (ebbtidelaw18_TimecutOrder.l0 k true bt629.2.2.2.1 bt629.2.2.2.2.1 bt629.2.2.2.2.2 t638 ([] : List (S59)) (wrap64 ((t638.length : Int) - 1)) bt629.1 bt629.2.1 bt629.2.2.1))) = some r := by rw [if_pos rfl] at H; exact H
  clear H
  have H := H1
  clear H1
  replace H := Option.bind_eq_some_iff.mp H
  obtain ⟨⟨t629, t630, t631, t634, t635, t636⟩, A50, H⟩ := H
  replace H : ((ebbtidelaw18_Made.f k t629 t630 t631 t634 t635 t636 l1).bind fun t638 => (ebbtidelaw18_TimecutOrder.l0 k true t634 t635 t636 t638 ([] : List (S59)) (wrap64 ((t638.length : Int) - 1)) t629 t630 t631)) = some r := H
  have A5 := Aside0.mk A50
  clear A50
  replace H := Option.bind_eq_some_iff.mp H
  obtain ⟨t638, A60, H⟩ := H
  replace H : (ebbtidelaw18_TimecutOrder.l0 k true t634 t635 t636 t638 ([] : List (S59)) (wrap64 ((t638.length : Int) - 1)) t629 t630 t631) = some r := H
  have A6 := Aside0.mk A60
  clear A60
  have H' := Aside0.mk H
  clear H
  go_enter Try.func10, Try.ntmps10
  go_wp2_with (first | ((with_reducible refine gate_dst (N := 2) rfl ?_); refine box_event ?hg (N := 2) ?hd (cs := #[.int .u8 a0_0, .bool a0_1, .slice A0_2 l0_2.length c0_2, .int .u8 a0_3, .int .u8 a0_4, .int .u8 a0_5]) (t := 38) ?hr ?_; (case hd => rfl); (case hg => rfl); (case hr => first | (go_simp; done) | (go_simp; rfl)); intro gb627 hg w7 hbox hb; have n0_ := Aside0.mk (below_step (by repeat (first | (with_reducible first | exact HB.out | apply below_alloc | apply pw_below_drewN | apply below_drew1) | exact HB.out)) hb); have n1_ := Aside0.mk (hbox); have n2_ := Aside0.mk ((by rw [hg]; exact (below_size (by repeat (first | (with_reducible first | exact HB.out | apply below_alloc | apply pw_below_drewN | apply below_drew1) | exact HB.out))) : w.heap.size ≤ gb627)); have n3_ := Aside0.mk ((by rw [hg]; exact (below_size (by repeat (first | (with_reducible first | exact HB.out | apply below_alloc | apply pw_below_drewN | apply below_drew1) | exact HB.out))) : w.heap.size ≤ gb627)); clear HB; have HB := n0_; have BK627 := n1_; have GW627 := n2_; have GE627 := n3_; clear n0_ n1_ n2_ n3_; clear hb hbox hg) | ((with_reducible refine gate_callee (f := 11) rfl ?_); refine goesL_ (some 17) rfl rfl Try.func11 (by kernel_rfl) rfl #[] rfl (by (try simp only [List.map_toArray, List.map_cons, List.map_nil]); first | done | rfl | (simp only [List.length_drop, List.length_take]; rfl)) ?_; (with_reducible refine (ebbtidelaw18_awake.calls k  true _ A3.out).mono ?_); rintro e w8 ⟨rfl, hb⟩; refine ⟨_, rfl, ?_⟩; have n0_ := Aside0.mk (blk_below (g := gb627) (o := .cells #[.int .u8 a0_0, .bool a0_1, .slice A0_2 l0_2.length c0_2, .int .u8 a0_3, .int .u8 a0_4, .int .u8 a0_5] 38 (0, 0)) (by (with_reducible repeat (first | refine blk_drewN ?_ _ | refine blk_drew ?_ | refine blk_alloc ?_ _)); exact BK627.out) hb); have n1_ := Aside0.mk (below_step (by repeat (first | (with_reducible first | exact HB.out | apply below_alloc | apply pw_below_drewN | apply below_drew1 | refine below_set ?_ GE627.out) | exact HB.out)) hb); clear BK627; clear HB; have BK627 := n0_; have HB := n1_; clear n0_ n1_; (try clear hb); (try clear hb2); (try clear hk); (try clear hi); have hcz9_0 : w8.cell? ⟨gb627, 0, none⟩ = some (.int .u8 a0_0) := (blk_cell BK627.out 0).trans rfl; have hcz9_1 : w8.cell? ⟨gb627, 1, none⟩ = some (.bool a0_1) := (blk_cell BK627.out 1).trans rfl; have hcz9_2 : w8.cell? ⟨gb627, 2, none⟩ = some (.slice A0_2 l0_2.length c0_2) := (blk_cell BK627.out 2).trans rfl; have hcz9_3 : w8.cell? ⟨gb627, 3, none⟩ = some (.int .u8 a0_3) := (blk_cell BK627.out 3).trans rfl; have hcz9_4 : w8.cell? ⟨gb627, 4, none⟩ = some (.int .u8 a0_4) := (blk_cell BK627.out 4).trans rfl; have hcz9_5 : w8.cell? ⟨gb627, 5, none⟩ = some (.int .u8 a0_5) := (blk_cell BK627.out 5).trans rfl; have hfz9_0 := blk_frozen BK627.out 0; have hfz9_1 := blk_frozen BK627.out 1; have hfz9_2 := blk_frozen BK627.out 2; have hfz9_3 := blk_frozen BK627.out 3; have hfz9_4 := blk_frozen BK627.out 4; have hfz9_5 := blk_frozen BK627.out 5) | ((with_reducible refine gate_callee (f := 17) rfl ?_); refine goesL_ (some 22) rfl rfl Try.func17 (by kernel_rfl) rfl #[.agg #[.int .u8 a0_0, .bool a0_1, .slice A0_2 l0_2.length c0_2, .int .u8 a0_3, .int .u8 a0_4, .int .u8 a0_5], .int .i64 10] rfl (by (try simp only [List.map_toArray, List.map_cons, List.map_nil]); first | done | rfl | (simp only [List.length_drop, List.length_take]; rfl)) ?_; (with_reducible refine (ebbtidelaw12_Read.calls k a0_0 a0_1 _ _ l0_2 a0_3 a0_4 a0_5 10 t629 t630 t631 t634 t635 t636 _ ?side1 ?side2 A5.out).mono ?_); (case side1 => repeat (first | exact (Kd.C_below HR0_2.out HB.out) | (with_reducible refine Kd.C_alloc ?_ _) | (with_reducible refine Kd.C_drewN ?_ _) | (with_reducible refine Kd.C_drew ?_))); (case side2 => exact HC0_2.out); rintro e w10 ⟨v632, rfl, ho0, hb⟩; refine ⟨_, rfl, ?_⟩; have n0_ := Aside0.mk (Kd.R_lower ho0 (below_size (by repeat (first | (with_reducible first | exact HB.out | apply below_alloc | apply pw_below_drewN | apply below_drew1 | refine below_set ?_ GE627.out) | exact HB.out)))); have n1_ := Aside0.mk (blk_below (g := gb627) (o := .cells #[.int .u8 a0_0, .bool a0_1, .slice A0_2 l0_2.length c0_2, .int .u8 a0_3, .int .u8 a0_4, .int .u8 a0_5] 38 (0, 0)) (by (with_reducible repeat (first | refine blk_drewN ?_ _ | refine blk_drew ?_ | refine blk_alloc ?_ _)); exact BK627.out) hb); have n2_ := Aside0.mk (below_step (by repeat (first | (with_reducible first | exact HB.out | apply below_alloc | apply pw_below_drewN | apply below_drew1 | refine below_set ?_ GE627.out) | exact HB.out)) hb); clear BK627; clear HB; have HO633 := n0_; have BK627 := n1_; have HB := n2_; clear n0_ n1_ n2_; (try clear hb); (try clear hb2); (try clear hk); (try clear hi); (try clear ho0)) | ((with_reducible refine gate_dst (N := 6) rfl ?_); refine box_event ?hg (N := 6) ?hd (cs := #[.int .i64 0, .bool false, .slice none 0 0]) (t := 24) ?hr ?_; (case hd => rfl); (case hg => rfl); (case hr => first | (go_simp; done) | (go_simp; rfl)); intro gb637 hg w11 hbox hb; have n0_ := Aside0.mk (Kd.R_below (by (with_reducible repeat (first | apply Kd.R_alloc | apply Kd.R_drewN | apply Kd.R_drew)); exact HO633.out) hb); have n1_ := Aside0.mk (blk_below (g := gb627) (o := .cells #[.int .u8 a0_0, .bool a0_1, .slice A0_2 l0_2.length c0_2, .int .u8 a0_3, .int .u8 a0_4, .int .u8 a0_5] 38 (0, 0)) (by (with_reducible repeat (first | refine blk_drewN ?_ _ | refine blk_drew ?_ | refine blk_alloc ?_ _)); exact BK627.out) hb); have n2_ := Aside0.mk (below_step (by repeat (first | (with_reducible first | exact HB.out | apply below_alloc | apply pw_below_drewN | apply below_drew1 | refine below_set ?_ GE627.out) | exact HB.out)) hb); have n3_ := Aside0.mk (hbox); have n4_ := Aside0.mk ((by rw [hg]; exact (below_size (by repeat (first | (with_reducible first | exact HB.out | apply below_alloc | apply pw_below_drewN | apply below_drew1 | refine below_set ?_ GE627.out) | exact HB.out))) : w.heap.size ≤ gb637)); have n5_ := Aside0.mk ((by rw [hg]; exact (below_size (by repeat (first | (with_reducible first | exact HB.out | apply below_alloc | apply pw_below_drewN | apply below_drew1 | refine below_set ?_ GE627.out) | exact HB.out))) : w.heap.size ≤ gb637)); have n6_ := Aside0.mk ((by rw [hg]; exact Nat.ne_of_lt (blk_lt (g := gb627) (o := .cells #[.int .u8 a0_0, .bool a0_1, .slice A0_2 l0_2.length c0_2, .int .u8 a0_3, .int .u8 a0_4, .int .u8 a0_5] 38 (0, 0)) (by (with_reducible repeat (first | refine blk_drewN ?_ _ | refine blk_drew ?_ | refine blk_alloc ?_ _)); exact BK627.out)) : gb627 ≠ gb637)); have n7_ := Aside0.mk ((by rw [hg]; exact Nat.ne_of_gt (blk_lt (g := gb627) (o := .cells #[.int .u8 a0_0, .bool a0_1, .slice A0_2 l0_2.length c0_2, .int .u8 a0_3, .int .u8 a0_4, .int .u8 a0_5] 38 (0, 0)) (by (with_reducible repeat (first | refine blk_drewN ?_ _ | refine blk_drew ?_ | refine blk_alloc ?_ _)); exact BK627.out)) : gb637 ≠ gb627)); clear HO633; clear BK627; clear HB; have HO633 := n0_; have BK627 := n1_; have HB := n2_; have BK637 := n3_; have GW637 := n4_; have GE637 := n5_; have NB627_637 := n6_; have NB637_627 := n7_; clear n0_ n1_ n2_ n3_ n4_ n5_ n6_ n7_; clear hb hbox hg; have hnb12 := NB637_627.out; have hnc12 := NB627_637.out; have hcz13_0 : w11.cell? ⟨gb637, 0, none⟩ = some (.int .i64 0) := (blk_cell BK637.out 0).trans rfl; have hcz13_1 : w11.cell? ⟨gb637, 1, none⟩ = some (.bool false) := (blk_cell BK637.out 1).trans rfl; have hcz13_2 : w11.cell? ⟨gb637, 2, none⟩ = some (.slice none 0 0) := (blk_cell BK637.out 2).trans rfl; have hfz13_0 := blk_frozen BK637.out 0; have hfz13_1 := blk_frozen BK637.out 1; have hfz13_2 := blk_frozen BK637.out 2; obtain ⟨Ao14, co14, eo14⟩ := Kd.R_slice HO633.out; subst eo14) | ((with_reducible refine gate_callee (f := 18) rfl ?_); refine goesL_ (some 32) rfl rfl Try.func18 (by kernel_rfl) rfl #[.agg #[.int .i64 t629, .bool t630, .slice Ao14 t631.length co14], .int .i64 t634, .int .i64 t635, .int .i64 t636, .slice A1 l1.length c1] rfl (by (try simp only [List.map_toArray, List.map_cons, List.map_nil]); first | done | rfl | (simp only [List.length_drop, List.length_take]; rfl)) ?_; (with_reducible refine (ebbtidelaw18_Made.calls k t629 t630 _ _ t631 t634 t635 t636 _ _ l1 t638 _ ?side1 ?side2 ?side3 ?side4 A6.out).mono ?_); (case side1 => refine (Kd.R_reads' (e := 69) (base := w.heap.size) (ok := fun k_ => True) (n := t631.length) (c := co14) ?_).2.2; exact (by (with_reducible repeat (first | apply Kd.R_alloc | apply Kd.R_drewN | apply Kd.R_drew)); exact (Kd.R_mono (Kd.R_far (p := ⟨gb637, 2, none⟩) (Kd.R_far (p := ⟨gb637, 1, none⟩) (Kd.R_far (p := ⟨gb637, 0, none⟩) (Kd.R_types HO633.out BK637.out (by decide)) (fun _ hk => hk.2) (.int .i64 t629)) (fun _ hk => hk.2) (.bool t630)) (fun _ hk => hk.2) (.slice Ao14 t631.length co14)) (fun _ h_ => h_.1)))); (case side2 => exact (Kd.R_reads' HO633.out).2.1); (case side3 => exact Kd.C_below HR1.out (by repeat (first | (with_reducible first | exact HB.out | apply below_alloc | apply pw_below_drewN | apply below_drew1 | refine below_set ?_ GE627.out | refine below_set ?_ GE637.out) | exact HB.out))); (case side4 => exact HC1.out); rintro e w15 ⟨v639, rfl, ho0, hb⟩; refine ⟨_, rfl, ?_⟩; have n0_ := Aside0.mk (Kd.R_below (by (with_reducible repeat (first | apply Kd.R_alloc | apply Kd.R_drewN | apply Kd.R_drew)); exact (Kd.R_mono (Kd.R_far (p := ⟨gb637, 2, none⟩) (Kd.R_far (p := ⟨gb637, 1, none⟩) (Kd.R_far (p := ⟨gb637, 0, none⟩) (Kd.R_types HO633.out BK637.out (by decide)) (fun _ hk => hk.2) (.int .i64 t629)) (fun _ hk => hk.2) (.bool t630)) (fun _ hk => hk.2) (.slice Ao14 t631.length co14)) (fun _ h_ => h_.1))) hb); have n1_ := Aside0.mk (Kd.R_lower ho0 (below_size (by repeat (first | (with_reducible first | exact HB.out | apply below_alloc | apply pw_below_drewN | apply below_drew1 | refine below_set ?_ GE627.out | refine below_set ?_ GE637.out) | exact HB.out)))); have n2_ := Aside0.mk (blk_below (g := gb627) (o := .cells #[.int .u8 a0_0, .bool a0_1, .slice A0_2 l0_2.length c0_2, .int .u8 a0_3, .int .u8 a0_4, .int .u8 a0_5] 38 (0, 0)) (by (with_reducible repeat (first | refine blk_drewN ?_ _ | refine blk_drew ?_ | refine blk_alloc ?_ _)); refine blk_far ?_ NB627_637.out _; (with_reducible repeat (first | refine blk_drewN ?_ _ | refine blk_drew ?_ | refine blk_alloc ?_ _)); refine blk_far ?_ NB627_637.out _; (with_reducible repeat (first | refine blk_drewN ?_ _ | refine blk_drew ?_ | refine blk_alloc ?_ _)); refine blk_far ?_ NB627_637.out _; (with_reducible repeat (first | refine blk_drewN ?_ _ | refine blk_drew ?_ | refine blk_alloc ?_ _)); exact BK627.out) hb); have n3_ := Aside0.mk (blk_below (g := gb637) (o := .cells #[.int .i64 t629, .bool t630, .slice Ao14 t631.length co14] 24 (0, 0)) (by (with_reducible repeat (first | refine blk_drewN ?_ _ | refine blk_drew ?_ | refine blk_alloc ?_ _)); refine blk_put (cs := #[.int .i64 t629, .bool t630, .slice none 0 0]) ?_ 2 _ rfl; (with_reducible repeat (first | refine blk_drewN ?_ _ | refine blk_drew ?_ | refine blk_alloc ?_ _)); refine blk_put (cs := #[.int .i64 t629, .bool false, .slice none 0 0]) ?_ 1 _ rfl; (with_reducible repeat (first | refine blk_drewN ?_ _ | refine blk_drew ?_ | refine blk_alloc ?_ _)); refine blk_put (cs := #[.int .i64 0, .bool false, .slice none 0 0]) ?_ 0 _ rfl; (with_reducible repeat (first | refine blk_drewN ?_ _ | refine blk_drew ?_ | refine blk_alloc ?_ _)); exact BK637.out) hb); have n4_ := Aside0.mk (below_step (by repeat (first | (with_reducible first | exact HB.out | apply below_alloc | apply pw_below_drewN | apply below_drew1 | refine below_set ?_ GE627.out | refine below_set ?_ GE637.out) | exact HB.out)) hb); clear HO633; clear BK627; clear BK637; clear HB; have HO633 := n0_; have HO640 := n1_; have BK627 := n2_; have BK637 := n3_; have HB := n4_; clear n0_ n1_ n2_ n3_ n4_; (try clear hb); (try clear hb2); (try clear hk); (try clear hi); (try clear ho0); obtain ⟨Ao16, co16, eo16⟩ := Kd.R_slice HO640.out; subst eo16))
  go_loopg [11, 12] k (fun kq v11 v12 w' => ∃ (x11_1 : List (S59)) (x12_1 : Int), v12 = .int .i64 x12_1 ∧ Aside0 (ebbtidelaw18_TimecutOrder.l0 kq true t634 t635 t636 t638 x11_1 x12_1 t629 t630 t631 = some r) ∧ Aside0 (kq ≤ k) ∧ Aside0 (Kd.R k59 59 w' w.heap.size (fun k_ => some k_ ≠ (v11 : Value).ownBlock) (.slice Ao16 t638.length co16) t638) ∧ Aside0 (Kd.R k59 59 w' w.heap.size (fun k_ => some k_ ≠ ((.slice Ao16 t638.length co16) : Value).ownBlock) v11 x11_1) ∧ Aside0 (Kd.R k69 69 w' w.heap.size (fun _ => True) (.slice Ao14 t631.length co14) t631) ∧ Aside0 (w'.heap[gb627]? = some (.cells #[.int .u8 a0_0, .bool a0_1, (.slice A0_2 l0_2.length c0_2), .int .u8 a0_3, .int .u8 a0_4, .int .u8 a0_5] 38 (0, 0))) ∧ Aside0 (w'.heap[gb637]? = some (.cells #[.int .i64 t629, .bool t630, (.slice Ao14 t631.length co14)] 24 (0, 0))) ∧ Aside0 (Below w.heap.size w w'))
  case atStart => exact ⟨(([] : List (S59))), (wrap64 ((t638.length : Int) - 1)), (by first | rfl | (simp; done) | (simp [*]; done)), H', ⟨Nat.le_refl _⟩, ⟨by (with_reducible repeat (first | apply Kd.R_alloc | apply Kd.R_drewN | apply Kd.R_drew)); exact Kd.R_mono HO640.out (fun _ hk => (by simp [Value.ownBlock]))⟩, ⟨by first | exact Kd.R_nil _ _ _ _ _ | exact Kd.N_nil _ _ _ _ _ | exact Kd.V_nil _ _ _ _ _ | exact Kd.Q_nil _ _ _ _ _ | exact Kd.S_nil _ _ _ _ _⟩, ⟨by (with_reducible repeat (first | apply Kd.R_alloc | apply Kd.R_drewN | apply Kd.R_drew)); exact HO633.out⟩, ⟨by (with_reducible repeat (first | refine blk_drewN ?_ _ | refine blk_drew ?_ | refine blk_alloc ?_ _)); exact BK627.out⟩, ⟨by (with_reducible repeat (first | refine blk_drewN ?_ _ | refine blk_drew ?_ | refine blk_alloc ?_ _)); exact BK637.out⟩, ⟨by repeat (first | (with_reducible first | exact HB.out | apply below_alloc | apply pw_below_drewN | apply below_drew1 | refine below_set ?_ GE627.out | refine below_set ?_ GE637.out) | exact HB.out)⟩⟩
  case round =>
   clear H'
   try clear c1
   try clear p2
   try clear c4
   try clear p6
   try clear c10
   try clear c11
   try clear c12
   try clear hcz13_0
   try clear hcz13_1
   try clear hcz13_2
   try clear hcz9_0
   try clear hcz9_1
   try clear hcz9_2
   try clear hcz9_3
   try clear hcz9_4
   try clear hcz9_5
   try clear hfz13_0
   try clear hfz13_1
   try clear hfz13_2
   try clear hfz9_0
   try clear hfz9_1
   try clear hfz9_2
   try clear hfz9_3
   try clear hfz9_4
   try clear hfz9_5
   obtain ⟨x11_1, x12_1, rfl, HA, HK1, HO_10, HO_11, HO_638002, BK627, BK637, HB⟩ := hrel
   cases gk with
   | zero => exact absurd HA.out (by simp [ebbtidelaw18_TimecutOrder.l0])
   | succ k1 =>
    have H := HA.out
    clear HA
    simp only [ebbtidelaw18_TimecutOrder.l0] at H
    by_cases c17 : x12_1 ≥ 0
    ·rw [if_pos c17] at H
     have c17b0 : decide (0 ≤ x12_1) = true := decide_eq_true c17
     clear c17
     by_cases c18 : 0 ≤ x12_1
     ·rw [if_pos c18] at H
      have c18b0 : decide (0 ≤ x12_1) = true := decide_eq_true c18
      clear c18
      by_cases c19 : x12_1 < (t638.length : Int)
      ·rw [if_pos c19] at H
       have c19b0 : decide (x12_1 < (t638.length : Int)) = true := decide_eq_true c19
       clear c19
       obtain ⟨ji20, hji20⟩ : ∃ j_ : Int, (wrap64 (Int.tdiv x12_1 2)) = j_ := ⟨_, rfl⟩
       replace H : (if 0 ≤ (ji20) then (if (ji20) < (t638.length : Int) then ((some (([(⟨(rd_T59 t638 x12_1).f0, (rd_T59 t638 x12_1).f1⟩ : S59), (⟨(rd_T59 t638 (ji20)).f0, (rd_T59 t638 (ji20)).f1⟩ : S59)] : List (S59)) : List (S59))).bind fun y643 => (if x11_1.length + y643.length < 8796093022208 then (ebbtidelaw18_TimecutOrder.l0 k1 true t634 t635 t636 t638 (x11_1 ++ y643) (wrap64 (x12_1 - 1)) t629 t630 t631) else (none))) else (none)) else (none)) = some r := by first | (rw [hji20] at H; exact H) | (simp only [hji20] at H ⊢; exact H)
       have hji20w : (IntKind.i64.wrap (Int.tdiv x12_1 2)) = ji20 := (i64_w _).trans hji20
       by_cases c21 : 0 ≤ (ji20)
       ·rw [if_pos c21] at H
        have c21b0 : decide (0 ≤ (ji20)) = true := decide_eq_true c21
        clear c21
        by_cases c22 : (ji20) < (t638.length : Int)
        ·rw [if_pos c22] at H
         have c22b0 : decide ((ji20) < (t638.length : Int)) = true := decide_eq_true c22
         clear c22
         obtain ⟨y643, hy643⟩ : ∃ y_ : List (S59), y_ = (([(⟨(rd_T59 t638 x12_1).f0, (rd_T59 t638 x12_1).f1⟩ : S59), (⟨(rd_T59 t638 (ji20)).f0, (rd_T59 t638 (ji20)).f1⟩ : S59)] : List (S59))) := ⟨_, rfl⟩
         replace H : (if x11_1.length + y643.length < 8796093022208 then (ebbtidelaw18_TimecutOrder.l0 k1 true t634 t635 t636 t638 (x11_1 ++ y643) (wrap64 (x12_1 - 1)) t629 t630 t631) else (none)) = some r := by first | (rw [hy643]; with_reducible exact H) | (have H2_ := (Option.bind_some _ _).symm.trans H; rw [hy643]; with_reducible exact H2_) | (have H2_ := (Option.bind_some _ _).symm.trans H; with_reducible exact H2_) | with_reducible exact H | (rw [hy643]; exact H) | exact H
         have Ny643 := Aside0.mk hy643
         clear hy643
         by_cases c23 : x11_1.length + y643.length < 8796093022208
         ·rw [if_pos c23] at H
          have LMc23 := Aside0.mk c23
          clear c23
          obtain ⟨y646, hy646⟩ : ∃ y_ : List (S59), y_ = (x11_1 ++ y643) := ⟨_, rfl⟩
          replace H : (ebbtidelaw18_TimecutOrder.l0 k1 true t634 t635 t636 t638 y646 (wrap64 (x12_1 - 1)) t629 t630 t631) = some r := by first | (rw [hy646]; with_reducible exact H) | (have H2_ := (Option.bind_some _ _).symm.trans H; rw [hy646]; with_reducible exact H2_) | (have H2_ := (Option.bind_some _ _).symm.trans H; with_reducible exact H2_) | with_reducible exact H | (rw [hy646]; exact H) | exact H
          have Ny646 := Aside0.mk hy646
          clear hy646
          have H' := Aside0.mk H
          clear H
          try go_wp2
          have n0_ := Aside0.mk (Kd.R_drew HO_10.out)
          have n1_ := Aside0.mk (Kd.R_drew HO_11.out)
          have n2_ := Aside0.mk (Kd.R_drew HO_638002.out)
          have n3_ := Aside0.mk (blk_drew BK627.out)
          have n4_ := Aside0.mk (blk_drew BK637.out)
          have n5_ := Aside0.mk (below_drew1 HB.out)
          clear HO_10
          clear HO_11
          clear HO_638002
          clear BK627
          clear BK637
          clear HB
          have HO_10 := n0_
          have HO_11 := n1_
          have HO_638002 := n2_
          have BK627 := n3_
          have BK637 := n4_
          have HB := n5_
          clear n0_ n1_ n2_ n3_ n4_ n5_
          have p641 : 0 ≤ (x12_1 : Int) := of_decide_eq_true (by first | (with_reducible assumption) | assumption)
          have q641 : x12_1 < (t638.length : Int) := of_decide_eq_true (by first | (with_reducible assumption) | assumption)
          obtain ⟨ad641, e641, hx641_0, hx641_1⟩ := at_T59 (Kd.R_reads' HO_10.out).2.2 x12_1 p641 q641
          cases e641
          replace p641 := eq_true p641
          replace q641 := eq_true q641
          have p642 : 0 ≤ ((ji20) : Int) := of_decide_eq_true (by first | (with_reducible assumption) | assumption)
          have q642 : (ji20) < (t638.length : Int) := of_decide_eq_true (by first | (with_reducible assumption) | assumption)
          obtain ⟨ad642, e642, hx642_0, hx642_1⟩ := at_T59 (Kd.R_reads' HO_10.out).2.2 (ji20) p642 q642
          obtain rfl : ad641 = ad642 := (by injection e642)
          replace p642 := eq_true p642
          replace q642 := eq_true q642
          refine start_ (n := 13) (S := fun w' => w'.cell? (ad641.add ((x12_1).toNat * 2)) = some (.int .i64 ((rd_T59 t638 x12_1).f0)) ∧ w'.cell? ⟨(ad641.add ((x12_1).toNat * 2)).block, (ad641.add ((x12_1).toNat * 2)).off + 1, none⟩ = some (.int .i64 ((rd_T59 t638 x12_1).f1)) ∧ w'.cell? (ad641.add (((ji20)).toNat * 2)) = some (.int .i64 ((rd_T59 t638 (ji20)).f0)) ∧ w'.cell? ⟨(ad641.add (((ji20)).toNat * 2)).block, (ad641.add (((ji20)).toNat * 2)).off + 1, none⟩ = some (.int .i64 ((rd_T59 t638 (ji20)).f1))) (ds := [11]) #[false, false, false, false, false, false, false, false, false, false, false, false, false] (by kernel_rfl) rfl rfl ⟨hx641_0, hx641_1, hx642_0, hx642_1⟩ (fun hHeld => ?_); refine with_tabW ebbtidelaw18_TimecutOrder.tab10 ebbtidelaw18_TimecutOrder.bits10 (fun HT_ HW_ => ?_)
          generalize wr.drew = w24 at HO_10 HO_11 HO_638002 BK627 BK637 HB hx641_0 hx641_1 hx642_0 hx642_1 hHeld ⊢
          refine pure_ (i := 0) (N := some 40) (v := ?_) (a' := ?_) #[true, false, false, false, false, false, false, false, false, false, false, false, false] rfl rfl (any_of HT_.out (by kernel_rfl)) (fun _ _ _ h => h) (Or.inl ⟨by rfl, ?_⟩) ?_ ?_
          rotate_left
          ·intro w'
           go_simp
           with_reducible rfl
          rotate_left
          ·simp only [Act.put, List.setIfInBounds_toArray, List.set_cons_zero, List.set_cons_succ, i64_w, i32_w]
           rfl
          refine pure_ (i := 1) (N := some 41) (v := ?_) (a' := ?_) #[true, true, false, false, false, false, false, false, false, false, false, false, false] rfl rfl (any_of HT_.out (by kernel_rfl)) (fun _ _ _ h => h) (Or.inl ⟨by rfl, ?_⟩) ?_ ?_
          rotate_left
          ·intro w'
           go_simp
           with_reducible rfl
          rotate_left
          ·simp only [Act.put, List.setIfInBounds_toArray, List.set_cons_zero, List.set_cons_succ, i64_w, i32_w]
           rfl
          refine pure_ (i := 2) (N := some 42) (v := ?_) (a' := ?_) #[true, true, true, false, false, false, false, false, false, false, false, false, false] rfl rfl (any_of HT_.out (by kernel_rfl)) (fun _ _ _ h => h) (Or.inl ⟨by rfl, ?_⟩) ?_ ?_
          rotate_left
          ·intro w'
           go_simp
           with_reducible rfl
          rotate_left
          ·simp only [Act.put, List.setIfInBounds_toArray, List.set_cons_zero, List.set_cons_succ, i64_w, i32_w]
           rfl
          refine pure_ (i := 3) (N := some 43) (v := ?_) (a' := ?_) #[true, true, true, true, false, false, false, false, false, false, false, false, false] rfl rfl (any_of HT_.out (by kernel_rfl)) (fun _ _ _ h => h) (Or.inl ⟨by rfl, ?_⟩) ?_ ?_
          rotate_left
          ·intro w'
           go_simp
           with_reducible rfl
          rotate_left
          ·simp only [Act.put, List.setIfInBounds_toArray, List.set_cons_zero, List.set_cons_succ, i64_w, i32_w]
           rfl
          refine pure_ (i := 5) (N := some 45) (v := ?_) (a' := ?_) #[true, true, true, true, false, true, false, false, false, false, false, false, false] rfl rfl (any_of HT_.out (by kernel_rfl)) (fun _ _ _ h => h) (Or.inl ⟨by rfl, ?_⟩) ?_ ?_
          rotate_left
          ·intro w'
           go_simp
           with_reducible rfl
          rotate_left
          ·simp only [Act.put, List.setIfInBounds_toArray, List.set_cons_zero, List.set_cons_succ, i64_w, i32_w]
           rfl
          refine pure_ (i := 6) (N := some 46) (v := ?_) (a' := ?_) #[true, true, true, true, false, true, true, false, false, false, false, false, false] rfl rfl (any_of HT_.out (by kernel_rfl)) (fun _ _ _ h => h) (Or.inl ⟨by rfl, ?_⟩) ?_ ?_
          rotate_left
          ·intro w'
           go_simp
           with_reducible rfl
          rotate_left
          ·simp only [Act.put, List.setIfInBounds_toArray, List.set_cons_zero, List.set_cons_succ, i64_w, i32_w]
           rfl
          refine pure_ (i := 7) (N := some 47) (v := ?_) (a' := ?_) #[true, true, true, true, false, true, true, true, false, false, false, false, false] rfl rfl (any_of HT_.out (by kernel_rfl)) (fun _ _ _ h => h) (Or.inl ⟨by rfl, ?_⟩) ?_ ?_
          rotate_left
          ·intro w'
           go_simp
           with_reducible rfl
          rotate_left
          ·simp only [Act.put, List.setIfInBounds_toArray, List.set_cons_zero, List.set_cons_succ, i64_w, i32_w]
           rfl
          refine pure_ (i := 8) (N := some 48) (v := ?_) (a' := ?_) #[true, true, true, true, false, true, true, true, true, false, false, false, false] rfl rfl (any_of HT_.out (by kernel_rfl)) (fun _ _ _ h => h) (Or.inl ⟨by rfl, ?_⟩) ?_ ?_
          rotate_left
          ·intro w'
           go_simp
           with_reducible rfl
          rotate_left
          ·simp only [Act.put, List.setIfInBounds_toArray, List.set_cons_zero, List.set_cons_succ, i64_w, i32_w]
           rfl
          refine take_ (i := 4) (N := some 44) (v := ?_) (a' := ?_) #[true, true, true, true, true, true, true, true, true, false, false, false, false] rfl rfl (take_ofW HT_.out HW_.out (by kernel_rfl)) (fun _ _ _ h => h) (Or.inl ⟨by rfl, ?_⟩) hHeld ?_ ?_
          rotate_left
          ·rintro w' ⟨s0, s1, s2, s3⟩
           go_simp
           with_reducible rfl
          rotate_left
          ·simp only [Act.put, List.setIfInBounds_toArray, List.set_cons_zero, List.set_cons_succ, i64_w, i32_w]
           rfl
          refine take_ (i := 9) (N := some 49) (v := ?_) (a' := ?_) #[true, true, true, true, true, true, true, true, true, true, false, false, false] rfl rfl (take_ofW HT_.out HW_.out (by kernel_rfl)) (fun _ _ _ h => h) (Or.inl ⟨by rfl, ?_⟩) hHeld ?_ ?_
          rotate_left
          ·rintro w' ⟨s0, s1, s2, s3⟩
           go_simp
           with_reducible rfl
          rotate_left
          ·simp only [Act.put, List.setIfInBounds_toArray, List.set_cons_zero, List.set_cons_succ, i64_w, i32_w]
           rfl
          refine one_ (i := 10) (N := some 50) #[true, true, true, true, true, true, true, true, true, true, true, false, false] rfl rfl (one_of HT_.out (by kernel_rfl)) (by decide) (fun K hK => ?_)
          refine Kd.R_lit_step k59 _ 59 ?hg (N := 50) ?hd (xs := ([(⟨(rd_T59 t638 x12_1).f0, (rd_T59 t638 x12_1).f1⟩ : S59), (⟨(rd_T59 t638 (ji20)).f0, (rd_T59 t638 (ji20)).f1⟩ : S59)] : List (S59))) (inner := [.int .i64 ((rd_T59 t638 x12_1).f0), .int .i64 ((rd_T59 t638 x12_1).f1), .int .i64 ((rd_T59 t638 (ji20)).f0), .int .i64 ((rd_T59 t638 (ji20)).f1)]) (ok := fun _ => True) (okp := fun _ => True) ?hr ?hp (fun _ hk => hk) trivial (Below.refl _ _) (Nat.le_refl _) (by simp) ?_; (case hd => rfl); (case hg => rfl); (case hr => first | (go_simp; done) | (go_simp; rfl)); (case hp => exact (Reps.c2 (show Kd.M k59 _ _ _ (⟨(rd_T59 t638 x12_1).f0, (rd_T59 t638 x12_1).f1⟩ : S59) [.int .i64 ((rd_T59 t638 x12_1).f0), .int .i64 ((rd_T59 t638 x12_1).f1)] from (k59_mkM _ _ _ (⟨(rd_T59 t638 x12_1).f0, (rd_T59 t638 x12_1).f1⟩ : S59) )) (Reps.c2 (show Kd.M k59 _ _ _ (⟨(rd_T59 t638 (ji20)).f0, (rd_T59 t638 (ji20)).f1⟩ : S59) [.int .i64 ((rd_T59 t638 (ji20)).f0), .int .i64 ((rd_T59 t638 (ji20)).f1)] from (k59_mkM _ _ _ (⟨(rd_T59 t638 (ji20)).f0, (rd_T59 t638 (ji20)).f1⟩ : S59) )) (Reps.none _ _))))
          intro v644 w25 ho26 hb hg_ hnew_
          have HS0_ := (hb.cell (World.block_lt_of_cell? _ _ (hHeld.1))).trans (hHeld.1)
          have HS1_ := (hb.cell (World.block_lt_of_cell? _ _ (hHeld.2.1))).trans (hHeld.2.1)
          have HS2_ := (hb.cell (World.block_lt_of_cell? _ _ (hHeld.2.2.1))).trans (hHeld.2.2.1)
          have HS3_ := (hb.cell (World.block_lt_of_cell? _ _ (hHeld.2.2.2))).trans (hHeld.2.2.2)
          clear hg_ hnew_
          (first | rw [← Ny643.out] at ho26 | (simp only [Int.reduceToNat] at ho26; rw [← Ny643.out] at ho26))
          have n0_ := Aside0.mk (Kd.R_elder' (by (with_reducible repeat (first | apply Kd.R_alloc | apply Kd.R_drewN | apply Kd.R_drew)); exact HO_10.out) (Kd.R_base ho26) hb)
          have n1_ := Aside0.mk (Kd.R_elder' (by (with_reducible repeat (first | apply Kd.R_alloc | apply Kd.R_drewN | apply Kd.R_drew)); exact HO_11.out) (Kd.R_base ho26) hb)
          have n2_ := Aside0.mk (Kd.R_below (by (with_reducible repeat (first | apply Kd.R_alloc | apply Kd.R_drewN | apply Kd.R_drew)); exact HO_638002.out) hb)
          have n3_ := Aside0.mk (Kd.R_lower (Kd.R_new' (Kd.R_new' ho26 (Kd.R_lt (by (with_reducible repeat (first | apply Kd.R_alloc | apply Kd.R_drewN | apply Kd.R_drew)); exact HO_10.out))) (Kd.R_lt (by (with_reducible repeat (first | apply Kd.R_alloc | apply Kd.R_drewN | apply Kd.R_drew)); exact HO_11.out))) (below_size (by repeat (first | (with_reducible first | exact HB.out | apply below_alloc | apply pw_below_drewN | apply below_drew1 | refine below_set ?_ GE627.out | refine below_set ?_ GE637.out) | exact HB.out))))
          have n4_ := Aside0.mk (blk_below (g := gb627) (o := .cells #[.int .u8 a0_0, .bool a0_1, .slice A0_2 l0_2.length c0_2, .int .u8 a0_3, .int .u8 a0_4, .int .u8 a0_5] 38 (0, 0)) (by (with_reducible repeat (first | refine blk_drewN ?_ _ | refine blk_drew ?_ | refine blk_alloc ?_ _)); exact BK627.out) hb)
          have n5_ := Aside0.mk (blk_below (g := gb637) (o := .cells #[.int .i64 t629, .bool t630, .slice Ao14 t631.length co14] 24 (0, 0)) (by (with_reducible repeat (first | refine blk_drewN ?_ _ | refine blk_drew ?_ | refine blk_alloc ?_ _)); exact BK637.out) hb)
          have n6_ := Aside0.mk (below_step (by repeat (first | (with_reducible first | exact HB.out | apply below_alloc | apply pw_below_drewN | apply below_drew1 | refine below_set ?_ GE627.out | refine below_set ?_ GE637.out) | exact HB.out)) hb)
          clear HO_10
          clear HO_11
          clear HO_638002
          clear BK627
          clear BK637
          clear HB
          have HO_10 := n0_
          have HO_11 := n1_
          have HO_638002 := n2_
          have HO645 := n3_
          have BK627 := n4_
          have BK637 := n5_
          have HB := n6_
          clear n0_ n1_ n2_ n3_ n4_ n5_ n6_
          clear hb ho26
          obtain ⟨Ao28, co28, eo28⟩ := Kd.R_slice HO645.out
          (first | subst eo28 | (injection eo28 with f1_ f2_ f3_; have f4_ := f1_.symm; have f5_ := f3_.symm; clear f1_ f2_ f3_; subst f4_; subst f5_))
          refine hK.out _ _ ⟨HS0_, HS1_, HS2_, HS3_⟩ (fun hHeld => ?_)
          clear hK K
          refine norm_ (a' := ?_) ?_ ?_
          rotate_left
          ·show Act.put _ (some 50) _ = _
           simp only [Act.put, List.setIfInBounds_toArray, List.set_cons_zero, List.set_cons_succ, i64_w, i32_w]
           rfl
          refine last_ (i := 11) (N := some 51) #[true, true, true, true, true, true, true, true, true, true, true, true, false] rfl rfl (one_of HT_.out (by kernel_rfl)) (by decide) (fun K hK => ?_)
          refine Kd.R_append_rows_step k59 (w0 := w) w.heap.size (by rfl) (.tmp 40) (.tmp 50) 25 59 (.agg #[(.int .i64 0), (.int .i64 0)]) 16 rfl Try.underlying25 info59 rfl (by decide) (by omega) u11 x11_1 y643 _ _ _ (fun k_ => some k_ ≠ (.slice (some ad641) t638.length co16 : Value).ownBlock ∧ some k_ ≠ (.slice Ao28 y643.length co28 : Value).ownBlock) (fun _ => False) rfl rfl ?aO ?aR (fun _ _ h => h) (fun _ h => h.elim) ?aF ?aB ?aS ?aL ?_
          (case aR => repeat (first | exact (Kd.R_reads' HO645.out).2.2 | (with_reducible refine Kd.C_alloc ?_ _) | (with_reducible refine Kd.C_drewN ?_ _) | (with_reducible refine Kd.C_drew ?_)))
          (case aB => exact (by repeat (first | (with_reducible first | exact HB.out | apply below_alloc | apply pw_below_drewN | apply below_drew1 | refine below_set ?_ GE627.out | refine below_set ?_ GE637.out) | exact HB.out)))
          (case aF => exact (fun k_ hk => ⟨Kd.fresh' (Kd.R_lt (by (with_reducible repeat (first | apply Kd.R_alloc | apply Kd.R_drewN | apply Kd.R_drew)); exact HO_10.out)) k_ hk, Kd.fresh' (Kd.R_lt (by (with_reducible repeat (first | apply Kd.R_alloc | apply Kd.R_drewN | apply Kd.R_drew)); exact HO645.out)) k_ hk⟩))
          (case aO => exact (by (with_reducible repeat (first | apply Kd.R_alloc | apply Kd.R_drewN | apply Kd.R_drew)); exact HO_11.out))
          (case aS => exact (below_size (by repeat (first | (with_reducible first | exact HB.out | apply below_alloc | apply pw_below_drewN | apply below_drew1 | refine below_set ?_ GE627.out | refine below_set ?_ GE637.out) | exact HB.out))))
          (case aL => have := LMc23.out; omega)
          intro v647 w27 ho hb hg hat
          rw [← Ny646.out] at ho
          have n0_ := Aside0.mk (Kd.R_after (ok := (fun k_ => some k_ ≠ (.slice Ao28 y643.length co28 : Value).ownBlock)) (by (with_reducible repeat (first | apply Kd.R_alloc | apply Kd.R_drewN | apply Kd.R_drew)); exact Kd.R_mono HO_10.out (fun _ hk => ⟨hk.2, hk.1⟩)) hg hat)
          have n1_ := Aside0.mk (Kd.R_over' (by (with_reducible repeat (first | apply Kd.R_alloc | apply Kd.R_drewN | apply Kd.R_drew)); exact HO_638002.out) (Kd.R_typed (by (with_reducible repeat (first | apply Kd.R_alloc | apply Kd.R_drewN | apply Kd.R_drew)); exact HO_11.out)) (by decide) hg)
          have n2_ := Aside0.mk (blk_grown (g := gb627) (o := .cells #[.int .u8 a0_0, .bool a0_1, .slice A0_2 l0_2.length c0_2, .int .u8 a0_3, .int .u8 a0_4, .int .u8 a0_5] 38 (0, 0)) (by (with_reducible repeat (first | refine blk_drewN ?_ _ | refine blk_drew ?_ | refine blk_alloc ?_ _)); exact BK627.out) hg (Kd.R_ne HO_11.out BK627.out (by decide)))
          have n3_ := Aside0.mk (blk_grown (g := gb637) (o := .cells #[.int .i64 t629, .bool t630, .slice Ao14 t631.length co14] 24 (0, 0)) (by (with_reducible repeat (first | refine blk_drewN ?_ _ | refine blk_drew ?_ | refine blk_alloc ?_ _)); exact BK637.out) hg (Kd.R_ne HO_11.out BK637.out (by decide)))
          have n4_ := Aside0.mk (Kd.R_after (ok := (fun k_ => some k_ ≠ (.slice (some ad641) t638.length co16 : Value).ownBlock)) (by (with_reducible repeat (first | apply Kd.R_alloc | apply Kd.R_drewN | apply Kd.R_drew)); exact Kd.R_mono HO645.out (fun _ hk => ⟨hk.1.2, hk.2⟩)) hg hat)
          have n5_ := Aside0.mk (hb)
          have n6_ := Aside0.mk (ho)
          clear HO_10
          clear HO_638002
          clear BK627
          clear BK637
          clear HO645
          clear HB
          clear HO_11
          have HO_10 := n0_
          have HO_638002 := n1_
          have BK627 := n2_
          have BK637 := n3_
          have HO645 := n4_
          have HB := n5_
          have HO648 := n6_
          clear n0_ n1_ n2_ n3_ n4_ n5_ n6_
          clear ho hb hg hat
          refine hK.out _ _ ?_
          clear hK K
          refine norm_ (a' := ?_) ?_ ?_
          rotate_left
          ·show Act.put _ (some 51) _ = _
           simp only [Act.put, List.setIfInBounds_toArray, List.set_cons_zero, List.set_cons_succ, i64_w, i32_w]
           rfl
          refine pure_ (i := 12) (N := some 11) (v := ?_) (a' := ?_) #[true, true, true, true, true, true, true, true, true, true, true, true, true] rfl rfl (any_of HT_.out (by kernel_rfl)) (fun _ _ _ h => h) (Or.inl ⟨by rfl, ?_⟩) ?_ ?_
          rotate_left
          ·intro w'
           go_simp
           with_reducible rfl
          rotate_left
          ·simp only [Act.put, List.setIfInBounds_toArray, List.set_cons_zero, List.set_cons_succ, i64_w, i32_w]
           rfl
          refine done_ (done_of HT_.out (by kernel_rfl)) ?_
          try go_wp2
          go_roundg k1
          case measure => have := HK1.out; omega
          case rel => exact ⟨(y646), (wrap64 (x12_1 - 1)), (by first | rfl | (simp; done) | (simp [*]; done)), H', ⟨by have := HK1.out; omega⟩, ⟨by (with_reducible repeat (first | apply Kd.R_alloc | apply Kd.R_drewN | apply Kd.R_drew)); exact Kd.R_mono HO_10.out (fun _ hk => hk.2)⟩, ⟨by (with_reducible repeat (first | apply Kd.R_alloc | apply Kd.R_drewN | apply Kd.R_drew)); exact Kd.R_mono HO648.out (fun _ hk => hk.1)⟩, ⟨by (with_reducible repeat (first | apply Kd.R_alloc | apply Kd.R_drewN | apply Kd.R_drew)); exact HO_638002.out⟩, ⟨by (with_reducible repeat (first | refine blk_drewN ?_ _ | refine blk_drew ?_ | refine blk_alloc ?_ _)); exact BK627.out⟩, ⟨by (with_reducible repeat (first | refine blk_drewN ?_ _ | refine blk_drew ?_ | refine blk_alloc ?_ _)); exact BK637.out⟩, ⟨by repeat (first | (with_reducible first | exact HB.out | apply below_alloc | apply pw_below_drewN | apply below_drew1 | refine below_set ?_ GE627.out | refine below_set ?_ GE637.out) | exact HB.out)⟩⟩
         ·rw [if_neg c23] at H
          exact absurd H (by simp)
        ·rw [if_neg c22] at H
         exact absurd H (by simp)
       ·rw [if_neg c21] at H
        exact absurd H (by simp)
      ·rw [if_neg c19] at H
       exact absurd H (by simp)
     ·rw [if_neg c18] at H
      exact absurd H (by simp)
    ·rw [if_neg c17] at H
     have c17b0 : decide (0 ≤ x12_1) = false := decide_eq_false c17
     clear c17
     replace H := Option.bind_eq_some_iff.mp H
     obtain ⟨⟨t649, t650⟩, A290, H⟩ := H
     replace H : ((timecut_Check.f k1 t629 t630 t631 t634 t635 t636 x11_1).bind fun bt651 => (if true = true then (if t650 = 0 then (if bt651.2 = 0 then (some (t649 == bt651.1)) else (some false)) else (some false)) else (some false))) = some r := H
     have A29 := Aside0.mk A290
     clear A290
     replace H := Option.bind_eq_some_iff.mp H
     obtain ⟨⟨t651, t652⟩, A300, H⟩ := H
     replace H : (if true = true then (if t650 = 0 then (if t652 = 0 then (some (t649 == t651)) else (some false)) else (some false)) else (some false)) = some r := H
     have A30 := Aside0.mk A300
     clear A300
     by_cases c31 : true = true
     ·clear c31
      have H1 : (if t650 = 0 then (if t652 = 0 then (some (t649 == t651)) else (some false)) else (some false)) = some r := by rw [if_pos rfl] at H; exact H
      clear H
      have H := H1
      clear H1
      by_cases c32 : t650 = 0
      ·rw [if_pos c32] at H
       have c32b0 : (t650 == 0) = true := beq_iff_eq.mpr c32
       have c32b1 : (t650 != 0) = false := bne_eq_false_iff_eq.mpr c32
       clear c32
       by_cases c33 : t652 = 0
       ·rw [if_pos c33] at H
        have c33b0 : (t652 == 0) = true := beq_iff_eq.mpr c33
        have c33b1 : (t652 != 0) = false := bne_eq_false_iff_eq.mpr c33
        clear c33
        obtain rfl := Option.some.inj H
        have hnb34 := NB637_627.out
        have hnc34 := NB627_637.out
        have hcz35_0 : wr.cell? ⟨gb637, 0, none⟩ = some (.int .i64 t629) := (blk_cell BK637.out 0).trans rfl
        have hcz35_1 : wr.cell? ⟨gb637, 1, none⟩ = some (.bool t630) := (blk_cell BK637.out 1).trans rfl
        have hcz35_2 : wr.cell? ⟨gb637, 2, none⟩ = some (.slice Ao14 t631.length co14) := (blk_cell BK637.out 2).trans rfl
        have hfz35_0 := blk_frozen BK637.out 0
        have hfz35_1 := blk_frozen BK637.out 1
        have hfz35_2 := blk_frozen BK637.out 2
        go_wp2_with (first | ((with_reducible refine gate_callee (f := 12) rfl ?_); refine goesL_ (some 58) rfl rfl Try.func12 (by kernel_rfl) rfl #[.agg #[.int .i64 t629, .bool t630, .slice Ao14 t631.length co14], .int .i64 t634, .int .i64 t635, .int .i64 t636, .slice Ao16 t638.length co16] rfl (by (try simp only [List.map_toArray, List.map_cons, List.map_nil]); first | done | rfl | (simp only [List.length_drop, List.length_take]; rfl)) ?_; (with_reducible refine (timecut_Check.calls k1 t629 t630 _ _ t631 t634 t635 t636 _ _ t638 t649 t650 _ ?side1 ?side2 ?side3 ?side4 A29.out).mono ?_); (case side1 => repeat (first | exact (Kd.R_reads' HO_638002.out).2.2 | (with_reducible refine Kd.C_alloc ?_ _) | (with_reducible refine Kd.C_drewN ?_ _) | (with_reducible refine Kd.C_drew ?_))); (case side2 => exact (Kd.R_reads' HO_638002.out).2.1); (case side3 => repeat (first | exact (Kd.R_reads' HO_10.out).2.2 | (with_reducible refine Kd.C_alloc ?_ _) | (with_reducible refine Kd.C_drewN ?_ _) | (with_reducible refine Kd.C_drew ?_))); (case side4 => exact (Kd.R_reads' HO_10.out).2.1); rintro e w36 ⟨rfl, hb⟩; refine ⟨_, rfl, ?_⟩; have n0_ := Aside0.mk (Kd.R_below (by (with_reducible repeat (first | apply Kd.R_alloc | apply Kd.R_drewN | apply Kd.R_drew)); exact HO_10.out) hb); have n1_ := Aside0.mk (Kd.R_below (by (with_reducible repeat (first | apply Kd.R_alloc | apply Kd.R_drewN | apply Kd.R_drew)); exact HO_11.out) hb); have n2_ := Aside0.mk (Kd.R_below (by (with_reducible repeat (first | apply Kd.R_alloc | apply Kd.R_drewN | apply Kd.R_drew)); exact HO_638002.out) hb); have n3_ := Aside0.mk (blk_below (g := gb627) (o := .cells #[.int .u8 a0_0, .bool a0_1, .slice A0_2 l0_2.length c0_2, .int .u8 a0_3, .int .u8 a0_4, .int .u8 a0_5] 38 (0, 0)) (by (with_reducible repeat (first | refine blk_drewN ?_ _ | refine blk_drew ?_ | refine blk_alloc ?_ _)); exact BK627.out) hb); have n4_ := Aside0.mk (blk_below (g := gb637) (o := .cells #[.int .i64 t629, .bool t630, .slice Ao14 t631.length co14] 24 (0, 0)) (by (with_reducible repeat (first | refine blk_drewN ?_ _ | refine blk_drew ?_ | refine blk_alloc ?_ _)); exact BK637.out) hb); have n5_ := Aside0.mk (below_step (by repeat (first | (with_reducible first | exact HB.out | apply below_alloc | apply pw_below_drewN | apply below_drew1 | refine below_set ?_ GE627.out | refine below_set ?_ GE637.out) | exact HB.out)) hb); clear HO_10; clear HO_11; clear HO_638002; clear BK627; clear BK637; clear HB; have HO_10 := n0_; have HO_11 := n1_; have HO_638002 := n2_; have BK627 := n3_; have BK637 := n4_; have HB := n5_; clear n0_ n1_ n2_ n3_ n4_ n5_; (try clear hb); (try clear hb2); (try clear hk); (try clear hi); have hcz37_0 : w36.cell? ⟨gb637, 0, none⟩ = some (.int .i64 t629) := (blk_cell BK637.out 0).trans rfl; have hcz37_1 : w36.cell? ⟨gb637, 1, none⟩ = some (.bool t630) := (blk_cell BK637.out 1).trans rfl; have hcz37_2 : w36.cell? ⟨gb637, 2, none⟩ = some (.slice Ao14 t631.length co14) := (blk_cell BK637.out 2).trans rfl; have hfz37_0 := blk_frozen BK637.out 0; have hfz37_1 := blk_frozen BK637.out 1; have hfz37_2 := blk_frozen BK637.out 2; obtain ⟨Ao38, co38, eo38⟩ := Kd.R_slice HO_11.out; subst eo38) | ((with_reducible refine gate_callee (f := 12) rfl ?_); refine goesL_ (some 67) rfl rfl Try.func12 (by kernel_rfl) rfl #[.agg #[.int .i64 t629, .bool t630, .slice Ao14 t631.length co14], .int .i64 t634, .int .i64 t635, .int .i64 t636, .slice Ao38 x11_1.length co38] rfl (by (try simp only [List.map_toArray, List.map_cons, List.map_nil]); first | done | rfl | (simp only [List.length_drop, List.length_take]; rfl)) ?_; (with_reducible refine (timecut_Check.calls k1 t629 t630 _ _ t631 t634 t635 t636 _ _ x11_1 t651 t652 _ ?side1 ?side2 ?side3 ?side4 A30.out).mono ?_); (case side1 => repeat (first | exact (Kd.R_reads' HO_638002.out).2.2 | (with_reducible refine Kd.C_alloc ?_ _) | (with_reducible refine Kd.C_drewN ?_ _) | (with_reducible refine Kd.C_drew ?_))); (case side2 => exact (Kd.R_reads' HO_638002.out).2.1); (case side3 => repeat (first | exact (Kd.R_reads' HO_11.out).2.2 | (with_reducible refine Kd.C_alloc ?_ _) | (with_reducible refine Kd.C_drewN ?_ _) | (with_reducible refine Kd.C_drew ?_))); (case side4 => exact (Kd.R_reads' HO_11.out).2.1); rintro e w39 ⟨rfl, hb⟩; refine ⟨_, rfl, ?_⟩; have n0_ := Aside0.mk (Kd.R_below (by (with_reducible repeat (first | apply Kd.R_alloc | apply Kd.R_drewN | apply Kd.R_drew)); exact HO_10.out) hb); have n1_ := Aside0.mk (Kd.R_below (by (with_reducible repeat (first | apply Kd.R_alloc | apply Kd.R_drewN | apply Kd.R_drew)); exact HO_11.out) hb); have n2_ := Aside0.mk (Kd.R_below (by (with_reducible repeat (first | apply Kd.R_alloc | apply Kd.R_drewN | apply Kd.R_drew)); exact HO_638002.out) hb); have n3_ := Aside0.mk (blk_below (g := gb627) (o := .cells #[.int .u8 a0_0, .bool a0_1, .slice A0_2 l0_2.length c0_2, .int .u8 a0_3, .int .u8 a0_4, .int .u8 a0_5] 38 (0, 0)) (by (with_reducible repeat (first | refine blk_drewN ?_ _ | refine blk_drew ?_ | refine blk_alloc ?_ _)); exact BK627.out) hb); have n4_ := Aside0.mk (blk_below (g := gb637) (o := .cells #[.int .i64 t629, .bool t630, .slice Ao14 t631.length co14] 24 (0, 0)) (by (with_reducible repeat (first | refine blk_drewN ?_ _ | refine blk_drew ?_ | refine blk_alloc ?_ _)); exact BK637.out) hb); have n5_ := Aside0.mk (below_step (by repeat (first | (with_reducible first | exact HB.out | apply below_alloc | apply pw_below_drewN | apply below_drew1 | refine below_set ?_ GE627.out | refine below_set ?_ GE637.out) | exact HB.out)) hb); clear HO_10; clear HO_11; clear HO_638002; clear BK627; clear BK637; clear HB; have HO_10 := n0_; have HO_11 := n1_; have HO_638002 := n2_; have BK627 := n3_; have BK637 := n4_; have HB := n5_; clear n0_ n1_ n2_ n3_ n4_ n5_; (try clear hb); (try clear hb2); (try clear hk); (try clear hi)))
        go_ret
        exact ⟨by first | rfl | (simp [errW_none, errW_some] <;> rfl) | (simp [*, errW_none, errW_some] <;> rfl), by repeat (first | (with_reducible first | exact HB.out | apply below_alloc | apply pw_below_drewN | apply below_drew1 | refine below_set ?_ GE627.out | refine below_set ?_ GE637.out) | exact HB.out)⟩
       ·rw [if_neg c33] at H
        exact absurd (Option.some.inj H) (by rw [HRT.out]; decide)
      ·rw [if_neg c32] at H
       exact absurd (Option.some.inj H) (by rw [HRT.out]; decide)
     ·exact absurd rfl c31
 ·replace c4 := Bool.eq_false_iff.mpr c4
  subst c4
  have H1 : (some false) = some r := by rw [if_neg (show ¬ (false = true) by decide)] at H; exact H
  exact absurd (Option.some.inj H1) (by rw [HRT.out]; decide)
end Go.Proofs.Ytagppmdgmppmnaa.P

/- The statements' small networks (ebbtidelaw12.Read): a right network, ends and a horizon, all small. -/
set_option linter.unusedVariables false
namespace Go.Proofs.Ytagppmdgmppmnaa.Q
open Go.RowKit Go.Proofs.YtagppmdgmppmnaaW.PrintWords Go.Proofs.YtagppmdgmppmnaaW.PrintLast Go.Proofs.YtagppmdgmppmnaaW.PrintMore Go.Proofs.Ytagppmdgmppmnaa.P
def U8 (x : Int) : Prop := (Lit.int .u8 x).wf = true
def U16 (x : Int) : Prop := (Lit.int .u16 x).wf = true
theorem u8_in {x : Int} (h : U8 x) : 0 ≤ x ∧ x ≤ 255 := by
  unfold U8 at h
  simp [Lit.wf, IntKind.min, IntKind.max, IntKind.signed, IntKind.bits] at h
  omega
theorem u16_in {x : Int} (h : U16 x) : 0 ≤ x ∧ x ≤ 65535 := by
  unfold U16 at h
  simp [Lit.wf, IntKind.min, IntKind.max, IntKind.signed, IntKind.bits] at h
  omega
def BitOk (b : S79) : Prop := U8 b.f0 ∧ U8 b.f1 ∧ U8 b.f2 ∧ U8 b.f3
/-- What the reading of a small network's numbers tells of them. -/
def SmallOk (x : Int × Bool × List S79 × Int × Int × Int) : Prop :=
  U8 x.1 ∧ True ∧ (x.2.2.1.length ≤ 9223372036854775807 ∧ ∀ b ∈ x.2.2.1, BitOk b) ∧ U8 x.2.2.2.1 ∧ U8 x.2.2.2.2.1 ∧ U8 x.2.2.2.2.2
theorem tmod_in {x m : Int} (h0 : 0 ≤ x) (hm : 0 < m) : 0 ≤ Int.tmod x m ∧ Int.tmod x m < m := ⟨Int.tmod_nonneg _ h0, Int.tmod_lt_of_pos _ hm⟩
/-- A small network, as read. -/
structure SmallNet (m : Int) (hold : Bool) (r : Int × Bool × List S69 × Int × Int × Int) : Prop where
  lo : 2 ≤ r.1
  hi : r.1 ≤ 5
  hold : r.2.1 = hold
  net : NetOk r.1 r.2.2.1
  ends : EndsOk r.1 r.2.2.2.1 r.2.2.2.2.1
  s0 : 0 ≤ r.2.2.2.2.2
  s1 : r.2.2.2.2.2 ≤ 7
  len : (r.2.2.1.length : Int) ≤ m
  arcs : ∀ a ∈ r.2.2.1, a.f2 ≤ 5 ∧ a.f3 ≤ 3
theorem read_l0 (m : Int) (hm0 : 0 ≤ m) (hm : m ≤ 100) (a0 : Int) (hold : Bool) (bits : List S79) (a3 a4 a5 N : Int) (hb : ∀ b ∈ bits, BitOk b) (h3 : U8 a3) (h4 : U8 a4) (h5 : U8 a5) (hN0 : 2 ≤ N) (hN1 : N ≤ 5) (d : Nat) :
    ∀ (i : Nat) (arcs : List S69), (i : Int) + d = m → arcs.length = i → (∀ a ∈ arcs, ArcOk N a ∧ a.f2 ≤ 5 ∧ a.f3 ≤ 3) →
      ∃ r, Ev (fun k => ebbtidelaw12_Read.l0 k m (i : Int) a0 hold bits a3 a4 a5 N hold arcs) r ∧ SmallNet m hold r := by
  have h3 := u8_in h3
  have h4 := u8_in h4
  have h5 := u8_in h5
  have w3 := tmod_in (x := a3) (m := N) h3.1 (by omega)
  have w4 := tmod_in (x := a4) (m := N - 1) h4.1 (by omega)
  have w5 := tmod_in (x := a5) (m := 8) h5.1 (by omega)
  have wt := tmod_in (x := Int.tmod a3 N + 1 + Int.tmod a4 (N - 1)) (m := N) (by omega) (by omega)
  have hne : Int.tmod a3 N ≠ Int.tmod (Int.tmod a3 N + 1 + Int.tmod a4 (N - 1)) N := by
    intro e
    rw [Int.tmod_eq_emod_of_nonneg (a := Int.tmod a3 N + 1 + Int.tmod a4 (N - 1)) (by omega)] at e
    generalize Int.tmod a3 N = s at *
    generalize Int.tmod a4 (N - 1) = t at *
    have h1 := Int.emod_add_mul_ediv (s + 1 + t) N
    rw [← e] at h1
    generalize (s + 1 + t) / N = q at h1
    have hcase : q ≤ 0 ∨ q = 1 ∨ 2 ≤ q := by omega
    rcases hcase with hq | hq | hq
    · have : N * q ≤ 0 := Int.mul_nonpos_of_nonneg_of_nonpos (by omega) hq
      omega
    · subst hq; omega
    · have : N * 2 ≤ N * q := Int.mul_le_mul_of_nonneg_left hq (by omega)
      omega
  have fin : ∀ arcs : List S69, (arcs.length : Int) ≤ m → (∀ a ∈ arcs, ArcOk N a ∧ a.f2 ≤ 5 ∧ a.f3 ≤ 3) →
      SmallNet m hold (N, hold, arcs, Int.tmod (wrap64 a3) N, Int.tmod (wrap64 (wrap64 (Int.tmod (wrap64 a3) N + 1) + Int.tmod (wrap64 a4) (wrap64 (N - 1)))) N, Int.tmod (wrap64 a5) 8) := by
    intro arcs hl ha
    rw [wrap_id (x := a3) (by omega) (by omega), wrap_id (x := a4) (by omega) (by omega), wrap_id (x := a5) (by omega) (by omega), wrap_id (x := N - 1) (by omega) (by omega), wrap_id (x := Int.tmod a3 N + 1) (by omega) (by omega), wrap_id (by omega) (by omega)]
    exact ⟨hN0, hN1, rfl, ⟨by show 1 ≤ N; omega, by show N ≤ 50; omega, by show arcs.length ≤ 200; omega, fun a h => (ha a h).1⟩, ⟨w3.1, wt.1, w3.2, wt.2, hne⟩, w5.1, by show Int.tmod a5 8 ≤ 7; omega, hl, fun a h => (ha a h).2⟩
  have hw : wrap64 (N - 1) = N - 1 := wrap_id (by omega) (by omega)
  induction d with
  | zero =>
    intro i arcs hi hl ha
    refine ⟨_, ?_, fin arcs (by omega) ha⟩
    refine Ev.succ ?_; simp only [ebbtidelaw12_Read.l0]
    refine Ev.ite (fun g => ?_) (fun g => ?_)
    · exact Ev.neg (by omega) (Ev.neg (by omega) (Ev.neg (by omega) (Ev.now _)))
    · exact Ev.neg (by omega) (Ev.neg (by omega) (Ev.now _))
  | succ d ih =>
    intro i arcs hi hl ha
    by_cases g : (i : Int) < (bits.length : Int)
    · have hbit := hb (rd_T79 bits (i : Int)) (getD_mem (by omega))
      obtain ⟨b0, b1, b2, b3⟩ := hbit
      have b0 := u8_in b0; have b1 := u8_in b1; have b2 := u8_in b2; have b3 := u8_in b3
      have v0 := tmod_in (m := N) b0.1 (by omega)
      have v1 := tmod_in (m := N) b1.1 (by omega)
      have v2 := tmod_in (m := 6) b2.1 (by omega)
      have v3 := tmod_in (m := 4) b3.1 (by omega)
      obtain ⟨r, hr, hp⟩ := ih (i + 1) (arcs ++ [(⟨Int.tmod (rd_T79 bits (i : Int)).f0 N, Int.tmod (rd_T79 bits (i : Int)).f1 N, Int.tmod (rd_T79 bits (i : Int)).f2 6, Int.tmod (rd_T79 bits (i : Int)).f3 4⟩ : S69)]) (by omega) (by simp [hl]) (by
        intro a h
        rcases List.mem_append.1 h with h | h
        · exact ha a h
        · rw [List.mem_singleton.1 h]
          exact ⟨⟨v0.1, v1.1, v2.1, v3.1, v0.2, v1.2, by show Int.tmod _ 6 ≤ 1048576; omega, by show Int.tmod _ 4 ≤ 1048576; omega⟩, by show Int.tmod _ 6 ≤ 5; omega, by show Int.tmod _ 4 ≤ 3; omega⟩)
      refine ⟨r, ?_, hp⟩
      refine Ev.succ ?_; simp only [ebbtidelaw12_Read.l0]
      refine Ev.pos g (Ev.pos (by omega) (Ev.pos (by omega) (Ev.neg (by omega) (Ev.pos (by omega) ?_))))
      rw [wrap_succ (n := 101) (by omega) (by omega), wrap_id (x := (rd_T79 bits (i : Int)).f0) (by omega) (by omega), wrap_id (x := (rd_T79 bits (i : Int)).f1) (by omega) (by omega), wrap_id (x := (rd_T79 bits (i : Int)).f2) (by omega) (by omega), wrap_id (x := (rd_T79 bits (i : Int)).f3) (by omega) (by omega)]
      exact hr
    · refine ⟨_, ?_, fin arcs (by omega) ha⟩
      refine Ev.succ ?_; simp only [ebbtidelaw12_Read.l0]
      exact Ev.neg g (Ev.neg (by omega) (Ev.neg (by omega) (Ev.now _)))
theorem read_ev (m : Int) (hm0 : 0 ≤ m) (hm : m ≤ 100) (a0 : Int) (hold : Bool) (bits : List S79) (a3 a4 a5 : Int) (h : SmallOk (a0, hold, bits, a3, a4, a5)) :
    ∃ r, Ev (fun k => ebbtidelaw12_Read.f k a0 hold bits a3 a4 a5 m) r ∧ SmallNet m hold r := by
  obtain ⟨h0, _, ⟨_, hb⟩, h3, h4, h5⟩ := h
  have h0' := u8_in h0
  simp only at h0'
  have w0 := tmod_in (x := a0) (m := 4) h0'.1 (by omega)
  unfold ebbtidelaw12_Read.f
  rw [wrap_id (x := a0) (by omega) (by omega), wrap_id (by omega) (by omega)]
  exact read_l0 m hm0 hm a0 hold bits a3 a4 a5 _ hb h3 h4 h5 (by omega) (by omega) m.toNat 0 [] (by omega) rfl (by simp)
end Go.Proofs.Ytagppmdgmppmnaa.Q

/- The statements' cuts of small networks (ebbtidelaw18.Made): they are cuts. -/
set_option linter.unusedVariables false
namespace Go.Proofs.Ytagppmdgmppmnaa.Q
open Go.RowKit Go.Proofs.YtagppmdgmppmnaaW.PrintWords Go.Proofs.YtagppmdgmppmnaaW.PrintLast Go.Proofs.YtagppmdgmppmnaaW.PrintMore Go.Proofs.Ytagppmdgmppmnaa.P
open Go.Proofs.Ytagppmdgmppmnaa.H
theorem tcRes_congr {n : Int} {p : Bool} {l : List S69} {s t h : Int} {x y : List S59} (h1 : x.all (slotOkB n h) = y.all (slotOkB n h)) (h2 : hasL x = hasL y) : tcRes n p l s t h x = tcRes n p l s t h y := by
  unfold tcRes
  rw [h1, h2]
def bitsAt (bits : List Int) (v : Int) : Int := if v < (bits.length : Int) then rd bits v else 0
/-- Is a slot of a small cut's? -/
def inM (hold : Bool) (bits : List Int) (s t span v a : Int) : Bool :=
  decide (v = s) || !decide (v = t) && (if hold = true then decide (Int.tmod (bitsAt bits v) (span + 2) ≤ a) else decide (Go.bits .and .u16 (shr .u16 (bitsAt bits v) a) 1 = 1))
/-- Slots that are told so far: those of the points of time ahead, and of this one those of the nodes ahead. -/
structure MadeAt (N : Int) (hold : Bool) (bits : List Int) (s t span : Int) (a v : Int) (x : List S59) : Prop where
  has : ∀ v' a', hasL x v' a' = true ↔ ((0 ≤ v' ∧ v' < N ∧ 0 ≤ a' ∧ (a' < a ∨ a' = a ∧ v' < v)) ∧ inM hold bits s t span v' a' = true)
  ok : ∀ y ∈ x, slotOkB N span y = true
  len : (x.length : Int) ≤ a * N + v
theorem hasL_snoc (x : List S59) (s : S59) (v a : Int) : hasL (x ++ [s]) v a = (hasL x v a || (decide (s.f0 = v) && decide (s.f1 = a))) := by
  simp [hasL]
theorem MadeAt.add {N : Int} {hold : Bool} {bits : List Int} {s t span a v : Int} {x : List S59} (h : MadeAt N hold bits s t span a v x) (hv0 : 0 ≤ v) (hv : v < N) (ha0 : 0 ≤ a) (ha : a ≤ span) (hin : inM hold bits s t span v a = true) :
    MadeAt N hold bits s t span a (v + 1) (x ++ [(⟨v, a⟩ : S59)]) := by
  refine ⟨fun v' a' => ?_, fun y hy => ?_, ?_⟩
  · rw [hasL_snoc, Bool.or_eq_true, h.has, Bool.and_eq_true, decide_eq_true_eq, decide_eq_true_eq]
    show _ ∨ (v = v' ∧ a = a') ↔ _
    constructor
    · rintro (⟨h1, h2⟩ | ⟨rfl, rfl⟩)
      · exact ⟨by omega, h2⟩
      · exact ⟨by omega, hin⟩
    · rintro ⟨h1, h2⟩
      by_cases e : v = v' ∧ a = a'
      · exact Or.inr e
      · exact Or.inl ⟨by omega, h2⟩
  · rcases List.mem_append.1 hy with hy | hy
    · exact h.ok y hy
    · rw [List.mem_singleton.1 hy]
      unfold slotOkB
      simp
      omega
  · have := h.len
    rw [List.length_append, List.length_singleton]
    omega
theorem MadeAt.skip {N : Int} {hold : Bool} {bits : List Int} {s t span a v : Int} {x : List S59} (h : MadeAt N hold bits s t span a v x) (hin : inM hold bits s t span v a = false) : MadeAt N hold bits s t span a (v + 1) x := by
  refine ⟨fun v' a' => ?_, h.ok, by have := h.len; omega⟩
  rw [h.has]
  constructor
  · rintro ⟨h1, h2⟩
    exact ⟨by omega, h2⟩
  · rintro ⟨h1, h2⟩
    refine ⟨?_, h2⟩
    by_cases e : v' = v ∧ a' = a
    · obtain ⟨rfl, rfl⟩ := e
      rw [hin] at h2; cases h2
    · omega
theorem MadeAt.row {N : Int} {hold : Bool} {bits : List Int} {s t span a : Int} {x : List S59} (h : MadeAt N hold bits s t span a N x) : MadeAt N hold bits s t span (a + 1) 0 x := by
  refine ⟨fun v' a' => ?_, h.ok, by have := h.len; rw [Int.add_mul]; omega⟩
  rw [h.has]
  constructor
  · rintro ⟨h1, h2⟩; exact ⟨by omega, h2⟩
  · rintro ⟨h1, h2⟩; exact ⟨by omega, h2⟩
theorem made_j2 (N : Int) (hold : Bool) (l : List S69) (s t span : Int) (bits : List Int) (hb : ∀ b ∈ bits, U16 b) (h0 : 2 ≤ N) (h1 : N ≤ 5) (hs0 : 0 ≤ span) (hs1 : span ≤ 7) (x : List S59) (hx : (x.length : Int) ≤ 100) (a v : Int) (ha0 : 0 ≤ a) (ha1 : a ≤ span) (hv0 : 0 ≤ v) (hv1 : v < N) (hne : s ≠ t) (R : List S59)
    (next : Ev (fun k => ebbtidelaw18_Made.l1 k s t span bits (if inM hold bits s t span v a = true then x ++ [(⟨v, a⟩ : S59)] else x) a (v + 1) N hold l) R) :
    Ev (fun k => ebbtidelaw18_Made.j2 k s t span bits x a v (bitsAt bits v) N hold l) R := by
  have hbv : 0 ≤ bitsAt bits v ∧ bitsAt bits v ≤ 65535 := by
    unfold bitsAt
    split
    · exact u16_in (hb _ (getD_mem (by omega)))
    · omega
  have hw : wrap64 (v + 1) = v + 1 := wrap_id (by omega) (by omega)
  have hw2 : wrap64 (span + 2) = span + 2 := wrap_id (by omega) (by omega)
  have hw3 : wrap64 (bitsAt bits v) = bitsAt bits v := wrap_id (by omega) (by omega)
  refine Ev.succ ?_; simp only [ebbtidelaw18_Made.j2]
  rw [hw, hw2, hw3]
  refine Ev.pos ha0 ?_
  unfold inM at next
  cases hold with
  | true =>
    refine Ev.pos (by trivial) (Ev.neg (by omega) ?_)
    refine Ev.ite (fun g => ?_) (fun g => ?_)
    · refine Ev.pos (by omega) ?_
      rw [decide_eq_true g, Bool.true_or, if_pos rfl] at next
      exact next
    · rw [decide_eq_false g, Bool.false_or] at next
      refine Ev.ite (fun g2 => ?_) (fun g2 => ?_)
      · rw [decide_eq_true g2, Bool.not_true, Bool.false_and, if_neg (by decide)] at next
        exact next
      · rw [decide_eq_false g2, Bool.not_false, Bool.true_and, if_pos rfl] at next
        refine Ev.ite (fun g3 => ?_) (fun g3 => ?_)
        · refine Ev.pos (by omega) ?_
          rw [decide_eq_true g3, if_pos rfl] at next
          exact next
        · rw [decide_eq_false g3, if_neg (by decide)] at next
          exact next
  | false =>
    refine Ev.neg (by decide) ?_
    refine Ev.ite (fun g => ?_) (fun g => ?_)
    · refine Ev.pos (by omega) ?_
      rw [decide_eq_true g, Bool.true_or, if_pos rfl] at next
      exact next
    · rw [decide_eq_false g, Bool.false_or] at next
      refine Ev.ite (fun g2 => ?_) (fun g2 => ?_)
      · rw [decide_eq_true g2, Bool.not_true, Bool.false_and, if_neg (by decide)] at next
        exact next
      · rw [decide_eq_false g2, Bool.not_false, Bool.true_and, if_neg (by decide : ¬ (false = true))] at next
        refine Ev.ite (fun g3 => ?_) (fun g3 => ?_)
        · refine Ev.pos (by omega) ?_
          rw [decide_eq_true g3, if_pos rfl] at next
          exact next
        · rw [decide_eq_false g3, if_neg (by decide)] at next
          exact next
theorem made_l1 (N : Int) (hold : Bool) (l : List S69) (s t span : Int) (bits : List Int) (hb : ∀ b ∈ bits, U16 b) (h0 : 2 ≤ N) (h1 : N ≤ 5) (hs0 : 0 ≤ span) (hs1 : span ≤ 7) (hne : s ≠ t) (a : Int) (ha0 : 0 ≤ a) (ha1 : a ≤ span)
    (next : ∀ x, MadeAt N hold bits s t span (a + 1) 0 x → ∃ R, Ev (fun k => ebbtidelaw18_Made.l0 k s t span bits x (a + 1) N hold l) R ∧ MadeAt N hold bits s t span (span + 1) 0 R) (d : Nat) :
    ∀ (v : Int) (x : List S59), 0 ≤ v → v + d = N → MadeAt N hold bits s t span a v x →
      ∃ R, Ev (fun k => ebbtidelaw18_Made.l1 k s t span bits x a v N hold l) R ∧ MadeAt N hold bits s t span (span + 1) 0 R := by
  induction d with
  | zero =>
    intro v x hv0 hv hm
    obtain rfl : v = N := by omega
    obtain ⟨R, hR, hp⟩ := next x hm.row
    refine ⟨R, ?_, hp⟩
    refine Ev.succ ?_; simp only [ebbtidelaw18_Made.l1]
    refine Ev.neg (by omega) ?_
    rw [wrap_id (x := a + 1) (by omega) (by omega)]
    exact hR
  | succ d ih =>
    intro v x hv0 hv hm
    have hlen := hm.len
    have hmul : a * N ≤ 7 * 5 := Int.mul_le_mul (by omega) (by omega) (by omega) (by omega)
    have hm' : MadeAt N hold bits s t span a (v + 1) (if inM hold bits s t span v a = true then x ++ [(⟨v, a⟩ : S59)] else x) := by
      split
      · exact hm.add hv0 (by omega) ha0 ha1 (by assumption)
      · exact hm.skip (Bool.eq_false_iff.2 (by assumption))
    obtain ⟨R, hR, hp⟩ := ih (v + 1) _ (by omega) (by omega) hm'
    refine ⟨R, ?_, hp⟩
    have hj := made_j2 N hold l s t span bits hb h0 h1 hs0 hs1 x (by omega) a v ha0 ha1 hv0 (by omega) hne R hR
    refine Ev.succ ?_; simp only [ebbtidelaw18_Made.l1]
    refine Ev.pos (by omega) ?_
    unfold bitsAt at hj
    refine Ev.ite (fun g => ?_) (fun g => ?_)
    · rw [if_pos g] at hj
      exact Ev.pos hv0 hj
    · rw [if_neg g] at hj
      exact hj
theorem made_l0 (N : Int) (hold : Bool) (l : List S69) (s t span : Int) (bits : List Int) (hb : ∀ b ∈ bits, U16 b) (h0 : 2 ≤ N) (h1 : N ≤ 5) (hs0 : 0 ≤ span) (hs1 : span ≤ 7) (hne : s ≠ t) (d : Nat) :
    ∀ (a : Int) (x : List S59), 0 ≤ a → a + d = span + 1 → MadeAt N hold bits s t span a 0 x →
      ∃ R, Ev (fun k => ebbtidelaw18_Made.l0 k s t span bits x a N hold l) R ∧ MadeAt N hold bits s t span (span + 1) 0 R := by
  induction d with
  | zero =>
    intro a x ha0 ha hm
    obtain rfl : a = span + 1 := by omega
    refine ⟨x, ?_, hm⟩
    refine Ev.succ ?_; simp only [ebbtidelaw18_Made.l0]
    exact Ev.neg (by omega) (Ev.now _)
  | succ d ih =>
    intro a x ha0 ha hm
    obtain ⟨R, hR, hp⟩ := made_l1 N hold l s t span bits hb h0 h1 hs0 hs1 hne a ha0 (by omega) (fun y hy => ih (a + 1) y (by omega) (by omega) hy) N.toNat 0 x (by omega) (by omega) hm
    refine ⟨R, ?_, hp⟩
    refine Ev.succ ?_; simp only [ebbtidelaw18_Made.l0]
    exact Ev.pos (by omega) hR
/-- The slots of a small cut. -/
structure CutOf (N : Int) (hold : Bool) (s t span : Int) (x : List S59) : Prop where
  ok : x.all (slotOkB N span) = true
  ends : endsN (hasL x) s t (span.toNat + 1) = true
  rises : hold = true → risesAll (hasL x) span.toNat N.toNat = true
  len : x.length ≤ 100
  pos : 0 < x.length
theorem endsN_mk {S : Int → Int → Bool} {s t : Int} : ∀ m : Nat, (∀ k : Nat, k < m → S s k = true ∧ S t k = false) → endsN S s t m = true
  | 0, _ => rfl
  | m + 1, h => by
    unfold endsN
    rw [endsN_mk m (fun k hk => h k (by omega)), (h m (by omega)).1, (h m (by omega)).2]
    rfl
theorem risesN_mk {S : Int → Int → Bool} {v : Int} : ∀ m : Nat, (∀ k : Nat, k < m → S v k = true → S v (k + 1) = true) → risesN S v m = true
  | 0, _ => rfl
  | m + 1, h => by
    unfold risesN
    rw [risesN_mk m (fun k hk => h k (by omega)), Bool.true_and]
    cases e : S v m with
    | false => rfl
    | true => rw [h m (by omega) e]; rfl
theorem risesAll_mk {S : Int → Int → Bool} {h : Nat} : ∀ m : Nat, (∀ v : Nat, v < m → risesN S v h = true) → risesAll S h m = true
  | 0, _ => rfl
  | m + 1, hv => by
    unfold risesAll
    rw [risesAll_mk m (fun v hm => hv v (by omega)), hv m (by omega)]
    rfl
theorem made_ev (N : Int) (hold : Bool) (l : List S69) (s t span : Int) (bits : List Int) (hb : ∀ b ∈ bits, U16 b) (h0 : 2 ≤ N) (h1 : N ≤ 5) (hs0 : 0 ≤ span) (hs1 : span ≤ 7) (he : EndsOk N s t) :
    ∃ x, Ev (fun k => ebbtidelaw18_Made.f k N hold l s t span bits) x ∧ CutOf N hold s t span x ∧ MadeAt N hold bits s t span (span + 1) 0 x := by
  have e1 := he.s0; have e2 := he.sn; have e3 := he.t0; have e4 := he.tn; have e5 := he.ne
  obtain ⟨x, hx, hm⟩ := made_l0 N hold l s t span bits hb h0 h1 hs0 hs1 e5 (span.toNat + 1) 0 [] (by omega) (by omega) ⟨fun v a => by
    simp [hasL]
    omega, by simp, by simp⟩
  refine ⟨x, hx, ⟨List.all_eq_true.2 hm.ok, ?_, fun hh => ?_, ?_, ?_⟩, hm⟩
  · refine endsN_mk _ fun k hk => ⟨?_, ?_⟩
    · rw [hm.has]
      exact ⟨by omega, by simp [inM]⟩
    · cases e : hasL x t k with
      | false => rfl
      | true =>
        have := ((hm.has t k).1 e).2
        simp [inM] at this
        omega
  · refine risesAll_mk _ fun v hv => risesN_mk _ fun k hk hS => ?_
    obtain ⟨g1, g2⟩ := (hm.has v k).1 hS
    refine (hm.has v (k + 1)).2 ⟨by omega, ?_⟩
    unfold inM at g2 ⊢
    rw [hh] at g2 ⊢
    simp at g2 ⊢
    omega
  · have := hm.len
    have hmul : (span + 1) * N ≤ 8 * 5 := Int.mul_le_mul (by omega) (by omega) (by omega) (by omega)
    omega
  · cases x with
    | nil =>
      have := (hm.has s 0).2 ⟨by omega, by simp [inM]⟩
      simp [hasL] at this
    | cons y x => simp
theorem CutOf.res {N : Int} {hold : Bool} {l : List S69} {s t span : Int} {x : List S59} (h : CutOf N hold s t span x) (hn : NetOk N l) (he : EndsOk N s t) (hs0 : 0 ≤ span) (hs1 : span ≤ 1024) :
    tcRes N hold l s t span x = (takesL (hasL x) span l, 0) := by
  unfold tcRes
  rw [if_pos (spanErr_mk hn he hs0 hs1), if_pos h.ok, if_pos h.ends, if_neg (fun ⟨a, b⟩ => b (h.rises a))]
end Go.Proofs.Ytagppmdgmppmnaa.Q

/- The document's small example of layer 18 answers true. -/
namespace Go.Proofs.Ytagppmdgmppmnaa.Q
open Go.RowKit Go.Proofs.YtagppmdgmppmnaaW.PrintWords Go.Proofs.YtagppmdgmppmnaaW.PrintLast Go.Proofs.YtagppmdgmppmnaaW.PrintMore Go.Proofs.Ytagppmdgmppmnaa.P
theorem awake18_at : ebbtidelaw18_awake.f 40 = some true := by decide +kernel
theorem awake18_ev : Ev (fun k => ebbtidelaw18_awake.f k) true := Ev.of ebbtidelaw18_awake.mono awake18_at
end Go.Proofs.Ytagppmdgmppmnaa.Q

/- TimecutChecks, TimecutFroms, TimecutSmall, TimecutOrder: the plain laws. -/
set_option linter.unusedVariables false
namespace Go.Proofs.Ytagppmdgmppmnaa.Q
open Go.RowKit Go.Proofs.YtagppmdgmppmnaaW.PrintWords Go.Proofs.YtagppmdgmppmnaaW.PrintLast Go.Proofs.YtagppmdgmppmnaaW.PrintMore Go.Proofs.Ytagppmdgmppmnaa.P
open Go.Proofs.Ytagppmdgmppmnaa.H
theorem tc_check_ev (n : Int) (p : Bool) (l : List S69) (s t h : Int) (x : List S59) (hx : x.length ≤ 9223372036854775807) : Ev (fun k => timecut_Check.f k n p l s t h x) (tcRes n p l s t h x) := tcheck_ev n p l s t h x hx
theorem timecutChecks_ev (n : Int) (p : Bool) (l : List S69) (s t h : Int) (x : List S59) : Ev (fun k => ebbtidelaw18_TimecutChecks.f k n p l s t h x) true := by
  unfold ebbtidelaw18_TimecutChecks.f
  have out : Ev (fun k => ebbtidelaw18_TimecutChecks.j0 k s t h x true n p l) true := by
    refine Ev.succ ?_; simp only [ebbtidelaw18_TimecutChecks.j0]
    exact Ev.pos (by trivial) (Ev.bind awake18_ev (Ev.now _))
  refine Ev.ite (fun g => out) (fun g => ?_)
  have inn : Ev (fun k => ebbtidelaw18_TimecutChecks.j0 k s t h x false n p l) true := by
    refine Ev.succ ?_; simp only [ebbtidelaw18_TimecutChecks.j0]
    refine Ev.neg (by decide) ?_
    refine Ev.bind (tc_check_ev n p l s t h x (by omega)) ?_
    refine Ev.bind (tcheck_ev n p l s t h x (by omega)) ?_
    refine Ev.bind awake18_ev ?_
    exact Ev.pos rfl (Ev.pos rfl (Ev.done (beq_self_eq_true _)))
  refine Ev.ite (fun g2 => ?_) (fun g2 => inn)
  cases e : decide (h ≤ 1024) with
  | true => exact out
  | false => exact inn

/-- The slots of each node from a point of time on. -/
def fromRow (times : List Int) (a : Int) : List Int → Int → List S59 → List S59
  | [], _, x => x
  | m :: r, v, x => fromRow times a r (v + 1) (if m ≤ a then x ++ [(⟨v, a⟩ : S59)] else x)
theorem fromRow_len (times : List Int) (a : Int) : ∀ (r : List Int) (v : Int) (x : List S59), (fromRow times a r v x).length ≤ x.length + r.length
  | [], _, x => by simp [fromRow]
  | m :: r, v, x => by
    unfold fromRow
    refine Nat.le_trans (fromRow_len times a r (v + 1) _) ?_
    split <;> simp <;> omega
def fromAll (times : List Int) : Nat → Int → List S59 → List S59
  | 0, _, x => x
  | d + 1, a, x => fromAll times d (a + 1) (fromRow times a times 0 x)
theorem fromAll_len (times : List Int) : ∀ (d : Nat) (a : Int) (x : List S59), (fromAll times d a x).length ≤ x.length + d * times.length
  | 0, _, x => by simp [fromAll]
  | d + 1, a, x => by
    unfold fromAll
    have h1 := fromAll_len times d (a + 1) (fromRow times a times 0 x)
    have h2 := fromRow_len times a times 0 x
    rw [Nat.succ_mul]
    omega
theorem from_l1 (times : List Int) (ht : times.length ≤ 50) (a m : Int) (R : List S59 × Int) (hx : Nat) (hx2 : hx ≤ 1000000) (next : ∀ x : List S59, x.length ≤ hx + 50 → x = x → Ev (fun k => timecut_From.l0 k times x m (wrap64 (a + 1))) R → True)
    (d : Nat) : ∀ (i : Nat) (x : List S59), i + d = times.length → x.length ≤ hx + i → Ev (fun k => timecut_From.l0 k times (fromRow times a (times.drop i) i x) m (wrap64 (a + 1))) R →
      Ev (fun k => timecut_From.l1 k times x a m a times (times.length : Int) (i : Int)) R := by
  induction d with
  | zero =>
    intro i x hi hl hR
    rw [List.drop_of_length_le (by omega)] at hR
    refine Ev.succ ?_; simp only [timecut_From.l1]
    refine Ev.neg (by omega) ?_
    exact hR
  | succ d ih =>
    intro i x hi hl hR
    rw [drop_getD times i 0 (by omega), ← rd_nat] at hR
    unfold fromRow at hR
    refine Ev.succ ?_; simp only [timecut_From.l1]
    refine Ev.pos (by omega) (Ev.pos (by omega) (Ev.pos (by omega) ?_))
    rw [wrap_succ (n := times.length) (by omega) (by omega)]
    refine Ev.ite (fun g => ?_) (fun g => ?_)
    · rw [if_pos g] at hR
      refine Ev.pos (by omega) ?_
      exact ih (i + 1) _ (by omega) (by simp; omega) hR
    · rw [if_neg g] at hR
      exact ih (i + 1) _ (by omega) (by omega) hR
theorem from_l0 (times : List Int) (ht : times.length ≤ 50) (h : Int) (hh0 : 0 ≤ h) (hh : h ≤ 1024) (d : Nat) : ∀ (a : Nat) (x : List S59), (a : Int) + d = h + 1 → x.length ≤ a * 50 →
    Ev (fun k => timecut_From.l0 k times x (h + 1) (a : Int)) (fromAll times d a x, 0) := by
  induction d with
  | zero =>
    intro a x ha hx
    refine Ev.succ ?_; simp only [timecut_From.l0]
    exact Ev.neg (by omega) (Ev.now _)
  | succ d ih =>
    intro a x ha hx
    have hl := fromRow_len times (a : Int) times 0 x
    have hn := ih (a + 1) (fromRow times a times 0 x) (by omega) (by omega)
    refine Ev.succ ?_; simp only [timecut_From.l0]
    refine Ev.pos (by omega) ?_
    have h1 := from_l1 times ht (a : Int) (h + 1) (fromAll times (d + 1) a x, 0) x.length (by omega) (fun _ _ _ _ => trivial) times.length 0 x (by omega) (by omega)
    rw [wrap_succ (n := 2000) (by omega) (by omega), List.drop_zero] at h1
    exact h1 hn
def fromRes (n : Int) (l : List S69) (h : Int) (times : List Int) : List S59 × Int :=
  if netErr n l = 0 then (if (if h < 0 then (1 : Int) else if h > 1024 then 2 else 0) = 0 then (if (times.length : Int) = n then (fromAll times (h.toNat + 1) 0 [], 0) else ([], 1)) else ([], if h < 0 then 1 else if h > 1024 then 2 else 0)) else ([], netErr n l)
theorem tfrom_ev (n : Int) (b : Bool) (l : List S69) (h : Int) (times : List Int) : Ev (fun k => timecut_From.f k n b l h times) (fromRes n l h times) := by
  unfold timecut_From.f fromRes
  refine Ev.bind (check_ev n b l) ?_
  refine Ev.ite (fun g => ?_) (fun g => ?_)
  · rw [if_pos g]
    have hn := netErr_ok g
    have := hn.hi
    refine Ev.call (horizon_eq h) ?_
    refine Ev.ite (fun g2 => ?_) (fun g2 => ?_)
    · rw [if_pos g2]
      have hh : 0 ≤ h ∧ h ≤ 1024 := by
        split at g2
        · omega
        · split at g2 <;> omega
      refine Ev.ite (fun g3 => ?_) (fun g3 => ?_)
      · rw [if_pos g3, wrap_id (x := h + 1) (by omega) (by omega)]
        exact from_l0 times (by omega) h hh.1 hh.2 (h.toNat + 1) 0 [] (by omega) (by simp)
      · rw [if_neg g3]; exact Ev.now _
    · rw [if_neg g2]; exact Ev.now _
  · rw [if_neg g]; exact Ev.now _
theorem rfrom_l1 (n : Int) (b : Bool) (l : List S69) (times : List Int) (ht : times.length ≤ 50) (hn : (times.length : Int) = n) (h a : Int) (R : List S59 × Int) (hx : Nat) (hx2 : hx ≤ 1000000)
    (d : Nat) : ∀ (i : Nat) (x : List S59), i + d = times.length → x.length ≤ hx + i → Ev (fun k => ebbtideref18_From.l0 k h times (fromRow times a (times.drop i) i x) (wrap64 (a + 1)) n b l) R →
      Ev (fun k => ebbtideref18_From.l1 k h times x a (i : Int) n b l) R := by
  induction d with
  | zero =>
    intro i x hi hl hR
    rw [List.drop_of_length_le (by omega)] at hR
    refine Ev.succ ?_; simp only [ebbtideref18_From.l1]
    refine Ev.neg (by omega) ?_
    exact hR
  | succ d ih =>
    intro i x hi hl hR
    rw [drop_getD times i 0 (by omega), ← rd_nat] at hR
    unfold fromRow at hR
    refine Ev.succ ?_; simp only [ebbtideref18_From.l1]
    refine Ev.pos (by omega) (Ev.pos (by omega) (Ev.pos (by omega) ?_))
    rw [wrap_succ (n := times.length) (by omega) (by omega)]
    refine Ev.ite (fun g => ?_) (fun g => ?_)
    · rw [if_pos g] at hR
      refine Ev.pos (by omega) ?_
      exact ih (i + 1) _ (by omega) (by simp; omega) hR
    · rw [if_neg g] at hR
      exact ih (i + 1) _ (by omega) (by omega) hR
theorem rfrom_l0 (n : Int) (b : Bool) (l : List S69) (times : List Int) (ht : times.length ≤ 50) (hn : (times.length : Int) = n) (h : Int) (hh0 : 0 ≤ h) (hh : h ≤ 1024) (d : Nat) : ∀ (a : Nat) (x : List S59), (a : Int) + d = h + 1 → x.length ≤ a * 50 →
    Ev (fun k => ebbtideref18_From.l0 k h times x (a : Int) n b l) (fromAll times d a x, 0) := by
  induction d with
  | zero =>
    intro a x ha hx
    refine Ev.succ ?_; simp only [ebbtideref18_From.l0]
    exact Ev.neg (by omega) (Ev.now _)
  | succ d ih =>
    intro a x ha hx
    have hl := fromRow_len times (a : Int) times 0 x
    have hnx := ih (a + 1) (fromRow times a times 0 x) (by omega) (by omega)
    refine Ev.succ ?_; simp only [ebbtideref18_From.l0]
    refine Ev.pos (by omega) ?_
    have h1 := rfrom_l1 n b l times ht hn h (a : Int) (fromAll times (d + 1) a x, 0) x.length (by omega) times.length 0 x (by omega) (by omega)
    rw [wrap_succ (n := 2000) (by omega) (by omega), List.drop_zero] at h1
    exact h1 hnx
theorem rfrom_ev (n : Int) (b : Bool) (l : List S69) (h : Int) (times : List Int) : Ev (fun k => ebbtideref18_From.f k n b l h times) (fromRes n l h times) := by
  unfold ebbtideref18_From.f fromRes
  refine Ev.bind (ref_check_ev n b l) ?_
  refine Ev.ite (fun g => ?_) (fun g => ?_)
  · rw [if_pos g]
    have hn := netErr_ok g
    have := hn.hi
    refine Ev.call (ref_span_eq h) ?_
    refine Ev.ite (fun g2 => ?_) (fun g2 => ?_)
    · rw [if_pos g2]
      have hh : 0 ≤ h ∧ h ≤ 1024 := by
        split at g2
        · omega
        · split at g2 <;> omega
      refine Ev.ite (fun g3 => ?_) (fun g3 => ?_)
      · rw [if_pos g3]
        exact rfrom_l0 n b l times (by omega) g3 h hh.1 hh.2 (h.toNat + 1) 0 [] (by omega) (by simp)
      · rw [if_neg g3]; exact Ev.now _
    · rw [if_neg g2]; exact Ev.now _
  · rw [if_neg g]; exact Ev.now _
theorem fromRes_len (n : Int) (l : List S69) (h : Int) (times : List Int) : (fromRes n l h times).1.length ≤ 9223372036854775807 := by
  unfold fromRes
  by_cases g : netErr n l = 0
  · rw [if_pos g]
    have := (netErr_ok g).hi
    by_cases g2 : (if h < 0 then (1 : Int) else if h > 1024 then 2 else 0) = 0
    · rw [if_pos g2]
      have hh : 0 ≤ h ∧ h ≤ 1024 := by
        split at g2
        · omega
        · split at g2 <;> omega
      by_cases g3 : (times.length : Int) = n
      · rw [if_pos g3]
        have h1 := fromAll_len times (h.toNat + 1) 0 []
        have h2 : (h.toNat + 1) * times.length ≤ 1025 * 50 := Nat.mul_le_mul (by omega) (by omega)
        show (fromAll times (h.toNat + 1) 0 []).length ≤ _
        simp at h1
        omega
      · rw [if_neg g3]; exact Nat.zero_le _
    · rw [if_neg g2]; exact Nat.zero_le _
  · rw [if_neg g]; exact Nat.zero_le _
theorem sameSlots_l0 (x : List S59) (hl : x.length ≤ 9223372036854775807) (d : Nat) : ∀ i : Nat, i + d = x.length → Ev (fun k => ebbtideref03_SameSlots.l0 k x x (i : Int)) true := by
  induction d with
  | zero =>
    intro i hi
    refine Ev.succ ?_; simp only [ebbtideref03_SameSlots.l0]
    exact Ev.neg (by omega) (Ev.now _)
  | succ d ih =>
    intro i hi
    refine Ev.succ ?_; simp only [ebbtideref03_SameSlots.l0]
    refine Ev.pos (by omega) (Ev.pos (by omega) (Ev.pos (by omega) (Ev.neg (by simp) ?_)))
    rw [wrap_succ (n := x.length) (by omega) (by omega)]
    exact ih (i + 1) (by omega)
theorem sameSlots_ev (x : List S59) (hl : x.length ≤ 9223372036854775807) : Ev (fun k => ebbtideref03_SameSlots.f k x x) true := by
  unfold ebbtideref03_SameSlots.f
  exact Ev.pos rfl (sameSlots_l0 x hl x.length 0 (by omega))
theorem timecutFroms_ev (n : Int) (p : Bool) (l : List S69) (h : Int) (times : List Int) : Ev (fun k => ebbtidelaw18_TimecutFroms.f k n p l h times) true := by
  unfold ebbtidelaw18_TimecutFroms.f
  have one : ∀ h : Int, Ev (fun k => ebbtidelaw18_TimecutFroms.j1 k h times n p l) true := by
    intro h
    refine Ev.succ ?_; simp only [ebbtidelaw18_TimecutFroms.j1]
    refine Ev.bind (tfrom_ev n p l h times) ?_
    refine Ev.bind (rfrom_ev n p l h times) ?_
    refine Ev.bind awake18_ev (Ev.pos rfl ?_)
    refine Ev.bind (sameSlots_ev _ (fromRes_len n l h times)) (Ev.pos rfl ?_)
    exact Ev.done (beq_self_eq_true _)
  have two : ∀ c : Bool, Ev (fun k => ebbtidelaw18_TimecutFroms.j0 k h times c n p l) true := by
    intro c
    refine Ev.succ ?_; simp only [ebbtidelaw18_TimecutFroms.j0]
    exact Ev.ite (fun _ => one _) (fun _ => one _)
  exact Ev.ite (fun _ => two _) (fun _ => two _)

theorem timecutSmall_ev (a0 : Int) (hold : Bool) (bits : List S79) (a3 a4 a5 : Int) (y : List Int) (less : Int) (hs : SmallOk (a0, hold, bits, a3, a4, a5)) (hy : y.length ≤ 9223372036854775807 ∧ ∀ b ∈ y, U16 b) (hl : U8 less) :
    Ev (fun k => ebbtidelaw18_TimecutSmall.f k a0 hold bits a3 a4 a5 y less) true := by
  unfold ebbtidelaw18_TimecutSmall.f
  obtain ⟨⟨N, p, arcs, s, t, span⟩, hr, hsm⟩ := read_ev 10 (by omega) (by omega) a0 hold bits a3 a4 a5 hs
  obtain ⟨x, hx, hc, _⟩ := made_ev N p arcs s t span y hy.2 hsm.lo hsm.hi hsm.s0 hsm.s1 hsm.ends
  have h7 : span ≤ 7 := hsm.s1
  have hres := hc.res hsm.net hsm.ends hsm.s0 (by show span ≤ 1024; omega)
  simp only at hres
  have hlen := hc.len
  have hpos := hc.pos
  have hl8 := u8_in hl
  have hm := tmod_in (x := less) (m := (x.length : Int)) hl8.1 (by omega)
  refine Ev.bind hr (Ev.bind hx ?_)
  refine Ev.bind (tc_check_ev _ _ _ _ _ _ x (by omega)) ?_
  refine Ev.bind (tcheck_ev _ _ _ _ _ _ x (by omega)) ?_
  refine Ev.pos rfl (Ev.pos rfl ?_)
  simp only [hres]
  refine Ev.succ ?_; simp only [ebbtidelaw18_TimecutSmall.j0]
  rw [wrap_id (x := less) (by omega) (by omega), wrap_id (x := Int.tmod less (x.length : Int) + 1) (by omega) (by omega)]
  refine Ev.neg (by decide) (Ev.neg (by omega) (Ev.pos hm.1 (Ev.pos (by omega) ?_)))
  refine Ev.let_ (Ev.pos (by simp; omega) (Ev.let_ (Ev.pos (by omega) (Ev.pos (by omega) (Ev.let_ (Ev.pos (by simp; omega) (Ev.let_ ?_)))))))
  refine Ev.bind (tc_check_ev _ _ _ _ _ _ _ (by simp; omega)) ?_
  refine Ev.bind (tcheck_ev _ _ _ _ _ _ _ (by simp; omega)) ?_
  exact Ev.bind awake18_ev (Ev.pos rfl (Ev.pos rfl (Ev.done (beq_self_eq_true _))))

theorem hasL_mem (x : List S59) (v a : Int) : hasL x v a = true ↔ ∃ s ∈ x, s.f0 = v ∧ s.f1 = a := by
  simp [hasL]
theorem order_l0 (N : Int) (p : Bool) (arcs : List S69) (s t span : Int) (x : List S59) (hc : CutOf N p s t span x) (hn : NetOk N arcs) (he : EndsOk N s t) (h0 : 0 ≤ span) (h1 : span ≤ 7) (d : Nat) : ∀ (i : Int) (back : List S59), i + 1 = d → i < x.length →
    (back.length : Int) + 2 * (i + 1) = 2 * x.length → (∀ y ∈ back, y ∈ x) → (∀ j : Nat, i < j → j < x.length → x.getD j z59 ∈ back) →
      Ev (fun k => ebbtidelaw18_TimecutOrder.l0 k true s t span x back i N p arcs) true := by
  have hlen := hc.len
  induction d with
  | zero =>
    intro i back hi hil hb hsub hall
    have e2 : hasL back = hasL x := by
      funext v a
      rw [Bool.eq_iff_iff, hasL_mem, hasL_mem]
      constructor
      · rintro ⟨y, hy, h⟩; exact ⟨y, hsub y hy, h⟩
      · rintro ⟨y, hy, h⟩
        obtain ⟨j, hj, e⟩ := List.getElem_of_mem hy
        have := hall j (by omega) hj
        rw [List.getD_eq_getElem?_getD, List.getElem?_eq_getElem hj] at this
        exact ⟨_, this, by show x[j].f0 = v ∧ x[j].f1 = a; rw [e]; exact h⟩
    have e1 : back.all (slotOkB N span) = x.all (slotOkB N span) := by
      rw [hc.ok]
      exact List.all_eq_true.2 fun y hy => List.all_eq_true.1 hc.ok y (hsub y hy)
    have hres := hc.res hn he h0 (by omega)
    refine Ev.succ ?_; simp only [ebbtidelaw18_TimecutOrder.l0]
    refine Ev.neg (by omega) ?_
    refine Ev.bind (tc_check_ev _ _ _ _ _ _ x (by omega)) ?_
    refine Ev.bind (tc_check_ev _ _ _ _ _ _ back (by omega)) ?_
    rw [tcRes_congr e1 e2, hres]
    exact Ev.pos (by trivial) (Ev.pos rfl (Ev.pos rfl (Ev.done (beq_self_eq_true _))))
  | succ d ih =>
    intro i back hi hil hb hsub hall
    have hdiv : wrap64 (Int.tdiv i 2) = i / 2 := by
      rw [Int.tdiv_eq_ediv_of_nonneg (by omega)]
      exact wrap_id (by omega) (by omega)
    have m1 : (rd_T59 x i) ∈ x := getD_mem (by omega)
    have m2 : (rd_T59 x (i / 2)) ∈ x := getD_mem (by omega)
    have hn2 := ih (i - 1) (back ++ [(⟨(rd_T59 x i).f0, (rd_T59 x i).f1⟩ : S59), (⟨(rd_T59 x (i / 2)).f0, (rd_T59 x (i / 2)).f1⟩ : S59)]) (by omega) (by omega) (by simp; omega) (by
      intro y hy
      rcases List.mem_append.1 hy with hy | hy
      · exact hsub y hy
      · rcases List.mem_cons.1 hy with rfl | hy
        · exact m1
        · rw [List.mem_singleton.1 hy]; exact m2) (by
      intro j hj hjl
      by_cases e : (j : Int) = i
      · refine List.mem_append_right _ ?_
        have : x.getD j z59 = rd_T59 x i := by rw [← e, rdSlot_nat]
        rw [this]
        exact List.mem_cons_self ..
      · exact List.mem_append_left _ (hall j (by omega) hjl))
    refine Ev.succ ?_; simp only [ebbtidelaw18_TimecutOrder.l0]
    rw [hdiv, wrap_id (x := i - 1) (by omega) (by omega)]
    refine Ev.pos (by omega) (Ev.pos (by omega) (Ev.pos (by omega) (Ev.pos (by omega) (Ev.pos (by omega) (Ev.let_ (Ev.pos (by simp; omega) ?_))))))
    exact hn2
theorem timecutOrder_ev (a0 : Int) (hold : Bool) (bits : List S79) (a3 a4 a5 : Int) (y : List Int) (hs : SmallOk (a0, hold, bits, a3, a4, a5)) (hy : y.length ≤ 9223372036854775807 ∧ ∀ b ∈ y, U16 b) :
    Ev (fun k => ebbtidelaw18_TimecutOrder.f k a0 hold bits a3 a4 a5 y) true := by
  unfold ebbtidelaw18_TimecutOrder.f
  obtain ⟨⟨N, p, arcs, s, t, span⟩, hr, hsm⟩ := read_ev 10 (by omega) (by omega) a0 hold bits a3 a4 a5 hs
  obtain ⟨x, hx, hc, _⟩ := made_ev N p arcs s t span y hy.2 hsm.lo hsm.hi hsm.s0 hsm.s1 hsm.ends
  have hlen := hc.len
  refine Ev.bind awake18_ev (Ev.pos rfl (Ev.bind hr (Ev.bind hx ?_)))
  have e : wrap64 ((x.length : Int) - 1) = (x.length : Int) - 1 := wrap_id (by omega) (by omega)
  simp only [e]
  exact order_l0 N p arcs s t span x hc hsm.net hsm.ends hsm.s0 hsm.s1 x.length _ [] (by omega) (by omega) (by simp) (by simp) (fun j h1 h2 => by omega)
end Go.Proofs.Ytagppmdgmppmnaa.Q
