/- What the law's row needs of these texts, taken out of them by wip/tool/mini.py: P179 P180 QOpen QLevelLaw QLLevelFars. -/
import Derived.Test.YtkcpanpdipmmmaaMbmfbam
import Derived.Test.YtkcpanpdipmmmaaMmoekak
import Derived.Test.YtkcpanpdipmmmaaMdholad
import Derived.Test.YtkcpanpdipmmmaaVdhpaap
import Derived.Deep.Slices
import Derived.Deep.Fields
import Derived.ChangeSame
import Derived.ChangeArms
import Derived.OpenShut
import Derived.Test.YtkcpanpdipmmmaaMieajje
import Derived.Test.YtkcpanpdipmmmaaMiamdad
set_option linter.unusedVariables false
set_option linter.unusedSimpArgs false
namespace Go.Proofs.Ytkcpanpdipmmmaa.P
open Go.RowKit Go.Proofs.YtkcpanpdipmmmaaW.PrintWords Go.Proofs.YtkcpanpdipmmmaaW.PrintLast Go.Proofs.YtkcpanpdipmmmaaW.PrintMore
attribute [local go_sem] max2_int min2_int max_two min_two max_three min_three max_four min_four
def ebbtidelaw08_awake.f (k : Nat)  : Option (Bool) := (ebbtidelaw08_line.f).bind fun bt504 => ((level_Path.f bt504.1 bt504.2.1 bt504.2.2 (([0, 0] : List Int)) 0 2).bind fun bt512 => ((ebbtidelaw08_line.f).bind fun bt517 => ((level_Path.f bt517.1 bt517.2.1 bt517.2.2 (([5, 5] : List Int)) 0 2).bind fun bt525 => ((ebbtidelaw08_line.f).bind fun bt530 => ((level_Levels.f bt530.1 bt530.2.1 bt530.2.2 (([5, 5] : List Int)) 2).bind fun bt538 => (if bt512.2.2 = 0 then (if bt525.2.2 = 0 then (if bt538.2 = 0 then (if bt512.2.1 = true then (if bt525.2.1 = true then (some false) else ((ebbtideref08_Same.f k bt512.1 (([(⟨0, false⟩ : S38), (⟨1, false⟩ : S38)] : List (S38)))).bind fun t545 => (if t545 = true then ((ebbtideref03_SameInts.f k bt538.1 (([2, 1, 0] : List Int))).bind fun t549 => (some t549)) else (some false)))) else (some false)) else (some false)) else (some false)) else (some false)))))))
theorem ebbtidelaw08_awake.mono : ∀ k, LeO (ebbtidelaw08_awake.f k ) (ebbtidelaw08_awake.f (k + 1) ) := by
 intro  k
 unfold ebbtidelaw08_awake.f
 repeat' first
   | (with_reducible exact ebbtideref03_SameInts.mono _ _ _)
   | (with_reducible exact ebbtideref08_Same.mono _ _ _)
   | (with_reducible exact LeO.refl _)
   | (with_reducible exact LeO.none _)
   | (with_reducible refine LeO.ite ?_ ?_)
   | (with_reducible refine LeO.bind ?_ (fun _ => ?_))
   | exact ebbtideref03_SameInts.mono _ _ _
   | exact ebbtideref08_Same.mono _ _ _
   | exact LeO.none _
   | refine LeO.ite ?_ ?_
   | refine LeO.bind ?_ (fun _ => ?_)
set_option maxHeartbeats 8000000 in
set_option maxRecDepth 100000 in
theorem ebbtidelaw08_awake.calls (k : Nat)  (r : Bool) (w : World) (h : ebbtidelaw08_awake.f k  = some r) (hrT_ : r = true := by first | rfl | exact Aside0.out (by assumption)) :
  Calls Try.prog 55 #[] w fun e w' => e = .returned (.bool r) ∧ Below w.heap.size w w' := by
 have HRT := Aside0.mk hrT_
 clear hrT_
 have hu38 := Try.underlying38
 have HB := Aside0.mk (Below.refl w.heap.size w)
 have H : ((ebbtidelaw08_line.f).bind fun bt504 => ((level_Path.f bt504.1 bt504.2.1 bt504.2.2 (([0, 0] : List Int)) 0 2).bind fun bt512 => ((ebbtidelaw08_line.f).bind fun bt517 => ((level_Path.f bt517.1 bt517.2.1 bt517.2.2 (([5, 5] : List Int)) 0 2).bind fun bt525 => ((ebbtidelaw08_line.f).bind fun bt530 => ((level_Levels.f bt530.1 bt530.2.1 bt530.2.2 (([5, 5] : List Int)) 2).bind fun bt538 => (if bt512.2.2 = 0 then (if bt525.2.2 = 0 then (if bt538.2 = 0 then (if bt512.2.1 = true then (if bt525.2.1 = true then (some false) else ((ebbtideref08_Same.f k bt512.1 (([(⟨0, false⟩ : S38), (⟨1, false⟩ : S38)] : List (S38)))).bind fun t545 => (if t545 = true then ((ebbtideref03_SameInts.f k bt538.1 (([2, 1, 0] : List Int))).bind fun t549 => (some t549)) else (some false)))) else (some false)) else (some false)) else (some false)) else (some false)))))))) = some r := h
 clear h
 replace H := Option.bind_eq_some_iff.mp H
 obtain ⟨⟨t504, t505, t506⟩, A10, H⟩ := H
 replace H : ((level_Path.f t504 t505 t506 (([0, 0] : List Int)) 0 2).bind fun bt512 => ((ebbtidelaw08_line.f).bind fun bt517 => ((level_Path.f bt517.1 bt517.2.1 bt517.2.2 (([5, 5] : List Int)) 0 2).bind fun bt525 => ((ebbtidelaw08_line.f).bind fun bt530 => ((level_Levels.f bt530.1 bt530.2.1 bt530.2.2 (([5, 5] : List Int)) 2).bind fun bt538 => (if bt512.2.2 = 0 then (if bt525.2.2 = 0 then (if bt538.2 = 0 then (if bt512.2.1 = true then (if bt525.2.1 = true then (some false) else ((ebbtideref08_Same.f k bt512.1 (([(⟨0, false⟩ : S38), (⟨1, false⟩ : S38)] : List (S38)))).bind fun t545 => (if t545 = true then ((ebbtideref03_SameInts.f k bt538.1 (([2, 1, 0] : List Int))).bind fun t549 => (some t549)) else (some false)))) else (some false)) else (some false)) else (some false)) else (some false))))))) = some r := H
 have A1 := Aside0.mk A10
 clear A10
 obtain ⟨y509, hy509⟩ : ∃ y_ : List Int, y_ = (([0, 0] : List Int)) := ⟨_, rfl⟩
 replace H : ((level_Path.f t504 t505 t506 y509 0 2).bind fun bt512 => ((ebbtidelaw08_line.f).bind fun bt517 => ((level_Path.f bt517.1 bt517.2.1 bt517.2.2 (([5, 5] : List Int)) 0 2).bind fun bt525 => ((ebbtidelaw08_line.f).bind fun bt530 => ((level_Levels.f bt530.1 bt530.2.1 bt530.2.2 (([5, 5] : List Int)) 2).bind fun bt538 => (if bt512.2.2 = 0 then (if bt525.2.2 = 0 then (if bt538.2 = 0 then (if bt512.2.1 = true then (if bt525.2.1 = true then (some false) else ((ebbtideref08_Same.f k bt512.1 (([(⟨0, false⟩ : S38), (⟨1, false⟩ : S38)] : List (S38)))).bind fun t545 => (if t545 = true then ((ebbtideref03_SameInts.f k bt538.1 (([2, 1, 0] : List Int))).bind fun t549 => (some t549)) else (some false)))) else (some false)) else (some false)) else (some false)) else (some false))))))) = some r := by first | (rw [hy509]; with_reducible exact H) | (have H2_ := (Option.bind_some _ _).symm.trans H; rw [hy509]; with_reducible exact H2_) | (have H2_ := (Option.bind_some _ _).symm.trans H; with_reducible exact H2_) | with_reducible exact H | (rw [hy509]; exact H) | exact H
 have Ny509 := Aside0.mk hy509
 clear hy509
 replace H := Option.bind_eq_some_iff.mp H
 obtain ⟨⟨t512, t515, t516⟩, A20, H⟩ := H
 replace H : ((ebbtidelaw08_line.f).bind fun bt517 => ((level_Path.f bt517.1 bt517.2.1 bt517.2.2 (([5, 5] : List Int)) 0 2).bind fun bt525 => ((ebbtidelaw08_line.f).bind fun bt530 => ((level_Levels.f bt530.1 bt530.2.1 bt530.2.2 (([5, 5] : List Int)) 2).bind fun bt538 => (if t516 = 0 then (if bt525.2.2 = 0 then (if bt538.2 = 0 then (if t515 = true then (if bt525.2.1 = true then (some false) else ((ebbtideref08_Same.f k t512 (([(⟨0, false⟩ : S38), (⟨1, false⟩ : S38)] : List (S38)))).bind fun t545 => (if t545 = true then ((ebbtideref03_SameInts.f k bt538.1 (([2, 1, 0] : List Int))).bind fun t549 => (some t549)) else (some false)))) else (some false)) else (some false)) else (some false)) else (some false)))))) = some r := H
 have A2 := Aside0.mk A20
 clear A20
 replace H := Option.bind_eq_some_iff.mp H
 obtain ⟨⟨t517, t518, t519⟩, A30, H⟩ := H
 replace H : ((level_Path.f t517 t518 t519 (([5, 5] : List Int)) 0 2).bind fun bt525 => ((ebbtidelaw08_line.f).bind fun bt530 => ((level_Levels.f bt530.1 bt530.2.1 bt530.2.2 (([5, 5] : List Int)) 2).bind fun bt538 => (if t516 = 0 then (if bt525.2.2 = 0 then (if bt538.2 = 0 then (if t515 = true then (if bt525.2.1 = true then (some false) else ((ebbtideref08_Same.f k t512 (([(⟨0, false⟩ : S38), (⟨1, false⟩ : S38)] : List (S38)))).bind fun t545 => (if t545 = true then ((ebbtideref03_SameInts.f k bt538.1 (([2, 1, 0] : List Int))).bind fun t549 => (some t549)) else (some false)))) else (some false)) else (some false)) else (some false)) else (some false))))) = some r := H
 have A3 := Aside0.mk A30
 clear A30
 obtain ⟨y522, hy522⟩ : ∃ y_ : List Int, y_ = (([5, 5] : List Int)) := ⟨_, rfl⟩
 replace H : ((level_Path.f t517 t518 t519 y522 0 2).bind fun bt525 => ((ebbtidelaw08_line.f).bind fun bt530 => ((level_Levels.f bt530.1 bt530.2.1 bt530.2.2 (([5, 5] : List Int)) 2).bind fun bt538 => (if t516 = 0 then (if bt525.2.2 = 0 then (if bt538.2 = 0 then (if t515 = true then (if bt525.2.1 = true then (some false) else ((ebbtideref08_Same.f k t512 (([(⟨0, false⟩ : S38), (⟨1, false⟩ : S38)] : List (S38)))).bind fun t545 => (if t545 = true then ((ebbtideref03_SameInts.f k bt538.1 (([2, 1, 0] : List Int))).bind fun t549 => (some t549)) else (some false)))) else (some false)) else (some false)) else (some false)) else (some false))))) = some r := by first | (rw [hy522]; with_reducible exact H) | (have H2_ := (Option.bind_some _ _).symm.trans H; rw [hy522]; with_reducible exact H2_) | (have H2_ := (Option.bind_some _ _).symm.trans H; with_reducible exact H2_) | with_reducible exact H | (rw [hy522]; exact H) | exact H
 have Ny522 := Aside0.mk hy522
 clear hy522
 replace H := Option.bind_eq_some_iff.mp H
 obtain ⟨⟨t525, t528, t529⟩, A40, H⟩ := H
 replace H : ((ebbtidelaw08_line.f).bind fun bt530 => ((level_Levels.f bt530.1 bt530.2.1 bt530.2.2 (([5, 5] : List Int)) 2).bind fun bt538 => (if t516 = 0 then (if t529 = 0 then (if bt538.2 = 0 then (if t515 = true then (if t528 = true then (some false) else ((ebbtideref08_Same.f k t512 (([(⟨0, false⟩ : S38), (⟨1, false⟩ : S38)] : List (S38)))).bind fun t545 => (if t545 = true then ((ebbtideref03_SameInts.f k bt538.1 (([2, 1, 0] : List Int))).bind fun t549 => (some t549)) else (some false)))) else (some false)) else (some false)) else (some false)) else (some false)))) = some r := H
 have A4 := Aside0.mk A40
 clear A40
 replace H := Option.bind_eq_some_iff.mp H
 obtain ⟨⟨t530, t531, t532⟩, A50, H⟩ := H
 replace H : ((level_Levels.f t530 t531 t532 (([5, 5] : List Int)) 2).bind fun bt538 => (if t516 = 0 then (if t529 = 0 then (if bt538.2 = 0 then (if t515 = true then (if t528 = true then (some false) else ((ebbtideref08_Same.f k t512 (([(⟨0, false⟩ : S38), (⟨1, false⟩ : S38)] : List (S38)))).bind fun t545 => (if t545 = true then ((ebbtideref03_SameInts.f k bt538.1 (([2, 1, 0] : List Int))).bind fun t549 => (some t549)) else (some false)))) else (some false)) else (some false)) else (some false)) else (some false))) = some r := H
 have A5 := Aside0.mk A50
 clear A50
 obtain ⟨y535, hy535⟩ : ∃ y_ : List Int, y_ = (([5, 5] : List Int)) := ⟨_, rfl⟩
 replace H : ((level_Levels.f t530 t531 t532 y535 2).bind fun bt538 => (if t516 = 0 then (if t529 = 0 then (if bt538.2 = 0 then (if t515 = true then (if t528 = true then (some false) else ((ebbtideref08_Same.f k t512 (([(⟨0, false⟩ : S38), (⟨1, false⟩ : S38)] : List (S38)))).bind fun t545 => (if t545 = true then ((ebbtideref03_SameInts.f k bt538.1 (([2, 1, 0] : List Int))).bind fun t549 => (some t549)) else (some false)))) else (some false)) else (some false)) else (some false)) else (some false))) = some r := by first | (rw [hy535]; with_reducible exact H) | (have H2_ := (Option.bind_some _ _).symm.trans H; rw [hy535]; with_reducible exact H2_) | (have H2_ := (Option.bind_some _ _).symm.trans H; with_reducible exact H2_) | with_reducible exact H | (rw [hy535]; exact H) | exact H
 have Ny535 := Aside0.mk hy535
 clear hy535
 replace H := Option.bind_eq_some_iff.mp H
 obtain ⟨⟨t538, t541⟩, A60, H⟩ := H
 replace H : (if t516 = 0 then (if t529 = 0 then (if t541 = 0 then (if t515 = true then (if t528 = true then (some false) else ((ebbtideref08_Same.f k t512 (([(⟨0, false⟩ : S38), (⟨1, false⟩ : S38)] : List (S38)))).bind fun t545 => (if t545 = true then ((ebbtideref03_SameInts.f k t538 (([2, 1, 0] : List Int))).bind fun t549 => (some t549)) else (some false)))) else (some false)) else (some false)) else (some false)) else (some false)) = some r := H
 have A6 := Aside0.mk A60
 clear A60
 by_cases c7 : t516 = 0
 rotate_left
 ·rw [if_neg c7] at H
  exact absurd (Option.some.inj H) (by rw [HRT.out]; decide)
 rw [if_pos c7] at H
 have c7b0 : (t516 == 0) = true := beq_iff_eq.mpr c7
 have c7b1 : (t516 != 0) = false := bne_eq_false_iff_eq.mpr c7
 clear c7
 by_cases c8 : t529 = 0
 rotate_left
 ·rw [if_neg c8] at H
  exact absurd (Option.some.inj H) (by rw [HRT.out]; decide)
 rw [if_pos c8] at H
 have c8b0 : (t529 == 0) = true := beq_iff_eq.mpr c8
 have c8b1 : (t529 != 0) = false := bne_eq_false_iff_eq.mpr c8
 clear c8
 by_cases c9 : t541 = 0
 rotate_left
 ·rw [if_neg c9] at H
  exact absurd (Option.some.inj H) (by rw [HRT.out]; decide)
 rw [if_pos c9] at H
 have c9b0 : (t541 == 0) = true := beq_iff_eq.mpr c9
 have c9b1 : (t541 != 0) = false := bne_eq_false_iff_eq.mpr c9
 clear c9
 by_cases c10 : t515 = true
 rotate_left
 ·replace c10 := Bool.eq_false_iff.mpr c10
  subst c10
  have H1 : (some false) = some r := by rw [if_neg (show ¬ (false = true) by decide)] at H; exact H
  exact absurd (Option.some.inj H1) (by rw [HRT.out]; decide)
 subst c10
 have H1 : (if t528 = true then (some false) else ((ebbtideref08_Same.f k t512 (([(⟨0, false⟩ : S38), (⟨1, false⟩ : S38)] : List (S38)))).bind fun t545 => (if t545 = true then ((ebbtideref03_SameInts.f k t538 (([2, 1, 0] : List Int))).bind fun t549 => (some t549)) else (some false)))) = some r := by rw [if_pos rfl] at H; exact H
 clear H
 have H := H1
 clear H1
 by_cases c11 : t528 = true
 ·subst c11
  have H1 : (some false) = some r := by rw [if_pos rfl] at H; exact H
  exact absurd (Option.some.inj H1) (by rw [HRT.out]; decide)
 replace c11 := Bool.eq_false_iff.mpr c11
 subst c11
 have H1 : ((ebbtideref08_Same.f k t512 (([(⟨0, false⟩ : S38), (⟨1, false⟩ : S38)] : List (S38)))).bind fun t545 => (if t545 = true then ((ebbtideref03_SameInts.f k t538 (([2, 1, 0] : List Int))).bind fun t549 => (some t549)) else (some false))) = some r := by rw [if_neg (show ¬ (false = true) by decide)] at H; exact H
 clear H
 have H := H1
 clear H1
 obtain ⟨y542, hy542⟩ : ∃ y_ : List (S38), y_ = (([(⟨0, false⟩ : S38), (⟨1, false⟩ : S38)] : List (S38))) := ⟨_, rfl⟩
 replace H : ((ebbtideref08_Same.f k t512 y542).bind fun t545 => (if t545 = true then ((ebbtideref03_SameInts.f k t538 (([2, 1, 0] : List Int))).bind fun t549 => (some t549)) else (some false))) = some r := by first | (rw [hy542]; with_reducible exact H) | (have H2_ := (Option.bind_some _ _).symm.trans H; rw [hy542]; with_reducible exact H2_) | (have H2_ := (Option.bind_some _ _).symm.trans H; with_reducible exact H2_) | with_reducible exact H | (rw [hy542]; exact H) | exact H
 have Ny542 := Aside0.mk hy542
 clear hy542
 replace H := Option.bind_eq_some_iff.mp H
 obtain ⟨t545, A300, H⟩ := H
 replace H : (if t545 = true then ((ebbtideref03_SameInts.f k t538 (([2, 1, 0] : List Int))).bind fun t549 => (some t549)) else (some false)) = some r := H
 have A30 := Aside0.mk A300
 clear A300
 by_cases c31 : t545 = true
 rotate_left
 ·replace c31 := Bool.eq_false_iff.mpr c31
  subst c31
  have H1 : (some false) = some r := by rw [if_neg (show ¬ (false = true) by decide)] at H; exact H
  exact absurd (Option.some.inj H1) (by rw [HRT.out]; decide)
 subst c31
 have H1 : ((ebbtideref03_SameInts.f k t538 (([2, 1, 0] : List Int))).bind fun t549 => (some t549)) = some r := by rw [if_pos rfl] at H; exact H
 clear H
 have H := H1
 clear H1
 obtain ⟨y546, hy546⟩ : ∃ y_ : List Int, y_ = (([2, 1, 0] : List Int)) := ⟨_, rfl⟩
 replace H : ((ebbtideref03_SameInts.f k t538 y546).bind fun t549 => (some t549)) = some r := by first | (rw [hy546]; with_reducible exact H) | (have H2_ := (Option.bind_some _ _).symm.trans H; rw [hy546]; with_reducible exact H2_) | (have H2_ := (Option.bind_some _ _).symm.trans H; with_reducible exact H2_) | with_reducible exact H | (rw [hy546]; exact H) | exact H
 have Ny546 := Aside0.mk hy546
 clear hy546
 replace H := Option.bind_eq_some_iff.mp H
 obtain ⟨t549, A320, H⟩ := H
 replace H : (some t549) = some r := H
 have A32 := Aside0.mk A320
 clear A320
 obtain rfl := Option.some.inj H
 go_enter Try.func55, Try.ntmps55
 go_wp2_with (first | ((with_reducible refine gate_callee (f := 110) rfl ?_); refine goesL_ (some 10) rfl rfl Try.func110 (by kernel_rfl) rfl #[] rfl (by (try simp only [List.map_toArray, List.map_cons, List.map_nil]); first | done | rfl | (simp only [List.length_drop, List.length_take]; rfl)) ?_; (with_reducible refine (ebbtidelaw08_line.calls  t504 t505 t506 _ A1.out).mono ?_); rintro e w33 ⟨v507, rfl, ho0, hb⟩; refine ⟨_, rfl, ?_⟩; have n0_ := Aside0.mk (Kd.R_lower ho0 (below_size (by repeat (first | (with_reducible first | exact HB.out | apply below_alloc | apply pw_below_drewN | apply below_drew1) | exact HB.out)))); have n1_ := Aside0.mk (below_step (by repeat (first | (with_reducible first | exact HB.out | apply below_alloc | apply pw_below_drewN | apply below_drew1) | exact HB.out)) hb); clear HB; have HO508 := n0_; have HB := n1_; clear n0_ n1_; (try clear hb); (try clear hb2); (try clear hk); (try clear hi); (try clear ho0)) | ((with_reducible refine gate_dst (N := 11) rfl ?_); (try (refine gate_guard (by rfl) ?_; dsimp only)); refine Kd.R_lit (Kd.int .i64) _ 3 ?hg (N := 11) ?hd (xs := ([0, 0] : List Int)) (inner := [.int .i64 0, .int .i64 0]) (ok := fun _ => True) (okp := fun _ => True) ?hr ?hp (fun _ hk => hk) trivial (Below.refl _ _) (Nat.le_refl _) (by simp) ?_; (case hd => rfl); (case hg => rfl); (case hr => first | (go_simp; done) | (go_simp; rfl)); (case hp => exact (Reps.one (show Kd.M (Kd.int .i64) _ _ _ 0 [.int .i64 0] from rfl) (Reps.one (show Kd.M (Kd.int .i64) _ _ _ 0 [.int .i64 0] from rfl) (Reps.none _ _)))); intro v510 w34 ho35 hb hg_ hnew_; clear hg_ hnew_; (first | rw [← Ny509.out] at ho35 | (simp only [Int.reduceToNat] at ho35; rw [← Ny509.out] at ho35)); have n0_ := Aside0.mk (Kd.R_below (by (with_reducible repeat (first | apply Kd.R_alloc | apply Kd.R_drewN | apply Kd.R_drew)); exact HO508.out) hb); have n1_ := Aside0.mk (Kd.R_lower ho35 (below_size (by repeat (first | (with_reducible first | exact HB.out | apply below_alloc | apply pw_below_drewN | apply below_drew1) | exact HB.out)))); have n2_ := Aside0.mk (below_step (by repeat (first | (with_reducible first | exact HB.out | apply below_alloc | apply pw_below_drewN | apply below_drew1) | exact HB.out)) hb); clear HO508; clear HB; have HO508 := n0_; have HO511 := n1_; have HB := n2_; clear n0_ n1_ n2_; clear hb ho35; obtain ⟨Ao36, co36, eo36⟩ := Kd.R_slice HO508.out; subst eo36; obtain ⟨Ao37, co37, eo37⟩ := Kd.R_slice HO511.out; subst eo37) | ((with_reducible refine gate_callee (f := 56) rfl ?_); refine goesL_ (some 12) rfl rfl Try.func56 (by kernel_rfl) rfl #[.agg #[.int .i64 t504, .bool t505, .slice Ao36 t506.length co36], .slice Ao37 y509.length co37, .int .i64 0, .int .i64 2] rfl (by (try simp only [List.map_toArray, List.map_cons, List.map_nil]); first | done | rfl | (simp only [List.length_drop, List.length_take]; rfl)) ?_; (with_reducible refine (level_Path.calls t504 t505 _ _ t506 _ _ y509 0 2 t512 true t516 _ ?side1 ?side2 ?side3 ?side4 A2.out).mono ?_); (case side1 => repeat (first | exact (Kd.R_reads' HO508.out).2.2 | (with_reducible refine Kd.C_alloc ?_ _) | (with_reducible refine Kd.C_drewN ?_ _) | (with_reducible refine Kd.C_drew ?_))); (case side2 => exact (Kd.R_reads' HO508.out).2.1); (case side3 => repeat (first | exact (Kd.R_reads' HO511.out).2.2 | (with_reducible refine Kd.C_alloc ?_ _) | (with_reducible refine Kd.C_drewN ?_ _) | (with_reducible refine Kd.C_drew ?_))); (case side4 => exact (Kd.R_reads' HO511.out).2.1); rintro e w38 ⟨v513, rfl, ho0, hb⟩; refine ⟨_, rfl, ?_⟩; have n0_ := Aside0.mk (Kd.R_below (by (with_reducible repeat (first | apply Kd.R_alloc | apply Kd.R_drewN | apply Kd.R_drew)); exact HO508.out) hb); have n1_ := Aside0.mk (Kd.R_below (by (with_reducible repeat (first | apply Kd.R_alloc | apply Kd.R_drewN | apply Kd.R_drew)); exact HO511.out) hb); have n2_ := Aside0.mk (Kd.R_lower ho0 (below_size (by repeat (first | (with_reducible first | exact HB.out | apply below_alloc | apply pw_below_drewN | apply below_drew1) | exact HB.out)))); have n3_ := Aside0.mk (below_step (by repeat (first | (with_reducible first | exact HB.out | apply below_alloc | apply pw_below_drewN | apply below_drew1) | exact HB.out)) hb); clear HO508; clear HO511; clear HB; have HO508 := n0_; have HO511 := n1_; have HO514 := n2_; have HB := n3_; clear n0_ n1_ n2_ n3_; (try clear hb); (try clear hb2); (try clear hk); (try clear hi); (try clear ho0)) | ((with_reducible refine gate_callee (f := 110) rfl ?_); refine goesL_ (some 17) rfl rfl Try.func110 (by kernel_rfl) rfl #[] rfl (by (try simp only [List.map_toArray, List.map_cons, List.map_nil]); first | done | rfl | (simp only [List.length_drop, List.length_take]; rfl)) ?_; (with_reducible refine (ebbtidelaw08_line.calls  t517 t518 t519 _ A3.out).mono ?_); rintro e w39 ⟨v520, rfl, ho0, hb⟩; refine ⟨_, rfl, ?_⟩; have n0_ := Aside0.mk (Kd.R_elder' (by (with_reducible repeat (first | apply Kd.R_alloc | apply Kd.R_drewN | apply Kd.R_drew)); exact HO508.out) (Kd.R_base ho0) hb); have n1_ := Aside0.mk (Kd.R_below (by (with_reducible repeat (first | apply Kd.R_alloc | apply Kd.R_drewN | apply Kd.R_drew)); exact HO511.out) hb); have n2_ := Aside0.mk (Kd.R_below (by (with_reducible repeat (first | apply Kd.R_alloc | apply Kd.R_drewN | apply Kd.R_drew)); exact HO514.out) hb); have n3_ := Aside0.mk (Kd.R_lower (Kd.R_new' ho0 (Kd.R_lt (by (with_reducible repeat (first | apply Kd.R_alloc | apply Kd.R_drewN | apply Kd.R_drew)); exact HO508.out))) (below_size (by repeat (first | (with_reducible first | exact HB.out | apply below_alloc | apply pw_below_drewN | apply below_drew1) | exact HB.out)))); have n4_ := Aside0.mk (below_step (by repeat (first | (with_reducible first | exact HB.out | apply below_alloc | apply pw_below_drewN | apply below_drew1) | exact HB.out)) hb); clear HO508; clear HO511; clear HO514; clear HB; have HO508 := n0_; have HO511 := n1_; have HO514 := n2_; have HO521 := n3_; have HB := n4_; clear n0_ n1_ n2_ n3_ n4_; (try clear hb); (try clear hb2); (try clear hk); (try clear hi); (try clear ho0)) | ((with_reducible refine gate_dst (N := 18) rfl ?_); (try (refine gate_guard (by rfl) ?_; dsimp only)); refine Kd.R_lit (Kd.int .i64) _ 3 ?hg (N := 18) ?hd (xs := ([5, 5] : List Int)) (inner := [.int .i64 5, .int .i64 5]) (ok := fun _ => True) (okp := fun _ => True) ?hr ?hp (fun _ hk => hk) trivial (Below.refl _ _) (Nat.le_refl _) (by simp) ?_; (case hd => rfl); (case hg => rfl); (case hr => first | (go_simp; done) | (go_simp; rfl)); (case hp => exact (Reps.one (show Kd.M (Kd.int .i64) _ _ _ 5 [.int .i64 5] from rfl) (Reps.one (show Kd.M (Kd.int .i64) _ _ _ 5 [.int .i64 5] from rfl) (Reps.none _ _)))); intro v523 w40 ho41 hb hg_ hnew_; clear hg_ hnew_; (first | rw [← Ny522.out] at ho41 | (simp only [Int.reduceToNat] at ho41; rw [← Ny522.out] at ho41)); have n0_ := Aside0.mk (Kd.R_below (by (with_reducible repeat (first | apply Kd.R_alloc | apply Kd.R_drewN | apply Kd.R_drew)); exact HO508.out) hb); have n1_ := Aside0.mk (Kd.R_elder' (by (with_reducible repeat (first | apply Kd.R_alloc | apply Kd.R_drewN | apply Kd.R_drew)); exact HO511.out) (Kd.R_base ho41) hb); have n2_ := Aside0.mk (Kd.R_below (by (with_reducible repeat (first | apply Kd.R_alloc | apply Kd.R_drewN | apply Kd.R_drew)); exact HO514.out) hb); have n3_ := Aside0.mk (Kd.R_below (by (with_reducible repeat (first | apply Kd.R_alloc | apply Kd.R_drewN | apply Kd.R_drew)); exact HO521.out) hb); have n4_ := Aside0.mk (Kd.R_lower (Kd.R_new' ho41 (Kd.R_lt (by (with_reducible repeat (first | apply Kd.R_alloc | apply Kd.R_drewN | apply Kd.R_drew)); exact HO511.out))) (below_size (by repeat (first | (with_reducible first | exact HB.out | apply below_alloc | apply pw_below_drewN | apply below_drew1) | exact HB.out)))); have n5_ := Aside0.mk (below_step (by repeat (first | (with_reducible first | exact HB.out | apply below_alloc | apply pw_below_drewN | apply below_drew1) | exact HB.out)) hb); clear HO508; clear HO511; clear HO514; clear HO521; clear HB; have HO508 := n0_; have HO511 := n1_; have HO514 := n2_; have HO521 := n3_; have HO524 := n4_; have HB := n5_; clear n0_ n1_ n2_ n3_ n4_ n5_; clear hb ho41; obtain ⟨Ao42, co42, eo42⟩ := Kd.R_slice HO521.out; subst eo42; obtain ⟨Ao43, co43, eo43⟩ := Kd.R_slice HO524.out; subst eo43) | ((with_reducible refine gate_callee (f := 56) rfl ?_); refine goesL_ (some 19) rfl rfl Try.func56 (by kernel_rfl) rfl #[.agg #[.int .i64 t517, .bool t518, .slice Ao42 t519.length co42], .slice Ao43 y522.length co43, .int .i64 0, .int .i64 2] rfl (by (try simp only [List.map_toArray, List.map_cons, List.map_nil]); first | done | rfl | (simp only [List.length_drop, List.length_take]; rfl)) ?_; (with_reducible refine (level_Path.calls t517 t518 _ _ t519 _ _ y522 0 2 t525 false t529 _ ?side1 ?side2 ?side3 ?side4 A4.out).mono ?_); (case side1 => repeat (first | exact (Kd.R_reads' HO521.out).2.2 | (with_reducible refine Kd.C_alloc ?_ _) | (with_reducible refine Kd.C_drewN ?_ _) | (with_reducible refine Kd.C_drew ?_))); (case side2 => exact (Kd.R_reads' HO521.out).2.1); (case side3 => repeat (first | exact (Kd.R_reads' HO524.out).2.2 | (with_reducible refine Kd.C_alloc ?_ _) | (with_reducible refine Kd.C_drewN ?_ _) | (with_reducible refine Kd.C_drew ?_))); (case side4 => exact (Kd.R_reads' HO524.out).2.1); rintro e w44 ⟨v526, rfl, ho0, hb⟩; refine ⟨_, rfl, ?_⟩; have n0_ := Aside0.mk (Kd.R_below (by (with_reducible repeat (first | apply Kd.R_alloc | apply Kd.R_drewN | apply Kd.R_drew)); exact HO508.out) hb); have n1_ := Aside0.mk (Kd.R_below (by (with_reducible repeat (first | apply Kd.R_alloc | apply Kd.R_drewN | apply Kd.R_drew)); exact HO511.out) hb); have n2_ := Aside0.mk (Kd.R_elder' (by (with_reducible repeat (first | apply Kd.R_alloc | apply Kd.R_drewN | apply Kd.R_drew)); exact HO514.out) (Kd.R_base ho0) hb); have n3_ := Aside0.mk (Kd.R_below (by (with_reducible repeat (first | apply Kd.R_alloc | apply Kd.R_drewN | apply Kd.R_drew)); exact HO521.out) hb); have n4_ := Aside0.mk (Kd.R_below (by (with_reducible repeat (first | apply Kd.R_alloc | apply Kd.R_drewN | apply Kd.R_drew)); exact HO524.out) hb); have n5_ := Aside0.mk (Kd.R_lower (Kd.R_new' ho0 (Kd.R_lt (by (with_reducible repeat (first | apply Kd.R_alloc | apply Kd.R_drewN | apply Kd.R_drew)); exact HO514.out))) (below_size (by repeat (first | (with_reducible first | exact HB.out | apply below_alloc | apply pw_below_drewN | apply below_drew1) | exact HB.out)))); have n6_ := Aside0.mk (below_step (by repeat (first | (with_reducible first | exact HB.out | apply below_alloc | apply pw_below_drewN | apply below_drew1) | exact HB.out)) hb); clear HO508; clear HO511; clear HO514; clear HO521; clear HO524; clear HB; have HO508 := n0_; have HO511 := n1_; have HO514 := n2_; have HO521 := n3_; have HO524 := n4_; have HO527 := n5_; have HB := n6_; clear n0_ n1_ n2_ n3_ n4_ n5_ n6_; (try clear hb); (try clear hb2); (try clear hk); (try clear hi); (try clear ho0)) | ((with_reducible refine gate_callee (f := 110) rfl ?_); refine goesL_ (some 24) rfl rfl Try.func110 (by kernel_rfl) rfl #[] rfl (by (try simp only [List.map_toArray, List.map_cons, List.map_nil]); first | done | rfl | (simp only [List.length_drop, List.length_take]; rfl)) ?_; (with_reducible refine (ebbtidelaw08_line.calls  t530 t531 t532 _ A5.out).mono ?_); rintro e w45 ⟨v533, rfl, ho0, hb⟩; refine ⟨_, rfl, ?_⟩; have n0_ := Aside0.mk (Kd.R_elder' (by (with_reducible repeat (first | apply Kd.R_alloc | apply Kd.R_drewN | apply Kd.R_drew)); exact HO508.out) (Kd.R_base ho0) hb); have n1_ := Aside0.mk (Kd.R_below (by (with_reducible repeat (first | apply Kd.R_alloc | apply Kd.R_drewN | apply Kd.R_drew)); exact HO511.out) hb); have n2_ := Aside0.mk (Kd.R_below (by (with_reducible repeat (first | apply Kd.R_alloc | apply Kd.R_drewN | apply Kd.R_drew)); exact HO514.out) hb); have n3_ := Aside0.mk (Kd.R_elder' (by (with_reducible repeat (first | apply Kd.R_alloc | apply Kd.R_drewN | apply Kd.R_drew)); exact HO521.out) (Kd.R_base ho0) hb); have n4_ := Aside0.mk (Kd.R_below (by (with_reducible repeat (first | apply Kd.R_alloc | apply Kd.R_drewN | apply Kd.R_drew)); exact HO524.out) hb); have n5_ := Aside0.mk (Kd.R_below (by (with_reducible repeat (first | apply Kd.R_alloc | apply Kd.R_drewN | apply Kd.R_drew)); exact HO527.out) hb); have n6_ := Aside0.mk (Kd.R_lower (Kd.R_new' (Kd.R_new' ho0 (Kd.R_lt (by (with_reducible repeat (first | apply Kd.R_alloc | apply Kd.R_drewN | apply Kd.R_drew)); exact HO508.out))) (Kd.R_lt (by (with_reducible repeat (first | apply Kd.R_alloc | apply Kd.R_drewN | apply Kd.R_drew)); exact HO521.out))) (below_size (by repeat (first | (with_reducible first | exact HB.out | apply below_alloc | apply pw_below_drewN | apply below_drew1) | exact HB.out)))); have n7_ := Aside0.mk (below_step (by repeat (first | (with_reducible first | exact HB.out | apply below_alloc | apply pw_below_drewN | apply below_drew1) | exact HB.out)) hb); clear HO508; clear HO511; clear HO514; clear HO521; clear HO524; clear HO527; clear HB; have HO508 := n0_; have HO511 := n1_; have HO514 := n2_; have HO521 := n3_; have HO524 := n4_; have HO527 := n5_; have HO534 := n6_; have HB := n7_; clear n0_ n1_ n2_ n3_ n4_ n5_ n6_ n7_; (try clear hb); (try clear hb2); (try clear hk); (try clear hi); (try clear ho0)) | ((with_reducible refine gate_dst (N := 25) rfl ?_); (try (refine gate_guard (by rfl) ?_; dsimp only)); refine Kd.R_lit (Kd.int .i64) _ 3 ?hg (N := 25) ?hd (xs := ([5, 5] : List Int)) (inner := [.int .i64 5, .int .i64 5]) (ok := fun _ => True) (okp := fun _ => True) ?hr ?hp (fun _ hk => hk) trivial (Below.refl _ _) (Nat.le_refl _) (by simp) ?_; (case hd => rfl); (case hg => rfl); (case hr => first | (go_simp; done) | (go_simp; rfl)); (case hp => exact (Reps.one (show Kd.M (Kd.int .i64) _ _ _ 5 [.int .i64 5] from rfl) (Reps.one (show Kd.M (Kd.int .i64) _ _ _ 5 [.int .i64 5] from rfl) (Reps.none _ _)))); intro v536 w46 ho47 hb hg_ hnew_; clear hg_ hnew_; (first | rw [← Ny535.out] at ho47 | (simp only [Int.reduceToNat] at ho47; rw [← Ny535.out] at ho47)); have n0_ := Aside0.mk (Kd.R_below (by (with_reducible repeat (first | apply Kd.R_alloc | apply Kd.R_drewN | apply Kd.R_drew)); exact HO508.out) hb); have n1_ := Aside0.mk (Kd.R_elder' (by (with_reducible repeat (first | apply Kd.R_alloc | apply Kd.R_drewN | apply Kd.R_drew)); exact HO511.out) (Kd.R_base ho47) hb); have n2_ := Aside0.mk (Kd.R_below (by (with_reducible repeat (first | apply Kd.R_alloc | apply Kd.R_drewN | apply Kd.R_drew)); exact HO514.out) hb); have n3_ := Aside0.mk (Kd.R_below (by (with_reducible repeat (first | apply Kd.R_alloc | apply Kd.R_drewN | apply Kd.R_drew)); exact HO521.out) hb); have n4_ := Aside0.mk (Kd.R_elder' (by (with_reducible repeat (first | apply Kd.R_alloc | apply Kd.R_drewN | apply Kd.R_drew)); exact HO524.out) (Kd.R_base ho47) hb); have n5_ := Aside0.mk (Kd.R_below (by (with_reducible repeat (first | apply Kd.R_alloc | apply Kd.R_drewN | apply Kd.R_drew)); exact HO527.out) hb); have n6_ := Aside0.mk (Kd.R_below (by (with_reducible repeat (first | apply Kd.R_alloc | apply Kd.R_drewN | apply Kd.R_drew)); exact HO534.out) hb); have n7_ := Aside0.mk (Kd.R_lower (Kd.R_new' (Kd.R_new' ho47 (Kd.R_lt (by (with_reducible repeat (first | apply Kd.R_alloc | apply Kd.R_drewN | apply Kd.R_drew)); exact HO511.out))) (Kd.R_lt (by (with_reducible repeat (first | apply Kd.R_alloc | apply Kd.R_drewN | apply Kd.R_drew)); exact HO524.out))) (below_size (by repeat (first | (with_reducible first | exact HB.out | apply below_alloc | apply pw_below_drewN | apply below_drew1) | exact HB.out)))); have n8_ := Aside0.mk (below_step (by repeat (first | (with_reducible first | exact HB.out | apply below_alloc | apply pw_below_drewN | apply below_drew1) | exact HB.out)) hb); clear HO508; clear HO511; clear HO514; clear HO521; clear HO524; clear HO527; clear HO534; clear HB; have HO508 := n0_; have HO511 := n1_; have HO514 := n2_; have HO521 := n3_; have HO524 := n4_; have HO527 := n5_; have HO534 := n6_; have HO537 := n7_; have HB := n8_; clear n0_ n1_ n2_ n3_ n4_ n5_ n6_ n7_ n8_; clear hb ho47; obtain ⟨Ao48, co48, eo48⟩ := Kd.R_slice HO534.out; subst eo48; obtain ⟨Ao49, co49, eo49⟩ := Kd.R_slice HO537.out; subst eo49) | ((with_reducible refine gate_callee (f := 53) rfl ?_); refine goesL_ (some 26) rfl rfl Try.func53 (by kernel_rfl) rfl #[.agg #[.int .i64 t530, .bool t531, .slice Ao48 t532.length co48], .slice Ao49 y535.length co49, .int .i64 2] rfl (by (try simp only [List.map_toArray, List.map_cons, List.map_nil]); first | done | rfl | (simp only [List.length_drop, List.length_take]; rfl)) ?_; (with_reducible refine (level_Levels.calls t530 t531 _ _ t532 _ _ y535 2 t538 t541 _ ?side1 ?side2 ?side3 ?side4 A6.out).mono ?_); (case side1 => repeat (first | exact (Kd.R_reads' HO534.out).2.2 | (with_reducible refine Kd.C_alloc ?_ _) | (with_reducible refine Kd.C_drewN ?_ _) | (with_reducible refine Kd.C_drew ?_))); (case side2 => exact (Kd.R_reads' HO534.out).2.1); (case side3 => repeat (first | exact (Kd.R_reads' HO537.out).2.2 | (with_reducible refine Kd.C_alloc ?_ _) | (with_reducible refine Kd.C_drewN ?_ _) | (with_reducible refine Kd.C_drew ?_))); (case side4 => exact (Kd.R_reads' HO537.out).2.1); rintro e w50 ⟨v539, rfl, ho0, hb⟩; refine ⟨_, rfl, ?_⟩; have n0_ := Aside0.mk (Kd.R_below (by (with_reducible repeat (first | apply Kd.R_alloc | apply Kd.R_drewN | apply Kd.R_drew)); exact HO508.out) hb); have n1_ := Aside0.mk (Kd.R_elder' (by (with_reducible repeat (first | apply Kd.R_alloc | apply Kd.R_drewN | apply Kd.R_drew)); exact HO511.out) (Kd.R_base ho0) hb); have n2_ := Aside0.mk (Kd.R_below (by (with_reducible repeat (first | apply Kd.R_alloc | apply Kd.R_drewN | apply Kd.R_drew)); exact HO514.out) hb); have n3_ := Aside0.mk (Kd.R_below (by (with_reducible repeat (first | apply Kd.R_alloc | apply Kd.R_drewN | apply Kd.R_drew)); exact HO521.out) hb); have n4_ := Aside0.mk (Kd.R_elder' (by (with_reducible repeat (first | apply Kd.R_alloc | apply Kd.R_drewN | apply Kd.R_drew)); exact HO524.out) (Kd.R_base ho0) hb); have n5_ := Aside0.mk (Kd.R_below (by (with_reducible repeat (first | apply Kd.R_alloc | apply Kd.R_drewN | apply Kd.R_drew)); exact HO527.out) hb); have n6_ := Aside0.mk (Kd.R_below (by (with_reducible repeat (first | apply Kd.R_alloc | apply Kd.R_drewN | apply Kd.R_drew)); exact HO534.out) hb); have n7_ := Aside0.mk (Kd.R_elder' (by (with_reducible repeat (first | apply Kd.R_alloc | apply Kd.R_drewN | apply Kd.R_drew)); exact HO537.out) (Kd.R_base ho0) hb); have n8_ := Aside0.mk (Kd.R_lower (Kd.R_new' (Kd.R_new' (Kd.R_new' ho0 (Kd.R_lt (by (with_reducible repeat (first | apply Kd.R_alloc | apply Kd.R_drewN | apply Kd.R_drew)); exact HO511.out))) (Kd.R_lt (by (with_reducible repeat (first | apply Kd.R_alloc | apply Kd.R_drewN | apply Kd.R_drew)); exact HO524.out))) (Kd.R_lt (by (with_reducible repeat (first | apply Kd.R_alloc | apply Kd.R_drewN | apply Kd.R_drew)); exact HO537.out))) (below_size (by repeat (first | (with_reducible first | exact HB.out | apply below_alloc | apply pw_below_drewN | apply below_drew1) | exact HB.out)))); have n9_ := Aside0.mk (below_step (by repeat (first | (with_reducible first | exact HB.out | apply below_alloc | apply pw_below_drewN | apply below_drew1) | exact HB.out)) hb); clear HO508; clear HO511; clear HO514; clear HO521; clear HO524; clear HO527; clear HO534; clear HO537; clear HB; have HO508 := n0_; have HO511 := n1_; have HO514 := n2_; have HO521 := n3_; have HO524 := n4_; have HO527 := n5_; have HO534 := n6_; have HO537 := n7_; have HO540 := n8_; have HB := n9_; clear n0_ n1_ n2_ n3_ n4_ n5_ n6_ n7_ n8_ n9_; (try clear hb); (try clear hb2); (try clear hk); (try clear hi); (try clear ho0)) | ((with_reducible refine gate_dst (N := 50) rfl ?_); (try (refine gate_guard (by rfl) ?_; dsimp only)); refine Kd.R_lit k38 _ 38 ?hg (N := 50) ?hd (xs := ([(⟨0, false⟩ : S38), (⟨1, false⟩ : S38)] : List (S38))) (inner := [.int .i64 0, .bool false, .int .i64 1, .bool false]) (ok := fun _ => True) (okp := fun _ => True) ?hr ?hp (fun _ hk => hk) trivial (Below.refl _ _) (Nat.le_refl _) (by simp) ?_; (case hd => rfl); (case hg => rfl); (case hr => first | (go_simp; done) | (go_simp; rfl)); (case hp => exact (Reps.c2 (show Kd.M k38 _ _ _ (⟨0, false⟩ : S38) [.int .i64 0, .bool false] from (k38_mkM _ _ _ (⟨0, false⟩ : S38) )) (Reps.c2 (show Kd.M k38 _ _ _ (⟨1, false⟩ : S38) [.int .i64 1, .bool false] from (k38_mkM _ _ _ (⟨1, false⟩ : S38) )) (Reps.none _ _)))); intro v543 w51 ho52 hb hg_ hnew_; clear hg_ hnew_; (first | rw [← Ny542.out] at ho52 | (simp only [Int.reduceToNat] at ho52; rw [← Ny542.out] at ho52)); have n0_ := Aside0.mk (Kd.R_below (by (with_reducible repeat (first | apply Kd.R_alloc | apply Kd.R_drewN | apply Kd.R_drew)); exact HO508.out) hb); have n1_ := Aside0.mk (Kd.R_below (by (with_reducible repeat (first | apply Kd.R_alloc | apply Kd.R_drewN | apply Kd.R_drew)); exact HO511.out) hb); have n2_ := Aside0.mk (Kd.R_elder' (by (with_reducible repeat (first | apply Kd.R_alloc | apply Kd.R_drewN | apply Kd.R_drew)); exact HO514.out) (Kd.R_base ho52) hb); have n3_ := Aside0.mk (Kd.R_below (by (with_reducible repeat (first | apply Kd.R_alloc | apply Kd.R_drewN | apply Kd.R_drew)); exact HO521.out) hb); have n4_ := Aside0.mk (Kd.R_below (by (with_reducible repeat (first | apply Kd.R_alloc | apply Kd.R_drewN | apply Kd.R_drew)); exact HO524.out) hb); have n5_ := Aside0.mk (Kd.R_elder' (by (with_reducible repeat (first | apply Kd.R_alloc | apply Kd.R_drewN | apply Kd.R_drew)); exact HO527.out) (Kd.R_base ho52) hb); have n6_ := Aside0.mk (Kd.R_below (by (with_reducible repeat (first | apply Kd.R_alloc | apply Kd.R_drewN | apply Kd.R_drew)); exact HO534.out) hb); have n7_ := Aside0.mk (Kd.R_below (by (with_reducible repeat (first | apply Kd.R_alloc | apply Kd.R_drewN | apply Kd.R_drew)); exact HO537.out) hb); have n8_ := Aside0.mk (Kd.R_below (by (with_reducible repeat (first | apply Kd.R_alloc | apply Kd.R_drewN | apply Kd.R_drew)); exact HO540.out) hb); have n9_ := Aside0.mk (Kd.R_lower (Kd.R_new' (Kd.R_new' ho52 (Kd.R_lt (by (with_reducible repeat (first | apply Kd.R_alloc | apply Kd.R_drewN | apply Kd.R_drew)); exact HO514.out))) (Kd.R_lt (by (with_reducible repeat (first | apply Kd.R_alloc | apply Kd.R_drewN | apply Kd.R_drew)); exact HO527.out))) (below_size (by repeat (first | (with_reducible first | exact HB.out | apply below_alloc | apply pw_below_drewN | apply below_drew1) | exact HB.out)))); have n10_ := Aside0.mk (below_step (by repeat (first | (with_reducible first | exact HB.out | apply below_alloc | apply pw_below_drewN | apply below_drew1) | exact HB.out)) hb); clear HO508; clear HO511; clear HO514; clear HO521; clear HO524; clear HO527; clear HO534; clear HO537; clear HO540; clear HB; have HO508 := n0_; have HO511 := n1_; have HO514 := n2_; have HO521 := n3_; have HO524 := n4_; have HO527 := n5_; have HO534 := n6_; have HO537 := n7_; have HO540 := n8_; have HO544 := n9_; have HB := n10_; clear n0_ n1_ n2_ n3_ n4_ n5_ n6_ n7_ n8_ n9_ n10_; clear hb ho52; obtain ⟨Ao53, co53, eo53⟩ := Kd.R_slice HO514.out; subst eo53; obtain ⟨Ao54, co54, eo54⟩ := Kd.R_slice HO544.out; subst eo54) | (go_at_call 58; (with_reducible refine (ebbtideref08_Same.calls k _ _ t512 _ _ y542 true _ ?side1 ?side2 ?side3 ?side4 A30.out).mono ?_); (case side1 => repeat (first | exact (Kd.R_reads' HO514.out).2.2 | (with_reducible refine Kd.C_alloc ?_ _) | (with_reducible refine Kd.C_drewN ?_ _) | (with_reducible refine Kd.C_drew ?_))); (case side2 => exact (Kd.R_reads' HO514.out).2.1); (case side3 => repeat (first | exact (Kd.R_reads' HO544.out).2.2 | (with_reducible refine Kd.C_alloc ?_ _) | (with_reducible refine Kd.C_drewN ?_ _) | (with_reducible refine Kd.C_drew ?_))); (case side4 => exact (Kd.R_reads' HO544.out).2.1); rintro e w' ⟨rfl, ⟨nd, rfl⟩⟩) | ((with_reducible refine gate_dst (N := 55) rfl ?_); (try (refine gate_guard (by rfl) ?_; dsimp only)); refine Kd.R_lit (Kd.int .i64) _ 3 ?hg (N := 55) ?hd (xs := ([2, 1, 0] : List Int)) (inner := [.int .i64 2, .int .i64 1, .int .i64 0]) (ok := fun _ => True) (okp := fun _ => True) ?hr ?hp (fun _ hk => hk) trivial (Below.refl _ _) (Nat.le_refl _) (by simp) ?_; (case hd => rfl); (case hg => rfl); (case hr => first | (go_simp; done) | (go_simp; rfl)); (case hp => exact (Reps.one (show Kd.M (Kd.int .i64) _ _ _ 2 [.int .i64 2] from rfl) (Reps.one (show Kd.M (Kd.int .i64) _ _ _ 1 [.int .i64 1] from rfl) (Reps.one (show Kd.M (Kd.int .i64) _ _ _ 0 [.int .i64 0] from rfl) (Reps.none _ _))))); intro v547 w55 ho56 hb hg_ hnew_; clear hg_ hnew_; (first | rw [← Ny546.out] at ho56 | (simp only [Int.reduceToNat] at ho56; rw [← Ny546.out] at ho56)); have n0_ := Aside0.mk (Kd.R_below (by (with_reducible repeat (first | apply Kd.R_alloc | apply Kd.R_drewN | apply Kd.R_drew)); exact HO508.out) hb); have n1_ := Aside0.mk (Kd.R_elder' (by (with_reducible repeat (first | apply Kd.R_alloc | apply Kd.R_drewN | apply Kd.R_drew)); exact HO511.out) (Kd.R_base ho56) hb); have n2_ := Aside0.mk (Kd.R_below (by (with_reducible repeat (first | apply Kd.R_alloc | apply Kd.R_drewN | apply Kd.R_drew)); exact HO514.out) hb); have n3_ := Aside0.mk (Kd.R_below (by (with_reducible repeat (first | apply Kd.R_alloc | apply Kd.R_drewN | apply Kd.R_drew)); exact HO521.out) hb); have n4_ := Aside0.mk (Kd.R_elder' (by (with_reducible repeat (first | apply Kd.R_alloc | apply Kd.R_drewN | apply Kd.R_drew)); exact HO524.out) (Kd.R_base ho56) hb); have n5_ := Aside0.mk (Kd.R_below (by (with_reducible repeat (first | apply Kd.R_alloc | apply Kd.R_drewN | apply Kd.R_drew)); exact HO527.out) hb); have n6_ := Aside0.mk (Kd.R_below (by (with_reducible repeat (first | apply Kd.R_alloc | apply Kd.R_drewN | apply Kd.R_drew)); exact HO534.out) hb); have n7_ := Aside0.mk (Kd.R_elder' (by (with_reducible repeat (first | apply Kd.R_alloc | apply Kd.R_drewN | apply Kd.R_drew)); exact HO537.out) (Kd.R_base ho56) hb); have n8_ := Aside0.mk (Kd.R_elder' (by (with_reducible repeat (first | apply Kd.R_alloc | apply Kd.R_drewN | apply Kd.R_drew)); exact HO540.out) (Kd.R_base ho56) hb); have n9_ := Aside0.mk (Kd.R_below (by (with_reducible repeat (first | apply Kd.R_alloc | apply Kd.R_drewN | apply Kd.R_drew)); exact HO544.out) hb); have n10_ := Aside0.mk (Kd.R_lower (Kd.R_new' (Kd.R_new' (Kd.R_new' (Kd.R_new' ho56 (Kd.R_lt (by (with_reducible repeat (first | apply Kd.R_alloc | apply Kd.R_drewN | apply Kd.R_drew)); exact HO511.out))) (Kd.R_lt (by (with_reducible repeat (first | apply Kd.R_alloc | apply Kd.R_drewN | apply Kd.R_drew)); exact HO524.out))) (Kd.R_lt (by (with_reducible repeat (first | apply Kd.R_alloc | apply Kd.R_drewN | apply Kd.R_drew)); exact HO537.out))) (Kd.R_lt (by (with_reducible repeat (first | apply Kd.R_alloc | apply Kd.R_drewN | apply Kd.R_drew)); exact HO540.out))) (below_size (by repeat (first | (with_reducible first | exact HB.out | apply below_alloc | apply pw_below_drewN | apply below_drew1) | exact HB.out)))); have n11_ := Aside0.mk (below_step (by repeat (first | (with_reducible first | exact HB.out | apply below_alloc | apply pw_below_drewN | apply below_drew1) | exact HB.out)) hb); clear HO508; clear HO511; clear HO514; clear HO521; clear HO524; clear HO527; clear HO534; clear HO537; clear HO540; clear HO544; clear HB; have HO508 := n0_; have HO511 := n1_; have HO514 := n2_; have HO521 := n3_; have HO524 := n4_; have HO527 := n5_; have HO534 := n6_; have HO537 := n7_; have HO540 := n8_; have HO544 := n9_; have HO548 := n10_; have HB := n11_; clear n0_ n1_ n2_ n3_ n4_ n5_ n6_ n7_ n8_ n9_ n10_ n11_; clear hb ho56; obtain ⟨Ao57, co57, eo57⟩ := Kd.R_slice HO540.out; subst eo57; obtain ⟨Ao58, co58, eo58⟩ := Kd.R_slice HO548.out; subst eo58) | (go_at_call 41; (with_reducible refine (ebbtideref03_SameInts.calls k _ _ t538 _ _ y546 t549 _ ?side1 ?side2 ?side3 ?side4 A32.out).mono ?_); (case side1 => repeat (first | exact (Kd.R_reads' HO540.out).2.2 | (with_reducible refine Kd.C_alloc ?_ _) | (with_reducible refine Kd.C_drewN ?_ _) | (with_reducible refine Kd.C_drew ?_))); (case side2 => exact (Kd.R_reads' HO540.out).2.1); (case side3 => repeat (first | exact (Kd.R_reads' HO548.out).2.2 | (with_reducible refine Kd.C_alloc ?_ _) | (with_reducible refine Kd.C_drewN ?_ _) | (with_reducible refine Kd.C_drew ?_))); (case side4 => exact (Kd.R_reads' HO548.out).2.1); rintro e w' ⟨rfl, ⟨nd, rfl⟩⟩))
 go_ret
 exact ⟨by first | rfl | (simp [errW_none, errW_some] <;> rfl) | (simp [*, errW_none, errW_some] <;> rfl), by repeat (first | (with_reducible first | exact HB.out | apply below_alloc | apply pw_below_drewN | apply below_drew1) | exact HB.out)⟩
end Go.Proofs.Ytkcpanpdipmmmaa.P
namespace Go.Proofs.Ytkcpanpdipmmmaa.P
open Go.RowKit Go.Proofs.YtkcpanpdipmmmaaW.PrintWords Go.Proofs.YtkcpanpdipmmmaaW.PrintLast Go.Proofs.YtkcpanpdipmmmaaW.PrintMore
attribute [local go_sem] max2_int min2_int max_two min_two max_three min_three max_four min_four
def ebbtidelaw08_LevelFars.f (k : Nat) (a0_0 : Int) (a0_1 : Bool) (l0_2 : List (S74)) (l1 : List Int) (a2 : Int) : Option (Bool) := (level_Levels.f a0_0 a0_1 l0_2 l1 a2).bind fun bt551 => ((ebbtideref08_Levels.f k a0_0 a0_1 l0_2 l1 a2).bind fun bt555 => ((ebbtidelaw08_awake.f k).bind fun t559 => (if t559 = true then ((ebbtideref03_SameInts.f k bt551.1 bt555.1).bind fun t560 => (if t560 = true then (some (bt551.2 == bt555.2)) else (some false))) else (some false))))
set_option maxHeartbeats 8000000 in
set_option maxRecDepth 100000 in
theorem ebbtidelaw08_LevelFars.calls (k : Nat) (a0_0 : Int) (a0_1 : Bool) (A0_2 : Option Addr) (c0_2 : Nat) (l0_2 : List (S74)) (A1 : Option Addr) (c1 : Nat) (l1 : List Int) (a2 : Int) (r : Bool) (w : World) (hr0_2 : Kd.C k74 w A0_2 l0_2.length l0_2) (hc0_2 : l0_2.length ≤ c0_2) (hr1 : Kd.C (Kd.int .i64) w A1 l1.length l1) (hc1 : l1.length ≤ c1) (h : ebbtidelaw08_LevelFars.f k a0_0 a0_1 l0_2 l1 a2 = some r) (hrT_ : r = true := by first | rfl | exact Aside0.out (by assumption)) :
  Calls Try.prog 9 #[.agg #[.int .i64 a0_0, .bool a0_1, .slice A0_2 l0_2.length c0_2], .slice A1 l1.length c1, .int .i64 a2] w fun e w' => e = .returned (.bool r) ∧ Below w.heap.size w w' := by
 have HRT := Aside0.mk hrT_
 clear hrT_
 have hu24 := Try.underlying24
 have HR0_2 := Aside0.mk hr0_2
 have HC0_2 := Aside0.mk hc0_2
 clear hr0_2 hc0_2
 have HR1 := Aside0.mk hr1
 have HC1 := Aside0.mk hc1
 clear hr1 hc1
 have HB := Aside0.mk (Below.refl w.heap.size w)
 have H : ((level_Levels.f a0_0 a0_1 l0_2 l1 a2).bind fun bt551 => ((ebbtideref08_Levels.f k a0_0 a0_1 l0_2 l1 a2).bind fun bt555 => ((ebbtidelaw08_awake.f k).bind fun t559 => (if t559 = true then ((ebbtideref03_SameInts.f k bt551.1 bt555.1).bind fun t560 => (if t560 = true then (some (bt551.2 == bt555.2)) else (some false))) else (some false))))) = some r := h
 clear h
 replace H := Option.bind_eq_some_iff.mp H
 obtain ⟨⟨t551, t554⟩, A40, H⟩ := H
 replace H : ((ebbtideref08_Levels.f k a0_0 a0_1 l0_2 l1 a2).bind fun bt555 => ((ebbtidelaw08_awake.f k).bind fun t559 => (if t559 = true then ((ebbtideref03_SameInts.f k t551 bt555.1).bind fun t560 => (if t560 = true then (some (t554 == bt555.2)) else (some false))) else (some false)))) = some r := H
 have A4 := Aside0.mk A40
 clear A40
 replace H := Option.bind_eq_some_iff.mp H
 obtain ⟨⟨t555, t558⟩, A50, H⟩ := H
 replace H : ((ebbtidelaw08_awake.f k).bind fun t559 => (if t559 = true then ((ebbtideref03_SameInts.f k t551 t555).bind fun t560 => (if t560 = true then (some (t554 == t558)) else (some false))) else (some false))) = some r := H
 have A5 := Aside0.mk A50
 clear A50
 replace H := Option.bind_eq_some_iff.mp H
 obtain ⟨t559, A60, H⟩ := H
 replace H : (if t559 = true then ((ebbtideref03_SameInts.f k t551 t555).bind fun t560 => (if t560 = true then (some (t554 == t558)) else (some false))) else (some false)) = some r := H
 have A6 := Aside0.mk A60
 clear A60
 by_cases c7 : t559 = true
 rotate_left
 ·replace c7 := Bool.eq_false_iff.mpr c7
  subst c7
  have H1 : (some false) = some r := by rw [if_neg (show ¬ (false = true) by decide)] at H; exact H
  exact absurd (Option.some.inj H1) (by rw [HRT.out]; decide)
 subst c7
 have H1 : ((ebbtideref03_SameInts.f k t551 t555).bind fun t560 => (if t560 = true then (some (t554 == t558)) else (some false))) = some r := by rw [if_pos rfl] at H; exact H
 clear H
 have H := H1
 clear H1
 replace H := Option.bind_eq_some_iff.mp H
 obtain ⟨t560, A80, H⟩ := H
 replace H : (if t560 = true then (some (t554 == t558)) else (some false)) = some r := H
 have A8 := Aside0.mk A80
 clear A80
 by_cases c9 : t560 = true
 rotate_left
 ·replace c9 := Bool.eq_false_iff.mpr c9
  subst c9
  have H1 : (some false) = some r := by rw [if_neg (show ¬ (false = true) by decide)] at H; exact H
  exact absurd (Option.some.inj H1) (by rw [HRT.out]; decide)
 subst c9
 have H1 : (some (t554 == t558)) = some r := by rw [if_pos rfl] at H; exact H
 clear H
 have H := H1
 clear H1
 obtain rfl := Option.some.inj H
 go_enter Try.func9, Try.ntmps9
 go_wp2_with (first | ((with_reducible refine gate_dst (N := 3) rfl ?_); refine box_event ?hg (N := 3) ?hd (cs := #[.int .i64 a0_0, .bool a0_1, .slice A0_2 l0_2.length c0_2]) (t := 24) ?hr ?_; (case hd => rfl); (case hg => rfl); (case hr => first | (go_simp; done) | (go_simp; rfl)); intro gb550 hg w10 hbox hb; have n0_ := Aside0.mk (below_step (by repeat (first | (with_reducible first | exact HB.out | apply below_alloc | apply pw_below_drewN | apply below_drew1) | exact HB.out)) hb); have n1_ := Aside0.mk (hbox); have n2_ := Aside0.mk ((by rw [hg]; exact (below_size (by repeat (first | (with_reducible first | exact HB.out | apply below_alloc | apply pw_below_drewN | apply below_drew1) | exact HB.out))) : w.heap.size ≤ gb550)); have n3_ := Aside0.mk ((by rw [hg]; exact (below_size (by repeat (first | (with_reducible first | exact HB.out | apply below_alloc | apply pw_below_drewN | apply below_drew1) | exact HB.out))) : w.heap.size ≤ gb550)); clear HB; have HB := n0_; have BK550 := n1_; have GW550 := n2_; have GE550 := n3_; clear n0_ n1_ n2_ n3_; clear hb hbox hg; have hcz11_0 : w10.cell? ⟨gb550, 0, none⟩ = some (.int .i64 a0_0) := (blk_cell BK550.out 0).trans rfl; have hcz11_1 : w10.cell? ⟨gb550, 1, none⟩ = some (.bool a0_1) := (blk_cell BK550.out 1).trans rfl; have hcz11_2 : w10.cell? ⟨gb550, 2, none⟩ = some (.slice A0_2 l0_2.length c0_2) := (blk_cell BK550.out 2).trans rfl; have hfz11_0 := blk_frozen BK550.out 0; have hfz11_1 := blk_frozen BK550.out 1; have hfz11_2 := blk_frozen BK550.out 2) | ((with_reducible refine gate_callee (f := 53) rfl ?_); refine goesL_ (some 15) rfl rfl Try.func53 (by kernel_rfl) rfl #[.agg #[.int .i64 a0_0, .bool a0_1, .slice A0_2 l0_2.length c0_2], .slice A1 l1.length c1, .int .i64 a2] rfl (by (try simp only [List.map_toArray, List.map_cons, List.map_nil]); first | done | rfl | (simp only [List.length_drop, List.length_take]; rfl)) ?_; (with_reducible refine (level_Levels.calls a0_0 a0_1 _ _ l0_2 _ _ l1 a2 t551 t554 _ ?side1 ?side2 ?side3 ?side4 A4.out).mono ?_); (case side1 => repeat (first | exact (Kd.C_below HR0_2.out HB.out) | (with_reducible refine Kd.C_alloc ?_ _) | (with_reducible refine Kd.C_drewN ?_ _) | (with_reducible refine Kd.C_drew ?_))); (case side2 => exact HC0_2.out); (case side3 => repeat (first | exact (Kd.C_below HR1.out HB.out) | (with_reducible refine Kd.C_alloc ?_ _) | (with_reducible refine Kd.C_drewN ?_ _) | (with_reducible refine Kd.C_drew ?_))); (case side4 => exact HC1.out); rintro e w12 ⟨v552, rfl, ho0, hb⟩; refine ⟨_, rfl, ?_⟩; have n0_ := Aside0.mk (Kd.R_lower ho0 (below_size (by repeat (first | (with_reducible first | exact HB.out | apply below_alloc | apply pw_below_drewN | apply below_drew1 | refine below_set ?_ GE550.out) | exact HB.out)))); have n1_ := Aside0.mk (blk_below (g := gb550) (o := .cells #[.int .i64 a0_0, .bool a0_1, .slice A0_2 l0_2.length c0_2] 24 (0, 0)) (by (with_reducible repeat (first | refine blk_drewN ?_ _ | refine blk_drew ?_ | refine blk_alloc ?_ _)); exact BK550.out) hb); have n2_ := Aside0.mk (below_step (by repeat (first | (with_reducible first | exact HB.out | apply below_alloc | apply pw_below_drewN | apply below_drew1 | refine below_set ?_ GE550.out) | exact HB.out)) hb); clear BK550; clear HB; have HO553 := n0_; have BK550 := n1_; have HB := n2_; clear n0_ n1_ n2_; (try clear hb); (try clear hb2); (try clear hk); (try clear hi); (try clear ho0); have hcz13_0 : w12.cell? ⟨gb550, 0, none⟩ = some (.int .i64 a0_0) := (blk_cell BK550.out 0).trans rfl; have hcz13_1 : w12.cell? ⟨gb550, 1, none⟩ = some (.bool a0_1) := (blk_cell BK550.out 1).trans rfl; have hcz13_2 : w12.cell? ⟨gb550, 2, none⟩ = some (.slice A0_2 l0_2.length c0_2) := (blk_cell BK550.out 2).trans rfl; have hfz13_0 := blk_frozen BK550.out 0; have hfz13_1 := blk_frozen BK550.out 1; have hfz13_2 := blk_frozen BK550.out 2) | ((with_reducible refine gate_callee (f := 54) rfl ?_); refine goesL_ (some 22) rfl rfl Try.func54 (by kernel_rfl) rfl #[.agg #[.int .i64 a0_0, .bool a0_1, .slice A0_2 l0_2.length c0_2], .slice A1 l1.length c1, .int .i64 a2] rfl (by (try simp only [List.map_toArray, List.map_cons, List.map_nil]); first | done | rfl | (simp only [List.length_drop, List.length_take]; rfl)) ?_; (with_reducible refine (ebbtideref08_Levels.calls k a0_0 a0_1 _ _ l0_2 _ _ l1 a2 t555 t558 _ ?side1 ?side2 ?side3 ?side4 A5.out).mono ?_); (case side1 => repeat (first | exact (Kd.C_below HR0_2.out HB.out) | (with_reducible refine Kd.C_alloc ?_ _) | (with_reducible refine Kd.C_drewN ?_ _) | (with_reducible refine Kd.C_drew ?_))); (case side2 => exact HC0_2.out); (case side3 => repeat (first | exact (Kd.C_below HR1.out HB.out) | (with_reducible refine Kd.C_alloc ?_ _) | (with_reducible refine Kd.C_drewN ?_ _) | (with_reducible refine Kd.C_drew ?_))); (case side4 => exact HC1.out); rintro e w14 ⟨v556, rfl, ho0, hb⟩; refine ⟨_, rfl, ?_⟩; have n0_ := Aside0.mk (Kd.R_elder' (by (with_reducible repeat (first | apply Kd.R_alloc | apply Kd.R_drewN | apply Kd.R_drew)); exact HO553.out) (Kd.R_base ho0) hb); have n1_ := Aside0.mk (Kd.R_lower (Kd.R_new' ho0 (Kd.R_lt (by (with_reducible repeat (first | apply Kd.R_alloc | apply Kd.R_drewN | apply Kd.R_drew)); exact HO553.out))) (below_size (by repeat (first | (with_reducible first | exact HB.out | apply below_alloc | apply pw_below_drewN | apply below_drew1 | refine below_set ?_ GE550.out) | exact HB.out)))); have n2_ := Aside0.mk (blk_below (g := gb550) (o := .cells #[.int .i64 a0_0, .bool a0_1, .slice A0_2 l0_2.length c0_2] 24 (0, 0)) (by (with_reducible repeat (first | refine blk_drewN ?_ _ | refine blk_drew ?_ | refine blk_alloc ?_ _)); exact BK550.out) hb); have n3_ := Aside0.mk (below_step (by repeat (first | (with_reducible first | exact HB.out | apply below_alloc | apply pw_below_drewN | apply below_drew1 | refine below_set ?_ GE550.out) | exact HB.out)) hb); clear HO553; clear BK550; clear HB; have HO553 := n0_; have HO557 := n1_; have BK550 := n2_; have HB := n3_; clear n0_ n1_ n2_ n3_; (try clear hb); (try clear hb2); (try clear hk); (try clear hi); (try clear ho0)) | ((with_reducible refine gate_callee (f := 55) rfl ?_); refine goesL_ (some 25) rfl rfl Try.func55 (by kernel_rfl) rfl #[] rfl (by (try simp only [List.map_toArray, List.map_cons, List.map_nil]); first | done | rfl | (simp only [List.length_drop, List.length_take]; rfl)) ?_; (with_reducible refine (ebbtidelaw08_awake.calls k  true _ A6.out).mono ?_); rintro e w15 ⟨rfl, hb⟩; refine ⟨_, rfl, ?_⟩; have n0_ := Aside0.mk (Kd.R_below (by (with_reducible repeat (first | apply Kd.R_alloc | apply Kd.R_drewN | apply Kd.R_drew)); exact HO553.out) hb); have n1_ := Aside0.mk (Kd.R_below (by (with_reducible repeat (first | apply Kd.R_alloc | apply Kd.R_drewN | apply Kd.R_drew)); exact HO557.out) hb); have n2_ := Aside0.mk (blk_below (g := gb550) (o := .cells #[.int .i64 a0_0, .bool a0_1, .slice A0_2 l0_2.length c0_2] 24 (0, 0)) (by (with_reducible repeat (first | refine blk_drewN ?_ _ | refine blk_drew ?_ | refine blk_alloc ?_ _)); exact BK550.out) hb); have n3_ := Aside0.mk (below_step (by repeat (first | (with_reducible first | exact HB.out | apply below_alloc | apply pw_below_drewN | apply below_drew1 | refine below_set ?_ GE550.out) | exact HB.out)) hb); clear HO553; clear HO557; clear BK550; clear HB; have HO553 := n0_; have HO557 := n1_; have BK550 := n2_; have HB := n3_; clear n0_ n1_ n2_ n3_; (try clear hb); (try clear hb2); (try clear hk); (try clear hi); obtain ⟨Ao16, co16, eo16⟩ := Kd.R_slice HO553.out; subst eo16; obtain ⟨Ao17, co17, eo17⟩ := Kd.R_slice HO557.out; subst eo17) | (go_at_call 41; (with_reducible refine (ebbtideref03_SameInts.calls k _ _ t551 _ _ t555 true _ ?side1 ?side2 ?side3 ?side4 A8.out).mono ?_); (case side1 => repeat (first | exact (Kd.R_reads' HO553.out).2.2 | (with_reducible refine Kd.C_alloc ?_ _) | (with_reducible refine Kd.C_drewN ?_ _) | (with_reducible refine Kd.C_drew ?_))); (case side2 => exact (Kd.R_reads' HO553.out).2.1); (case side3 => repeat (first | exact (Kd.R_reads' HO557.out).2.2 | (with_reducible refine Kd.C_alloc ?_ _) | (with_reducible refine Kd.C_drewN ?_ _) | (with_reducible refine Kd.C_drew ?_))); (case side4 => exact (Kd.R_reads' HO557.out).2.1); rintro e w' ⟨rfl, ⟨nd, rfl⟩⟩))
 go_ret
 exact ⟨by first | rfl | (simp [errW_none, errW_some] <;> rfl) | (simp [*, errW_none, errW_some] <;> rfl), by repeat (first | (with_reducible first | exact HB.out | apply below_alloc | apply pw_below_drewN | apply below_drew1 | refine below_set ?_ GE550.out) | exact HB.out)⟩
end Go.Proofs.Ytkcpanpdipmmmaa.P
namespace Go.Proofs.Ytkcpanpdipmmmaa.Opn
open Go.RowKit Go.ChangeShapes Go.WideShapes Go.Deep Go.Proofs.YtkcpanpdipmmmaaW.PrintWords
def Opens (P : Program) (t : TypeId) {α : Type} (d : Kd α) (ok : α → Prop) : Prop :=
 ∀ (H : Type) (enc : TypeId × Value → H) (w : World) (base : Nat) (spare : Nat → Bool) (held : Bool) (fuel : Nat) (cs : List Value) (x : DataW H × List MemPlace),
  DataW.trod enc P w base spare held fuel t cs = some x → ∃ a : α, d.K w a cs ∧ ok a
theorem opens_int {P : Program} {t : TypeId} {k : IntKind} (ht : P.underlying t = some (.int k)) : Opens P t (Kd.int k) (fun n => (Lit.int k n).wf = true) := by
 intro H enc w base spare held fuel cs x h
 obtain ⟨n, rfl, _, hw⟩ := DataW.trod_int ht h
 exact ⟨n, rfl, hw⟩
theorem opens_bool {P : Program} {t : TypeId} (ht : P.underlying t = some .bool) : Opens P t Kd.bool (fun _ => True) := by
 intro H enc w base spare held fuel cs x h
 obtain ⟨b, rfl, _⟩ := DataW.trod_bool ht h
 exact ⟨b, rfl, trivial⟩
theorem opens_slice {P : Program} {t e : TypeId} {α : Type} {d : Kd α} {ok : α → Prop} (ht : P.underlying t = some (.slice e)) (hc : P.cellsOf e = d.sz) (h : Opens P e d ok) :
  Opens P t (Kd.slice e d) (fun l => l.length ≤ 9223372036854775807 ∧ ∀ x ∈ l, ok x) := by
 intro H enc w base spare held fuel cs x hx
 rcases open_slice ht hx with ⟨rfl, _⟩ | ⟨a, len, cap, m, n, D, Pl, rfl, hb, hl, hm, hmm, _, hi⟩
 ·exact ⟨[], ⟨none, 0, rfl, Nat.le_refl _, rfl, by simp, fun h => absurd h (by simp)⟩, by simp, by simp⟩
 ·have hlm : len ≤ m := by rw [hmm]; split <;> omega
  have hel : ∀ i : Nat, i < len → ∃ a' : α, ok a' ∧ ∃ c, c.length = d.sz ∧ d.K w a' c ∧ ∀ j u, c[j]? = some u → w.cell? (a.add (i * d.sz + j)) = some u := by
   intro i hil
   obtain ⟨cs', hcs, htr⟩ := hi i (by omega)
   obtain ⟨a', hK, hok⟩ := h H enc w base spare held n cs' _ htr
   rw [hc] at hcs
   obtain ⟨_, hcl, hat⟩ := World.cells?_some hcs
   refine ⟨a', hok, cs', hcl, hK, fun j u hu => ?_⟩
   have hj : j < d.sz := by have := (List.getElem?_eq_some_iff.1 hu).1; omega
   have := hat j hj
   rw [← Go.Deep.add_add, this, hu]
  have hrow : ∀ k : Nat, k ≤ len → ∃ xs : List α, xs.length = k ∧ (∀ x ∈ xs, ok x) ∧ ∀ j p, xs[j]? = some p → ∃ c, c.length = d.sz ∧ d.K w p c ∧ ∀ i u, c[i]? = some u → w.cell? (a.add (j * d.sz + i)) = some u := by
   intro k
   induction k with
   | zero => exact fun _ => ⟨[], rfl, by simp, by simp⟩
   | succ k ih =>
    intro hk
    obtain ⟨xs, h1, h2, h3⟩ := ih (by omega)
    obtain ⟨a', ho, c, hcl, hK, hcell⟩ := hel k (by omega)
    refine ⟨xs ++ [a'], by simp [h1], fun x hx => ?_, fun j p hj => ?_⟩
    ·rcases List.mem_append.1 hx with h | h
     ·exact h2 x h
     ·rw [List.mem_singleton.1 h]; exact ho
    ·by_cases hjk : j < xs.length
     ·rw [List.getElem?_append_left hjk] at hj
      exact h3 j p hj
     ·have hjl := (List.getElem?_eq_some_iff.1 hj).1
      simp at hjl
      have hje : j = k := by omega
      subst hje
      rw [← h1, List.getElem?_concat_length] at hj
      obtain rfl := Option.some.inj hj
      exact ⟨c, hcl, hK, hcell⟩
  obtain ⟨xs, h1, h2, h3⟩ := hrow len (Nat.le_refl _)
  have hmx : len ≤ 9223372036854775807 := by unfold maxLen at hm; omega
  subst h1
  exact ⟨xs, ⟨some a, cap, rfl, hl, rfl, hmx, fun _ => ⟨a, rfl, h3⟩⟩, hmx, h2⟩
theorem opens_iso {P : Program} {t : TypeId} {α β : Type} {d : Kd α} {ok : α → Prop} (h : Opens P t d ok) (f : β → α) (g : α → β) (hfg : ∀ x, f (g x) = x) : Opens P t (Kd.iso d f) (fun y => ok (f y)) := by
 intro H enc w base spare held fuel cs x hx
 obtain ⟨a, hK, hok⟩ := h H enc w base spare held fuel cs x hx
 exact ⟨g a, by show d.K w (f (g a)) cs; rw [hfg]; exact hK, by show ok (f (g a)); rw [hfg]; exact hok⟩
def OpensFs (P : Program) (fs : List Field) (off : Nat) {α : Type} (d : Kd α) (ok : α → Prop) : Prop :=
 ∀ (H : Type) (enc : TypeId × Value → H) (w : World) (base : Nat) (spare : Nat → Bool) (held : Bool) (n : Nat) (cs : List Value), cs.length = off + d.sz →
  (∀ f ∈ fs, ∃ y, DataW.trod enc P w base spare held n f.type ((cs.drop f.offset).take (P.cellsOf f.type)) = some y) → ∃ a : α, d.K w a (cs.drop off) ∧ ok a
theorem fs_one {P : Program} {f : Field} {off : Nat} {α : Type} {d : Kd α} {ok : α → Prop} (ho : f.offset = off) (hc : P.cellsOf f.type = d.sz) (h : Opens P f.type d ok) : OpensFs P [f] off d ok := by
 intro H enc w base spare held n cs hl hf
 obtain ⟨y, hy⟩ := hf f (by simp)
 rw [ho, hc, List.take_of_length_le (by simp; omega)] at hy
 exact h H enc w base spare held n _ y hy
theorem fs_cons {P : Program} {f : Field} {fs : List Field} {off : Nat} {α β : Type} {d : Kd α} {d' : Kd β} {ok : α → Prop} {ok' : β → Prop} (ho : f.offset = off) (hc : P.cellsOf f.type = d.sz) (h : Opens P f.type d ok)
  (hr : OpensFs P fs (off + d.sz) d' ok') : OpensFs P (f :: fs) off (Kd.pair d d') (fun x => ok x.1 ∧ ok' x.2) := by
 intro H enc w base spare held n cs hl hf
 have hsz : (Kd.pair d d').sz = d.sz + d'.sz := rfl
 rw [hsz] at hl
 obtain ⟨y, hy⟩ := hf f (by simp)
 rw [ho, hc] at hy
 obtain ⟨a, hK, hok⟩ := h H enc w base spare held n _ y hy
 obtain ⟨b, hKb, hokb⟩ := hr H enc w base spare held n cs (by omega) (fun f' hf' => hf f' (List.mem_cons_of_mem _ hf'))
 refine ⟨(a, b), ⟨_, _, ?_, hK, hKb⟩, hok, hokb⟩
 rw [← List.drop_drop]
 exact (List.take_append_drop _ _).symm
theorem opens_struct {P : Program} {t : TypeId} {fs : Array Field} {α : Type} {d : Kd α} {ok : α → Prop} (hs : P.underlying t = some (.struct fs)) (hC : P.cellsOf t = d.sz) (h : OpensFs P fs.toList 0 d ok) : Opens P t d ok := by
 intro H enc w base spare held fuel cs x hx
 obtain ⟨xs, n, _, _, hl, hlen, hf⟩ := DataW.trod_struct hs hx
 obtain ⟨a, hK, hok⟩ := h H enc w base spare held n cs (by rw [hl, hC, Nat.zero_add]) (fun f hfm => by
  obtain ⟨j, hj⟩ := List.getElem?_of_mem hfm
  have hj' : fs[j]? = some f := by rw [← hj]; simp
  have hjl : j < xs.length := by rw [hlen]; exact (Array.getElem?_eq_some_iff.1 hj').1
  have h1 := hf j f hj'
  rw [List.getElem?_eq_getElem hjl] at h1
  exact ⟨_, h1⟩)
 exact ⟨a, hK, hok⟩
theorem arg_struct {H : Type} {enc : TypeId × Value → H} {P : Program} {w : World} {base b0 : Nat} {spare : Nat → Bool} {held : Bool} {r : Reach} {t : TypeId} {fs : Array Field} {v : Value} {dd : DataW H} {p : List MemPlace} {α : Type} {d : Kd α} {ok : α → Prop}
  (hs : P.underlying t = some (.struct fs)) (ho : Opens P t d ok) (hv : Value.okWide P w r b0 t v) (h : DataW.Trod enc P w base spare held t v dd p) : ∃ a cs, v = .agg cs ∧ d.K w a cs.toList ∧ ok a := by
 obtain ⟨cs, rfl, hsz⟩ := okWide_struct hs hv
 obtain ⟨fuel, hf⟩ := h
 obtain ⟨a, hK, hok⟩ := ho H enc w base spare held fuel _ _ hf
 exact ⟨a, cs, rfl, by simpa [Value.cells] using hK, hok⟩
theorem arg_slice {H : Type} {enc : TypeId × Value → H} {P : Program} {w : World} {base b0 : Nat} {spare : Nat → Bool} {held : Bool} {r : Reach} {t e : TypeId} {v : Value} {dd : DataW H} {p : List MemPlace} {α : Type} {d : Kd α} {ok : List α → Prop}
  (hs : P.underlying t = some (.slice e)) (ho : Opens P t (Kd.slice e d) ok) (hv : Value.okWide P w r b0 t v) (h : DataW.Trod enc P w base spare held t v dd p) : ∃ A c l, v = .slice A l.length c ∧ l.length ≤ c ∧ d.C w A l.length l ∧ ok l := by
 obtain ⟨A, len, cap, rfl⟩ := okWide_slice hs hv
 obtain ⟨fuel, hf⟩ := h
 obtain ⟨l, ⟨A', c, he, hlc, hC⟩, hok⟩ := ho H enc w base spare held fuel _ _ hf
 simp [Value.cells] at he
 obtain ⟨rfl, rfl, rfl⟩ := he
 exact ⟨A, cap, l, rfl, hlc, hC, hok⟩
end Go.Proofs.Ytkcpanpdipmmmaa.Opn
namespace Go.Proofs.Ytkcpanpdipmmmaa.Q
open Go.RowKit Go.Proofs.YtkcpanpdipmmmaaW.PrintWords Go.Proofs.YtkcpanpdipmmmaaW.PrintLast Go.Proofs.YtkcpanpdipmmmaaW.PrintMore Go.Proofs.Ytkcpanpdipmmmaa.P
open Go.Proofs.Ytkcpanpdipmmmaa.H (levelsRes pathRes wayP endsErr wayRes wayF wayF_eq StepsOk Right right_of stepsR bfP bfL dOf nodes wayL frP toP esP way_nat bf_same Fd bfP_upto dOf_len dOf_get fnd fnd_some fnd_none fnd_of backL_spec lv_lt esP_fr esP_to steps_ev)
theorem awake08_at : ebbtidelaw08_awake.f 100 = some true := by decide +kernel
theorem awake08_ev : Ev (fun k => ebbtidelaw08_awake.f k) true := Ev.of ebbtidelaw08_awake.mono awake08_at
theorem stepsOk {l : List S74} {F : List Int} {n : Nat} (hr : Right l F n) : StepsOk l n (stepsR l F F.length) :=
 ⟨hr.ends, hr.arcs, fun s hs => H.stepsR_of hr s hs, by have := H.stepsR_len l F F.length; have := hr.len; have := hr.arcs; omega⟩
theorem way_same {l : List S74} {F : List Int} {n : Nat} (hr : Right l F n) (s v : Nat) : wayRes l (stepsR l F F.length) n s (v : Int) = (wayP l F n s v, decide (v ∈ nodes (bfP l F n s))) := by
 rw [way_nat, bf_same hr]
 unfold wayP
 by_cases h : v ∈ nodes (bfP l F n s)
 ·rw [if_pos h, if_pos h, decide_eq_true h]
 ·rw [if_neg h, if_neg h, decide_eq_false h]
theorem way_ref_eq {l : List S74} {F : List Int} {n : Nat} (hr : Right l F n) {s : Nat} (hs : s < n) (b : Bool) (v : Nat) : ebbtideref08_Way.f (n : Int) b l (s : Int) (v : Int) (stepsR l F F.length) = some (wayP l F n s v, decide (v ∈ nodes (bfP l F n s))) := by
 unfold ebbtideref08_Way.f
 rw [wayF_eq (stepsOk hr) hs hr.fifty, way_same hr]
theorem wayP_len {l : List S74} {F : List Int} {n : Nat} (hr : Right l F n) {s : Nat} (hs : s < n) {v : Nat} (hv : v < n) (h : v ∈ nodes (bfP l F n s)) : ((wayP l F n s v).length : Int) = (dOf n (bfP l F n s)).getD v 0 := by
 obtain ⟨x, hx, rfl⟩ := List.mem_map.1 h
 have hu := (bfP_upto hr hs).fds
 unfold wayP
 rw [if_pos h]
 unfold wayL
 rw [List.length_reverse, (backL_spec hu esP_fr _ hx (Nat.le_of_lt (lv_lt hu hx))).1, H.dOf_mem hu.nodup hx 0 hv]
theorem levels_l0 {l : List S74} {F : List Int} {n : Nat} (hr : Right l F n) {s : Nat} (hs : s < n) (b : Bool) (d : Nat) : ∀ v : Nat, v + d = n →
  Ev (fun k => ebbtideref08_Levels.l0 k (s : Int) (stepsR l F F.length) ((dOf n (bfP l F n s)).take v) (v : Int) (n : Int) b l) (dOf n (bfP l F n s), 0) := by
 have hn := hr.fifty
 induction d with
 | zero =>
  intro v hv
  refine Ev.succ ?_; simp only [ebbtideref08_Levels.l0]
  refine Ev.neg (by omega) ?_
  exact Ev.done (by rw [List.take_of_length_le (by rw [dOf_len]; omega)])
 | succ d ih =>
  intro v hv
  have hvn : v < n := by omega
  have hg := dOf_get (bfP l F n s) 0 hvn
  have htk : (dOf n (bfP l F n s)).take (v + 1) = (dOf n (bfP l F n s)).take v ++ [(dOf n (bfP l F n s)).getD v 0] := by
   rw [List.take_add_one, List.getElem?_eq_getElem (by rw [dOf_len]; exact hvn), List.getD_eq_getElem?_getD, List.getElem?_eq_getElem (by rw [dOf_len]; exact hvn)]
   rfl
  have hnext := ih (v + 1) (by omega)
  rw [htk] at hnext
  refine Ev.succ ?_; simp only [ebbtideref08_Levels.l0]
  refine Ev.pos (by omega) ?_
  refine Ev.call (way_ref_eq hr hs b v) ?_
  rw [wrap_succ (n := n) (by omega) (by omega)]
  by_cases hm : v ∈ nodes (bfP l F n s)
  ·refine Ev.pos (by simpa using hm) ?_
   refine Ev.pos (by rw [List.length_take, dOf_len]; omega) ?_
   rw [← wayP_len hr hs hvn hm] at hnext
   exact hnext
  ·refine Ev.neg (by simpa using hm) ?_
   refine Ev.pos (by rw [List.length_take, dOf_len]; omega) ?_
   rw [hg, fnd_none.2 hm] at hnext
   exact hnext
theorem ref_levels_ev (n : Int) (b : Bool) (l : List S74) (F : List Int) (s : Int) : Ev (fun k => ebbtideref08_Levels.f k n b l F s) (levelsRes n l F s) := by
 unfold ebbtideref08_Levels.f levelsRes
 refine Ev.bind (ref_asked_ev n b l F) ?_
 by_cases h0 : askErr n l F = 0
 ·rw [if_pos h0]
  refine Ev.pos h0 ?_
  obtain ⟨n0, rfl, hr⟩ := right_of h0
  refine Ev.call (node_eq n0 b l s) ?_
  by_cases hs : 0 ≤ s ∧ s < (n0 : Int)
  ·rw [if_pos hs]
   refine Ev.pos (decide_eq_true hs) ?_
   obtain ⟨s0, rfl⟩ : ∃ s0 : Nat, s = s0 := ⟨s.toNat, by omega⟩
   refine Ev.bind (steps_ev hr _ b) ?_
   rw [Int.toNat_natCast, Int.toNat_natCast]
   exact levels_l0 hr (by omega) b n0 0 (by omega)
  ·rw [if_neg hs]
   refine Ev.neg (by simpa using hs) ?_
   exact Ev.now _
 ·rw [if_neg h0]
  refine Ev.neg h0 ?_
  exact Ev.now _
theorem levels_eq (n : Int) (b : Bool) (l : List S74) (F : List Int) (s : Int) : level_Levels.f n b l F s = some (levelsRes n l F s) := rfl
theorem levelsRes_len (n : Int) (l : List S74) (F : List Int) (s : Int) : (levelsRes n l F s).1.length ≤ 50 := by
 unfold levelsRes
 split
 ·rename_i h0
  split
  ·obtain ⟨n0, rfl, hr⟩ := right_of h0
   have := hr.fifty
   rw [Int.toNat_natCast]
   show (dOf n0 _).length ≤ 50
   rw [dOf_len]; omega
  ·simp
 ·simp
end Go.Proofs.Ytkcpanpdipmmmaa.Q
namespace Go.Proofs.Ytkcpanpdipmmmaa.Q
open Go.RowKit Go.Proofs.YtkcpanpdipmmmaaW.PrintWords Go.Proofs.YtkcpanpdipmmmaaW.PrintLast Go.Proofs.YtkcpanpdipmmmaaW.PrintMore Go.Proofs.Ytkcpanpdipmmmaa.P
open Go.Proofs.Ytkcpanpdipmmmaa.H (levelsRes pathRes)
theorem levelFars_ev (n : Int) (b : Bool) (l : List S74) (f : List Int) (s : Int) : Ev (fun k => ebbtidelaw08_LevelFars.f k n b l f s) true := by
 unfold ebbtidelaw08_LevelFars.f
 refine Ev.call (levels_eq n b l f s) ?_
 refine Ev.bind (ref_levels_ev n b l f s) ?_
 refine Ev.bind awake08_ev ?_
 refine Ev.pos rfl ?_
 refine Ev.bind (same_ev _ _ (by have := levelsRes_len n l f s; omega)) ?_
 refine Ev.pos (decide_eq_true rfl) ?_
 exact Ev.done (beq_self_eq_true _)
end Go.Proofs.Ytkcpanpdipmmmaa.Q
