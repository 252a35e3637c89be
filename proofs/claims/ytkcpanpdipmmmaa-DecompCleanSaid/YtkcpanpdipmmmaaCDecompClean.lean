/- DecompClean: for every input the law returns true, and each argument reads behind the call as it read before. -/
import Derived.Test.YtkcpanpdipmmmaaRows
import Derived.Test.YtkcpanpdipmmmaaMhcdffh
import Derived.WalkKit
import Derived.ProofKit
import Derived.OpenShut
import Derived.ShutString
import Derived.ChangeOld
import Derived.Below
import Derived.SizedLaws
import Derived.KernelRfl
namespace Go.Proofs.Ytkcpanpdipmmmaa.H
set_option maxRecDepth 100000
theorem make_of (P : Program) (L : List Char) (h : P.initOrder.toList = L) (c : List Char) (rest : List (List Char)) (hb : behindMainWord (wordsSigns L) = c :: rest) (h1 : (c == "gc".toList || c == "spec".toList) = false) (h2 : (c == "cut".toList) = true) : P.make = some .cut := by
  subst h
  unfold Program.make
  rw [hb]
  simp only [h1, h2, Bool.false_eq_true, if_false, Bool.true_or, if_true]
theorem may_of (P : Program) (L : List Char) (h : P.initOrder.toList = L) (c : List Char) (rest : List (List Char)) (hb : behindMainWord (wordsSigns L) = c :: rest) (hs : stripLifts liftWords (c :: rest) = ([], c :: rest)) (h2 : (c == "cut".toList) = true) (h3 : P.laysLater = false) (h4 : P.bearsReflect = false) (h5 : P.doorFits [] = true) : P.mayEnter = true := by
  subst h
  unfold Program.mayEnter
  rw [hb]
  simp only [hs, h3, h4, h5, List.head?_cons]
  simp
  right
  simpa using h2
def ordL : List Char := [104, 97, 114, 110, 101, 115, 115, 32, 52, 100, 53, 102, 50, 51, 49, 48, 102, 100, 97, 49, 97, 53, 99, 50, 51, 99, 56, 49, 53, 48, 49, 55, 97, 57, 99, 55, 49, 54, 51, 98, 51, 99, 49, 52, 57, 56, 98, 48, 54, 98, 50, 53, 102, 100, 97, 54, 53, 48, 98, 100, 50, 53, 57, 53, 57, 100, 50, 53, 54, 55, 53, 98, 32, 99, 117, 116, 32, 97, 116, 32, 101, 98, 98, 116, 105, 100, 101, 47, 101, 98, 98, 116, 105, 100, 101, 108, 97, 119, 49, 49, 46, 67, 111, 115, 116, 70, 97, 114, 115, 32, 101, 98, 98, 116, 105, 100, 101, 47, 101, 98, 98, 116, 105, 100, 101, 108, 97, 119, 49, 49, 46, 67, 111, 115, 116, 83, 116, 101, 112, 115, 32, 101, 98, 98, 116, 105, 100, 101, 47, 101, 98, 98, 116, 105, 100, 101, 108, 97, 119, 49, 49, 46, 67, 111, 115, 116, 69, 109, 112, 116, 121, 32, 101, 98, 98, 116, 105, 100, 101, 47, 101, 98, 98, 116, 105, 100, 101, 108, 97, 119, 49, 49, 46, 67, 111, 115, 116, 67, 104, 101, 97, 112, 101, 115, 116, 32, 101, 98, 98, 116, 105, 100, 101, 47, 101, 98, 98, 116, 105, 100, 101, 108, 97, 119, 49, 49, 46, 67, 111, 115, 116, 84, 105, 103, 104, 116, 115, 32, 101, 98, 98, 116, 105, 100, 101, 47, 101, 98, 98, 116, 105, 100, 101, 108, 97, 119, 49, 49, 46, 67, 111, 115, 116, 70, 114, 101, 101, 32, 101, 98, 98, 116, 105, 100, 101, 47, 101, 98, 98, 116, 105, 100, 101, 108, 97, 119, 48, 56, 46, 76, 101, 118, 101, 108, 70, 97, 114, 115, 32, 101, 98, 98, 116, 105, 100, 101, 47, 101, 98, 98, 116, 105, 100, 101, 108, 97, 119, 48, 56, 46, 76, 101, 118, 101, 108, 80, 97, 116, 104, 115, 32, 101, 98, 98, 116, 105, 100, 101, 47, 101, 98, 98, 116, 105, 100, 101, 108, 97, 119, 48, 56, 46, 76, 101, 118, 101, 108, 87, 97, 121, 115, 32, 101, 98, 98, 116, 105, 100, 101, 47, 101, 98, 98, 116, 105, 100, 101, 108, 97, 119, 48, 56, 46, 76, 101, 118, 101, 108, 69, 100, 103, 101, 115, 32, 101, 98, 98, 116, 105, 100, 101, 47, 101, 98, 98, 116, 105, 100, 101, 108, 97, 119, 48, 56, 46, 76, 101, 118, 101, 108, 77, 111, 114, 101, 32, 101, 98, 98, 116, 105, 100, 101, 47, 101, 98, 98, 116, 105, 100, 101, 108, 97, 119, 49, 50, 46, 83, 112, 97, 110, 87, 111, 114, 116, 104, 115, 32, 101, 98, 98, 116, 105, 100, 101, 47, 101, 98, 98, 116, 105, 100, 101, 108, 97, 119, 49, 50, 46, 83, 112, 97, 110, 77, 111, 115, 116, 32, 101, 98, 98, 116, 105, 100, 101, 47, 101, 98, 98, 116, 105, 100, 101, 108, 97, 119, 49, 50, 46, 83, 112, 97, 110, 66, 101, 115, 116, 32, 101, 98, 98, 116, 105, 100, 101, 47, 101, 98, 98, 116, 105, 100, 101, 108, 97, 119, 49, 50, 46, 83, 112, 97, 110, 84, 111, 112, 115, 32, 101, 98, 98, 116, 105, 100, 101, 47, 101, 98, 98, 116, 105, 100, 101, 108, 97, 119, 49, 50, 46, 83, 112, 97, 110, 83, 104, 111, 114, 116, 32, 101, 98, 98, 116, 105, 100, 101, 47, 101, 98, 98, 116, 105, 100, 101, 108, 97, 119, 48, 57, 46, 77, 97, 120, 102, 108, 111, 119, 86, 97, 108, 117, 101, 115, 32, 101, 98, 98, 116, 105, 100, 101, 47, 101, 98, 98, 116, 105, 100, 101, 108, 97, 119, 48, 57, 46, 77, 97, 120, 102, 108, 111, 119, 70, 108, 111, 119, 115, 32, 101, 98, 98, 116, 105, 100, 101, 47, 101, 98, 98, 116, 105, 100, 101, 108, 97, 119, 48, 57, 46, 77, 97, 120, 102, 108, 111, 119, 84, 111, 112, 115, 32, 101, 98, 98, 116, 105, 100, 101, 47, 101, 98, 98, 116, 105, 100, 101, 108, 97, 119, 48, 57, 46, 77, 97, 120, 102, 108, 111, 119, 77, 111, 114, 101, 32, 101, 98, 98, 116, 105, 100, 101, 47, 101, 98, 98, 116, 105, 100, 101, 108, 97, 119, 48, 57, 46, 77, 97, 120, 102, 108, 111, 119, 80, 97, 114, 116, 115, 32, 101, 98, 98, 116, 105, 100, 101, 47, 101, 98, 98, 116, 105, 100, 101, 108, 97, 119, 48, 57, 46, 77, 97, 120, 102, 108, 111, 119, 67, 111, 117, 110, 116, 115, 32, 101, 98, 98, 116, 105, 100, 101, 47, 101, 98, 98, 116, 105, 100, 101, 108, 97, 119, 49, 48, 46, 77, 105, 110, 99, 117, 116, 76, 101, 97, 115, 116, 32, 101, 98, 98, 116, 105, 100, 101, 47, 101, 98, 98, 116, 105, 100, 101, 108, 97, 119, 49, 48, 46, 77, 105, 110, 99, 117, 116, 66, 111, 117, 110, 100, 115, 32, 101, 98, 98, 116, 105, 100, 101, 47, 101, 98, 98, 116, 105, 100, 101, 108, 97, 119, 49, 48, 46, 77, 105, 110, 99, 117, 116, 83, 117, 109, 115, 32, 101, 98, 98, 116, 105, 100, 101, 47, 101, 98, 98, 116, 105, 100, 101, 108, 97, 119, 49, 48, 46, 77, 105, 110, 99, 117, 116, 77, 101, 101, 116, 115, 32, 101, 98, 98, 116, 105, 100, 101, 47, 101, 98, 98, 116, 105, 100, 101, 108, 97, 119, 49, 48, 46, 77, 105, 110, 99, 117, 116, 83, 105, 100, 101, 115, 32, 101, 98, 98, 116, 105, 100, 101, 47, 101, 98, 98, 116, 105, 100, 101, 108, 97, 119, 49, 51, 46, 68, 101, 99, 111, 109, 112, 70, 108, 111, 119, 115, 32, 101, 98, 98, 116, 105, 100, 101, 47, 101, 98, 98, 116, 105, 100, 101, 108, 97, 119, 49, 51, 46, 68, 101, 99, 111, 109, 112, 76, 101, 110, 103, 116, 104, 115, 32, 101, 98, 98, 116, 105, 100, 101, 47, 101, 98, 98, 116, 105, 100, 101, 108, 97, 119, 49, 51, 46, 68, 101, 99, 111, 109, 112, 87, 104, 111, 108, 101, 32, 101, 98, 98, 116, 105, 100, 101, 47, 101, 98, 98, 116, 105, 100, 101, 108, 97, 119, 49, 48, 46, 77, 105, 110, 99, 117, 116, 65, 110, 121, 32, 101, 98, 98, 116, 105, 100, 101, 47, 101, 98, 98, 116, 105, 100, 101, 108, 97, 119, 49, 51, 46, 68, 101, 99, 111, 109, 112, 83, 112, 108, 105, 116, 115, 32, 101, 98, 98, 116, 105, 100, 101, 47, 101, 98, 98, 116, 105, 100, 101, 108, 97, 119, 49, 51, 46, 68, 101, 99, 111, 109, 112, 67, 108, 101, 97, 110, 32, 101, 98, 98, 116, 105, 100, 101, 47, 101, 98, 98, 116, 105, 100, 101, 108, 97, 119, 49, 50, 46, 83, 112, 97, 110, 71, 114, 111, 119, 115, 32, 101, 98, 98, 116, 105, 100, 101, 47, 101, 98, 98, 116, 105, 100, 101, 108, 97, 119, 49, 50, 46, 83, 112, 97, 110, 83, 116, 105, 108, 108].map Char.ofNat
theorem ord_is : Try.pinned.checked.prog.initOrder = String.ofList ordL := by kernel_rfl
theorem ord_list : Try.pinned.checked.prog.initOrder.toList = ordL := by rw [ord_is]; exact String.toList_ofList
theorem ord_final : Try.pinned.checked.prog.liftsFinal = false := by unfold Program.liftsFinal Program.headLifts; rw [ord_list]; kernel_rfl
def ordC : List Char := "cut".toList
def ordR : List (List Char) := (behindMainWord (wordsSigns ordL)).tail
theorem ord_b : behindMainWord (wordsSigns ordL) = ordC :: ordR := by kernel_rfl
theorem ord_s : stripLifts liftWords (ordC :: ordR) = ([], ordC :: ordR) := by kernel_rfl
theorem ord_make : Try.pinned.checked.prog.make = some .cut := make_of _ _ ord_list _ _ ord_b (by kernel_rfl) (by kernel_rfl)
theorem ord_lays : Try.pinned.checked.prog.laysLater = false := by kernel_rfl
theorem ord_refl : Try.pinned.checked.prog.bearsReflect = false := by kernel_rfl
theorem ord_door : Try.pinned.checked.prog.doorFits [] = true := by kernel_rfl
theorem ord_may : Try.pinned.checked.prog.mayEnter = true := may_of _ _ ord_list _ _ ord_b ord_s (by kernel_rfl) ord_lays ord_refl ord_door
end Go.Proofs.Ytkcpanpdipmmmaa.H

namespace Go.Proofs.Ytkcpanpdipmmmaa.decompClean
open Go.ChangeShapes Go.WideShapes Go.ChangeAt Go.RowKit
open Go.ChangeMaps (open_string shut_string)
open Go.Proofs.YtkcpanpdipmmmaaW.PrintWords Go.Proofs.Ytkcpanpdipmmmaa.Opn Go.Proofs.Ytkcpanpdipmmmaa.P
set_option linter.unusedVariables false
theorem own : ownKnob Try.prog.godebug = none := by kernel_rfl
theorem laidOut : laidOutB Try.prog = true := by kernel_rfl
set_option maxRecDepth 100000 in
theorem lifted (os : Os) (started : os.Started) (H : Type) (enc : TypeId × Value → H) :
    ReturnsInHanded {} Try.checked os 35 .any (Rows.decompCleanSpec.pre6 enc Try.prog Try.f35 Rows.decompCleanRow.domain false) (Rows.decompCleanSpec.post enc Try.prog Try.f35 false true false false) := by
  refine returnsInHanded_of_change_sized (C := Try.checked) own started (by kernel_rfl) Try.func35
    (ChangeSpec.witness6 (enc := enc) (C := Try.checked) false ⟨#[], #[.agg #[.int .i64 0, .bool false, .slice none 0 0], .int .i64 0, .int .i64 0, .slice none 0 0], []⟩ 8 (by kernel_rfl) (by kernel_rfl) (by kernel_rfl) (by kernel_rfl)) ?_
  intro W base args ds gs before hval0 hW hcnd hsz0 _
  have hval : ∀ (j : Nat) t v, Try.f35.params[j]? = some t → args[j]? = some v → Value.okWide Try.prog W .any base t v := hval0
  have hW' := hW
  obtain ⟨p, q, hA0, hV, rfl, hfz, hnd⟩ := hW
  have hA : DataW.TrodAll enc Try.prog W 0 (fun _ => true) true Try.f35.params.toList args.toList ds p := hA0
  rw [Try.params35] at hA hval
  obtain ⟨v0, vs0, d0, ds0, p0, q0, hargs, rfl, rfl, h0, r0⟩ := trodAll_cons hA
  obtain ⟨v1, vs1, d1, ds1, p1, q1, rfl, rfl, rfl, h1, r1⟩ := trodAll_cons r0
  obtain ⟨v2, vs2, d2, ds2, p2, q2, rfl, rfl, rfl, h2, r2⟩ := trodAll_cons r1
  obtain ⟨v3, vs3, d3, ds3, p3, q3, rfl, rfl, rfl, h3, r3⟩ := trodAll_cons r2
  obtain ⟨rfl, rfl, rfl⟩ := trodAll_nil r3
  obtain rfl : args = #[v0, v1, v2, v3] := by cases args; simp_all
  obtain ⟨rfl, rfl⟩ := trodVars_none hV
  have k0 := h0
  have lt0 : ∀ x ∈ p0, x.block < W.heap.size := by obtain ⟨m, hm⟩ := k0; exact DataW.trod_lt m _ _ _ hm
  obtain ⟨a0, cs0, rfl, hK0, hok0⟩ := arg_struct (d := (Kd.pair (Kd.int .i64) (Kd.pair Kd.bool (Kd.slice 74 k74)))) Try.underlying24 (opens_struct Try.underlying24 (by kernel_rfl) (fs_cons rfl (by kernel_rfl) (opens_int Try.underlying3) (fs_cons rfl (by kernel_rfl) (opens_bool Try.underlying4) (fs_one rfl (by kernel_rfl) (opens_slice Try.underlying22 (by kernel_rfl) (opens_iso (opens_struct Try.underlying74 (by kernel_rfl) (fs_cons rfl (by kernel_rfl) (opens_int Try.underlying3) (fs_cons rfl (by kernel_rfl) (opens_int Try.underlying3) (fs_cons rfl (by kernel_rfl) (opens_int Try.underlying3) (fs_one rfl (by kernel_rfl) (opens_int Try.underlying3)))))) (fun x : S74 => (x.f0, x.f1, x.f2, x.f3)) (fun p => ⟨p.1, p.2.1, p.2.2.1, p.2.2.2⟩) (fun _ => rfl))))))) (hval 0 24 v0 rfl rfl) h0
  obtain ⟨cs0⟩ := cs0
  obtain ⟨_, _, rfl, rfl, ⟨_, _, rfl, rfl, ⟨A0_0, c0_0, rfl, hc0_0, hr0_0⟩⟩⟩ := hK0
  obtain ⟨a1, rfl, rfl, rfl, w1⟩ := open_int Try.underlying3 (hval 1 3 v1 rfl rfl) h1
  obtain ⟨a2, rfl, rfl, rfl, w2⟩ := open_int Try.underlying3 (hval 2 3 v2 rfl rfl) h2
  have k3 := h3
  have lt3 : ∀ x ∈ p3, x.block < W.heap.size := by obtain ⟨m, hm⟩ := k3; exact DataW.trod_lt m _ _ _ hm
  obtain ⟨A3_0, c3_0, l3, rfl, hc3_0, hr3_0, hok3⟩ := arg_slice (d := (Kd.int .i64)) Try.underlying25 (opens_slice Try.underlying25 (by kernel_rfl) (opens_int Try.underlying3)) (hval 3 25 v3 rfl rfl) h3
  clear hA0 hval0 hsz0
  obtain ⟨k, hk⟩ := (Q.decompClean_ev a0.1 a0.2.1 a0.2.2 a1 a2 l3).rounds
  refine (ebbtidelaw13_DecompClean.calls k _ _ _ _ _ _ _ _ _ _  true W hr0_0 hc0_0 hr3_0 hc3_0 hk).mono fun e W' ⟨he, bel⟩ => ?_
  subst he
  exact ⟨_, rfl, _, _, _, [], _, [], hW', trodAll_mk1 (shut_bool Try.underlying4 _), (trodAll_cons_mk (Below.trod laidOut (by kernel_rfl) (of_decide_eq_true (by kernel_rfl)) k0 bel lt0) (trodAll_cons_mk (shut_int Try.underlying3 w1) (trodAll_cons_mk (shut_int Try.underlying3 w2) (trodAll_cons_mk (Below.trod laidOut (by kernel_rfl) (of_decide_eq_true (by kernel_rfl)) k3 bel lt3) trodAll_mk0)))), rfl, bel.frame _, fun h => by cases h⟩
theorem closed : joinedFacts Try.pinned.checked.prog 35 Try.f35 Rows.decompCleanSpec Rows.decompCleanRow = true := by
  unfold joinedFacts
  rw [H.ord_may, H.ord_final, H.ord_make]
  kernel_rfl
theorem over : Rows.decompCleanRow.holds Try.pinned (OpenSpec.ofChange Rows.decompCleanSpec) :=
  OpenClaim.holds_of_wide 35 Try.f35 rfl rfl rfl rfl rfl rfl rfl ⟨rfl, rfl, rfl, rfl, rfl⟩ rfl rfl rfl rfl rfl (by kernel_rfl) Try.func35 closed
    (of_decide_eq_true (by kernel_rfl)) (by unfold Func.isWrapper; first | (rw [if_pos (by decide +kernel)]; kernel_rfl) | (rw [if_neg (by decide +kernel)]; exact ⟨rfl, rfl⟩))
    (fun os started H enc _ => lifted os started H enc)
theorem proved : Rows.DecompCleanSaid := over
#print axioms proved
end Go.Proofs.Ytkcpanpdipmmmaa.decompClean
namespace Go.Proofs.Ytkcpanpdipmmmaa
/-- The row, under a short name, for the claim. -/
theorem decompClean_holds : Rows.DecompCleanSaid := decompClean.proved
end Go.Proofs.Ytkcpanpdipmmmaa
