/- TimecutBounds: for every input the law returns true, and each argument reads behind the call as it read before. -/
import Derived.Test.YtjaoknhhoicigaaRows
import Derived.Test.YtjaoknhhoicigaaMingkkp
import Derived.WalkKit
import Derived.ProofKit
import Derived.OpenShut
import Derived.ShutString
import Derived.ChangeOld
import Derived.Below
import Derived.SizedLaws
namespace Go.Proofs.Ytjaoknhhoicigaa.timecutBounds
open Go.ChangeShapes Go.WideShapes Go.ChangeAt Go.RowKit
open Go.ChangeMaps (open_string shut_string)
open Go.Proofs.YtjaoknhhoicigaaW.PrintWords Go.Proofs.Ytjaoknhhoicigaa.Opn Go.Proofs.Ytjaoknhhoicigaa.P
set_option linter.unusedVariables false
theorem own : ownKnob Try.prog.godebug = none := by kernel_rfl
theorem laidOut : laidOutB Try.prog = true := by kernel_rfl
set_option maxRecDepth 100000 in
theorem lifted (os : Os) (started : os.Started) (H : Type) (enc : TypeId × Value → H) :
    ReturnsInHanded {} Try.checked os 3 .any (Rows.timecutBoundsSpec.pre6 enc Try.prog Try.f3 Rows.timecutBoundsRow.domain false) (Rows.timecutBoundsSpec.post enc Try.prog Try.f3 false true false false) := by
  refine returnsInHanded_of_change_sized (C := Try.checked) own started (by kernel_rfl) Try.func3
    (ChangeSpec.witness6 (enc := enc) (C := Try.checked) false ⟨#[], #[.agg #[.int .u8 0, .bool false, .slice none 0 0, .int .u8 0, .int .u8 0, .int .u8 0, .slice none 0 0], .slice none 0 0], []⟩ 8 (by kernel_rfl) (by kernel_rfl) (by kernel_rfl) (by kernel_rfl)) ?_
  intro W base args ds gs before hval0 hW hcnd hsz0 _
  have hval : ∀ (j : Nat) t v, Try.f3.params[j]? = some t → args[j]? = some v → Value.okWide Try.prog W .any base t v := hval0
  have hW' := hW
  obtain ⟨p, q, hA0, hV, rfl, hfz, hnd⟩ := hW
  have hA : DataW.TrodAll enc Try.prog W 0 (fun _ => true) true Try.f3.params.toList args.toList ds p := hA0
  rw [Try.params3] at hA hval
  obtain ⟨v0, vs0, d0, ds0, p0, q0, hargs, rfl, rfl, h0, r0⟩ := trodAll_cons hA
  obtain ⟨v1, vs1, d1, ds1, p1, q1, rfl, rfl, rfl, h1, r1⟩ := trodAll_cons r0
  obtain ⟨rfl, rfl, rfl⟩ := trodAll_nil r1
  obtain rfl : args = #[v0, v1] := by cases args; simp_all
  obtain ⟨rfl, rfl⟩ := trodVars_none hV
  have k0 := h0
  have lt0 : ∀ x ∈ p0, x.block < W.heap.size := by obtain ⟨m, hm⟩ := k0; exact DataW.trod_lt m _ _ _ hm
  obtain ⟨a0, cs0, rfl, hK0, hok0⟩ := arg_struct (d := (Kd.pair (Kd.pair (Kd.int .u8) (Kd.pair Kd.bool (Kd.pair (Kd.slice 77 k77) (Kd.pair (Kd.int .u8) (Kd.pair (Kd.int .u8) (Kd.int .u8)))))) (Kd.slice 59 k59))) Try.underlying27 (opens_struct Try.underlying27 (by kernel_rfl) (fs_cons rfl (by kernel_rfl) (opens_struct Try.underlying24 (by kernel_rfl) (fs_cons rfl (by kernel_rfl) (opens_int Try.underlying5) (fs_cons rfl (by kernel_rfl) (opens_bool Try.underlying4) (fs_cons rfl (by kernel_rfl) (opens_slice Try.underlying22 (by kernel_rfl) (opens_iso (opens_struct Try.underlying77 (by kernel_rfl) (fs_cons rfl (by kernel_rfl) (opens_int Try.underlying5) (fs_cons rfl (by kernel_rfl) (opens_int Try.underlying5) (fs_cons rfl (by kernel_rfl) (opens_int Try.underlying5) (fs_one rfl (by kernel_rfl) (opens_int Try.underlying5)))))) (fun x : S77 => (x.f0, x.f1, x.f2, x.f3)) (fun p => ⟨p.1, p.2.1, p.2.2.1, p.2.2.2⟩) (fun _ => rfl))) (fs_cons rfl (by kernel_rfl) (opens_int Try.underlying5) (fs_cons rfl (by kernel_rfl) (opens_int Try.underlying5) (fs_one rfl (by kernel_rfl) (opens_int Try.underlying5)))))))) (fs_one rfl (by kernel_rfl) (opens_slice Try.underlying25 (by kernel_rfl) (opens_iso (opens_struct Try.underlying59 (by kernel_rfl) (fs_cons rfl (by kernel_rfl) (opens_int Try.underlying5) (fs_cons rfl (by kernel_rfl) (opens_int Try.underlying5) (fs_one rfl (by kernel_rfl) (opens_int Try.underlying5))))) (fun x : S59 => (x.f0, x.f1, x.f2)) (fun p => ⟨p.1, p.2.1, p.2.2⟩) (fun _ => rfl)))))) (hval 0 27 v0 rfl rfl) h0
  obtain ⟨cs0⟩ := cs0
  obtain ⟨_, _, rfl, ⟨_, _, rfl, rfl, ⟨_, _, rfl, rfl, ⟨_, _, rfl, ⟨A0_0, c0_0, rfl, hc0_0, hr0_0⟩, ⟨_, _, rfl, rfl, ⟨_, _, rfl, rfl, rfl⟩⟩⟩⟩⟩, ⟨A0_1, c0_1, rfl, hc0_1, hr0_1⟩⟩ := hK0
  have k1 := h1
  have lt1 : ∀ x ∈ p1, x.block < W.heap.size := by obtain ⟨m, hm⟩ := k1; exact DataW.trod_lt m _ _ _ hm
  obtain ⟨A1_0, c1_0, l1, rfl, hc1_0, hr1_0, hok1⟩ := arg_slice (d := (Kd.int .u16)) Try.underlying28 (opens_slice Try.underlying28 (by kernel_rfl) (opens_int Try.underlying75)) (hval 1 28 v1 rfl rfl) h1
  clear hA0 hval0 hsz0
  obtain ⟨k, hk⟩ := (Q.timecutBounds_ev a0.1.1 a0.1.2.1 a0.1.2.2.1 a0.1.2.2.2.1 a0.1.2.2.2.2.1 a0.1.2.2.2.2.2 a0.2 l1 hok0.1 hok1).rounds
  refine (ebbtidelaw18_TimecutBounds.calls k _ _ _ _ _ _ _ _ _ _ _ _ _ _  true W hr0_0 hc0_0 hr0_1 hc0_1 hr1_0 hc1_0 hk).mono fun e W' ⟨he, bel⟩ => ?_
  subst he
  exact ⟨_, rfl, _, _, _, [], _, [], hW', trodAll_mk1 (shut_bool Try.underlying4 _), (trodAll_cons_mk (Below.trod laidOut (by kernel_rfl) (of_decide_eq_true (by kernel_rfl)) k0 bel lt0) (trodAll_cons_mk (Below.trod laidOut (by kernel_rfl) (of_decide_eq_true (by kernel_rfl)) k1 bel lt1) trodAll_mk0)), rfl, bel.frame _, fun h => by cases h⟩
theorem over : Rows.timecutBoundsRow.holds Try.pinned (OpenSpec.ofChange Rows.timecutBoundsSpec) :=
  OpenClaim.holds_of_wide 3 Try.f3 rfl rfl rfl rfl rfl rfl rfl ⟨rfl, rfl, rfl, rfl, rfl⟩ rfl rfl rfl rfl rfl (by kernel_rfl) Try.func3 (by kernel_rfl)
    (of_decide_eq_true (by kernel_rfl)) (by unfold Func.isWrapper; first | (rw [if_pos (by decide +kernel)]; kernel_rfl) | (rw [if_neg (by decide +kernel)]; exact ⟨rfl, rfl⟩))
    (fun os started H enc _ => lifted os started H enc)
theorem proved : Rows.TimecutBoundsSaid := over
#print axioms proved
end Go.Proofs.Ytjaoknhhoicigaa.timecutBounds
namespace Go.Proofs.Ytjaoknhhoicigaa
/-- The row, under a short name, for the claim. -/
theorem timecutBounds_holds : Rows.TimecutBoundsSaid := timecutBounds.proved
end Go.Proofs.Ytjaoknhhoicigaa
