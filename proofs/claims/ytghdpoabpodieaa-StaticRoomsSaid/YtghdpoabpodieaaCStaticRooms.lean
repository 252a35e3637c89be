/- StaticRooms: for every input the law returns true, and each argument reads behind the call as it read before. -/
import Derived.Test.YtghdpoabpodieaaRows
import Derived.Test.YtghdpoabpodieaaGajejfn
import Derived.Test.YtghdpoabpodieaaGclenol
import Derived.WalkKit
import Derived.ProofKit
import Derived.OpenShut
import Derived.ShutString
import Derived.ChangeOld
import Derived.Below
import Derived.SizedLaws
namespace Go.Proofs.Ytghdpoabpodieaa.staticRooms
open Go.ChangeShapes Go.WideShapes Go.ChangeAt Go.RowKit
open Go.ChangeMaps (open_string shut_string)
open Go.Proofs.YtghdpoabpodieaaW.PrintWords Go.Proofs.Ytghdpoabpodieaa.Opn Go.Proofs.Ytghdpoabpodieaa.P
set_option linter.unusedVariables false
theorem own : ownKnob Try.prog.godebug = none := by kernel_rfl
theorem laidOut : laidOutB Try.prog = true := by kernel_rfl
theorem op0 : ∃ ok, Opens Try.prog 24 (Kd.pair (Kd.int .i64) (Kd.pair Kd.bool (Kd.slice 48 k48))) ok := ⟨_, (opens_struct Try.underlying24 (by kernel_rfl) (fs_cons rfl (by kernel_rfl) (opens_int Try.underlying3) (fs_cons rfl (by kernel_rfl) (opens_bool Try.underlying4) (fs_one rfl (by kernel_rfl) (opens_slice Try.underlying22 (by kernel_rfl) (opens_iso (opens_struct Try.underlying48 (by kernel_rfl) (fs_cons rfl (by kernel_rfl) (opens_int Try.underlying3) (fs_cons rfl (by kernel_rfl) (opens_int Try.underlying3) (fs_cons rfl (by kernel_rfl) (opens_int Try.underlying3) (fs_one rfl (by kernel_rfl) (opens_int Try.underlying3)))))) (fun x : S48 => (x.f0, x.f1, x.f2, x.f3)) (fun p => ⟨p.1, p.2.1, p.2.2.1, p.2.2.2⟩) (fun _ => rfl)))))))⟩
theorem op1 : ∃ ok, Opens Try.prog 25 (Kd.slice 3 (Kd.int .i64)) ok := ⟨_, (opens_slice Try.underlying25 (by kernel_rfl) (opens_int Try.underlying3))⟩
theorem op2 : ∃ ok, Opens Try.prog 41 (Kd.pair (Kd.int .i64) Kd.bool) ok := ⟨_, (opens_struct Try.underlying41 (by kernel_rfl) (fs_cons rfl (by kernel_rfl) (opens_int Try.underlying3) (fs_one rfl (by kernel_rfl) (opens_bool Try.underlying4))))⟩
set_option maxRecDepth 100000 in
theorem lifted (os : Os) (started : os.Started) (H : Type) (enc : TypeId × Value → H) :
    ReturnsInHanded {} Try.checked os 7 .any (Rows.staticRoomsSpec.pre6 enc Try.prog Try.f7 Rows.staticRoomsRow.domain false) (Rows.staticRoomsSpec.post enc Try.prog Try.f7 false true false false) := by
  refine returnsInHanded_of_change_sized (C := Try.checked) own started (by kernel_rfl) Try.func7
    (ChangeSpec.witness6 (enc := enc) (C := Try.checked) false ⟨#[], #[.agg #[.int .i64 0, .bool false, .slice none 0 0], .slice none 0 0, .agg #[.int .i64 0, .bool false]], []⟩ 8 (by kernel_rfl) (by kernel_rfl) (by kernel_rfl) (by kernel_rfl)) ?_
  intro W base args ds gs before hval0 hW hcnd hsz0 _
  have hval : ∀ (j : Nat) t v, Try.f7.params[j]? = some t → args[j]? = some v → Value.okWide Try.prog W .any base t v := hval0
  have hW' := hW
  obtain ⟨p, q, hA0, hV, rfl, hfz, hnd⟩ := hW
  have hA : DataW.TrodAll enc Try.prog W 0 (fun _ => true) true Try.f7.params.toList args.toList ds p := hA0
  rw [Try.params7] at hA hval
  obtain ⟨v0, vs0, d0, ds0, p0, q0, hargs, rfl, rfl, h0, r0⟩ := trodAll_cons hA
  obtain ⟨v1, vs1, d1, ds1, p1, q1, rfl, rfl, rfl, h1, r1⟩ := trodAll_cons r0
  obtain ⟨v2, vs2, d2, ds2, p2, q2, rfl, rfl, rfl, h2, r2⟩ := trodAll_cons r1
  obtain ⟨rfl, rfl, rfl⟩ := trodAll_nil r2
  obtain rfl : args = #[v0, v1, v2] := by cases args; simp_all
  obtain ⟨rfl, rfl⟩ := trodVars_none hV
  have k0 := h0
  have lt0 : ∀ x ∈ p0, x.block < W.heap.size := by obtain ⟨m, hm⟩ := k0; exact DataW.trod_lt m _ _ _ hm
  obtain ⟨ok0, ho0⟩ := op0
  obtain ⟨a0, cs0, rfl, hK0, _⟩ := arg_struct Try.underlying24 ho0 (hval 0 24 v0 rfl rfl) h0
  obtain ⟨cs0⟩ := cs0
  obtain ⟨_, _, rfl, rfl, ⟨_, _, rfl, rfl, ⟨A0_0, c0_0, rfl, hc0_0, hr0_0⟩⟩⟩ := hK0
  have k1 := h1
  have lt1 : ∀ x ∈ p1, x.block < W.heap.size := by obtain ⟨m, hm⟩ := k1; exact DataW.trod_lt m _ _ _ hm
  obtain ⟨ok1, ho1⟩ := op1
  obtain ⟨A1_0, c1_0, l1, rfl, hc1_0, hr1_0, _⟩ := arg_slice Try.underlying25 ho1 (hval 1 25 v1 rfl rfl) h1
  have k2 := h2
  have lt2 : ∀ x ∈ p2, x.block < W.heap.size := by obtain ⟨m, hm⟩ := k2; exact DataW.trod_lt m _ _ _ hm
  obtain ⟨ok2, ho2⟩ := op2
  obtain ⟨a2, cs2, rfl, hK2, _⟩ := arg_struct Try.underlying41 ho2 (hval 2 41 v2 rfl rfl) h2
  obtain ⟨cs2⟩ := cs2
  obtain ⟨_, _, rfl, rfl, rfl⟩ := hK2
  clear hA0 hval0 hsz0
  obtain ⟨k, hk⟩ := (Q.staticRooms_ev a0.1 a0.2.1 a0.2.2 l1 a2.1 a2.2).rounds
  refine (ebbtidelaw07_StaticRooms.calls k _ _ _ _ _ _ _ _ _ _  true W hr0_0 hc0_0 hr1_0 hc1_0 hk).mono fun e W' ⟨he, bel⟩ => ?_
  subst he
  exact ⟨_, rfl, _, _, _, [], _, [], hW', trodAll_mk1 (shut_bool Try.underlying4 _), (trodAll_cons_mk (Below.trod laidOut (by kernel_rfl) (of_decide_eq_true (by kernel_rfl)) k0 bel lt0) (trodAll_cons_mk (Below.trod laidOut (by kernel_rfl) (of_decide_eq_true (by kernel_rfl)) k1 bel lt1) (trodAll_cons_mk (Below.trod laidOut (by kernel_rfl) (of_decide_eq_true (by kernel_rfl)) k2 bel lt2) trodAll_mk0))), rfl, bel.frame _, fun h => by cases h⟩
theorem over : Rows.staticRoomsRow.holds Try.pinned (OpenSpec.ofChange Rows.staticRoomsSpec) :=
  OpenClaim.holds_of_wide 7 Try.f7 rfl rfl rfl rfl rfl rfl rfl ⟨rfl, rfl, rfl, rfl, rfl⟩ rfl rfl rfl rfl rfl (by kernel_rfl) Try.func7 (by kernel_rfl)
    (of_decide_eq_true (by kernel_rfl)) (by unfold Func.isWrapper; first | (rw [if_pos (by decide +kernel)]; kernel_rfl) | (rw [if_neg (by decide +kernel)]; exact ⟨rfl, rfl⟩))
    (fun os started H enc _ => lifted os started H enc)
theorem proved : Rows.StaticRoomsSaid := over
#print axioms proved
end Go.Proofs.Ytghdpoabpodieaa.staticRooms
namespace Go.Proofs.Ytghdpoabpodieaa
/-- The row, under a short name, for the claim. -/
theorem staticRooms_holds : Rows.StaticRoomsSaid := staticRooms.proved
end Go.Proofs.Ytghdpoabpodieaa
