/-
  No cell of these rows narrows 'for every input' (looked for: loops, veiled, ifaces, maps, wideKeys, modest, calm, conditions, laid).
  DERIVED. THE GIVEN ROWS OF THIS SEAT. 4 by the template 'for every input the law returns true; each argument reads behind the call as it read before'; 0 by the template 'total and deterministic' (their statements: YtjaoknhhoicigaaTotals.lean).
  GIVEN WITH THE SEED: the statements are not yours to turn. If you find one false, say at which input.
  Laid BY PROGRAM, IN A SANDBOX (cutbox-rows.mjs): the forced cells as the released guide's own fill.sh prints them over the translation ec3c32ed18655bcc… (all of the seat's roots in one cut). By AI agents, Wed Nov 11 2026. No macro, syntax, notation, axiom, sorry.
-/
import Derived.Test.YtjaoknhhoicigaaChecked
import GoSem.Claim
import GoSem.ClaimJoined
import GoSem.ClaimMapViews
import Derived.JoinedTies
import Derived.KernelRfl
namespace Go.Proofs.Ytjaoknhhoicigaa
/- THE CELL 'sum', in the pinned program and in every row, IS THE sha256 OF THE DUMP (.gsa) THAT YtjaoknhhoicigaaProg.lean LOADS. Nothing in Lean hashes anything: it is a label: what it is worth is what the hold of that sum in a sandbox is worth. -/
noncomputable def Try.pinned : Pinned := { name := "ytjaoknhhoicigaa", sum := "ec3c32ed18655bcc6a1507bfd597fa8c4fb0c5233b61e6a8130ec7906ff37630", checked := Try.checked }
namespace Rows
def none {H : Type} : Left H := { results := [], args := [] }

/-- 'ebbtidelaw18.TimecutBounds': WHATEVER THE INPUT: true; the input reads as it did. -/
def timecutBoundsSpec : ChangeSpec := { name := "timecutBounds", fn := fun _ => fun
  | [d1, d2] => { results := [.lit (.bool true)], args := [d1, d2] }
  | _ => none }
def timecutBoundsRow : OpenClaim := { program := "ytjaoknhhoicigaa", sum := "ec3c32ed18655bcc6a1507bfd597fa8c4fb0c5233b61e6a8130ec7906ff37630", func := "ebbtide/ebbtidelaw18.TimecutBounds", spec := "timecutBounds", unfollowed := true, recurses := true, plainKeys := false, apart := false }
def TimecutBoundsSaid : Prop := timecutBoundsRow.holds Try.pinned (OpenSpec.ofChange timecutBoundsSpec)

/-- ITS FALSE NEIGHBOUR: 'it returns false'. Refute it at one input. -/
def timecutBoundsWrong : ChangeSpec := { name := "timecutBounds", fn := fun _ => fun
  | [d1, d2] => { results := [.lit (.bool false)], args := [d1, d2] }
  | _ => none }
def TimecutBoundsWrongFalsely : Prop := timecutBoundsRow.holds Try.pinned (OpenSpec.ofChange timecutBoundsWrong)

/-- 'ebbtidelaw18.TimecutAny': WHATEVER THE INPUT: true; the input reads as it did. -/
def timecutAnySpec : ChangeSpec := { name := "timecutAny", fn := fun _ => fun
  | [d1, d2, d3, d4, d5, d6] => { results := [.lit (.bool true)], args := [d1, d2, d3, d4, d5, d6] }
  | _ => none }
def timecutAnyRow : OpenClaim := { program := "ytjaoknhhoicigaa", sum := "ec3c32ed18655bcc6a1507bfd597fa8c4fb0c5233b61e6a8130ec7906ff37630", func := "ebbtide/ebbtidelaw18.TimecutAny", spec := "timecutAny", unfollowed := true, recurses := true, plainKeys := false, apart := false }
def TimecutAnySaid : Prop := timecutAnyRow.holds Try.pinned (OpenSpec.ofChange timecutAnySpec)

/-- ITS FALSE NEIGHBOUR: 'it returns false'. Refute it at one input. -/
def timecutAnyWrong : ChangeSpec := { name := "timecutAny", fn := fun _ => fun
  | [d1, d2, d3, d4, d5, d6] => { results := [.lit (.bool false)], args := [d1, d2, d3, d4, d5, d6] }
  | _ => none }
def TimecutAnyWrongFalsely : Prop := timecutAnyRow.holds Try.pinned (OpenSpec.ofChange timecutAnyWrong)

/-- 'ebbtidelaw18.TimecutMeets': WHATEVER THE INPUT: true; the input reads as it did. -/
def timecutMeetsSpec : ChangeSpec := { name := "timecutMeets", fn := fun _ => fun
  | [d1, d2, d3] => { results := [.lit (.bool true)], args := [d1, d2, d3] }
  | _ => none }
def timecutMeetsRow : OpenClaim := { program := "ytjaoknhhoicigaa", sum := "ec3c32ed18655bcc6a1507bfd597fa8c4fb0c5233b61e6a8130ec7906ff37630", func := "ebbtide/ebbtidelaw18.TimecutMeets", spec := "timecutMeets", unfollowed := true, recurses := true, plainKeys := false, apart := false }
def TimecutMeetsSaid : Prop := timecutMeetsRow.holds Try.pinned (OpenSpec.ofChange timecutMeetsSpec)

/-- ITS FALSE NEIGHBOUR: 'it returns false'. Refute it at one input. -/
def timecutMeetsWrong : ChangeSpec := { name := "timecutMeets", fn := fun _ => fun
  | [d1, d2, d3] => { results := [.lit (.bool false)], args := [d1, d2, d3] }
  | _ => none }
def TimecutMeetsWrongFalsely : Prop := timecutMeetsRow.holds Try.pinned (OpenSpec.ofChange timecutMeetsWrong)

/-- 'ebbtidelaw18.TimecutLeast': WHATEVER THE INPUT: true; the input reads as it did. -/
def timecutLeastSpec : ChangeSpec := { name := "timecutLeast", fn := fun _ => fun
  | [d1, d2] => { results := [.lit (.bool true)], args := [d1, d2] }
  | _ => none }
def timecutLeastRow : OpenClaim := { program := "ytjaoknhhoicigaa", sum := "ec3c32ed18655bcc6a1507bfd597fa8c4fb0c5233b61e6a8130ec7906ff37630", func := "ebbtide/ebbtidelaw18.TimecutLeast", spec := "timecutLeast", unfollowed := true, recurses := true, plainKeys := false, apart := false }
def TimecutLeastSaid : Prop := timecutLeastRow.holds Try.pinned (OpenSpec.ofChange timecutLeastSpec)

/-- ITS FALSE NEIGHBOUR: 'it returns false'. Refute it at one input. -/
def timecutLeastWrong : ChangeSpec := { name := "timecutLeast", fn := fun _ => fun
  | [d1, d2] => { results := [.lit (.bool false)], args := [d1, d2] }
  | _ => none }
def TimecutLeastWrongFalsely : Prop := timecutLeastRow.holds Try.pinned (OpenSpec.ofChange timecutLeastWrong)

/- THE SECOND FORM. 'bulk': how many values and letters a reading holds, each counted each time it is reached (what is shared counts as often as it is met; a slice's spare places count too). A statement '..UptoSaid' is the law's where the arguments, and the package variables that the reading takes, are together of bulk at most 1048576: NARROWER than '..Said'. Prove '..Said' where nothing that the law and all that it calls make is longer than what came in: it says more and counts as full. Else prove '..UptoSaid'. A law counts once. -/
mutual
def uptoBulk {H : Type} : DataW H → Nat
  | .lit (.string bytes) => bytes.length + 1
  | .lit _ => 1
  | .nil => 1
  | .ptr d => uptoBulk d + 1
  | .slice elems spare => uptoBulkAll elems + uptoBulkAll spare + 1
  | .agg parts => uptoBulkAll parts + 1
  | .iface _ d => uptoBulk d + 1
  | .map entries => uptoBulkEntries entries + 1
  | .held _ => 1
def uptoBulkAll {H : Type} : List (DataW H) → Nat
  | [] => 0
  | d :: r => uptoBulk d + uptoBulkAll r
def uptoBulkEntries {H : Type} : List (Lit × DataW H) → Nat
  | [] => 0
  | x :: r => uptoBulkEntry x + uptoBulkEntries r
def uptoBulkEntry {H : Type} : Lit × DataW H → Nat
  | (.string bytes, d) => bytes.length + uptoBulk d + 1
  | (_, d) => uptoBulk d + 1
 end
def uptoSmall : (H : Type) → List (DataW H) → Bool := fun _ ds => decide (uptoBulkAll ds ≤ 1048576)
def OpenSpec.upto (s : _root_.Go.ChangeSpec) : _root_.Go.OpenSpec := { _root_.Go.OpenSpec.ofChange s with cond := some uptoSmall }

/-- 'ebbtidelaw18.TimecutBounds', WHERE WHAT IT READS IS OF BULK AT MOST 1048576: true; the input reads as it did. -/
def timecutBoundsUptoRow : OpenClaim := { program := "ytjaoknhhoicigaa", sum := "ec3c32ed18655bcc6a1507bfd597fa8c4fb0c5233b61e6a8130ec7906ff37630", func := "ebbtide/ebbtidelaw18.TimecutBounds", spec := "timecutBounds", unfollowed := true, recurses := true, plainKeys := false, apart := false, narrowed := true }
def TimecutBoundsUptoSaid : Prop := timecutBoundsUptoRow.holds Try.pinned (OpenSpec.upto timecutBoundsSpec)

/-- 'ebbtidelaw18.TimecutAny', WHERE WHAT IT READS IS OF BULK AT MOST 1048576: true; the input reads as it did. -/
def timecutAnyUptoRow : OpenClaim := { program := "ytjaoknhhoicigaa", sum := "ec3c32ed18655bcc6a1507bfd597fa8c4fb0c5233b61e6a8130ec7906ff37630", func := "ebbtide/ebbtidelaw18.TimecutAny", spec := "timecutAny", unfollowed := true, recurses := true, plainKeys := false, apart := false, narrowed := true }
def TimecutAnyUptoSaid : Prop := timecutAnyUptoRow.holds Try.pinned (OpenSpec.upto timecutAnySpec)

/-- 'ebbtidelaw18.TimecutMeets', WHERE WHAT IT READS IS OF BULK AT MOST 1048576: true; the input reads as it did. -/
def timecutMeetsUptoRow : OpenClaim := { program := "ytjaoknhhoicigaa", sum := "ec3c32ed18655bcc6a1507bfd597fa8c4fb0c5233b61e6a8130ec7906ff37630", func := "ebbtide/ebbtidelaw18.TimecutMeets", spec := "timecutMeets", unfollowed := true, recurses := true, plainKeys := false, apart := false, narrowed := true }
def TimecutMeetsUptoSaid : Prop := timecutMeetsUptoRow.holds Try.pinned (OpenSpec.upto timecutMeetsSpec)

/-- 'ebbtidelaw18.TimecutLeast', WHERE WHAT IT READS IS OF BULK AT MOST 1048576: true; the input reads as it did. -/
def timecutLeastUptoRow : OpenClaim := { program := "ytjaoknhhoicigaa", sum := "ec3c32ed18655bcc6a1507bfd597fa8c4fb0c5233b61e6a8130ec7906ff37630", func := "ebbtide/ebbtidelaw18.TimecutLeast", spec := "timecutLeast", unfollowed := true, recurses := true, plainKeys := false, apart := false, narrowed := true }
def TimecutLeastUptoSaid : Prop := timecutLeastUptoRow.holds Try.pinned (OpenSpec.upto timecutLeastSpec)

end Rows
end Go.Proofs.Ytjaoknhhoicigaa
