/- StaticChecks: the program's and the document's answers are one plain function each. -/
import Derived.Test.YtghdpoabpodieaaP25
import Derived.Test.YtghdpoabpodieaaQBase
import Derived.Test.YtghdpoabpodieaaQNet
import Derived.Test.YtghdpoabpodieaaQFlow
import Derived.Test.YtghdpoabpodieaaQAwake07
namespace Go.Proofs.Ytghdpoabpodieaa.Q
open Go.RowKit Go.Proofs.YtghdpoabpodieaaW.PrintWords Go.Proofs.YtghdpoabpodieaaW.PrintLast Go.Proofs.YtghdpoabpodieaaW.PrintMore Go.Proofs.Ytghdpoabpodieaa.P
theorem balRes_len (n : Int) (l : List S48) (f : List Int) : (balRes n l f).1.length ≤ 9223372036854775807 := by
  unfold balRes
  split
  · rename_i h
    have := (askErr_ok h).1.hi
    rw [balOf_len]
    omega
  · exact Nat.zero_le _
theorem staticChecks_ev (n : Int) (b : Bool) (l : List S48) (s t : Int) (f : List Int) : Ev (fun k => ebbtidelaw07_StaticChecks.f k n b l s t f) true := by
  unfold ebbtidelaw07_StaticChecks.f
  refine Ev.bind (balance_ev n b l f) ?_
  refine Ev.bind (ref_balance_ev n b l f) ?_
  refine Ev.bind (value_ev n b l s t f) ?_
  refine Ev.bind (ref_value_ev n b l s t f) ?_
  refine Ev.bind awake07_ev ?_
  refine Ev.pos rfl ?_
  refine Ev.bind (ends_ev n b l s t) ?_
  refine Ev.bind (ref_ends_ev n b l s t) ?_
  refine Ev.pos rfl ?_
  refine Ev.bind (same_ev _ _ (balRes_len n l f)) ?_
  refine Ev.pos (decide_eq_true rfl) ?_
  refine Ev.pos rfl ?_
  refine Ev.pos rfl ?_
  exact Ev.done (beq_self_eq_true _)
end Go.Proofs.Ytghdpoabpodieaa.Q
