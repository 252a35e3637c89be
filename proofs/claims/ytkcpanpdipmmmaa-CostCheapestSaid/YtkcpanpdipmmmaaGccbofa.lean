/- Joined by wip/tool/bundle.py out of: QTightDef. -/
import Derived.Test.YtkcpanpdipmmmaaGampnig
set_option linter.unusedVariables false
set_option linter.unusedSimpArgs false
/- Tight numbers: what they say of a flow's steps, and that no way back gains. -/
namespace Go.Proofs.Ytkcpanpdipmmmaa.Q
open Go.RowKit Go.Proofs.YtkcpanpdipmmmaaW.PrintWords Go.Proofs.YtkcpanpdipmmmaaW.PrintLast Go.Proofs.YtkcpanpdipmmmaaW.PrintMore Go.Proofs.Ytkcpanpdipmmmaa.P
open Go.Proofs.Ytkcpanpdipmmmaa.H (freeRes freeB freeB_iff refF Right right_of StepOf stFrom stTo stTime stRoom stepsR mem_stepsR NoGain refE)
def okT (l : List S74) (p : List Int) (s : S38) : Bool := decide (rd p (stTo l s) ≤ rd p (stFrom l s) + stTime l s)
def tightB (l : List S74) (F p : List Int) : Bool := (stepsR l F F.length).all (okT l p)
theorem okT_iff {l : List S74} {p : List Int} {s : S38} : okT l p s = true ↔ rd p (stTo l s) ≤ rd p (stFrom l s) + stTime l s := by unfold okT; exact decide_eq_true_iff
theorem tight_noGain {l : List S74} {F p : List Int} {n : Nat} (hr : Right l F n) (h : tightB l F p = true) : NoGain (refE l F) (fun v => v < n) := by
 unfold tightB at h
 rw [List.all_eq_true] at h
 refine H.Tight.noGain (p := fun v => rd p (v : Int)) ?_
 intro e he _
 refine ⟨(H.refE_in hr e he).2, ?_⟩
 obtain ⟨s, hs, rfl⟩ := List.mem_map.1 he
 have hf := H.stFrom_in hr (H.stepsR_of hr s hs)
 have ht := H.stTo_in hr (H.stepsR_of hr s hs)
 have := okT_iff.1 (h s hs)
 show rd p (((stTo l s).toNat : Nat) : Int) ≤ rd p (((stFrom l s).toNat : Nat) : Int) + stTime l s
 rw [Int.toNat_of_nonneg hf.1, Int.toNat_of_nonneg ht.1]
 exact this
theorem tight_free {l : List S74} {F p : List Int} {n : Nat} (hr : Right l F n) (h : tightB l F p = true) : freeB l F n = true :=
 (freeB_iff l F n).2 (H.noGain_refs hr (tight_noGain hr h))
end Go.Proofs.Ytkcpanpdipmmmaa.Q
