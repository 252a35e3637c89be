/- What the law's row needs of these texts, taken out of them by wip/tool/mini.py: QSortAll QArrRow QSetBase QBase QRefLaw QSetFm QRefFm QRefFrom P14 P15 P16 P17 P12 P34 QNet QFlowA QRefCalls P36 P13 P18. -/
import Derived.Test.YtkcpanpdipmmmaaManjihn
import Derived.Test.YtkcpanpdipmmmaaMiblflf
import Derived.Test.YtkcpanpdipmmmaaVbilbgi
import Derived.RegionTactic
import Derived.ChangeAlike
import Derived.BigRegion
import Derived.LoopTactic
import Derived.WalkKit
set_option linter.unusedVariables false
set_option linter.unusedSimpArgs false
namespace Go.Proofs.Ytkcpanpdipmmmaa.H
open Go.RowKit Go.Proofs.YtkcpanpdipmmmaaW.PrintWords Go.Proofs.YtkcpanpdipmmmaaW.PrintLast Go.Proofs.YtkcpanpdipmmmaaW.PrintMore Go.Proofs.Ytkcpanpdipmmmaa.P
def Blk (K : Nat → S38) (bs lo hi : Nat) : Prop := ∀ t i j, t * bs + lo ≤ i → i < j → j < t * bs + bs + lo → j < hi → (K i).f0 ≤ (K j).f0
theorem blk_shift {K : Nat → S38} {bs lo hi : Nat} (h : Blk K bs lo hi) : Blk K bs (lo + bs) hi := fun t i j h1 h2 h3 h4 => by
 have e : (t + 1) * bs = t * bs + bs := Nat.succ_mul t bs
 exact h (t + 1) i j (by omega) h2 (by omega) h4
theorem blk_head {K : Nat → S38} {bs lo hi c : Nat} (h : Blk K bs lo hi) (h1 : c ≤ lo + bs) (h2 : c ≤ hi) : Le K lo c := fun i j k1 k2 k3 => h 0 i j (by omega) k2 (by omega) (by omega)
theorem blk_snoc {K : Nat → S38} {bs a c k : Nat} (h : Blk K bs 0 a) (ha : a = k * bs) (hl : Le K a c) : Blk K bs 0 c := fun t i j h1 h2 h3 h4 => by
 by_cases e1 : j < a
 ·exact h t i j h1 h2 h3 e1
 ·by_cases e2 : a ≤ i
  ·exact hl i j e2 h2 h4
  ·exfalso
   have e : (t + 1) * bs = t * bs + bs := Nat.succ_mul t bs
   have l1 : t * bs < k * bs := by omega
   have l2 : k * bs < (t + 1) * bs := by omega
   have := Nat.lt_of_mul_lt_mul_right l1
   have := Nat.lt_of_mul_lt_mul_right l2
   omega
theorem blk_mix {K L : Nat → S38} {bs lo hi c d : Nat} (h : Blk K bs lo hi) (hm : Mix K L c d) (hd : hi ≤ c ∨ d ≤ lo) : Blk L bs lo hi := fun t i j h1 h2 h3 h4 => by
 rw [hm.1 i (by omega), hm.1 j (by omega)]; exact h t i j h1 h2 h3 h4
theorem blk_nil (K : Nat → S38) (bs lo : Nat) : Blk K bs lo lo := fun t i j h1 h2 h3 h4 => by omega
def Base3 (M K : Nat → S38) (N : Nat) : Prop := Mix M K 0 N ∧ Stab K N ∧ Small K N
theorem base_more {M K L : Nat → S38} {N a b : Nat} (h : Base3 M K N) (hl : Sorted K L N a b) (hb : b ≤ N) : Base3 M L N := ⟨mix_trans h.1 (mix_wide hl.1 (Nat.zero_le _) hb), hl.2.1, hl.2.2.1⟩
set_option maxHeartbeats 2000000 in
set_option maxRecDepth 100000 in
theorem stable_calls (g N cap : Nat) (M : Nat → S38) (w : World) (h : Arr w g N M) (hN : N ≤ 1000000) (hs : Stab M N) (hsm : Small M N) :
  Calls Try.prog 162 #[.slice (some ⟨g, 0, none⟩) N cap, .int .i64 (N : Int), .func (.func 144) #[] #[]] w fun e w' => e = .returned (.tuple #[]) ∧ (∃ K, Arr w' g N K ∧ Sorted M K N 0 N) ∧ Fr w w' g := by
 have HA := Aside0.mk h
 have HB := Aside0.mk (show Base3 M M N from ⟨mix_refl _ _ _, hs, hsm⟩)
 clear h hs hsm
 go_enter Try.func162, Try.ntmps162
 go_wp2_with fail
 go_loopw [7, 8] (fun va vb wr => ∃ a : Nat, a ≤ N ∧ va = .int .i64 a ∧ vb = .int .i64 ((a : Int) + 20) ∧ (∃ k, Aside0 (a = k * 20)) ∧ (∃ K, Aside0 (Arr wr g N K) ∧ Aside0 (Base3 M K N) ∧ Aside0 (Blk K 20 0 a)) ∧ Aside0 (Fr w wr g)) (fun va _ _ => N + 1 - (intOf va).toNat)
 case atStart => exact ⟨0, by omega, by go_num, by go_num, ⟨0, ⟨rfl⟩⟩, ⟨M, HA, HB, ⟨blk_nil _ _ _⟩⟩, ⟨grow_refl _ _⟩⟩
 case round =>
  clear HA HB
  obtain ⟨a, haN, rfl, rfl, ⟨k, hk⟩, ⟨K, HA1, HB1, HK⟩, HG⟩ := hrel
  by_cases hlt : a + 20 ≤ N
  ·have hz : (a : Int) + 20 = ((a + 20 : Nat) : Int) := by omega
   have hcb : decide (((a + 20 : Nat) : Int) ≤ (N : Int)) = true := decide_eq_true (by omega)
   rw [hz]
   clear hz
   go_wp2_with fail
   refine (insertion_calls g N cap K a (a + 20) _ HA1.out hN (by omega) hlt HB1.out.2.1 HB1.out.2.2).mono ?_
   rintro e1 w1 ⟨rfl, ⟨K1, ha1, hk1⟩, hg1⟩
   have HA2 := Aside0.mk ha1
   have HB2 : Aside0 (Base3 M K1 N) := ⟨base_more HB1.out hk1 hlt⟩
   have HK2 : Aside0 (Blk K1 20 0 (a + 20)) := ⟨blk_snoc (blk_mix HK.out hk1.1 (Or.inl (Nat.le_refl _))) hk.out hk1.2.2.2⟩
   have HG2 : Aside0 (Fr w w1 g) := ⟨grow_trans HG.out hg1⟩
   have hk2 : Aside0 (a + 20 = (k + 1) * 20) := by have := hk.out; exact ⟨by omega⟩
   clear ha1 hk1 hg1 HA1 HB1 HK HG hk
   go_wp2_with fail
   go_roundw
   case rel => exact ⟨a + 20, hlt, rfl, by go_num, ⟨k + 1, hk2⟩, ⟨K1, HA2, HB2, HK2⟩, HG2⟩
   case measure => simp [intOf] <;> omega
  ·have hcb : decide ((a : Int) + 20 ≤ (N : Int)) = false := decide_eq_false (by omega)
   go_wp2_with fail
   refine (insertion_calls g N cap K a N _ HA1.out hN haN (Nat.le_refl _) HB1.out.2.1 HB1.out.2.2).mono ?_
   rintro e1 w1 ⟨rfl, ⟨K1, ha1, hk1⟩, hg1⟩
   have HA2 := Aside0.mk ha1
   have HB2 : Aside0 (Base3 M K1 N) := ⟨base_more HB1.out hk1 (Nat.le_refl _)⟩
   have HK2 : Aside0 (Blk K1 20 0 N) := ⟨blk_snoc (blk_mix HK.out hk1.1 (Or.inl (Nat.le_refl _))) hk.out hk1.2.2.2⟩
   have HG2 : Aside0 (Fr w w1 g) := ⟨grow_trans HG.out hg1⟩
   clear ha1 hk1 hg1 HA1 HB1 HK HG hk hcb
   go_wp2_with fail
   go_loopw [6] (fun vs wr => ∃ s : Nat, 0 < s ∧ s ≤ 2000020 ∧ vs = .int .i64 s ∧ (∃ K, Aside0 (Arr wr g N K) ∧ Aside0 (Base3 M K N) ∧ Aside0 (Blk K s 0 N)) ∧ Aside0 (Fr w wr g)) (fun vs _ => N - (intOf vs).toNat)
   case atStart => exact ⟨20, by omega, by omega, by go_num, ⟨K1, HA2, HB2, HK2⟩, HG2⟩
   case round =>
    clear HA2 HB2 HK2 HG2
    obtain ⟨s, hs0, hs1, rfl, ⟨K, HA1, HB1, HK⟩, HG⟩ := hrel
    by_cases hsn : s < N
    ·obtain ⟨s2, hs2⟩ : ∃ s2, 2 * s = s2 := ⟨_, rfl⟩
     have hz : (2 : Int) * (s : Int) = (s2 : Int) := by omega
     have hz3 : (s : Int) * 2 = (s2 : Int) := by omega
     have bs2 : s2 ≤ 2000000 := by omega
     have hcs : decide ((s : Int) < (N : Int)) = true := decide_eq_true (by omega)
     have HS := Aside0.mk hs2
     have HK0 : Aside0 (Blk K s2 0 0 ∧ Blk K s 0 N) := ⟨blk_nil _ _ _, HK.out⟩
     clear HK hs2
     go_wp2_with fail
     obtain ⟨wo, rfl⟩ : ∃ wo : World, wo = wr := ⟨_, rfl⟩
     go_loopw [7, 8] (fun va vb wr => ∃ a b : Nat, a ≤ N ∧ va = .int .i64 a ∧ vb = .int .i64 b ∧ Aside0 (a + s2 = b) ∧ (∃ k, Aside0 (a = k * s2)) ∧ (∃ K, Aside0 (Arr wr g N K) ∧ Aside0 (Base3 M K N) ∧ Aside0 (Blk K s2 0 a ∧ Blk K s a N)) ∧ Aside0 (Fr w wr g)) (fun va _ _ => N + 1 - (intOf va).toNat)
     case atStart => exact ⟨0, s2, by omega, by go_num, rfl, ⟨by omega⟩, ⟨0, ⟨by omega⟩⟩, ⟨K, HA1, HB1, HK0⟩, HG⟩
     case round =>
      clear HA1 HB1 HK0 HG
      obtain ⟨a, b, haN, rfl, rfl, HBB, ⟨k, hk⟩, ⟨K, HA1, HB1, HK⟩, HG⟩ := hrel
      obtain ⟨m, hm⟩ : ∃ m, a + s = m := ⟨_, rfl⟩
      have hz2 : (a : Int) + (s : Int) = (m : Int) := by omega
      have HM := Aside0.mk hm
      clear hm
      by_cases hlt : b ≤ N
      ·have hcb : decide ((b : Int) ≤ (N : Int)) = true := decide_eq_true (by omega)
       go_wp2_with fail
       refine (sym_ok g N cap hN N K a m b _ (by omega) HA1.out (by have := HM.out; omega) (by have := HM.out; have := HBB.out; have := HS.out; omega) hlt HB1.out.2.1 HB1.out.2.2 (blk_head HK.out.2 (by have := HM.out; omega) (by have := HM.out; have := HBB.out; have := HS.out; omega)) (blk_head (by rw [← HM.out]; exact blk_shift HK.out.2) (by have := HM.out; have := HBB.out; have := HS.out; omega) hlt)).mono ?_
       rintro e1 w1 ⟨rfl, ⟨K1, ha1, hk1⟩, hg1⟩
       have HA2 := Aside0.mk ha1
       have HB2 : Aside0 (Base3 M K1 N) := ⟨base_more HB1.out hk1 hlt⟩
       have HK2 : Aside0 (Blk K1 s2 0 b ∧ Blk K1 s b N) := ⟨blk_snoc (blk_mix HK.out.1 hk1.1 (Or.inl (Nat.le_refl _))) hk.out hk1.2.2.2, blk_mix (by rw [show b = a + s + s by have := HBB.out; have := HS.out; omega]; exact blk_shift (blk_shift HK.out.2)) hk1.1 (Or.inr (Nat.le_refl _))⟩
       have HG2 : Aside0 (Fr w w1 g) := ⟨grow_trans HG.out hg1⟩
       have hk2 : Aside0 (b = (k + 1) * s2) := ⟨by rw [Nat.succ_mul, ← hk.out, HBB.out]⟩
       have hlb : Aside0 (a < b) := ⟨by have := HBB.out; have := HS.out; omega⟩
       clear ha1 hk1 hg1 HA1 HB1 HK HG hk HBB HM
       go_wp2_with fail
       go_roundw
       case rel => exact ⟨b, b + s2, hlt, rfl, by rw [Int.natCast_add], ⟨rfl⟩, ⟨k + 1, hk2⟩, ⟨K1, HA2, HB2, HK2⟩, HG2⟩
       case measure => have := hlb.out; simp [intOf] <;> omega
      ·have hcb : decide ((b : Int) ≤ (N : Int)) = false := decide_eq_false (by omega)
       have hsp : Aside0 (0 < s2 ∧ s < s2) := ⟨by have := HS.out; omega⟩
       by_cases hmn : m < N
       ·have hcm : decide ((m : Int) < (N : Int)) = true := decide_eq_true (by omega)
        go_wp2_with fail
        refine (sym_ok g N cap hN N K a m N _ (by omega) HA1.out (by have := HM.out; omega) hmn (Nat.le_refl _) HB1.out.2.1 HB1.out.2.2 (blk_head HK.out.2 (by have := HM.out; omega) (by omega)) (blk_head (by rw [← HM.out]; exact blk_shift HK.out.2) (by have := HM.out; have := HBB.out; have := HS.out; omega) (Nat.le_refl _))).mono ?_
        rintro e1 w1 ⟨rfl, ⟨K1, ha1, hk1⟩, hg1⟩
        have HA2 := Aside0.mk ha1
        have HB2 : Aside0 (Base3 M K1 N) := ⟨base_more HB1.out hk1 (Nat.le_refl _)⟩
        have HK2 : Aside0 (Blk K1 s2 0 N) := ⟨blk_snoc (blk_mix HK.out.1 hk1.1 (Or.inl (Nat.le_refl _))) hk.out hk1.2.2.2⟩
        have HG2 : Aside0 (Fr w w1 g) := ⟨grow_trans HG.out hg1⟩
        clear ha1 hk1 hg1 HA1 HB1 HK HG hk HBB HM
        go_wp2_with fail
        go_roundw
        case rel => exact ⟨s2, hsp.out.1, by omega, rfl, ⟨K1, HA2, HB2, HK2⟩, HG2⟩
        case measure => have := hsp.out; simp [intOf] <;> omega
       ·have hcm : decide ((m : Int) < (N : Int)) = false := decide_eq_false (by omega)
        have HK2 : Aside0 (Blk K s2 0 N) := ⟨blk_snoc HK.out.1 hk.out (blk_head HK.out.2 (by have := HM.out; omega) (Nat.le_refl _))⟩
        clear HK hk HBB HM
        go_wp2_with fail
        go_roundw
        case rel => exact ⟨s2, hsp.out.1, by omega, rfl, ⟨K, HA1, HB1, HK2⟩, HG⟩
        case measure => have := hsp.out; simp [intOf] <;> omega
    ·have hcs : decide ((s : Int) < (N : Int)) = false := decide_eq_false (by omega)
     go_wp2_with fail
     go_end0
     exact ⟨rfl, ⟨K, HA1.out, HB1.out.1, HB1.out.2.1, HB1.out.2.2, blk_head HK.out (by omega) (Nat.le_refl _)⟩, HG.out⟩
theorem sortStable_calls (g N cap : Nat) (M : Nat → S38) (w : World) (h : Arr w g N M) (hN : N ≤ 1000000) (hs : Stab M N) (hsm : Small M N) :
  Calls Try.prog 143 #[.slice (some ⟨g, 0, none⟩) N cap, .func (.func 144) #[] #[]] w fun e w' => e = .returned (.tuple #[]) ∧ (∃ K, Arr w' g N K ∧ Sorted M K N 0 N) ∧ Fr w w' g := by
 go_enter Try.func143, Try.ntmps143
 go_wp2_with fail
 refine (stable_calls g N cap M w h hN hs hsm).mono ?_
 rintro e1 w1 ⟨rfl, h1, h2⟩
 go_wp2_with fail
 go_end0
 exact ⟨rfl, h1, h2⟩
end Go.Proofs.Ytkcpanpdipmmmaa.H
namespace Go.Proofs.Ytkcpanpdipmmmaa.H
open Go.RowKit Go.Proofs.YtkcpanpdipmmmaaW.PrintWords Go.Proofs.YtkcpanpdipmmmaaW.PrintLast Go.Proofs.YtkcpanpdipmmmaaW.PrintMore Go.Proofs.Ytkcpanpdipmmmaa.P
theorem arr_of_R {w : World} {base g cap : Nat} {ok : Nat → Prop} {xs : List S38} (h : Kd.R k38 38 w base ok (.slice (some ⟨g, 0, none⟩) xs.length cap) xs) (hp : 0 < xs.length) : Arr w g xs.length fun i => xs.getD i z38 := by
 obtain ⟨g2, cap2, e, _, _, cells, hb⟩ := Kd.R_form h hp
 have eg : g = g2 := by
  injection e with e1 e2 e3
  injection e1 with e1
  injection e1
 subst eg
 refine ⟨cells, hb, fun x hx => ?_⟩
 obtain ⟨ad, ea, h1, h2⟩ := at_T38 (Kd.R_reads' h).2.2 (x : Int) (by omega) (by omega)
 injection ea with ea
 subst ea
 simp only [Int.toNat_natCast, add_plain] at h1 h2
 constructor
 ·have := h1
  simp only [World.cell?, hb] at this
  simpa [rd_T38] using this
 ·have := h2
  simp only [World.cell?, hb] at this
  simpa [rd_T38] using this
theorem R_of_arr {w w' : World} {base g N cap : Nat} {ok ok' : Nat → Prop} {xs : List S38} {K : Nat → S38} (h : Kd.R k38 38 w base ok (.slice (some ⟨g, 0, none⟩) xs.length cap) xs) (hN : xs.length = N) (hp : 0 < N) (ha : Arr w' g N K) (hf : Fr w w' g) (hok : ok' g) :
  Kd.R k38 38 w' base ok' (.slice (some ⟨g, 0, none⟩) N cap) ((List.range N).map K) := by
 obtain ⟨h0, inner, ho, hr⟩ := h
 obtain ⟨cells', hb', hc⟩ := ha
 obtain ⟨_, hq⟩ := ho
 rcases hq with ⟨e, _⟩ | ⟨g2, cap2, cur, e, hbase, hb, hn, hm, hs, ht⟩
 ·injection e with e1; cases e1
 ·injection e with e1 e2 e3
  injection e1 with e1
  injection e1 with e1
  subst e1; subst e3
  obtain ⟨c2, hb2, hs2⟩ := hf.2 _ _ _ hb
  have ec : c2 = cells' := by
   have := hb2.symm.trans hb'
   injection this with this
   injection this
  subst ec
  have hlen : (c2.toList.take (N * 2)).length = N * 2 := by
   rw [List.length_take, Array.length_toList, hs2, hs]
   have : N ≤ cap := by omega
   have : N * 2 ≤ cap * 2 := Nat.mul_le_mul_right _ this
   show min (N * 2) (cap * 2) = N * 2
   omega
  refine ⟨fun k hk => ?_, c2.toList.take (N * 2), ⟨?_, Or.inr ⟨g, cap, c2, ?_, hbase, hb2, ?_, hm, by rw [hs2, hs], ?_⟩⟩, ?_, fun j p hj => ?_⟩
  ·have : g = k := by simpa [Value.ownBlock] using hk
   subst this; exact hok
  ·rw [hlen, List.length_map, List.length_range]; rfl
  ·rw [List.length_map, List.length_range]
  ·rw [List.length_map, List.length_range]; omega
  ·rw [List.length_map, List.length_range]; rfl
  ·rw [hlen, List.length_map, List.length_range]; rfl
  ·rw [List.getElem?_map] at hj
   obtain ⟨q, hq, rfl⟩ := Option.map_eq_some_iff.1 hj
   have hjN : j < N := by
    have := (List.getElem?_eq_some_iff.1 hq).1
    rwa [List.length_range] at this
   have eq : q = j := by
    rw [List.getElem?_range hjN] at hq
    injection hq with hq; exact hq.symm
   subst eq
   have e : ((c2.toList.take (N * 2)).drop (q * 2)).take 2 = [.int .i64 (K q).f0, .bool (K q).f1] := by
    obtain ⟨c0, c1⟩ := hc q hjN
    apply List.ext_getElem?
    intro m
    rw [List.getElem?_take, List.getElem?_drop, List.getElem?_take]
    match m with
    | 0 => rw [if_pos (by omega), if_pos (by omega), Nat.add_zero, Array.getElem?_toList, c0]; rfl
    | 1 => rw [if_pos (by omega), if_pos (by omega), Array.getElem?_toList, c1]; rfl
    | m + 2 => rw [if_neg (by omega)]; rfl
   show (Kd.M k38 w' base _ (K q) (((c2.toList.take (N * 2)).drop (q * 2)).take 2))
   rw [e]
   exact k38_mkM _ _ _ _
theorem stab_of_list {xs : List S38} (h : xs.Pairwise fun x y => x.f0 = y.f0 → x.f1 = false ∧ y.f1 = true) : Stab (fun i => xs.getD i z38) xs.length := by
 intro i j hij hj e
 rw [List.pairwise_iff_getElem] at h
 have hi : i < xs.length := by omega
 simp only [List.getD_eq_getElem?_getD, List.getElem?_eq_getElem hi, List.getElem?_eq_getElem hj, Option.getD_some] at e ⊢
 exact h i j hi hj hij e
theorem small_steps {l : List S74} {n : Nat} {v : Int} (hv0 : 0 ≤ v) (hv : v < n) (hE : ends l n) (hl : l.length ≤ 1000000) : Small (fun i => (stepsU l n v).getD i z38) (stepsU l n v).length := by
 intro i hi
 simp only [List.getD_eq_getElem?_getD, List.getElem?_eq_getElem hi, Option.getD_some]
 obtain ⟨k, h1, h2, _⟩ := (mem_stepsU l n v hv0 hv hE _).1 (List.getElem_mem hi)
 rw [h2]
 omega
theorem sorted_is {l : List S74} {n : Nat} {v : Int} {K : Nat → S38} (hv0 : 0 ≤ v) (hv : v < n) (hE : ends l n)
  (h : Sorted (fun i => (stepsU l n v).getD i z38) K (stepsU l n v).length 0 (stepsU l n v).length) : (List.range (stepsU l n v).length).map K = stL l v l.length := by
 obtain ⟨⟨_, m1, m2⟩, hst, _, hle⟩ := h
 refine sorted_uniq _ _ ?_ (sorted_stL l v l.length) fun s => ?_
 ·rw [List.pairwise_map]
  refine List.Pairwise.imp_of_mem (R := (· < ·)) (fun {a b} ha hb hab => ?_) List.pairwise_lt_range
  rw [List.mem_range] at ha hb
  have := hle a b (Nat.zero_le _) hab hb
  by_cases e : (K a).f0 = (K b).f0
  ·exact Or.inr ⟨e, hst a b hab hb e⟩
  ·exact Or.inl (by omega)
 ·rw [mem_stL, ← mem_stepsU l n v hv0 hv hE, List.mem_map]
  constructor
  ·rintro ⟨i, hi, rfl⟩
   rw [List.mem_range] at hi
   obtain ⟨y, _, hy, e⟩ := m1 i (Nat.zero_le _) hi
   rw [e]
   simp only [List.getD_eq_getElem?_getD, List.getElem?_eq_getElem hy, Option.getD_some]
   exact List.getElem_mem hy
  ·intro hs
   obtain ⟨y, hy, e⟩ := List.mem_iff_getElem.1 hs
   obtain ⟨x, _, hx, e2⟩ := m2 y (Nat.zero_le _) hy
   refine ⟨x, List.mem_range.2 hx, ?_⟩
   rw [e2]
   simp only [List.getD_eq_getElem?_getD, List.getElem?_eq_getElem hy, Option.getD_some]
   exact e
def rowsAt (l : List S74) (n k : Nat) : List (List S38) := (List.range n).map fun v => if v < k then stL l v l.length else []
theorem rowsAt_len (l : List S74) (n k : Nat) : (rowsAt l n k).length = n := by
 unfold rowsAt; rw [List.length_map, List.length_range]
theorem rowsAt_get (l : List S74) (n k v : Nat) (hv : v < n) : (rowsAt l n k)[v]? = some (if v < k then stL l v l.length else []) := by
 unfold rowsAt
 rw [List.getElem?_map, List.getElem?_range hv]
 rfl
theorem rowsAt_zero (l : List S74) (n : Nat) : rowsAt l n 0 = List.replicate n [] := by
 apply List.ext_getElem?
 intro v
 by_cases hv : v < n
 ·rw [rowsAt_get l n 0 v hv, List.getElem?_replicate, if_pos hv, if_neg (by omega)]
 ·rw [List.getElem?_eq_none (by rw [rowsAt_len]; omega), List.getElem?_eq_none (by rw [List.length_replicate]; omega)]
theorem rowsAt_set (l : List S74) (n k : Nat) (hk : k < n) : (rowsAt l n k).set k (stL l k l.length) = rowsAt l n (k + 1) := by
 apply List.ext_getElem?
 intro v
 by_cases hv : v < n
 ·rw [rowsAt_get l n (k + 1) v hv]
  by_cases e : k = v
  ·subst e
   rw [List.getElem?_set_self (by rw [rowsAt_len]; exact hk), if_pos (by omega)]
  ·rw [List.getElem?_set_ne e, rowsAt_get l n k v hv]
   by_cases c : v < k
   ·rw [if_pos c, if_pos (by omega)]
   ·rw [if_neg c, if_neg (by omega)]
 ·rw [List.getElem?_eq_none (by rw [List.length_set, rowsAt_len]; omega), List.getElem?_eq_none (by rw [rowsAt_len]; omega)]
theorem rowsAt_self (l : List S74) (n k : Nat) (hk : k < n) : (rowsAt l n k).set k [] = rowsAt l n k := by
 apply List.ext_getElem?
 intro v
 by_cases e : k = v
 ·subst e
  rw [List.getElem?_set_self (by rw [rowsAt_len]; exact hk), rowsAt_get l n k k hk, if_neg (by omega)]
 ·rw [List.getElem?_set_ne e]
theorem rd_set (X : List (List S38)) (k : Nat) (r : List S38) (hk : k < X.length) : rd_L4 (X.set k r) (k : Int) = r := by
 unfold rd_L4
 rw [List.getD_eq_getElem?_getD, Int.toNat_natCast, List.getElem?_set_self hk]
 rfl
end Go.Proofs.Ytkcpanpdipmmmaa.H
namespace Go.Proofs.Ytkcpanpdipmmmaa.H
open Go.RowKit Go.Proofs.YtkcpanpdipmmmaaW.PrintWords Go.Proofs.YtkcpanpdipmmmaaW.PrintLast Go.Proofs.YtkcpanpdipmmmaaW.PrintMore Go.Proofs.Ytkcpanpdipmmmaa.P
structure Kp (gd gi gb : Nat) (w w' : World) : Prop where
 os : w'.os = w.os
 tape : w'.tape = w.tape
 output : w'.output = w.output
 size : w.heap.size ≤ w'.heap.size
 block : ∀ k, k < w.heap.size → k ≠ gd → k ≠ gi → k ≠ gb → w'.heap[k]? = w.heap[k]?
theorem Kp.refl (gd gi gb : Nat) (w : World) : Kp gd gi gb w w := ⟨rfl, rfl, rfl, Nat.le_refl _, fun _ _ _ _ _ => rfl⟩
theorem Kp.below {gd gi gb : Nat} {w w1 w2 : World} (h : Kp gd gi gb w w1) (hb : Below w1.heap.size w1 w2) : Kp gd gi gb w w2 :=
 ⟨hb.os.trans h.os, hb.tape.trans h.tape, hb.output.trans h.output, Nat.le_trans h.size hb.size, fun k hk h1 h2 h3 => (hb.block k (Nat.lt_of_lt_of_le hk h.size)).trans (h.block k hk h1 h2 h3)⟩
theorem Kp.set {gd gi gb : Nat} {w w1 : World} (h : Kp gd gi gb w w1) {g : Nat} (hg : g = gd ∨ g = gi ∨ g = gb) (j : Nat) (u : Value) : Kp gd gi gb w (w1.setCell ⟨g, j, none⟩ u) :=
 ⟨h.os, h.tape, h.output, by simpa [World.setCell] using h.size, fun k hk h1 h2 h3 => (Below.heap_setCell w1 ⟨g, j, none⟩ u k (by rcases hg with rfl | rfl | rfl <;> assumption)).trans (h.block k hk h1 h2 h3)⟩
theorem Kp.toBelow {gd gi gb B : Nat} {w0 w w' : World} (h : Kp gd gi gb w w') (hb : Below B w0 w) (hB : B ≤ w.heap.size) (h1 : B ≤ gd) (h2 : B ≤ gi) (h3 : B ≤ gb) : Below B w0 w' :=
 hb.trans ⟨h.os, h.tape, h.output, h.size, fun k hk => h.block k (by omega) (by omega) (by omega) (by omega)⟩
def Bd (D : List Int) (c : Int) : Prop := ∀ v : Nat, -(1048576 * c) ≤ D.getD v 0 ∧ D.getD v 0 ≤ 1048576 * c
theorem Bd.mono {D : List Int} {c c' : Int} (h : Bd D c) (hc : c ≤ c') : Bd D c' := fun v => by have := h v; omega
theorem Bd.set {D : List Int} {c : Int} (h : Bd D c) (hc : 0 ≤ c) (u v : Nat) (t : Int) (h1 : -1048576 ≤ t) (h2 : t ≤ 1048576) : Bd (D.set u (D.getD v 0 + t)) (c + 1) := by
 intro z
 have hz := h z
 have hv := h v
 by_cases e : u = z
 ·subst e
  by_cases hl : u < D.length
  ·rw [getD_set_eq _ _ _ _ hl]; omega
  ·rw [List.getD_eq_getElem?_getD, List.getElem?_eq_none (by rw [List.length_set]; omega)]
   show _ ≤ (0 : Int) ∧ (0 : Int) ≤ _
   omega
 ·rw [getD_set_ne _ _ _ _ _ e]; omega
structure Right (l : List S74) (F : List Int) (n : Nat) : Prop where
 pos : 0 < n
 fifty : n ≤ 50
 arcs : l.length ≤ 200
 len : F.length = l.length
 ends : ends l n
 nums : ∀ i : Nat, i < l.length → 0 ≤ (rd_T74 l i).f3 ∧ (rd_T74 l i).f3 ≤ 1048576 ∧ 0 ≤ F.getD i 0 ∧ F.getD i 0 ≤ (rd_T74 l i).f2 ∧ (rd_T74 l i).f2 ≤ 1048576
theorem stL_len (l : List S74) (v : Int) (k : Nat) : (stL l v k).length ≤ 2 * k := by
 induction k with
 | zero => exact Nat.le_refl _
 | succ k ih =>
  unfold stL
  rw [List.length_append, List.length_append]
  split <;> split <;> simp <;> omega
def StepOf (l : List S74) (s : S38) : Prop := ∃ i : Nat, i < l.length ∧ s.f0 = i
theorem stL_of {l : List S74} {v : Int} {s : S38} (h : s ∈ stL l v l.length) : StepOf l s := by
 obtain ⟨i, h1, h2, _⟩ := (mem_stL l v l.length s).1 h
 exact ⟨i, h1, h2⟩
theorem stL_from {l : List S74} {v : Int} {s : S38} (h : s ∈ stL l v l.length) : stFrom l s = v := by
 obtain ⟨i, h1, h2, h3⟩ := (mem_stL l v l.length s).1 h
 unfold stFrom
 rw [h2]
 rcases h3 with ⟨h3, h4⟩ | ⟨h3, h4⟩
 ·rw [h3]; exact h4
 ·rw [h3]; exact h4
theorem stTo_in {l : List S74} {F : List Int} {n : Nat} (hr : Right l F n) {s : S38} (hs : StepOf l s) : 0 ≤ stTo l s ∧ stTo l s < n := by
 obtain ⟨i, h1, h2⟩ := hs
 have := hr.ends i h1
 unfold stTo
 rw [h2]
 split
 ·exact this.1
 ·exact this.2
theorem stTime_in {l : List S74} {F : List Int} {n : Nat} (hr : Right l F n) {s : S38} (hs : StepOf l s) : -1048576 ≤ stTime l s ∧ stTime l s ≤ 1048576 := by
 obtain ⟨i, h1, h2⟩ := hs
 have := hr.nums i h1
 unfold stTime
 rw [h2]
 split <;> omega
theorem to_f {l : List S74} {F : List Int} {n : Nat} (hr : Right l F n) {s : S38} (hs : StepOf l s) (a : Int) (b : Bool) : static_Flowing_To.f a b l F s.f0 s.f1 = some (stTo l s) := by
 obtain ⟨i, h1, h2⟩ := hs
 unfold static_Flowing_To.f static_Flowing_From.f stTo eFrom eTo
 rw [h2]
 cases s.f1 <;> simp [h1]
theorem time_f {l : List S74} {F : List Int} {n : Nat} (hr : Right l F n) {s : S38} (hs : StepOf l s) (a : Int) (b : Bool) : static_Flowing_Time.f a b l F s.f0 s.f1 = some (stTime l s) := by
 obtain ⟨i, h1, h2⟩ := hs
 have h3 := hr.nums i h1
 unfold static_Flowing_Time.f stTime
 rw [h2]
 cases s.f1
 ·simp [h1]
 ·have : wrap64 (-(rd_T74 l i).f3) = -(rd_T74 l i).f3 := by unfold wrap64; omega
  simp [h1, this]
theorem room_f {l : List S74} {F : List Int} {n : Nat} (hr : Right l F n) {s : S38} (hs : StepOf l s) (a : Int) (b : Bool) : static_Flowing_Room.f a b l F s.f0 s.f1 = some (stRoom l F s) := by
 obtain ⟨i, h1, h2⟩ := hs
 have h3 := hr.nums i h1
 have h4 := hr.len
 unfold static_Flowing_Room.f stRoom
 rw [h2]
 have e : rd F (i : Int) = F.getD i 0 := by unfold rd; rw [Int.toNat_natCast]
 cases s.f1
 ·have : wrap64 ((rd_T74 l i).f2 - F.getD i 0) = (rd_T74 l i).f2 - F.getD i 0 := by unfold wrap64; omega
  rw [if_neg (by simp), if_pos (by omega), if_pos (by omega), if_pos (by omega), if_neg (by simp), e, this, Int.toNat_natCast]
 ·rw [if_pos rfl, if_pos (by omega), if_pos (by omega), if_pos rfl, e, Int.toNat_natCast]
end Go.Proofs.Ytkcpanpdipmmmaa.H
namespace Go.Proofs.Ytkcpanpdipmmmaa.Q
open Go.RowKit Go.Proofs.YtkcpanpdipmmmaaW.PrintWords Go.Proofs.YtkcpanpdipmmmaaW.PrintLast Go.Proofs.YtkcpanpdipmmmaaW.PrintMore
theorem Ev.pos {α : Type} {c : Prop} [Decidable c] {f g : Nat → Option α} {r : α} (h : c) (e : Ev f r) : Ev (fun k => if c then f k else g k) r :=
 Ev.congr (fun _ => if_pos h) e
theorem Ev.neg {α : Type} {c : Prop} [Decidable c] {f g : Nat → Option α} {r : α} (h : ¬ c) (e : Ev g r) : Ev (fun k => if c then f k else g k) r :=
 Ev.congr (fun _ => if_neg h) e
theorem Ev.ite {α : Type} {c : Prop} [Decidable c] {f g : Nat → Option α} {r : α} (e : c → Ev f r) (e' : ¬ c → Ev g r) : Ev (fun k => if c then f k else g k) r := by
 by_cases h : c
 ·exact Ev.pos h (e h)
 ·exact Ev.neg h (e' h)
theorem Ev.succ {α : Type} {g : Nat → Option α} {r : α} (e : Ev (fun k => g (k + 1)) r) : Ev g r := Ev.step (fun _ => rfl) e
theorem Ev.let_ {α β : Type} {a : α} {f : Nat → α → Option β} {r : β} (e : Ev (fun k => f k a) r) : Ev (fun k => (some a).bind (f k)) r := e
theorem Ev.call {α β : Type} {g : Option α} {a : α} {f : Nat → α → Option β} {r : β} (h : g = some a) (e : Ev (fun k => f k a) r) : Ev (fun k => g.bind (f k)) r := by
 subst h; exact e
theorem Ev.done {α : Type} {a r : α} (h : a = r) : Ev (fun _ => some a) r := h ▸ Ev.now a
theorem Ev.eq {α : Type} {g : Nat → Option α} {a r : α} (h : Ev g a) (e : a = r) : Ev g r := e ▸ h
theorem Ev.uniq {α : Type} {g : Nat → Option α} {a r : α} (h : Ev g a) (h' : Ev g r) : a = r := by
 obtain ⟨K, h⟩ := h
 obtain ⟨K', h'⟩ := h'
 have h1 := h (max K K') (Nat.le_max_left _ _)
 rw [h' (max K K') (Nat.le_max_right _ _)] at h1
 injection h1 with h1
 exact h1.symm
theorem wrap_id {x : Int} (h0 : -9223372036854775808 ≤ x) (h1 : x ≤ 9223372036854775807) : wrap64 x = x := by
 unfold wrap64
 omega
theorem wrap_succ {i n : Nat} (h : i < n) (hn : n ≤ 9223372036854775807) : wrap64 ((i : Int) + 1) = ((i + 1 : Nat) : Int) := by
 unfold wrap64
 omega
theorem drop_getD {α : Type} (l : List α) (i : Nat) (d : α) (h : i < l.length) : l.drop i = l.getD i d :: l.drop (i + 1) := by
 rw [List.drop_eq_getElem_cons h, List.getD_eq_getElem?_getD, List.getElem?_eq_getElem h]
 rfl
theorem rd_nat (xs : List Int) (i : Nat) : rd xs (i : Int) = xs.getD i 0 := by
 unfold rd
 rw [Int.toNat_natCast]
theorem getD_mem {α : Type} {l : List α} {i : Nat} {d : α} (h : i < l.length) : l.getD i d ∈ l := by
 rw [List.getD_eq_getElem?_getD, List.getElem?_eq_getElem h]
 exact List.getElem_mem h
theorem getD_set {α : Type} (l : List α) (i j : Nat) (a d : α) (h : i < l.length) : (l.set i a).getD j d = if i = j then a else l.getD j d := by
 rw [List.getD_eq_getElem?_getD, List.getD_eq_getElem?_getD, List.getElem?_set]
 by_cases e : i = j
 ·subst e; simp [h]
 ·simp [e]
theorem rd_set (l : List Int) (i j a : Int) (h0 : 0 ≤ i) (h1 : i < l.length) (h2 : 0 ≤ j) : rd (l.set i.toNat a) j = if i = j then a else rd l j := by
 unfold rd
 rw [getD_set _ _ _ _ _ (by omega)]
 by_cases e : i = j
 ·rw [if_pos e, if_pos (by omega)]
 ·rw [if_neg e, if_neg (by omega)]
end Go.Proofs.Ytkcpanpdipmmmaa.Q
namespace Go.Proofs.Ytkcpanpdipmmmaa.H
open Go.RowKit Go.Proofs.YtkcpanpdipmmmaaW.PrintWords Go.Proofs.YtkcpanpdipmmmaaW.PrintLast Go.Proofs.YtkcpanpdipmmmaaW.PrintMore Go.Proofs.Ytkcpanpdipmmmaa.P Go.Proofs.Ytkcpanpdipmmmaa.Q
def stepsR (l : List S74) (F : List Int) : Nat → List S38
 | 0 => []
 | k + 1 => stepsR l F k ++ (if F.getD k 0 < (rd_T74 l k).f2 then [⟨k, false⟩] else []) ++ (if 0 < F.getD k 0 then [⟨k, true⟩] else [])
theorem stepsR_len (l : List S74) (F : List Int) (k : Nat) : (stepsR l F k).length ≤ 2 * k := by
 induction k with
 | zero => exact Nat.le_refl _
 | succ k ih =>
  unfold stepsR
  rw [List.length_append, List.length_append]
  split <;> split <;> simp <;> omega
theorem mem_stepsR (l : List S74) (F : List Int) (k : Nat) (s : S38) : s ∈ stepsR l F k ↔ (∃ i : Nat, i < k ∧ s.f0 = i) ∧ 0 < stRoom l F s := by
 induction k with
 | zero =>
  constructor
  ·intro h; cases h
  ·rintro ⟨⟨i, h, _⟩, _⟩; omega
 | succ k ih =>
  unfold stepsR
  rw [List.mem_append, List.mem_append, ih]
  constructor
  ·rintro ((⟨⟨i, h1, h2⟩, h3⟩ | h) | h)
   ·exact ⟨⟨i, by omega, h2⟩, h3⟩
   ·split at h
    ·rename_i he
     rw [List.mem_singleton] at h
     subst h
     refine ⟨⟨k, by omega, rfl⟩, ?_⟩
     unfold stRoom
     simp only [Bool.false_eq_true, if_false, Int.toNat_natCast]
     omega
    ·cases h
   ·split at h
    ·rename_i he
     rw [List.mem_singleton] at h
     subst h
     refine ⟨⟨k, by omega, rfl⟩, ?_⟩
     unfold stRoom
     simp only [if_true, Int.toNat_natCast]
     exact he
    ·cases h
  ·rintro ⟨⟨i, h1, h2⟩, h3⟩
   by_cases hi : i < k
   ·exact Or.inl (Or.inl ⟨⟨i, hi, h2⟩, h3⟩)
   ·have e : i = k := by omega
    subst e
    obtain ⟨x, y⟩ := s
    simp only at h2
    subst h2
    unfold stRoom at h3
    cases y
    ·simp only [Bool.false_eq_true, if_false, Int.toNat_natCast] at h3
     exact Or.inl (Or.inr (by rw [if_pos (by omega)]; exact List.mem_singleton.2 rfl))
    ·simp only [if_true, Int.toNat_natCast] at h3
     exact Or.inr (by rw [if_pos h3]; exact List.mem_singleton.2 rfl)
theorem steps_l0 {l : List S74} {F : List Int} {n : Nat} (hr : Right l F n) (a : Int) (b : Bool) (d : Nat) : ∀ i : Nat, i + d = F.length →
  Ev (fun k => ebbtideref07_Steps.l0 k F (stepsR l F i) (i : Int) a b l) (stepsR l F F.length) := by
 have hl := hr.len
 have hl2 := hr.arcs
 induction d with
 | zero =>
  intro i hi
  refine Ev.succ ?_; simp only [ebbtideref07_Steps.l0]
  repeat (first | exact Ev.now _ | with_reducible refine Ev.pos (by first | assumption | omega) ?_ | with_reducible refine Ev.neg (by first | assumption | omega) ?_ | with_reducible refine Ev.let_ ?_)
  exact Ev.done (by rw [show i = F.length by omega])
 | succ d ih =>
  intro i hi
  have hn := ih (i + 1) (by omega)
  have hsl := stepsR_len l F i
  have e1 : rd F (i : Int) = F.getD i 0 := rd_nat F i
  have e2 : stepsR l F (i + 1) = stepsR l F i ++ (if F.getD i 0 < (rd_T74 l i).f2 then [⟨i, false⟩] else []) ++ (if 0 < F.getD i 0 then [⟨i, true⟩] else []) := rfl
  rw [e2] at hn
  refine Ev.succ ?_; simp only [ebbtideref07_Steps.l0]
  repeat (first | exact Ev.now _ | with_reducible refine Ev.pos (by first | assumption | omega) ?_ | with_reducible refine Ev.neg (by first | assumption | omega) ?_ | with_reducible refine Ev.let_ ?_)
  rw [wrap_succ (n := F.length) (by omega) (by omega), e1]
  refine Ev.ite (fun g => ?_) (fun g => ?_)
  ·rw [if_pos (show F.getD i 0 < (rd_T74 l i).f2 from g)] at hn
   repeat (first | exact Ev.now _ | with_reducible refine Ev.pos (by first | assumption | omega) ?_ | with_reducible refine Ev.neg (by first | assumption | omega) ?_ | with_reducible refine Ev.let_ ?_)
   refine Ev.ite (fun g2 => ?_) (fun g2 => ?_)
   ·rw [if_pos (show 0 < F.getD i 0 from g2)] at hn
    refine Ev.pos (by rw [List.length_append]; simp; omega) ?_
    exact hn
   ·rw [if_neg (show ¬ 0 < F.getD i 0 from g2), List.append_nil] at hn
    exact hn
  ·rw [if_neg (show ¬ F.getD i 0 < (rd_T74 l i).f2 from g), List.append_nil] at hn
   refine Ev.ite (fun g2 => ?_) (fun g2 => ?_)
   ·rw [if_pos (show 0 < F.getD i 0 from g2)] at hn
    refine Ev.pos (by omega) ?_
    exact hn
   ·rw [if_neg (show ¬ 0 < F.getD i 0 from g2), List.append_nil] at hn
    exact hn
theorem steps_ev {l : List S74} {F : List Int} {n : Nat} (hr : Right l F n) (a : Int) (b : Bool) : Ev (fun k => ebbtideref07_Steps.f k a b l F) (stepsR l F F.length) := by
 unfold ebbtideref07_Steps.f
 exact steps_l0 hr a b F.length 0 (by omega)
structure Rf where
 D : List Int
 I : List Bool
 OK : Bool
def visF (l : List S74) (x : Rf) (s : S38) : Rf :=
 if x.I.getD (stFrom l s).toNat false && (!x.I.getD (stTo l s).toNat false || decide (x.D.getD (stFrom l s).toNat 0 + stTime l s < x.D.getD (stTo l s).toNat 0)) then
  ⟨x.D.set (stTo l s).toNat (x.D.getD (stFrom l s).toNat 0 + stTime l s), x.I.set (stTo l s).toNat true, false⟩ else x
def roundF (l : List S74) (S : List S38) (x : Rf) : Rf := S.foldl (visF l) { x with OK := true }
def itF (l : List S74) (S : List S38) : Nat → Rf → Rf
 | 0, x => x
 | k + 1, x => itF l S k (roundF l S x)
structure Rf.Ok (n : Nat) (x : Rf) : Prop where
 hD : x.D.length = n
 hI : x.I.length = n
theorem visF_ok {l : List S74} {n : Nat} {x : Rf} (h : x.Ok n) (s : S38) : (visF l x s).Ok n := by
 unfold visF
 split
 ·exact ⟨by simp [h.hD], by simp [h.hI]⟩
 ·exact h
theorem stFrom_in {l : List S74} {F : List Int} {n : Nat} (hr : Right l F n) {s : S38} (hs : StepOf l s) : 0 ≤ stFrom l s ∧ stFrom l s < n := by
 obtain ⟨i, h1, h2⟩ := hs
 have := hr.ends i h1
 unfold stFrom
 rw [h2]
 split
 ·exact this.2
 ·exact this.1
theorem visF_bd {l : List S74} {F : List Int} {n : Nat} (hr : Right l F n) {x : Rf} {c : Int} (hc : 0 ≤ c) (h : Bd x.D c) {s : S38} (hs : StepOf l s) : Bd (visF l x s).D (c + 1) := by
 unfold visF
 split
 ·have := stTime_in hr hs
  exact h.set hc _ _ _ this.1 this.2
 ·exact h.mono (by omega)
theorem rfrom_f {l : List S74} {F : List Int} {n : Nat} (hr : Right l F n) {s : S38} (hs : StepOf l s) (a : Int) (b : Bool) : ebbtideref07_From.f a b l s.f0 s.f1 = some (stFrom l s) := by
 obtain ⟨i, h1, h2⟩ := hs
 unfold ebbtideref07_From.f stFrom eFrom eTo
 rw [h2]
 cases s.f1 <;> simp [h1]
theorem rto_f {l : List S74} {F : List Int} {n : Nat} (hr : Right l F n) {s : S38} (hs : StepOf l s) (a : Int) (b : Bool) : ebbtideref07_To.f a b l s.f0 s.f1 = some (stTo l s) := by
 obtain ⟨i, h1, h2⟩ := hs
 unfold ebbtideref07_To.f stTo eFrom eTo
 rw [h2]
 cases s.f1 <;> simp [h1]
theorem rtime_f {l : List S74} {F : List Int} {n : Nat} (hr : Right l F n) {s : S38} (hs : StepOf l s) (a : Int) (b : Bool) : ebbtideref11_Time.f a b l s.f0 s.f1 = some (stTime l s) := by
 obtain ⟨i, h1, h2⟩ := hs
 have h3 := hr.nums i h1
 unfold ebbtideref11_Time.f stTime
 rw [h2]
 cases s.f1
 ·simp [h1]
 ·have : wrap64 (-(rd_T74 l i).f3) = -(rd_T74 l i).f3 := by unfold wrap64; omega
  simp [h1, this]
theorem from_l1 {l : List S74} {F : List Int} {n : Nat} (hr : Right l F n) (b : Bool) (S : List S38) (hS : ∀ s, s ∈ S → StepOf l s) (hSl : S.length ≤ 400) (i : Nat) (hi : i ≤ n) (r : List Int × List Bool × Bool) (d : Nat) : ∀ (j : Nat) (x : Rf) (c : Int), j + d = S.length → x.Ok n → 0 ≤ c → c + (d : Int) ≤ 1000000 → Bd x.D c →
  Ev (fun k => ebbtideref11_From.l0 k S ((i + 1 : Nat) : Int) n b l ((S.drop j).foldl (visF l) x).D ((S.drop j).foldl (visF l) x).I ((S.drop j).foldl (visF l) x).OK) r →
  Ev (fun k => ebbtideref11_From.l1 k S (i : Int) (j : Int) n b l x.D x.I x.OK) r := by
 have hn := hr.fifty
 induction d with
 | zero =>
  intro j x c hj hx hc0 hc hb h
  rw [List.drop_of_length_le (by omega)] at h
  refine Ev.succ ?_; simp only [ebbtideref11_From.l1]
  repeat (first | exact Ev.now _ | with_reducible refine Ev.pos (by first | assumption | omega) ?_ | with_reducible refine Ev.neg (by first | assumption | omega) ?_ | with_reducible refine Ev.let_ ?_)
  rw [wrap_succ (n := 51) (by omega) (by omega)]
  exact h
 | succ d ih =>
  intro j x c hj hx hc0 hc hb h
  have hjl : j < S.length := by omega
  have hm : rd_T38 S (j : Int) ∈ S := by
   unfold rd_T38
   rw [Int.toNat_natCast, List.getD_eq_getElem?_getD, List.getElem?_eq_getElem hjl]
   exact List.getElem_mem hjl
  have hs := hS _ hm
  have hd : S.drop j = rd_T38 S (j : Int) :: S.drop (j + 1) := by
   rw [drop_getD S j z38 hjl]
   unfold rd_T38
   rw [Int.toNat_natCast]
  rw [hd, List.foldl_cons] at h
  obtain ⟨s, es⟩ : ∃ s_, s_ = rd_T38 S (j : Int) := ⟨_, rfl⟩
  rw [← es] at h hs
  have hf := stFrom_in hr hs
  have ht := stTo_in hr hs
  have htm := stTime_in hr hs
  have hDl := hx.hD
  have hIl := hx.hI
  have hv := ih (j + 1) (visF l x s) (c + 1) (by omega) (visF_ok hx s) (by omega) (by omega)
  have hbf := hb (stFrom l s).toNat
  refine Ev.succ ?_; simp only [ebbtideref11_From.l1]
  rw [← es]
  refine Ev.pos (by omega) ?_
  refine Ev.pos (by omega) ?_
  refine Ev.call (rfrom_f hr hs _ _) ?_
  refine Ev.call (rto_f hr hs _ _) ?_
  refine Ev.pos (by omega) ?_
  refine Ev.pos (by omega) ?_
  refine Ev.call (rtime_f hr hs _ _) ?_
  refine Ev.pos (by omega) ?_
  rw [wrap_succ (n := 400) (by omega) (by omega)]
  have eD : ∀ v : Int, rd x.D v = x.D.getD v.toNat 0 := fun v => rfl
  have eI : ∀ v : Int, rdOf false x.I v = x.I.getD v.toNat false := fun v => rfl
  rw [eD, eD, eI, eI, wrap_id (x := x.D.getD (stFrom l s).toNat 0 + stTime l s) (by omega) (by omega)]
  unfold visF at hv h
  refine Ev.ite (fun g1 => ?_) (fun g1 => ?_)
  ·rw [g1, Bool.true_and] at hv h
   refine Ev.pos (by omega) ?_
   refine Ev.pos (by omega) ?_
   refine Ev.ite (fun g2 => ?_) (fun g2 => ?_)
   ·rw [g2, Bool.not_true, Bool.false_or] at hv h
    refine Ev.pos (by omega) ?_
    refine Ev.ite (fun g3 => ?_) (fun g3 => ?_)
    ·rw [if_pos (decide_eq_true g3)] at hv h
     exact hv (hb.set hc0 _ _ _ htm.1 htm.2) h
    ·rw [if_neg (by simpa using g3)] at hv h
     exact hv (hb.mono (by omega)) h
   ·have g2' : x.I.getD (stTo l s).toNat false = false := by simpa using g2
    rw [g2', Bool.not_false, Bool.true_or, if_pos rfl] at hv h
    refine Ev.pos (by omega) ?_
    exact hv (hb.set hc0 _ _ _ htm.1 htm.2) h
  ·have g1' : x.I.getD (stFrom l s).toNat false = false := by simpa using g1
   rw [g1', Bool.false_and, if_neg (by simp)] at hv h
   exact hv (hb.mono (by omega)) h
theorem foldF_bd {l : List S74} {F : List Int} {n : Nat} (hr : Right l F n) (S : List S38) : ∀ (hS : ∀ s, s ∈ S → StepOf l s) (x : Rf) (c : Int), x.Ok n → 0 ≤ c → Bd x.D c → (S.foldl (visF l) x).Ok n ∧ Bd (S.foldl (visF l) x).D (c + S.length) := by
 induction S with
 | nil => intro _ x c hx hc hb; exact ⟨hx, by simpa using hb⟩
 | cons s S ih =>
  intro hS x c hx hc hb
  have h1 := visF_bd hr hc hb (hS s List.mem_cons_self)
  obtain ⟨h2, h3⟩ := ih (fun s hs => hS s (List.mem_cons_of_mem _ hs)) (visF l x s) (c + 1) (visF_ok hx s) (by omega) h1
  refine ⟨h2, h3.mono ?_⟩
  rw [List.length_cons]
  omega
theorem from_l0 {l : List S74} {F : List Int} {n : Nat} (hr : Right l F n) (b : Bool) (S : List S38) (hS : ∀ s, s ∈ S → StepOf l s) (hSl : S.length ≤ 400) (d : Nat) : ∀ (i : Nat) (x : Rf), i + d = n + 1 → x.Ok n → Bd x.D (400 * (i : Int)) →
  Ev (fun k => ebbtideref11_From.l0 k S (i : Int) n b l x.D x.I x.OK) ((itF l S d x).D, (itF l S d x).I, (itF l S d x).OK) := by
 have hn := hr.fifty
 induction d with
 | zero =>
  intro i x hi hx hb
  refine Ev.succ ?_; simp only [ebbtideref11_From.l0]
  refine Ev.neg (by omega) ?_
  exact Ev.now _
 | succ d ih =>
  intro i x hi hx hb
  refine Ev.succ ?_; simp only [ebbtideref11_From.l0]
  refine Ev.pos (by omega) ?_
  obtain ⟨h1, h2⟩ := foldF_bd hr S hS { x with OK := true } (400 * (i : Int)) ⟨hx.hD, hx.hI⟩ (by omega) hb
  have h3 := ih (i + 1) (roundF l S x) (by omega) h1 (h2.mono (by omega))
  refine from_l1 hr b S hS hSl i (by omega) _ S.length 0 { x with OK := true } (400 * (i : Int)) (by omega) ⟨hx.hD, hx.hI⟩ (by omega) (by omega) hb ?_
  rw [List.drop_zero]
  exact h3
def startF (n s : Nat) : Rf := ⟨List.replicate n 0, (List.replicate n false).set s true, false⟩
def refF (l : List S74) (F : List Int) (n s : Nat) : Rf := itF l (stepsR l F F.length) (n + 1) (startF n s)
theorem stepsR_of {l : List S74} {F : List Int} {n : Nat} (hr : Right l F n) : ∀ s, s ∈ stepsR l F F.length → StepOf l s := by
 intro s hs
 have h := ((mem_stepsR l F F.length s).1 hs).1
 rw [hr.len] at h
 exact h
theorem from_ev {l : List S74} {F : List Int} {n : Nat} (hr : Right l F n) (b : Bool) (s : Nat) (hs : s < n) : Ev (fun k => ebbtideref11_From.f k n b l F s) ((refF l F n s).D, (refF l F n s).I, (refF l F n s).OK) := by
 have hn := hr.fifty
 have hl := hr.len
 have hl2 := hr.arcs
 unfold ebbtideref11_From.f
 refine Ev.pos (by omega) ?_
 refine Ev.pos (by omega) ?_
 refine Ev.pos (by omega) ?_
 refine Ev.let_ ?_
 refine Ev.pos (by omega) ?_
 refine Ev.pos (by rw [List.length_replicate]; omega) ?_
 refine Ev.bind (steps_ev hr _ _) ?_
 rw [Int.toNat_natCast, Int.toNat_natCast]
 have hsl := stepsR_len l F F.length
 refine from_l0 hr b _ (stepsR_of hr) (by omega) (n + 1) 0 (startF n s) (by omega) ⟨by simp [startF], by simp [startF]⟩ ?_
 intro v
 have : (List.replicate n (0 : Int)).getD v 0 = 0 := by
  rw [List.getD_eq_getElem?_getD, List.getElem?_replicate]
  split <;> rfl
 show _ ≤ (List.replicate n (0 : Int)).getD v 0 ∧ (List.replicate n (0 : Int)).getD v 0 ≤ _
 rw [this]
 omega
end Go.Proofs.Ytkcpanpdipmmmaa.H
namespace Go.Proofs.Ytkcpanpdipmmmaa.H
open Go.RowKit Go.Proofs.YtkcpanpdipmmmaaW.PrintWords Go.Proofs.YtkcpanpdipmmmaaW.PrintLast Go.Proofs.YtkcpanpdipmmmaaW.PrintMore Go.Proofs.Ytkcpanpdipmmmaa.P
def okR (gd gi gb : Nat) (k : Nat) : Prop := k ≠ gd ∧ k ≠ gi ∧ k ≠ gb
structure Fm (n0 : Nat) (a0_1 : Bool) (A2 : Option Addr) (c2 : Nat) (l : List S74) (A3 : Option Addr) (c3 : Nat) (F : List Int) (A4 : Option Addr) (c4 : Nat) (gd gi gb cd ci cb b0 g2 g3 : Nat) (w : World) (x : Rch) (w' : World) : Prop where
 D : Kd.R (Kd.int .i64) 3 w' b0 (fun _ => True) (.slice (some ⟨gd, 0, none⟩) n0 cd) x.D
 I : Kd.R Kd.bool 4 w' b0 (fun _ => True) (.slice (some ⟨gi, 0, none⟩) n0 ci) x.I
 B : Kd.R k38 38 w' b0 (fun _ => True) (.slice (some ⟨gb, 0, none⟩) n0 cb) x.B
 b2 : w'.heap[g2]? = some (.cells #[.int .i64 n0, .bool a0_1, .slice A2 l.length c2, .slice A3 F.length c3, .slice A4 n0 c4] 118 (0, 0))
 b3 : w'.heap[g3]? = some (.cells #[.slice (some ⟨gd, 0, none⟩) n0 cd, .slice (some ⟨gi, 0, none⟩) n0 ci, .slice (some ⟨gb, 0, none⟩) n0 cb] 109 (0, 0))
 arcs : Kd.F k74 w' (okR gd gi gb) A2 l.length l
 flow : Kd.F (Kd.int .i64) w' (okR gd gi gb) A3 F.length F
 rows : Kd.V (Kd.slice 38 k38) 34 w' w.heap.size (okR gd gi gb) (.slice A4 n0 c4) (rowsAt l n0 n0)
 kp : Kp gd gi gb w w'
section
variable {n0 : Nat} {a0_1 : Bool} {A2 : Option Addr} {c2 : Nat} {l : List S74} {A3 : Option Addr} {c3 : Nat} {F : List Int} {A4 : Option Addr} {c4 : Nat} {gd gi gb cd ci cb b0 g2 g3 : Nat} {w : World} {x : Rch} {w1 w2 : World}
theorem Fm.below (h : Fm n0 a0_1 A2 c2 l A3 c3 F A4 c4 gd gi gb cd ci cb b0 g2 g3 w (x) (w1)) (hb : Below w1.heap.size w1 w2) : Fm n0 a0_1 A2 c2 l A3 c3 F A4 c4 gd gi gb cd ci cb b0 g2 g3 w (x) (w2) :=
 ⟨Kd.R_below h.D hb, Kd.R_below h.I hb, Kd.R_below h.B hb, blk_below h.b2 hb, blk_below h.b3 hb, Kd.F_below h.arcs hb, Kd.F_below h.flow hb, Kd.V_below h.rows hb, h.kp.below hb⟩
theorem Fm.still (h : Fm n0 a0_1 A2 c2 l A3 c3 F A4 c4 gd gi gb cd ci cb b0 g2 g3 w (x) (w1)) (b : Bool) : Fm n0 a0_1 A2 c2 l A3 c3 F A4 c4 gd gi gb cd ci cb b0 g2 g3 w ({ x with still := b }) (w1) := ⟨h.D, h.I, h.B, h.b2, h.b3, h.arcs, h.flow, h.rows, h.kp⟩
theorem Fm.blocks (h : Fm n0 a0_1 A2 c2 l A3 c3 F A4 c4 gd gi gb cd ci cb b0 g2 g3 w (x) (w1)) (hx : x.Ok n0) (hn : 0 < n0) : gd ≠ gi ∧ gd ≠ gb ∧ gi ≠ gb ∧ g2 ≠ gd ∧ g2 ≠ gi ∧ g2 ≠ gb ∧ g3 ≠ gd ∧ g3 ≠ gi ∧ g3 ≠ gb ∧ gd < w1.heap.size ∧ gi < w1.heap.size ∧ gb < w1.heap.size := by
 obtain ⟨a, ca, ea, _, hla, ca_, ha⟩ := Kd.R_form h.D (by rw [hx.hD]; exact hn)
 obtain ⟨b, cb_, eb, _, hlb, cb2, hb⟩ := Kd.R_form h.I (by rw [hx.hI]; exact hn)
 obtain ⟨c, cc, ec, _, hlc, cc_, hc⟩ := Kd.R_form h.B (by rw [hx.hB]; exact hn)
 injection ea with ea _ _
 injection ea with ea
 injection ea with ea
 injection eb with eb _ _
 injection eb with eb
 injection eb with eb
 injection ec with ec _ _
 injection ec with ec
 injection ec with ec
 subst ea
 subst eb
 subst ec
 have ne : ∀ {p q : Nat} {c1 c2 : Array Value} {t1 t2 : Nat}, w1.heap[p]? = some (.cells c1 t1 (0, 0)) → w1.heap[q]? = some (.cells c2 t2 (0, 0)) → t1 ≠ t2 → p ≠ q := by
  intro p q c1 c2 t1 t2 h1 h2 ht e
  subst e
  rw [h1] at h2
  injection h2 with h2
  injection h2 with _ h2
  exact ht h2
 exact ⟨ne ha hb (by decide), ne ha hc (by decide), ne hb hc (by decide), ne h.b2 ha (by decide), ne h.b2 hb (by decide), ne h.b2 hc (by decide), ne h.b3 ha (by decide), ne h.b3 hb (by decide), ne h.b3 hc (by decide), hla, hlb, hlc⟩
theorem Fm.dv (h : Fm n0 a0_1 A2 c2 l A3 c3 F A4 c4 gd gi gb cd ci cb b0 g2 g3 w (x) (w1)) {v : Nat} (hv : v < n0) : w1.cell? ⟨gd, v, none⟩ = some (.int .i64 (x.D.getD v 0)) := by
 obtain ⟨ad, e, hc⟩ := Kd.at_int (Kd.R_reads' h.D).2.2 (v : Int) (by omega) (by have := (Kd.R_reads' h.D).1; omega)
 cases e
 simpa [rd, add_plain] using hc
theorem Fm.iv (h : Fm n0 a0_1 A2 c2 l A3 c3 F A4 c4 gd gi gb cd ci cb b0 g2 g3 w (x) (w1)) {v : Nat} (hv : v < n0) : w1.cell? ⟨gi, v, none⟩ = some (.bool (x.I.getD v false)) := by
 obtain ⟨ad, e, hc⟩ := Kd.at_bool (Kd.R_reads' h.I).2.2 (v : Int) (by omega) (by have := (Kd.R_reads' h.I).1; omega)
 cases e
 simpa [rdOf, add_plain] using hc
theorem Fm.bv (h : Fm n0 a0_1 A2 c2 l A3 c3 F A4 c4 gd gi gb cd ci cb b0 g2 g3 w (x) (w1)) {v : Nat} (hv : v < n0) : w1.cell? ⟨gb, v * 2, none⟩ = some (.int .i64 (rd_T38 x.B v).f0) ∧ w1.cell? ⟨gb, v * 2 + 1, none⟩ = some (.bool (rd_T38 x.B v).f1) := by
 obtain ⟨ad, e, h1, h2⟩ := at_T38 (Kd.R_reads' h.B).2.2 (v : Int) (by omega) (by have := (Kd.R_reads' h.B).1; omega)
 cases e
 simp only [Int.toNat_natCast, add_plain] at h1 h2
 exact ⟨h1, h2⟩
theorem Fm.free (h : Fm n0 a0_1 A2 c2 l A3 c3 F A4 c4 gd gi gb cd ci cb b0 g2 g3 w (x) (w1)) (hn : 0 < n0) (j : Nat) : w1.frozen? ⟨gd, j, none⟩ = false ∧ w1.frozen? ⟨gi, j, none⟩ = false ∧ w1.frozen? ⟨gb, j, none⟩ = false := by
 have h1 := (Kd.R_reads' h.D).1
 have h2 := (Kd.R_reads' h.I).1
 have h3 := (Kd.R_reads' h.B).1
 obtain ⟨a, ca, ea, _, hla, ca_, ha⟩ := Kd.R_form h.D (by omega)
 obtain ⟨b, cb_, eb, _, hlb, cb2, hb⟩ := Kd.R_form h.I (by omega)
 obtain ⟨c, cc, ec, _, hlc, cc_, hc⟩ := Kd.R_form h.B (by omega)
 injection ea with ea _ _
 injection ea with ea
 injection ea with ea
 injection eb with eb _ _
 injection eb with eb
 injection eb with eb
 injection ec with ec _ _
 injection ec with ec
 injection ec with ec
 subst ea
 subst eb
 subst ec
 exact ⟨blk_frozen ha j, blk_frozen hb j, blk_frozen hc j⟩
theorem Fm.put (h : Fm n0 a0_1 A2 c2 l A3 c3 F A4 c4 gd gi gb cd ci cb b0 g2 g3 w (x) (w1)) (hx : x.Ok n0) (hn : 0 < n0) {u : Nat} (hu : u < n0) (d : Int) (s : S38) :
  Fm n0 a0_1 A2 c2 l A3 c3 F A4 c4 gd gi gb cd ci cb b0 g2 g3 w ((⟨x.D.set u d, x.I.set u true, x.B.set u s, false⟩ : Rch)) (((((w1.setCell ⟨gd, u, none⟩ (.int .i64 d)).setCell ⟨gi, u, none⟩ (.bool true)).setCell ⟨gb, u * 2, none⟩ (.int .i64 s.f0)).setCell ⟨gb, u * 2 + 1, none⟩ (.bool s.f1))) := by
 obtain ⟨n1, n2, n3, n4, n5, n6, n7, n8, n9, _, _, _⟩ := h.blocks hx hn
 -- the first store
 have d1 := Kd.R_putg h.D (u : Int) d
 simp only [Int.toNat_natCast] at d1
 have i1 := Kd.R_over' h.I (Kd.R_typed h.D) (by decide) d1.2
 have b1 := Kd.R_over' h.B (Kd.R_typed h.D) (by decide) d1.2
 have i2 := Kd.R_putg i1 (u : Int) true
 simp only [Int.toNat_natCast] at i2
 have d2 := Kd.R_over' d1.1 (Kd.R_typed i1) (by decide) i2.2
 have b2 := Kd.R_over' b1 (Kd.R_typed i1) (by decide) i2.2
 have hB := (Kd.R_reads' b2).1
 obtain ⟨c, hcl, _, hcc, _⟩ := Kd.R_elem b2 z38 (u : Int) (by omega) (by omega)
 have b3 := Kd.R_seg b2 (u : Int) (by omega) (by omega) (c := c) (seg := [.int .i64 s.f0, .bool s.f1]) (j := 0) hcl hcc (show 2 ≤ 2 from Nat.le_refl _) (x' := s) (okp := fun _ => False)
  (by rw [List.drop_eq_nil_of_le (by rw [hcl]; exact Nat.le_refl _)]; exact k38_mkM _ _ _ s) (fun _ hk => hk.elim)
 simp only [Int.toNat_natCast] at b3
 have d3 := Kd.R_over' d2 (Kd.R_typed b2) (by decide) b3.2
 have i3 := Kd.R_over' i2.1 (Kd.R_typed b2) (by decide) b3.2
 have far : ∀ {g t : Nat} {cs : Array Value}, w1.heap[g]? = some (.cells cs t (0, 0)) → g ≠ gd → g ≠ gi → g ≠ gb → ((((w1.setCell ⟨gd, u, none⟩ (.int .i64 d)).setCell ⟨gi, u, none⟩ (.bool true)).setCell ⟨gb, u * 2, none⟩ (.int .i64 s.f0)).setCell ⟨gb, u * 2 + 1, none⟩ (.bool s.f1)).heap[g]? = some (.cells cs t (0, 0)) :=
  fun hb p1 p2 p3 => blk_far (blk_far (blk_far (blk_far hb p1 _) p2 _) p3 _) p3 _
 refine ⟨d3, i3, b3.1, far h.b2 n4 n5 n6, far h.b3 n7 n8 n9, ?_, ?_, ?_, ?_⟩
 ·exact Kd.F_far (p := ⟨gb, u * 2 + 1, none⟩) (Kd.F_far (p := ⟨gb, u * 2, none⟩) (Kd.F_far (p := ⟨gi, u, none⟩) (Kd.F_far (p := ⟨gd, u, none⟩) h.arcs (fun _ hk => hk.1) _) (fun _ hk => hk.2.1) _) (fun _ hk => hk.2.2) _) (fun _ hk => hk.2.2) _
 ·exact Kd.F_far (p := ⟨gb, u * 2 + 1, none⟩) (Kd.F_far (p := ⟨gb, u * 2, none⟩) (Kd.F_far (p := ⟨gi, u, none⟩) (Kd.F_far (p := ⟨gd, u, none⟩) h.flow (fun _ hk => hk.1) _) (fun _ hk => hk.2.1) _) (fun _ hk => hk.2.2) _) (fun _ hk => hk.2.2) _
 ·exact Kd.V_far (p := ⟨gb, u * 2 + 1, none⟩) (Kd.V_far (p := ⟨gb, u * 2, none⟩) (Kd.V_far (p := ⟨gi, u, none⟩) (Kd.V_far (p := ⟨gd, u, none⟩) h.rows (fun _ hk => hk.1) _) (fun _ hk => hk.2.1) _) (fun _ hk => hk.2.2) _) (fun _ hk => hk.2.2) _
 ·exact (((h.kp.set (.inl rfl) _ _).set (.inr (.inl rfl)) _ _).set (.inr (.inr rfl)) _ _).set (.inr (.inr rfl)) _ _
end
end Go.Proofs.Ytkcpanpdipmmmaa.H
namespace Go.Proofs.Ytkcpanpdipmmmaa.H
open Go.RowKit Go.Proofs.YtkcpanpdipmmmaaW.PrintWords Go.Proofs.YtkcpanpdipmmmaaW.PrintLast Go.Proofs.YtkcpanpdipmmmaaW.PrintMore Go.Proofs.Ytkcpanpdipmmmaa.P
structure Gm (n0 : Nat) (a0_1 : Bool) (A2 : Option Addr) (c2 : Nat) (l : List S74) (Av : Option Addr) (cv : Nat) (S : List S38) (gd gi cd ci g3 g6 g7 : Nat) (w : World) (x : Rf) (w' : World) : Prop where
 D : Kd.R (Kd.int .i64) 3 w' w.heap.size (fun _ => True) (.slice (some ⟨gd, 0, none⟩) n0 cd) x.D
 I : Kd.R Kd.bool 4 w' w.heap.size (fun _ => True) (.slice (some ⟨gi, 0, none⟩) n0 ci) x.I
 row : Kd.R k38 38 w' w.heap.size (fun _ => True) (.slice Av S.length cv) S
 b3 : w'.heap[g3]? = some (.cells #[.int .i64 n0, .bool a0_1, .slice A2 l.length c2] 24 (0, 0))
 b6 : w'.heap[g6]? = some (.cells #[.slice none 0 0, .slice none 0 0, .bool false] 66 (0, 0))
 b7 : w'.heap[g7]? = some (.cells #[.slice (some ⟨gd, 0, none⟩) n0 cd, .slice (some ⟨gi, 0, none⟩) n0 ci, .bool x.OK] 66 (0, 0))
 kb : Below w.heap.size w w'
 ne : g6 ≠ g7 ∧ w.heap.size ≤ g6 ∧ w.heap.size ≤ g7
section
variable {n0 : Nat} {a0_1 : Bool} {A2 : Option Addr} {c2 : Nat} {l : List S74} {Av : Option Addr} {cv : Nat} {S : List S38} {gd gi cd ci g3 g6 g7 : Nat} {w : World} {x : Rf} {w1 w2 : World}
theorem Gm.below (h : Gm n0 a0_1 A2 c2 l Av cv S gd gi cd ci g3 g6 g7 w (x) (w1)) (hb : Below w1.heap.size w1 w2) : Gm n0 a0_1 A2 c2 l Av cv S gd gi cd ci g3 g6 g7 w (x) (w2) :=
 ⟨Kd.R_below h.D hb, Kd.R_below h.I hb, Kd.R_below h.row hb, blk_below h.b3 hb, blk_below h.b6 hb, blk_below h.b7 hb, below_step h.kb hb, h.ne⟩
theorem Gm.flag (h : Gm n0 a0_1 A2 c2 l Av cv S gd gi cd ci g3 g6 g7 w (x) (w1)) (b : Bool) : Gm n0 a0_1 A2 c2 l Av cv S gd gi cd ci g3 g6 g7 w ({ x with OK := b }) ((w1.setCell ⟨g7, 2, none⟩ (.bool b))) := by
 have n3 : g3 ≠ g7 := fun e => by subst e; have t_ := h.b3.symm.trans h.b7; simp at t_
 exact ⟨Kd.R_set h.D h.b7 (by decide) 2 _, Kd.R_set h.I h.b7 (by decide) 2 _, Kd.R_set h.row h.b7 (by decide) 2 _, blk_far h.b3 n3 _, blk_far h.b6 h.ne.1 _, blk_put h.b7 2 _ rfl, below_set h.kb h.ne.2.2, h.ne⟩
theorem Gm.dv (h : Gm n0 a0_1 A2 c2 l Av cv S gd gi cd ci g3 g6 g7 w (x) (w1)) {v : Nat} (hv : v < n0) : w1.cell? ⟨gd, v, none⟩ = some (.int .i64 (x.D.getD v 0)) := by
 obtain ⟨ad, e, hc⟩ := Kd.at_int (Kd.R_reads' h.D).2.2 (v : Int) (by omega) (by have := (Kd.R_reads' h.D).1; omega)
 cases e
 simpa [rd, add_plain] using hc
theorem Gm.iv (h : Gm n0 a0_1 A2 c2 l Av cv S gd gi cd ci g3 g6 g7 w (x) (w1)) {v : Nat} (hv : v < n0) : w1.cell? ⟨gi, v, none⟩ = some (.bool (x.I.getD v false)) := by
 obtain ⟨ad, e, hc⟩ := Kd.at_bool (Kd.R_reads' h.I).2.2 (v : Int) (by omega) (by have := (Kd.R_reads' h.I).1; omega)
 cases e
 simpa [rdOf, add_plain] using hc
theorem Gm.free (h : Gm n0 a0_1 A2 c2 l Av cv S gd gi cd ci g3 g6 g7 w (x) (w1)) (hn : 0 < n0) (j : Nat) : w1.frozen? ⟨gd, j, none⟩ = false ∧ w1.frozen? ⟨gi, j, none⟩ = false ∧ w.heap.size ≤ gd ∧ w.heap.size ≤ gi := by
 have h1 := (Kd.R_reads' h.D).1
 have h2 := (Kd.R_reads' h.I).1
 obtain ⟨a, ca, ea, ba, hla, ca_, ha⟩ := Kd.R_form h.D (by omega)
 obtain ⟨b, cb_, eb, bb, hlb, cb2, hb⟩ := Kd.R_form h.I (by omega)
 injection ea with ea _ _
 injection ea with ea
 injection ea with ea
 injection eb with eb _ _
 injection eb with eb
 injection eb with eb
 subst ea
 subst eb
 exact ⟨blk_frozen ha j, blk_frozen hb j, ba, bb⟩
theorem Gm.put (h : Gm n0 a0_1 A2 c2 l Av cv S gd gi cd ci g3 g6 g7 w (x) (w1)) (hn : 0 < n0) {u : Nat} (hu : u < n0) (d : Int) :
  Gm n0 a0_1 A2 c2 l Av cv S gd gi cd ci g3 g6 g7 w ((⟨x.D.set u d, x.I.set u true, x.OK⟩ : Rf)) (((w1.setCell ⟨gd, u, none⟩ (.int .i64 d)).setCell ⟨gi, u, none⟩ (.bool true))) := by
 obtain ⟨_, _, k1, k2⟩ := h.free hn 0
 have d1 := Kd.R_putg h.D (u : Int) d
 simp only [Int.toNat_natCast] at d1
 have i1 := Kd.R_over' h.I (Kd.R_typed h.D) (by decide) d1.2
 have r1 := Kd.R_over' h.row (Kd.R_typed h.D) (by decide) d1.2
 have i2 := Kd.R_putg i1 (u : Int) true
 simp only [Int.toNat_natCast] at i2
 have d2 := Kd.R_over' d1.1 (Kd.R_typed i1) (by decide) i2.2
 have r2 := Kd.R_over' r1 (Kd.R_typed i1) (by decide) i2.2
 have far : ∀ {g t : Nat} {cs : Array Value}, w1.heap[g]? = some (.cells cs t (0, 0)) → 3 ≠ t → 4 ≠ t → ((w1.setCell ⟨gd, u, none⟩ (.int .i64 d)).setCell ⟨gi, u, none⟩ (.bool true)).heap[g]? = some (.cells cs t (0, 0)) := by
  intro g t cs hb n1 n2
  have hb1 := blk_grown hb d1.2 (Kd.R_ne h.D hb n1)
  exact blk_grown hb1 i2.2 (Kd.R_ne i1 hb1 n2)
 exact ⟨d2, i2.1, r2, far h.b3 (by decide) (by decide), far h.b6 (by decide) (by decide), far h.b7 (by decide) (by decide), below_set (below_set h.kb k1) k2, h.ne⟩
end
end Go.Proofs.Ytkcpanpdipmmmaa.H
namespace Go.Proofs.Ytkcpanpdipmmmaa.H
open Go.RowKit Go.Proofs.YtkcpanpdipmmmaaW.PrintWords Go.Proofs.YtkcpanpdipmmmaaW.PrintLast Go.Proofs.YtkcpanpdipmmmaaW.PrintMore Go.Proofs.Ytkcpanpdipmmmaa.P Go.Proofs.Ytkcpanpdipmmmaa.Q
attribute [local irreducible] wpQuiet
theorem Gm.ne3 {n0 : Nat} {a0_1 : Bool} {A2 : Option Addr} {c2 : Nat} {l : List S74} {Av : Option Addr} {cv : Nat} {S : List S38} {gd gi co1 co2 gb3 gb6 gb7 : Nat} {w w1 : World} {x : Rf} (h : Gm n0 a0_1 A2 c2 l Av cv S gd gi co1 co2 gb3 gb6 gb7 w (x) (w1)) (hn : 0 < n0) : gd ≠ gi ∧ gb7 ≠ gd ∧ gb7 ≠ gi := by
 have h1 := (Kd.R_reads' h.D).1
 have h2 := (Kd.R_reads' h.I).1
 obtain ⟨a, ca, ea, ba, hla, ca_, ha⟩ := Kd.R_form h.D (by omega)
 obtain ⟨b, cb_, eb, bb, hlb, cb2, hb⟩ := Kd.R_form h.I (by omega)
 injection ea with ea _ _
 injection ea with ea
 injection ea with ea
 injection eb with eb _ _
 injection eb with eb
 injection eb with eb
 subst ea
 subst eb
 have ne : ∀ {p q : Nat} {c1 c2 : Array Value} {t1 t2 : Nat}, w1.heap[p]? = some (.cells c1 t1 (0, 0)) → w1.heap[q]? = some (.cells c2 t2 (0, 0)) → t1 ≠ t2 → p ≠ q := by
  intro p q c1 c2 t1 t2 h1 h2 ht e
  subst e
  rw [h1] at h2
  injection h2 with h2
  injection h2 with _ h2
  exact ht h2
 exact ⟨ne ha hb (by decide), ne h.b7 ha (by decide), ne h.b7 hb (by decide)⟩
theorem refbd_zero (n : Nat) : Bd (List.replicate n 0) 0 := by
 intro v
 have : (List.replicate n (0 : Int)).getD v 0 = 0 := by
  rw [List.getD_eq_getElem?_getD, List.getElem?_replicate]
  split <;> rfl
 rw [this]
 omega
theorem itF_round {l : List S74} {S : List S38} {k : Nat} {x y : Rf} (h : roundF l S x = y) : itF l S (k + 1) x = itF l S k y := by subst h; rfl
theorem foldF_succ (l : List S74) (S : List S38) (y : Rf) (j : Nat) (hj : j < S.length) : (S.take (j + 1)).foldl (visF l) y = visF l ((S.take j).foldl (visF l) y) (rd_T38 S (j : Int)) := by
 have e : S.take (j + 1) = S.take j ++ [rd_T38 S (j : Int)] := by
  rw [List.take_add_one, List.getElem?_eq_getElem hj]
  show _ ++ [_] = _ ++ [S.getD (j : Int).toNat z38]
  rw [Int.toNat_natCast, List.getD_eq_getElem?_getD, List.getElem?_eq_getElem hj]
  rfl
 rw [e, List.foldl_append]
 rfl
set_option maxHeartbeats 2000000 in
set_option maxRecDepth 100000 in
theorem ref_from_calls (n0 : Nat) (a0_1 : Bool) (A2 : Option Addr) (c2 : Nat) (l : List S74) (A1 : Option Addr) (c1 : Nat) (F : List Int) (s : Nat) (w : World) (hR : Right l F n0) (hs : s < n0) (h2 : Kd.C k74 w A2 l.length l) (hc2 : l.length ≤ c2) (h3 : Kd.C (Kd.int .i64) w A1 F.length F) (hc1 : F.length ≤ c1) :
  Calls Try.prog 71 #[.agg #[.int .i64 n0, .bool a0_1, .slice A2 l.length c2], .slice A1 F.length c1, .int .i64 s] w fun e w' => ∃ v0 v1 : Value, e = .returned (.agg #[v0, v1, .bool (refF l F n0 s).OK]) ∧
   Kd.R (Kd.int .i64) 3 w' w.heap.size (fun _ => True) v0 (refF l F n0 s).D ∧ Kd.R Kd.bool 4 w' w.heap.size (fun _ => True) v1 (refF l F n0 s).I ∧ Below w.heap.size w w' := by
 obtain ⟨XT, hXT⟩ : ∃ y_, y_ = refF l F n0 s := ⟨_, rfl⟩
 rw [← hXT]
 have HXT := Aside0.mk hXT
 clear hXT
 have hu24 := Try.underlying24
 have hu66 := Try.underlying66
 have hn0 : 0 < n0 := hR.pos
 have hn50 : n0 ≤ 50 := hR.fifty
 have HR := Aside0.mk hR
 have H2 := Aside0.mk h2
 have H3 := Aside0.mk h3
 have HC2 := Aside0.mk hc2
 have HC1 := Aside0.mk hc1
 have HST := Aside0.mk (steps_ev hR (n0 : Int) a0_1)
 clear hR h2 h3 hc2 hc1
 have HB := Aside0.mk (Below.refl w.heap.size w)
 have c4b1 : decide (0 ≤ (n0 : Int)) = true := decide_eq_true (by omega)
 have c5b1 : decide (((n0 : Int)).toNat ≤ 35184372088832) = true := decide_eq_true (by omega)
 have c6b1 : decide (((n0 : Int)).toNat ≤ 281474976710656) = true := decide_eq_true (by omega)
 obtain ⟨y1, hy1⟩ : ∃ y_ : List Int, y_ = (List.replicate ((n0 : Int)).toNat 0) := ⟨_, rfl⟩
 obtain ⟨y2, hy2⟩ : ∃ y_ : List Bool, y_ = (List.replicate ((n0 : Int)).toNat false) := ⟨_, rfl⟩
 have Ny1 := Aside0.mk hy1
 have Ny2 := Aside0.mk hy2
 clear hy1 hy2
 go_enter Try.func71, Try.ntmps71
 go_wp2_with (first | ((with_reducible refine gate_dst (N := 3) rfl ?_); refine box_event ?hg (N := 3) ?hd (cs := #[.int .i64 n0, .bool a0_1, .slice A2 l.length c2]) (t := 24) ?hr ?_; (case hd => rfl); (case hg => rfl); (case hr => first | (go_simp; done) | (go_simp; rfl)); intro gb3 hg w4 hbox hb; have n0_ := Aside0.mk (below_step HB.out hb); have BK3 := Aside0.mk hbox; clear HB; have HB := n0_; clear n0_ hb hbox hg) | ((with_reducible refine gate_dst (N := 6) rfl ?_); refine box_event ?hg (N := 6) ?hd (cs := #[.slice none 0 0, .slice none 0 0, .bool false]) (t := 66) ?hr ?_; (case hd => rfl); (case hg => rfl); (case hr => first | (go_simp; done) | (go_simp; rfl)); intro gb6 hg w5 hbox hb; have GE6 : Aside0 (w.heap.size ≤ gb6) := ⟨by rw [hg]; exact HB.out.size⟩; have n0_ := Aside0.mk (below_step HB.out hb); have n1_ := Aside0.mk (blk_below BK3.out hb); have BK6 := Aside0.mk hbox; clear HB BK3; have HB := n0_; have BK3 := n1_; clear n0_ n1_ hb hbox hg; have hcz3_0 : w5.cell? ⟨gb3, 0, none⟩ = some (.int .i64 n0) := (blk_cell BK3.out 0).trans rfl) | fail)
 refine start_ (n := 9) (S := fun w' => w'.cell? ⟨gb3, 0, none⟩ = some (.int .i64 (n0 : Int))) (ds := [8]) #[false, false, false, false, false, false, false, false, false] (by kernel_rfl) rfl rfl hcz3_0 (fun hHeld => ?_)
 have d0_ := Aside0.mk (below_drew HB.out)
 have d1_ := Aside0.mk (show w5.drew.heap[gb3]? = some (.cells #[.int .i64 (n0 : Int), .bool a0_1, .slice A2 l.length c2] 24 (0, 0)) from BK3.out)
 have d2_ := Aside0.mk (show w5.drew.heap[gb6]? = some (.cells #[.slice none 0 0, .slice none 0 0, .bool false] 66 (0, 0)) from BK6.out)
 clear HB BK3 BK6
 have HB := d0_
 have BK3 := d1_
 have BK6 := d2_
 clear d0_ d1_ d2_
 generalize w5.drew = w14 at hHeld HB BK3 BK6 ⊢
 have L0_ : Aside0 (gb3 < w14.heap.size) := ⟨blk_lt BK3.out⟩
 have L1_ : Aside0 (gb6 < w14.heap.size) := ⟨blk_lt BK6.out⟩
 refine pure_ (i := 0) (N := some 14) (v := ?_) (a' := ?_) #[true, false, false, false, false, false, false, false, false] rfl rfl (by kernel_rfl) (fun _ _ _ h => h) (Or.inl ⟨by rfl, ?_⟩) ?_ ?_
 rotate_left
 ·intro w'
  go_simp
  with_reducible rfl
 rotate_left
 ·simp only [Act.put, List.setIfInBounds_toArray, List.set_cons_zero, List.set_cons_succ, i64_w, i32_w]
  rfl
 refine pure_ (i := 3) (N := some 17) (v := ?_) (a' := ?_) #[true, false, false, true, false, false, false, false, false] rfl rfl (by kernel_rfl) (fun _ _ _ h => h) (Or.inl ⟨by rfl, ?_⟩) ?_ ?_
 rotate_left
 ·intro w'
  go_simp
  with_reducible rfl
 rotate_left
 ·simp only [Act.put, List.setIfInBounds_toArray, List.set_cons_zero, List.set_cons_succ, i64_w, i32_w]
  rfl
 refine take_ (i := 1) (N := some 15) (v := ?_) (a' := ?_) #[true, true, false, true, false, false, false, false, false] rfl rfl (by kernel_rfl) (fun _ _ _ h => h) (Or.inl ⟨by rfl, ?_⟩) hHeld ?_ ?_
 rotate_left
 ·rintro w' s0
  go_simp
  with_reducible rfl
 rotate_left
 ·simp only [Act.put, List.setIfInBounds_toArray, List.set_cons_zero, List.set_cons_succ, i64_w, i32_w]
  rfl
 refine take_ (i := 4) (N := some 18) (v := ?_) (a' := ?_) #[true, true, false, true, true, false, false, false, false] rfl rfl (by kernel_rfl) (fun _ _ _ h => h) (Or.inl ⟨by rfl, ?_⟩) hHeld ?_ ?_
 rotate_left
 ·rintro w' s0
  go_simp
  with_reducible rfl
 rotate_left
 ·simp only [Act.put, List.setIfInBounds_toArray, List.set_cons_zero, List.set_cons_succ, i64_w, i32_w]
  rfl
 refine join_ (σ := Value × Value × Nat) 1 #[true, true, true, true, true, true, true, true, false] (fun s_ => [(16, s_.1), (19, s_.2.1), (20, .agg #[s_.1, s_.2.1, .bool false]), (7, .pointer (some ⟨s_.2.2, 0, none⟩))]) (fun s_ w' => w'.cell? ⟨gb3, 0, none⟩ = some (.int .i64 (n0 : Int)) ∧ Below w14.heap.size w14 w' ∧ Kd.R (Kd.int .i64) 3 w' w14.heap.size (fun _ => True) s_.1 y1 ∧ Kd.R Kd.bool 4 w' w14.heap.size (fun _ => True) s_.2.1 y2 ∧ w14.heap.size ≤ s_.2.2 ∧ w'.heap[s_.2.2]? = some (.cells #[.slice none 0 0, .slice none 0 0, .bool false] 66 (0, 0))) ?_ ?_
 rotate_left
 ·intro hCont
  refine makers_ (fuel := 2) 3 #[true, true, true, true, true, true, false, true, false] [7] #[true, true, true, true, true, true, false, false, false] [⟨2, 16, (fun v w' => Kd.R (Kd.int .i64) 3 w' w14.heap.size (fun _ => True) v y1)⟩, ⟨5, 19, (fun v w' => Kd.R Kd.bool 4 w' w14.heap.size (fun _ => True) v y2)⟩, ⟨7, 7, (fun v w' => ∃ g, v = .pointer (some ⟨g, 0, none⟩) ∧ w14.heap.size ≤ g ∧ w'.heap[g]? = some (.cells #[.slice none 0 0, .slice none 0 0, .bool false] 66 (0, 0)))⟩] rfl (by simp) (by simp) ?_ ?_ (by kernel_rfl) hHeld ?_ ?_
  ·intro m hm
   simp only [List.mem_cons, List.not_mem_nil, or_false] at hm
   rcases hm with rfl | rfl | rfl
   ·refine ⟨_, rfl, rfl, by simp, fun a' w' K he hS hb hK => ?_⟩
    refine Kd.R_make_step (Kd.int .i64) (w0 := w') w14.heap.size 3 (by rfl) (N := 16) rfl 25 (.tmp 15) (.tmp 15) rfl (n0 : Int) ((he 15 (by simp)).trans rfl) ((he 15 (by simp)).trans rfl) Try.underlying25 (.int .i64 0) 8 info3 rfl (by decide) (by omega) 0 (ok := fun _ => True) (okp := fun _ => False) rfl (fun _ hk => hk.elim) trivial (of_decide_eq_true (by first | (with_reducible assumption) | assumption)) (by have h1_ : ((n0 : Int) : Int).toNat ≤ 35184372088832 := (of_decide_eq_true (by first | (with_reducible assumption) | assumption)); omega) (Below.refl _ _) hb.size (fun v1 w1 hr hb1 hg hat => ?_)
    rw [← Ny1.out] at hr
    have hbb : Below w'.heap.size w' w1 := ⟨hg.os, hg.tape, hg.output, hg.size, fun k hk => hg.block k hk (by simp)⟩
    exact hK v1 w1 (pw_cell_below hbb hS) hbb hr
   ·refine ⟨_, rfl, rfl, by simp, fun a' w' K he hS hb hK => ?_⟩
    refine Kd.R_make_step Kd.bool (w0 := w') w14.heap.size 4 (by rfl) (N := 19) rfl 26 (.tmp 18) (.tmp 18) rfl (n0 : Int) ((he 18 (by simp)).trans rfl) ((he 18 (by simp)).trans rfl) Try.underlying26 (.bool false) 1 info4 rfl (by decide) (by omega) false (ok := fun _ => True) (okp := fun _ => False) rfl (fun _ hk => hk.elim) trivial (of_decide_eq_true (by first | (with_reducible assumption) | assumption)) (by have h1_ : ((n0 : Int) : Int).toNat ≤ 281474976710656 := (of_decide_eq_true (by first | (with_reducible assumption) | assumption)); omega) (Below.refl _ _) hb.size (fun v1 w1 hr hb1 hg hat => ?_)
    rw [← Ny2.out] at hr
    have hbb : Below w'.heap.size w' w1 := ⟨hg.os, hg.tape, hg.output, hg.size, fun k hk => hg.block k hk (by simp)⟩
    exact hK v1 w1 (pw_cell_below hbb hS) hbb hr
   ·refine ⟨_, rfl, rfl, by simp, fun a' w' K he hS hb hK => ?_⟩
    refine box_step ?hg (N := 7) ?hd (cs := #[.slice none 0 0, .slice none 0 0, .bool false]) (t := 66) ?hr ?_; (case hd => rfl); (case hg => rfl); (case hr => first | (go_simp; done) | (go_simp; rfl))
    intro g hg w1 hbox hbb
    exact hK _ w1 (pw_cell_below hbb hS) hbb ⟨g, rfl, by rw [hg]; exact hb.size, hbox⟩
  ·intro m hm
   simp only [List.mem_cons, List.not_mem_nil, or_false] at hm
   rcases hm with rfl | rfl | rfl
   ·exact fun v w1 w2 hb hg => Kd.R_below hg hb
   ·exact fun v w1 w2 hb hg => Kd.R_below hg hb
   ·rintro v w1 w2 hb ⟨g, e, h1, h2⟩
    exact ⟨g, e, h1, blk_below h2 hb⟩
  ·skip
   intro vs w15 hb15 hHeld hG
   have p0 := hG _ (List.mem_cons_self ..)
   have p1 := hG _ (List.mem_cons_of_mem _ (List.mem_cons_self ..))
   have p2 := hG _ (List.mem_cons_of_mem _ (List.mem_cons_of_mem _ (List.mem_cons_self ..)))
   clear hG
   dsimp only at p0 p1
   obtain ⟨A0, k0, e0⟩ := Kd.R_slice p0
   obtain ⟨A1_, k1, e1⟩ := Kd.R_slice p1
   obtain ⟨g_, e2, p2a, p2b⟩ := p2
   dsimp only at e2
   refine norm_ (a' := ?_) ?_ ?_
   rotate_left
   ·simp only [List.map_cons, List.map_nil, putAll, Act.put, List.setIfInBounds_toArray, List.set_cons_zero, List.set_cons_succ, e0, e1, e2]
    rfl
   rw [e0] at p0
   rw [e1] at p1
   refine pure_ (i := 6) (N := some 20) (v := ?_) (a' := ?_) #[true, true, true, true, true, true, true, true, false] rfl rfl (by kernel_rfl) (fun _ _ _ h => h) (Or.inl ⟨by rfl, ?_⟩) ?_ ?_
   rotate_left
   ·intro w'
    go_simp
    with_reducible rfl
   rotate_left
   ·simp only [Act.put, List.setIfInBounds_toArray, List.set_cons_zero, List.set_cons_succ, i64_w, i32_w]
    rfl
   exact norm_ (by (simp only [putAll, Act.put, List.setIfInBounds_toArray, List.set_cons_zero, List.set_cons_succ]) <;> rfl) (hCont (.slice A0 y1.length k0, .slice A1_ y2.length k1, g_) _ ⟨hHeld, hb15, p0, p1, p2a, p2b⟩)
  ·skip
   intro vs w15 hb15 hHeld hG
   have p0 := hG _ (List.mem_cons_self ..) (by simp)
   have p1 := hG _ (List.mem_cons_of_mem _ (List.mem_cons_self ..)) (by simp)
   clear hG
   dsimp only at p0 p1
   obtain ⟨A0, k0, e0⟩ := Kd.R_slice p0
   obtain ⟨A1_, k1, e1⟩ := Kd.R_slice p1
   show wpAnyLast _ _ _ _ _ _ 3 _ _ _
   refine norm_ (a' := ?_) ?_ ?_
   rotate_left
   ·show putAll _ [(16, vs 16), (19, vs 19)] = _
    simp only [e0, e1, putAll, Act.put, List.setIfInBounds_toArray, List.set_cons_zero, List.set_cons_succ]
    rfl
   rw [e0] at p0
   rw [e1] at p1
   refine pure_ (i := 6) (N := some 20) (v := ?_) (a' := ?_) #[true, true, true, true, true, true, true, false, false] rfl rfl (by kernel_rfl) (fun _ _ _ h => h) (Or.inl ⟨by rfl, ?_⟩) ?_ ?_
   rotate_left
   ·intro w'
    go_simp
    with_reducible rfl
   rotate_left
   ·simp only [Act.put, List.setIfInBounds_toArray, List.set_cons_zero, List.set_cons_succ, i64_w, i32_w]
    rfl
   refine one_ (i := 7) (N := some 7) #[true, true, true, true, true, true, true, true, false] rfl rfl (by kernel_rfl) (by decide) (fun K hK => ?_)
   refine box_step ?hg (N := 7) ?hd (cs := #[.slice none 0 0, .slice none 0 0, .bool false]) (t := 66) ?hr ?_; (case hd => rfl); (case hg => rfl); (case hr => first | (go_simp; done) | (go_simp; rfl))
   intro g_ hg w16 hbox hbb
   refine hK.out _ _ (pw_cell_below hbb hHeld) (fun hHeld => ?_)
   exact norm_ (by (simp only [putAll, Act.put, List.setIfInBounds_toArray, List.set_cons_zero, List.set_cons_succ]) <;> rfl) (hCont (.slice A0 y1.length k0, .slice A1_ y2.length k1, g_) _ ⟨hHeld, below_then hb15 hb15.size hbb, Kd.R_below p0 hbb, Kd.R_below p1 hbb, by rw [hg]; exact hb15.size, hbox⟩)
 rintro ⟨v0, v1, gb7⟩ w22 ⟨hHeld, hb15, p0, p1, p2a, p2b⟩
 dsimp only at p0 p1 p2a p2b
 refine norm_ (a' := ?_) ?_ ?_
 rotate_left
 ·simp only [putAll, Act.put, List.setIfInBounds_toArray, List.set_cons_zero, List.set_cons_succ]
  rfl
 obtain ⟨Ao1, co1, e0⟩ := Kd.R_slice p0
 obtain ⟨Ao2, co2, e1⟩ := Kd.R_slice p1
 subst e0
 subst e1
 have HO1 := Aside0.mk (Kd.R_lower p0 HB.out.size)
 have HO2 := Aside0.mk (Kd.R_lower p1 HB.out.size)
 have BK7 := Aside0.mk p2b
 have GE7 : Aside0 (w.heap.size ≤ gb7) := ⟨Nat.le_trans HB.out.size p2a⟩
 have GW7 := GE7
 have NB3_7 : Aside0 (gb3 ≠ gb7) := ⟨by have := L0_.out; omega⟩
 have NB7_3 : Aside0 (gb7 ≠ gb3) := ⟨by have := L0_.out; omega⟩
 have NB6_7 : Aside0 (gb6 ≠ gb7) := ⟨by have := L1_.out; omega⟩
 have NB7_6 : Aside0 (gb7 ≠ gb6) := ⟨by have := L1_.out; omega⟩
 have d0_ := Aside0.mk (below_step HB.out hb15)
 have d1_ := Aside0.mk (blk_below BK3.out hb15)
 have d2_ := Aside0.mk (blk_below BK6.out hb15)
 clear HB BK3 BK6 p0 p1 p2a p2b hb15 L0_ L1_
 have HB := d0_
 have BK3 := d1_
 have BK6 := d2_
 clear d0_ d1_ d2_
 refine last_ (i := 8) (N := none) #[true, true, true, true, true, true, true, true, true] rfl rfl (by kernel_rfl) (by decide) (fun K hK => ?_)
 have hs0 : w22.cell? ⟨gb7, 0, none⟩ = some (.slice none 0 0) := (blk_cell BK7.out 0).trans rfl
 have hfs0 := blk_frozen BK7.out 0
 have hs1 : w22.cell? ⟨gb7, 1, none⟩ = some (.slice none 0 0) := (blk_cell BK7.out 1).trans rfl
 have hfs1 := blk_frozen BK7.out 1
 have hs2 : w22.cell? ⟨gb7, 2, none⟩ = some (.bool false) := (blk_cell BK7.out 2).trans rfl
 have hfs2 := blk_frozen BK7.out 2
 refine skip_ (w1 := (((w22.setCell ⟨gb7, 0, none⟩ (.slice Ao1 y1.length co1)).setCell ⟨gb7, 1, none⟩ (.slice Ao2 y2.length co2)).setCell ⟨gb7, 2, none⟩ (.bool false))) (by rfl) rfl ?_ ?_
 ·go_simp
 refine hK.out _ _ ?_
 clear hK K hs0 hs1 hs2 hfs0 hfs1 hfs2 hHeld
 refine done_ (by kernel_rfl) ?_
 clear hcz3_0
 have e1 : y1 = List.replicate n0 0 := by rw [Ny1.out, Int.toNat_natCast]
 have e2 : y2 = List.replicate n0 false := by rw [Ny2.out, Int.toNat_natCast]
 have m0_ := Aside0.mk (Kd.R_set (Kd.R_set (Kd.R_set (HO1.out) (BK7.out) (by decide) 0 (.slice Ao1 y1.length co1)) (blk_put (BK7.out) 0 (.slice Ao1 y1.length co1) rfl) (by decide) 1 (.slice Ao2 y2.length co2)) (blk_put (blk_put (BK7.out) 0 (.slice Ao1 y1.length co1) rfl) 1 (.slice Ao2 y2.length co2) rfl) (by decide) 2 (.bool false))
 have m1_ := Aside0.mk (Kd.R_set (Kd.R_set (Kd.R_set (HO2.out) (BK7.out) (by decide) 0 (.slice Ao1 y1.length co1)) (blk_put (BK7.out) 0 (.slice Ao1 y1.length co1) rfl) (by decide) 1 (.slice Ao2 y2.length co2)) (blk_put (blk_put (BK7.out) 0 (.slice Ao1 y1.length co1) rfl) 1 (.slice Ao2 y2.length co2) rfl) (by decide) 2 (.bool false))
 have m2_ := Aside0.mk (blk_put (blk_put (blk_put (BK7.out) 0 (.slice Ao1 y1.length co1) rfl) 1 (.slice Ao2 y2.length co2) rfl) 2 (.bool false) rfl)
 have m3_ : Aside0 ((((w22.setCell ⟨gb7, 0, none⟩ (.slice Ao1 y1.length co1)).setCell ⟨gb7, 1, none⟩ (.slice Ao2 y2.length co2)).setCell ⟨gb7, 2, none⟩ (.bool false)).heap[gb3]? = some (.cells #[.int .i64 n0, .bool a0_1, .slice A2 l.length c2] 24 (0, 0))) := ⟨blk_far (blk_far (blk_far BK3.out NB3_7.out _) NB3_7.out _) NB3_7.out _⟩
 have m4_ : Aside0 ((((w22.setCell ⟨gb7, 0, none⟩ (.slice Ao1 y1.length co1)).setCell ⟨gb7, 1, none⟩ (.slice Ao2 y2.length co2)).setCell ⟨gb7, 2, none⟩ (.bool false)).heap[gb6]? = some (.cells #[.slice none 0 0, .slice none 0 0, .bool false] 66 (0, 0))) := ⟨blk_far (blk_far (blk_far BK6.out NB6_7.out _) NB6_7.out _) NB6_7.out _⟩
 have m5_ : Aside0 (Below w.heap.size w (((w22.setCell ⟨gb7, 0, none⟩ (.slice Ao1 y1.length co1)).setCell ⟨gb7, 1, none⟩ (.slice Ao2 y2.length co2)).setCell ⟨gb7, 2, none⟩ (.bool false))) := ⟨below_set (below_set (below_set HB.out GE7.out) GE7.out) GE7.out⟩
 have HNE : Aside0 (gb6 ≠ gb7 ∧ w.heap.size ≤ gb6 ∧ w.heap.size ≤ gb7) := ⟨⟨NB6_7.out, GE6.out, GE7.out⟩⟩
 obtain ⟨w26, hw⟩ : ∃ x_, x_ = (((w22.setCell ⟨gb7, 0, none⟩ (.slice Ao1 y1.length co1)).setCell ⟨gb7, 1, none⟩ (.slice Ao2 y2.length co2)).setCell ⟨gb7, 2, none⟩ (.bool false)) := ⟨_, rfl⟩
 rw [← hw] at m0_ m1_ m2_ m3_ m4_ m5_ ⊢
 clear hw HO1 HO2 BK7 BK3 BK6 HB Ny1 Ny2
 have l1 : y1.length = n0 := by rw [e1, List.length_replicate]
 have l2 : y2.length = n0 := by rw [e2, List.length_replicate]
 obtain ⟨gd, cd, ed, _, _, _, _⟩ := Kd.R_form m0_.out (by omega)
 obtain ⟨gi, ci, ei, bi_, _, _, _⟩ := Kd.R_form m1_.out (by omega)
 injection ed with ed _ ed3
 injection ei with ei _ ei3
 subst ed
 subst ed3
 subst ei
 subst ei3
 rw [l1, e1] at m0_
 rw [l2, e2] at m1_
 rw [l1, l2] at m2_ ⊢
 clear e1 e2 l1 l2
 have GI := Aside0.mk bi_
 clear bi_
 have hx1 : w26.cell? ⟨gb7, 1, none⟩ = some (.slice (some ⟨gi, 0, none⟩) n0 co2) := (blk_cell m2_.out 1).trans rfl
 have hps : 0 ≤ (s : Int) := by omega
 have hqs : (s : Int) < (n0 : Int) := by omega
 obtain ⟨ads, eas, hcs⟩ := Kd.at_bool (Kd.R_reads' m1_.out).2.2 (s : Int) hps (by rw [List.length_replicate]; exact hqs)
 cases eas
 simp only [Int.toNat_natCast, add_plain] at hcs
 obtain ⟨_, _, _, _, hfs_⟩ := Kd.R_elem m1_.out false (s : Int) hps hqs
 have hfs := hfs_ 0
 simp only [Int.toNat_natCast, Nat.add_zero] at hfs
 (try rw [show Kd.bool.sz = 1 from rfl, Nat.mul_one] at hfs)
 clear hfs_
 have P_ := Kd.R_putg m1_.out (s : Int) true
 simp only [Int.toNat_natCast] at P_
 have n0_ := Aside0.mk (Kd.R_over' m0_.out (Kd.R_typed m1_.out) (by decide) P_.2)
 have n1_ := Aside0.mk P_.1
 have n2_ := Aside0.mk (blk_grown m2_.out P_.2 (Kd.R_ne m1_.out m2_.out (by decide)))
 have n3_ := Aside0.mk (blk_grown m3_.out P_.2 (Kd.R_ne m1_.out m3_.out (by decide)))
 have n4_ := Aside0.mk (blk_grown m4_.out P_.2 (Kd.R_ne m1_.out m4_.out (by decide)))
 have n5_ : Aside0 (Below w.heap.size w (w26.setCell ⟨gi, s, none⟩ (.bool true))) := ⟨below_set m5_.out GI.out⟩
 clear m0_ m1_ m2_ m3_ m4_ m5_ P_
 have hy0 : (w26.setCell ⟨gi, s, none⟩ (.bool true)).cell? ⟨gb3, 0, none⟩ = some (.int .i64 n0) := (blk_cell n3_.out 0).trans rfl
 have hy1 : (w26.setCell ⟨gi, s, none⟩ (.bool true)).cell? ⟨gb3, 1, none⟩ = some (.bool a0_1) := (blk_cell n3_.out 1).trans rfl
 have hy2 : (w26.setCell ⟨gi, s, none⟩ (.bool true)).cell? ⟨gb3, 2, none⟩ = some (.slice A2 l.length c2) := (blk_cell n3_.out 2).trans rfl
 obtain ⟨K, hK⟩ := HST.out
 have HK := Aside0.mk (hK K (Nat.le_refl _))
 clear hK HST
 have HSo := Aside0.mk (stepsR_of HR.out)
 have HSl : (stepsR l F F.length).length ≤ 400 := by have := stepsR_len l F F.length; have := HR.out.len; have := HR.out.arcs; omega
 have HXT2 : Aside0 (itF l (stepsR l F F.length) (n0 + 1 - 0) (startF n0 s) = XT) := ⟨HXT.out.symm⟩
 obtain ⟨S, hS⟩ : ∃ S_, S_ = stepsR l F F.length := ⟨_, rfl⟩
 rw [← hS] at HK HSo HSl HXT2
 clear hS HXT
 go_wp2_with (first | (go_at_call 43; refine (ebbtideref07_Steps.calls K (n0 : Int) a0_1 A2 c2 l A1 c1 F S _ (Kd.C_below H2.out n5_.out) HC2.out (Kd.C_below H3.out n5_.out) HC1.out HK.out).mono ?_; rintro e_ w31 ⟨v8, rfl, ho, hb⟩; obtain ⟨Av, cv, ev⟩ := Kd.R_slice ho; subst ev; have HF : Aside0 (Gm n0 a0_1 A2 c2 l Av cv S gd gi co1 co2 gb3 gb6 gb7 w ((startF n0 s)) (w31)) := ⟨⟨Kd.R_below n0_.out hb, Kd.R_below n1_.out hb, Kd.R_lower ho n5_.out.size, blk_below n3_.out hb, blk_below n4_.out hb, blk_below n2_.out hb, below_step n5_.out hb, HNE.out⟩⟩; clear n0_ n1_ n2_ n3_ n4_ n5_ ho hb hx1 hcs hfs hy0 hy1 hy2) | fail)
 go_loopw [9] (fun v9 w' => ∃ k : Nat, k ≤ n0 + 1 ∧ v9 = .int .i64 k ∧ ∃ x : Rf, Aside0 (x.Ok n0) ∧ Aside0 (Bd x.D (400 * (k : Int))) ∧ Aside0 (itF l S (n0 + 1 - k) x = XT) ∧ Aside0 (Gm n0 a0_1 A2 c2 l Av cv S gd gi co1 co2 gb3 gb6 gb7 w (x) (w'))) (fun v9 _ => n0 + 1 - (intOf v9).toNat)
 case atStart => exact ⟨0, Nat.zero_le _, rfl, startF n0 s, ⟨⟨by simp [startF], by simp [startF]⟩⟩, ⟨by show Bd (List.replicate n0 0) _; simpa using refbd_zero n0⟩, HXT2, HF⟩
 case round =>
  clear HF HXT2
  obtain ⟨k, hk, rfl, x, HO, HBD, HG, HF⟩ := hrel
  have hx0 : wr.cell? ⟨gb3, 0, none⟩ = some (.int .i64 n0) := (blk_cell HF.out.b3 0).trans rfl
  by_cases hlt : k ≤ n0
  ·have c31 : decide ((k : Int) ≤ (n0 : Int)) = true := decide_eq_true (by omega)
   have hz2 : wr.cell? ⟨gb7, 2, none⟩ = some (.bool x.OK) := (blk_cell HF.out.b7 2).trans rfl
   have hfz := blk_frozen HF.out.b7 2
   have HF2 := Aside0.mk (HF.out.flag true)
   clear HF
   go_wp2_with fail
   clear hx0 hz2 hfz
   obtain ⟨w1, hw1⟩ : ∃ x_ : World, x_ = wr.setCell ⟨gb7, 2, none⟩ (.bool true) := ⟨_, rfl⟩
   rw [← hw1] at HF2 ⊢
   clear hw1
   obtain ⟨y0, hy0⟩ : ∃ y_ : Rf, y_ = { x with OK := true } := ⟨_, rfl⟩
   rw [← hy0] at HF2
   have HY0 := Aside0.mk hy0
   have HOy : Aside0 (y0.Ok n0) := ⟨by rw [hy0]; exact ⟨HO.out.hD, HO.out.hI⟩⟩
   have HBy : Aside0 (Bd y0.D (400 * (k : Int))) := ⟨by rw [hy0]; exact HBD.out⟩
   clear hy0 HO HBD
   go_loopw [10] (fun v10 w' => ∃ j : Nat, j ≤ S.length ∧ v10 = .int .i64 j ∧ ∃ z : Rf, Aside0 (z = (S.take j).foldl (visF l) y0) ∧ Aside0 (z.Ok n0) ∧ Aside0 (Bd z.D (400 * (k : Int) + (j : Int))) ∧ Aside0 (Gm n0 a0_1 A2 c2 l Av cv S gd gi co1 co2 gb3 gb6 gb7 w (z) (w'))) (fun v10 _ => S.length - (intOf v10).toNat)
   case atStart => exact ⟨0, Nat.zero_le _, rfl, y0, ⟨rfl⟩, HOy, ⟨by simpa using HBy.out⟩, HF2⟩
   case round =>
    clear HF2 HOy HBy
    obtain ⟨j, hj, rfl, z, HZ, HOz, HBD, HF⟩ := hrel
    by_cases hltj : j < S.length
    ·have pj : 0 ≤ ((j : Nat) : Int) := by omega
     have qj : ((j : Nat) : Int) < (S.length : Int) := by omega
     have c38 : decide ((j : Int) < (S.length : Int)) = true := decide_eq_true qj
     obtain ⟨adj, eadj, hs0, hs1⟩ := at_T38 (Kd.R_reads' HF.out.row).2.2 (j : Int) pj qj
     cases eadj
     simp only [Int.toNat_natCast] at hs0 hs1
     have HZS := Aside0.mk (foldF_succ l S y0 j hltj)
     have hso : StepOf l (rd_T38 S (j : Int)) := HSo.out _ (by
      unfold rd_T38
      rw [Int.toNat_natCast, List.getD_eq_getElem?_getD, List.getElem?_eq_getElem hltj]
      exact List.getElem_mem hltj)
     rw [← HZ.out] at HZS
     obtain ⟨q, hq⟩ : ∃ s_, s_ = rd_T38 S (j : Int) := ⟨_, rfl⟩
     rw [← hq] at hs0 hs1 HZS hso
     have HSO := Aside0.mk hso
     clear hq hso HZ
     obtain ⟨a, ha⟩ : ∃ u_ : Nat, stFrom l q = (u_ : Int) := ⟨(stFrom l q).toNat, by have := stFrom_in HR.out HSO.out; omega⟩
     obtain ⟨u, hu⟩ : ∃ u_ : Nat, stTo l q = (u_ : Int) := ⟨(stTo l q).toNat, by have := stTo_in HR.out HSO.out; omega⟩
     obtain ⟨tm, htm⟩ : ∃ d_, d_ = stTime l q := ⟨_, rfl⟩
     obtain ⟨da, hda⟩ : ∃ d_, d_ = z.D.getD a 0 := ⟨_, rfl⟩
     have han : a < n0 := by have := stFrom_in HR.out HSO.out; omega
     have hun : u < n0 := by have := stTo_in HR.out HSO.out; omega
     have htb := stTime_in HR.out HSO.out
     rw [← htm] at htb
     have hdb := HBD.out a
     rw [← hda] at hdb
     have hwd : IntKind.i64.wrap (da + tm) = da + tm := by rw [IntKind.wrap_i64]; omega
     have HFR := Aside0.mk (rfrom_f HR.out HSO.out (n0 : Int) a0_1)
     have HTO := Aside0.mk (rto_f HR.out HSO.out (n0 : Int) a0_1)
     have HTM := Aside0.mk (rtime_f HR.out HSO.out (n0 : Int) a0_1)
     rw [ha] at HFR
     rw [hu] at HTO
     rw [← htm] at HTM
     have HVC : Aside0 (visF l z q = if z.I.getD a false && (!z.I.getD u false || decide (da + tm < z.D.getD u 0)) then ⟨z.D.set u (da + tm), z.I.set u true, false⟩ else z) := ⟨by unfold visF; rw [← htm, ha, hu, Int.toNat_natCast, Int.toNat_natCast, ← hda]⟩
     have HBS : Aside0 (Bd (z.D.set u (da + tm)) (400 * (k : Int) + ((j + 1 : Nat) : Int))) := ⟨by
      have h_ := HBD.out.set (by omega) u a tm htb.1 htb.2
      rw [← hda] at h_
      exact h_.mono (by omega)⟩
     clear hdb htb hu ha htm
     have q0 : ∀ p : BelowW wr, p.at_.cell? ⟨gb3, 0, none⟩ = some (.int .i64 n0) := fun p => p.cell ((blk_cell HF.out.b3 0).trans rfl)
     have q1 : ∀ p : BelowW wr, p.at_.cell? ⟨gb3, 1, none⟩ = some (.bool a0_1) := fun p => p.cell ((blk_cell HF.out.b3 1).trans rfl)
     have q2 : ∀ p : BelowW wr, p.at_.cell? ⟨gb3, 2, none⟩ = some (.slice A2 l.length c2) := fun p => p.cell ((blk_cell HF.out.b3 2).trans rfl)
     have q4 : ∀ p : BelowW wr, p.at_.cell? (adj.add (j * 2)) = some (.int .i64 q.f0) := fun p => p.cell hs0
     have q5 : ∀ p : BelowW wr, p.at_.cell? ⟨(adj.add (j * 2)).block, (adj.add (j * 2)).off + 1, none⟩ = some (.bool q.f1) := fun p => p.cell hs1
     have HCA : Aside0 (∀ p : BelowW wr, Kd.C k74 p.at_ A2 l.length l) := ⟨fun p => Kd.C_below H2.out (below_step HF.out.kb p.below)⟩
     clear hs0 hs1
     go_wp2_with fail
     refine wp_region_quiet_below (by kernel_rfl) (by kernel_rfl) ?_; (repeat (quiet_step ((first | (go_at_call 44; exact calls_below_of (ebbtideref07_From.calls (n0 : Int) a0_1 A2 c2 l q.f0 q.f1 (a : Int) _ (HCA.out _) HC2.out HFR.out)) | (go_at_call 45; exact calls_below_of (ebbtideref07_To.calls (n0 : Int) a0_1 A2 c2 l q.f0 q.f1 (u : Int) _ (HCA.out _) HC2.out HTO.out)))))); refine wpQuiet_nil ?_; intro wq hw'; obtain ⟨⟨wz, hbq⟩, hwq⟩ := hw'; subst hwq
     have m0_ := Aside0.mk (HF.out.below hbq)
     have s4 : wq.cell? (adj.add (j * 2)) = some (.int .i64 q.f0) := q4 ⟨wq, hbq⟩
     have s5 : wq.cell? ⟨(adj.add (j * 2)).block, (adj.add (j * 2)).off + 1, none⟩ = some (.bool q.f1) := q5 ⟨wq, hbq⟩
     clear HF HCA q0 q1 q2 q4 q5 hbq
     have HF := m0_
     clear m0_
     have pa : 0 ≤ ((a : Nat) : Int) := by omega
     have qa : ((a : Nat) : Int) < (n0 : Int) := by omega
     have pu : 0 ≤ ((u : Nat) : Int) := by omega
     have qu : ((u : Nat) : Int) < (n0 : Int) := by omega
     have hcD := HF.out.dv han
     rw [← hda] at hcD
     have q0 : ∀ p : BelowW wq, p.at_.cell? ⟨gb3, 0, none⟩ = some (.int .i64 n0) := fun p => p.cell ((blk_cell HF.out.b3 0).trans rfl)
     have q1 : ∀ p : BelowW wq, p.at_.cell? ⟨gb3, 1, none⟩ = some (.bool a0_1) := fun p => p.cell ((blk_cell HF.out.b3 1).trans rfl)
     have q2 : ∀ p : BelowW wq, p.at_.cell? ⟨gb3, 2, none⟩ = some (.slice A2 l.length c2) := fun p => p.cell ((blk_cell HF.out.b3 2).trans rfl)
     have q4 : ∀ p : BelowW wq, p.at_.cell? (adj.add (j * 2)) = some (.int .i64 q.f0) := fun p => p.cell s4
     have q5 : ∀ p : BelowW wq, p.at_.cell? ⟨(adj.add (j * 2)).block, (adj.add (j * 2)).off + 1, none⟩ = some (.bool q.f1) := fun p => p.cell s5
     have q6 : ∀ p : BelowW wq, p.at_.cell? ⟨gb7, 0, none⟩ = some (.slice (some ⟨gd, 0, none⟩) n0 co1) := fun p => p.cell ((blk_cell HF.out.b7 0).trans rfl)
     have q7 : ∀ p : BelowW wq, p.at_.cell? ⟨gd, a, none⟩ = some (.int .i64 da) := fun p => p.cell hcD
     have HCA : Aside0 (∀ p : BelowW wq, Kd.C k74 p.at_ A2 l.length l) := ⟨fun p => Kd.C_below H2.out (below_step HF.out.kb p.below)⟩
     clear hcD s4 s5 hda
     go_wp2_with fail
     refine wp_region_quiet_below (by kernel_rfl) (by kernel_rfl) ?_
     (repeat (quiet_step ((go_at_call 46; exact calls_below_of (ebbtideref11_Time.calls (n0 : Int) a0_1 A2 c2 l q.f0 q.f1 tm _ (HCA.out _) HC2.out HTM.out)))))
     refine wpQuiet_nil ?_
     intro wv hw'
     obtain ⟨⟨wz, hbq⟩, hwq⟩ := hw'
     subst hwq
     have m0_ := Aside0.mk (HF.out.below hbq)
     clear HF HCA q0 q1 q2 q4 q5 q6 q7 hbq
     have HF := m0_
     clear m0_
     have r0 : wv.cell? ⟨gb7, 0, none⟩ = some (.slice (some ⟨gd, 0, none⟩) n0 co1) := (blk_cell HF.out.b7 0).trans rfl
     have r1 : wv.cell? ⟨gb7, 1, none⟩ = some (.slice (some ⟨gi, 0, none⟩) n0 co2) := (blk_cell HF.out.b7 1).trans rfl
     have r2 := HF.out.iv han
     have r3 := HF.out.iv hun
     have r4 := HF.out.dv hun
     cases hIa : z.I.getD a false with
     | false =>
      rw [hIa] at r2
      rw [hIa, Bool.false_and] at HVC
      have HZN : Aside0 (z = (S.take (j + 1)).foldl (visF l) y0) := ⟨by rw [HZS.out, HVC.out]; rfl⟩
      clear hIa
      go_wp2_with fail
      go_roundw
      case rel => exact ⟨j + 1, by omega, by first | rfl | go_num, z, HZN, HOz, ⟨HBD.out.mono (by omega)⟩, HF⟩
      case measure => simp [intOf] <;> omega
     | true =>
      rw [hIa] at r2
      rw [hIa, Bool.true_and] at HVC
      clear hIa
      cases hIu : z.I.getD u false with
      | false =>
       rw [hIu] at r3
       rw [hIu] at HVC
       have HZN : Aside0 ((⟨z.D.set u (da + tm), z.I.set u true, false⟩ : Rf) = (S.take (j + 1)).foldl (visF l) y0) := ⟨by rw [HZS.out, HVC.out]; rfl⟩
       clear hIu
       go_wp2_with fail
       (obtain ⟨f0, f1, _, _⟩ := HF.out.free hn0 u; obtain ⟨n1, n2, n3⟩ := HF.out.ne3 hn0; (try go_region); clear f0 f1 n1 n2 n3 r0 r1 r2 r3 r4; have HF2 := Aside0.mk ((HF.out.put hn0 hun (da + tm)).below (below_drew (Below.refl _ _))); clear HF; generalize ((wv.setCell ⟨gd, u, none⟩ (.int .i64 (da + tm))).setCell ⟨gi, u, none⟩ (.bool true)).drew = w30 at HF2 ⊢; have HOn : Aside0 (Rf.Ok n0 ⟨z.D.set u (da + tm), z.I.set u true, false⟩) := ⟨⟨by simp [HOz.out.hD], by simp [HOz.out.hI]⟩⟩; have HF3 := Aside0.mk (HF2.out.flag false); have r5 : w30.cell? ⟨gb7, 2, none⟩ = some (.bool z.OK) := (blk_cell HF2.out.b7 2).trans rfl; have f5 := blk_frozen HF2.out.b7 2; clear HF2; go_wp2_with fail; go_roundw; (case rel => exact ⟨j + 1, by omega, by first | rfl | go_num, (⟨z.D.set u (da + tm), z.I.set u true, false⟩ : Rf), HZN, HOn, HBS, HF3⟩); (case measure => simp [intOf] <;> omega))
      | true =>
       rw [hIu] at r3
       rw [hIu, Bool.not_true, Bool.false_or] at HVC
       clear hIu
       by_cases hlt2 : da + tm < z.D.getD u 0
       ·have e72 : decide (da + tm < z.D.getD u 0) = true := decide_eq_true hlt2
        rw [e72] at HVC
        have HZN : Aside0 ((⟨z.D.set u (da + tm), z.I.set u true, false⟩ : Rf) = (S.take (j + 1)).foldl (visF l) y0) := ⟨by rw [HZS.out, HVC.out]; rfl⟩
        obtain ⟨du, hdu⟩ : ∃ d_, d_ = z.D.getD u 0 := ⟨_, rfl⟩
        rw [← hdu] at e72 r4
        clear hdu hlt2
        go_wp2_with fail
        (obtain ⟨f0, f1, _, _⟩ := HF.out.free hn0 u; obtain ⟨n1, n2, n3⟩ := HF.out.ne3 hn0; (try go_region); clear f0 f1 n1 n2 n3 r0 r1 r2 r3 r4; have HF2 := Aside0.mk ((HF.out.put hn0 hun (da + tm)).below (below_drew (Below.refl _ _))); clear HF; generalize ((wv.setCell ⟨gd, u, none⟩ (.int .i64 (da + tm))).setCell ⟨gi, u, none⟩ (.bool true)).drew = w30 at HF2 ⊢; have HOn : Aside0 (Rf.Ok n0 ⟨z.D.set u (da + tm), z.I.set u true, false⟩) := ⟨⟨by simp [HOz.out.hD], by simp [HOz.out.hI]⟩⟩; have HF3 := Aside0.mk (HF2.out.flag false); have r5 : w30.cell? ⟨gb7, 2, none⟩ = some (.bool z.OK) := (blk_cell HF2.out.b7 2).trans rfl; have f5 := blk_frozen HF2.out.b7 2; clear HF2; go_wp2_with fail; go_roundw; (case rel => exact ⟨j + 1, by omega, by first | rfl | go_num, (⟨z.D.set u (da + tm), z.I.set u true, false⟩ : Rf), HZN, HOn, HBS, HF3⟩); (case measure => simp [intOf] <;> omega))
       ·have e72 : decide (da + tm < z.D.getD u 0) = false := decide_eq_false hlt2
        rw [e72] at HVC
        have HZN : Aside0 (z = (S.take (j + 1)).foldl (visF l) y0) := ⟨by rw [HZS.out, HVC.out]; rfl⟩
        obtain ⟨du, hdu⟩ : ∃ d_, d_ = z.D.getD u 0 := ⟨_, rfl⟩
        rw [← hdu] at e72 r4
        clear hdu hlt2
        go_wp2_with fail
        go_roundw
        case rel => exact ⟨j + 1, by omega, by first | rfl | go_num, z, HZN, HOz, ⟨HBD.out.mono (by omega)⟩, HF⟩
        case measure => simp [intOf] <;> omega
    ·have ej : j = S.length := by omega
     subst ej
     have c38 : decide ((S.length : Int) < (S.length : Int)) = false := decide_eq_false (by omega)
     have HRD : Aside0 (roundF l S x = z) := ⟨by rw [HZ.out, List.take_of_length_le (Nat.le_refl _), HY0.out]; rfl⟩
     have HG2 : Aside0 (itF l S (n0 + 1 - (k + 1)) z = XT) := ⟨by rw [← HG.out, show n0 + 1 - k = (n0 + 1 - (k + 1)) + 1 by omega]; exact (itF_round HRD.out).symm⟩
     go_wp2_with fail
     go_roundw
     case rel => exact ⟨k + 1, by omega, by first | rfl | go_num, z, HOz, ⟨HBD.out.mono (by omega)⟩, HG2, HF⟩
     case measure => simp [intOf] <;> omega
  ·have ek : k = n0 + 1 := by omega
   subst ek
   have c31 : decide (((n0 + 1 : Nat) : Int) ≤ (n0 : Int)) = false := decide_eq_false (by omega)
   have HG2 : Aside0 (x = XT) := ⟨by have := HG.out; rw [Nat.sub_self] at this; exact this⟩
   have z0 : wr.cell? ⟨gb7, 0, none⟩ = some (.slice (some ⟨gd, 0, none⟩) n0 co1) := (blk_cell HF.out.b7 0).trans rfl
   have z1 : wr.cell? ⟨gb7, 1, none⟩ = some (.slice (some ⟨gi, 0, none⟩) n0 co2) := (blk_cell HF.out.b7 1).trans rfl
   have z2 : wr.cell? ⟨gb7, 2, none⟩ = some (.bool x.OK) := (blk_cell HF.out.b7 2).trans rfl
   have u0 : wr.cell? ⟨gb6, 0, none⟩ = some (.slice none 0 0) := (blk_cell HF.out.b6 0).trans rfl
   have u1 : wr.cell? ⟨gb6, 1, none⟩ = some (.slice none 0 0) := (blk_cell HF.out.b6 1).trans rfl
   have u2 : wr.cell? ⟨gb6, 2, none⟩ = some (.bool false) := (blk_cell HF.out.b6 2).trans rfl
   have f0 := blk_frozen HF.out.b6 0
   have f1 := blk_frozen HF.out.b6 1
   have f2 := blk_frozen HF.out.b6 2
   go_wp2_with fail
   refine bodyPost_ret (results_cell_row rfl _ _ gb6 66 #[.slice (some ⟨gd, 0, none⟩) n0 co1, .slice (some ⟨gi, 0, none⟩) n0 co2, .bool x.OK] (0, 0) _ rfl (blk_put (blk_put (blk_put HF.out.b6 0 _ rfl) 1 _ rfl) 2 _ rfl) Try.underlying66 rfl (by kernel_rfl)) rfl ?_
   rw [← HG2.out]
   exact ⟨_, _, rfl, Kd.R_set (Kd.R_set (Kd.R_set HF.out.D HF.out.b6 (by decide) 0 _) (blk_put HF.out.b6 0 _ rfl) (by decide) 1 _) (blk_put (blk_put HF.out.b6 0 _ rfl) 1 _ rfl) (by decide) 2 _, Kd.R_set (Kd.R_set (Kd.R_set HF.out.I HF.out.b6 (by decide) 0 _) (blk_put HF.out.b6 0 _ rfl) (by decide) 1 _) (blk_put (blk_put HF.out.b6 0 _ rfl) 1 _ rfl) (by decide) 2 _, below_set (below_set (below_set HF.out.kb HF.out.ne.2.1) HF.out.ne.2.1) HF.out.ne.2.1⟩
end Go.Proofs.Ytkcpanpdipmmmaa.H
namespace Go.Proofs.Ytkcpanpdipmmmaa.P
open Go.RowKit Go.Proofs.YtkcpanpdipmmmaaW.PrintWords Go.Proofs.YtkcpanpdipmmmaaW.PrintLast Go.Proofs.YtkcpanpdipmmmaaW.PrintMore
attribute [local go_sem] max2_int min2_int max_two min_two max_three min_three max_four min_four
def netfmt_nodes.f (a0 : Int) : Option (Int) := if a0 < 1 then (some 51) else (if a0 > 50 then (some 2) else (some 0))
set_option maxHeartbeats 8000000 in
set_option maxRecDepth 100000 in
theorem netfmt_nodes.calls (a0 : Int) (r : Int) (w : World) (h : netfmt_nodes.f a0 = some r) :
  Calls Try.prog 156 #[.int .i64 a0] w fun e w' => e = .returned (.int .i64 r) ∧ Drawn0 w w' := by
 have H : (if a0 < 1 then (some 51) else (if a0 > 50 then (some 2) else (some 0))) = some r := h
 clear h
 by_cases c2 : a0 < 1
 ·rw [if_pos c2] at H
  have c2b0 : decide (a0 < 1) = true := decide_eq_true c2
  clear c2
  obtain rfl := Option.some.inj H
  go_enter Try.func156, Try.ntmps156
  go_wp2
  go_ret
  exact ⟨by first | rfl | (simp; done) | (simp [*]; done), by repeat (first | exact Drawn0.refl _ | apply Drawn0.step)⟩
 rw [if_neg c2] at H
 have c2b0 : decide (a0 < 1) = false := decide_eq_false c2
 clear c2
 by_cases c3 : a0 > 50
 rotate_left
 ·rw [if_neg c3] at H
  have c3b0 : decide (50 < a0) = false := decide_eq_false c3
  clear c3
  obtain rfl := Option.some.inj H
  go_enter Try.func156, Try.ntmps156
  go_wp2
  go_ret
  exact ⟨by first | rfl | (simp; done) | (simp [*]; done), by repeat (first | exact Drawn0.refl _ | apply Drawn0.step)⟩
 rw [if_pos c3] at H
 have c3b0 : decide (50 < a0) = true := decide_eq_true c3
 clear c3
 obtain rfl := Option.some.inj H
 go_enter Try.func156, Try.ntmps156
 go_wp2
 go_ret
 exact ⟨by first | rfl | (simp; done) | (simp [*]; done), by repeat (first | exact Drawn0.refl _ | apply Drawn0.step)⟩
end Go.Proofs.Ytkcpanpdipmmmaa.P
namespace Go.Proofs.Ytkcpanpdipmmmaa.P
open Go.RowKit Go.Proofs.YtkcpanpdipmmmaaW.PrintWords Go.Proofs.YtkcpanpdipmmmaaW.PrintLast Go.Proofs.YtkcpanpdipmmmaaW.PrintMore
attribute [local go_sem] max2_int min2_int max_two min_two max_three min_three max_four min_four
def netfmt_arc.j0 : Nat → Bool → Int → Int → Int → Int → Option (Int)
 | 0, _, _, _, _, _ => none
 | k + 1, x5, x179000, x179001, x179002, x179003 => if x5 = true then (some 51) else (if x179002 > 1048576 then (some 2) else (if x179003 > 1048576 then (some 2) else (some 0)))
def netfmt_arc.f (k : Nat) (a0 : Int) (a1_0 : Int) (a1_1 : Int) (a1_2 : Int) (a1_3 : Int) : Option (Int) := if (mn (mn (mn a1_0 a1_1) a1_2) a1_3) < 0 then (netfmt_arc.j0 k true a1_0 a1_1 a1_2 a1_3) else (netfmt_arc.j0 k (decide ((mx a1_0 a1_1) ≥ a0)) a1_0 a1_1 a1_2 a1_3)
set_option maxHeartbeats 8000000 in
set_option maxRecDepth 100000 in
theorem netfmt_arc.calls (k : Nat) (a0 : Int) (a1_0 : Int) (a1_1 : Int) (a1_2 : Int) (a1_3 : Int) (r : Int) (w : World) (h : netfmt_arc.f k a0 a1_0 a1_1 a1_2 a1_3 = some r) :
  Calls Try.prog 157 #[.int .i64 a0, .agg #[.int .i64 a1_0, .int .i64 a1_1, .int .i64 a1_2, .int .i64 a1_3]] w fun e w' => e = .returned (.int .i64 r) ∧ Below w.heap.size w w' := by
 have hu74 := Try.underlying74
 have HB := Aside0.mk (Below.refl w.heap.size w)
 have H : (if (mn (mn (mn a1_0 a1_1) a1_2) a1_3) < 0 then (netfmt_arc.j0 k true a1_0 a1_1 a1_2 a1_3) else (netfmt_arc.j0 k (decide ((mx a1_0 a1_1) ≥ a0)) a1_0 a1_1 a1_2 a1_3)) = some r := h
 clear h
 have HC3 := Aside0.mk H
 clear H
 go_enter Try.func157, Try.ntmps157
 go_upto_region 1 with (first | ((with_reducible refine gate_dst (N := 3) rfl ?_); (try (refine gate_guard (by rfl) ?_; dsimp only)); refine box_event ?hg (N := 3) ?hd (cs := #[.int .i64 a1_0, .int .i64 a1_1, .int .i64 a1_2, .int .i64 a1_3]) (t := 74) ?hr ?_; (case hd => rfl); (case hg => rfl); (case hr => first | (go_simp; done) | (go_simp; rfl)); intro gb178 hg w4 hbox hb; have n0_ := Aside0.mk (below_step (by repeat (first | (with_reducible first | exact HB.out | apply below_alloc | apply pw_below_drewN | apply below_drew1) | exact HB.out)) hb); have n1_ := Aside0.mk (hbox); have n2_ := Aside0.mk ((by rw [hg]; exact (below_size (by repeat (first | (with_reducible first | exact HB.out | apply below_alloc | apply pw_below_drewN | apply below_drew1) | exact HB.out))) : w.heap.size ≤ gb178)); have n3_ := Aside0.mk ((by rw [hg]; exact (below_size (by repeat (first | (with_reducible first | exact HB.out | apply below_alloc | apply pw_below_drewN | apply below_drew1) | exact HB.out))) : w.heap.size ≤ gb178)); clear HB; have HB := n0_; have BK178 := n1_; have GW178 := n2_; have GE178 := n3_; clear n0_ n1_ n2_ n3_; clear hb hbox hg))
 (try simp only [Act.put, List.setIfInBounds_toArray, List.set_cons_zero, List.set_cons_succ])
 go_cut [5] (fun v5 wc => ∃ (kq : Nat) (x5_2 : Bool), v5 = .bool x5_2 ∧ Aside0 (netfmt_arc.j0 kq x5_2 a1_0 a1_1 a1_2 a1_3 = some r) ∧ Aside0 (kq ≤ k) ∧ Aside0 (wc.heap[gb178]? = some (.cells #[.int .i64 a1_0, .int .i64 a1_1, .int .i64 a1_2, .int .i64 a1_3] 74 (0, 0))) ∧ Aside0 (Below w.heap.size w wc))
 case first =>
  have H := HC3.out
  clear HC3
  obtain ⟨ji5, hji5⟩ : ∃ j_ : Int, (mn a1_0 a1_1) = j_ := ⟨_, rfl⟩
  replace H : (if (mn (mn (ji5) a1_2) a1_3) < 0 then (netfmt_arc.j0 k true a1_0 a1_1 a1_2 a1_3) else (netfmt_arc.j0 k (decide ((mx a1_0 a1_1) ≥ a0)) a1_0 a1_1 a1_2 a1_3)) = some r := by first | (rw [hji5] at H; exact H) | (simp only [hji5] at H ⊢; exact H)
  have hji5_ : (if a1_1 < a1_0 then a1_1 else a1_0) = ji5 := hji5
  obtain ⟨ji6, hji6⟩ : ∃ j_ : Int, (mn (ji5) a1_2) = j_ := ⟨_, rfl⟩
  replace H : (if (mn (ji6) a1_3) < 0 then (netfmt_arc.j0 k true a1_0 a1_1 a1_2 a1_3) else (netfmt_arc.j0 k (decide ((mx a1_0 a1_1) ≥ a0)) a1_0 a1_1 a1_2 a1_3)) = some r := by first | (rw [hji6] at H; exact H) | (simp only [hji6] at H ⊢; exact H)
  have hji6_ : (if a1_2 < (ji5) then a1_2 else (ji5)) = ji6 := hji6
  obtain ⟨ji7, hji7⟩ : ∃ j_ : Int, (mn (ji6) a1_3) = j_ := ⟨_, rfl⟩
  replace H : (if (ji7) < 0 then (netfmt_arc.j0 k true a1_0 a1_1 a1_2 a1_3) else (netfmt_arc.j0 k (decide ((mx a1_0 a1_1) ≥ a0)) a1_0 a1_1 a1_2 a1_3)) = some r := by first | (rw [hji7] at H; exact H) | (simp only [hji7] at H ⊢; exact H)
  have hji7_ : (if a1_3 < (ji6) then a1_3 else (ji6)) = ji7 := hji7
  by_cases c8 : (ji7) < 0
  ·rw [if_pos c8] at H
   have c8b0 : decide ((ji7) < 0) = true := decide_eq_true c8
   clear c8
   (first | rw [c8b0] | (simp only [i64_w, i32_w]; rw [c8b0]) | skip)
   have H' := Aside0.mk H
   clear H
   have hcz9_0 : w4.cell? ⟨gb178, 0, none⟩ = some (.int .i64 a1_0) := (blk_cell BK178.out 0).trans rfl
   have hcz9_1 : w4.cell? ⟨gb178, 1, none⟩ = some (.int .i64 a1_1) := (blk_cell BK178.out 1).trans rfl
   have hcz9_2 : w4.cell? ⟨gb178, 2, none⟩ = some (.int .i64 a1_2) := (blk_cell BK178.out 2).trans rfl
   have hcz9_3 : w4.cell? ⟨gb178, 3, none⟩ = some (.int .i64 a1_3) := (blk_cell BK178.out 3).trans rfl
   have hfz9_0 := blk_frozen BK178.out 0
   have hfz9_1 := blk_frozen BK178.out 1
   have hfz9_2 := blk_frozen BK178.out 2
   have hfz9_3 := blk_frozen BK178.out 3
   go_wp2
   go_meet
   case rel => exact ⟨_, (true), (by first | rfl | (simp; done) | (simp [*]; done)), H', ⟨by first | omega | exact Nat.le_refl _⟩, ⟨by (with_reducible repeat (first | refine blk_drewN ?_ _ | refine blk_drew ?_ | refine blk_alloc ?_ _)); exact BK178.out⟩, ⟨by repeat (first | (with_reducible first | exact HB.out | apply below_alloc | apply pw_below_drewN | apply below_drew1 | refine below_set ?_ GE178.out) | exact HB.out)⟩⟩
  rw [if_neg c8] at H
  have c8b0 : decide ((ji7) < 0) = false := decide_eq_false c8
  clear c8
  (first | rw [c8b0] | (simp only [i64_w, i32_w]; rw [c8b0]) | skip)
  obtain ⟨ji10, hji10⟩ : ∃ j_ : Int, (mx a1_0 a1_1) = j_ := ⟨_, rfl⟩
  replace H : (netfmt_arc.j0 k (decide ((ji10) ≥ a0)) a1_0 a1_1 a1_2 a1_3) = some r := by first | (rw [hji10] at H; exact H) | (simp only [hji10] at H ⊢; exact H)
  have hji10_ : (if a1_0 < a1_1 then a1_1 else a1_0) = ji10 := hji10
  have H' := Aside0.mk H
  clear H
  have hcz11_0 : w4.cell? ⟨gb178, 0, none⟩ = some (.int .i64 a1_0) := (blk_cell BK178.out 0).trans rfl
  have hcz11_1 : w4.cell? ⟨gb178, 1, none⟩ = some (.int .i64 a1_1) := (blk_cell BK178.out 1).trans rfl
  have hcz11_2 : w4.cell? ⟨gb178, 2, none⟩ = some (.int .i64 a1_2) := (blk_cell BK178.out 2).trans rfl
  have hcz11_3 : w4.cell? ⟨gb178, 3, none⟩ = some (.int .i64 a1_3) := (blk_cell BK178.out 3).trans rfl
  have hfz11_0 := blk_frozen BK178.out 0
  have hfz11_1 := blk_frozen BK178.out 1
  have hfz11_2 := blk_frozen BK178.out 2
  have hfz11_3 := blk_frozen BK178.out 3
  go_wp2
  go_meet
  case rel => exact ⟨_, (decide ((ji10) ≥ a0)), (by first | rfl | (simp; done) | (simp only [← hji10] <;> (first | rfl | simp)) | (simp [*]; done)), H', ⟨by first | omega | exact Nat.le_refl _⟩, ⟨by (with_reducible repeat (first | refine blk_drewN ?_ _ | refine blk_drew ?_ | refine blk_alloc ?_ _)); exact BK178.out⟩, ⟨by repeat (first | (with_reducible first | exact HB.out | apply below_alloc | apply pw_below_drewN | apply below_drew1 | refine below_set ?_ GE178.out) | exact HB.out)⟩⟩
 case rest =>
  clear HC3
  try clear c1
  try clear p2
  try clear c8
  try clear c8b0
  try clear hcz11_0
  try clear hcz11_1
  try clear hcz11_2
  try clear hcz11_3
  try clear hcz9_0
  try clear hcz9_1
  try clear hcz9_2
  try clear hcz9_3
  try clear hfz11_0
  try clear hfz11_1
  try clear hfz11_2
  try clear hfz11_3
  try clear hfz9_0
  try clear hfz9_1
  try clear hfz9_2
  try clear hfz9_3
  obtain ⟨kq, x5_2, rfl, HA, HJ2, BK178, HB⟩ := hcut
  cases kq with
  | zero => exact absurd HA.out (by simp [netfmt_arc.j0])
  | succ kj2 =>
   have H := HA.out
   clear HA
   simp only [netfmt_arc.j0] at H
   by_cases c12 : x5_2 = true
   ·subst c12
    have H1 : (some 51) = some r := by rw [if_pos rfl] at H; exact H
    clear H
    have H := H1
    clear H1
    obtain rfl := Option.some.inj H
    go_wp2
    go_ret
    exact ⟨by first | rfl | (simp [errW_none, errW_some] <;> rfl) | (simp [*, errW_none, errW_some] <;> rfl), by repeat (first | (with_reducible first | exact HB.out | apply below_alloc | apply pw_below_drewN | apply below_drew1 | refine below_set ?_ GE178.out) | exact HB.out)⟩
   replace c12 := Bool.eq_false_iff.mpr c12
   subst c12
   have H1 : (if a1_2 > 1048576 then (some 2) else (if a1_3 > 1048576 then (some 2) else (some 0))) = some r := by rw [if_neg (show ¬ (false = true) by decide)] at H; exact H
   clear H
   have H := H1
   clear H1
   by_cases c13 : a1_2 > 1048576
   ·rw [if_pos c13] at H
    have c13b0 : decide (1048576 < a1_2) = true := decide_eq_true c13
    clear c13
    obtain rfl := Option.some.inj H
    have hcz14_0 : wc.cell? ⟨gb178, 0, none⟩ = some (.int .i64 a1_0) := (blk_cell BK178.out 0).trans rfl
    have hcz14_1 : wc.cell? ⟨gb178, 1, none⟩ = some (.int .i64 a1_1) := (blk_cell BK178.out 1).trans rfl
    have hcz14_2 : wc.cell? ⟨gb178, 2, none⟩ = some (.int .i64 a1_2) := (blk_cell BK178.out 2).trans rfl
    have hcz14_3 : wc.cell? ⟨gb178, 3, none⟩ = some (.int .i64 a1_3) := (blk_cell BK178.out 3).trans rfl
    have hfz14_0 := blk_frozen BK178.out 0
    have hfz14_1 := blk_frozen BK178.out 1
    have hfz14_2 := blk_frozen BK178.out 2
    have hfz14_3 := blk_frozen BK178.out 3
    go_wp2
    go_ret
    exact ⟨by first | rfl | (simp [errW_none, errW_some] <;> rfl) | (simp [*, errW_none, errW_some] <;> rfl), by repeat (first | (with_reducible first | exact HB.out | apply below_alloc | apply pw_below_drewN | apply below_drew1 | refine below_set ?_ GE178.out) | exact HB.out)⟩
   rw [if_neg c13] at H
   have c13b0 : decide (1048576 < a1_2) = false := decide_eq_false c13
   clear c13
   by_cases c15 : a1_3 > 1048576
   rotate_left
   ·rw [if_neg c15] at H
    have c15b0 : decide (1048576 < a1_3) = false := decide_eq_false c15
    clear c15
    obtain rfl := Option.some.inj H
    have hcz17_0 : wc.cell? ⟨gb178, 0, none⟩ = some (.int .i64 a1_0) := (blk_cell BK178.out 0).trans rfl
    have hcz17_1 : wc.cell? ⟨gb178, 1, none⟩ = some (.int .i64 a1_1) := (blk_cell BK178.out 1).trans rfl
    have hcz17_2 : wc.cell? ⟨gb178, 2, none⟩ = some (.int .i64 a1_2) := (blk_cell BK178.out 2).trans rfl
    have hcz17_3 : wc.cell? ⟨gb178, 3, none⟩ = some (.int .i64 a1_3) := (blk_cell BK178.out 3).trans rfl
    have hfz17_0 := blk_frozen BK178.out 0
    have hfz17_1 := blk_frozen BK178.out 1
    have hfz17_2 := blk_frozen BK178.out 2
    have hfz17_3 := blk_frozen BK178.out 3
    go_wp2
    go_ret
    exact ⟨by first | rfl | (simp [errW_none, errW_some] <;> rfl) | (simp [*, errW_none, errW_some] <;> rfl), by repeat (first | (with_reducible first | exact HB.out | apply below_alloc | apply pw_below_drewN | apply below_drew1 | refine below_set ?_ GE178.out) | exact HB.out)⟩
   rw [if_pos c15] at H
   have c15b0 : decide (1048576 < a1_3) = true := decide_eq_true c15
   clear c15
   obtain rfl := Option.some.inj H
   have hcz16_0 : wc.cell? ⟨gb178, 0, none⟩ = some (.int .i64 a1_0) := (blk_cell BK178.out 0).trans rfl
   have hcz16_1 : wc.cell? ⟨gb178, 1, none⟩ = some (.int .i64 a1_1) := (blk_cell BK178.out 1).trans rfl
   have hcz16_2 : wc.cell? ⟨gb178, 2, none⟩ = some (.int .i64 a1_2) := (blk_cell BK178.out 2).trans rfl
   have hcz16_3 : wc.cell? ⟨gb178, 3, none⟩ = some (.int .i64 a1_3) := (blk_cell BK178.out 3).trans rfl
   have hfz16_0 := blk_frozen BK178.out 0
   have hfz16_1 := blk_frozen BK178.out 1
   have hfz16_2 := blk_frozen BK178.out 2
   have hfz16_3 := blk_frozen BK178.out 3
   go_wp2
   go_ret
   exact ⟨by first | rfl | (simp [errW_none, errW_some] <;> rfl) | (simp [*, errW_none, errW_some] <;> rfl), by repeat (first | (with_reducible first | exact HB.out | apply below_alloc | apply pw_below_drewN | apply below_drew1 | refine below_set ?_ GE178.out) | exact HB.out)⟩
end Go.Proofs.Ytkcpanpdipmmmaa.P
namespace Go.Proofs.Ytkcpanpdipmmmaa.P
open Go.RowKit Go.Proofs.YtkcpanpdipmmmaaW.PrintWords Go.Proofs.YtkcpanpdipmmmaaW.PrintLast Go.Proofs.YtkcpanpdipmmmaaW.PrintMore
attribute [local go_sem] max2_int min2_int max_two min_two max_three min_three max_four min_four
def netfmt_Check.l0 : Nat → List (S74) → Int → Int → Int → Bool → List (S74) → Option (Int)
 | 0, _, _, _, _, _, _ => none
 | k + 1, x18, x19, x20, x180000, x180001, x180002 => if x20 < x19 then (if 0 ≤ x20 then (if x20 < (x18.length : Int) then ((netfmt_arc.f k x180000 ((rd_T74 x18 x20).f0) ((rd_T74 x18 x20).f1) ((rd_T74 x18 x20).f2) ((rd_T74 x18 x20).f3)).bind fun t183 => (if t183 = 0 then (netfmt_Check.l0 k x18 x19 (wrap64 (x20 + 1)) x180000 x180001 x180002) else (some t183))) else (none)) else (none)) else (some 0)
def netfmt_Check.f (k : Nat) (a0_0 : Int) (a0_1 : Bool) (l0_2 : List (S74)) : Option (Int) := (netfmt_nodes.f a0_0).bind fun t180 => (if t180 = 0 then (if (l0_2.length : Int) > 200 then (some 2) else (netfmt_Check.l0 k l0_2 (l0_2.length : Int) 0 a0_0 a0_1 l0_2)) else (some t180))
set_option maxHeartbeats 8000000 in
set_option maxRecDepth 100000 in
theorem netfmt_Check.calls (k : Nat) (a0_0 : Int) (a0_1 : Bool) (A0_2 : Option Addr) (c0_2 : Nat) (l0_2 : List (S74)) (r : Int) (w : World) (hr0_2 : Kd.C k74 w A0_2 l0_2.length l0_2) (hc0_2 : l0_2.length ≤ c0_2) (h : netfmt_Check.f k a0_0 a0_1 l0_2 = some r) :
  Calls Try.prog 127 #[.agg #[.int .i64 a0_0, .bool a0_1, .slice A0_2 l0_2.length c0_2]] w fun e w' => e = .returned (.int .i64 r) ∧ Below w.heap.size w w' := by
 have hu24 := Try.underlying24
 have hu74 := Try.underlying74
 have HR0_2 := Aside0.mk hr0_2
 have HC0_2 := Aside0.mk hc0_2
 clear hr0_2 hc0_2
 have HB := Aside0.mk (Below.refl w.heap.size w)
 have H : ((netfmt_nodes.f a0_0).bind fun t180 => (if t180 = 0 then (if (l0_2.length : Int) > 200 then (some 2) else (netfmt_Check.l0 k l0_2 (l0_2.length : Int) 0 a0_0 a0_1 l0_2)) else (some t180))) = some r := h
 clear h
 replace H := Option.bind_eq_some_iff.mp H
 obtain ⟨t180, A20, H⟩ := H
 replace H : (if t180 = 0 then (if (l0_2.length : Int) > 200 then (some 2) else (netfmt_Check.l0 k l0_2 (l0_2.length : Int) 0 a0_0 a0_1 l0_2)) else (some t180)) = some r := H
 have A2 := Aside0.mk A20
 clear A20
 by_cases c3 : t180 = 0
 rotate_left
 ·rw [if_neg c3] at H
  have c3b0 : (t180 == 0) = false := beq_eq_false_iff_ne.mpr c3
  have c3b1 : (t180 != 0) = true := bne_iff_ne.mpr c3
  obtain rfl := Option.some.inj H
  go_enter Try.func127, Try.ntmps127
  go_wp2_with (first | ((with_reducible refine gate_dst (N := 1) rfl ?_); refine box_event ?hg (N := 1) ?hd (cs := #[.int .i64 a0_0, .bool a0_1, .slice A0_2 l0_2.length c0_2]) (t := 24) ?hr ?_; (case hd => rfl); (case hg => rfl); (case hr => first | (go_simp; done) | (go_simp; rfl)); intro gb179 hg w24 hbox hb; have n0_ := Aside0.mk (below_step (by repeat (first | (with_reducible first | exact HB.out | apply below_alloc | apply pw_below_drewN | apply below_drew1) | exact HB.out)) hb); have n1_ := Aside0.mk (hbox); have n2_ := Aside0.mk ((by rw [hg]; exact (below_size (by repeat (first | (with_reducible first | exact HB.out | apply below_alloc | apply pw_below_drewN | apply below_drew1) | exact HB.out))) : w.heap.size ≤ gb179)); have n3_ := Aside0.mk ((by rw [hg]; exact (below_size (by repeat (first | (with_reducible first | exact HB.out | apply below_alloc | apply pw_below_drewN | apply below_drew1) | exact HB.out))) : w.heap.size ≤ gb179)); clear HB; have HB := n0_; have BK179 := n1_; have GW179 := n2_; have GE179 := n3_; clear n0_ n1_ n2_ n3_; clear hb hbox hg; have hcz25_0 : w24.cell? ⟨gb179, 0, none⟩ = some (.int .i64 a0_0) := (blk_cell BK179.out 0).trans rfl; have hcz25_1 : w24.cell? ⟨gb179, 1, none⟩ = some (.bool a0_1) := (blk_cell BK179.out 1).trans rfl; have hcz25_2 : w24.cell? ⟨gb179, 2, none⟩ = some (.slice A0_2 l0_2.length c0_2) := (blk_cell BK179.out 2).trans rfl; have hfz25_0 := blk_frozen BK179.out 0; have hfz25_1 := blk_frozen BK179.out 1; have hfz25_2 := blk_frozen BK179.out 2) | ((with_reducible refine gate_callee (f := 156) rfl ?_); refine goesL_ (some 9) rfl rfl Try.func156 (by kernel_rfl) rfl #[.int .i64 a0_0] rfl (by (try simp only [List.map_toArray, List.map_cons, List.map_nil]); first | done | rfl | (simp only [List.length_drop, List.length_take]; rfl)) ?_; (with_reducible refine (netfmt_nodes.calls a0_0 t180 _ A2.out).mono ?_); rintro e w' ⟨rfl, ⟨nd, rfl⟩⟩; refine ⟨_, rfl, ?_⟩))
  go_ret
  exact ⟨by first | rfl | (simp [errW_none, errW_some] <;> rfl) | (simp [*, errW_none, errW_some] <;> rfl), by repeat (first | (with_reducible first | exact HB.out | apply below_alloc | apply pw_below_drewN | apply below_drew1 | refine below_set ?_ GE179.out) | exact HB.out)⟩
 rw [if_pos c3] at H
 have c3b0 : (t180 == 0) = true := beq_iff_eq.mpr c3
 have c3b1 : (t180 != 0) = false := bne_eq_false_iff_eq.mpr c3
 clear c3
 by_cases c4 : (l0_2.length : Int) > 200
 ·rw [if_pos c4] at H
  have c4b0 : decide (200 < (l0_2.length : Int)) = true := decide_eq_true c4
  have c4b1 : decide (200 < l0_2.length) = true := decide_eq_true (by omega)
  clear c4
  obtain rfl := Option.some.inj H
  go_enter Try.func127, Try.ntmps127
  go_wp2_with (first | ((with_reducible refine gate_dst (N := 1) rfl ?_); refine box_event ?hg (N := 1) ?hd (cs := #[.int .i64 a0_0, .bool a0_1, .slice A0_2 l0_2.length c0_2]) (t := 24) ?hr ?_; (case hd => rfl); (case hg => rfl); (case hr => first | (go_simp; done) | (go_simp; rfl)); intro gb179 hg w5 hbox hb; have n0_ := Aside0.mk (below_step (by repeat (first | (with_reducible first | exact HB.out | apply below_alloc | apply pw_below_drewN | apply below_drew1) | exact HB.out)) hb); have n1_ := Aside0.mk (hbox); have n2_ := Aside0.mk ((by rw [hg]; exact (below_size (by repeat (first | (with_reducible first | exact HB.out | apply below_alloc | apply pw_below_drewN | apply below_drew1) | exact HB.out))) : w.heap.size ≤ gb179)); have n3_ := Aside0.mk ((by rw [hg]; exact (below_size (by repeat (first | (with_reducible first | exact HB.out | apply below_alloc | apply pw_below_drewN | apply below_drew1) | exact HB.out))) : w.heap.size ≤ gb179)); clear HB; have HB := n0_; have BK179 := n1_; have GW179 := n2_; have GE179 := n3_; clear n0_ n1_ n2_ n3_; clear hb hbox hg; have hcz6_0 : w5.cell? ⟨gb179, 0, none⟩ = some (.int .i64 a0_0) := (blk_cell BK179.out 0).trans rfl; have hcz6_1 : w5.cell? ⟨gb179, 1, none⟩ = some (.bool a0_1) := (blk_cell BK179.out 1).trans rfl; have hcz6_2 : w5.cell? ⟨gb179, 2, none⟩ = some (.slice A0_2 l0_2.length c0_2) := (blk_cell BK179.out 2).trans rfl; have hfz6_0 := blk_frozen BK179.out 0; have hfz6_1 := blk_frozen BK179.out 1; have hfz6_2 := blk_frozen BK179.out 2) | ((with_reducible refine gate_callee (f := 156) rfl ?_); refine goesL_ (some 9) rfl rfl Try.func156 (by kernel_rfl) rfl #[.int .i64 a0_0] rfl (by (try simp only [List.map_toArray, List.map_cons, List.map_nil]); first | done | rfl | (simp only [List.length_drop, List.length_take]; rfl)) ?_; (with_reducible refine (netfmt_nodes.calls a0_0 t180 _ A2.out).mono ?_); rintro e w' ⟨rfl, ⟨nd, rfl⟩⟩; refine ⟨_, rfl, ?_⟩))
  go_ret
  exact ⟨by first | rfl | (simp [errW_none, errW_some] <;> rfl) | (simp [*, errW_none, errW_some] <;> rfl), by repeat (first | (with_reducible first | exact HB.out | apply below_alloc | apply pw_below_drewN | apply below_drew1 | refine below_set ?_ GE179.out) | exact HB.out)⟩
 rw [if_neg c4] at H
 have c4b0 : decide (200 < (l0_2.length : Int)) = false := decide_eq_false c4
 have c4b1 : decide (200 < l0_2.length) = false := decide_eq_false (by omega)
 clear c4
 have H' := Aside0.mk H
 clear H
 go_enter Try.func127, Try.ntmps127
 go_wp2_with (first | ((with_reducible refine gate_dst (N := 1) rfl ?_); refine box_event ?hg (N := 1) ?hd (cs := #[.int .i64 a0_0, .bool a0_1, .slice A0_2 l0_2.length c0_2]) (t := 24) ?hr ?_; (case hd => rfl); (case hg => rfl); (case hr => first | (go_simp; done) | (go_simp; rfl)); intro gb179 hg w7 hbox hb; have n0_ := Aside0.mk (below_step (by repeat (first | (with_reducible first | exact HB.out | apply below_alloc | apply pw_below_drewN | apply below_drew1) | exact HB.out)) hb); have n1_ := Aside0.mk (hbox); have n2_ := Aside0.mk ((by rw [hg]; exact (below_size (by repeat (first | (with_reducible first | exact HB.out | apply below_alloc | apply pw_below_drewN | apply below_drew1) | exact HB.out))) : w.heap.size ≤ gb179)); have n3_ := Aside0.mk ((by rw [hg]; exact (below_size (by repeat (first | (with_reducible first | exact HB.out | apply below_alloc | apply pw_below_drewN | apply below_drew1) | exact HB.out))) : w.heap.size ≤ gb179)); clear HB; have HB := n0_; have BK179 := n1_; have GW179 := n2_; have GE179 := n3_; clear n0_ n1_ n2_ n3_; clear hb hbox hg; have hcz8_0 : w7.cell? ⟨gb179, 0, none⟩ = some (.int .i64 a0_0) := (blk_cell BK179.out 0).trans rfl; have hcz8_1 : w7.cell? ⟨gb179, 1, none⟩ = some (.bool a0_1) := (blk_cell BK179.out 1).trans rfl; have hcz8_2 : w7.cell? ⟨gb179, 2, none⟩ = some (.slice A0_2 l0_2.length c0_2) := (blk_cell BK179.out 2).trans rfl; have hfz8_0 := blk_frozen BK179.out 0; have hfz8_1 := blk_frozen BK179.out 1; have hfz8_2 := blk_frozen BK179.out 2) | ((with_reducible refine gate_callee (f := 156) rfl ?_); refine goesL_ (some 9) rfl rfl Try.func156 (by kernel_rfl) rfl #[.int .i64 a0_0] rfl (by (try simp only [List.map_toArray, List.map_cons, List.map_nil]); first | done | rfl | (simp only [List.length_drop, List.length_take]; rfl)) ?_; (with_reducible refine (netfmt_nodes.calls a0_0 t180 _ A2.out).mono ?_); rintro e w' ⟨rfl, ⟨nd, rfl⟩⟩; refine ⟨_, rfl, ?_⟩))
 go_loopg [20] k (fun kq v20 w' => ∃ (x20_1 : Int), v20 = .int .i64 x20_1 ∧ Aside0 (netfmt_Check.l0 kq l0_2 (l0_2.length : Int) x20_1 a0_0 a0_1 l0_2 = some r) ∧ Aside0 (kq ≤ k) ∧ Aside0 (w'.heap[gb179]? = some (.cells #[.int .i64 a0_0, .bool a0_1, (.slice A0_2 l0_2.length c0_2)] 24 (0, 0))) ∧ Aside0 (Below w.heap.size w w'))
 case atStart => exact ⟨(0), (by first | rfl | (simp; done) | (simp [*]; done)), H', ⟨Nat.le_refl _⟩, ⟨by (with_reducible repeat (first | refine blk_drewN ?_ _ | refine blk_drew ?_ | refine blk_alloc ?_ _)); exact BK179.out⟩, ⟨by repeat (first | (with_reducible first | exact HB.out | apply below_alloc | apply pw_below_drewN | apply below_drew1 | refine below_set ?_ GE179.out) | exact HB.out)⟩⟩
 case round =>
  clear H'
  try clear c1
  try clear p2
  try clear c3
  try clear c3b0
  try clear c3b1
  try clear c4
  try clear c4b0
  try clear c4b1
  try clear hcz6_0
  try clear hcz6_1
  try clear hcz6_2
  try clear hcz8_0
  try clear hcz8_1
  try clear hcz8_2
  try clear hfz6_0
  try clear hfz6_1
  try clear hfz6_2
  try clear hfz8_0
  try clear hfz8_1
  try clear hfz8_2
  obtain ⟨x20_1, rfl, HA, HK1, BK179, HB⟩ := hrel
  cases gk with
  | zero => exact absurd HA.out (by simp [netfmt_Check.l0])
  | succ k1 =>
   have H := HA.out
   clear HA
   simp only [netfmt_Check.l0] at H
   by_cases c9 : x20_1 < (l0_2.length : Int)
   rotate_left
   ·rw [if_neg c9] at H
    have c9b0 : decide (x20_1 < (l0_2.length : Int)) = false := decide_eq_false c9
    clear c9
    obtain rfl := Option.some.inj H
    go_wp2
    go_ret
    exact ⟨by first | rfl | (simp [errW_none, errW_some] <;> rfl) | (simp [*, errW_none, errW_some] <;> rfl), by repeat (first | (with_reducible first | exact HB.out | apply below_alloc | apply pw_below_drewN | apply below_drew1 | refine below_set ?_ GE179.out) | exact HB.out)⟩
   rw [if_pos c9] at H
   have c9b0 : decide (x20_1 < (l0_2.length : Int)) = true := decide_eq_true c9
   clear c9
   by_cases c10 : 0 ≤ x20_1
   rotate_left
   ·rw [if_neg c10] at H
    exact absurd H (by simp)
   rw [if_pos c10] at H
   have c10b0 : decide (0 ≤ x20_1) = true := decide_eq_true c10
   clear c10
   by_cases c11 : x20_1 < (l0_2.length : Int)
   rotate_left
   ·rw [if_neg c11] at H
    exact absurd H (by simp)
   rw [if_pos c11] at H
   have c11b0 : decide (x20_1 < (l0_2.length : Int)) = true := decide_eq_true c11
   clear c11
   replace H := Option.bind_eq_some_iff.mp H
   obtain ⟨t183, A120, H⟩ := H
   replace H : (if t183 = 0 then (netfmt_Check.l0 k1 l0_2 (l0_2.length : Int) (wrap64 (x20_1 + 1)) a0_0 a0_1 l0_2) else (some t183)) = some r := H
   have A12 := Aside0.mk A120
   clear A120
   by_cases c13 : t183 = 0
   rotate_left
   ·rw [if_neg c13] at H
    have c13b0 : (t183 == 0) = false := beq_eq_false_iff_ne.mpr c13
    have c13b1 : (t183 != 0) = true := bne_iff_ne.mpr c13
    obtain rfl := Option.some.inj H
    have p181 : 0 ≤ (x20_1 : Int) := of_decide_eq_true (by first | (with_reducible assumption) | assumption)
    have q181 : x20_1 < (l0_2.length : Int) := of_decide_eq_true (by first | (with_reducible assumption) | assumption)
    obtain ⟨ad181, e181, hx181_0, hx181_1, hx181_2, hx181_3⟩ := at_T74 HR0_2.out x20_1 p181 q181
    cases e181
    replace hx181_0 := (HB.out.cell (World.block_lt_of_cell? w _ hx181_0)).trans hx181_0
    replace hx181_1 := (HB.out.cell (World.block_lt_of_cell? w _ hx181_1)).trans hx181_1
    replace hx181_2 := (HB.out.cell (World.block_lt_of_cell? w _ hx181_2)).trans hx181_2
    replace hx181_3 := (HB.out.cell (World.block_lt_of_cell? w _ hx181_3)).trans hx181_3
    replace p181 := eq_true p181
    replace q181 := eq_true q181
    go_wp2_with (first | ((with_reducible refine gate_dst (N := 5) rfl ?_); refine box_event ?hg (N := 5) ?hd (cs := #[.int .i64 0, .int .i64 0, .int .i64 0, .int .i64 0]) (t := 74) ?hr ?_; (case hd => rfl); (case hg => rfl); (case hr => first | (go_simp; done) | (go_simp; rfl)); intro gb182 hg w19 hbox hb; have n0_ := Aside0.mk (blk_below (g := gb179) (o := .cells #[.int .i64 a0_0, .bool a0_1, .slice (some ad181) l0_2.length c0_2] 24 (0, 0)) (by (with_reducible repeat (first | refine blk_drewN ?_ _ | refine blk_drew ?_ | refine blk_alloc ?_ _)); exact BK179.out) hb); have n1_ := Aside0.mk (below_step (by repeat (first | (with_reducible first | exact HB.out | apply below_alloc | apply pw_below_drewN | apply below_drew1 | refine below_set ?_ GE179.out) | exact HB.out)) hb); have n2_ := Aside0.mk (hbox); have n3_ := Aside0.mk ((by rw [hg]; exact (below_size (by repeat (first | (with_reducible first | exact HB.out | apply below_alloc | apply pw_below_drewN | apply below_drew1 | refine below_set ?_ GE179.out) | exact HB.out))) : w.heap.size ≤ gb182)); have n4_ := Aside0.mk ((by rw [hg]; exact (below_size (by repeat (first | (with_reducible first | exact HB.out | apply below_alloc | apply pw_below_drewN | apply below_drew1 | refine below_set ?_ GE179.out) | exact HB.out))) : w.heap.size ≤ gb182)); have n5_ := Aside0.mk ((by rw [hg]; exact Nat.ne_of_lt (blk_lt (g := gb179) (o := .cells #[.int .i64 a0_0, .bool a0_1, .slice (some ad181) l0_2.length c0_2] 24 (0, 0)) (by (with_reducible repeat (first | refine blk_drewN ?_ _ | refine blk_drew ?_ | refine blk_alloc ?_ _)); exact BK179.out)) : gb179 ≠ gb182)); have n6_ := Aside0.mk ((by rw [hg]; exact Nat.ne_of_gt (blk_lt (g := gb179) (o := .cells #[.int .i64 a0_0, .bool a0_1, .slice (some ad181) l0_2.length c0_2] 24 (0, 0)) (by (with_reducible repeat (first | refine blk_drewN ?_ _ | refine blk_drew ?_ | refine blk_alloc ?_ _)); exact BK179.out)) : gb182 ≠ gb179)); clear BK179; clear HB; have BK179 := n0_; have HB := n1_; have BK182 := n2_; have GW182 := n3_; have GE182 := n4_; have NB179_182 := n5_; have NB182_179 := n6_; clear n0_ n1_ n2_ n3_ n4_ n5_ n6_; clear hb hbox hg; have hnb20 := NB182_179.out; have hnc20 := NB179_182.out; have hcz21_0 : w19.cell? ⟨gb182, 0, none⟩ = some (.int .i64 0) := (blk_cell BK182.out 0).trans rfl; have hcz21_1 : w19.cell? ⟨gb182, 1, none⟩ = some (.int .i64 0) := (blk_cell BK182.out 1).trans rfl; have hcz21_2 : w19.cell? ⟨gb182, 2, none⟩ = some (.int .i64 0) := (blk_cell BK182.out 2).trans rfl; have hcz21_3 : w19.cell? ⟨gb182, 3, none⟩ = some (.int .i64 0) := (blk_cell BK182.out 3).trans rfl; have hfz21_0 := blk_frozen BK182.out 0; have hfz21_1 := blk_frozen BK182.out 1; have hfz21_2 := blk_frozen BK182.out 2; have hfz21_3 := blk_frozen BK182.out 3; have hcz22_0 : w19.cell? ⟨gb179, 0, none⟩ = some (.int .i64 a0_0) := (blk_cell BK179.out 0).trans rfl; have hcz22_1 : w19.cell? ⟨gb179, 1, none⟩ = some (.bool a0_1) := (blk_cell BK179.out 1).trans rfl; have hcz22_2 : w19.cell? ⟨gb179, 2, none⟩ = some (.slice (some ad181) l0_2.length c0_2) := (blk_cell BK179.out 2).trans rfl; have hfz22_0 := blk_frozen BK179.out 0; have hfz22_1 := blk_frozen BK179.out 1; have hfz22_2 := blk_frozen BK179.out 2) | ((with_reducible refine gate_callee (f := 157) rfl ?_); refine goesL_ (some 27) rfl rfl Try.func157 (by kernel_rfl) rfl #[.int .i64 a0_0, .agg #[.int .i64 ((rd_T74 l0_2 x20_1).f0), .int .i64 ((rd_T74 l0_2 x20_1).f1), .int .i64 ((rd_T74 l0_2 x20_1).f2), .int .i64 ((rd_T74 l0_2 x20_1).f3)]] rfl (by (try simp only [List.map_toArray, List.map_cons, List.map_nil]); first | done | rfl | (simp only [List.length_drop, List.length_take]; rfl)) ?_; (with_reducible refine (netfmt_arc.calls k1 a0_0 ((rd_T74 l0_2 x20_1).f0) ((rd_T74 l0_2 x20_1).f1) ((rd_T74 l0_2 x20_1).f2) ((rd_T74 l0_2 x20_1).f3) t183 _ A12.out).mono ?_); rintro e w23 ⟨rfl, hb⟩; refine ⟨_, rfl, ?_⟩; have n0_ := Aside0.mk (blk_below (g := gb179) (o := .cells #[.int .i64 a0_0, .bool a0_1, .slice (some ad181) l0_2.length c0_2] 24 (0, 0)) (by (with_reducible repeat (first | refine blk_drewN ?_ _ | refine blk_drew ?_ | refine blk_alloc ?_ _)); refine blk_far ?_ NB179_182.out _; (with_reducible repeat (first | refine blk_drewN ?_ _ | refine blk_drew ?_ | refine blk_alloc ?_ _)); refine blk_far ?_ NB179_182.out _; (with_reducible repeat (first | refine blk_drewN ?_ _ | refine blk_drew ?_ | refine blk_alloc ?_ _)); refine blk_far ?_ NB179_182.out _; (with_reducible repeat (first | refine blk_drewN ?_ _ | refine blk_drew ?_ | refine blk_alloc ?_ _)); refine blk_far ?_ NB179_182.out _; (with_reducible repeat (first | refine blk_drewN ?_ _ | refine blk_drew ?_ | refine blk_alloc ?_ _)); exact BK179.out) hb); have n1_ := Aside0.mk (blk_below (g := gb182) (o := .cells #[.int .i64 ((rd_T74 l0_2 x20_1).f0), .int .i64 ((rd_T74 l0_2 x20_1).f1), .int .i64 ((rd_T74 l0_2 x20_1).f2), .int .i64 ((rd_T74 l0_2 x20_1).f3)] 74 (0, 0)) (by (with_reducible repeat (first | refine blk_drewN ?_ _ | refine blk_drew ?_ | refine blk_alloc ?_ _)); refine blk_put (cs := #[.int .i64 ((rd_T74 l0_2 x20_1).f0), .int .i64 ((rd_T74 l0_2 x20_1).f1), .int .i64 ((rd_T74 l0_2 x20_1).f2), .int .i64 0]) ?_ 3 _ rfl; (with_reducible repeat (first | refine blk_drewN ?_ _ | refine blk_drew ?_ | refine blk_alloc ?_ _)); refine blk_put (cs := #[.int .i64 ((rd_T74 l0_2 x20_1).f0), .int .i64 ((rd_T74 l0_2 x20_1).f1), .int .i64 0, .int .i64 0]) ?_ 2 _ rfl; (with_reducible repeat (first | refine blk_drewN ?_ _ | refine blk_drew ?_ | refine blk_alloc ?_ _)); refine blk_put (cs := #[.int .i64 ((rd_T74 l0_2 x20_1).f0), .int .i64 0, .int .i64 0, .int .i64 0]) ?_ 1 _ rfl; (with_reducible repeat (first | refine blk_drewN ?_ _ | refine blk_drew ?_ | refine blk_alloc ?_ _)); refine blk_put (cs := #[.int .i64 0, .int .i64 0, .int .i64 0, .int .i64 0]) ?_ 0 _ rfl; (with_reducible repeat (first | refine blk_drewN ?_ _ | refine blk_drew ?_ | refine blk_alloc ?_ _)); exact BK182.out) hb); have n2_ := Aside0.mk (below_step (by repeat (first | (with_reducible first | exact HB.out | apply below_alloc | apply pw_below_drewN | apply below_drew1 | refine below_set ?_ GE179.out | refine below_set ?_ GE182.out) | exact HB.out)) hb); clear BK179; clear BK182; clear HB; have BK179 := n0_; have BK182 := n1_; have HB := n2_; clear n0_ n1_ n2_; (try clear hb); (try clear hb2); (try clear hk); (try clear hi)))
    go_ret
    exact ⟨by first | rfl | (simp [errW_none, errW_some] <;> rfl) | (simp [*, errW_none, errW_some] <;> rfl), by repeat (first | (with_reducible first | exact HB.out | apply below_alloc | apply pw_below_drewN | apply below_drew1 | refine below_set ?_ GE179.out | refine below_set ?_ GE182.out) | exact HB.out)⟩
   rw [if_pos c13] at H
   have c13b0 : (t183 == 0) = true := beq_iff_eq.mpr c13
   have c13b1 : (t183 != 0) = false := bne_eq_false_iff_eq.mpr c13
   clear c13
   have H' := Aside0.mk H
   clear H
   have p181 : 0 ≤ (x20_1 : Int) := of_decide_eq_true (by first | (with_reducible assumption) | assumption)
   have q181 : x20_1 < (l0_2.length : Int) := of_decide_eq_true (by first | (with_reducible assumption) | assumption)
   obtain ⟨ad181, e181, hx181_0, hx181_1, hx181_2, hx181_3⟩ := at_T74 HR0_2.out x20_1 p181 q181
   cases e181
   replace hx181_0 := (HB.out.cell (World.block_lt_of_cell? w _ hx181_0)).trans hx181_0
   replace hx181_1 := (HB.out.cell (World.block_lt_of_cell? w _ hx181_1)).trans hx181_1
   replace hx181_2 := (HB.out.cell (World.block_lt_of_cell? w _ hx181_2)).trans hx181_2
   replace hx181_3 := (HB.out.cell (World.block_lt_of_cell? w _ hx181_3)).trans hx181_3
   replace p181 := eq_true p181
   replace q181 := eq_true q181
   go_wp2_with (first | ((with_reducible refine gate_dst (N := 5) rfl ?_); refine box_event ?hg (N := 5) ?hd (cs := #[.int .i64 0, .int .i64 0, .int .i64 0, .int .i64 0]) (t := 74) ?hr ?_; (case hd => rfl); (case hg => rfl); (case hr => first | (go_simp; done) | (go_simp; rfl)); intro gb182 hg w14 hbox hb; have n0_ := Aside0.mk (blk_below (g := gb179) (o := .cells #[.int .i64 a0_0, .bool a0_1, .slice (some ad181) l0_2.length c0_2] 24 (0, 0)) (by (with_reducible repeat (first | refine blk_drewN ?_ _ | refine blk_drew ?_ | refine blk_alloc ?_ _)); exact BK179.out) hb); have n1_ := Aside0.mk (below_step (by repeat (first | (with_reducible first | exact HB.out | apply below_alloc | apply pw_below_drewN | apply below_drew1 | refine below_set ?_ GE179.out) | exact HB.out)) hb); have n2_ := Aside0.mk (hbox); have n3_ := Aside0.mk ((by rw [hg]; exact (below_size (by repeat (first | (with_reducible first | exact HB.out | apply below_alloc | apply pw_below_drewN | apply below_drew1 | refine below_set ?_ GE179.out) | exact HB.out))) : w.heap.size ≤ gb182)); have n4_ := Aside0.mk ((by rw [hg]; exact (below_size (by repeat (first | (with_reducible first | exact HB.out | apply below_alloc | apply pw_below_drewN | apply below_drew1 | refine below_set ?_ GE179.out) | exact HB.out))) : w.heap.size ≤ gb182)); have n5_ := Aside0.mk ((by rw [hg]; exact Nat.ne_of_lt (blk_lt (g := gb179) (o := .cells #[.int .i64 a0_0, .bool a0_1, .slice (some ad181) l0_2.length c0_2] 24 (0, 0)) (by (with_reducible repeat (first | refine blk_drewN ?_ _ | refine blk_drew ?_ | refine blk_alloc ?_ _)); exact BK179.out)) : gb179 ≠ gb182)); have n6_ := Aside0.mk ((by rw [hg]; exact Nat.ne_of_gt (blk_lt (g := gb179) (o := .cells #[.int .i64 a0_0, .bool a0_1, .slice (some ad181) l0_2.length c0_2] 24 (0, 0)) (by (with_reducible repeat (first | refine blk_drewN ?_ _ | refine blk_drew ?_ | refine blk_alloc ?_ _)); exact BK179.out)) : gb182 ≠ gb179)); clear BK179; clear HB; have BK179 := n0_; have HB := n1_; have BK182 := n2_; have GW182 := n3_; have GE182 := n4_; have NB179_182 := n5_; have NB182_179 := n6_; clear n0_ n1_ n2_ n3_ n4_ n5_ n6_; clear hb hbox hg; have hnb15 := NB182_179.out; have hnc15 := NB179_182.out; have hcz16_0 : w14.cell? ⟨gb182, 0, none⟩ = some (.int .i64 0) := (blk_cell BK182.out 0).trans rfl; have hcz16_1 : w14.cell? ⟨gb182, 1, none⟩ = some (.int .i64 0) := (blk_cell BK182.out 1).trans rfl; have hcz16_2 : w14.cell? ⟨gb182, 2, none⟩ = some (.int .i64 0) := (blk_cell BK182.out 2).trans rfl; have hcz16_3 : w14.cell? ⟨gb182, 3, none⟩ = some (.int .i64 0) := (blk_cell BK182.out 3).trans rfl; have hfz16_0 := blk_frozen BK182.out 0; have hfz16_1 := blk_frozen BK182.out 1; have hfz16_2 := blk_frozen BK182.out 2; have hfz16_3 := blk_frozen BK182.out 3; have hcz17_0 : w14.cell? ⟨gb179, 0, none⟩ = some (.int .i64 a0_0) := (blk_cell BK179.out 0).trans rfl; have hcz17_1 : w14.cell? ⟨gb179, 1, none⟩ = some (.bool a0_1) := (blk_cell BK179.out 1).trans rfl; have hcz17_2 : w14.cell? ⟨gb179, 2, none⟩ = some (.slice (some ad181) l0_2.length c0_2) := (blk_cell BK179.out 2).trans rfl; have hfz17_0 := blk_frozen BK179.out 0; have hfz17_1 := blk_frozen BK179.out 1; have hfz17_2 := blk_frozen BK179.out 2) | ((with_reducible refine gate_callee (f := 157) rfl ?_); refine goesL_ (some 27) rfl rfl Try.func157 (by kernel_rfl) rfl #[.int .i64 a0_0, .agg #[.int .i64 ((rd_T74 l0_2 x20_1).f0), .int .i64 ((rd_T74 l0_2 x20_1).f1), .int .i64 ((rd_T74 l0_2 x20_1).f2), .int .i64 ((rd_T74 l0_2 x20_1).f3)]] rfl (by (try simp only [List.map_toArray, List.map_cons, List.map_nil]); first | done | rfl | (simp only [List.length_drop, List.length_take]; rfl)) ?_; (with_reducible refine (netfmt_arc.calls k1 a0_0 ((rd_T74 l0_2 x20_1).f0) ((rd_T74 l0_2 x20_1).f1) ((rd_T74 l0_2 x20_1).f2) ((rd_T74 l0_2 x20_1).f3) t183 _ A12.out).mono ?_); rintro e w18 ⟨rfl, hb⟩; refine ⟨_, rfl, ?_⟩; have n0_ := Aside0.mk (blk_below (g := gb179) (o := .cells #[.int .i64 a0_0, .bool a0_1, .slice (some ad181) l0_2.length c0_2] 24 (0, 0)) (by (with_reducible repeat (first | refine blk_drewN ?_ _ | refine blk_drew ?_ | refine blk_alloc ?_ _)); refine blk_far ?_ NB179_182.out _; (with_reducible repeat (first | refine blk_drewN ?_ _ | refine blk_drew ?_ | refine blk_alloc ?_ _)); refine blk_far ?_ NB179_182.out _; (with_reducible repeat (first | refine blk_drewN ?_ _ | refine blk_drew ?_ | refine blk_alloc ?_ _)); refine blk_far ?_ NB179_182.out _; (with_reducible repeat (first | refine blk_drewN ?_ _ | refine blk_drew ?_ | refine blk_alloc ?_ _)); refine blk_far ?_ NB179_182.out _; (with_reducible repeat (first | refine blk_drewN ?_ _ | refine blk_drew ?_ | refine blk_alloc ?_ _)); exact BK179.out) hb); have n1_ := Aside0.mk (blk_below (g := gb182) (o := .cells #[.int .i64 ((rd_T74 l0_2 x20_1).f0), .int .i64 ((rd_T74 l0_2 x20_1).f1), .int .i64 ((rd_T74 l0_2 x20_1).f2), .int .i64 ((rd_T74 l0_2 x20_1).f3)] 74 (0, 0)) (by (with_reducible repeat (first | refine blk_drewN ?_ _ | refine blk_drew ?_ | refine blk_alloc ?_ _)); refine blk_put (cs := #[.int .i64 ((rd_T74 l0_2 x20_1).f0), .int .i64 ((rd_T74 l0_2 x20_1).f1), .int .i64 ((rd_T74 l0_2 x20_1).f2), .int .i64 0]) ?_ 3 _ rfl; (with_reducible repeat (first | refine blk_drewN ?_ _ | refine blk_drew ?_ | refine blk_alloc ?_ _)); refine blk_put (cs := #[.int .i64 ((rd_T74 l0_2 x20_1).f0), .int .i64 ((rd_T74 l0_2 x20_1).f1), .int .i64 0, .int .i64 0]) ?_ 2 _ rfl; (with_reducible repeat (first | refine blk_drewN ?_ _ | refine blk_drew ?_ | refine blk_alloc ?_ _)); refine blk_put (cs := #[.int .i64 ((rd_T74 l0_2 x20_1).f0), .int .i64 0, .int .i64 0, .int .i64 0]) ?_ 1 _ rfl; (with_reducible repeat (first | refine blk_drewN ?_ _ | refine blk_drew ?_ | refine blk_alloc ?_ _)); refine blk_put (cs := #[.int .i64 0, .int .i64 0, .int .i64 0, .int .i64 0]) ?_ 0 _ rfl; (with_reducible repeat (first | refine blk_drewN ?_ _ | refine blk_drew ?_ | refine blk_alloc ?_ _)); exact BK182.out) hb); have n2_ := Aside0.mk (below_step (by repeat (first | (with_reducible first | exact HB.out | apply below_alloc | apply pw_below_drewN | apply below_drew1 | refine below_set ?_ GE179.out | refine below_set ?_ GE182.out) | exact HB.out)) hb); clear BK179; clear BK182; clear HB; have BK179 := n0_; have BK182 := n1_; have HB := n2_; clear n0_ n1_ n2_; (try clear hb); (try clear hb2); (try clear hk); (try clear hi)))
   go_roundg k1
   case measure => have := HK1.out; omega
   case rel => exact ⟨(wrap64 (x20_1 + 1)), (by first | rfl | (simp; done) | (simp [*]; done)), H', ⟨by have := HK1.out; omega⟩, ⟨by (with_reducible repeat (first | refine blk_drewN ?_ _ | refine blk_drew ?_ | refine blk_alloc ?_ _)); exact BK179.out⟩, ⟨by repeat (first | (with_reducible first | exact HB.out | apply below_alloc | apply pw_below_drewN | apply below_drew1 | refine below_set ?_ GE179.out | refine below_set ?_ GE182.out) | exact HB.out)⟩⟩
end Go.Proofs.Ytkcpanpdipmmmaa.P
namespace Go.Proofs.Ytkcpanpdipmmmaa.P
open Go.RowKit Go.Proofs.YtkcpanpdipmmmaaW.PrintWords Go.Proofs.YtkcpanpdipmmmaaW.PrintLast Go.Proofs.YtkcpanpdipmmmaaW.PrintMore
attribute [local go_sem] max2_int min2_int max_two min_two max_three min_three max_four min_four
def static_Asked.l0 : Nat → List Int → Int → Int → Int → Bool → List (S74) → Option (Int)
 | 0, _, _, _, _, _, _ => none
 | k + 1, x19, x20, x21, x185000, x185001, x185002 => if x21 < x20 then (if 0 ≤ x21 then (if x21 < (x19.length : Int) then (if (rd x19 x21) < 0 then (some 71) else (if x21 < (x185002.length : Int) then (if (rd x19 x21) > ((rd_T74 x185002 x21).f2) then (some 71) else (static_Asked.l0 k x19 x20 (wrap64 (x21 + 1)) x185000 x185001 x185002)) else (none))) else (none)) else (none)) else (some 0)
def static_Asked.f (k : Nat) (a0_0 : Int) (a0_1 : Bool) (l0_2 : List (S74)) (l1 : List Int) : Option (Int) := (netfmt_Check.f k a0_0 a0_1 l0_2).bind fun t185 => (if t185 = 0 then (if (l1.length : Int) = (l0_2.length : Int) then (static_Asked.l0 k l1 (l1.length : Int) 0 a0_0 a0_1 l0_2) else (some 71)) else (some t185))
set_option maxHeartbeats 8000000 in
set_option maxRecDepth 100000 in
theorem static_Asked.calls (k : Nat) (a0_0 : Int) (a0_1 : Bool) (A0_2 : Option Addr) (c0_2 : Nat) (l0_2 : List (S74)) (A1 : Option Addr) (c1 : Nat) (l1 : List Int) (r : Int) (w : World) (hr0_2 : Kd.C k74 w A0_2 l0_2.length l0_2) (hc0_2 : l0_2.length ≤ c0_2) (hr1 : Kd.C (Kd.int .i64) w A1 l1.length l1) (hc1 : l1.length ≤ c1) (h : static_Asked.f k a0_0 a0_1 l0_2 l1 = some r) :
  Calls Try.prog 96 #[.agg #[.int .i64 a0_0, .bool a0_1, .slice A0_2 l0_2.length c0_2], .slice A1 l1.length c1] w fun e w' => e = .returned (.int .i64 r) ∧ Below w.heap.size w w' := by
 have hu24 := Try.underlying24
 have HR0_2 := Aside0.mk hr0_2
 have HC0_2 := Aside0.mk hc0_2
 clear hr0_2 hc0_2
 have HR1 := Aside0.mk hr1
 have HC1 := Aside0.mk hc1
 clear hr1 hc1
 have HB := Aside0.mk (Below.refl w.heap.size w)
 have H : ((netfmt_Check.f k a0_0 a0_1 l0_2).bind fun t185 => (if t185 = 0 then (if (l1.length : Int) = (l0_2.length : Int) then (static_Asked.l0 k l1 (l1.length : Int) 0 a0_0 a0_1 l0_2) else (some 71)) else (some t185))) = some r := h
 clear h
 replace H := Option.bind_eq_some_iff.mp H
 obtain ⟨t185, A30, H⟩ := H
 replace H : (if t185 = 0 then (if (l1.length : Int) = (l0_2.length : Int) then (static_Asked.l0 k l1 (l1.length : Int) 0 a0_0 a0_1 l0_2) else (some 71)) else (some t185)) = some r := H
 have A3 := Aside0.mk A30
 clear A30
 by_cases c4 : t185 = 0
 rotate_left
 ·rw [if_neg c4] at H
  have c4b0 : (t185 == 0) = false := beq_eq_false_iff_ne.mpr c4
  have c4b1 : (t185 != 0) = true := bne_iff_ne.mpr c4
  obtain rfl := Option.some.inj H
  go_enter Try.func96, Try.ntmps96
  go_wp2_with (first | ((with_reducible refine gate_dst (N := 2) rfl ?_); refine box_event ?hg (N := 2) ?hd (cs := #[.int .i64 a0_0, .bool a0_1, .slice A0_2 l0_2.length c0_2]) (t := 24) ?hr ?_; (case hd => rfl); (case hg => rfl); (case hr => first | (go_simp; done) | (go_simp; rfl)); intro gb184 hg w22 hbox hb; have n0_ := Aside0.mk (below_step (by repeat (first | (with_reducible first | exact HB.out | apply below_alloc | apply pw_below_drewN | apply below_drew1) | exact HB.out)) hb); have n1_ := Aside0.mk (hbox); have n2_ := Aside0.mk ((by rw [hg]; exact (below_size (by repeat (first | (with_reducible first | exact HB.out | apply below_alloc | apply pw_below_drewN | apply below_drew1) | exact HB.out))) : w.heap.size ≤ gb184)); have n3_ := Aside0.mk ((by rw [hg]; exact (below_size (by repeat (first | (with_reducible first | exact HB.out | apply below_alloc | apply pw_below_drewN | apply below_drew1) | exact HB.out))) : w.heap.size ≤ gb184)); clear HB; have HB := n0_; have BK184 := n1_; have GW184 := n2_; have GE184 := n3_; clear n0_ n1_ n2_ n3_; clear hb hbox hg; have hcz23_0 : w22.cell? ⟨gb184, 0, none⟩ = some (.int .i64 a0_0) := (blk_cell BK184.out 0).trans rfl; have hcz23_1 : w22.cell? ⟨gb184, 1, none⟩ = some (.bool a0_1) := (blk_cell BK184.out 1).trans rfl; have hcz23_2 : w22.cell? ⟨gb184, 2, none⟩ = some (.slice A0_2 l0_2.length c0_2) := (blk_cell BK184.out 2).trans rfl; have hfz23_0 := blk_frozen BK184.out 0; have hfz23_1 := blk_frozen BK184.out 1; have hfz23_2 := blk_frozen BK184.out 2) | ((with_reducible refine gate_callee (f := 127) rfl ?_); refine goesL_ (some 9) rfl rfl Try.func127 (by kernel_rfl) rfl #[.agg #[.int .i64 a0_0, .bool a0_1, .slice A0_2 l0_2.length c0_2]] rfl (by (try simp only [List.map_toArray, List.map_cons, List.map_nil]); first | done | rfl | (simp only [List.length_drop, List.length_take]; rfl)) ?_; (with_reducible refine (netfmt_Check.calls k a0_0 a0_1 _ _ l0_2 t185 _ ?side1 ?side2 A3.out).mono ?_); (case side1 => repeat (first | exact (Kd.C_below HR0_2.out HB.out) | (with_reducible refine Kd.C_alloc ?_ _) | (with_reducible refine Kd.C_drewN ?_ _) | (with_reducible refine Kd.C_drew ?_))); (case side2 => exact HC0_2.out); rintro e w24 ⟨rfl, hb⟩; refine ⟨_, rfl, ?_⟩; have n0_ := Aside0.mk (blk_below (g := gb184) (o := .cells #[.int .i64 a0_0, .bool a0_1, .slice A0_2 l0_2.length c0_2] 24 (0, 0)) (by (with_reducible repeat (first | refine blk_drewN ?_ _ | refine blk_drew ?_ | refine blk_alloc ?_ _)); exact BK184.out) hb); have n1_ := Aside0.mk (below_step (by repeat (first | (with_reducible first | exact HB.out | apply below_alloc | apply pw_below_drewN | apply below_drew1 | refine below_set ?_ GE184.out) | exact HB.out)) hb); clear BK184; clear HB; have BK184 := n0_; have HB := n1_; clear n0_ n1_; (try clear hb); (try clear hb2); (try clear hk); (try clear hi)))
  go_ret
  exact ⟨by first | rfl | (simp [errW_none, errW_some] <;> rfl) | (simp [*, errW_none, errW_some] <;> rfl), by repeat (first | (with_reducible first | exact HB.out | apply below_alloc | apply pw_below_drewN | apply below_drew1 | refine below_set ?_ GE184.out) | exact HB.out)⟩
 rw [if_pos c4] at H
 have c4b0 : (t185 == 0) = true := beq_iff_eq.mpr c4
 have c4b1 : (t185 != 0) = false := bne_eq_false_iff_eq.mpr c4
 clear c4
 by_cases c5 : (l1.length : Int) = (l0_2.length : Int)
 rotate_left
 ·rw [if_neg c5] at H
  have c5b0 : ((l1.length : Int) == (l0_2.length : Int)) = false := beq_eq_false_iff_ne.mpr c5
  have c5b1 : ((l1.length : Int) != (l0_2.length : Int)) = true := bne_iff_ne.mpr c5
  have c5b2 : (l1.length == l0_2.length) = false := by first | simpa using c5 | (simp at c5 ⊢; omega)
  obtain rfl := Option.some.inj H
  go_enter Try.func96, Try.ntmps96
  go_wp2_with (first | ((with_reducible refine gate_dst (N := 2) rfl ?_); refine box_event ?hg (N := 2) ?hd (cs := #[.int .i64 a0_0, .bool a0_1, .slice A0_2 l0_2.length c0_2]) (t := 24) ?hr ?_; (case hd => rfl); (case hg => rfl); (case hr => first | (go_simp; done) | (go_simp; rfl)); intro gb184 hg w18 hbox hb; have n0_ := Aside0.mk (below_step (by repeat (first | (with_reducible first | exact HB.out | apply below_alloc | apply pw_below_drewN | apply below_drew1) | exact HB.out)) hb); have n1_ := Aside0.mk (hbox); have n2_ := Aside0.mk ((by rw [hg]; exact (below_size (by repeat (first | (with_reducible first | exact HB.out | apply below_alloc | apply pw_below_drewN | apply below_drew1) | exact HB.out))) : w.heap.size ≤ gb184)); have n3_ := Aside0.mk ((by rw [hg]; exact (below_size (by repeat (first | (with_reducible first | exact HB.out | apply below_alloc | apply pw_below_drewN | apply below_drew1) | exact HB.out))) : w.heap.size ≤ gb184)); clear HB; have HB := n0_; have BK184 := n1_; have GW184 := n2_; have GE184 := n3_; clear n0_ n1_ n2_ n3_; clear hb hbox hg; have hcz19_0 : w18.cell? ⟨gb184, 0, none⟩ = some (.int .i64 a0_0) := (blk_cell BK184.out 0).trans rfl; have hcz19_1 : w18.cell? ⟨gb184, 1, none⟩ = some (.bool a0_1) := (blk_cell BK184.out 1).trans rfl; have hcz19_2 : w18.cell? ⟨gb184, 2, none⟩ = some (.slice A0_2 l0_2.length c0_2) := (blk_cell BK184.out 2).trans rfl; have hfz19_0 := blk_frozen BK184.out 0; have hfz19_1 := blk_frozen BK184.out 1; have hfz19_2 := blk_frozen BK184.out 2) | ((with_reducible refine gate_callee (f := 127) rfl ?_); refine goesL_ (some 9) rfl rfl Try.func127 (by kernel_rfl) rfl #[.agg #[.int .i64 a0_0, .bool a0_1, .slice A0_2 l0_2.length c0_2]] rfl (by (try simp only [List.map_toArray, List.map_cons, List.map_nil]); first | done | rfl | (simp only [List.length_drop, List.length_take]; rfl)) ?_; (with_reducible refine (netfmt_Check.calls k a0_0 a0_1 _ _ l0_2 t185 _ ?side1 ?side2 A3.out).mono ?_); (case side1 => repeat (first | exact (Kd.C_below HR0_2.out HB.out) | (with_reducible refine Kd.C_alloc ?_ _) | (with_reducible refine Kd.C_drewN ?_ _) | (with_reducible refine Kd.C_drew ?_))); (case side2 => exact HC0_2.out); rintro e w20 ⟨rfl, hb⟩; refine ⟨_, rfl, ?_⟩; have n0_ := Aside0.mk (blk_below (g := gb184) (o := .cells #[.int .i64 a0_0, .bool a0_1, .slice A0_2 l0_2.length c0_2] 24 (0, 0)) (by (with_reducible repeat (first | refine blk_drewN ?_ _ | refine blk_drew ?_ | refine blk_alloc ?_ _)); exact BK184.out) hb); have n1_ := Aside0.mk (below_step (by repeat (first | (with_reducible first | exact HB.out | apply below_alloc | apply pw_below_drewN | apply below_drew1 | refine below_set ?_ GE184.out) | exact HB.out)) hb); clear BK184; clear HB; have BK184 := n0_; have HB := n1_; clear n0_ n1_; (try clear hb); (try clear hb2); (try clear hk); (try clear hi); have hcz21_0 : w20.cell? ⟨gb184, 0, none⟩ = some (.int .i64 a0_0) := (blk_cell BK184.out 0).trans rfl; have hcz21_1 : w20.cell? ⟨gb184, 1, none⟩ = some (.bool a0_1) := (blk_cell BK184.out 1).trans rfl; have hcz21_2 : w20.cell? ⟨gb184, 2, none⟩ = some (.slice A0_2 l0_2.length c0_2) := (blk_cell BK184.out 2).trans rfl; have hfz21_0 := blk_frozen BK184.out 0; have hfz21_1 := blk_frozen BK184.out 1; have hfz21_2 := blk_frozen BK184.out 2))
  go_ret
  exact ⟨by first | rfl | (simp [errW_none, errW_some] <;> rfl) | (simp [*, errW_none, errW_some] <;> rfl), by repeat (first | (with_reducible first | exact HB.out | apply below_alloc | apply pw_below_drewN | apply below_drew1 | refine below_set ?_ GE184.out) | exact HB.out)⟩
 rw [if_pos c5] at H
 have c5b0 : ((l1.length : Int) == (l0_2.length : Int)) = true := beq_iff_eq.mpr c5
 have c5b1 : ((l1.length : Int) != (l0_2.length : Int)) = false := bne_eq_false_iff_eq.mpr c5
 have c5b2 : (l1.length == l0_2.length) = true := by first | simpa using c5 | (simp at c5 ⊢; omega)
 clear c5
 have H' := Aside0.mk H
 clear H
 go_enter Try.func96, Try.ntmps96
 go_wp2_with (first | ((with_reducible refine gate_dst (N := 2) rfl ?_); refine box_event ?hg (N := 2) ?hd (cs := #[.int .i64 a0_0, .bool a0_1, .slice A0_2 l0_2.length c0_2]) (t := 24) ?hr ?_; (case hd => rfl); (case hg => rfl); (case hr => first | (go_simp; done) | (go_simp; rfl)); intro gb184 hg w6 hbox hb; have n0_ := Aside0.mk (below_step (by repeat (first | (with_reducible first | exact HB.out | apply below_alloc | apply pw_below_drewN | apply below_drew1) | exact HB.out)) hb); have n1_ := Aside0.mk (hbox); have n2_ := Aside0.mk ((by rw [hg]; exact (below_size (by repeat (first | (with_reducible first | exact HB.out | apply below_alloc | apply pw_below_drewN | apply below_drew1) | exact HB.out))) : w.heap.size ≤ gb184)); have n3_ := Aside0.mk ((by rw [hg]; exact (below_size (by repeat (first | (with_reducible first | exact HB.out | apply below_alloc | apply pw_below_drewN | apply below_drew1) | exact HB.out))) : w.heap.size ≤ gb184)); clear HB; have HB := n0_; have BK184 := n1_; have GW184 := n2_; have GE184 := n3_; clear n0_ n1_ n2_ n3_; clear hb hbox hg; have hcz7_0 : w6.cell? ⟨gb184, 0, none⟩ = some (.int .i64 a0_0) := (blk_cell BK184.out 0).trans rfl; have hcz7_1 : w6.cell? ⟨gb184, 1, none⟩ = some (.bool a0_1) := (blk_cell BK184.out 1).trans rfl; have hcz7_2 : w6.cell? ⟨gb184, 2, none⟩ = some (.slice A0_2 l0_2.length c0_2) := (blk_cell BK184.out 2).trans rfl; have hfz7_0 := blk_frozen BK184.out 0; have hfz7_1 := blk_frozen BK184.out 1; have hfz7_2 := blk_frozen BK184.out 2) | ((with_reducible refine gate_callee (f := 127) rfl ?_); refine goesL_ (some 9) rfl rfl Try.func127 (by kernel_rfl) rfl #[.agg #[.int .i64 a0_0, .bool a0_1, .slice A0_2 l0_2.length c0_2]] rfl (by (try simp only [List.map_toArray, List.map_cons, List.map_nil]); first | done | rfl | (simp only [List.length_drop, List.length_take]; rfl)) ?_; (with_reducible refine (netfmt_Check.calls k a0_0 a0_1 _ _ l0_2 t185 _ ?side1 ?side2 A3.out).mono ?_); (case side1 => repeat (first | exact (Kd.C_below HR0_2.out HB.out) | (with_reducible refine Kd.C_alloc ?_ _) | (with_reducible refine Kd.C_drewN ?_ _) | (with_reducible refine Kd.C_drew ?_))); (case side2 => exact HC0_2.out); rintro e w8 ⟨rfl, hb⟩; refine ⟨_, rfl, ?_⟩; have n0_ := Aside0.mk (blk_below (g := gb184) (o := .cells #[.int .i64 a0_0, .bool a0_1, .slice A0_2 l0_2.length c0_2] 24 (0, 0)) (by (with_reducible repeat (first | refine blk_drewN ?_ _ | refine blk_drew ?_ | refine blk_alloc ?_ _)); exact BK184.out) hb); have n1_ := Aside0.mk (below_step (by repeat (first | (with_reducible first | exact HB.out | apply below_alloc | apply pw_below_drewN | apply below_drew1 | refine below_set ?_ GE184.out) | exact HB.out)) hb); clear BK184; clear HB; have BK184 := n0_; have HB := n1_; clear n0_ n1_; (try clear hb); (try clear hb2); (try clear hk); (try clear hi); have hcz9_0 : w8.cell? ⟨gb184, 0, none⟩ = some (.int .i64 a0_0) := (blk_cell BK184.out 0).trans rfl; have hcz9_1 : w8.cell? ⟨gb184, 1, none⟩ = some (.bool a0_1) := (blk_cell BK184.out 1).trans rfl; have hcz9_2 : w8.cell? ⟨gb184, 2, none⟩ = some (.slice A0_2 l0_2.length c0_2) := (blk_cell BK184.out 2).trans rfl; have hfz9_0 := blk_frozen BK184.out 0; have hfz9_1 := blk_frozen BK184.out 1; have hfz9_2 := blk_frozen BK184.out 2))
 go_loopg [21] k (fun kq v21 w' => ∃ (x21_1 : Int), v21 = .int .i64 x21_1 ∧ Aside0 (static_Asked.l0 kq l1 (l1.length : Int) x21_1 a0_0 a0_1 l0_2 = some r) ∧ Aside0 (kq ≤ k) ∧ Aside0 (w'.heap[gb184]? = some (.cells #[.int .i64 a0_0, .bool a0_1, (.slice A0_2 l0_2.length c0_2)] 24 (0, 0))) ∧ Aside0 (Below w.heap.size w w'))
 case atStart => exact ⟨(0), (by first | rfl | (simp; done) | (simp [*]; done)), H', ⟨Nat.le_refl _⟩, ⟨by (with_reducible repeat (first | refine blk_drewN ?_ _ | refine blk_drew ?_ | refine blk_alloc ?_ _)); exact BK184.out⟩, ⟨by repeat (first | (with_reducible first | exact HB.out | apply below_alloc | apply pw_below_drewN | apply below_drew1 | refine below_set ?_ GE184.out) | exact HB.out)⟩⟩
 case round =>
  clear H'
  try clear c1
  try clear p2
  try clear c4
  try clear c4b0
  try clear c4b1
  try clear c5
  try clear c5b0
  try clear c5b1
  try clear c5b2
  try clear c9
  try clear hcz7_0
  try clear hcz7_1
  try clear hcz7_2
  try clear hcz9_0
  try clear hcz9_1
  try clear hcz9_2
  try clear hfz7_0
  try clear hfz7_1
  try clear hfz7_2
  try clear hfz9_0
  try clear hfz9_1
  try clear hfz9_2
  obtain ⟨x21_1, rfl, HA, HK1, BK184, HB⟩ := hrel
  cases gk with
  | zero => exact absurd HA.out (by simp [static_Asked.l0])
  | succ k1 =>
   have H := HA.out
   clear HA
   simp only [static_Asked.l0] at H
   by_cases c10 : x21_1 < (l1.length : Int)
   rotate_left
   ·rw [if_neg c10] at H
    have c10b0 : decide (x21_1 < (l1.length : Int)) = false := decide_eq_false c10
    clear c10
    obtain rfl := Option.some.inj H
    go_wp2
    go_ret
    exact ⟨by first | rfl | (simp [errW_none, errW_some] <;> rfl) | (simp [*, errW_none, errW_some] <;> rfl), by repeat (first | (with_reducible first | exact HB.out | apply below_alloc | apply pw_below_drewN | apply below_drew1 | refine below_set ?_ GE184.out) | exact HB.out)⟩
   rw [if_pos c10] at H
   have c10b0 : decide (x21_1 < (l1.length : Int)) = true := decide_eq_true c10
   clear c10
   by_cases c11 : 0 ≤ x21_1
   rotate_left
   ·rw [if_neg c11] at H
    exact absurd H (by simp)
   rw [if_pos c11] at H
   have c11b0 : decide (0 ≤ x21_1) = true := decide_eq_true c11
   clear c11
   by_cases c12 : x21_1 < (l1.length : Int)
   rotate_left
   ·rw [if_neg c12] at H
    exact absurd H (by simp)
   rw [if_pos c12] at H
   have c12b0 : decide (x21_1 < (l1.length : Int)) = true := decide_eq_true c12
   clear c12
   by_cases c13 : (rd l1 x21_1) < 0
   ·rw [if_pos c13] at H
    have c13b0 : decide ((rd l1 x21_1) < 0) = true := decide_eq_true c13
    clear c13
    obtain rfl := Option.some.inj H
    have p186 : 0 ≤ (x21_1 : Int) := of_decide_eq_true (by first | (with_reducible assumption) | assumption)
    have q186 : x21_1 < (l1.length : Int) := of_decide_eq_true (by first | (with_reducible assumption) | assumption)
    obtain ⟨ad186, e186, hx186_0⟩ := Kd.at_int HR1.out x21_1 p186 q186
    cases e186
    replace hx186_0 := (HB.out.cell (World.block_lt_of_cell? w _ hx186_0)).trans hx186_0
    replace p186 := eq_true p186
    replace q186 := eq_true q186
    go_wp2
    go_ret
    exact ⟨by first | rfl | (simp [errW_none, errW_some] <;> rfl) | (simp [*, errW_none, errW_some] <;> rfl), by repeat (first | (with_reducible first | exact HB.out | apply below_alloc | apply pw_below_drewN | apply below_drew1 | refine below_set ?_ GE184.out) | exact HB.out)⟩
   rw [if_neg c13] at H
   have c13b0 : decide ((rd l1 x21_1) < 0) = false := decide_eq_false c13
   clear c13
   by_cases c14 : x21_1 < (l0_2.length : Int)
   rotate_left
   ·rw [if_neg c14] at H
    exact absurd H (by simp)
   rw [if_pos c14] at H
   have c14b0 : decide (x21_1 < (l0_2.length : Int)) = true := decide_eq_true c14
   clear c14
   by_cases c15 : (rd l1 x21_1) > ((rd_T74 l0_2 x21_1).f2)
   ·rw [if_pos c15] at H
    have c15b0 : decide (((rd_T74 l0_2 x21_1).f2) < (rd l1 x21_1)) = true := decide_eq_true c15
    clear c15
    obtain rfl := Option.some.inj H
    have p186 : 0 ≤ (x21_1 : Int) := of_decide_eq_true (by first | (with_reducible assumption) | assumption)
    have q186 : x21_1 < (l1.length : Int) := of_decide_eq_true (by first | (with_reducible assumption) | assumption)
    obtain ⟨ad186, e186, hx186_0⟩ := Kd.at_int HR1.out x21_1 p186 q186
    cases e186
    replace hx186_0 := (HB.out.cell (World.block_lt_of_cell? w _ hx186_0)).trans hx186_0
    replace p186 := eq_true p186
    replace q186 := eq_true q186
    have hcz16_0 : wr.cell? ⟨gb184, 0, none⟩ = some (.int .i64 a0_0) := (blk_cell BK184.out 0).trans rfl
    have hcz16_1 : wr.cell? ⟨gb184, 1, none⟩ = some (.bool a0_1) := (blk_cell BK184.out 1).trans rfl
    have hcz16_2 : wr.cell? ⟨gb184, 2, none⟩ = some (.slice A0_2 l0_2.length c0_2) := (blk_cell BK184.out 2).trans rfl
    have hfz16_0 := blk_frozen BK184.out 0
    have hfz16_1 := blk_frozen BK184.out 1
    have hfz16_2 := blk_frozen BK184.out 2
    have p187 : 0 ≤ (x21_1 : Int) := of_decide_eq_true (by first | (with_reducible assumption) | assumption)
    have q187 : x21_1 < (l0_2.length : Int) := of_decide_eq_true (by first | (with_reducible assumption) | assumption)
    obtain ⟨ad187, e187, hx187_0, hx187_1, hx187_2, hx187_3⟩ := at_T74 HR0_2.out x21_1 p187 q187
    cases e187
    replace hx187_0 := (HB.out.cell (World.block_lt_of_cell? w _ hx187_0)).trans hx187_0
    replace hx187_1 := (HB.out.cell (World.block_lt_of_cell? w _ hx187_1)).trans hx187_1
    replace hx187_2 := (HB.out.cell (World.block_lt_of_cell? w _ hx187_2)).trans hx187_2
    replace hx187_3 := (HB.out.cell (World.block_lt_of_cell? w _ hx187_3)).trans hx187_3
    replace p187 := eq_true p187
    replace q187 := eq_true q187
    go_wp2
    go_ret
    exact ⟨by first | rfl | (simp [errW_none, errW_some] <;> rfl) | (simp [*, errW_none, errW_some] <;> rfl), by repeat (first | (with_reducible first | exact HB.out | apply below_alloc | apply pw_below_drewN | apply below_drew1 | refine below_set ?_ GE184.out) | exact HB.out)⟩
   rw [if_neg c15] at H
   have c15b0 : decide (((rd_T74 l0_2 x21_1).f2) < (rd l1 x21_1)) = false := decide_eq_false c15
   clear c15
   have H' := Aside0.mk H
   clear H
   have p186 : 0 ≤ (x21_1 : Int) := of_decide_eq_true (by first | (with_reducible assumption) | assumption)
   have q186 : x21_1 < (l1.length : Int) := of_decide_eq_true (by first | (with_reducible assumption) | assumption)
   obtain ⟨ad186, e186, hx186_0⟩ := Kd.at_int HR1.out x21_1 p186 q186
   cases e186
   replace hx186_0 := (HB.out.cell (World.block_lt_of_cell? w _ hx186_0)).trans hx186_0
   replace p186 := eq_true p186
   replace q186 := eq_true q186
   have hcz17_0 : wr.cell? ⟨gb184, 0, none⟩ = some (.int .i64 a0_0) := (blk_cell BK184.out 0).trans rfl
   have hcz17_1 : wr.cell? ⟨gb184, 1, none⟩ = some (.bool a0_1) := (blk_cell BK184.out 1).trans rfl
   have hcz17_2 : wr.cell? ⟨gb184, 2, none⟩ = some (.slice A0_2 l0_2.length c0_2) := (blk_cell BK184.out 2).trans rfl
   have hfz17_0 := blk_frozen BK184.out 0
   have hfz17_1 := blk_frozen BK184.out 1
   have hfz17_2 := blk_frozen BK184.out 2
   have p187 : 0 ≤ (x21_1 : Int) := of_decide_eq_true (by first | (with_reducible assumption) | assumption)
   have q187 : x21_1 < (l0_2.length : Int) := of_decide_eq_true (by first | (with_reducible assumption) | assumption)
   obtain ⟨ad187, e187, hx187_0, hx187_1, hx187_2, hx187_3⟩ := at_T74 HR0_2.out x21_1 p187 q187
   cases e187
   replace hx187_0 := (HB.out.cell (World.block_lt_of_cell? w _ hx187_0)).trans hx187_0
   replace hx187_1 := (HB.out.cell (World.block_lt_of_cell? w _ hx187_1)).trans hx187_1
   replace hx187_2 := (HB.out.cell (World.block_lt_of_cell? w _ hx187_2)).trans hx187_2
   replace hx187_3 := (HB.out.cell (World.block_lt_of_cell? w _ hx187_3)).trans hx187_3
   replace p187 := eq_true p187
   replace q187 := eq_true q187
   go_wp2
   go_roundg k1
   case measure => have := HK1.out; omega
   case rel => exact ⟨(wrap64 (x21_1 + 1)), (by first | rfl | (simp; done) | (simp [*]; done)), H', ⟨by have := HK1.out; omega⟩, ⟨by (with_reducible repeat (first | refine blk_drewN ?_ _ | refine blk_drew ?_ | refine blk_alloc ?_ _)); exact BK184.out⟩, ⟨by repeat (first | (with_reducible first | exact HB.out | apply below_alloc | apply pw_below_drewN | apply below_drew1 | refine below_set ?_ GE184.out) | exact HB.out)⟩⟩
end Go.Proofs.Ytkcpanpdipmmmaa.P
namespace Go.Proofs.Ytkcpanpdipmmmaa.P
open Go.RowKit Go.Proofs.YtkcpanpdipmmmaaW.PrintWords Go.Proofs.YtkcpanpdipmmmaaW.PrintLast Go.Proofs.YtkcpanpdipmmmaaW.PrintMore
attribute [local go_sem] max2_int min2_int max_two min_two max_three min_three max_four min_four
def ebbtideref06_Node.f (a0_0 : Int) (a0_1 : Bool) (l0_2 : List (S74)) (a1 : Int) : Option (Bool) := if a1 ≥ 0 then (some (decide (a1 < a0_0))) else (some false)
end Go.Proofs.Ytkcpanpdipmmmaa.P
namespace Go.Proofs.Ytkcpanpdipmmmaa.P
open Go.RowKit Go.Proofs.YtkcpanpdipmmmaaW.PrintWords Go.Proofs.YtkcpanpdipmmmaaW.PrintLast Go.Proofs.YtkcpanpdipmmmaaW.PrintMore
attribute [local go_sem] max2_int min2_int max_two min_two max_three min_three max_four min_four
def ebbtideref03_SameInts.l0 : Nat → List Int → List Int → Int → Option (Bool)
 | 0, _, _, _ => none
 | k + 1, x0, x1, x5 => if x5 < (x0.length : Int) then (if 0 ≤ x5 then (if x5 < (x1.length : Int) then (if (rd x0 x5) = (rd x1 x5) then (ebbtideref03_SameInts.l0 k x0 x1 (wrap64 (x5 + 1))) else (some false)) else (none)) else (none)) else (some true)
def ebbtideref03_SameInts.f (k : Nat) (l0 : List Int) (l1 : List Int) : Option (Bool) := if (l0.length : Int) = (l1.length : Int) then (ebbtideref03_SameInts.l0 k l0 l1 0) else (some false)
theorem ebbtideref03_SameInts.mono_l : ∀ k, (∀ y0 y1 y2, LeO (ebbtideref03_SameInts.l0 k y0 y1 y2) (ebbtideref03_SameInts.l0 (k + 1) y0 y1 y2))
 | 0 => fun _ _ _ r h => by simp [ebbtideref03_SameInts.l0] at h
 | k + 1 => by
  have ih0 := ebbtideref03_SameInts.mono_l k
  ·intro y0 y1 y2
   unfold ebbtideref03_SameInts.l0
   repeat' first
   | (with_reducible exact ih0 _ _ _)
   | (with_reducible exact LeO.refl _)
   | (with_reducible exact LeO.none _)
   | (with_reducible refine LeO.ite ?_ ?_)
   | (with_reducible refine LeO.bind ?_ (fun _ => ?_))
   | exact ih0 _ _ _
   | exact LeO.none _
   | refine LeO.ite ?_ ?_
   | refine LeO.bind ?_ (fun _ => ?_)
theorem ebbtideref03_SameInts.mono : ∀ a0 a1 k, LeO (ebbtideref03_SameInts.f k a0 a1) (ebbtideref03_SameInts.f (k + 1) a0 a1) := by
 intro a0 a1 k
 have ih0 := ebbtideref03_SameInts.mono_l k
 unfold ebbtideref03_SameInts.f
 repeat' first
   | (with_reducible exact ih0 _ _ _)
   | (with_reducible exact LeO.refl _)
   | (with_reducible exact LeO.none _)
   | (with_reducible refine LeO.ite ?_ ?_)
   | (with_reducible refine LeO.bind ?_ (fun _ => ?_))
   | exact ih0 _ _ _
   | exact LeO.none _
   | refine LeO.ite ?_ ?_
   | refine LeO.bind ?_ (fun _ => ?_)
set_option maxHeartbeats 8000000 in
set_option maxRecDepth 100000 in
theorem ebbtideref03_SameInts.calls (k : Nat) (A0 : Option Addr) (c0 : Nat) (l0 : List Int) (A1 : Option Addr) (c1 : Nat) (l1 : List Int) (r : Bool) (w : World) (hr0 : Kd.C (Kd.int .i64) w A0 l0.length l0) (hc0 : l0.length ≤ c0) (hr1 : Kd.C (Kd.int .i64) w A1 l1.length l1) (hc1 : l1.length ≤ c1) (h : ebbtideref03_SameInts.f k l0 l1 = some r) :
  Calls Try.prog 41 #[.slice A0 l0.length c0, .slice A1 l1.length c1] w fun e w' => e = .returned (.bool r) ∧ Drawn0 w w' := by
 have HR0 := Aside0.mk hr0
 have HC0 := Aside0.mk hc0
 clear hr0 hc0
 have HR1 := Aside0.mk hr1
 have HC1 := Aside0.mk hc1
 clear hr1 hc1
 have H : (if (l0.length : Int) = (l1.length : Int) then (ebbtideref03_SameInts.l0 k l0 l1 0) else (some false)) = some r := h
 clear h
 by_cases c3 : (l0.length : Int) = (l1.length : Int)
 rotate_left
 ·rw [if_neg c3] at H
  have c3b0 : ((l0.length : Int) == (l1.length : Int)) = false := beq_eq_false_iff_ne.mpr c3
  have c3b1 : ((l0.length : Int) != (l1.length : Int)) = true := bne_iff_ne.mpr c3
  have c3b2 : (l0.length == l1.length) = false := by first | simpa using c3 | (simp at c3 ⊢; omega)
  obtain rfl := Option.some.inj H
  go_enter Try.func41, Try.ntmps41
  go_wp2
  repeat (go_quiet (fail); try go_wp2)
  go_ret
  exact ⟨by first | rfl | (simp; done) | (simp [*]; done), by repeat (first | exact Drawn0.refl _ | apply Drawn0.step)⟩
 rw [if_pos c3] at H
 have c3b0 : ((l0.length : Int) == (l1.length : Int)) = true := beq_iff_eq.mpr c3
 have c3b1 : ((l0.length : Int) != (l1.length : Int)) = false := bne_eq_false_iff_eq.mpr c3
 have c3b2 : (l0.length == l1.length) = true := by first | simpa using c3 | (simp at c3 ⊢; omega)
 clear c3
 have H' := Aside0.mk H
 clear H
 go_enter Try.func41, Try.ntmps41
 go_wp2
 repeat (go_quiet (fail); try go_wp2)
 go_loopg [5] k (fun kq v5 w' => ∃ (x5_1 : Int), v5 = .int .i64 x5_1 ∧ Aside0 (ebbtideref03_SameInts.l0 kq l0 l1 x5_1 = some r) ∧ Aside0 (kq ≤ k) ∧ Drawn0 w w')
 case atStart => exact ⟨(0), (by first | rfl | (simp; done) | (simp [*]; done)), H', ⟨Nat.le_refl _⟩, by repeat (first | exact Drawn0.refl _ | apply Drawn0.step)⟩
 case round =>
  clear H'
  try clear c1
  try clear p2
  try clear c3
  try clear c3b0
  try clear c3b1
  try clear c3b2
  obtain ⟨x5_1, rfl, HA, HK1, ⟨m1, rfl⟩⟩ := hrel
  cases gk with
  | zero => exact absurd HA.out (by simp [ebbtideref03_SameInts.l0])
  | succ k1 =>
   have H := HA.out
   clear HA
   simp only [ebbtideref03_SameInts.l0] at H
   by_cases c4 : x5_1 < (l0.length : Int)
   rotate_left
   ·rw [if_neg c4] at H
    have c4b0 : decide (x5_1 < (l0.length : Int)) = false := decide_eq_false c4
    clear c4
    obtain rfl := Option.some.inj H
    go_wp2
    repeat (go_quiet (fail); try go_wp2)
    go_ret
    exact ⟨by first | rfl | (simp; done) | (simp [*]; done), by repeat (first | exact Drawn0.refl _ | apply Drawn0.step)⟩
   rw [if_pos c4] at H
   have c4b0 : decide (x5_1 < (l0.length : Int)) = true := decide_eq_true c4
   clear c4
   by_cases c5 : 0 ≤ x5_1
   rotate_left
   ·rw [if_neg c5] at H
    exact absurd H (by simp)
   rw [if_pos c5] at H
   have c5b0 : decide (0 ≤ x5_1) = true := decide_eq_true c5
   clear c5
   by_cases c6 : x5_1 < (l1.length : Int)
   rotate_left
   ·rw [if_neg c6] at H
    exact absurd H (by simp)
   rw [if_pos c6] at H
   have c6b0 : decide (x5_1 < (l1.length : Int)) = true := decide_eq_true c6
   clear c6
   by_cases c7 : (rd l0 x5_1) = (rd l1 x5_1)
   rotate_left
   ·rw [if_neg c7] at H
    have c7b0 : ((rd l0 x5_1) == (rd l1 x5_1)) = false := beq_eq_false_iff_ne.mpr c7
    have c7b1 : ((rd l0 x5_1) != (rd l1 x5_1)) = true := bne_iff_ne.mpr c7
    obtain rfl := Option.some.inj H
    have p215 : 0 ≤ (x5_1 : Int) := of_decide_eq_true (by first | (with_reducible assumption) | assumption)
    have q215 : x5_1 < (l0.length : Int) := of_decide_eq_true (by first | (with_reducible assumption) | assumption)
    obtain ⟨ad215, e215, hx215_0⟩ := Kd.at_int HR0.out x5_1 p215 q215
    cases e215
    replace p215 := eq_true p215
    replace q215 := eq_true q215
    have p216 : 0 ≤ (x5_1 : Int) := of_decide_eq_true (by first | (with_reducible assumption) | assumption)
    have q216 : x5_1 < (l1.length : Int) := of_decide_eq_true (by first | (with_reducible assumption) | assumption)
    obtain ⟨ad216, e216, hx216_0⟩ := Kd.at_int HR1.out x5_1 p216 q216
    cases e216
    replace p216 := eq_true p216
    replace q216 := eq_true q216
    go_wp2
    repeat (go_quiet (fail); try go_wp2)
    go_ret
    exact ⟨by first | rfl | (simp; done) | (simp [*]; done), by repeat (first | exact Drawn0.refl _ | apply Drawn0.step)⟩
   rw [if_pos c7] at H
   have c7b0 : ((rd l0 x5_1) == (rd l1 x5_1)) = true := beq_iff_eq.mpr c7
   have c7b1 : ((rd l0 x5_1) != (rd l1 x5_1)) = false := bne_eq_false_iff_eq.mpr c7
   clear c7
   have H' := Aside0.mk H
   clear H
   have p215 : 0 ≤ (x5_1 : Int) := of_decide_eq_true (by first | (with_reducible assumption) | assumption)
   have q215 : x5_1 < (l0.length : Int) := of_decide_eq_true (by first | (with_reducible assumption) | assumption)
   obtain ⟨ad215, e215, hx215_0⟩ := Kd.at_int HR0.out x5_1 p215 q215
   cases e215
   replace p215 := eq_true p215
   replace q215 := eq_true q215
   have p216 : 0 ≤ (x5_1 : Int) := of_decide_eq_true (by first | (with_reducible assumption) | assumption)
   have q216 : x5_1 < (l1.length : Int) := of_decide_eq_true (by first | (with_reducible assumption) | assumption)
   obtain ⟨ad216, e216, hx216_0⟩ := Kd.at_int HR1.out x5_1 p216 q216
   cases e216
   replace p216 := eq_true p216
   replace q216 := eq_true q216
   go_wp2
   repeat (go_quiet (fail); try go_wp2)
   go_roundg k1
   case measure => have := HK1.out; omega
   case rel => exact ⟨(wrap64 (x5_1 + 1)), (by first | rfl | (simp; done) | (simp [*]; done)), H', ⟨by have := HK1.out; omega⟩, by repeat (first | exact Drawn0.refl _ | apply Drawn0.step)⟩
end Go.Proofs.Ytkcpanpdipmmmaa.P
namespace Go.Proofs.Ytkcpanpdipmmmaa.Q
open Go.RowKit Go.Proofs.YtkcpanpdipmmmaaW.PrintWords Go.Proofs.YtkcpanpdipmmmaaW.PrintLast Go.Proofs.YtkcpanpdipmmmaaW.PrintMore Go.Proofs.Ytkcpanpdipmmmaa.P
def arcErr (n : Int) (a : S74) : Int :=
 if a.f0 < 0 ∨ a.f1 < 0 ∨ a.f2 < 0 ∨ a.f3 < 0 ∨ n ≤ a.f0 ∨ n ≤ a.f1 then 51 else if 1048576 < a.f2 ∨ 1048576 < a.f3 then 2 else 0
def arcsErr (n : Int) : List S74 → Int
 | [] => 0
 | a :: l => if arcErr n a = 0 then arcsErr n l else arcErr n a
def netErr (n : Int) (l : List S74) : Int := if n < 1 then 51 else if n > 50 then 2 else if (l.length : Int) > 200 then 2 else arcsErr n l
structure ArcOk (n : Int) (a : S74) : Prop where
 f0 : 0 ≤ a.f0
 f1 : 0 ≤ a.f1
 f2 : 0 ≤ a.f2
 f3 : 0 ≤ a.f3
 h0 : a.f0 < n
 h1 : a.f1 < n
 h2 : a.f2 ≤ 1048576
 h3 : a.f3 ≤ 1048576
structure NetOk (n : Int) (l : List S74) : Prop where
 lo : 1 ≤ n
 hi : n ≤ 50
 len : l.length ≤ 200
 arcs : ∀ a ∈ l, ArcOk n a
theorem arcErr_ok {n : Int} {a : S74} (h : arcErr n a = 0) : ArcOk n a := by
 unfold arcErr at h
 split at h
 ·omega
 ·split at h
  ·omega
  ·constructor <;> omega
theorem arcsErr_ok {n : Int} : ∀ {l : List S74}, arcsErr n l = 0 → ∀ a ∈ l, ArcOk n a
 | [], _, a, ha => by cases ha
 | b :: l, h, a, ha => by
  unfold arcsErr at h
  split at h
  ·rename_i hb
   rcases List.mem_cons.1 ha with rfl | ha
   ·exact arcErr_ok hb
   ·exact arcsErr_ok h a ha
  ·exact absurd h (by assumption)
theorem netErr_ok {n : Int} {l : List S74} (h : netErr n l = 0) : NetOk n l := by
 unfold netErr at h
 split at h
 ·omega
 ·split at h
  ·omega
  ·split at h
   ·omega
   ·exact ⟨by omega, by omega, by omega, arcsErr_ok h⟩
theorem NetOk.at_ {n : Int} {l : List S74} (h : NetOk n l) {i : Int} (h0 : 0 ≤ i) (h1 : i < l.length) : ArcOk n (rd_T74 l i) := h.arcs _ (getD_mem (by omega))
theorem nodes_eq (n : Int) : netfmt_nodes.f n = some (if n < 1 then 51 else if n > 50 then 2 else 0) := by
 unfold netfmt_nodes.f
 split
 ·rfl
 ·split <;> rfl
theorem arc_ev (n : Int) (a : S74) : Ev (fun k => netfmt_arc.f k n a.f0 a.f1 a.f2 a.f3) (arcErr n a) := by
 unfold netfmt_arc.f arcErr
 refine Ev.ite (fun h => ?_) (fun h => ?_)
 ·refine Ev.succ ?_; simp only [netfmt_arc.j0]
  repeat (first | exact Ev.now _ | with_reducible refine Ev.pos (by first | assumption | omega) ?_ | with_reducible refine Ev.neg (by first | assumption | omega) ?_ | with_reducible refine Ev.let_ ?_)
  exact Ev.done (by unfold mn at h; rw [if_pos (by omega)])
 ·refine Ev.succ ?_; simp only [netfmt_arc.j0]
  unfold mn at h
  unfold mx
  refine Ev.ite (fun g => ?_) (fun g => ?_)
  ·have g := of_decide_eq_true g
   exact Ev.done (by rw [if_pos (by omega)])
  ·have g := of_decide_eq_false (Bool.eq_false_iff.2 g)
   refine Ev.ite (fun g1 => ?_) (fun g1 => ?_)
   ·exact Ev.done (by rw [if_neg (by omega), if_pos (by omega)])
   ·refine Ev.ite (fun g2 => ?_) (fun g2 => ?_)
    ·exact Ev.done (by rw [if_neg (by omega), if_pos (by omega)])
    ·exact Ev.done (by rw [if_neg (by omega), if_neg (by omega)])
theorem check_l0 (l : List S74) (n : Int) (b : Bool) (hl : l.length ≤ 9223372036854775807) (d : Nat) : ∀ i : Nat, i + d = l.length →
  Ev (fun k => netfmt_Check.l0 k l (l.length : Int) (i : Int) n b l) (arcsErr n (l.drop i)) := by
 induction d with
 | zero =>
  intro i hi
  refine Ev.succ ?_; simp only [netfmt_Check.l0]
  repeat (first | exact Ev.now _ | with_reducible refine Ev.pos (by first | assumption | omega) ?_ | with_reducible refine Ev.neg (by first | assumption | omega) ?_ | with_reducible refine Ev.let_ ?_)
  rw [List.drop_of_length_le (by omega)]
  exact Ev.now _
 | succ d ih =>
  intro i hi
  refine Ev.succ ?_; simp only [netfmt_Check.l0]
  repeat (first | exact Ev.now _ | with_reducible refine Ev.pos (by first | assumption | omega) ?_ | with_reducible refine Ev.neg (by first | assumption | omega) ?_ | with_reducible refine Ev.let_ ?_)
  refine Ev.bind (arc_ev n (rd_T74 l i)) ?_
  rw [drop_getD l i z74 (by omega)]
  have hr : rd_T74 l (i : Int) = l.getD i z74 := by unfold rd_T74; rw [Int.toNat_natCast]
  rw [hr]
  unfold arcsErr
  refine Ev.ite (fun h => ?_) (fun h => ?_)
  ·rw [if_pos h, wrap_succ (n := l.length) (by omega) hl]
   exact ih (i + 1) (by omega)
  ·rw [if_neg h]
   exact Ev.now _
theorem check_ev (n : Int) (b : Bool) (l : List S74) : Ev (fun k => netfmt_Check.f k n b l) (netErr n l) := by
 unfold netfmt_Check.f netErr
 refine Ev.call (nodes_eq n) ?_
 by_cases h : n < 1
 ·rw [if_pos h, if_pos h]
  repeat (first | exact Ev.now _ | with_reducible refine Ev.pos (by first | assumption | omega) ?_ | with_reducible refine Ev.neg (by first | assumption | omega) ?_ | with_reducible refine Ev.let_ ?_)
 ·rw [if_neg h, if_neg h]
  by_cases h2 : n > 50
  ·rw [if_pos h2, if_pos h2]
   repeat (first | exact Ev.now _ | with_reducible refine Ev.pos (by first | assumption | omega) ?_ | with_reducible refine Ev.neg (by first | assumption | omega) ?_ | with_reducible refine Ev.let_ ?_)
  ·rw [if_neg h2, if_neg h2]
   repeat (first | exact Ev.now _ | with_reducible refine Ev.pos (by first | assumption | omega) ?_ | with_reducible refine Ev.neg (by first | assumption | omega) ?_ | with_reducible refine Ev.let_ ?_)
   refine Ev.ite (fun g => ?_) (fun g => ?_)
   ·rw [if_pos g]
    exact Ev.now _
   ·rw [if_neg g]
    exact check_l0 l n b (by omega) l.length 0 (by omega)
theorem ref_nodes_eq (n : Int) : ebbtideref05_nodes.f n = some (if n < 1 then 51 else if n > 50 then 2 else 0) := by
 unfold ebbtideref05_nodes.f
 split
 ·rfl
 ·split <;> rfl
theorem ref_arc_j0 (x : Bool) (n : Int) (a : S74) (hx : x = true ↔ a.f0 < 0 ∨ a.f1 < 0 ∨ a.f2 < 0 ∨ a.f3 < 0 ∨ n ≤ a.f0 ∨ n ≤ a.f1) : Ev (fun k => ebbtideref05_Arc.j0 k x a.f0 a.f1 a.f2 a.f3) (arcErr n a) := by
 unfold arcErr
 refine Ev.succ ?_; simp only [ebbtideref05_Arc.j0]
 refine Ev.ite (fun g => ?_) (fun g => ?_)
 ·exact Ev.done (by rw [if_pos (hx.1 g)])
 ·have g' := fun h => g (hx.2 h)
  refine Ev.ite (fun g1 => ?_) (fun g1 => ?_)
  ·exact Ev.done (by rw [if_neg g', if_pos (by omega)])
  ·refine Ev.ite (fun g2 => ?_) (fun g2 => ?_)
   ·exact Ev.done (by rw [if_neg g', if_pos (by omega)])
   ·exact Ev.done (by rw [if_neg g', if_neg (by omega)])
theorem ref_arc_ev (n : Int) (a : S74) : Ev (fun k => ebbtideref05_Arc.f k n a.f0 a.f1 a.f2 a.f3) (arcErr n a) := by
 unfold ebbtideref05_Arc.f
 refine Ev.ite (fun h => ?_) (fun h => ?_)
 ·exact ref_arc_j0 _ _ _ ⟨fun _ => by omega, fun _ => rfl⟩
 refine Ev.ite (fun h => ?_) (fun h => ?_)
 ·exact ref_arc_j0 _ _ _ ⟨fun _ => by omega, fun _ => rfl⟩
 refine Ev.ite (fun h => ?_) (fun h => ?_)
 ·exact ref_arc_j0 _ _ _ ⟨fun _ => by omega, fun _ => rfl⟩
 refine Ev.ite (fun h => ?_) (fun h => ?_)
 ·exact ref_arc_j0 _ _ _ ⟨fun _ => by omega, fun _ => rfl⟩
 refine Ev.ite (fun h => ?_) (fun h => ?_)
 ·exact ref_arc_j0 _ _ _ ⟨fun _ => by omega, fun _ => rfl⟩
 ·exact ref_arc_j0 _ _ _ ⟨fun g => by have := of_decide_eq_true g; omega, fun g => decide_eq_true (by omega)⟩
theorem ref_check_l0 (l : List S74) (n : Int) (b : Bool) (hl : l.length ≤ 9223372036854775807) (d : Nat) : ∀ i : Nat, i + d = l.length →
  Ev (fun k => ebbtideref05_Check.l0 k (i : Int) n b l) (arcsErr n (l.drop i)) := by
 induction d with
 | zero =>
  intro i hi
  refine Ev.succ ?_; simp only [ebbtideref05_Check.l0]
  repeat (first | exact Ev.now _ | with_reducible refine Ev.pos (by first | assumption | omega) ?_ | with_reducible refine Ev.neg (by first | assumption | omega) ?_ | with_reducible refine Ev.let_ ?_)
  rw [List.drop_of_length_le (by omega)]
  exact Ev.now _
 | succ d ih =>
  intro i hi
  refine Ev.succ ?_; simp only [ebbtideref05_Check.l0]
  repeat (first | exact Ev.now _ | with_reducible refine Ev.pos (by first | assumption | omega) ?_ | with_reducible refine Ev.neg (by first | assumption | omega) ?_ | with_reducible refine Ev.let_ ?_)
  refine Ev.bind (ref_arc_ev n (rd_T74 l i)) ?_
  rw [drop_getD l i z74 (by omega)]
  have hr : rd_T74 l (i : Int) = l.getD i z74 := by unfold rd_T74; rw [Int.toNat_natCast]
  rw [hr]
  unfold arcsErr
  refine Ev.ite (fun h => ?_) (fun h => ?_)
  ·rw [if_pos h, wrap_succ (n := l.length) (by omega) hl]
   exact ih (i + 1) (by omega)
  ·rw [if_neg h]
   exact Ev.now _
theorem ref_check_ev (n : Int) (b : Bool) (l : List S74) : Ev (fun k => ebbtideref05_Check.f k n b l) (netErr n l) := by
 unfold ebbtideref05_Check.f netErr
 refine Ev.call (ref_nodes_eq n) ?_
 by_cases h : n < 1
 ·rw [if_pos h, if_pos h]
  repeat (first | exact Ev.now _ | with_reducible refine Ev.pos (by first | assumption | omega) ?_ | with_reducible refine Ev.neg (by first | assumption | omega) ?_ | with_reducible refine Ev.let_ ?_)
 ·rw [if_neg h, if_neg h]
  by_cases h2 : n > 50
  ·rw [if_pos h2, if_pos h2]
   repeat (first | exact Ev.now _ | with_reducible refine Ev.pos (by first | assumption | omega) ?_ | with_reducible refine Ev.neg (by first | assumption | omega) ?_ | with_reducible refine Ev.let_ ?_)
  ·rw [if_neg h2, if_neg h2]
   repeat (first | exact Ev.now _ | with_reducible refine Ev.pos (by first | assumption | omega) ?_ | with_reducible refine Ev.neg (by first | assumption | omega) ?_ | with_reducible refine Ev.let_ ?_)
   refine Ev.ite (fun g => ?_) (fun g => ?_)
   ·rw [if_pos g]
    exact Ev.now _
   ·rw [if_neg g]
    exact ref_check_l0 l n b (by omega) l.length 0 (by omega)
end Go.Proofs.Ytkcpanpdipmmmaa.Q
namespace Go.Proofs.Ytkcpanpdipmmmaa.Q
open Go.RowKit Go.Proofs.YtkcpanpdipmmmaaW.PrintWords Go.Proofs.YtkcpanpdipmmmaaW.PrintLast Go.Proofs.YtkcpanpdipmmmaaW.PrintMore Go.Proofs.Ytkcpanpdipmmmaa.P
def flowB : List S74 → List Int → Bool
 | [], [] => true
 | a :: l, x :: f => if x < 0 then false else if x > a.f2 then false else flowB l f
 | _, _ => false
def askErr (n : Int) (l : List S74) (f : List Int) : Int := if netErr n l = 0 then (if flowB l f = true then 0 else 71) else netErr n l
structure FlowOk (l : List S74) (f : List Int) : Prop where
 len : f.length = l.length
 at_ : ∀ i : Nat, i < f.length → 0 ≤ rd f i ∧ rd f i ≤ (rd_T74 l i).f2
theorem rdArc_nat (l : List S74) (i : Nat) : rd_T74 l (i : Int) = l.getD i z74 := by unfold rd_T74; rw [Int.toNat_natCast]
theorem flowB_len : ∀ {l : List S74} {f : List Int}, flowB l f = true → f.length = l.length
 | [], [], _ => rfl
 | [], _ :: _, h => by simp [flowB] at h
 | _ :: _, [], h => by simp [flowB] at h
 | a :: l, x :: f, h => by
  unfold flowB at h
  split at h
  ·cases h
  ·split at h
   ·cases h
   ·simp [flowB_len h]
theorem flowB_ok : ∀ {l : List S74} {f : List Int}, flowB l f = true → ∀ i : Nat, i < f.length → 0 ≤ f.getD i 0 ∧ f.getD i 0 ≤ (l.getD i z74).f2
 | [], [], _, i, hi => by simp at hi
 | [], _ :: _, h, _, _ => by simp [flowB] at h
 | _ :: _, [], h, _, _ => by simp [flowB] at h
 | a :: l, x :: f, h, i, hi => by
  unfold flowB at h
  split at h
  ·cases h
  ·split at h
   ·cases h
   ·cases i with
    | zero => simp; omega
    | succ i => simpa using flowB_ok h i (by simpa using hi)
theorem flow_ok {l : List S74} {f : List Int} (h : flowB l f = true) : FlowOk l f :=
 ⟨flowB_len h, fun i hi => by rw [rd_nat, rdArc_nat]; exact flowB_ok h i hi⟩
theorem askErr_ok {n : Int} {l : List S74} {f : List Int} (h : askErr n l f = 0) : NetOk n l ∧ FlowOk l f := by
 unfold askErr at h
 split at h
 ·split at h
  ·exact ⟨netErr_ok (by assumption), flow_ok (by assumption)⟩
  ·omega
 ·exact absurd h (by assumption)
theorem asked_l0 (l : List S74) (f : List Int) (n : Int) (b : Bool) (hl : l.length ≤ 200) (hf : f.length = l.length) (d : Nat) : ∀ i : Nat, i + d = l.length →
  Ev (fun k => static_Asked.l0 k f (f.length : Int) (i : Int) n b l) (if flowB (l.drop i) (f.drop i) = true then 0 else 71) := by
 induction d with
 | zero =>
  intro i hi
  refine Ev.succ ?_; simp only [static_Asked.l0]
  repeat (first | exact Ev.now _ | with_reducible refine Ev.pos (by first | assumption | omega) ?_ | with_reducible refine Ev.neg (by first | assumption | omega) ?_ | with_reducible refine Ev.let_ ?_)
  rw [List.drop_of_length_le (by omega), List.drop_of_length_le (by omega)]
  exact Ev.now _
 | succ d ih =>
  intro i hi
  refine Ev.succ ?_; simp only [static_Asked.l0]
  repeat (first | exact Ev.now _ | with_reducible refine Ev.pos (by first | assumption | omega) ?_ | with_reducible refine Ev.neg (by first | assumption | omega) ?_ | with_reducible refine Ev.let_ ?_)
  rw [drop_getD l i z74 (by omega), drop_getD f i 0 (by omega), rdArc_nat, rd_nat]
  unfold flowB
  refine Ev.ite (fun h => ?_) (fun h => ?_)
  ·rw [if_pos h]
   exact Ev.now _
  ·rw [if_neg h]
   repeat (first | exact Ev.now _ | with_reducible refine Ev.pos (by first | assumption | omega) ?_ | with_reducible refine Ev.neg (by first | assumption | omega) ?_ | with_reducible refine Ev.let_ ?_)
   refine Ev.ite (fun g => ?_) (fun g => ?_)
   ·rw [if_pos g]
    exact Ev.now _
   ·rw [if_neg g, wrap_succ (n := l.length) (by omega) (by omega)]
    exact ih (i + 1) (by omega)
theorem flowB_ne {l : List S74} {f : List Int} (h : ¬ ((f.length : Int) = (l.length : Int))) : ¬ flowB l f = true := fun g => h (by rw [flowB_len g])
theorem asked_ev (n : Int) (b : Bool) (l : List S74) (f : List Int) : Ev (fun k => static_Asked.f k n b l f) (askErr n l f) := by
 unfold static_Asked.f askErr
 refine Ev.bind (check_ev n b l) ?_
 refine Ev.ite (fun h => ?_) (fun h => ?_)
 ·rw [if_pos h]
  have hn := netErr_ok h
  refine Ev.ite (fun g => ?_) (fun g => ?_)
  ·exact asked_l0 l f n b hn.len (by omega) l.length 0 (by omega)
  ·rw [if_neg (flowB_ne g)]
   exact Ev.now _
 ·rw [if_neg h]
  exact Ev.now _
theorem within_l0 (l : List S74) (f : List Int) (n : Int) (b : Bool) (hl : l.length ≤ 200) (hf : f.length = l.length) (d : Nat) : ∀ i : Nat, i + d = l.length →
  Ev (fun k => ebbtideref07_Within.l0 k f (i : Int) n b l) (flowB (l.drop i) (f.drop i)) := by
 induction d with
 | zero =>
  intro i hi
  refine Ev.succ ?_; simp only [ebbtideref07_Within.l0]
  repeat (first | exact Ev.now _ | with_reducible refine Ev.pos (by first | assumption | omega) ?_ | with_reducible refine Ev.neg (by first | assumption | omega) ?_ | with_reducible refine Ev.let_ ?_)
  rw [List.drop_of_length_le (by omega), List.drop_of_length_le (by omega)]
  exact Ev.now _
 | succ d ih =>
  intro i hi
  refine Ev.succ ?_; simp only [ebbtideref07_Within.l0]
  repeat (first | exact Ev.now _ | with_reducible refine Ev.pos (by first | assumption | omega) ?_ | with_reducible refine Ev.neg (by first | assumption | omega) ?_ | with_reducible refine Ev.let_ ?_)
  rw [drop_getD l i z74 (by omega), drop_getD f i 0 (by omega), rdArc_nat, rd_nat]
  unfold flowB
  refine Ev.ite (fun h => ?_) (fun h => ?_)
  ·rw [if_pos h]
   exact Ev.now _
  ·rw [if_neg h]
   repeat (first | exact Ev.now _ | with_reducible refine Ev.pos (by first | assumption | omega) ?_ | with_reducible refine Ev.neg (by first | assumption | omega) ?_ | with_reducible refine Ev.let_ ?_)
   refine Ev.ite (fun g => ?_) (fun g => ?_)
   ·rw [if_pos g]
    exact Ev.now _
   ·rw [if_neg g, wrap_succ (n := l.length) (by omega) (by omega)]
    exact ih (i + 1) (by omega)
theorem within_ev (n : Int) (b : Bool) (l : List S74) (f : List Int) (hl : l.length ≤ 200) : Ev (fun k => ebbtideref07_Within.f k n b l f) (flowB l f) := by
 unfold ebbtideref07_Within.f
 refine Ev.ite (fun g => ?_) (fun g => ?_)
 ·exact within_l0 l f n b hl (by omega) l.length 0 (by omega)
 ·rw [Bool.eq_false_iff.2 (flowB_ne g)]
  exact Ev.now _
theorem ref_asked_ev (n : Int) (b : Bool) (l : List S74) (f : List Int) : Ev (fun k => ebbtideref07_Asked.f k n b l f) (askErr n l f) := by
 unfold ebbtideref07_Asked.f askErr
 refine Ev.bind (ref_check_ev n b l) ?_
 refine Ev.ite (fun h => ?_) (fun h => ?_)
 ·rw [if_pos h]
  refine Ev.bind (within_ev n b l f (netErr_ok h).len) ?_
  refine Ev.ite (fun g => ?_) (fun g => ?_)
  ·rw [if_pos g]; exact Ev.now _
  ·rw [if_neg g]; exact Ev.now _
 ·rw [if_neg h]
  exact Ev.now _
theorem node_eq (n : Int) (b : Bool) (l : List S74) (v : Int) : ebbtideref06_Node.f n b l v = some (decide (0 ≤ v ∧ v < n)) := by
 unfold ebbtideref06_Node.f
 split
 ·rename_i h
  congr 1
  by_cases g : v < n <;> simp [g] <;> omega
 ·rename_i h
  congr 1
  symm
  exact decide_eq_false (by omega)
end Go.Proofs.Ytkcpanpdipmmmaa.Q
namespace Go.Proofs.Ytkcpanpdipmmmaa.H
open Go.RowKit Go.Proofs.YtkcpanpdipmmmaaW.PrintWords Go.Proofs.YtkcpanpdipmmmaaW.PrintLast Go.Proofs.YtkcpanpdipmmmaaW.PrintMore Go.Proofs.Ytkcpanpdipmmmaa.P Go.Proofs.Ytkcpanpdipmmmaa.Q
theorem right_of {n : Int} {l : List S74} {F : List Int} (h : askErr n l F = 0) : ∃ n0 : Nat, n = n0 ∧ Right l F n0 := by
 obtain ⟨hn, hf⟩ := askErr_ok h
 have h1 := hn.lo
 have h2 := hn.hi
 obtain ⟨n0, rfl⟩ : ∃ n0 : Nat, n = n0 := ⟨n.toNat, by omega⟩
 refine ⟨n0, rfl, ⟨by omega, by omega, hn.len, hf.len, fun i hi => ?_, fun i hi => ?_⟩⟩
 ·have ha := hn.at_ (i := (i : Int)) (by omega) (by omega)
  exact ⟨⟨ha.f0, ha.h0⟩, ⟨ha.f1, ha.h1⟩⟩
 ·have ha := hn.at_ (i := (i : Int)) (by omega) (by omega)
  have hb := hf.at_ i (by rw [hf.len]; exact hi)
  rw [rd_nat] at hb
  exact ⟨ha.f3, ha.h3, hb.1, hb.2, ha.h2⟩
theorem refFrom_calls (k : Nat) (a0_0 : Int) (a0_1 : Bool) (A0_2 : Option Addr) (c0_2 : Nat) (l0_2 : List S74) (A1 : Option Addr) (c1 : Nat) (l1 : List Int) (a2 : Int) (r1 : List Int) (r2 : List Bool) (r3 : Bool) (w : World) (hr0_2 : Kd.C k74 w A0_2 l0_2.length l0_2) (hc0_2 : l0_2.length ≤ c0_2) (hr1 : Kd.C (Kd.int .i64) w A1 l1.length l1) (hc1 : l1.length ≤ c1) (h : ebbtideref11_From.f k a0_0 a0_1 l0_2 l1 a2 = some (r1, r2, r3)) {ka : Nat} (hA : ebbtideref07_Asked.f ka a0_0 a0_1 l0_2 l1 = some 0) :
  Calls Try.prog 71 #[.agg #[.int .i64 a0_0, .bool a0_1, .slice A0_2 l0_2.length c0_2], .slice A1 l1.length c1, .int .i64 a2] w fun e w' => ∃ v0_ v1_ : Value, e = .returned (.agg #[v0_, v1_, .bool r3]) ∧ Kd.R (Kd.int .i64) 3 w' w.heap.size (fun _ => True) v0_ r1 ∧ Kd.R Kd.bool 4 w' w.heap.size (fun _ => True) v1_ r2 ∧ Below w.heap.size w w' := by
 have hask := Ev.uniq (Ev.of (fun k => ebbtideref07_Asked.mono _ _ _ _ k) hA) (ref_asked_ev a0_0 a0_1 l0_2 l1)
 obtain ⟨n0, rfl, hr⟩ := right_of hask.symm
 have hlo : 0 ≤ a2 := Classical.byContradiction fun h0 => by
  unfold ebbtideref11_From.f at h
  simp [h0] at h
 have hhi : a2 < (n0 : Int) := Classical.byContradiction fun h0 => by
  unfold ebbtideref11_From.f at h
  simp [h0] at h
 obtain ⟨s, rfl⟩ : ∃ s : Nat, a2 = s := ⟨a2.toNat, by omega⟩
 have hs : s < n0 := by omega
 have hres := Ev.uniq (Ev.of (fun k => ebbtideref11_From.mono _ _ _ _ _ k) h) (from_ev hr a0_1 s hs)
 injection hres with q1 q2
 injection q2 with q2 q3
 refine (ref_from_calls n0 a0_1 A0_2 c0_2 l0_2 A1 c1 l1 s w hr hs hr0_2 hc0_2 hr1 hc1).mono ?_
 rintro e w' ⟨v0, v1, rfl, hd, hi, hb⟩
 rw [q1, q2, q3]
 exact ⟨v0, v1, rfl, hd, hi, hb⟩
end Go.Proofs.Ytkcpanpdipmmmaa.H
namespace Go.Proofs.Ytkcpanpdipmmmaa.P
open Go.RowKit Go.Proofs.YtkcpanpdipmmmaaW.PrintWords Go.Proofs.YtkcpanpdipmmmaaW.PrintLast Go.Proofs.YtkcpanpdipmmmaaW.PrintMore
attribute [local go_sem] max2_int min2_int max_two min_two max_three min_three max_four min_four
def ebbtideref11_Free.l0 : Nat → List Int → Int → Int → Bool → List (S74) → Option (Bool × Int)
 | 0, _, _, _, _, _ => none
 | k + 1, x1, x7, x220000, x220001, x220002 => if x7 < x220000 then ((ebbtideref11_From.f k x220000 x220001 x220002 x1 x7).bind fun bt221 => (if bt221.2.2 = true then (ebbtideref11_Free.l0 k x1 (wrap64 (x7 + 1)) x220000 x220001 x220002) else (some (false, 0)))) else (some (true, 0))
def ebbtideref11_Free.f (k : Nat) (a0_0 : Int) (a0_1 : Bool) (l0_2 : List (S74)) (l1 : List Int) : Option (Bool × Int) := (ebbtideref07_Asked.f k a0_0 a0_1 l0_2 l1).bind fun t220 => (if t220 = 0 then (ebbtideref11_Free.l0 k l1 0 a0_0 a0_1 l0_2) else (some (false, t220)))
theorem ebbtideref11_Free.mono_l : ∀ k, (∀ y0 y1 y2 y3 y4, LeO (ebbtideref11_Free.l0 k y0 y1 y2 y3 y4) (ebbtideref11_Free.l0 (k + 1) y0 y1 y2 y3 y4))
 | 0 => fun _ _ _ _ _ r h => by simp [ebbtideref11_Free.l0] at h
 | k + 1 => by
  have ih0 := ebbtideref11_Free.mono_l k
  ·intro y0 y1 y2 y3 y4
   unfold ebbtideref11_Free.l0
   repeat' first
   | (with_reducible exact ih0 _ _ _ _ _)
   | (with_reducible exact ebbtideref07_Asked.mono _ _ _ _ _)
   | (with_reducible exact ebbtideref11_From.mono _ _ _ _ _ _)
   | (with_reducible exact LeO.refl _)
   | (with_reducible exact LeO.none _)
   | (with_reducible refine LeO.ite ?_ ?_)
   | (with_reducible refine LeO.bind ?_ (fun _ => ?_))
   | exact ih0 _ _ _ _ _
   | exact ebbtideref07_Asked.mono _ _ _ _ _
   | exact ebbtideref11_From.mono _ _ _ _ _ _
   | exact LeO.none _
   | refine LeO.ite ?_ ?_
   | refine LeO.bind ?_ (fun _ => ?_)
theorem ebbtideref11_Free.mono : ∀ a0 a1 a2 a3 k, LeO (ebbtideref11_Free.f k a0 a1 a2 a3) (ebbtideref11_Free.f (k + 1) a0 a1 a2 a3) := by
 intro a0 a1 a2 a3 k
 have ih0 := ebbtideref11_Free.mono_l k
 unfold ebbtideref11_Free.f
 repeat' first
   | (with_reducible exact ih0 _ _ _ _ _)
   | (with_reducible exact ebbtideref07_Asked.mono _ _ _ _ _)
   | (with_reducible exact ebbtideref11_From.mono _ _ _ _ _ _)
   | (with_reducible exact LeO.refl _)
   | (with_reducible exact LeO.none _)
   | (with_reducible refine LeO.ite ?_ ?_)
   | (with_reducible refine LeO.bind ?_ (fun _ => ?_))
   | exact ih0 _ _ _ _ _
   | exact ebbtideref07_Asked.mono _ _ _ _ _
   | exact ebbtideref11_From.mono _ _ _ _ _ _
   | exact LeO.none _
   | refine LeO.ite ?_ ?_
   | refine LeO.bind ?_ (fun _ => ?_)
set_option maxHeartbeats 8000000 in
set_option maxRecDepth 100000 in
theorem ebbtideref11_Free.calls (k : Nat) (a0_0 : Int) (a0_1 : Bool) (A0_2 : Option Addr) (c0_2 : Nat) (l0_2 : List (S74)) (A1 : Option Addr) (c1 : Nat) (l1 : List Int) (r1 : Bool) (r2 : Int) (w : World) (hr0_2 : Kd.C k74 w A0_2 l0_2.length l0_2) (hc0_2 : l0_2.length ≤ c0_2) (hr1 : Kd.C (Kd.int .i64) w A1 l1.length l1) (hc1 : l1.length ≤ c1) (h : ebbtideref11_Free.f k a0_0 a0_1 l0_2 l1 = some (r1, r2)) :
  Calls Try.prog 52 #[.agg #[.int .i64 a0_0, .bool a0_1, .slice A0_2 l0_2.length c0_2], .slice A1 l1.length c1] w fun e w' => e = .returned (.tuple #[.bool r1, .int .i64 r2]) ∧ Below w.heap.size w w' := by
 have hu24 := Try.underlying24
 have hu66 := Try.underlying66
 have hfd66 : ∀ (A : Option Addr) (m c : Nat) (B : Option Addr) (n d : Nat) (b : Bool) (w : World), (Instr.field 66 (.agg #[.slice A m c, .slice B n d, .bool b]) 2).run Try.prog w = .ok (.bool b) w := fun _ _ _ _ _ _ _ _ => by kernel_rfl
 have HR0_2 := Aside0.mk hr0_2
 have HC0_2 := Aside0.mk hc0_2
 clear hr0_2 hc0_2
 have HR1 := Aside0.mk hr1
 have HC1 := Aside0.mk hc1
 clear hr1 hc1
 have HB := Aside0.mk (Below.refl w.heap.size w)
 have H : ((ebbtideref07_Asked.f k a0_0 a0_1 l0_2 l1).bind fun t220 => (if t220 = 0 then (ebbtideref11_Free.l0 k l1 0 a0_0 a0_1 l0_2) else (some (false, t220)))) = some (r1, r2) := h
 clear h
 replace H := Option.bind_eq_some_iff.mp H
 obtain ⟨t220, A30, H⟩ := H
 replace H : (if t220 = 0 then (ebbtideref11_Free.l0 k l1 0 a0_0 a0_1 l0_2) else (some (false, t220))) = some (r1, r2) := H
 have A3 := Aside0.mk A30
 clear A30
 by_cases c4 : t220 = 0
 rotate_left
 ·rw [if_neg c4] at H
  have c4b0 : (t220 == 0) = false := beq_eq_false_iff_ne.mpr c4
  have c4b1 : (t220 != 0) = true := bne_iff_ne.mpr c4
  simp only [Option.some.injEq, Prod.mk.injEq] at H
  obtain ⟨rfl, rfl⟩ := H
  go_enter Try.func52, Try.ntmps52
  go_wp2_with (first | ((with_reducible refine gate_dst (N := 2) rfl ?_); refine box_event ?hg (N := 2) ?hd (cs := #[.int .i64 a0_0, .bool a0_1, .slice A0_2 l0_2.length c0_2]) (t := 24) ?hr ?_; (case hd => rfl); (case hg => rfl); (case hr => first | (go_simp; done) | (go_simp; rfl)); intro gb219 hg w16 hbox hb; have n0_ := Aside0.mk (below_step (by repeat (first | (with_reducible first | exact HB.out | apply below_alloc | apply pw_below_drewN | apply below_drew1) | exact HB.out)) hb); have n1_ := Aside0.mk (hbox); have n2_ := Aside0.mk ((by rw [hg]; exact (below_size (by repeat (first | (with_reducible first | exact HB.out | apply below_alloc | apply pw_below_drewN | apply below_drew1) | exact HB.out))) : w.heap.size ≤ gb219)); have n3_ := Aside0.mk ((by rw [hg]; exact (below_size (by repeat (first | (with_reducible first | exact HB.out | apply below_alloc | apply pw_below_drewN | apply below_drew1) | exact HB.out))) : w.heap.size ≤ gb219)); clear HB; have HB := n0_; have BK219 := n1_; have GW219 := n2_; have GE219 := n3_; clear n0_ n1_ n2_ n3_; clear hb hbox hg; have hcz17_0 : w16.cell? ⟨gb219, 0, none⟩ = some (.int .i64 a0_0) := (blk_cell BK219.out 0).trans rfl; have hcz17_1 : w16.cell? ⟨gb219, 1, none⟩ = some (.bool a0_1) := (blk_cell BK219.out 1).trans rfl; have hcz17_2 : w16.cell? ⟨gb219, 2, none⟩ = some (.slice A0_2 l0_2.length c0_2) := (blk_cell BK219.out 2).trans rfl; have hfz17_0 := blk_frozen BK219.out 0; have hfz17_1 := blk_frozen BK219.out 1; have hfz17_2 := blk_frozen BK219.out 2) | ((with_reducible refine gate_callee (f := 98) rfl ?_); refine goesL_ (some 10) rfl rfl Try.func98 (by kernel_rfl) rfl #[.agg #[.int .i64 a0_0, .bool a0_1, .slice A0_2 l0_2.length c0_2], .slice A1 l1.length c1] rfl (by (try simp only [List.map_toArray, List.map_cons, List.map_nil]); first | done | rfl | (simp only [List.length_drop, List.length_take]; rfl)) ?_; (with_reducible refine (ebbtideref07_Asked.calls k a0_0 a0_1 _ _ l0_2 _ _ l1 t220 _ ?side1 ?side2 ?side3 ?side4 A3.out).mono ?_); (case side1 => repeat (first | exact (Kd.C_below HR0_2.out HB.out) | (with_reducible refine Kd.C_alloc ?_ _) | (with_reducible refine Kd.C_drewN ?_ _) | (with_reducible refine Kd.C_drew ?_))); (case side2 => exact HC0_2.out); (case side3 => repeat (first | exact (Kd.C_below HR1.out HB.out) | (with_reducible refine Kd.C_alloc ?_ _) | (with_reducible refine Kd.C_drewN ?_ _) | (with_reducible refine Kd.C_drew ?_))); (case side4 => exact HC1.out); rintro e w18 ⟨rfl, hb⟩; refine ⟨_, rfl, ?_⟩; have n0_ := Aside0.mk (blk_below (g := gb219) (o := .cells #[.int .i64 a0_0, .bool a0_1, .slice A0_2 l0_2.length c0_2] 24 (0, 0)) (by (with_reducible repeat (first | refine blk_drewN ?_ _ | refine blk_drew ?_ | refine blk_alloc ?_ _)); exact BK219.out) hb); have n1_ := Aside0.mk (below_step (by repeat (first | (with_reducible first | exact HB.out | apply below_alloc | apply pw_below_drewN | apply below_drew1 | refine below_set ?_ GE219.out) | exact HB.out)) hb); clear BK219; clear HB; have BK219 := n0_; have HB := n1_; clear n0_ n1_; (try clear hb); (try clear hb2); (try clear hk); (try clear hi)))
  go_ret2
  exact ⟨by first | rfl | (simp [errW_none, errW_some] <;> rfl) | (simp [*, errW_none, errW_some] <;> rfl), by repeat (first | (with_reducible first | exact HB.out | apply below_alloc | apply pw_below_drewN | apply below_drew1 | refine below_set ?_ GE219.out) | exact HB.out)⟩
 rw [if_pos c4] at H
 have HASK := Aside0.mk (by have h_ := A3.out; rw [c4] at h_; exact h_ : ebbtideref07_Asked.f k a0_0 a0_1 l0_2 l1 = some 0)
 have c4b0 : (t220 == 0) = true := beq_iff_eq.mpr c4
 have c4b1 : (t220 != 0) = false := bne_eq_false_iff_eq.mpr c4
 clear c4
 have H' := Aside0.mk H
 clear H
 go_enter Try.func52, Try.ntmps52
 go_wp2_with (first | ((with_reducible refine gate_dst (N := 2) rfl ?_); refine box_event ?hg (N := 2) ?hd (cs := #[.int .i64 a0_0, .bool a0_1, .slice A0_2 l0_2.length c0_2]) (t := 24) ?hr ?_; (case hd => rfl); (case hg => rfl); (case hr => first | (go_simp; done) | (go_simp; rfl)); intro gb219 hg w5 hbox hb; have n0_ := Aside0.mk (below_step (by repeat (first | (with_reducible first | exact HB.out | apply below_alloc | apply pw_below_drewN | apply below_drew1) | exact HB.out)) hb); have n1_ := Aside0.mk (hbox); have n2_ := Aside0.mk ((by rw [hg]; exact (below_size (by repeat (first | (with_reducible first | exact HB.out | apply below_alloc | apply pw_below_drewN | apply below_drew1) | exact HB.out))) : w.heap.size ≤ gb219)); have n3_ := Aside0.mk ((by rw [hg]; exact (below_size (by repeat (first | (with_reducible first | exact HB.out | apply below_alloc | apply pw_below_drewN | apply below_drew1) | exact HB.out))) : w.heap.size ≤ gb219)); clear HB; have HB := n0_; have BK219 := n1_; have GW219 := n2_; have GE219 := n3_; clear n0_ n1_ n2_ n3_; clear hb hbox hg; have hcz6_0 : w5.cell? ⟨gb219, 0, none⟩ = some (.int .i64 a0_0) := (blk_cell BK219.out 0).trans rfl; have hcz6_1 : w5.cell? ⟨gb219, 1, none⟩ = some (.bool a0_1) := (blk_cell BK219.out 1).trans rfl; have hcz6_2 : w5.cell? ⟨gb219, 2, none⟩ = some (.slice A0_2 l0_2.length c0_2) := (blk_cell BK219.out 2).trans rfl; have hfz6_0 := blk_frozen BK219.out 0; have hfz6_1 := blk_frozen BK219.out 1; have hfz6_2 := blk_frozen BK219.out 2) | ((with_reducible refine gate_callee (f := 98) rfl ?_); refine goesL_ (some 10) rfl rfl Try.func98 (by kernel_rfl) rfl #[.agg #[.int .i64 a0_0, .bool a0_1, .slice A0_2 l0_2.length c0_2], .slice A1 l1.length c1] rfl (by (try simp only [List.map_toArray, List.map_cons, List.map_nil]); first | done | rfl | (simp only [List.length_drop, List.length_take]; rfl)) ?_; (with_reducible refine (ebbtideref07_Asked.calls k a0_0 a0_1 _ _ l0_2 _ _ l1 t220 _ ?side1 ?side2 ?side3 ?side4 A3.out).mono ?_); (case side1 => repeat (first | exact (Kd.C_below HR0_2.out HB.out) | (with_reducible refine Kd.C_alloc ?_ _) | (with_reducible refine Kd.C_drewN ?_ _) | (with_reducible refine Kd.C_drew ?_))); (case side2 => exact HC0_2.out); (case side3 => repeat (first | exact (Kd.C_below HR1.out HB.out) | (with_reducible refine Kd.C_alloc ?_ _) | (with_reducible refine Kd.C_drewN ?_ _) | (with_reducible refine Kd.C_drew ?_))); (case side4 => exact HC1.out); rintro e w7 ⟨rfl, hb⟩; refine ⟨_, rfl, ?_⟩; have n0_ := Aside0.mk (blk_below (g := gb219) (o := .cells #[.int .i64 a0_0, .bool a0_1, .slice A0_2 l0_2.length c0_2] 24 (0, 0)) (by (with_reducible repeat (first | refine blk_drewN ?_ _ | refine blk_drew ?_ | refine blk_alloc ?_ _)); exact BK219.out) hb); have n1_ := Aside0.mk (below_step (by repeat (first | (with_reducible first | exact HB.out | apply below_alloc | apply pw_below_drewN | apply below_drew1 | refine below_set ?_ GE219.out) | exact HB.out)) hb); clear BK219; clear HB; have BK219 := n0_; have HB := n1_; clear n0_ n1_; (try clear hb); (try clear hb2); (try clear hk); (try clear hi)))
 go_loopg [7] k (fun kq v7 w' => ∃ (x7_1 : Int), v7 = .int .i64 x7_1 ∧ Aside0 (ebbtideref11_Free.l0 kq l1 x7_1 a0_0 a0_1 l0_2 = some (r1, r2)) ∧ Aside0 (kq ≤ k) ∧ Aside0 (w'.heap[gb219]? = some (.cells #[.int .i64 a0_0, .bool a0_1, (.slice A0_2 l0_2.length c0_2)] 24 (0, 0))) ∧ Aside0 (Below w.heap.size w w'))
 case atStart => exact ⟨(0), (by first | rfl | (simp; done) | (simp [*]; done)), H', ⟨Nat.le_refl _⟩, ⟨by (with_reducible repeat (first | refine blk_drewN ?_ _ | refine blk_drew ?_ | refine blk_alloc ?_ _)); exact BK219.out⟩, ⟨by repeat (first | (with_reducible first | exact HB.out | apply below_alloc | apply pw_below_drewN | apply below_drew1 | refine below_set ?_ GE219.out) | exact HB.out)⟩⟩
 case round =>
  clear H'
  try clear c1
  try clear p2
  try clear c4
  try clear c4b0
  try clear c4b1
  try clear c5
  try clear hcz6_0
  try clear hcz6_1
  try clear hcz6_2
  try clear hfz6_0
  try clear hfz6_1
  try clear hfz6_2
  obtain ⟨x7_1, rfl, HA, HK1, BK219, HB⟩ := hrel
  cases gk with
  | zero => exact absurd HA.out (by simp [ebbtideref11_Free.l0])
  | succ k1 =>
   have H := HA.out
   clear HA
   simp only [ebbtideref11_Free.l0] at H
   by_cases c8 : x7_1 < a0_0
   rotate_left
   ·rw [if_neg c8] at H
    have c8b0 : decide (x7_1 < a0_0) = false := decide_eq_false c8
    clear c8
    simp only [Option.some.injEq, Prod.mk.injEq] at H
    obtain ⟨rfl, rfl⟩ := H
    have hcz15_0 : wr.cell? ⟨gb219, 0, none⟩ = some (.int .i64 a0_0) := (blk_cell BK219.out 0).trans rfl
    have hcz15_1 : wr.cell? ⟨gb219, 1, none⟩ = some (.bool a0_1) := (blk_cell BK219.out 1).trans rfl
    have hcz15_2 : wr.cell? ⟨gb219, 2, none⟩ = some (.slice A0_2 l0_2.length c0_2) := (blk_cell BK219.out 2).trans rfl
    have hfz15_0 := blk_frozen BK219.out 0
    have hfz15_1 := blk_frozen BK219.out 1
    have hfz15_2 := blk_frozen BK219.out 2
    go_wp2
    go_ret2
    exact ⟨by first | rfl | (simp [errW_none, errW_some] <;> rfl) | (simp [*, errW_none, errW_some] <;> rfl), by repeat (first | (with_reducible first | exact HB.out | apply below_alloc | apply pw_below_drewN | apply below_drew1 | refine below_set ?_ GE219.out) | exact HB.out)⟩
   rw [if_pos c8] at H
   have c8b0 : decide (x7_1 < a0_0) = true := decide_eq_true c8
   clear c8
   replace H := Option.bind_eq_some_iff.mp H
   obtain ⟨⟨t221, t224, t227⟩, A90, H⟩ := H
   replace H : (if t227 = true then (ebbtideref11_Free.l0 k1 l1 (wrap64 (x7_1 + 1)) a0_0 a0_1 l0_2) else (some (false, 0))) = some (r1, r2) := H
   have A9 := Aside0.mk A90
   clear A90
   by_cases c10 : t227 = true
   rotate_left
   ·replace c10 := Bool.eq_false_iff.mpr c10
    subst c10
    have H1 : (some (false, 0)) = some (r1, r2) := by rw [if_neg (show ¬ (false = true) by decide)] at H; exact H
    clear H
    have H := H1
    clear H1
    simp only [Option.some.injEq, Prod.mk.injEq] at H
    obtain ⟨rfl, rfl⟩ := H
    have hcz13_0 : wr.cell? ⟨gb219, 0, none⟩ = some (.int .i64 a0_0) := (blk_cell BK219.out 0).trans rfl
    have hcz13_1 : wr.cell? ⟨gb219, 1, none⟩ = some (.bool a0_1) := (blk_cell BK219.out 1).trans rfl
    have hcz13_2 : wr.cell? ⟨gb219, 2, none⟩ = some (.slice A0_2 l0_2.length c0_2) := (blk_cell BK219.out 2).trans rfl
    have hfz13_0 := blk_frozen BK219.out 0
    have hfz13_1 := blk_frozen BK219.out 1
    have hfz13_2 := blk_frozen BK219.out 2
    go_wp2_with (first | ((with_reducible refine gate_callee (f := 71) rfl ?_); refine goesL_ (some 23) rfl rfl Try.func71 (by kernel_rfl) rfl #[.agg #[.int .i64 a0_0, .bool a0_1, .slice A0_2 l0_2.length c0_2], .slice A1 l1.length c1, .int .i64 x7_1] rfl (by (try simp only [List.map_toArray, List.map_cons, List.map_nil]); first | done | rfl | (simp only [List.length_drop, List.length_take]; rfl)) ?_; (with_reducible refine (Go.Proofs.Ytkcpanpdipmmmaa.H.refFrom_calls k1 a0_0 a0_1 _ _ l0_2 _ _ l1 x7_1 t221 t224 false _ ?side1 ?side2 ?side3 ?side4 A9.out HASK.out).mono ?_); (case side1 => repeat (first | exact (Kd.C_below HR0_2.out HB.out) | (with_reducible refine Kd.C_alloc ?_ _) | (with_reducible refine Kd.C_drewN ?_ _) | (with_reducible refine Kd.C_drew ?_))); (case side2 => exact HC0_2.out); (case side3 => repeat (first | exact (Kd.C_below HR1.out HB.out) | (with_reducible refine Kd.C_alloc ?_ _) | (with_reducible refine Kd.C_drewN ?_ _) | (with_reducible refine Kd.C_drew ?_))); (case side4 => exact HC1.out); rintro e w14 ⟨v222, v225, rfl, ho0, ho1, hb⟩; obtain ⟨AA_, cc_, ee_⟩ := Kd.R_slice ho0; subst ee_; obtain ⟨AB_, cb_, eb_⟩ := Kd.R_slice ho1; subst eb_; refine ⟨_, rfl, ?_⟩; have n0_ := Aside0.mk (Kd.R_lower ho0 (below_size (by repeat (first | (with_reducible first | exact HB.out | apply below_alloc | apply pw_below_drewN | apply below_drew1 | refine below_set ?_ GE219.out) | exact HB.out)))); have n1_ := Aside0.mk (Kd.R_lower ho1 (below_size (by repeat (first | (with_reducible first | exact HB.out | apply below_alloc | apply pw_below_drewN | apply below_drew1 | refine below_set ?_ GE219.out) | exact HB.out)))); have n2_ := Aside0.mk (blk_below (g := gb219) (o := .cells #[.int .i64 a0_0, .bool a0_1, .slice A0_2 l0_2.length c0_2] 24 (0, 0)) (by (with_reducible repeat (first | refine blk_drewN ?_ _ | refine blk_drew ?_ | refine blk_alloc ?_ _)); exact BK219.out) hb); have n3_ := Aside0.mk (below_step (by repeat (first | (with_reducible first | exact HB.out | apply below_alloc | apply pw_below_drewN | apply below_drew1 | refine below_set ?_ GE219.out) | exact HB.out)) hb); clear BK219; clear HB; have HO223 := n0_; have HO226 := n1_; have BK219 := n2_; have HB := n3_; clear n0_ n1_ n2_ n3_; (try clear hb); (try clear hb2); (try clear hk); (try clear hi); (try clear ho0); (try clear ho1)))
    go_ret2
    exact ⟨by first | rfl | (simp [errW_none, errW_some] <;> rfl) | (simp [*, errW_none, errW_some] <;> rfl), by repeat (first | (with_reducible first | exact HB.out | apply below_alloc | apply pw_below_drewN | apply below_drew1 | refine below_set ?_ GE219.out) | exact HB.out)⟩
   subst c10
   have H1 : (ebbtideref11_Free.l0 k1 l1 (wrap64 (x7_1 + 1)) a0_0 a0_1 l0_2) = some (r1, r2) := by rw [if_pos rfl] at H; exact H
   clear H
   have H := H1
   clear H1
   have H' := Aside0.mk H
   clear H
   have hcz11_0 : wr.cell? ⟨gb219, 0, none⟩ = some (.int .i64 a0_0) := (blk_cell BK219.out 0).trans rfl
   have hcz11_1 : wr.cell? ⟨gb219, 1, none⟩ = some (.bool a0_1) := (blk_cell BK219.out 1).trans rfl
   have hcz11_2 : wr.cell? ⟨gb219, 2, none⟩ = some (.slice A0_2 l0_2.length c0_2) := (blk_cell BK219.out 2).trans rfl
   have hfz11_0 := blk_frozen BK219.out 0
   have hfz11_1 := blk_frozen BK219.out 1
   have hfz11_2 := blk_frozen BK219.out 2
   go_wp2_with (first | ((with_reducible refine gate_callee (f := 71) rfl ?_); refine goesL_ (some 23) rfl rfl Try.func71 (by kernel_rfl) rfl #[.agg #[.int .i64 a0_0, .bool a0_1, .slice A0_2 l0_2.length c0_2], .slice A1 l1.length c1, .int .i64 x7_1] rfl (by (try simp only [List.map_toArray, List.map_cons, List.map_nil]); first | done | rfl | (simp only [List.length_drop, List.length_take]; rfl)) ?_; (with_reducible refine (Go.Proofs.Ytkcpanpdipmmmaa.H.refFrom_calls k1 a0_0 a0_1 _ _ l0_2 _ _ l1 x7_1 t221 t224 true _ ?side1 ?side2 ?side3 ?side4 A9.out HASK.out).mono ?_); (case side1 => repeat (first | exact (Kd.C_below HR0_2.out HB.out) | (with_reducible refine Kd.C_alloc ?_ _) | (with_reducible refine Kd.C_drewN ?_ _) | (with_reducible refine Kd.C_drew ?_))); (case side2 => exact HC0_2.out); (case side3 => repeat (first | exact (Kd.C_below HR1.out HB.out) | (with_reducible refine Kd.C_alloc ?_ _) | (with_reducible refine Kd.C_drewN ?_ _) | (with_reducible refine Kd.C_drew ?_))); (case side4 => exact HC1.out); rintro e w12 ⟨v222, v225, rfl, ho0, ho1, hb⟩; obtain ⟨AA_, cc_, ee_⟩ := Kd.R_slice ho0; subst ee_; obtain ⟨AB_, cb_, eb_⟩ := Kd.R_slice ho1; subst eb_; refine ⟨_, rfl, ?_⟩; have n0_ := Aside0.mk (Kd.R_lower ho0 (below_size (by repeat (first | (with_reducible first | exact HB.out | apply below_alloc | apply pw_below_drewN | apply below_drew1 | refine below_set ?_ GE219.out) | exact HB.out)))); have n1_ := Aside0.mk (Kd.R_lower ho1 (below_size (by repeat (first | (with_reducible first | exact HB.out | apply below_alloc | apply pw_below_drewN | apply below_drew1 | refine below_set ?_ GE219.out) | exact HB.out)))); have n2_ := Aside0.mk (blk_below (g := gb219) (o := .cells #[.int .i64 a0_0, .bool a0_1, .slice A0_2 l0_2.length c0_2] 24 (0, 0)) (by (with_reducible repeat (first | refine blk_drewN ?_ _ | refine blk_drew ?_ | refine blk_alloc ?_ _)); exact BK219.out) hb); have n3_ := Aside0.mk (below_step (by repeat (first | (with_reducible first | exact HB.out | apply below_alloc | apply pw_below_drewN | apply below_drew1 | refine below_set ?_ GE219.out) | exact HB.out)) hb); clear BK219; clear HB; have HO223 := n0_; have HO226 := n1_; have BK219 := n2_; have HB := n3_; clear n0_ n1_ n2_ n3_; (try clear hb); (try clear hb2); (try clear hk); (try clear hi); (try clear ho0); (try clear ho1)))
   go_roundg k1
   case measure => have := HK1.out; omega
   case rel => exact ⟨(wrap64 (x7_1 + 1)), (by first | rfl | (simp; done) | (simp [*]; done)), H', ⟨by have := HK1.out; omega⟩, ⟨by (with_reducible repeat (first | refine blk_drewN ?_ _ | refine blk_drew ?_ | refine blk_alloc ?_ _)); exact BK219.out⟩, ⟨by repeat (first | (with_reducible first | exact HB.out | apply below_alloc | apply pw_below_drewN | apply below_drew1 | refine below_set ?_ GE219.out) | exact HB.out)⟩⟩
end Go.Proofs.Ytkcpanpdipmmmaa.P
namespace Go.Proofs.Ytkcpanpdipmmmaa.P
open Go.RowKit Go.Proofs.YtkcpanpdipmmmaaW.PrintWords Go.Proofs.YtkcpanpdipmmmaaW.PrintLast Go.Proofs.YtkcpanpdipmmmaaW.PrintMore
attribute [local go_sem] max2_int min2_int max_two min_two max_three min_three max_four min_four
def ebbtideref11_Far.f (k : Nat) (a0_0 : Int) (a0_1 : Bool) (l0_2 : List (S74)) (l1 : List Int) (a2 : Int) : Option (List Int × List Bool × Int) := (ebbtideref07_Asked.f k a0_0 a0_1 l0_2 l1).bind fun t168 => (if t168 = 0 then ((ebbtideref06_Node.f a0_0 a0_1 l0_2 a2).bind fun t169 => (if t169 = true then ((ebbtideref11_From.f k a0_0 a0_1 l0_2 l1 a2).bind fun bt170 => (if bt170.2.2 = true then (some (bt170.1, bt170.2.1, 0)) else (some (([] : List Int), ([] : List Bool), 110)))) else (some (([] : List Int), ([] : List Bool), 1)))) else (some (([] : List Int), ([] : List Bool), t168)))
theorem ebbtideref11_Far.mono : ∀ a0 a1 a2 a3 a4 k, LeO (ebbtideref11_Far.f k a0 a1 a2 a3 a4) (ebbtideref11_Far.f (k + 1) a0 a1 a2 a3 a4) := by
 intro a0 a1 a2 a3 a4 k
 unfold ebbtideref11_Far.f
 repeat' first
   | (with_reducible exact ebbtideref07_Asked.mono _ _ _ _ _)
   | (with_reducible exact ebbtideref11_From.mono _ _ _ _ _ _)
   | (with_reducible exact LeO.refl _)
   | (with_reducible exact LeO.none _)
   | (with_reducible refine LeO.ite ?_ ?_)
   | (with_reducible refine LeO.bind ?_ (fun _ => ?_))
   | exact ebbtideref07_Asked.mono _ _ _ _ _
   | exact ebbtideref11_From.mono _ _ _ _ _ _
   | exact LeO.none _
   | refine LeO.ite ?_ ?_
   | refine LeO.bind ?_ (fun _ => ?_)
end Go.Proofs.Ytkcpanpdipmmmaa.P
namespace Go.Proofs.Ytkcpanpdipmmmaa.P
open Go.RowKit Go.Proofs.YtkcpanpdipmmmaaW.PrintWords Go.Proofs.YtkcpanpdipmmmaaW.PrintLast Go.Proofs.YtkcpanpdipmmmaaW.PrintMore
attribute [local go_sem] max2_int min2_int max_two min_two max_three min_three max_four min_four
def level_Seeker_Steps.f (a0_0 : Int) (a0_1 : Bool) (l0_2 : List (S74)) (l0_3 : List Int) (l0_4 : List (List (S38))) (a1 : Int) : Option ((List (S38))) := if 0 ≤ a1 then (if a1 < (l0_4.length : Int) then (some (rd_L4 l0_4 a1)) else (none)) else (none)
set_option maxHeartbeats 8000000 in
set_option maxRecDepth 100000 in
theorem level_Seeker_Steps.calls (a0_0 : Int) (a0_1 : Bool) (A0_2 : Option Addr) (c0_2 : Nat) (l0_2 : List (S74)) (A0_3 : Option Addr) (c0_3 : Nat) (l0_3 : List Int) (P0_4_ : Nat → Prop) (A0_4 : Option Addr) (c0_4 : Nat) (l0_4 : List (List (S38))) (a1 : Int) (r : List (S38)) (w : World) (hr0_2 : Kd.C k74 w A0_2 l0_2.length l0_2) (hc0_2 : l0_2.length ≤ c0_2) (hr0_3 : Kd.C (Kd.int .i64) w A0_3 l0_3.length l0_3) (hc0_3 : l0_3.length ≤ c0_3) (hs0_4 : Kd.V (Kd.slice 38 k38) 34 w w.heap.size (fun k_ => P0_4_ k_) (.slice A0_4 l0_4.length c0_4) l0_4) (h : level_Seeker_Steps.f a0_0 a0_1 l0_2 l0_3 l0_4 a1 = some r) :
  Calls Try.prog 140 #[.agg #[.int .i64 a0_0, .bool a0_1, .slice A0_2 l0_2.length c0_2, .slice A0_3 l0_3.length c0_3, .slice A0_4 l0_4.length c0_4], .int .i64 a1] w fun e w' => ∃ v0_ : Value, e = .returned (v0_) ∧ Kd.V k38 38 w' w.heap.size (fun k_ => (P0_4_ k_ ∨ w.heap.size ≤ k_)) v0_ r ∧ Below w.heap.size w w' := by
 have hu118 := Try.underlying118
 have HR0_2 := Aside0.mk hr0_2
 have HC0_2 := Aside0.mk hc0_2
 clear hr0_2 hc0_2
 have HR0_3 := Aside0.mk hr0_3
 have HC0_3 := Aside0.mk hc0_3
 clear hr0_3 hc0_3
 have HO0_4 := Aside0.mk (show Kd.V (Kd.slice 38 k38) 34 w w.heap.size (fun k_ => (P0_4_ k_ ∨ w.heap.size ≤ k_)) (.slice A0_4 l0_4.length c0_4) l0_4 from Kd.V_mono hs0_4 (fun k_ hk => .inl hk))
 have HB := Aside0.mk (Below.refl w.heap.size w)
 have H : (if 0 ≤ a1 then (if a1 < (l0_4.length : Int) then (some (rd_L4 l0_4 a1)) else (none)) else (none)) = some r := h
 clear h
 by_cases c3 : 0 ≤ a1
 rotate_left
 ·rw [if_neg c3] at H
  exact absurd H (by simp)
 rw [if_pos c3] at H
 have c3b0 : decide (0 ≤ a1) = true := decide_eq_true c3
 clear c3
 by_cases c4 : a1 < (l0_4.length : Int)
 rotate_left
 ·rw [if_neg c4] at H
  exact absurd H (by simp)
 rw [if_pos c4] at H
 have c4b0 : decide (a1 < (l0_4.length : Int)) = true := decide_eq_true c4
 clear c4
 obtain rfl := Option.some.inj H
 go_enter Try.func140, Try.ntmps140
 go_wp2_with (first | ((with_reducible refine gate_dst (N := 2) rfl ?_); refine box_event ?hg (N := 2) ?hd (cs := #[.int .i64 a0_0, .bool a0_1, .slice A0_2 l0_2.length c0_2, .slice A0_3 l0_3.length c0_3, .slice A0_4 l0_4.length c0_4]) (t := 118) ?hr ?_; (case hd => rfl); (case hg => rfl); (case hr => first | (go_simp; done) | (go_simp; rfl)); intro gb188 hg w5 hbox hb; have n0_ := Aside0.mk (Kd.V_below (Kd.V_elderB (by (with_reducible repeat (first | apply Kd.V_alloc | apply Kd.V_drewN | apply Kd.V_drew)); exact HO0_4.out) gb188 (Nat.le_of_eq hg.symm)) hb); have n1_ := Aside0.mk (below_step (by repeat (first | (with_reducible first | exact HB.out | apply below_alloc | apply pw_below_drewN | apply below_drew1) | exact HB.out)) hb); have n2_ := Aside0.mk (hbox); have n3_ := Aside0.mk ((by rw [hg]; exact (below_size (by repeat (first | (with_reducible first | exact HB.out | apply below_alloc | apply pw_below_drewN | apply below_drew1) | exact HB.out))) : w.heap.size ≤ gb188)); have n4_ := Aside0.mk ((by rw [hg]; exact (below_size (by repeat (first | (with_reducible first | exact HB.out | apply below_alloc | apply pw_below_drewN | apply below_drew1) | exact HB.out))) : w.heap.size ≤ gb188)); clear HO0_4; clear HB; have HO0_4 := n0_; have HB := n1_; have BK188 := n2_; have GW188 := n3_; have GE188 := n4_; clear n0_ n1_ n2_ n3_ n4_; clear hb hbox hg; have hcz6_0 : w5.cell? ⟨gb188, 0, none⟩ = some (.int .i64 a0_0) := (blk_cell BK188.out 0).trans rfl; have hcz6_1 : w5.cell? ⟨gb188, 1, none⟩ = some (.bool a0_1) := (blk_cell BK188.out 1).trans rfl; have hcz6_2 : w5.cell? ⟨gb188, 2, none⟩ = some (.slice A0_2 l0_2.length c0_2) := (blk_cell BK188.out 2).trans rfl; have hcz6_3 : w5.cell? ⟨gb188, 3, none⟩ = some (.slice A0_3 l0_3.length c0_3) := (blk_cell BK188.out 3).trans rfl; have hcz6_4 : w5.cell? ⟨gb188, 4, none⟩ = some (.slice A0_4 l0_4.length c0_4) := (blk_cell BK188.out 4).trans rfl; have hfz6_0 := blk_frozen BK188.out 0; have hfz6_1 := blk_frozen BK188.out 1; have hfz6_2 := blk_frozen BK188.out 2; have hfz6_3 := blk_frozen BK188.out 3; have hfz6_4 := blk_frozen BK188.out 4; have p189 : 0 ≤ (a1 : Int) := of_decide_eq_true (by first | (with_reducible assumption) | assumption); have q189 : a1 < (l0_4.length : Int) := of_decide_eq_true (by first | (with_reducible assumption) | assumption); obtain ⟨ad189, A189_0, c189_0, e189, hx189_0, hl189_0, hi189_0⟩ := at_L4 (Kd.V_reads' HO0_4.out).2.2 a1 p189 q189; cases e189; obtain ⟨ce189, hce189, hMe189, hcc189⟩ := Kd.V_get HO0_4.out [] a1 p189 (by first | exact q189 | exact of_decide_eq_true (by first | (with_reducible assumption) | assumption) | (have e_ := (Kd.V_reads' HO0_4.out).1; omega)); obtain ⟨ua189_0, uc189_0, rfl, ul189_0, ge189_0⟩ := Kd.FK_slice_open hMe189; have hv189_0 := hcc189 0 _ rfl; rw [Nat.add_zero, show ((Kd.slice 38 k38)).sz = 1 from rfl, Nat.mul_one] at hv189_0; replace hv189_0 := Option.some.inj (hv189_0.symm.trans hx189_0); injection hv189_0 with hva_ hvn_ hvc_; rw [hva_] at ge189_0; rw [hvc_] at ul189_0; have HL189_0 := Aside0.mk (show Kd.V k38 38 _ w.heap.size _ _ (rd_L4 l0_4 a1) from Kd.V_mk ul189_0 ge189_0); clear hva_ hvn_ hvc_ ge189_0 ul189_0; clear hcc189 hce189; have HR189_0 := Aside0.mk hi189_0; have HC189_0 := Aside0.mk hl189_0; clear hi189_0 hl189_0; replace p189 := eq_true p189; replace q189 := eq_true q189))
 go_ret
 exact ⟨_, by first | rfl | (simp [errW_none, errW_some] <;> rfl) | (simp [*, errW_none, errW_some] <;> rfl), by (with_reducible repeat (first | apply Kd.V_alloc | apply Kd.V_drewN | apply Kd.V_drew)); exact Kd.V_mono HL189_0.out (fun _ hk => hk.1), by repeat (first | (with_reducible first | exact HB.out | apply below_alloc | apply pw_below_drewN | apply below_drew1 | refine below_set ?_ GE188.out) | exact HB.out)⟩
end Go.Proofs.Ytkcpanpdipmmmaa.P
