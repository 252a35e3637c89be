/- Joined by wip/tool/bundle.py out of: QSymMid QSortAll QArrRow QSetBase QSetFm QSetWalk QSortNil QSortRow QAt. -/
import Derived.Test.YtkcpanpdipmmmaaGehiojn
import Derived.Test.YtkcpanpdipmmmaaGbibknp
import Derived.RegionTactic
import Derived.ChangeAlike
import Derived.BigRegion
import Derived.LoopTactic
import Derived.WalkKit
import Derived.WalkMore
/- symMerge of Go's stable sort: both runs. -/
set_option linter.unusedVariables false
set_option linter.unusedSimpArgs false
namespace Go.Proofs.Ytkcpanpdipmmmaa.H
open Go.RowKit Go.Proofs.YtkcpanpdipmmmaaW.PrintWords Go.Proofs.YtkcpanpdipmmmaaW.PrintLast Go.Proofs.YtkcpanpdipmmmaaW.PrintMore Go.Proofs.Ytkcpanpdipmmmaa.P
attribute [local irreducible] wpQuiet
def Cross (K : Nat → S38) (a mid b : Nat) : Prop := ∀ x y, a ≤ x → x < mid → mid ≤ y → y < b → (K x).f0 ≤ (K y).f0
def F1 (M K : Nat → S38) (N a s mid e b : Nat) : Prop := Mix M K a b ∧ Stab K N ∧ Small K N ∧ Le K a s ∧ Le K s mid ∧ Le K mid e ∧ Le K e b ∧ Cross K a mid b
def F2 (M K : Nat → S38) (N a mid e b : Nat) : Prop := Mix M K a b ∧ Stab K N ∧ Small K N ∧ Le K a mid ∧ Le K mid e ∧ Le K e b ∧ Cross K a mid b
theorem f1_rot {M : Nat → S38} {N a m b mid s e : Nat} (h1 : Le M a m) (h2 : Le M m b) (has : a ≤ s) (hsm : s ≤ m) (hme : m ≤ e) (heb : e ≤ b) (hsum : s + e = mid + m) (hsmid : s ≤ mid) (hmide : mid ≤ e)
    (hge : a < s → e < b → (M (s - 1)).f0 ≤ (M e).f0) (hlt : s < m → m < e → (M (e - 1)).f0 < (M s).f0) (hst : Stab M N) (hsmall : Small M N) (hb : b ≤ N) : F1 M (rotM M s m e) N a s mid e b := by
  obtain ⟨p1, p2, p3, p4, p5, p6⟩ := sym_rot h1 h2 has hsm hme heb hsum hsmid hmide hge hlt hst hb
  have hx := mix_wide (rot_mix M hsm hme) has heb
  exact ⟨hx, p1, mix_small hx hb hsmall, p2, p3, p4, p5, p6⟩
theorem f2_rec {M K L : Nat → S38} {N a s mid e b : Nat} (h : F1 M K N a s mid e b) (hl : Sorted K L N a mid) (hm : mid ≤ e) (he : e ≤ b) : F2 M L N a mid e b := by
  obtain ⟨h1, h2, h3, h4, h5, h6, h7, h8⟩ := h
  obtain ⟨l1, l2, l3, l4⟩ := hl
  exact ⟨mix_trans h1 (mix_wide l1 (Nat.le_refl _) (by omega)), l2, l3, l4, mix_le l1 (Or.inr (Nat.le_refl _)) h6, mix_le l1 (Or.inr hm) h7, mix_cross h8 (Or.inl l1)⟩
theorem f2_no {M K : Nat → S38} {N a s mid e b : Nat} (h : F1 M K N a s mid e b) (hs : s = a ∨ s = mid) : F2 M K N a mid e b := by
  obtain ⟨h1, h2, h3, h4, h5, h6, h7, h8⟩ := h
  refine ⟨h1, h2, h3, ?_, h6, h7, h8⟩
  rcases hs with hs | hs
  · subst hs; exact h5
  · subst hs; exact h4
theorem f3_rec {M K L : Nat → S38} {N a mid e b : Nat} (h : F2 M K N a mid e b) (hl : Sorted K L N mid b) (ha : a ≤ mid) : Sorted M L N a b := by
  obtain ⟨h1, h2, h3, h4, h6, h7, h8⟩ := h
  obtain ⟨l1, l2, l3, l4⟩ := hl
  exact ⟨mix_trans h1 (mix_wide l1 ha (Nat.le_refl _)), l2, l3, le_join (mix_le l1 (Or.inl (Nat.le_refl _)) h4) l4 (mix_cross h8 (Or.inr l1))⟩
theorem f3_no {M K : Nat → S38} {N a mid e b : Nat} (h : F2 M K N a mid e b) (hs : e = mid ∨ e = b) : Sorted M K N a b := by
  obtain ⟨h1, h2, h3, h4, h6, h7, h8⟩ := h
  refine ⟨h1, h2, h3, le_join h4 ?_ h8⟩
  rcases hs with hs | hs
  · subst hs; exact h7
  · subst hs; exact h6
/-- What the search for the exchange has to know. -/
structure Mid (a m b mid s0 r0 p : Nat) : Prop where
  lo : 2 * mid ≤ a + b
  hi : a + b < 2 * mid + 2
  am : a + 2 ≤ m
  mb : m + 2 ≤ b
  s0a : a ≤ s0
  r0m : r0 ≤ m
  r0mid : r0 ≤ mid
  s0b : mid + m ≤ s0 + b
  sr : s0 ≤ r0
  p : p + 1 = mid + m
  s0e : s0 = a ∨ s0 + b = mid + m
  r0e : r0 = mid ∨ r0 = m
theorem mid_f1 {M : Nat → S38} {N a m b mid s0 r0 p s e : Nat} (H : Mid a m b mid s0 r0 p) (h0 : s0 ≤ s) (h1 : s ≤ r0) (hse : s + e = mid + m) (hL : ∀ c, s0 ≤ c → c < s → (M c).f0 ≤ (M (p - c)).f0) (hR : ∀ c, s ≤ c → c < r0 → (M (p - c)).f0 < (M c).f0)
    (l1 : Le M a m) (l2 : Le M m b) (hst : Stab M N) (hsm : Small M N) (hb : b ≤ N) : F1 M (rotM M s m e) N a s mid e b := by
  obtain ⟨q1, q2, q3, q4, q5, q6, q7, q8, q9, q10, q11, q12⟩ := H
  refine f1_rot l1 l2 (by omega) (by omega) (by omega) (by omega) hse (by omega) (by omega) (fun k1 k2 => ?_) (fun k1 k2 => ?_) hst hsm hb
  · have := hL (s - 1) (by omega) (by omega)
    rwa [show p - (s - 1) = e by omega] at this
  · have := hR s (Nat.le_refl _) (by omega)
    rwa [show p - s = e - 1 by omega] at this
theorem mid_left {M : Nat → S38} {a m b mid s0 r0 p c : Nat} (H : Mid a m b mid s0 r0 p) (h0 : s0 ≤ c) (h1 : c < r0) (l1 : Le M a m) (l2 : Le M m b) (h : (M c).f0 ≤ (M (p - c)).f0) : ∀ x, s0 ≤ x → x < c + 1 → (M x).f0 ≤ (M (p - x)).f0 := by
  obtain ⟨q1, q2, q3, q4, q5, q6, q7, q8, q9, q10, q11, q12⟩ := H
  intro x k1 k2
  have k3 : (M x).f0 ≤ (M c).f0 := le_le l1 (by omega) (by omega) (by omega)
  have k4 : (M (p - c)).f0 ≤ (M (p - x)).f0 := le_le l2 (by omega) (by omega) (by omega)
  omega
theorem mid_right {M : Nat → S38} {a m b mid s0 r0 p c : Nat} (H : Mid a m b mid s0 r0 p) (h0 : s0 ≤ c) (h1 : c < r0) (l1 : Le M a m) (l2 : Le M m b) (h : (M (p - c)).f0 < (M c).f0) : ∀ x, c ≤ x → x < r0 → (M (p - x)).f0 < (M x).f0 := by
  obtain ⟨q1, q2, q3, q4, q5, q6, q7, q8, q9, q10, q11, q12⟩ := H
  intro x k1 k2
  have k3 : (M c).f0 ≤ (M x).f0 := le_le l1 (by omega) (by omega) (by omega)
  have k4 : (M (p - x)).f0 ≤ (M (p - c)).f0 := le_le l2 (by omega) (by omega) (by omega)
  omega
theorem mid_two {a m b mid p : Nat} (h1 : (a + b) / 2 = mid) (h2 : a + 2 ≤ m) (h3 : m + 2 ≤ b) (h4 : p + 1 = mid + m) :
    ∃ s0 r0 : Nat, Aside0 (Mid a m b mid s0 r0 p) ∧ ((mid < m ∧ s0 + b = mid + m ∧ r0 = mid) ∨ (¬ mid < m ∧ s0 = a ∧ r0 = m)) := by
  by_cases h : mid < m
  · exact ⟨mid + m - b, mid, ⟨by omega, by omega, h2, h3, by omega, by omega, by omega, by omega, by omega, h4, Or.inr (by omega), Or.inl rfl⟩, Or.inl ⟨h, by omega, rfl⟩⟩
  · exact ⟨a, m, ⟨by omega, by omega, h2, h3, by omega, by omega, by omega, by omega, by omega, h4, Or.inl rfl, Or.inr rfl⟩, Or.inr ⟨h, rfl, rfl⟩⟩
def SymOk (g N cap : Nat) (d : Nat) : Prop := ∀ (M : Nat → S38) (a m b : Nat) (w : World), b ≤ a + d → Arr w g N M → a < m → m < b → b ≤ N → Stab M N → Small M N → Le M a m → Le M m b →
    Calls Try.prog 170 #[.slice (some ⟨g, 0, none⟩) N cap, .int .i64 (a : Int), .int .i64 (m : Int), .int .i64 (b : Int), .func (.func 144) #[] #[]] w fun e w' => e = .returned (.tuple #[]) ∧ (∃ K, Arr w' g N K ∧ Sorted M K N a b) ∧ Fr w w' g
set_option maxHeartbeats 4000000 in
set_option maxRecDepth 100000 in
theorem symMid_calls (g N cap d : Nat) (ih : SymOk g N cap d) (M : Nat → S38) (a m b : Nat) (w : World) (hd : b ≤ a + d + 1) (h : Arr w g N M) (hN : N ≤ 1000000) (ham : a + 2 ≤ m) (hmb : m + 2 ≤ b) (hb : b ≤ N) (hs : Stab M N) (hsm : Small M N) (hl1 : Le M a m) (hl2 : Le M m b) :
    Calls Try.prog 170 #[.slice (some ⟨g, 0, none⟩) N cap, .int .i64 (a : Int), .int .i64 (m : Int), .int .i64 (b : Int), .func (.func 144) #[] #[]] w fun e w' => e = .returned (.tuple #[]) ∧ (∃ K, Arr w' g N K ∧ Sorted M K N a b) ∧ Fr w w' g := by
  obtain ⟨mid, hmid⟩ : ∃ mid, (a + b) / 2 = mid := ⟨_, rfl⟩
  obtain ⟨p, hp⟩ : ∃ p, p + 1 = mid + m := ⟨mid + m - 1, by omega⟩
  obtain ⟨s0, r0, HM, hor⟩ := mid_two hmid ham hmb hp
  have HA := Aside0.mk h
  have HSM := Aside0.mk hsm
  have HST := Aside0.mk hs
  have HL1 := Aside0.mk hl1
  have HL2 := Aside0.mk hl2
  have IH := Aside0.mk ih
  clear h hs hsm hl1 hl2 ih
  have hmz : ((a : Int) + (b : Int)) / 2 = (mid : Int) := by omega
  have hpz : (mid : Int) + (m : Int) - 1 = (p : Int) := by omega
  have e1 : (((b : Int) - (m : Int)) == 1) = false := by rw [beq_eq_false_iff_ne]; omega
  have e2 : (((m : Int) - (a : Int)) == 1) = false := by rw [beq_eq_false_iff_ne]; omega
  have bp : p < 2000000 := by omega
  have bmid : mid ≤ 1000000 := by omega
  clear hmid
  go_enter Try.func170, Try.ntmps170
  rcases hor with ⟨hc, hs0, hr0⟩ | ⟨hc, hs0, hr0⟩
  · have hcb : decide ((mid : Int) < (m : Int)) = true := decide_eq_true (by omega)
    have hsz : (mid : Int) + (m : Int) - (b : Int) = (s0 : Int) := by omega
    go_wp2_with fail
    go_loopw [20, 21] (fun vs vr wr => ∃ s r : Nat, s0 ≤ s ∧ s ≤ r ∧ r ≤ r0 ∧ vs = .int .i64 s ∧ vr = .int .i64 r ∧ Aside0 (Arr wr g N M) ∧ Aside0 (∀ c, s0 ≤ c → c < s → (M c).f0 ≤ (M (p - c)).f0) ∧ Aside0 (∀ c, r ≤ c → c < r0 → (M (p - c)).f0 < (M c).f0) ∧ Aside0 (Fr w wr g)) (fun vs vr _ => (intOf vr).toNat - (intOf vs).toNat)
    case atStart => exact ⟨s0, r0, Nat.le_refl _, HM.out.sr, Nat.le_refl _, by first | rfl | rw [hs0], by rw [hr0], HA, ⟨fun y h1 h2 => by omega⟩, ⟨fun y h1 h2 => by omega⟩, ⟨grow_refl _ _⟩⟩
    case round =>
      clear HA
      obtain ⟨s, r, hsr0, hsr, hrr, rfl, rfl, HA1, HL, HR, HG⟩ := hrel
      by_cases hlt : s < r
      · obtain ⟨c, hcq⟩ : ∃ c, (s + r) / 2 = c := ⟨_, rfl⟩
        have hcz : ((s : Int) + (r : Int)) / 2 = (c : Int) := by omega
        have HB : Aside0 (s ≤ c ∧ c < r ∧ s0 ≤ c ∧ c < r0 ∧ c < N ∧ p - c < N ∧ c ≤ p) := by
          obtain ⟨q1, q2, q3, q4, q5, q6, q7, q8, q9, q10, q11, q12⟩ := HM.out
          exact ⟨by omega, by omega, by omega, by omega, by omega, by omega, by omega⟩
        have bc : c < N := HB.out.2.2.2.2.1
        obtain ⟨q, hq⟩ : ∃ q, p - c = q := ⟨_, rfl⟩
        have hqz : (p : Int) - (c : Int) = (q : Int) := by have := HB.out; omega
        have hwp : IntKind.i64.wrap (q : Int) = (q : Int) := by have := HB.out; rw [IntKind.wrap_i64]; omega
        have b1 := HSM.out c HB.out.2.2.2.2.1
        have b2 := HSM.out q (by have := HB.out; omega)
        have c0 := HA1.out.q0 (x := c) HB.out.2.2.2.2.1
        have c1 := HA1.out.q1 (x := c) HB.out.2.2.2.2.1
        have d0 := HA1.out.q0 (x := q) (by have := HB.out; omega)
        have d1 := HA1.out.q1 (x := q) (by have := HB.out; omega)
        have z1 : (c : Int) < (N : Int) := by have := HB.out; omega
        have z2 : (q : Int) < (N : Int) := by have := HB.out; omega
        have HQ := Aside0.mk hq
        clear hcq hq
        go_wp2_with fail
        refine wp_region_quiet_below (by kernel_rfl) (by kernel_rfl) ?_; (repeat (quiet_step ((go_at_call 144; exact calls_below_of (cmp_calls (M q) (M c) b2.1 b2.2 b1.1 b1.2 _))))); refine wpQuiet_nil ?_; intro wq hw'; obtain ⟨⟨wz, hbq⟩, hwq⟩ := hw'; subst hwq
        have HA2 : Aside0 (Arr wq g N M) := ⟨HA1.out.below hbq⟩
        have HG2 : Aside0 (Fr w wq g) := ⟨grow_trans HG.out (grow_below hbq)⟩
        clear c0 c1 d0 d1 HA1 HG hbq hcz z1 z2 hqz
        by_cases hlc : (M q).f0 < (M c).f0
        · have hcd : (!decide ((M q).f0 - (M c).f0 < 0)) = false := by rw [decide_eq_true (by omega)]; rfl
          have HR2 : Aside0 (∀ y, c ≤ y → y < r0 → (M (p - y)).f0 < (M y).f0) := ⟨mid_right HM.out HB.out.2.2.1 HB.out.2.2.2.1 HL1.out HL2.out (by rw [HQ.out]; exact hlc)⟩
          clear HR hlc b1 b2
          rw [hcd]
          clear hcd
          go_wp2_with fail
          go_roundw
          case rel => exact ⟨s, c, hsr0, HB.out.1, by have := HB.out; omega, rfl, rfl, HA2, HL, HR2, HG2⟩
          case measure => have := HB.out; simp [intOf] <;> omega
        · have hcd : (!decide ((M q).f0 - (M c).f0 < 0)) = true := by rw [decide_eq_false (by omega)]; rfl
          have HL2' : Aside0 (∀ y, s0 ≤ y → y < c + 1 → (M y).f0 ≤ (M (p - y)).f0) := ⟨mid_left HM.out HB.out.2.2.1 HB.out.2.2.2.1 HL1.out HL2.out (by rw [HQ.out]; omega)⟩
          clear HL hlc b1 b2
          rw [hcd]
          clear hcd
          go_wp2_with fail
          go_roundw
          case rel => exact ⟨c + 1, r, by have := HB.out; omega, by have := HB.out; omega, hrr, by go_num, rfl, HA2, HL2', HR, HG2⟩
          case measure => have := HB.out; simp [intOf] <;> omega
      · have er : s = r := by omega
        subst er
        obtain ⟨e, he⟩ : ∃ e, s + e = mid + m := ⟨mid + m - s, by have := HM.out.r0m; omega⟩
        have hez : (mid : Int) + (m : Int) - (s : Int) = (e : Int) := by omega
        have HF : Aside0 (F1 M (rotM M s m e) N a s mid e b) := ⟨mid_f1 HM.out hsr0 hrr he HL.out HR.out HL1.out HL2.out HST.out HSM.out hb⟩
        have b1 : a ≤ s := by have := HM.out.s0a; omega
        have b2 : s ≤ mid := by have := HM.out.r0mid; omega
        have b3 : s ≤ m := by have := HM.out.r0m; omega
        have b4 : m ≤ e := by omega
        have b5 : mid ≤ e := by omega
        have b6 : e ≤ b := by have := HM.out.s0b; omega
        have b7 : a + 2 ≤ mid + 1 := by have := HM.out.hi; omega
        have b8 : mid + 2 ≤ b := by have := HM.out.lo; omega
        clear HL HR HL1 HL2 HST HSM hlt he hsr hsr0 hrr
        by_cases c1 : s < m
        · have hb1 : decide ((s : Int) < (m : Int)) = true := decide_eq_true (by omega)
          by_cases c2 : m < e
          · have hb2 : decide ((m : Int) < (e : Int)) = true := decide_eq_true (by omega)
            go_wp2_with fail
            refine (rotate_calls g N cap M s m e _ _ HA1.out hN c1 c2 (by omega)).mono ?_
            rintro e3 w3 ⟨rfl, ha3, hg3⟩
            have HA3 := Aside0.mk ha3
            have HG3 : Aside0 (Fr w w3 g) := ⟨grow_trans HG.out hg3⟩
            clear ha3 hg3 HA1 HG
            obtain ⟨K, hK⟩ : ∃ K, K = rotM M s m e := ⟨_, rfl⟩
            rw [← hK] at HA3 HF
            clear hK
            by_cases c3 : a < s
            · have hb3 : decide ((a : Int) < (s : Int)) = true := decide_eq_true (by omega)
              by_cases c4 : s < mid
              · have hb4 : decide ((s : Int) < (mid : Int)) = true := decide_eq_true (by omega)
                go_wp2_with fail
                refine (IH.out K a s mid _ (by omega) HA3.out c3 c4 (by omega) HF.out.2.1 HF.out.2.2.1 HF.out.2.2.2.1 HF.out.2.2.2.2.1).mono ?_
                rintro e4 w4 ⟨rfl, ⟨K2, ha4, hk4⟩, hg4⟩
                have HA4 := Aside0.mk ha4
                have HF2 : Aside0 (F2 M K2 N a mid e b) := ⟨f2_rec HF.out hk4 b5 b6⟩
                have HG4 : Aside0 (Fr w w4 g) := ⟨grow_trans HG3.out hg4⟩
                clear ha4 hk4 hg4 HA3 HF HG3
                by_cases c5 : mid < e
                · have hb5 : decide ((mid : Int) < (e : Int)) = true := decide_eq_true (by omega)
                  by_cases c6 : e < b
                  · have hb6 : decide ((e : Int) < (b : Int)) = true := decide_eq_true (by omega)
                    go_wp2_with fail
                    refine (IH.out K2 mid e b _ (by omega) HA4.out c5 c6 hb HF2.out.2.1 HF2.out.2.2.1 HF2.out.2.2.2.2.1 HF2.out.2.2.2.2.2.1).mono ?_
                    rintro e5 w5 ⟨rfl, ⟨K3, ha5, hk5⟩, hg5⟩
                    have HA5 := Aside0.mk ha5
                    have HS5 : Aside0 (Sorted M K3 N a b) := ⟨f3_rec HF2.out hk5 (by omega)⟩
                    have HG5 : Aside0 (Fr w w5 g) := ⟨grow_trans HG4.out hg5⟩
                    clear ha5 hk5 hg5 HA4 HF2 HG4
                    go_wp2_with fail
                    go_end0
                    exact ⟨rfl, ⟨K3, HA5.out, HS5.out⟩, HG5.out⟩
                  · have hb6 : decide ((e : Int) < (b : Int)) = false := decide_eq_false (by omega)
                    have HS5 : Aside0 (Sorted M K2 N a b) := ⟨f3_no HF2.out (Or.inr (by omega))⟩
                    clear HF2
                    go_wp2_with fail
                    go_end0
                    exact ⟨rfl, ⟨K2, HA4.out, HS5.out⟩, HG4.out⟩
                · have hb5 : decide ((mid : Int) < (e : Int)) = false := decide_eq_false (by omega)
                  have HS5 : Aside0 (Sorted M K2 N a b) := ⟨f3_no HF2.out (Or.inl (by omega))⟩
                  clear HF2
                  go_wp2_with fail
                  go_end0
                  exact ⟨rfl, ⟨K2, HA4.out, HS5.out⟩, HG4.out⟩
              · have hb4 : decide ((s : Int) < (mid : Int)) = false := decide_eq_false (by omega)
                have HF2 : Aside0 (F2 M K N a mid e b) := ⟨f2_no HF.out (Or.inr (by omega))⟩
                have HA4 := HA3
                have HG4 := HG3
                obtain ⟨K2, rfl⟩ : ∃ K2, K2 = K := ⟨K, rfl⟩
                clear HF HA3 HG3
                by_cases c5 : mid < e
                · have hb5 : decide ((mid : Int) < (e : Int)) = true := decide_eq_true (by omega)
                  by_cases c6 : e < b
                  · have hb6 : decide ((e : Int) < (b : Int)) = true := decide_eq_true (by omega)
                    go_wp2_with fail
                    refine (IH.out K2 mid e b _ (by omega) HA4.out c5 c6 hb HF2.out.2.1 HF2.out.2.2.1 HF2.out.2.2.2.2.1 HF2.out.2.2.2.2.2.1).mono ?_
                    rintro e5 w5 ⟨rfl, ⟨K3, ha5, hk5⟩, hg5⟩
                    have HA5 := Aside0.mk ha5
                    have HS5 : Aside0 (Sorted M K3 N a b) := ⟨f3_rec HF2.out hk5 (by omega)⟩
                    have HG5 : Aside0 (Fr w w5 g) := ⟨grow_trans HG4.out hg5⟩
                    clear ha5 hk5 hg5 HA4 HF2 HG4
                    go_wp2_with fail
                    go_end0
                    exact ⟨rfl, ⟨K3, HA5.out, HS5.out⟩, HG5.out⟩
                  · have hb6 : decide ((e : Int) < (b : Int)) = false := decide_eq_false (by omega)
                    have HS5 : Aside0 (Sorted M K2 N a b) := ⟨f3_no HF2.out (Or.inr (by omega))⟩
                    clear HF2
                    go_wp2_with fail
                    go_end0
                    exact ⟨rfl, ⟨K2, HA4.out, HS5.out⟩, HG4.out⟩
                · have hb5 : decide ((mid : Int) < (e : Int)) = false := decide_eq_false (by omega)
                  have HS5 : Aside0 (Sorted M K2 N a b) := ⟨f3_no HF2.out (Or.inl (by omega))⟩
                  clear HF2
                  go_wp2_with fail
                  go_end0
                  exact ⟨rfl, ⟨K2, HA4.out, HS5.out⟩, HG4.out⟩
            · have hb3 : decide ((a : Int) < (s : Int)) = false := decide_eq_false (by omega)
              have HF2 : Aside0 (F2 M K N a mid e b) := ⟨f2_no HF.out (Or.inl (by omega))⟩
              have HA4 := HA3
              have HG4 := HG3
              obtain ⟨K2, rfl⟩ : ∃ K2, K2 = K := ⟨K, rfl⟩
              clear HF HA3 HG3
              by_cases c5 : mid < e
              · have hb5 : decide ((mid : Int) < (e : Int)) = true := decide_eq_true (by omega)
                by_cases c6 : e < b
                · have hb6 : decide ((e : Int) < (b : Int)) = true := decide_eq_true (by omega)
                  go_wp2_with fail
                  refine (IH.out K2 mid e b _ (by omega) HA4.out c5 c6 hb HF2.out.2.1 HF2.out.2.2.1 HF2.out.2.2.2.2.1 HF2.out.2.2.2.2.2.1).mono ?_
                  rintro e5 w5 ⟨rfl, ⟨K3, ha5, hk5⟩, hg5⟩
                  have HA5 := Aside0.mk ha5
                  have HS5 : Aside0 (Sorted M K3 N a b) := ⟨f3_rec HF2.out hk5 (by omega)⟩
                  have HG5 : Aside0 (Fr w w5 g) := ⟨grow_trans HG4.out hg5⟩
                  clear ha5 hk5 hg5 HA4 HF2 HG4
                  go_wp2_with fail
                  go_end0
                  exact ⟨rfl, ⟨K3, HA5.out, HS5.out⟩, HG5.out⟩
                · have hb6 : decide ((e : Int) < (b : Int)) = false := decide_eq_false (by omega)
                  have HS5 : Aside0 (Sorted M K2 N a b) := ⟨f3_no HF2.out (Or.inr (by omega))⟩
                  clear HF2
                  go_wp2_with fail
                  go_end0
                  exact ⟨rfl, ⟨K2, HA4.out, HS5.out⟩, HG4.out⟩
              · have hb5 : decide ((mid : Int) < (e : Int)) = false := decide_eq_false (by omega)
                have HS5 : Aside0 (Sorted M K2 N a b) := ⟨f3_no HF2.out (Or.inl (by omega))⟩
                clear HF2
                go_wp2_with fail
                go_end0
                exact ⟨rfl, ⟨K2, HA4.out, HS5.out⟩, HG4.out⟩
          · have hb2 : decide ((m : Int) < (e : Int)) = false := decide_eq_false (by omega)
            have HA3 : Aside0 (Arr wr g N (rotM M s m e)) := ⟨HA1.out.congr fun x _ => rot_none M (by omega) (by omega) (Or.inr (by omega)) x⟩
            have HG3 := HG
            clear HA1 HG
            obtain ⟨K, hK⟩ : ∃ K, K = rotM M s m e := ⟨_, rfl⟩
            rw [← hK] at HA3 HF
            clear hK
            by_cases c3 : a < s
            · have hb3 : decide ((a : Int) < (s : Int)) = true := decide_eq_true (by omega)
              by_cases c4 : s < mid
              · have hb4 : decide ((s : Int) < (mid : Int)) = true := decide_eq_true (by omega)
                go_wp2_with fail
                refine (IH.out K a s mid _ (by omega) HA3.out c3 c4 (by omega) HF.out.2.1 HF.out.2.2.1 HF.out.2.2.2.1 HF.out.2.2.2.2.1).mono ?_
                rintro e4 w4 ⟨rfl, ⟨K2, ha4, hk4⟩, hg4⟩
                have HA4 := Aside0.mk ha4
                have HF2 : Aside0 (F2 M K2 N a mid e b) := ⟨f2_rec HF.out hk4 b5 b6⟩
                have HG4 : Aside0 (Fr w w4 g) := ⟨grow_trans HG3.out hg4⟩
                clear ha4 hk4 hg4 HA3 HF HG3
                by_cases c5 : mid < e
                · have hb5 : decide ((mid : Int) < (e : Int)) = true := decide_eq_true (by omega)
                  by_cases c6 : e < b
                  · have hb6 : decide ((e : Int) < (b : Int)) = true := decide_eq_true (by omega)
                    go_wp2_with fail
                    refine (IH.out K2 mid e b _ (by omega) HA4.out c5 c6 hb HF2.out.2.1 HF2.out.2.2.1 HF2.out.2.2.2.2.1 HF2.out.2.2.2.2.2.1).mono ?_
                    rintro e5 w5 ⟨rfl, ⟨K3, ha5, hk5⟩, hg5⟩
                    have HA5 := Aside0.mk ha5
                    have HS5 : Aside0 (Sorted M K3 N a b) := ⟨f3_rec HF2.out hk5 (by omega)⟩
                    have HG5 : Aside0 (Fr w w5 g) := ⟨grow_trans HG4.out hg5⟩
                    clear ha5 hk5 hg5 HA4 HF2 HG4
                    go_wp2_with fail
                    go_end0
                    exact ⟨rfl, ⟨K3, HA5.out, HS5.out⟩, HG5.out⟩
                  · have hb6 : decide ((e : Int) < (b : Int)) = false := decide_eq_false (by omega)
                    have HS5 : Aside0 (Sorted M K2 N a b) := ⟨f3_no HF2.out (Or.inr (by omega))⟩
                    clear HF2
                    go_wp2_with fail
                    go_end0
                    exact ⟨rfl, ⟨K2, HA4.out, HS5.out⟩, HG4.out⟩
                · have hb5 : decide ((mid : Int) < (e : Int)) = false := decide_eq_false (by omega)
                  have HS5 : Aside0 (Sorted M K2 N a b) := ⟨f3_no HF2.out (Or.inl (by omega))⟩
                  clear HF2
                  go_wp2_with fail
                  go_end0
                  exact ⟨rfl, ⟨K2, HA4.out, HS5.out⟩, HG4.out⟩
              · have hb4 : decide ((s : Int) < (mid : Int)) = false := decide_eq_false (by omega)
                have HF2 : Aside0 (F2 M K N a mid e b) := ⟨f2_no HF.out (Or.inr (by omega))⟩
                have HA4 := HA3
                have HG4 := HG3
                obtain ⟨K2, rfl⟩ : ∃ K2, K2 = K := ⟨K, rfl⟩
                clear HF HA3 HG3
                by_cases c5 : mid < e
                · have hb5 : decide ((mid : Int) < (e : Int)) = true := decide_eq_true (by omega)
                  by_cases c6 : e < b
                  · have hb6 : decide ((e : Int) < (b : Int)) = true := decide_eq_true (by omega)
                    go_wp2_with fail
                    refine (IH.out K2 mid e b _ (by omega) HA4.out c5 c6 hb HF2.out.2.1 HF2.out.2.2.1 HF2.out.2.2.2.2.1 HF2.out.2.2.2.2.2.1).mono ?_
                    rintro e5 w5 ⟨rfl, ⟨K3, ha5, hk5⟩, hg5⟩
                    have HA5 := Aside0.mk ha5
                    have HS5 : Aside0 (Sorted M K3 N a b) := ⟨f3_rec HF2.out hk5 (by omega)⟩
                    have HG5 : Aside0 (Fr w w5 g) := ⟨grow_trans HG4.out hg5⟩
                    clear ha5 hk5 hg5 HA4 HF2 HG4
                    go_wp2_with fail
                    go_end0
                    exact ⟨rfl, ⟨K3, HA5.out, HS5.out⟩, HG5.out⟩
                  · have hb6 : decide ((e : Int) < (b : Int)) = false := decide_eq_false (by omega)
                    have HS5 : Aside0 (Sorted M K2 N a b) := ⟨f3_no HF2.out (Or.inr (by omega))⟩
                    clear HF2
                    go_wp2_with fail
                    go_end0
                    exact ⟨rfl, ⟨K2, HA4.out, HS5.out⟩, HG4.out⟩
                · have hb5 : decide ((mid : Int) < (e : Int)) = false := decide_eq_false (by omega)
                  have HS5 : Aside0 (Sorted M K2 N a b) := ⟨f3_no HF2.out (Or.inl (by omega))⟩
                  clear HF2
                  go_wp2_with fail
                  go_end0
                  exact ⟨rfl, ⟨K2, HA4.out, HS5.out⟩, HG4.out⟩
            · have hb3 : decide ((a : Int) < (s : Int)) = false := decide_eq_false (by omega)
              have HF2 : Aside0 (F2 M K N a mid e b) := ⟨f2_no HF.out (Or.inl (by omega))⟩
              have HA4 := HA3
              have HG4 := HG3
              obtain ⟨K2, rfl⟩ : ∃ K2, K2 = K := ⟨K, rfl⟩
              clear HF HA3 HG3
              by_cases c5 : mid < e
              · have hb5 : decide ((mid : Int) < (e : Int)) = true := decide_eq_true (by omega)
                by_cases c6 : e < b
                · have hb6 : decide ((e : Int) < (b : Int)) = true := decide_eq_true (by omega)
                  go_wp2_with fail
                  refine (IH.out K2 mid e b _ (by omega) HA4.out c5 c6 hb HF2.out.2.1 HF2.out.2.2.1 HF2.out.2.2.2.2.1 HF2.out.2.2.2.2.2.1).mono ?_
                  rintro e5 w5 ⟨rfl, ⟨K3, ha5, hk5⟩, hg5⟩
                  have HA5 := Aside0.mk ha5
                  have HS5 : Aside0 (Sorted M K3 N a b) := ⟨f3_rec HF2.out hk5 (by omega)⟩
                  have HG5 : Aside0 (Fr w w5 g) := ⟨grow_trans HG4.out hg5⟩
                  clear ha5 hk5 hg5 HA4 HF2 HG4
                  go_wp2_with fail
                  go_end0
                  exact ⟨rfl, ⟨K3, HA5.out, HS5.out⟩, HG5.out⟩
                · have hb6 : decide ((e : Int) < (b : Int)) = false := decide_eq_false (by omega)
                  have HS5 : Aside0 (Sorted M K2 N a b) := ⟨f3_no HF2.out (Or.inr (by omega))⟩
                  clear HF2
                  go_wp2_with fail
                  go_end0
                  exact ⟨rfl, ⟨K2, HA4.out, HS5.out⟩, HG4.out⟩
              · have hb5 : decide ((mid : Int) < (e : Int)) = false := decide_eq_false (by omega)
                have HS5 : Aside0 (Sorted M K2 N a b) := ⟨f3_no HF2.out (Or.inl (by omega))⟩
                clear HF2
                go_wp2_with fail
                go_end0
                exact ⟨rfl, ⟨K2, HA4.out, HS5.out⟩, HG4.out⟩
        · have hb1 : decide ((s : Int) < (m : Int)) = false := decide_eq_false (by omega)
          have HA3 : Aside0 (Arr wr g N (rotM M s m e)) := ⟨HA1.out.congr fun x _ => rot_none M (by omega) (by omega) (Or.inl (by omega)) x⟩
          have HG3 := HG
          clear HA1 HG
          obtain ⟨K, hK⟩ : ∃ K, K = rotM M s m e := ⟨_, rfl⟩
          rw [← hK] at HA3 HF
          clear hK
          by_cases c3 : a < s
          · have hb3 : decide ((a : Int) < (s : Int)) = true := decide_eq_true (by omega)
            by_cases c4 : s < mid
            · have hb4 : decide ((s : Int) < (mid : Int)) = true := decide_eq_true (by omega)
              go_wp2_with fail
              refine (IH.out K a s mid _ (by omega) HA3.out c3 c4 (by omega) HF.out.2.1 HF.out.2.2.1 HF.out.2.2.2.1 HF.out.2.2.2.2.1).mono ?_
              rintro e4 w4 ⟨rfl, ⟨K2, ha4, hk4⟩, hg4⟩
              have HA4 := Aside0.mk ha4
              have HF2 : Aside0 (F2 M K2 N a mid e b) := ⟨f2_rec HF.out hk4 b5 b6⟩
              have HG4 : Aside0 (Fr w w4 g) := ⟨grow_trans HG3.out hg4⟩
              clear ha4 hk4 hg4 HA3 HF HG3
              by_cases c5 : mid < e
              · have hb5 : decide ((mid : Int) < (e : Int)) = true := decide_eq_true (by omega)
                by_cases c6 : e < b
                · have hb6 : decide ((e : Int) < (b : Int)) = true := decide_eq_true (by omega)
                  go_wp2_with fail
                  refine (IH.out K2 mid e b _ (by omega) HA4.out c5 c6 hb HF2.out.2.1 HF2.out.2.2.1 HF2.out.2.2.2.2.1 HF2.out.2.2.2.2.2.1).mono ?_
                  rintro e5 w5 ⟨rfl, ⟨K3, ha5, hk5⟩, hg5⟩
                  have HA5 := Aside0.mk ha5
                  have HS5 : Aside0 (Sorted M K3 N a b) := ⟨f3_rec HF2.out hk5 (by omega)⟩
                  have HG5 : Aside0 (Fr w w5 g) := ⟨grow_trans HG4.out hg5⟩
                  clear ha5 hk5 hg5 HA4 HF2 HG4
                  go_wp2_with fail
                  go_end0
                  exact ⟨rfl, ⟨K3, HA5.out, HS5.out⟩, HG5.out⟩
                · have hb6 : decide ((e : Int) < (b : Int)) = false := decide_eq_false (by omega)
                  have HS5 : Aside0 (Sorted M K2 N a b) := ⟨f3_no HF2.out (Or.inr (by omega))⟩
                  clear HF2
                  go_wp2_with fail
                  go_end0
                  exact ⟨rfl, ⟨K2, HA4.out, HS5.out⟩, HG4.out⟩
              · have hb5 : decide ((mid : Int) < (e : Int)) = false := decide_eq_false (by omega)
                have HS5 : Aside0 (Sorted M K2 N a b) := ⟨f3_no HF2.out (Or.inl (by omega))⟩
                clear HF2
                go_wp2_with fail
                go_end0
                exact ⟨rfl, ⟨K2, HA4.out, HS5.out⟩, HG4.out⟩
            · have hb4 : decide ((s : Int) < (mid : Int)) = false := decide_eq_false (by omega)
              have HF2 : Aside0 (F2 M K N a mid e b) := ⟨f2_no HF.out (Or.inr (by omega))⟩
              have HA4 := HA3
              have HG4 := HG3
              obtain ⟨K2, rfl⟩ : ∃ K2, K2 = K := ⟨K, rfl⟩
              clear HF HA3 HG3
              by_cases c5 : mid < e
              · have hb5 : decide ((mid : Int) < (e : Int)) = true := decide_eq_true (by omega)
                by_cases c6 : e < b
                · have hb6 : decide ((e : Int) < (b : Int)) = true := decide_eq_true (by omega)
                  go_wp2_with fail
                  refine (IH.out K2 mid e b _ (by omega) HA4.out c5 c6 hb HF2.out.2.1 HF2.out.2.2.1 HF2.out.2.2.2.2.1 HF2.out.2.2.2.2.2.1).mono ?_
                  rintro e5 w5 ⟨rfl, ⟨K3, ha5, hk5⟩, hg5⟩
                  have HA5 := Aside0.mk ha5
                  have HS5 : Aside0 (Sorted M K3 N a b) := ⟨f3_rec HF2.out hk5 (by omega)⟩
                  have HG5 : Aside0 (Fr w w5 g) := ⟨grow_trans HG4.out hg5⟩
                  clear ha5 hk5 hg5 HA4 HF2 HG4
                  go_wp2_with fail
                  go_end0
                  exact ⟨rfl, ⟨K3, HA5.out, HS5.out⟩, HG5.out⟩
                · have hb6 : decide ((e : Int) < (b : Int)) = false := decide_eq_false (by omega)
                  have HS5 : Aside0 (Sorted M K2 N a b) := ⟨f3_no HF2.out (Or.inr (by omega))⟩
                  clear HF2
                  go_wp2_with fail
                  go_end0
                  exact ⟨rfl, ⟨K2, HA4.out, HS5.out⟩, HG4.out⟩
              · have hb5 : decide ((mid : Int) < (e : Int)) = false := decide_eq_false (by omega)
                have HS5 : Aside0 (Sorted M K2 N a b) := ⟨f3_no HF2.out (Or.inl (by omega))⟩
                clear HF2
                go_wp2_with fail
                go_end0
                exact ⟨rfl, ⟨K2, HA4.out, HS5.out⟩, HG4.out⟩
          · have hb3 : decide ((a : Int) < (s : Int)) = false := decide_eq_false (by omega)
            have HF2 : Aside0 (F2 M K N a mid e b) := ⟨f2_no HF.out (Or.inl (by omega))⟩
            have HA4 := HA3
            have HG4 := HG3
            obtain ⟨K2, rfl⟩ : ∃ K2, K2 = K := ⟨K, rfl⟩
            clear HF HA3 HG3
            by_cases c5 : mid < e
            · have hb5 : decide ((mid : Int) < (e : Int)) = true := decide_eq_true (by omega)
              by_cases c6 : e < b
              · have hb6 : decide ((e : Int) < (b : Int)) = true := decide_eq_true (by omega)
                go_wp2_with fail
                refine (IH.out K2 mid e b _ (by omega) HA4.out c5 c6 hb HF2.out.2.1 HF2.out.2.2.1 HF2.out.2.2.2.2.1 HF2.out.2.2.2.2.2.1).mono ?_
                rintro e5 w5 ⟨rfl, ⟨K3, ha5, hk5⟩, hg5⟩
                have HA5 := Aside0.mk ha5
                have HS5 : Aside0 (Sorted M K3 N a b) := ⟨f3_rec HF2.out hk5 (by omega)⟩
                have HG5 : Aside0 (Fr w w5 g) := ⟨grow_trans HG4.out hg5⟩
                clear ha5 hk5 hg5 HA4 HF2 HG4
                go_wp2_with fail
                go_end0
                exact ⟨rfl, ⟨K3, HA5.out, HS5.out⟩, HG5.out⟩
              · have hb6 : decide ((e : Int) < (b : Int)) = false := decide_eq_false (by omega)
                have HS5 : Aside0 (Sorted M K2 N a b) := ⟨f3_no HF2.out (Or.inr (by omega))⟩
                clear HF2
                go_wp2_with fail
                go_end0
                exact ⟨rfl, ⟨K2, HA4.out, HS5.out⟩, HG4.out⟩
            · have hb5 : decide ((mid : Int) < (e : Int)) = false := decide_eq_false (by omega)
              have HS5 : Aside0 (Sorted M K2 N a b) := ⟨f3_no HF2.out (Or.inl (by omega))⟩
              clear HF2
              go_wp2_with fail
              go_end0
              exact ⟨rfl, ⟨K2, HA4.out, HS5.out⟩, HG4.out⟩
  · have hcb : decide ((mid : Int) < (m : Int)) = false := decide_eq_false (by omega)
    go_wp2_with fail
    go_loopw [20, 21] (fun vs vr wr => ∃ s r : Nat, s0 ≤ s ∧ s ≤ r ∧ r ≤ r0 ∧ vs = .int .i64 s ∧ vr = .int .i64 r ∧ Aside0 (Arr wr g N M) ∧ Aside0 (∀ c, s0 ≤ c → c < s → (M c).f0 ≤ (M (p - c)).f0) ∧ Aside0 (∀ c, r ≤ c → c < r0 → (M (p - c)).f0 < (M c).f0) ∧ Aside0 (Fr w wr g)) (fun vs vr _ => (intOf vr).toNat - (intOf vs).toNat)
    case atStart => exact ⟨s0, r0, Nat.le_refl _, HM.out.sr, Nat.le_refl _, by first | rfl | rw [hs0], by rw [hr0], HA, ⟨fun y h1 h2 => by omega⟩, ⟨fun y h1 h2 => by omega⟩, ⟨grow_refl _ _⟩⟩
    case round =>
      clear HA
      obtain ⟨s, r, hsr0, hsr, hrr, rfl, rfl, HA1, HL, HR, HG⟩ := hrel
      by_cases hlt : s < r
      · obtain ⟨c, hcq⟩ : ∃ c, (s + r) / 2 = c := ⟨_, rfl⟩
        have hcz : ((s : Int) + (r : Int)) / 2 = (c : Int) := by omega
        have HB : Aside0 (s ≤ c ∧ c < r ∧ s0 ≤ c ∧ c < r0 ∧ c < N ∧ p - c < N ∧ c ≤ p) := by
          obtain ⟨q1, q2, q3, q4, q5, q6, q7, q8, q9, q10, q11, q12⟩ := HM.out
          exact ⟨by omega, by omega, by omega, by omega, by omega, by omega, by omega⟩
        have bc : c < N := HB.out.2.2.2.2.1
        obtain ⟨q, hq⟩ : ∃ q, p - c = q := ⟨_, rfl⟩
        have hqz : (p : Int) - (c : Int) = (q : Int) := by have := HB.out; omega
        have hwp : IntKind.i64.wrap (q : Int) = (q : Int) := by have := HB.out; rw [IntKind.wrap_i64]; omega
        have b1 := HSM.out c HB.out.2.2.2.2.1
        have b2 := HSM.out q (by have := HB.out; omega)
        have c0 := HA1.out.q0 (x := c) HB.out.2.2.2.2.1
        have c1 := HA1.out.q1 (x := c) HB.out.2.2.2.2.1
        have d0 := HA1.out.q0 (x := q) (by have := HB.out; omega)
        have d1 := HA1.out.q1 (x := q) (by have := HB.out; omega)
        have z1 : (c : Int) < (N : Int) := by have := HB.out; omega
        have z2 : (q : Int) < (N : Int) := by have := HB.out; omega
        have HQ := Aside0.mk hq
        clear hcq hq
        go_wp2_with fail
        refine wp_region_quiet_below (by kernel_rfl) (by kernel_rfl) ?_; (repeat (quiet_step ((go_at_call 144; exact calls_below_of (cmp_calls (M q) (M c) b2.1 b2.2 b1.1 b1.2 _))))); refine wpQuiet_nil ?_; intro wq hw'; obtain ⟨⟨wz, hbq⟩, hwq⟩ := hw'; subst hwq
        have HA2 : Aside0 (Arr wq g N M) := ⟨HA1.out.below hbq⟩
        have HG2 : Aside0 (Fr w wq g) := ⟨grow_trans HG.out (grow_below hbq)⟩
        clear c0 c1 d0 d1 HA1 HG hbq hcz z1 z2 hqz
        by_cases hlc : (M q).f0 < (M c).f0
        · have hcd : (!decide ((M q).f0 - (M c).f0 < 0)) = false := by rw [decide_eq_true (by omega)]; rfl
          have HR2 : Aside0 (∀ y, c ≤ y → y < r0 → (M (p - y)).f0 < (M y).f0) := ⟨mid_right HM.out HB.out.2.2.1 HB.out.2.2.2.1 HL1.out HL2.out (by rw [HQ.out]; exact hlc)⟩
          clear HR hlc b1 b2
          rw [hcd]
          clear hcd
          go_wp2_with fail
          go_roundw
          case rel => exact ⟨s, c, hsr0, HB.out.1, by have := HB.out; omega, rfl, rfl, HA2, HL, HR2, HG2⟩
          case measure => have := HB.out; simp [intOf] <;> omega
        · have hcd : (!decide ((M q).f0 - (M c).f0 < 0)) = true := by rw [decide_eq_false (by omega)]; rfl
          have HL2' : Aside0 (∀ y, s0 ≤ y → y < c + 1 → (M y).f0 ≤ (M (p - y)).f0) := ⟨mid_left HM.out HB.out.2.2.1 HB.out.2.2.2.1 HL1.out HL2.out (by rw [HQ.out]; omega)⟩
          clear HL hlc b1 b2
          rw [hcd]
          clear hcd
          go_wp2_with fail
          go_roundw
          case rel => exact ⟨c + 1, r, by have := HB.out; omega, by have := HB.out; omega, hrr, by go_num, rfl, HA2, HL2', HR, HG2⟩
          case measure => have := HB.out; simp [intOf] <;> omega
      · have er : s = r := by omega
        subst er
        obtain ⟨e, he⟩ : ∃ e, s + e = mid + m := ⟨mid + m - s, by have := HM.out.r0m; omega⟩
        have hez : (mid : Int) + (m : Int) - (s : Int) = (e : Int) := by omega
        have HF : Aside0 (F1 M (rotM M s m e) N a s mid e b) := ⟨mid_f1 HM.out hsr0 hrr he HL.out HR.out HL1.out HL2.out HST.out HSM.out hb⟩
        have b1 : a ≤ s := by have := HM.out.s0a; omega
        have b2 : s ≤ mid := by have := HM.out.r0mid; omega
        have b3 : s ≤ m := by have := HM.out.r0m; omega
        have b4 : m ≤ e := by omega
        have b5 : mid ≤ e := by omega
        have b6 : e ≤ b := by have := HM.out.s0b; omega
        have b7 : a + 2 ≤ mid + 1 := by have := HM.out.hi; omega
        have b8 : mid + 2 ≤ b := by have := HM.out.lo; omega
        clear HL HR HL1 HL2 HST HSM hlt he hsr hsr0 hrr
        by_cases c1 : s < m
        · have hb1 : decide ((s : Int) < (m : Int)) = true := decide_eq_true (by omega)
          by_cases c2 : m < e
          · have hb2 : decide ((m : Int) < (e : Int)) = true := decide_eq_true (by omega)
            go_wp2_with fail
            refine (rotate_calls g N cap M s m e _ _ HA1.out hN c1 c2 (by omega)).mono ?_
            rintro e3 w3 ⟨rfl, ha3, hg3⟩
            have HA3 := Aside0.mk ha3
            have HG3 : Aside0 (Fr w w3 g) := ⟨grow_trans HG.out hg3⟩
            clear ha3 hg3 HA1 HG
            obtain ⟨K, hK⟩ : ∃ K, K = rotM M s m e := ⟨_, rfl⟩
            rw [← hK] at HA3 HF
            clear hK
            by_cases c3 : a < s
            · have hb3 : decide ((a : Int) < (s : Int)) = true := decide_eq_true (by omega)
              by_cases c4 : s < mid
              · have hb4 : decide ((s : Int) < (mid : Int)) = true := decide_eq_true (by omega)
                go_wp2_with fail
                refine (IH.out K a s mid _ (by omega) HA3.out c3 c4 (by omega) HF.out.2.1 HF.out.2.2.1 HF.out.2.2.2.1 HF.out.2.2.2.2.1).mono ?_
                rintro e4 w4 ⟨rfl, ⟨K2, ha4, hk4⟩, hg4⟩
                have HA4 := Aside0.mk ha4
                have HF2 : Aside0 (F2 M K2 N a mid e b) := ⟨f2_rec HF.out hk4 b5 b6⟩
                have HG4 : Aside0 (Fr w w4 g) := ⟨grow_trans HG3.out hg4⟩
                clear ha4 hk4 hg4 HA3 HF HG3
                by_cases c5 : mid < e
                · have hb5 : decide ((mid : Int) < (e : Int)) = true := decide_eq_true (by omega)
                  by_cases c6 : e < b
                  · have hb6 : decide ((e : Int) < (b : Int)) = true := decide_eq_true (by omega)
                    go_wp2_with fail
                    refine (IH.out K2 mid e b _ (by omega) HA4.out c5 c6 hb HF2.out.2.1 HF2.out.2.2.1 HF2.out.2.2.2.2.1 HF2.out.2.2.2.2.2.1).mono ?_
                    rintro e5 w5 ⟨rfl, ⟨K3, ha5, hk5⟩, hg5⟩
                    have HA5 := Aside0.mk ha5
                    have HS5 : Aside0 (Sorted M K3 N a b) := ⟨f3_rec HF2.out hk5 (by omega)⟩
                    have HG5 : Aside0 (Fr w w5 g) := ⟨grow_trans HG4.out hg5⟩
                    clear ha5 hk5 hg5 HA4 HF2 HG4
                    go_wp2_with fail
                    go_end0
                    exact ⟨rfl, ⟨K3, HA5.out, HS5.out⟩, HG5.out⟩
                  · have hb6 : decide ((e : Int) < (b : Int)) = false := decide_eq_false (by omega)
                    have HS5 : Aside0 (Sorted M K2 N a b) := ⟨f3_no HF2.out (Or.inr (by omega))⟩
                    clear HF2
                    go_wp2_with fail
                    go_end0
                    exact ⟨rfl, ⟨K2, HA4.out, HS5.out⟩, HG4.out⟩
                · have hb5 : decide ((mid : Int) < (e : Int)) = false := decide_eq_false (by omega)
                  have HS5 : Aside0 (Sorted M K2 N a b) := ⟨f3_no HF2.out (Or.inl (by omega))⟩
                  clear HF2
                  go_wp2_with fail
                  go_end0
                  exact ⟨rfl, ⟨K2, HA4.out, HS5.out⟩, HG4.out⟩
              · have hb4 : decide ((s : Int) < (mid : Int)) = false := decide_eq_false (by omega)
                have HF2 : Aside0 (F2 M K N a mid e b) := ⟨f2_no HF.out (Or.inr (by omega))⟩
                have HA4 := HA3
                have HG4 := HG3
                obtain ⟨K2, rfl⟩ : ∃ K2, K2 = K := ⟨K, rfl⟩
                clear HF HA3 HG3
                by_cases c5 : mid < e
                · have hb5 : decide ((mid : Int) < (e : Int)) = true := decide_eq_true (by omega)
                  by_cases c6 : e < b
                  · have hb6 : decide ((e : Int) < (b : Int)) = true := decide_eq_true (by omega)
                    go_wp2_with fail
                    refine (IH.out K2 mid e b _ (by omega) HA4.out c5 c6 hb HF2.out.2.1 HF2.out.2.2.1 HF2.out.2.2.2.2.1 HF2.out.2.2.2.2.2.1).mono ?_
                    rintro e5 w5 ⟨rfl, ⟨K3, ha5, hk5⟩, hg5⟩
                    have HA5 := Aside0.mk ha5
                    have HS5 : Aside0 (Sorted M K3 N a b) := ⟨f3_rec HF2.out hk5 (by omega)⟩
                    have HG5 : Aside0 (Fr w w5 g) := ⟨grow_trans HG4.out hg5⟩
                    clear ha5 hk5 hg5 HA4 HF2 HG4
                    go_wp2_with fail
                    go_end0
                    exact ⟨rfl, ⟨K3, HA5.out, HS5.out⟩, HG5.out⟩
                  · have hb6 : decide ((e : Int) < (b : Int)) = false := decide_eq_false (by omega)
                    have HS5 : Aside0 (Sorted M K2 N a b) := ⟨f3_no HF2.out (Or.inr (by omega))⟩
                    clear HF2
                    go_wp2_with fail
                    go_end0
                    exact ⟨rfl, ⟨K2, HA4.out, HS5.out⟩, HG4.out⟩
                · have hb5 : decide ((mid : Int) < (e : Int)) = false := decide_eq_false (by omega)
                  have HS5 : Aside0 (Sorted M K2 N a b) := ⟨f3_no HF2.out (Or.inl (by omega))⟩
                  clear HF2
                  go_wp2_with fail
                  go_end0
                  exact ⟨rfl, ⟨K2, HA4.out, HS5.out⟩, HG4.out⟩
            · have hb3 : decide ((a : Int) < (s : Int)) = false := decide_eq_false (by omega)
              have HF2 : Aside0 (F2 M K N a mid e b) := ⟨f2_no HF.out (Or.inl (by omega))⟩
              have HA4 := HA3
              have HG4 := HG3
              obtain ⟨K2, rfl⟩ : ∃ K2, K2 = K := ⟨K, rfl⟩
              clear HF HA3 HG3
              by_cases c5 : mid < e
              · have hb5 : decide ((mid : Int) < (e : Int)) = true := decide_eq_true (by omega)
                by_cases c6 : e < b
                · have hb6 : decide ((e : Int) < (b : Int)) = true := decide_eq_true (by omega)
                  go_wp2_with fail
                  refine (IH.out K2 mid e b _ (by omega) HA4.out c5 c6 hb HF2.out.2.1 HF2.out.2.2.1 HF2.out.2.2.2.2.1 HF2.out.2.2.2.2.2.1).mono ?_
                  rintro e5 w5 ⟨rfl, ⟨K3, ha5, hk5⟩, hg5⟩
                  have HA5 := Aside0.mk ha5
                  have HS5 : Aside0 (Sorted M K3 N a b) := ⟨f3_rec HF2.out hk5 (by omega)⟩
                  have HG5 : Aside0 (Fr w w5 g) := ⟨grow_trans HG4.out hg5⟩
                  clear ha5 hk5 hg5 HA4 HF2 HG4
                  go_wp2_with fail
                  go_end0
                  exact ⟨rfl, ⟨K3, HA5.out, HS5.out⟩, HG5.out⟩
                · have hb6 : decide ((e : Int) < (b : Int)) = false := decide_eq_false (by omega)
                  have HS5 : Aside0 (Sorted M K2 N a b) := ⟨f3_no HF2.out (Or.inr (by omega))⟩
                  clear HF2
                  go_wp2_with fail
                  go_end0
                  exact ⟨rfl, ⟨K2, HA4.out, HS5.out⟩, HG4.out⟩
              · have hb5 : decide ((mid : Int) < (e : Int)) = false := decide_eq_false (by omega)
                have HS5 : Aside0 (Sorted M K2 N a b) := ⟨f3_no HF2.out (Or.inl (by omega))⟩
                clear HF2
                go_wp2_with fail
                go_end0
                exact ⟨rfl, ⟨K2, HA4.out, HS5.out⟩, HG4.out⟩
          · have hb2 : decide ((m : Int) < (e : Int)) = false := decide_eq_false (by omega)
            have HA3 : Aside0 (Arr wr g N (rotM M s m e)) := ⟨HA1.out.congr fun x _ => rot_none M (by omega) (by omega) (Or.inr (by omega)) x⟩
            have HG3 := HG
            clear HA1 HG
            obtain ⟨K, hK⟩ : ∃ K, K = rotM M s m e := ⟨_, rfl⟩
            rw [← hK] at HA3 HF
            clear hK
            by_cases c3 : a < s
            · have hb3 : decide ((a : Int) < (s : Int)) = true := decide_eq_true (by omega)
              by_cases c4 : s < mid
              · have hb4 : decide ((s : Int) < (mid : Int)) = true := decide_eq_true (by omega)
                go_wp2_with fail
                refine (IH.out K a s mid _ (by omega) HA3.out c3 c4 (by omega) HF.out.2.1 HF.out.2.2.1 HF.out.2.2.2.1 HF.out.2.2.2.2.1).mono ?_
                rintro e4 w4 ⟨rfl, ⟨K2, ha4, hk4⟩, hg4⟩
                have HA4 := Aside0.mk ha4
                have HF2 : Aside0 (F2 M K2 N a mid e b) := ⟨f2_rec HF.out hk4 b5 b6⟩
                have HG4 : Aside0 (Fr w w4 g) := ⟨grow_trans HG3.out hg4⟩
                clear ha4 hk4 hg4 HA3 HF HG3
                by_cases c5 : mid < e
                · have hb5 : decide ((mid : Int) < (e : Int)) = true := decide_eq_true (by omega)
                  by_cases c6 : e < b
                  · have hb6 : decide ((e : Int) < (b : Int)) = true := decide_eq_true (by omega)
                    go_wp2_with fail
                    refine (IH.out K2 mid e b _ (by omega) HA4.out c5 c6 hb HF2.out.2.1 HF2.out.2.2.1 HF2.out.2.2.2.2.1 HF2.out.2.2.2.2.2.1).mono ?_
                    rintro e5 w5 ⟨rfl, ⟨K3, ha5, hk5⟩, hg5⟩
                    have HA5 := Aside0.mk ha5
                    have HS5 : Aside0 (Sorted M K3 N a b) := ⟨f3_rec HF2.out hk5 (by omega)⟩
                    have HG5 : Aside0 (Fr w w5 g) := ⟨grow_trans HG4.out hg5⟩
                    clear ha5 hk5 hg5 HA4 HF2 HG4
                    go_wp2_with fail
                    go_end0
                    exact ⟨rfl, ⟨K3, HA5.out, HS5.out⟩, HG5.out⟩
                  · have hb6 : decide ((e : Int) < (b : Int)) = false := decide_eq_false (by omega)
                    have HS5 : Aside0 (Sorted M K2 N a b) := ⟨f3_no HF2.out (Or.inr (by omega))⟩
                    clear HF2
                    go_wp2_with fail
                    go_end0
                    exact ⟨rfl, ⟨K2, HA4.out, HS5.out⟩, HG4.out⟩
                · have hb5 : decide ((mid : Int) < (e : Int)) = false := decide_eq_false (by omega)
                  have HS5 : Aside0 (Sorted M K2 N a b) := ⟨f3_no HF2.out (Or.inl (by omega))⟩
                  clear HF2
                  go_wp2_with fail
                  go_end0
                  exact ⟨rfl, ⟨K2, HA4.out, HS5.out⟩, HG4.out⟩
              · have hb4 : decide ((s : Int) < (mid : Int)) = false := decide_eq_false (by omega)
                have HF2 : Aside0 (F2 M K N a mid e b) := ⟨f2_no HF.out (Or.inr (by omega))⟩
                have HA4 := HA3
                have HG4 := HG3
                obtain ⟨K2, rfl⟩ : ∃ K2, K2 = K := ⟨K, rfl⟩
                clear HF HA3 HG3
                by_cases c5 : mid < e
                · have hb5 : decide ((mid : Int) < (e : Int)) = true := decide_eq_true (by omega)
                  by_cases c6 : e < b
                  · have hb6 : decide ((e : Int) < (b : Int)) = true := decide_eq_true (by omega)
                    go_wp2_with fail
                    refine (IH.out K2 mid e b _ (by omega) HA4.out c5 c6 hb HF2.out.2.1 HF2.out.2.2.1 HF2.out.2.2.2.2.1 HF2.out.2.2.2.2.2.1).mono ?_
                    rintro e5 w5 ⟨rfl, ⟨K3, ha5, hk5⟩, hg5⟩
                    have HA5 := Aside0.mk ha5
                    have HS5 : Aside0 (Sorted M K3 N a b) := ⟨f3_rec HF2.out hk5 (by omega)⟩
                    have HG5 : Aside0 (Fr w w5 g) := ⟨grow_trans HG4.out hg5⟩
                    clear ha5 hk5 hg5 HA4 HF2 HG4
                    go_wp2_with fail
                    go_end0
                    exact ⟨rfl, ⟨K3, HA5.out, HS5.out⟩, HG5.out⟩
                  · have hb6 : decide ((e : Int) < (b : Int)) = false := decide_eq_false (by omega)
                    have HS5 : Aside0 (Sorted M K2 N a b) := ⟨f3_no HF2.out (Or.inr (by omega))⟩
                    clear HF2
                    go_wp2_with fail
                    go_end0
                    exact ⟨rfl, ⟨K2, HA4.out, HS5.out⟩, HG4.out⟩
                · have hb5 : decide ((mid : Int) < (e : Int)) = false := decide_eq_false (by omega)
                  have HS5 : Aside0 (Sorted M K2 N a b) := ⟨f3_no HF2.out (Or.inl (by omega))⟩
                  clear HF2
                  go_wp2_with fail
                  go_end0
                  exact ⟨rfl, ⟨K2, HA4.out, HS5.out⟩, HG4.out⟩
            · have hb3 : decide ((a : Int) < (s : Int)) = false := decide_eq_false (by omega)
              have HF2 : Aside0 (F2 M K N a mid e b) := ⟨f2_no HF.out (Or.inl (by omega))⟩
              have HA4 := HA3
              have HG4 := HG3
              obtain ⟨K2, rfl⟩ : ∃ K2, K2 = K := ⟨K, rfl⟩
              clear HF HA3 HG3
              by_cases c5 : mid < e
              · have hb5 : decide ((mid : Int) < (e : Int)) = true := decide_eq_true (by omega)
                by_cases c6 : e < b
                · have hb6 : decide ((e : Int) < (b : Int)) = true := decide_eq_true (by omega)
                  go_wp2_with fail
                  refine (IH.out K2 mid e b _ (by omega) HA4.out c5 c6 hb HF2.out.2.1 HF2.out.2.2.1 HF2.out.2.2.2.2.1 HF2.out.2.2.2.2.2.1).mono ?_
                  rintro e5 w5 ⟨rfl, ⟨K3, ha5, hk5⟩, hg5⟩
                  have HA5 := Aside0.mk ha5
                  have HS5 : Aside0 (Sorted M K3 N a b) := ⟨f3_rec HF2.out hk5 (by omega)⟩
                  have HG5 : Aside0 (Fr w w5 g) := ⟨grow_trans HG4.out hg5⟩
                  clear ha5 hk5 hg5 HA4 HF2 HG4
                  go_wp2_with fail
                  go_end0
                  exact ⟨rfl, ⟨K3, HA5.out, HS5.out⟩, HG5.out⟩
                · have hb6 : decide ((e : Int) < (b : Int)) = false := decide_eq_false (by omega)
                  have HS5 : Aside0 (Sorted M K2 N a b) := ⟨f3_no HF2.out (Or.inr (by omega))⟩
                  clear HF2
                  go_wp2_with fail
                  go_end0
                  exact ⟨rfl, ⟨K2, HA4.out, HS5.out⟩, HG4.out⟩
              · have hb5 : decide ((mid : Int) < (e : Int)) = false := decide_eq_false (by omega)
                have HS5 : Aside0 (Sorted M K2 N a b) := ⟨f3_no HF2.out (Or.inl (by omega))⟩
                clear HF2
                go_wp2_with fail
                go_end0
                exact ⟨rfl, ⟨K2, HA4.out, HS5.out⟩, HG4.out⟩
        · have hb1 : decide ((s : Int) < (m : Int)) = false := decide_eq_false (by omega)
          have HA3 : Aside0 (Arr wr g N (rotM M s m e)) := ⟨HA1.out.congr fun x _ => rot_none M (by omega) (by omega) (Or.inl (by omega)) x⟩
          have HG3 := HG
          clear HA1 HG
          obtain ⟨K, hK⟩ : ∃ K, K = rotM M s m e := ⟨_, rfl⟩
          rw [← hK] at HA3 HF
          clear hK
          by_cases c3 : a < s
          · have hb3 : decide ((a : Int) < (s : Int)) = true := decide_eq_true (by omega)
            by_cases c4 : s < mid
            · have hb4 : decide ((s : Int) < (mid : Int)) = true := decide_eq_true (by omega)
              go_wp2_with fail
              refine (IH.out K a s mid _ (by omega) HA3.out c3 c4 (by omega) HF.out.2.1 HF.out.2.2.1 HF.out.2.2.2.1 HF.out.2.2.2.2.1).mono ?_
              rintro e4 w4 ⟨rfl, ⟨K2, ha4, hk4⟩, hg4⟩
              have HA4 := Aside0.mk ha4
              have HF2 : Aside0 (F2 M K2 N a mid e b) := ⟨f2_rec HF.out hk4 b5 b6⟩
              have HG4 : Aside0 (Fr w w4 g) := ⟨grow_trans HG3.out hg4⟩
              clear ha4 hk4 hg4 HA3 HF HG3
              by_cases c5 : mid < e
              · have hb5 : decide ((mid : Int) < (e : Int)) = true := decide_eq_true (by omega)
                by_cases c6 : e < b
                · have hb6 : decide ((e : Int) < (b : Int)) = true := decide_eq_true (by omega)
                  go_wp2_with fail
                  refine (IH.out K2 mid e b _ (by omega) HA4.out c5 c6 hb HF2.out.2.1 HF2.out.2.2.1 HF2.out.2.2.2.2.1 HF2.out.2.2.2.2.2.1).mono ?_
                  rintro e5 w5 ⟨rfl, ⟨K3, ha5, hk5⟩, hg5⟩
                  have HA5 := Aside0.mk ha5
                  have HS5 : Aside0 (Sorted M K3 N a b) := ⟨f3_rec HF2.out hk5 (by omega)⟩
                  have HG5 : Aside0 (Fr w w5 g) := ⟨grow_trans HG4.out hg5⟩
                  clear ha5 hk5 hg5 HA4 HF2 HG4
                  go_wp2_with fail
                  go_end0
                  exact ⟨rfl, ⟨K3, HA5.out, HS5.out⟩, HG5.out⟩
                · have hb6 : decide ((e : Int) < (b : Int)) = false := decide_eq_false (by omega)
                  have HS5 : Aside0 (Sorted M K2 N a b) := ⟨f3_no HF2.out (Or.inr (by omega))⟩
                  clear HF2
                  go_wp2_with fail
                  go_end0
                  exact ⟨rfl, ⟨K2, HA4.out, HS5.out⟩, HG4.out⟩
              · have hb5 : decide ((mid : Int) < (e : Int)) = false := decide_eq_false (by omega)
                have HS5 : Aside0 (Sorted M K2 N a b) := ⟨f3_no HF2.out (Or.inl (by omega))⟩
                clear HF2
                go_wp2_with fail
                go_end0
                exact ⟨rfl, ⟨K2, HA4.out, HS5.out⟩, HG4.out⟩
            · have hb4 : decide ((s : Int) < (mid : Int)) = false := decide_eq_false (by omega)
              have HF2 : Aside0 (F2 M K N a mid e b) := ⟨f2_no HF.out (Or.inr (by omega))⟩
              have HA4 := HA3
              have HG4 := HG3
              obtain ⟨K2, rfl⟩ : ∃ K2, K2 = K := ⟨K, rfl⟩
              clear HF HA3 HG3
              by_cases c5 : mid < e
              · have hb5 : decide ((mid : Int) < (e : Int)) = true := decide_eq_true (by omega)
                by_cases c6 : e < b
                · have hb6 : decide ((e : Int) < (b : Int)) = true := decide_eq_true (by omega)
                  go_wp2_with fail
                  refine (IH.out K2 mid e b _ (by omega) HA4.out c5 c6 hb HF2.out.2.1 HF2.out.2.2.1 HF2.out.2.2.2.2.1 HF2.out.2.2.2.2.2.1).mono ?_
                  rintro e5 w5 ⟨rfl, ⟨K3, ha5, hk5⟩, hg5⟩
                  have HA5 := Aside0.mk ha5
                  have HS5 : Aside0 (Sorted M K3 N a b) := ⟨f3_rec HF2.out hk5 (by omega)⟩
                  have HG5 : Aside0 (Fr w w5 g) := ⟨grow_trans HG4.out hg5⟩
                  clear ha5 hk5 hg5 HA4 HF2 HG4
                  go_wp2_with fail
                  go_end0
                  exact ⟨rfl, ⟨K3, HA5.out, HS5.out⟩, HG5.out⟩
                · have hb6 : decide ((e : Int) < (b : Int)) = false := decide_eq_false (by omega)
                  have HS5 : Aside0 (Sorted M K2 N a b) := ⟨f3_no HF2.out (Or.inr (by omega))⟩
                  clear HF2
                  go_wp2_with fail
                  go_end0
                  exact ⟨rfl, ⟨K2, HA4.out, HS5.out⟩, HG4.out⟩
              · have hb5 : decide ((mid : Int) < (e : Int)) = false := decide_eq_false (by omega)
                have HS5 : Aside0 (Sorted M K2 N a b) := ⟨f3_no HF2.out (Or.inl (by omega))⟩
                clear HF2
                go_wp2_with fail
                go_end0
                exact ⟨rfl, ⟨K2, HA4.out, HS5.out⟩, HG4.out⟩
          · have hb3 : decide ((a : Int) < (s : Int)) = false := decide_eq_false (by omega)
            have HF2 : Aside0 (F2 M K N a mid e b) := ⟨f2_no HF.out (Or.inl (by omega))⟩
            have HA4 := HA3
            have HG4 := HG3
            obtain ⟨K2, rfl⟩ : ∃ K2, K2 = K := ⟨K, rfl⟩
            clear HF HA3 HG3
            by_cases c5 : mid < e
            · have hb5 : decide ((mid : Int) < (e : Int)) = true := decide_eq_true (by omega)
              by_cases c6 : e < b
              · have hb6 : decide ((e : Int) < (b : Int)) = true := decide_eq_true (by omega)
                go_wp2_with fail
                refine (IH.out K2 mid e b _ (by omega) HA4.out c5 c6 hb HF2.out.2.1 HF2.out.2.2.1 HF2.out.2.2.2.2.1 HF2.out.2.2.2.2.2.1).mono ?_
                rintro e5 w5 ⟨rfl, ⟨K3, ha5, hk5⟩, hg5⟩
                have HA5 := Aside0.mk ha5
                have HS5 : Aside0 (Sorted M K3 N a b) := ⟨f3_rec HF2.out hk5 (by omega)⟩
                have HG5 : Aside0 (Fr w w5 g) := ⟨grow_trans HG4.out hg5⟩
                clear ha5 hk5 hg5 HA4 HF2 HG4
                go_wp2_with fail
                go_end0
                exact ⟨rfl, ⟨K3, HA5.out, HS5.out⟩, HG5.out⟩
              · have hb6 : decide ((e : Int) < (b : Int)) = false := decide_eq_false (by omega)
                have HS5 : Aside0 (Sorted M K2 N a b) := ⟨f3_no HF2.out (Or.inr (by omega))⟩
                clear HF2
                go_wp2_with fail
                go_end0
                exact ⟨rfl, ⟨K2, HA4.out, HS5.out⟩, HG4.out⟩
            · have hb5 : decide ((mid : Int) < (e : Int)) = false := decide_eq_false (by omega)
              have HS5 : Aside0 (Sorted M K2 N a b) := ⟨f3_no HF2.out (Or.inl (by omega))⟩
              clear HF2
              go_wp2_with fail
              go_end0
              exact ⟨rfl, ⟨K2, HA4.out, HS5.out⟩, HG4.out⟩
theorem sym_ok (g N cap : Nat) (hN : N ≤ 1000000) : ∀ d, SymOk g N cap d
  | 0 => fun M a m b w hd h h1 h2 hb hs hsm l1 l2 => by omega
  | d + 1 => fun M a m b w hd h h1 h2 hb hs hsm l1 l2 => by
    by_cases e1 : m = a + 1
    · subst e1
      have := symLo_calls g N cap M a b w h hN h2 hb hs hsm l2
      exact this
    · by_cases e2 : b = m + 1
      · subst e2
        have := symHi_calls g N cap M a m w h hN (by omega) hb hs hsm l1
        exact this
      · exact symMid_calls g N cap d (sym_ok g N cap hN d) M a m b w hd h hN (by omega) (by omega) hb hs hsm l1 l2
end Go.Proofs.Ytkcpanpdipmmmaa.H

/- Go's stable sort on a row of steps, whole. -/
set_option linter.unusedVariables false
set_option linter.unusedSimpArgs false
namespace Go.Proofs.Ytkcpanpdipmmmaa.H
open Go.RowKit Go.Proofs.YtkcpanpdipmmmaaW.PrintWords Go.Proofs.YtkcpanpdipmmmaaW.PrintLast Go.Proofs.YtkcpanpdipmmmaaW.PrintMore Go.Proofs.Ytkcpanpdipmmmaa.P
/-- The blocks of bs steps from lo on are each in order, as far as hi. -/
def Blk (K : Nat → S38) (bs lo hi : Nat) : Prop := ∀ t i j, t * bs + lo ≤ i → i < j → j < t * bs + bs + lo → j < hi → (K i).f0 ≤ (K j).f0
theorem blk_shift {K : Nat → S38} {bs lo hi : Nat} (h : Blk K bs lo hi) : Blk K bs (lo + bs) hi := fun t i j h1 h2 h3 h4 => by
  have e : (t + 1) * bs = t * bs + bs := Nat.succ_mul t bs
  exact h (t + 1) i j (by omega) h2 (by omega) h4
theorem blk_head {K : Nat → S38} {bs lo hi c : Nat} (h : Blk K bs lo hi) (h1 : c ≤ lo + bs) (h2 : c ≤ hi) : Le K lo c := fun i j k1 k2 k3 => h 0 i j (by omega) k2 (by omega) (by omega)
theorem blk_snoc {K : Nat → S38} {bs a c k : Nat} (h : Blk K bs 0 a) (ha : a = k * bs) (hl : Le K a c) : Blk K bs 0 c := fun t i j h1 h2 h3 h4 => by
  by_cases e1 : j < a
  · exact h t i j h1 h2 h3 e1
  · by_cases e2 : a ≤ i
    · exact hl i j e2 h2 h4
    · exfalso
      have e : (t + 1) * bs = t * bs + bs := Nat.succ_mul t bs
      have l1 : t * bs < k * bs := by omega
      have l2 : k * bs < (t + 1) * bs := by omega
      have := Nat.lt_of_mul_lt_mul_right l1
      have := Nat.lt_of_mul_lt_mul_right l2
      omega
theorem blk_mix {K L : Nat → S38} {bs lo hi c d : Nat} (h : Blk K bs lo hi) (hm : Mix K L c d) (hd : hi ≤ c ∨ d ≤ lo) : Blk L bs lo hi := fun t i j h1 h2 h3 h4 => by
  rw [hm.1 i (by omega), hm.1 j (by omega)]; exact h t i j h1 h2 h3 h4
theorem blk_nil (K : Nat → S38) (bs lo : Nat) : Blk K bs lo lo := fun t i j h1 h2 h3 h4 => by omega
def Base3 (M K : Nat → S38) (N : Nat) : Prop := Mix M K 0 N ∧ Stab K N ∧ Small K N
theorem base_more {M K L : Nat → S38} {N a b : Nat} (h : Base3 M K N) (hl : Sorted K L N a b) (hb : b ≤ N) : Base3 M L N := ⟨mix_trans h.1 (mix_wide hl.1 (Nat.zero_le _) hb), hl.2.1, hl.2.2.1⟩
set_option maxHeartbeats 2000000 in
set_option maxRecDepth 100000 in
theorem stable_calls (g N cap : Nat) (M : Nat → S38) (w : World) (h : Arr w g N M) (hN : N ≤ 1000000) (hs : Stab M N) (hsm : Small M N) :
    Calls Try.prog 162 #[.slice (some ⟨g, 0, none⟩) N cap, .int .i64 (N : Int), .func (.func 144) #[] #[]] w fun e w' => e = .returned (.tuple #[]) ∧ (∃ K, Arr w' g N K ∧ Sorted M K N 0 N) ∧ Fr w w' g := by
  have HA := Aside0.mk h
  have HB := Aside0.mk (show Base3 M M N from ⟨mix_refl _ _ _, hs, hsm⟩)
  clear h hs hsm
  go_enter Try.func162, Try.ntmps162
  go_wp2_with fail
  go_loopw [7, 8] (fun va vb wr => ∃ a : Nat, a ≤ N ∧ va = .int .i64 a ∧ vb = .int .i64 ((a : Int) + 20) ∧ (∃ k, Aside0 (a = k * 20)) ∧ (∃ K, Aside0 (Arr wr g N K) ∧ Aside0 (Base3 M K N) ∧ Aside0 (Blk K 20 0 a)) ∧ Aside0 (Fr w wr g)) (fun va _ _ => N + 1 - (intOf va).toNat)
  case atStart => exact ⟨0, by omega, by go_num, by go_num, ⟨0, ⟨rfl⟩⟩, ⟨M, HA, HB, ⟨blk_nil _ _ _⟩⟩, ⟨grow_refl _ _⟩⟩
  case round =>
    clear HA HB
    obtain ⟨a, haN, rfl, rfl, ⟨k, hk⟩, ⟨K, HA1, HB1, HK⟩, HG⟩ := hrel
    by_cases hlt : a + 20 ≤ N
    · have hz : (a : Int) + 20 = ((a + 20 : Nat) : Int) := by omega
      have hcb : decide (((a + 20 : Nat) : Int) ≤ (N : Int)) = true := decide_eq_true (by omega)
      rw [hz]
      clear hz
      go_wp2_with fail
      refine (insertion_calls g N cap K a (a + 20) _ HA1.out hN (by omega) hlt HB1.out.2.1 HB1.out.2.2).mono ?_
      rintro e1 w1 ⟨rfl, ⟨K1, ha1, hk1⟩, hg1⟩
      have HA2 := Aside0.mk ha1
      have HB2 : Aside0 (Base3 M K1 N) := ⟨base_more HB1.out hk1 hlt⟩
      have HK2 : Aside0 (Blk K1 20 0 (a + 20)) := ⟨blk_snoc (blk_mix HK.out hk1.1 (Or.inl (Nat.le_refl _))) hk.out hk1.2.2.2⟩
      have HG2 : Aside0 (Fr w w1 g) := ⟨grow_trans HG.out hg1⟩
      have hk2 : Aside0 (a + 20 = (k + 1) * 20) := by have := hk.out; exact ⟨by omega⟩
      clear ha1 hk1 hg1 HA1 HB1 HK HG hk
      go_wp2_with fail
      go_roundw
      case rel => exact ⟨a + 20, hlt, rfl, by go_num, ⟨k + 1, hk2⟩, ⟨K1, HA2, HB2, HK2⟩, HG2⟩
      case measure => simp [intOf] <;> omega
    · have hcb : decide ((a : Int) + 20 ≤ (N : Int)) = false := decide_eq_false (by omega)
      go_wp2_with fail
      refine (insertion_calls g N cap K a N _ HA1.out hN haN (Nat.le_refl _) HB1.out.2.1 HB1.out.2.2).mono ?_
      rintro e1 w1 ⟨rfl, ⟨K1, ha1, hk1⟩, hg1⟩
      have HA2 := Aside0.mk ha1
      have HB2 : Aside0 (Base3 M K1 N) := ⟨base_more HB1.out hk1 (Nat.le_refl _)⟩
      have HK2 : Aside0 (Blk K1 20 0 N) := ⟨blk_snoc (blk_mix HK.out hk1.1 (Or.inl (Nat.le_refl _))) hk.out hk1.2.2.2⟩
      have HG2 : Aside0 (Fr w w1 g) := ⟨grow_trans HG.out hg1⟩
      clear ha1 hk1 hg1 HA1 HB1 HK HG hk hcb
      go_wp2_with fail
      go_loopw [6] (fun vs wr => ∃ s : Nat, 0 < s ∧ s ≤ 2000020 ∧ vs = .int .i64 s ∧ (∃ K, Aside0 (Arr wr g N K) ∧ Aside0 (Base3 M K N) ∧ Aside0 (Blk K s 0 N)) ∧ Aside0 (Fr w wr g)) (fun vs _ => N - (intOf vs).toNat)
      case atStart => exact ⟨20, by omega, by omega, by go_num, ⟨K1, HA2, HB2, HK2⟩, HG2⟩
      case round =>
        clear HA2 HB2 HK2 HG2
        obtain ⟨s, hs0, hs1, rfl, ⟨K, HA1, HB1, HK⟩, HG⟩ := hrel
        by_cases hsn : s < N
        · obtain ⟨s2, hs2⟩ : ∃ s2, 2 * s = s2 := ⟨_, rfl⟩
          have hz : (2 : Int) * (s : Int) = (s2 : Int) := by omega
          have hz3 : (s : Int) * 2 = (s2 : Int) := by omega
          have bs2 : s2 ≤ 2000000 := by omega
          have hcs : decide ((s : Int) < (N : Int)) = true := decide_eq_true (by omega)
          have HS := Aside0.mk hs2
          have HK0 : Aside0 (Blk K s2 0 0 ∧ Blk K s 0 N) := ⟨blk_nil _ _ _, HK.out⟩
          clear HK hs2
          go_wp2_with fail
          obtain ⟨wo, rfl⟩ : ∃ wo : World, wo = wr := ⟨_, rfl⟩
          go_loopw [7, 8] (fun va vb wr => ∃ a b : Nat, a ≤ N ∧ va = .int .i64 a ∧ vb = .int .i64 b ∧ Aside0 (a + s2 = b) ∧ (∃ k, Aside0 (a = k * s2)) ∧ (∃ K, Aside0 (Arr wr g N K) ∧ Aside0 (Base3 M K N) ∧ Aside0 (Blk K s2 0 a ∧ Blk K s a N)) ∧ Aside0 (Fr w wr g)) (fun va _ _ => N + 1 - (intOf va).toNat)
          case atStart => exact ⟨0, s2, by omega, by go_num, rfl, ⟨by omega⟩, ⟨0, ⟨by omega⟩⟩, ⟨K, HA1, HB1, HK0⟩, HG⟩
          case round =>
            clear HA1 HB1 HK0 HG
            obtain ⟨a, b, haN, rfl, rfl, HBB, ⟨k, hk⟩, ⟨K, HA1, HB1, HK⟩, HG⟩ := hrel
            obtain ⟨m, hm⟩ : ∃ m, a + s = m := ⟨_, rfl⟩
            have hz2 : (a : Int) + (s : Int) = (m : Int) := by omega
            have HM := Aside0.mk hm
            clear hm
            by_cases hlt : b ≤ N
            · have hcb : decide ((b : Int) ≤ (N : Int)) = true := decide_eq_true (by omega)
              go_wp2_with fail
              refine (sym_ok g N cap hN N K a m b _ (by omega) HA1.out (by have := HM.out; omega) (by have := HM.out; have := HBB.out; have := HS.out; omega) hlt HB1.out.2.1 HB1.out.2.2 (blk_head HK.out.2 (by have := HM.out; omega) (by have := HM.out; have := HBB.out; have := HS.out; omega)) (blk_head (by rw [← HM.out]; exact blk_shift HK.out.2) (by have := HM.out; have := HBB.out; have := HS.out; omega) hlt)).mono ?_
              rintro e1 w1 ⟨rfl, ⟨K1, ha1, hk1⟩, hg1⟩
              have HA2 := Aside0.mk ha1
              have HB2 : Aside0 (Base3 M K1 N) := ⟨base_more HB1.out hk1 hlt⟩
              have HK2 : Aside0 (Blk K1 s2 0 b ∧ Blk K1 s b N) := ⟨blk_snoc (blk_mix HK.out.1 hk1.1 (Or.inl (Nat.le_refl _))) hk.out hk1.2.2.2, blk_mix (by rw [show b = a + s + s by have := HBB.out; have := HS.out; omega]; exact blk_shift (blk_shift HK.out.2)) hk1.1 (Or.inr (Nat.le_refl _))⟩
              have HG2 : Aside0 (Fr w w1 g) := ⟨grow_trans HG.out hg1⟩
              have hk2 : Aside0 (b = (k + 1) * s2) := ⟨by rw [Nat.succ_mul, ← hk.out, HBB.out]⟩
              have hlb : Aside0 (a < b) := ⟨by have := HBB.out; have := HS.out; omega⟩
              clear ha1 hk1 hg1 HA1 HB1 HK HG hk HBB HM
              go_wp2_with fail
              go_roundw
              case rel => exact ⟨b, b + s2, hlt, rfl, by rw [Int.natCast_add], ⟨rfl⟩, ⟨k + 1, hk2⟩, ⟨K1, HA2, HB2, HK2⟩, HG2⟩
              case measure => have := hlb.out; simp [intOf] <;> omega
            · have hcb : decide ((b : Int) ≤ (N : Int)) = false := decide_eq_false (by omega)
              have hsp : Aside0 (0 < s2 ∧ s < s2) := ⟨by have := HS.out; omega⟩
              by_cases hmn : m < N
              · have hcm : decide ((m : Int) < (N : Int)) = true := decide_eq_true (by omega)
                go_wp2_with fail
                refine (sym_ok g N cap hN N K a m N _ (by omega) HA1.out (by have := HM.out; omega) hmn (Nat.le_refl _) HB1.out.2.1 HB1.out.2.2 (blk_head HK.out.2 (by have := HM.out; omega) (by omega)) (blk_head (by rw [← HM.out]; exact blk_shift HK.out.2) (by have := HM.out; have := HBB.out; have := HS.out; omega) (Nat.le_refl _))).mono ?_
                rintro e1 w1 ⟨rfl, ⟨K1, ha1, hk1⟩, hg1⟩
                have HA2 := Aside0.mk ha1
                have HB2 : Aside0 (Base3 M K1 N) := ⟨base_more HB1.out hk1 (Nat.le_refl _)⟩
                have HK2 : Aside0 (Blk K1 s2 0 N) := ⟨blk_snoc (blk_mix HK.out.1 hk1.1 (Or.inl (Nat.le_refl _))) hk.out hk1.2.2.2⟩
                have HG2 : Aside0 (Fr w w1 g) := ⟨grow_trans HG.out hg1⟩
                clear ha1 hk1 hg1 HA1 HB1 HK HG hk HBB HM
                go_wp2_with fail
                go_roundw
                case rel => exact ⟨s2, hsp.out.1, by omega, rfl, ⟨K1, HA2, HB2, HK2⟩, HG2⟩
                case measure => have := hsp.out; simp [intOf] <;> omega
              · have hcm : decide ((m : Int) < (N : Int)) = false := decide_eq_false (by omega)
                have HK2 : Aside0 (Blk K s2 0 N) := ⟨blk_snoc HK.out.1 hk.out (blk_head HK.out.2 (by have := HM.out; omega) (Nat.le_refl _))⟩
                clear HK hk HBB HM
                go_wp2_with fail
                go_roundw
                case rel => exact ⟨s2, hsp.out.1, by omega, rfl, ⟨K, HA1, HB1, HK2⟩, HG⟩
                case measure => have := hsp.out; simp [intOf] <;> omega
        · have hcs : decide ((s : Int) < (N : Int)) = false := decide_eq_false (by omega)
          go_wp2_with fail
          go_end0
          exact ⟨rfl, ⟨K, HA1.out, HB1.out.1, HB1.out.2.1, HB1.out.2.2, blk_head HK.out (by omega) (Nat.le_refl _)⟩, HG.out⟩
theorem sortStable_calls (g N cap : Nat) (M : Nat → S38) (w : World) (h : Arr w g N M) (hN : N ≤ 1000000) (hs : Stab M N) (hsm : Small M N) :
    Calls Try.prog 143 #[.slice (some ⟨g, 0, none⟩) N cap, .func (.func 144) #[] #[]] w fun e w' => e = .returned (.tuple #[]) ∧ (∃ K, Arr w' g N K ∧ Sorted M K N 0 N) ∧ Fr w w' g := by
  go_enter Try.func143, Try.ntmps143
  go_wp2_with fail
  refine (stable_calls g N cap M w h hN hs hsm).mono ?_
  rintro e1 w1 ⟨rfl, h1, h2⟩
  go_wp2_with fail
  go_end0
  exact ⟨rfl, h1, h2⟩
end Go.Proofs.Ytkcpanpdipmmmaa.H

/- Between the form of a row of the call's own and Arr. -/
set_option linter.unusedVariables false
set_option linter.unusedSimpArgs false
namespace Go.Proofs.Ytkcpanpdipmmmaa.H
open Go.RowKit Go.Proofs.YtkcpanpdipmmmaaW.PrintWords Go.Proofs.YtkcpanpdipmmmaaW.PrintLast Go.Proofs.YtkcpanpdipmmmaaW.PrintMore Go.Proofs.Ytkcpanpdipmmmaa.P
theorem arr_of_R {w : World} {base g cap : Nat} {ok : Nat → Prop} {xs : List S38} (h : Kd.R k38 38 w base ok (.slice (some ⟨g, 0, none⟩) xs.length cap) xs) (hp : 0 < xs.length) : Arr w g xs.length fun i => xs.getD i z38 := by
  obtain ⟨g2, cap2, e, _, _, cells, hb⟩ := Kd.R_form h hp
  have eg : g = g2 := by
    injection e with e1 e2 e3
    injection e1 with e1
    injection e1
  subst eg
  refine ⟨cells, hb, fun x hx => ?_⟩
  obtain ⟨ad, ea, h1, h2⟩ := at_T38 (Kd.R_reads' h).2.2 (x : Int) (by omega) (by omega)
  injection ea with ea
  subst ea
  simp only [Int.toNat_natCast, add_plain] at h1 h2
  constructor
  · have := h1
    simp only [World.cell?, hb] at this
    simpa [rd_T38] using this
  · have := h2
    simp only [World.cell?, hb] at this
    simpa [rd_T38] using this
theorem R_of_arr {w w' : World} {base g N cap : Nat} {ok ok' : Nat → Prop} {xs : List S38} {K : Nat → S38} (h : Kd.R k38 38 w base ok (.slice (some ⟨g, 0, none⟩) xs.length cap) xs) (hN : xs.length = N) (hp : 0 < N) (ha : Arr w' g N K) (hf : Fr w w' g) (hok : ok' g) :
    Kd.R k38 38 w' base ok' (.slice (some ⟨g, 0, none⟩) N cap) ((List.range N).map K) := by
  obtain ⟨h0, inner, ho, hr⟩ := h
  obtain ⟨cells', hb', hc⟩ := ha
  obtain ⟨_, hq⟩ := ho
  rcases hq with ⟨e, _⟩ | ⟨g2, cap2, cur, e, hbase, hb, hn, hm, hs, ht⟩
  · injection e with e1; cases e1
  · injection e with e1 e2 e3
    injection e1 with e1
    injection e1 with e1
    subst e1; subst e3
    obtain ⟨c2, hb2, hs2⟩ := hf.2 _ _ _ hb
    have ec : c2 = cells' := by
      have := hb2.symm.trans hb'
      injection this with this
      injection this
    subst ec
    have hlen : (c2.toList.take (N * 2)).length = N * 2 := by
      rw [List.length_take, Array.length_toList, hs2, hs]
      have : N ≤ cap := by omega
      have : N * 2 ≤ cap * 2 := Nat.mul_le_mul_right _ this
      show min (N * 2) (cap * 2) = N * 2
      omega
    refine ⟨fun k hk => ?_, c2.toList.take (N * 2), ⟨?_, Or.inr ⟨g, cap, c2, ?_, hbase, hb2, ?_, hm, by rw [hs2, hs], ?_⟩⟩, ?_, fun j p hj => ?_⟩
    · have : g = k := by simpa [Value.ownBlock] using hk
      subst this; exact hok
    · rw [hlen, List.length_map, List.length_range]; rfl
    · rw [List.length_map, List.length_range]
    · rw [List.length_map, List.length_range]; omega
    · rw [List.length_map, List.length_range]; rfl
    · rw [hlen, List.length_map, List.length_range]; rfl
    · rw [List.getElem?_map] at hj
      obtain ⟨q, hq, rfl⟩ := Option.map_eq_some_iff.1 hj
      have hjN : j < N := by
        have := (List.getElem?_eq_some_iff.1 hq).1
        rwa [List.length_range] at this
      have eq : q = j := by
        rw [List.getElem?_range hjN] at hq
        injection hq with hq; exact hq.symm
      subst eq
      have e : ((c2.toList.take (N * 2)).drop (q * 2)).take 2 = [.int .i64 (K q).f0, .bool (K q).f1] := by
        obtain ⟨c0, c1⟩ := hc q hjN
        apply List.ext_getElem?
        intro m
        rw [List.getElem?_take, List.getElem?_drop, List.getElem?_take]
        match m with
        | 0 => rw [if_pos (by omega), if_pos (by omega), Nat.add_zero, Array.getElem?_toList, c0]; rfl
        | 1 => rw [if_pos (by omega), if_pos (by omega), Array.getElem?_toList, c1]; rfl
        | m + 2 => rw [if_neg (by omega)]; rfl
      show (Kd.M k38 w' base _ (K q) (((c2.toList.take (N * 2)).drop (q * 2)).take 2))
      rw [e]
      exact k38_mkM _ _ _ _
theorem stab_of_list {xs : List S38} (h : xs.Pairwise fun x y => x.f0 = y.f0 → x.f1 = false ∧ y.f1 = true) : Stab (fun i => xs.getD i z38) xs.length := by
  intro i j hij hj e
  rw [List.pairwise_iff_getElem] at h
  have hi : i < xs.length := by omega
  simp only [List.getD_eq_getElem?_getD, List.getElem?_eq_getElem hi, List.getElem?_eq_getElem hj, Option.getD_some] at e ⊢
  exact h i j hi hj hij e
theorem small_steps {l : List S74} {n : Nat} {v : Int} (hv0 : 0 ≤ v) (hv : v < n) (hE : ends l n) (hl : l.length ≤ 1000000) : Small (fun i => (stepsU l n v).getD i z38) (stepsU l n v).length := by
  intro i hi
  simp only [List.getD_eq_getElem?_getD, List.getElem?_eq_getElem hi, Option.getD_some]
  obtain ⟨k, h1, h2, _⟩ := (mem_stepsU l n v hv0 hv hE _).1 (List.getElem_mem hi)
  rw [h2]
  omega
theorem sorted_is {l : List S74} {n : Nat} {v : Int} {K : Nat → S38} (hv0 : 0 ≤ v) (hv : v < n) (hE : ends l n)
    (h : Sorted (fun i => (stepsU l n v).getD i z38) K (stepsU l n v).length 0 (stepsU l n v).length) : (List.range (stepsU l n v).length).map K = stL l v l.length := by
  obtain ⟨⟨_, m1, m2⟩, hst, _, hle⟩ := h
  refine sorted_uniq _ _ ?_ (sorted_stL l v l.length) fun s => ?_
  · rw [List.pairwise_map]
    refine List.Pairwise.imp_of_mem (R := (· < ·)) (fun {a b} ha hb hab => ?_) List.pairwise_lt_range
    rw [List.mem_range] at ha hb
    have := hle a b (Nat.zero_le _) hab hb
    by_cases e : (K a).f0 = (K b).f0
    · exact Or.inr ⟨e, hst a b hab hb e⟩
    · exact Or.inl (by omega)
  · rw [mem_stL, ← mem_stepsU l n v hv0 hv hE, List.mem_map]
    constructor
    · rintro ⟨i, hi, rfl⟩
      rw [List.mem_range] at hi
      obtain ⟨y, _, hy, e⟩ := m1 i (Nat.zero_le _) hi
      rw [e]
      simp only [List.getD_eq_getElem?_getD, List.getElem?_eq_getElem hy, Option.getD_some]
      exact List.getElem_mem hy
    · intro hs
      obtain ⟨y, hy, e⟩ := List.mem_iff_getElem.1 hs
      obtain ⟨x, _, hx, e2⟩ := m2 y (Nat.zero_le _) hy
      refine ⟨x, List.mem_range.2 hx, ?_⟩
      rw [e2]
      simp only [List.getD_eq_getElem?_getD, List.getElem?_eq_getElem hy, Option.getD_some]
      exact e
/-- The rows when the first k are done. -/
def rowsAt (l : List S74) (n k : Nat) : List (List S38) := (List.range n).map fun v => if v < k then stL l v l.length else []
theorem rowsAt_len (l : List S74) (n k : Nat) : (rowsAt l n k).length = n := by
  unfold rowsAt; rw [List.length_map, List.length_range]
theorem rowsAt_get (l : List S74) (n k v : Nat) (hv : v < n) : (rowsAt l n k)[v]? = some (if v < k then stL l v l.length else []) := by
  unfold rowsAt
  rw [List.getElem?_map, List.getElem?_range hv]
  rfl
theorem rowsAt_zero (l : List S74) (n : Nat) : rowsAt l n 0 = List.replicate n [] := by
  apply List.ext_getElem?
  intro v
  by_cases hv : v < n
  · rw [rowsAt_get l n 0 v hv, List.getElem?_replicate, if_pos hv, if_neg (by omega)]
  · rw [List.getElem?_eq_none (by rw [rowsAt_len]; omega), List.getElem?_eq_none (by rw [List.length_replicate]; omega)]
theorem rowsAt_set (l : List S74) (n k : Nat) (hk : k < n) : (rowsAt l n k).set k (stL l k l.length) = rowsAt l n (k + 1) := by
  apply List.ext_getElem?
  intro v
  by_cases hv : v < n
  · rw [rowsAt_get l n (k + 1) v hv]
    by_cases e : k = v
    · subst e
      rw [List.getElem?_set_self (by rw [rowsAt_len]; exact hk), if_pos (by omega)]
    · rw [List.getElem?_set_ne e, rowsAt_get l n k v hv]
      by_cases c : v < k
      · rw [if_pos c, if_pos (by omega)]
      · rw [if_neg c, if_neg (by omega)]
  · rw [List.getElem?_eq_none (by rw [List.length_set, rowsAt_len]; omega), List.getElem?_eq_none (by rw [rowsAt_len]; omega)]
theorem rowsAt_self (l : List S74) (n k : Nat) (hk : k < n) : (rowsAt l n k).set k [] = rowsAt l n k := by
  apply List.ext_getElem?
  intro v
  by_cases e : k = v
  · subst e
    rw [List.getElem?_set_self (by rw [rowsAt_len]; exact hk), rowsAt_get l n k k hk, if_neg (by omega)]
  · rw [List.getElem?_set_ne e]
theorem rd_set (X : List (List S38)) (k : Nat) (r : List S38) (hk : k < X.length) : rd_L4 (X.set k r) (k : Int) = r := by
  unfold rd_L4
  rw [List.getD_eq_getElem?_getD, Int.toNat_natCast, List.getElem?_set_self hk]
  rfl
end Go.Proofs.Ytkcpanpdipmmmaa.H

/- cost.settled: what its walk needs besides: steps of a row, numbers in bounds, rows in three blocks. -/
set_option linter.unusedVariables false
set_option linter.unusedSimpArgs false
namespace Go.Proofs.Ytkcpanpdipmmmaa.H
open Go.RowKit Go.Proofs.YtkcpanpdipmmmaaW.PrintWords Go.Proofs.YtkcpanpdipmmmaaW.PrintLast Go.Proofs.YtkcpanpdipmmmaaW.PrintMore Go.Proofs.Ytkcpanpdipmmmaa.P
/-- Blocks besides three are kept. -/
structure Kp (gd gi gb : Nat) (w w' : World) : Prop where
  os : w'.os = w.os
  tape : w'.tape = w.tape
  output : w'.output = w.output
  size : w.heap.size ≤ w'.heap.size
  block : ∀ k, k < w.heap.size → k ≠ gd → k ≠ gi → k ≠ gb → w'.heap[k]? = w.heap[k]?
theorem Kp.refl (gd gi gb : Nat) (w : World) : Kp gd gi gb w w := ⟨rfl, rfl, rfl, Nat.le_refl _, fun _ _ _ _ _ => rfl⟩
theorem Kp.below {gd gi gb : Nat} {w w1 w2 : World} (h : Kp gd gi gb w w1) (hb : Below w1.heap.size w1 w2) : Kp gd gi gb w w2 :=
  ⟨hb.os.trans h.os, hb.tape.trans h.tape, hb.output.trans h.output, Nat.le_trans h.size hb.size, fun k hk h1 h2 h3 => (hb.block k (Nat.lt_of_lt_of_le hk h.size)).trans (h.block k hk h1 h2 h3)⟩
theorem Kp.set {gd gi gb : Nat} {w w1 : World} (h : Kp gd gi gb w w1) {g : Nat} (hg : g = gd ∨ g = gi ∨ g = gb) (j : Nat) (u : Value) : Kp gd gi gb w (w1.setCell ⟨g, j, none⟩ u) :=
  ⟨h.os, h.tape, h.output, by simpa [World.setCell] using h.size, fun k hk h1 h2 h3 => (Below.heap_setCell w1 ⟨g, j, none⟩ u k (by rcases hg with rfl | rfl | rfl <;> assumption)).trans (h.block k hk h1 h2 h3)⟩
theorem Kp.toBelow {gd gi gb B : Nat} {w0 w w' : World} (h : Kp gd gi gb w w') (hb : Below B w0 w) (hB : B ≤ w.heap.size) (h1 : B ≤ gd) (h2 : B ≤ gi) (h3 : B ≤ gb) : Below B w0 w' :=
  hb.trans ⟨h.os, h.tape, h.output, h.size, fun k hk => h.block k (by omega) (by omega) (by omega) (by omega)⟩
/-- Numbers not beyond a bound. -/
def Bd (D : List Int) (c : Int) : Prop := ∀ v : Nat, -(1048576 * c) ≤ D.getD v 0 ∧ D.getD v 0 ≤ 1048576 * c
theorem Bd.mono {D : List Int} {c c' : Int} (h : Bd D c) (hc : c ≤ c') : Bd D c' := fun v => by have := h v; omega
theorem Bd.set {D : List Int} {c : Int} (h : Bd D c) (hc : 0 ≤ c) (u v : Nat) (t : Int) (h1 : -1048576 ≤ t) (h2 : t ≤ 1048576) : Bd (D.set u (D.getD v 0 + t)) (c + 1) := by
  intro z
  have hz := h z
  have hv := h v
  by_cases e : u = z
  · subst e
    by_cases hl : u < D.length
    · rw [getD_set_eq _ _ _ _ hl]; omega
    · rw [List.getD_eq_getElem?_getD, List.getElem?_eq_none (by rw [List.length_set]; omega)]
      show _ ≤ (0 : Int) ∧ (0 : Int) ≤ _
      omega
  · rw [getD_set_ne _ _ _ _ _ e]; omega
/-- Arcs and a flow that are right. -/
structure Right (l : List S74) (F : List Int) (n : Nat) : Prop where
  pos : 0 < n
  fifty : n ≤ 50
  arcs : l.length ≤ 200
  len : F.length = l.length
  ends : ends l n
  nums : ∀ i : Nat, i < l.length → 0 ≤ (rd_T74 l i).f3 ∧ (rd_T74 l i).f3 ≤ 1048576 ∧ 0 ≤ F.getD i 0 ∧ F.getD i 0 ≤ (rd_T74 l i).f2 ∧ (rd_T74 l i).f2 ≤ 1048576
theorem stL_len (l : List S74) (v : Int) (k : Nat) : (stL l v k).length ≤ 2 * k := by
  induction k with
  | zero => exact Nat.le_refl _
  | succ k ih =>
    unfold stL
    rw [List.length_append, List.length_append]
    split <;> split <;> simp <;> omega
/-- A step of one of the arcs. -/
def StepOf (l : List S74) (s : S38) : Prop := ∃ i : Nat, i < l.length ∧ s.f0 = i
theorem stL_of {l : List S74} {v : Int} {s : S38} (h : s ∈ stL l v l.length) : StepOf l s := by
  obtain ⟨i, h1, h2, _⟩ := (mem_stL l v l.length s).1 h
  exact ⟨i, h1, h2⟩
theorem stL_from {l : List S74} {v : Int} {s : S38} (h : s ∈ stL l v l.length) : stFrom l s = v := by
  obtain ⟨i, h1, h2, h3⟩ := (mem_stL l v l.length s).1 h
  unfold stFrom
  rw [h2]
  rcases h3 with ⟨h3, h4⟩ | ⟨h3, h4⟩
  · rw [h3]; exact h4
  · rw [h3]; exact h4
theorem stTo_in {l : List S74} {F : List Int} {n : Nat} (hr : Right l F n) {s : S38} (hs : StepOf l s) : 0 ≤ stTo l s ∧ stTo l s < n := by
  obtain ⟨i, h1, h2⟩ := hs
  have := hr.ends i h1
  unfold stTo
  rw [h2]
  split
  · exact this.1
  · exact this.2
theorem stTime_in {l : List S74} {F : List Int} {n : Nat} (hr : Right l F n) {s : S38} (hs : StepOf l s) : -1048576 ≤ stTime l s ∧ stTime l s ≤ 1048576 := by
  obtain ⟨i, h1, h2⟩ := hs
  have := hr.nums i h1
  unfold stTime
  rw [h2]
  split <;> omega
theorem to_f {l : List S74} {F : List Int} {n : Nat} (hr : Right l F n) {s : S38} (hs : StepOf l s) (a : Int) (b : Bool) : static_Flowing_To.f a b l F s.f0 s.f1 = some (stTo l s) := by
  obtain ⟨i, h1, h2⟩ := hs
  unfold static_Flowing_To.f static_Flowing_From.f stTo eFrom eTo
  rw [h2]
  cases s.f1 <;> simp [h1]
theorem time_f {l : List S74} {F : List Int} {n : Nat} (hr : Right l F n) {s : S38} (hs : StepOf l s) (a : Int) (b : Bool) : static_Flowing_Time.f a b l F s.f0 s.f1 = some (stTime l s) := by
  obtain ⟨i, h1, h2⟩ := hs
  have h3 := hr.nums i h1
  unfold static_Flowing_Time.f stTime
  rw [h2]
  cases s.f1
  · simp [h1]
  · have : wrap64 (-(rd_T74 l i).f3) = -(rd_T74 l i).f3 := by unfold wrap64; omega
    simp [h1, this]
theorem room_f {l : List S74} {F : List Int} {n : Nat} (hr : Right l F n) {s : S38} (hs : StepOf l s) (a : Int) (b : Bool) : static_Flowing_Room.f a b l F s.f0 s.f1 = some (stRoom l F s) := by
  obtain ⟨i, h1, h2⟩ := hs
  have h3 := hr.nums i h1
  have h4 := hr.len
  unfold static_Flowing_Room.f stRoom
  rw [h2]
  have e : rd F (i : Int) = F.getD i 0 := by unfold rd; rw [Int.toNat_natCast]
  cases s.f1
  · have : wrap64 ((rd_T74 l i).f2 - F.getD i 0) = (rd_T74 l i).f2 - F.getD i 0 := by unfold wrap64; omega
    rw [if_neg (by simp), if_pos (by omega), if_pos (by omega), if_pos (by omega), if_neg (by simp), e, this, Int.toNat_natCast]
  · rw [if_pos rfl, if_pos (by omega), if_pos (by omega), if_pos rfl, e, Int.toNat_natCast]
end Go.Proofs.Ytkcpanpdipmmmaa.H

/- cost.settled: what stands in memory in its rounds. -/
set_option linter.unusedVariables false
set_option linter.unusedSimpArgs false
namespace Go.Proofs.Ytkcpanpdipmmmaa.H
open Go.RowKit Go.Proofs.YtkcpanpdipmmmaaW.PrintWords Go.Proofs.YtkcpanpdipmmmaaW.PrintLast Go.Proofs.YtkcpanpdipmmmaaW.PrintMore Go.Proofs.Ytkcpanpdipmmmaa.P
def okR (gd gi gb : Nat) (k : Nat) : Prop := k ≠ gd ∧ k ≠ gi ∧ k ≠ gb
structure Fm (n0 : Nat) (a0_1 : Bool) (A2 : Option Addr) (c2 : Nat) (l : List S74) (A3 : Option Addr) (c3 : Nat) (F : List Int) (A4 : Option Addr) (c4 : Nat) (gd gi gb cd ci cb b0 g2 g3 : Nat) (w : World) (x : Rch) (w' : World) : Prop where
  D : Kd.R (Kd.int .i64) 3 w' b0 (fun _ => True) (.slice (some ⟨gd, 0, none⟩) n0 cd) x.D
  I : Kd.R Kd.bool 4 w' b0 (fun _ => True) (.slice (some ⟨gi, 0, none⟩) n0 ci) x.I
  B : Kd.R k38 38 w' b0 (fun _ => True) (.slice (some ⟨gb, 0, none⟩) n0 cb) x.B
  b2 : w'.heap[g2]? = some (.cells #[.int .i64 n0, .bool a0_1, .slice A2 l.length c2, .slice A3 F.length c3, .slice A4 n0 c4] 118 (0, 0))
  b3 : w'.heap[g3]? = some (.cells #[.slice (some ⟨gd, 0, none⟩) n0 cd, .slice (some ⟨gi, 0, none⟩) n0 ci, .slice (some ⟨gb, 0, none⟩) n0 cb] 109 (0, 0))
  arcs : Kd.F k74 w' (okR gd gi gb) A2 l.length l
  flow : Kd.F (Kd.int .i64) w' (okR gd gi gb) A3 F.length F
  rows : Kd.V (Kd.slice 38 k38) 34 w' w.heap.size (okR gd gi gb) (.slice A4 n0 c4) (rowsAt l n0 n0)
  kp : Kp gd gi gb w w'
section
variable {n0 : Nat} {a0_1 : Bool} {A2 : Option Addr} {c2 : Nat} {l : List S74} {A3 : Option Addr} {c3 : Nat} {F : List Int} {A4 : Option Addr} {c4 : Nat} {gd gi gb cd ci cb b0 g2 g3 : Nat} {w : World} {x : Rch} {w1 w2 : World}
theorem Fm.below (h : Fm n0 a0_1 A2 c2 l A3 c3 F A4 c4 gd gi gb cd ci cb b0 g2 g3 w (x) (w1)) (hb : Below w1.heap.size w1 w2) : Fm n0 a0_1 A2 c2 l A3 c3 F A4 c4 gd gi gb cd ci cb b0 g2 g3 w (x) (w2) :=
  ⟨Kd.R_below h.D hb, Kd.R_below h.I hb, Kd.R_below h.B hb, blk_below h.b2 hb, blk_below h.b3 hb, Kd.F_below h.arcs hb, Kd.F_below h.flow hb, Kd.V_below h.rows hb, h.kp.below hb⟩
theorem Fm.still (h : Fm n0 a0_1 A2 c2 l A3 c3 F A4 c4 gd gi gb cd ci cb b0 g2 g3 w (x) (w1)) (b : Bool) : Fm n0 a0_1 A2 c2 l A3 c3 F A4 c4 gd gi gb cd ci cb b0 g2 g3 w ({ x with still := b }) (w1) := ⟨h.D, h.I, h.B, h.b2, h.b3, h.arcs, h.flow, h.rows, h.kp⟩
theorem Fm.blocks (h : Fm n0 a0_1 A2 c2 l A3 c3 F A4 c4 gd gi gb cd ci cb b0 g2 g3 w (x) (w1)) (hx : x.Ok n0) (hn : 0 < n0) : gd ≠ gi ∧ gd ≠ gb ∧ gi ≠ gb ∧ g2 ≠ gd ∧ g2 ≠ gi ∧ g2 ≠ gb ∧ g3 ≠ gd ∧ g3 ≠ gi ∧ g3 ≠ gb ∧ gd < w1.heap.size ∧ gi < w1.heap.size ∧ gb < w1.heap.size := by
  obtain ⟨a, ca, ea, _, hla, ca_, ha⟩ := Kd.R_form h.D (by rw [hx.hD]; exact hn)
  obtain ⟨b, cb_, eb, _, hlb, cb2, hb⟩ := Kd.R_form h.I (by rw [hx.hI]; exact hn)
  obtain ⟨c, cc, ec, _, hlc, cc_, hc⟩ := Kd.R_form h.B (by rw [hx.hB]; exact hn)
  injection ea with ea _ _
  injection ea with ea
  injection ea with ea
  injection eb with eb _ _
  injection eb with eb
  injection eb with eb
  injection ec with ec _ _
  injection ec with ec
  injection ec with ec
  subst ea
  subst eb
  subst ec
  have ne : ∀ {p q : Nat} {c1 c2 : Array Value} {t1 t2 : Nat}, w1.heap[p]? = some (.cells c1 t1 (0, 0)) → w1.heap[q]? = some (.cells c2 t2 (0, 0)) → t1 ≠ t2 → p ≠ q := by
    intro p q c1 c2 t1 t2 h1 h2 ht e
    subst e
    rw [h1] at h2
    injection h2 with h2
    injection h2 with _ h2
    exact ht h2
  exact ⟨ne ha hb (by decide), ne ha hc (by decide), ne hb hc (by decide), ne h.b2 ha (by decide), ne h.b2 hb (by decide), ne h.b2 hc (by decide), ne h.b3 ha (by decide), ne h.b3 hb (by decide), ne h.b3 hc (by decide), hla, hlb, hlc⟩
theorem Fm.dv (h : Fm n0 a0_1 A2 c2 l A3 c3 F A4 c4 gd gi gb cd ci cb b0 g2 g3 w (x) (w1)) {v : Nat} (hv : v < n0) : w1.cell? ⟨gd, v, none⟩ = some (.int .i64 (x.D.getD v 0)) := by
  obtain ⟨ad, e, hc⟩ := Kd.at_int (Kd.R_reads' h.D).2.2 (v : Int) (by omega) (by have := (Kd.R_reads' h.D).1; omega)
  cases e
  simpa [rd, add_plain] using hc
theorem Fm.iv (h : Fm n0 a0_1 A2 c2 l A3 c3 F A4 c4 gd gi gb cd ci cb b0 g2 g3 w (x) (w1)) {v : Nat} (hv : v < n0) : w1.cell? ⟨gi, v, none⟩ = some (.bool (x.I.getD v false)) := by
  obtain ⟨ad, e, hc⟩ := Kd.at_bool (Kd.R_reads' h.I).2.2 (v : Int) (by omega) (by have := (Kd.R_reads' h.I).1; omega)
  cases e
  simpa [rdOf, add_plain] using hc
theorem Fm.bv (h : Fm n0 a0_1 A2 c2 l A3 c3 F A4 c4 gd gi gb cd ci cb b0 g2 g3 w (x) (w1)) {v : Nat} (hv : v < n0) : w1.cell? ⟨gb, v * 2, none⟩ = some (.int .i64 (rd_T38 x.B v).f0) ∧ w1.cell? ⟨gb, v * 2 + 1, none⟩ = some (.bool (rd_T38 x.B v).f1) := by
  obtain ⟨ad, e, h1, h2⟩ := at_T38 (Kd.R_reads' h.B).2.2 (v : Int) (by omega) (by have := (Kd.R_reads' h.B).1; omega)
  cases e
  simp only [Int.toNat_natCast, add_plain] at h1 h2
  exact ⟨h1, h2⟩
theorem Fm.free (h : Fm n0 a0_1 A2 c2 l A3 c3 F A4 c4 gd gi gb cd ci cb b0 g2 g3 w (x) (w1)) (hn : 0 < n0) (j : Nat) : w1.frozen? ⟨gd, j, none⟩ = false ∧ w1.frozen? ⟨gi, j, none⟩ = false ∧ w1.frozen? ⟨gb, j, none⟩ = false := by
  have h1 := (Kd.R_reads' h.D).1
  have h2 := (Kd.R_reads' h.I).1
  have h3 := (Kd.R_reads' h.B).1
  obtain ⟨a, ca, ea, _, hla, ca_, ha⟩ := Kd.R_form h.D (by omega)
  obtain ⟨b, cb_, eb, _, hlb, cb2, hb⟩ := Kd.R_form h.I (by omega)
  obtain ⟨c, cc, ec, _, hlc, cc_, hc⟩ := Kd.R_form h.B (by omega)
  injection ea with ea _ _
  injection ea with ea
  injection ea with ea
  injection eb with eb _ _
  injection eb with eb
  injection eb with eb
  injection ec with ec _ _
  injection ec with ec
  injection ec with ec
  subst ea
  subst eb
  subst ec
  exact ⟨blk_frozen ha j, blk_frozen hb j, blk_frozen hc j⟩
theorem Fm.put (h : Fm n0 a0_1 A2 c2 l A3 c3 F A4 c4 gd gi gb cd ci cb b0 g2 g3 w (x) (w1)) (hx : x.Ok n0) (hn : 0 < n0) {u : Nat} (hu : u < n0) (d : Int) (s : S38) :
    Fm n0 a0_1 A2 c2 l A3 c3 F A4 c4 gd gi gb cd ci cb b0 g2 g3 w ((⟨x.D.set u d, x.I.set u true, x.B.set u s, false⟩ : Rch)) (((((w1.setCell ⟨gd, u, none⟩ (.int .i64 d)).setCell ⟨gi, u, none⟩ (.bool true)).setCell ⟨gb, u * 2, none⟩ (.int .i64 s.f0)).setCell ⟨gb, u * 2 + 1, none⟩ (.bool s.f1))) := by
  obtain ⟨n1, n2, n3, n4, n5, n6, n7, n8, n9, _, _, _⟩ := h.blocks hx hn
  -- the first store
  have d1 := Kd.R_putg h.D (u : Int) d
  simp only [Int.toNat_natCast] at d1
  have i1 := Kd.R_over' h.I (Kd.R_typed h.D) (by decide) d1.2
  have b1 := Kd.R_over' h.B (Kd.R_typed h.D) (by decide) d1.2
  have i2 := Kd.R_putg i1 (u : Int) true
  simp only [Int.toNat_natCast] at i2
  have d2 := Kd.R_over' d1.1 (Kd.R_typed i1) (by decide) i2.2
  have b2 := Kd.R_over' b1 (Kd.R_typed i1) (by decide) i2.2
  have hB := (Kd.R_reads' b2).1
  obtain ⟨c, hcl, _, hcc, _⟩ := Kd.R_elem b2 z38 (u : Int) (by omega) (by omega)
  have b3 := Kd.R_seg b2 (u : Int) (by omega) (by omega) (c := c) (seg := [.int .i64 s.f0, .bool s.f1]) (j := 0) hcl hcc (show 2 ≤ 2 from Nat.le_refl _) (x' := s) (okp := fun _ => False)
    (by rw [List.drop_eq_nil_of_le (by rw [hcl]; exact Nat.le_refl _)]; exact k38_mkM _ _ _ s) (fun _ hk => hk.elim)
  simp only [Int.toNat_natCast] at b3
  have d3 := Kd.R_over' d2 (Kd.R_typed b2) (by decide) b3.2
  have i3 := Kd.R_over' i2.1 (Kd.R_typed b2) (by decide) b3.2
  have far : ∀ {g t : Nat} {cs : Array Value}, w1.heap[g]? = some (.cells cs t (0, 0)) → g ≠ gd → g ≠ gi → g ≠ gb → ((((w1.setCell ⟨gd, u, none⟩ (.int .i64 d)).setCell ⟨gi, u, none⟩ (.bool true)).setCell ⟨gb, u * 2, none⟩ (.int .i64 s.f0)).setCell ⟨gb, u * 2 + 1, none⟩ (.bool s.f1)).heap[g]? = some (.cells cs t (0, 0)) :=
    fun hb p1 p2 p3 => blk_far (blk_far (blk_far (blk_far hb p1 _) p2 _) p3 _) p3 _
  refine ⟨d3, i3, b3.1, far h.b2 n4 n5 n6, far h.b3 n7 n8 n9, ?_, ?_, ?_, ?_⟩
  · exact Kd.F_far (p := ⟨gb, u * 2 + 1, none⟩) (Kd.F_far (p := ⟨gb, u * 2, none⟩) (Kd.F_far (p := ⟨gi, u, none⟩) (Kd.F_far (p := ⟨gd, u, none⟩) h.arcs (fun _ hk => hk.1) _) (fun _ hk => hk.2.1) _) (fun _ hk => hk.2.2) _) (fun _ hk => hk.2.2) _
  · exact Kd.F_far (p := ⟨gb, u * 2 + 1, none⟩) (Kd.F_far (p := ⟨gb, u * 2, none⟩) (Kd.F_far (p := ⟨gi, u, none⟩) (Kd.F_far (p := ⟨gd, u, none⟩) h.flow (fun _ hk => hk.1) _) (fun _ hk => hk.2.1) _) (fun _ hk => hk.2.2) _) (fun _ hk => hk.2.2) _
  · exact Kd.V_far (p := ⟨gb, u * 2 + 1, none⟩) (Kd.V_far (p := ⟨gb, u * 2, none⟩) (Kd.V_far (p := ⟨gi, u, none⟩) (Kd.V_far (p := ⟨gd, u, none⟩) h.rows (fun _ hk => hk.1) _) (fun _ hk => hk.2.1) _) (fun _ hk => hk.2.2) _) (fun _ hk => hk.2.2) _
  · exact (((h.kp.set (.inl rfl) _ _).set (.inr (.inl rfl)) _ _).set (.inr (.inr rfl)) _ _).set (.inr (.inr rfl)) _ _
end
end Go.Proofs.Ytkcpanpdipmmmaa.H

/- cost.settled: it comes to what goesR says. -/
set_option linter.unusedVariables false
set_option linter.unusedSimpArgs false
namespace Go.Proofs.Ytkcpanpdipmmmaa.H
open Go.RowKit Go.Proofs.YtkcpanpdipmmmaaW.PrintWords Go.Proofs.YtkcpanpdipmmmaaW.PrintLast Go.Proofs.YtkcpanpdipmmmaaW.PrintMore Go.Proofs.Ytkcpanpdipmmmaa.P
attribute [local irreducible] wpQuiet
theorem goes_step {l : List S74} {F : List Int} {n k : Nat} {x x' : Rch} (hs : roundR l F n x = x') (h : x'.still = false) : goesR l F n (k + 1) x = goesR l F n k x' := by
  subst hs
  show (if _ then _ else _) = _
  rw [if_neg (by rw [h]; simp)]
theorem goes_end {l : List S74} {F : List Int} {n k : Nat} {x x' : Rch} (hs : roundR l F n x = x') (h : x'.still = true) : goesR l F n (k + 1) x = (x', true) := by
  subst hs
  show (if _ then _ else _) = _
  rw [if_pos h]
/-- A round as far as node v, and as far as step j of that node. -/
def upV (l : List S74) (F : List Int) (x : Rch) (v : Nat) : Rch := (List.range v).foldl (rowR l F) { x with still := true }
def upJ (l : List S74) (F : List Int) (v : Nat) (y : Rch) (j : Nat) : Rch := ((stL l v l.length).take j).foldl (visR l F v) y
theorem upV_succ (l : List S74) (F : List Int) (x : Rch) (v : Nat) : upV l F x (v + 1) = rowR l F (upV l F x v) v := by
  unfold upV
  rw [List.range_succ, List.foldl_append]
  rfl
theorem upJ_succ (l : List S74) (F : List Int) (v : Nat) (y : Rch) (j : Nat) (hj : j < (stL l v l.length).length) : upJ l F v y (j + 1) = visR l F v (upJ l F v y j) (rd_T38 (stL l v l.length) (j : Int)) := by
  unfold upJ
  have e : (stL l v l.length).take (j + 1) = (stL l v l.length).take j ++ [rd_T38 (stL l v l.length) (j : Int)] := by
    rw [List.take_add_one, List.getElem?_eq_getElem hj]
    show _ ++ [_] = _ ++ [(stL l v l.length).getD (j : Int).toNat z38]
    rw [Int.toNat_natCast, List.getD_eq_getElem?_getD, List.getElem?_eq_getElem hj]
    rfl
  rw [e, List.foldl_append]
  rfl
theorem upJ_all (l : List S74) (F : List Int) (v : Nat) (y : Rch) (hv : y.I.getD v false = true) : upJ l F v y (stL l v l.length).length = rowR l F y v := by
  unfold upJ rowR
  rw [List.take_length, if_pos hv]
theorem vis_on {l : List S74} {F : List Int} {v : Nat} {x : Rch} {s : S38} (h : visC l F v x s = true) : visR l F v x s = ⟨x.D.set (stTo l s).toNat (x.D.getD v 0 + stTime l s), x.I.set (stTo l s).toNat true, x.B.set (stTo l s).toNat s, false⟩ := by
  unfold visR; rw [if_pos h]
theorem vis_off {l : List S74} {F : List Int} {v : Nat} {x : Rch} {s : S38} (h : visC l F v x s = false) : visR l F v x s = x := by
  unfold visR; rw [if_neg (by rw [h]; simp)]
theorem rows_at {l : List S74} {n v : Nat} (hv : v < n) : rd_L4 (rowsAt l n n) (v : Int) = stL l v l.length := by
  unfold rd_L4
  rw [Int.toNat_natCast, List.getD_eq_getElem?_getD, rowsAt_get l n n v hv, if_pos hv]
  rfl
theorem set_true (L : List Bool) (u v : Nat) (h : L.getD v false = true) : (L.set u true).getD v false = true := by
  by_cases e : u = v
  · subst e
    by_cases hl : u < L.length
    · exact getD_set_eq _ _ _ _ hl
    · rw [List.getD_eq_getElem?_getD, List.getElem?_eq_none (by omega)] at h
      cases h
  · rw [getD_set_ne _ _ _ _ _ e]; exact h
set_option maxHeartbeats 2000000 in
set_option maxRecDepth 100000 in
theorem settled_calls (n0 : Nat) (a0_1 : Bool) (A2 : Option Addr) (c2 : Nat) (l : List S74) (A3 : Option Addr) (c3 : Nat) (F : List Int) (A4 : Option Addr) (c4 : Nat) (gd gi gb cd ci cb b0 : Nat) (x : Rch) (w : World)
    (hR : Right l F n0) (hx : x.Ok n0) (hD0 : Bd x.D 0) (hc2 : l.length ≤ c2) (hc3 : F.length ≤ c3)
    (h2 : Kd.F k74 w (okR gd gi gb) A2 l.length l) (h3 : Kd.F (Kd.int .i64) w (okR gd gi gb) A3 F.length F) (h4 : Kd.V (Kd.slice 38 k38) 34 w w.heap.size (okR gd gi gb) (.slice A4 n0 c4) (rowsAt l n0 n0))
    (hD : Kd.R (Kd.int .i64) 3 w b0 (fun _ => True) (.slice (some ⟨gd, 0, none⟩) n0 cd) x.D) (hI : Kd.R Kd.bool 4 w b0 (fun _ => True) (.slice (some ⟨gi, 0, none⟩) n0 ci) x.I) (hB : Kd.R k38 38 w b0 (fun _ => True) (.slice (some ⟨gb, 0, none⟩) n0 cb) x.B) :
    Calls Try.prog 100 #[.agg #[.int .i64 n0, .bool a0_1, .slice A2 l.length c2, .slice A3 F.length c3, .slice A4 n0 c4], .agg #[.slice (some ⟨gd, 0, none⟩) n0 cd, .slice (some ⟨gi, 0, none⟩) n0 ci, .slice (some ⟨gb, 0, none⟩) n0 cb]] w fun e w' => e = .returned (.bool (goesR l F n0 (n0 + 1) x).2) ∧ Kp gd gi gb w w' ∧
      Kd.R (Kd.int .i64) 3 w' b0 (fun _ => True) (.slice (some ⟨gd, 0, none⟩) n0 cd) (goesR l F n0 (n0 + 1) x).1.D ∧ Kd.R Kd.bool 4 w' b0 (fun _ => True) (.slice (some ⟨gi, 0, none⟩) n0 ci) (goesR l F n0 (n0 + 1) x).1.I ∧ Kd.R k38 38 w' b0 (fun _ => True) (.slice (some ⟨gb, 0, none⟩) n0 cb) (goesR l F n0 (n0 + 1) x).1.B := by
  have hu118 := Try.underlying118
  have hu109 := Try.underlying109
  have HR := Aside0.mk hR
  have HC2 := Aside0.mk hc2
  have HC3 := Aside0.mk hc3
  have H2 := Aside0.mk h2
  have H3 := Aside0.mk h3
  have H4 := Aside0.mk h4
  have HD := Aside0.mk hD
  have HI := Aside0.mk hI
  have HBB := Aside0.mk hB
  have hn50 : n0 ≤ 50 := hR.fifty
  have hn0 : 0 < n0 := hR.pos
  clear hR h2 h3 h4 hD hI hB hc2 hc3
  obtain ⟨XT, hXT⟩ : ∃ y_, y_ = goesR l F n0 (n0 + 1) x := ⟨_, rfl⟩
  rw [← hXT]
  have HXT := Aside0.mk hXT.symm
  clear hXT
  have HB := Aside0.mk (Below.refl w.heap.size w)
  go_enter Try.func100, Try.ntmps100
  go_wp2_with (first | ((with_reducible refine gate_dst (N := 2) rfl ?_); refine box_event ?hg (N := 2) ?hd (cs := #[.int .i64 n0, .bool a0_1, .slice A2 l.length c2, .slice A3 F.length c3, .slice A4 n0 c4]) (t := 118) ?hr ?_; (case hd => rfl); (case hg => rfl); (case hr => first | (go_simp; done) | (go_simp; rfl)); intro g2 hg w4 hbox hb; have n0_ := Aside0.mk (below_step HB.out hb); have B2 := Aside0.mk hbox; clear HB; have HB := n0_; clear n0_ hb hbox hg) | ((with_reducible refine gate_dst (N := 3) rfl ?_); refine box_event ?hg (N := 3) ?hd (cs := #[.slice (some ⟨gd, 0, none⟩) n0 cd, .slice (some ⟨gi, 0, none⟩) n0 ci, .slice (some ⟨gb, 0, none⟩) n0 cb]) (t := 109) ?hr ?_; (case hd => rfl); (case hg => rfl); (case hr => first | (go_simp; done) | (go_simp; rfl)); intro g3 hg w5 hbox hb; have n0_ := Aside0.mk (below_step HB.out hb); have n1_ := Aside0.mk (blk_below B2.out hb); have B3 := Aside0.mk hbox; clear HB B2; have HB := n0_; have B2 := n1_; clear n0_ n1_ hb hbox hg) | fail)
  go_step3
  go_wp2
  go_step3
  have HF : Aside0 (Fm n0 a0_1 A2 c2 l A3 c3 F A4 c4 gd gi gb cd ci cb b0 g2 g3 w (x) (w5)) := ⟨⟨Kd.R_below HD.out HB.out, Kd.R_below HI.out HB.out, Kd.R_below HBB.out HB.out, B2.out, B3.out, Kd.F_below H2.out HB.out, Kd.F_below H3.out HB.out, Kd.V_below H4.out HB.out, (Kp.refl gd gi gb w).below HB.out⟩⟩
  clear HD HI HBB H2 H3 H4 HB
  have hb20 : w5.cell? ⟨g2, 0, none⟩ = some (.int .i64 n0) := (blk_cell B2.out 0).trans rfl
  go_wp2_with fail
  clear hb20 B2 B3
  go_loopw [16] (fun v16 w' => ∃ r : Nat, r ≤ n0 + 1 ∧ v16 = .int .i64 r ∧ ∃ x' : Rch, Aside0 (x'.Ok n0) ∧ Aside0 (Bd x'.D (20000 * (r : Int))) ∧ Aside0 (goesR l F n0 (n0 + 1 - r) x' = XT) ∧ Aside0 (Fm n0 a0_1 A2 c2 l A3 c3 F A4 c4 gd gi gb cd ci cb b0 g2 g3 w (x') (w'))) (fun v16 _ => n0 + 1 - (intOf v16).toNat)
  case atStart => exact ⟨0, Nat.zero_le _, rfl, x, ⟨hx⟩, ⟨by simpa using hD0⟩, HXT, HF⟩
  case round =>
    clear HF HXT
    obtain ⟨r, hr, rfl, x1, HO1, HBD1, HG1, HF⟩ := hrel
    by_cases hlt : r < n0 + 1
    · have c17 : decide ((r : Int) < (n0 : Int) + 1) = true := decide_eq_true (by omega)
      have hb20 : wr.cell? ⟨g2, 0, none⟩ = some (.int .i64 n0) := (blk_cell HF.out.b2 0).trans rfl
      go_wp2_with fail
      clear hb20
      have HF2 := Aside0.mk (HF.out.still true)
      have HO2 : Aside0 ((upV l F x1 0).Ok n0) := ⟨⟨HO1.out.hD, HO1.out.hI, HO1.out.hB⟩⟩
      clear HF
      obtain ⟨w1, hw1⟩ : ∃ x_ : World, x_ = wr := ⟨_, rfl⟩
      subst hw1
      go_loopw [22, 5] (fun v22 v5 w' => ∃ v : Nat, v ≤ n0 ∧ v22 = .int .i64 v ∧ ∃ y : Rch, v5 = .bool y.still ∧ Aside0 (y = upV l F x1 v) ∧ Aside0 (y.Ok n0) ∧ Aside0 (Bd y.D (20000 * (r : Int) + 400 * (v : Int))) ∧ Aside0 (Fm n0 a0_1 A2 c2 l A3 c3 F A4 c4 gd gi gb cd ci cb b0 g2 g3 w (y) (w'))) (fun v22 _ _ => n0 - (intOf v22).toNat)
      case atStart => exact ⟨0, Nat.zero_le _, rfl, upV l F x1 0, rfl, ⟨rfl⟩, HO2, ⟨by show Bd x1.D _; simpa using HBD1.out⟩, HF2⟩
      case round =>
        clear HF2 HO2 HBD1 HO1
        obtain ⟨v, hv, rfl, y, rfl, HY, HO, HBD, HF⟩ := hrel
        by_cases hltv : v < n0
        · have c23 : decide ((v : Int) < (n0 : Int)) = true := decide_eq_true (by omega)
          have hb31 : wr.cell? ⟨g3, 1, none⟩ = some (.slice (some ⟨gi, 0, none⟩) n0 ci) := (blk_cell HF.out.b3 1).trans rfl
          have hiv := HF.out.iv hltv
          have pv : 0 ≤ ((v : Nat) : Int) := by omega
          have qv : ((v : Nat) : Int) < (n0 : Int) := by omega
          cases hIv : y.I.getD v false with
          | false =>
            rw [hIv] at hiv
            have HYS : Aside0 (y = upV l F x1 (v + 1)) := ⟨by rw [upV_succ, ← HY.out]; unfold rowR; rw [if_neg (by rw [hIv]; simp)]⟩
            clear hIv
            go_wp2_with fail
            clear hb31 hiv
            go_roundw
            case rel => exact ⟨v + 1, by omega, by first | rfl | go_num, y, rfl, HYS, HO, ⟨HBD.out.mono (by omega)⟩, HF⟩
            case measure => simp [intOf] <;> omega
          | true =>
            rw [hIv] at hiv
            have HIV := Aside0.mk hIv
            have HIVy := Aside0.mk hIv
            clear hIv
            have hc0 : wr.cell? ⟨g2, 0, none⟩ = some (.int .i64 n0) := (blk_cell HF.out.b2 0).trans rfl
            have hc1 : wr.cell? ⟨g2, 1, none⟩ = some (.bool a0_1) := (blk_cell HF.out.b2 1).trans rfl
            have hc2 : wr.cell? ⟨g2, 2, none⟩ = some (.slice A2 l.length c2) := (blk_cell HF.out.b2 2).trans rfl
            have hc3 : wr.cell? ⟨g2, 3, none⟩ = some (.slice A3 F.length c3) := (blk_cell HF.out.b2 3).trans rfl
            have hc4 : wr.cell? ⟨g2, 4, none⟩ = some (.slice A4 n0 c4) := (blk_cell HF.out.b2 4).trans rfl
            have hSt := level_Seeker_Steps.calls (n0 : Int) a0_1 A2 c2 l A3 c3 F (okR gd gi gb) A4 c4 (rowsAt l n0 n0) (v : Int) (stL l v l.length) wr (Kd.F_now HF.out.arcs) HC2.out (Kd.F_now HF.out.flow) HC3.out (by rw [rowsAt_len]; exact HF.out.rows) (by unfold level_Seeker_Steps.f; rw [rowsAt_len, if_pos pv, if_pos qv, rows_at hltv])
            rw [rowsAt_len] at hSt
            have HST := Aside0.mk hSt
            clear hSt
            obtain ⟨RW, hRW⟩ : ∃ r_, r_ = stL l v l.length := ⟨_, rfl⟩
            have HRW := Aside0.mk hRW
            have HRL : RW.length ≤ 400 := by rw [hRW]; have := stL_len l v l.length; have := HR.out.arcs; omega
            clear hRW
            go_wp2_with (first | (go_at_call 140; refine HST.out.mono ?_; rintro e_ w20 ⟨v0, rfl, hv, hb⟩; rw [← HRW.out] at hv; obtain ⟨Av, cv, ev⟩ := Kd.V_slice hv; subst ev; have VR : Aside0 (Kd.V k38 38 w20 0 (okR gd gi gb) (.slice Av RW.length cv) RW) := ⟨Kd.V_mono hv (fun k hk => hk.elim id (fun h => by obtain ⟨_, _, _, _, _, _, _, _, _, p1, p2, p3⟩ := HF.out.blocks HO.out hn0; exact ⟨by omega, by omega, by omega⟩))⟩; have n0_ := Aside0.mk (HF.out.below hb); clear HF; have HF := n0_; clear n0_ hv hb hc0 hc1 hc2 hc3 hc4 hb31 hiv) | fail)
            obtain ⟨w2, hw2⟩ : ∃ x_ : World, x_ = w20 := ⟨_, rfl⟩
            subst hw2
            have HZ0 : Aside0 (y = upJ l F v y 0) := ⟨rfl⟩
            go_loopw [35, 5] (fun v35 v5 w' => ∃ j : Nat, j ≤ RW.length ∧ v35 = .int .i64 j ∧ ∃ z : Rch, v5 = .bool z.still ∧ Aside0 (z = upJ l F v y j) ∧ Aside0 (z.Ok n0) ∧ Aside0 (Bd z.D (20000 * (r : Int) + 400 * (v : Int) + (j : Int))) ∧ Aside0 (z.I.getD v false = true) ∧ Aside0 (Fm n0 a0_1 A2 c2 l A3 c3 F A4 c4 gd gi gb cd ci cb b0 g2 g3 w (z) (w')) ∧ Aside0 (Kd.V k38 38 w' 0 (okR gd gi gb) (.slice Av RW.length cv) RW)) (fun v35 _ _ => RW.length - (intOf v35).toNat)
            case atStart => exact ⟨0, Nat.zero_le _, rfl, y, rfl, HZ0, HO, ⟨by simpa using HBD.out⟩, HIV, HF, VR⟩
            case round =>
              clear HZ0 HBD HIV HF VR
              obtain ⟨j, hj, rfl, z, rfl, HZ, HOz, HBD, HIV, HF, VR⟩ := hrel
              by_cases hltj : j < RW.length
              · have pj : 0 ≤ ((j : Nat) : Int) := by omega
                have qj : ((j : Nat) : Int) < (RW.length : Int) := by omega
                have c36 : decide ((j : Int) < (RW.length : Int)) = true := decide_eq_true qj
                obtain ⟨adj, eadj, hs0, hs1⟩ := at_T38 (Kd.V_reads' VR.out).2.2 (j : Int) pj qj
                cases eadj
                simp only [Int.toNat_natCast] at hs0 hs1
                have HZS := Aside0.mk (upJ_succ l F v y j (by rw [← HRW.out]; exact hltj))
                have hso : StepOf l (rd_T38 RW (j : Int)) := stL_of (l := l) (v := v) (by
                  rw [← HRW.out]
                  unfold rd_T38
                  rw [Int.toNat_natCast, List.getD_eq_getElem?_getD, List.getElem?_eq_getElem hltj]
                  exact List.getElem_mem hltj)
                rw [← HRW.out, ← HZ.out] at HZS
                obtain ⟨s, hs⟩ : ∃ s_, s_ = rd_T38 RW (j : Int) := ⟨_, rfl⟩
                rw [← hs] at hs0 hs1 HZS hso
                have HSO := Aside0.mk hso
                clear hs hso HZ
                go_wp2_with (first | ((with_reducible refine gate_dst (N := 8) rfl ?_); refine box_event ?hg (N := 8) ?hd (cs := #[.int .i64 0, .bool false]) (t := 38) ?hr ?_; (case hd => rfl); (case hg => rfl); (case hr => first | (go_simp; done) | (go_simp; rfl)); intro g8 hg w6 hbox hb; have GE8 : Aside0 (wr.heap.size ≤ g8) := ⟨Nat.le_of_eq hg.symm⟩; have B8 := Aside0.mk hbox; have HBL := Aside0.mk hb; clear hbox hg hb; have hcz0 : w6.cell? ⟨g8, 0, none⟩ = some (.int .i64 0) := (blk_cell B8.out 0).trans rfl; have hcz1 : w6.cell? ⟨g8, 1, none⟩ = some (.bool false) := (blk_cell B8.out 1).trans rfl; have hfz0 := blk_frozen B8.out 0; have hfz1 := blk_frozen B8.out 1) | ((with_reducible refine gate_store (t := 38) (p := 8) rfl ?_); refine store_event (t := 38) (p := 8) (v := ?vo) (w1 := ((w6.setCell ⟨g8, 0, none⟩ (.int .i64 s.f0)).setCell ⟨g8, 1, none⟩ (.bool s.f1))) ?hg ?ho ?hn ?hr ?_; (case ho => rfl); (case hg => rfl); (case hn => rfl); (case hr => first | (go_simp; done) | (go_simp; rfl)); intro w8 hw; have m0_ : Aside0 (w8.heap[g8]? = some (.cells #[.int .i64 s.f0, .bool s.f1] 38 (0, 0))) := ⟨by rw [hw]; refine blk_put (cs := #[.int .i64 s.f0, .bool false]) ?_ 1 _ rfl; refine blk_put (cs := #[.int .i64 0, .bool false]) ?_ 0 _ rfl; exact B8.out⟩; have m1_ : Aside0 (Below wr.heap.size wr w8) := ⟨by rw [hw]; exact below_set (below_set HBL.out GE8.out) GE8.out⟩; clear hw B8 HBL hcz0 hcz1 hfz0 hfz1 hs0 hs1; have B8 := m0_; have HBL := m1_; clear m0_ m1_) | fail)
                have HG8a : Aside0 (g8 ≠ gd ∧ g8 ≠ gi ∧ g8 ≠ gb) := ⟨by obtain ⟨_, _, _, _, _, _, _, _, _, p1, p2, p3⟩ := HF.out.blocks HOz.out hn0; have := GE8.out; exact ⟨by omega, by omega, by omega⟩⟩
                have m0_ := Aside0.mk (HF.out.below HBL.out)
                have m1_ := Aside0.mk (Kd.V_below VR.out HBL.out)
                clear HF VR HBL
                have HF := m0_
                have VR := m1_
                clear m0_ m1_
                obtain ⟨dv, hdv⟩ : ∃ d_, d_ = z.D.getD v 0 := ⟨_, rfl⟩
                obtain ⟨tm, htm⟩ : ∃ d_, d_ = stTime l s := ⟨_, rfl⟩
                obtain ⟨u, hu⟩ : ∃ u_ : Nat, stTo l s = (u_ : Int) := ⟨(stTo l s).toNat, by have := stTo_in HR.out HSO.out; omega⟩
                obtain ⟨rm, hrm⟩ : ∃ d_, d_ = stRoom l F s := ⟨_, rfl⟩
                have hun : u < n0 := by have := stTo_in HR.out HSO.out; omega
                have htb := stTime_in HR.out HSO.out
                rw [← htm] at htb
                have hdb := HBD.out v
                rw [← hdv] at hdb
                have hwd : IntKind.i64.wrap (dv + tm) = dv + tm := by rw [IntKind.wrap_i64]; omega
                have HTO := Aside0.mk (to_f HR.out HSO.out (n0 : Int) a0_1)
                have HTM := Aside0.mk (time_f HR.out HSO.out (n0 : Int) a0_1)
                have HRM := Aside0.mk (room_f HR.out HSO.out (n0 : Int) a0_1)
                rw [hu] at HTO
                rw [← htm] at HTM
                rw [← hrm] at HRM
                have hcD := HF.out.dv hltv
                rw [← hdv] at hcD
                have HVC : Aside0 (visC l F v z s = (decide (0 < rm) && (!z.I.getD u false || decide (dv + tm < z.D.getD u 0)))) := ⟨by unfold visC; rw [← hrm, ← hdv, ← htm, hu, Int.toNat_natCast]⟩
                have HVO : Aside0 (visC l F v z s = true → visR l F v z s = ⟨z.D.set u (dv + tm), z.I.set u true, z.B.set u s, false⟩) := ⟨fun h => by rw [vis_on h, ← hdv, ← htm, hu, Int.toNat_natCast]⟩
                have HBS : Aside0 (Bd (z.D.set u (dv + tm)) (20000 * (r : Int) + 400 * (v : Int) + ((j + 1 : Nat) : Int))) := ⟨by
                  have h_ := HBD.out.set (by omega) u v tm htb.1 htb.2
                  rw [← hdv] at h_
                  exact h_.mono (by omega)⟩
                clear hdb htb hu hrm htm hdv
                have q0 : ∀ p : BelowW w8, p.at_.cell? ⟨g2, 0, none⟩ = some (.int .i64 n0) := fun p => p.cell ((blk_cell HF.out.b2 0).trans rfl)
                have q1 : ∀ p : BelowW w8, p.at_.cell? ⟨g2, 1, none⟩ = some (.bool a0_1) := fun p => p.cell ((blk_cell HF.out.b2 1).trans rfl)
                have q2 : ∀ p : BelowW w8, p.at_.cell? ⟨g2, 2, none⟩ = some (.slice A2 l.length c2) := fun p => p.cell ((blk_cell HF.out.b2 2).trans rfl)
                have q3 : ∀ p : BelowW w8, p.at_.cell? ⟨g2, 3, none⟩ = some (.slice A3 F.length c3) := fun p => p.cell ((blk_cell HF.out.b2 3).trans rfl)
                have q4 : ∀ p : BelowW w8, p.at_.cell? ⟨g8, 0, none⟩ = some (.int .i64 s.f0) := fun p => p.cell ((blk_cell B8.out 0).trans rfl)
                have q5 : ∀ p : BelowW w8, p.at_.cell? ⟨g8, 1, none⟩ = some (.bool s.f1) := fun p => p.cell ((blk_cell B8.out 1).trans rfl)
                have q6 : ∀ p : BelowW w8, p.at_.cell? ⟨g3, 0, none⟩ = some (.slice (some ⟨gd, 0, none⟩) n0 cd) := fun p => p.cell ((blk_cell HF.out.b3 0).trans rfl)
                have q7 : ∀ p : BelowW w8, p.at_.cell? ⟨gd, v, none⟩ = some (.int .i64 dv) := fun p => p.cell hcD
                have HCA : Aside0 (∀ p : BelowW w8, Kd.C k74 p.at_ A2 l.length l) := ⟨fun p => Kd.F_now (Kd.F_below HF.out.arcs p.below)⟩
                have HCF : Aside0 (∀ p : BelowW w8, Kd.C (Kd.int .i64) p.at_ A3 F.length F) := ⟨fun p => Kd.F_now (Kd.F_below HF.out.flow p.below)⟩
                clear hcD
                have HG8 : Aside0 (g8 ≠ gd ∧ g8 ≠ gi ∧ g8 ≠ gb) := ⟨HG8a.out⟩
                refine wp_region_quiet_below (by kernel_rfl) (by kernel_rfl) ?_; (repeat (quiet_step ((first | (go_at_call 105; exact calls_below_of (static_Flowing_To.calls (n0 : Int) a0_1 A2 c2 l A3 c3 F s.f0 s.f1 (u : Int) _ (HCA.out _) HC2.out (HCF.out _) HC3.out HTO.out)) | (go_at_call 107; exact calls_below_of (static_Flowing_Time.calls (n0 : Int) a0_1 A2 c2 l A3 c3 F s.f0 s.f1 tm _ (HCA.out _) HC2.out (HCF.out _) HC3.out HTM.out)))))); refine wpQuiet_nil ?_; intro wq hw'; obtain ⟨⟨wz, hbq⟩, hwq⟩ := hw'; subst hwq
                have m0_ := Aside0.mk (HF.out.below hbq)
                have m1_ := Aside0.mk (Kd.V_below VR.out hbq)
                have m2_ := Aside0.mk (blk_below B8.out hbq)
                clear HF VR B8 HCA HCF q0 q1 q2 q3 q4 q5 q6 q7 hbq
                have HF := m0_
                have VR := m1_
                have B8 := m2_
                clear m0_ m1_ m2_
                have r0 : wq.cell? ⟨g2, 0, none⟩ = some (.int .i64 n0) := (blk_cell HF.out.b2 0).trans rfl
                have r1 : wq.cell? ⟨g2, 1, none⟩ = some (.bool a0_1) := (blk_cell HF.out.b2 1).trans rfl
                have r2 : wq.cell? ⟨g2, 2, none⟩ = some (.slice A2 l.length c2) := (blk_cell HF.out.b2 2).trans rfl
                have r3 : wq.cell? ⟨g2, 3, none⟩ = some (.slice A3 F.length c3) := (blk_cell HF.out.b2 3).trans rfl
                have r4 : wq.cell? ⟨g8, 0, none⟩ = some (.int .i64 s.f0) := (blk_cell B8.out 0).trans rfl
                have r5 : wq.cell? ⟨g8, 1, none⟩ = some (.bool s.f1) := (blk_cell B8.out 1).trans rfl
                have pu : 0 ≤ ((u : Nat) : Int) := by omega
                have qu : ((u : Nat) : Int) < (n0 : Int) := by omega
                by_cases hpos : 0 < rm
                · have e57 : decide (0 < rm) = true := decide_eq_true hpos
                  rw [e57, Bool.true_and] at HVC
                  cases hIu : z.I.getD u false with
                  | false =>
                    rw [hIu] at HVC
                    have HZN : Aside0 ((⟨z.D.set u (dv + tm), z.I.set u true, z.B.set u s, false⟩ : Rch) = upJ l F v y (j + 1)) := ⟨by rw [HZS.out]; exact (HVO.out (by rw [HVC.out]; rfl)).symm⟩
                    have HIU := Aside0.mk hIu
                    clear hIu hpos
                    go_wp2_with (first | (go_at_call 104; refine (static_Flowing_Room.calls (n0 : Int) a0_1 A2 c2 l A3 c3 F s.f0 s.f1 rm _ (Kd.F_now HF.out.arcs) HC2.out (Kd.F_now HF.out.flow) HC3.out HRM.out).mono ?_; rintro e_ w21 ⟨rfl, hb⟩; have m0_ := Aside0.mk (HF.out.below hb); have m1_ := Aside0.mk (Kd.V_below VR.out hb); have m2_ := Aside0.mk (blk_below B8.out hb); have m3_ : Aside0 (g8 < w21.heap.size) := ⟨Nat.lt_of_lt_of_le (blk_lt B8.out) hb.size⟩; clear HF VR B8 hb r0 r1 r2 r3 r4 r5; have HF := m0_; have VR := m1_; have B8 := m2_; clear m0_ m1_ m2_ m3_; have s0 : w21.cell? ⟨g3, 0, none⟩ = some (.slice (some ⟨gd, 0, none⟩) n0 cd) := (blk_cell HF.out.b3 0).trans rfl; have s1 : w21.cell? ⟨g3, 1, none⟩ = some (.slice (some ⟨gi, 0, none⟩) n0 ci) := (blk_cell HF.out.b3 1).trans rfl; have s2 : w21.cell? ⟨g3, 2, none⟩ = some (.slice (some ⟨gb, 0, none⟩) n0 cb) := (blk_cell HF.out.b3 2).trans rfl; have s3 := HF.out.iv hun; have s4 := HF.out.dv hun; rw [HIU.out] at s3) | fail)
                    (have s5 : w21.cell? ⟨g8, 0, none⟩ = some (.int .i64 s.f0) := (blk_cell B8.out 0).trans rfl; have s6 : w21.cell? ⟨g8, 1, none⟩ = some (.bool s.f1) := (blk_cell B8.out 1).trans rfl; have f0 := (HF.out.free hn0 u).1; have f1 := (HF.out.free hn0 u).2.1; have f2 := (HF.out.free hn0 (u * 2)).2.2; have f3 := (HF.out.free hn0 (u * 2 + 1)).2.2; obtain ⟨t2, t3⟩ := HF.out.bv hun; obtain ⟨n1, n2, n3, n4, n5, n6, n7, n8, n9, _, _, _⟩ := HF.out.blocks HOz.out hn0; obtain ⟨k1, k2, k3⟩ := HG8.out; go_region; clear s0 s1 s2 s3 s4 s5 s6 f0 f1 f2 f3 t2 t3 n1 n2 n3 n4 n5 n6 n7 n8 n9 k1 k2 k3; have HF2 := Aside0.mk ((HF.out.put HOz.out hn0 hun (dv + tm) s).below (below_drew (Below.refl _ _))); have VR2 : Aside0 (Kd.V k38 38 (((((w21.setCell ⟨gd, u, none⟩ (.int .i64 (dv + tm))).setCell ⟨gi, u, none⟩ (.bool true)).setCell ⟨gb, u * 2, none⟩ (.int .i64 s.f0)).setCell ⟨gb, u * 2 + 1, none⟩ (.bool s.f1)).drew) 0 (okR gd gi gb) (.slice (some adj) RW.length cv) RW) := ⟨Kd.V_drew (Kd.V_far (p := ⟨gb, u * 2 + 1, none⟩) (Kd.V_far (p := ⟨gb, u * 2, none⟩) (Kd.V_far (p := ⟨gi, u, none⟩) (Kd.V_far (p := ⟨gd, u, none⟩) VR.out (fun _ hk => hk.1) _) (fun _ hk => hk.2.1) _) (fun _ hk => hk.2.2) _) (fun _ hk => hk.2.2) _)⟩; clear HF VR B8; have HOn : Aside0 (Rch.Ok n0 ⟨z.D.set u (dv + tm), z.I.set u true, z.B.set u s, false⟩) := ⟨⟨by simp [HOz.out.hD], by simp [HOz.out.hI], by simp [HOz.out.hB]⟩⟩; have HIVn : Aside0 ((z.I.set u true).getD v false = true) := ⟨set_true _ _ _ HIV.out⟩; generalize ((((w21.setCell ⟨gd, u, none⟩ (.int .i64 (dv + tm))).setCell ⟨gi, u, none⟩ (.bool true)).setCell ⟨gb, u * 2, none⟩ (.int .i64 s.f0)).setCell ⟨gb, u * 2 + 1, none⟩ (.bool s.f1)).drew = w30 at HF2 VR2 ⊢; go_wp2_with fail; go_roundw; (case rel => exact ⟨j + 1, by omega, by first | rfl | go_num, (⟨z.D.set u (dv + tm), z.I.set u true, z.B.set u s, false⟩ : Rch), rfl, HZN, HOn, HBS, HIVn, HF2, VR2⟩); (case measure => simp [intOf] <;> omega))
                  | true =>
                    rw [hIu, Bool.not_true, Bool.false_or] at HVC
                    have HIU := Aside0.mk hIu
                    clear hIu hpos
                    by_cases hlt2 : dv + tm < z.D.getD u 0
                    · have e72 : decide (dv + tm < z.D.getD u 0) = true := decide_eq_true hlt2
                      have HZN : Aside0 ((⟨z.D.set u (dv + tm), z.I.set u true, z.B.set u s, false⟩ : Rch) = upJ l F v y (j + 1)) := ⟨by rw [HZS.out]; exact (HVO.out (by rw [HVC.out]; exact e72)).symm⟩
                      obtain ⟨du, hdu⟩ : ∃ d_, d_ = z.D.getD u 0 := ⟨_, rfl⟩
                      rw [← hdu] at e72 hlt2
                      have HDU := Aside0.mk hdu
                      clear hdu hlt2
                      go_wp2_with (first | (go_at_call 104; refine (static_Flowing_Room.calls (n0 : Int) a0_1 A2 c2 l A3 c3 F s.f0 s.f1 rm _ (Kd.F_now HF.out.arcs) HC2.out (Kd.F_now HF.out.flow) HC3.out HRM.out).mono ?_; rintro e_ w21 ⟨rfl, hb⟩; have m0_ := Aside0.mk (HF.out.below hb); have m1_ := Aside0.mk (Kd.V_below VR.out hb); have m2_ := Aside0.mk (blk_below B8.out hb); have m3_ : Aside0 (g8 < w21.heap.size) := ⟨Nat.lt_of_lt_of_le (blk_lt B8.out) hb.size⟩; clear HF VR B8 hb r0 r1 r2 r3 r4 r5; have HF := m0_; have VR := m1_; have B8 := m2_; clear m0_ m1_ m2_ m3_; have s0 : w21.cell? ⟨g3, 0, none⟩ = some (.slice (some ⟨gd, 0, none⟩) n0 cd) := (blk_cell HF.out.b3 0).trans rfl; have s1 : w21.cell? ⟨g3, 1, none⟩ = some (.slice (some ⟨gi, 0, none⟩) n0 ci) := (blk_cell HF.out.b3 1).trans rfl; have s2 : w21.cell? ⟨g3, 2, none⟩ = some (.slice (some ⟨gb, 0, none⟩) n0 cb) := (blk_cell HF.out.b3 2).trans rfl; have s3 := HF.out.iv hun; have s4 := HF.out.dv hun; rw [HIU.out] at s3; rw [← HDU.out] at s4) | fail)
                      (have s5 : w21.cell? ⟨g8, 0, none⟩ = some (.int .i64 s.f0) := (blk_cell B8.out 0).trans rfl; have s6 : w21.cell? ⟨g8, 1, none⟩ = some (.bool s.f1) := (blk_cell B8.out 1).trans rfl; have f0 := (HF.out.free hn0 u).1; have f1 := (HF.out.free hn0 u).2.1; have f2 := (HF.out.free hn0 (u * 2)).2.2; have f3 := (HF.out.free hn0 (u * 2 + 1)).2.2; obtain ⟨t2, t3⟩ := HF.out.bv hun; obtain ⟨n1, n2, n3, n4, n5, n6, n7, n8, n9, _, _, _⟩ := HF.out.blocks HOz.out hn0; obtain ⟨k1, k2, k3⟩ := HG8.out; go_region; clear s0 s1 s2 s3 s4 s5 s6 f0 f1 f2 f3 t2 t3 n1 n2 n3 n4 n5 n6 n7 n8 n9 k1 k2 k3; have HF2 := Aside0.mk ((HF.out.put HOz.out hn0 hun (dv + tm) s).below (below_drew (Below.refl _ _))); have VR2 : Aside0 (Kd.V k38 38 (((((w21.setCell ⟨gd, u, none⟩ (.int .i64 (dv + tm))).setCell ⟨gi, u, none⟩ (.bool true)).setCell ⟨gb, u * 2, none⟩ (.int .i64 s.f0)).setCell ⟨gb, u * 2 + 1, none⟩ (.bool s.f1)).drew) 0 (okR gd gi gb) (.slice (some adj) RW.length cv) RW) := ⟨Kd.V_drew (Kd.V_far (p := ⟨gb, u * 2 + 1, none⟩) (Kd.V_far (p := ⟨gb, u * 2, none⟩) (Kd.V_far (p := ⟨gi, u, none⟩) (Kd.V_far (p := ⟨gd, u, none⟩) VR.out (fun _ hk => hk.1) _) (fun _ hk => hk.2.1) _) (fun _ hk => hk.2.2) _) (fun _ hk => hk.2.2) _)⟩; clear HF VR B8; have HOn : Aside0 (Rch.Ok n0 ⟨z.D.set u (dv + tm), z.I.set u true, z.B.set u s, false⟩) := ⟨⟨by simp [HOz.out.hD], by simp [HOz.out.hI], by simp [HOz.out.hB]⟩⟩; have HIVn : Aside0 ((z.I.set u true).getD v false = true) := ⟨set_true _ _ _ HIV.out⟩; generalize ((((w21.setCell ⟨gd, u, none⟩ (.int .i64 (dv + tm))).setCell ⟨gi, u, none⟩ (.bool true)).setCell ⟨gb, u * 2, none⟩ (.int .i64 s.f0)).setCell ⟨gb, u * 2 + 1, none⟩ (.bool s.f1)).drew = w30 at HF2 VR2 ⊢; go_wp2_with fail; go_roundw; (case rel => exact ⟨j + 1, by omega, by first | rfl | go_num, (⟨z.D.set u (dv + tm), z.I.set u true, z.B.set u s, false⟩ : Rch), rfl, HZN, HOn, HBS, HIVn, HF2, VR2⟩); (case measure => simp [intOf] <;> omega))
                    · have e72 : decide (dv + tm < z.D.getD u 0) = false := decide_eq_false hlt2
                      have HZN : Aside0 (z = upJ l F v y (j + 1)) := ⟨by rw [HZS.out]; exact (vis_off (by rw [HVC.out]; exact e72)).symm⟩
                      obtain ⟨du, hdu⟩ : ∃ d_, d_ = z.D.getD u 0 := ⟨_, rfl⟩
                      rw [← hdu] at e72 hlt2
                      have HDU := Aside0.mk hdu
                      clear hdu hlt2
                      go_wp2_with (first | (go_at_call 104; refine (static_Flowing_Room.calls (n0 : Int) a0_1 A2 c2 l A3 c3 F s.f0 s.f1 rm _ (Kd.F_now HF.out.arcs) HC2.out (Kd.F_now HF.out.flow) HC3.out HRM.out).mono ?_; rintro e_ w21 ⟨rfl, hb⟩; have m0_ := Aside0.mk (HF.out.below hb); have m1_ := Aside0.mk (Kd.V_below VR.out hb); have m2_ := Aside0.mk (blk_below B8.out hb); have m3_ : Aside0 (g8 < w21.heap.size) := ⟨Nat.lt_of_lt_of_le (blk_lt B8.out) hb.size⟩; clear HF VR B8 hb r0 r1 r2 r3 r4 r5; have HF := m0_; have VR := m1_; have B8 := m2_; clear m0_ m1_ m2_ m3_; have s0 : w21.cell? ⟨g3, 0, none⟩ = some (.slice (some ⟨gd, 0, none⟩) n0 cd) := (blk_cell HF.out.b3 0).trans rfl; have s1 : w21.cell? ⟨g3, 1, none⟩ = some (.slice (some ⟨gi, 0, none⟩) n0 ci) := (blk_cell HF.out.b3 1).trans rfl; have s2 : w21.cell? ⟨g3, 2, none⟩ = some (.slice (some ⟨gb, 0, none⟩) n0 cb) := (blk_cell HF.out.b3 2).trans rfl; have s3 := HF.out.iv hun; have s4 := HF.out.dv hun; rw [HIU.out] at s3; rw [← HDU.out] at s4) | fail)
                      go_roundw
                      case rel => exact ⟨j + 1, by omega, by first | rfl | go_num, z, rfl, HZN, HOz, ⟨HBD.out.mono (by omega)⟩, HIV, HF, VR⟩
                      case measure => simp [intOf] <;> omega
                · have e57 : decide (0 < rm) = false := decide_eq_false hpos
                  rw [e57, Bool.false_and] at HVC
                  have HZN : Aside0 (z = upJ l F v y (j + 1)) := ⟨by rw [HZS.out]; exact (vis_off HVC.out).symm⟩
                  clear hpos
                  go_wp2_with (first | (go_at_call 104; refine (static_Flowing_Room.calls (n0 : Int) a0_1 A2 c2 l A3 c3 F s.f0 s.f1 rm _ (Kd.F_now HF.out.arcs) HC2.out (Kd.F_now HF.out.flow) HC3.out HRM.out).mono ?_; rintro e_ w21 ⟨rfl, hb⟩; have m0_ := Aside0.mk (HF.out.below hb); have m1_ := Aside0.mk (Kd.V_below VR.out hb); have m2_ := Aside0.mk (blk_below B8.out hb); have m3_ : Aside0 (g8 < w21.heap.size) := ⟨Nat.lt_of_lt_of_le (blk_lt B8.out) hb.size⟩; clear HF VR B8 hb r0 r1 r2 r3 r4 r5; have HF := m0_; have VR := m1_; have B8 := m2_; clear m0_ m1_ m2_ m3_; have s0 : w21.cell? ⟨g3, 0, none⟩ = some (.slice (some ⟨gd, 0, none⟩) n0 cd) := (blk_cell HF.out.b3 0).trans rfl; have s1 : w21.cell? ⟨g3, 1, none⟩ = some (.slice (some ⟨gi, 0, none⟩) n0 ci) := (blk_cell HF.out.b3 1).trans rfl; have s2 : w21.cell? ⟨g3, 2, none⟩ = some (.slice (some ⟨gb, 0, none⟩) n0 cb) := (blk_cell HF.out.b3 2).trans rfl; have s3 := HF.out.iv hun; have s4 := HF.out.dv hun; skip) | fail)
                  go_roundw
                  case rel => exact ⟨j + 1, by omega, by first | rfl | go_num, z, rfl, HZN, HOz, ⟨HBD.out.mono (by omega)⟩, HIV, HF, VR⟩
                  case measure => simp [intOf] <;> omega
              · have ej : j = RW.length := by omega
                subst ej
                have c36 : decide ((RW.length : Int) < (RW.length : Int)) = false := decide_eq_false (by omega)
                have HYS : Aside0 (z = upV l F x1 (v + 1)) := ⟨by rw [upV_succ, ← HY.out, HZ.out, HRW.out]; exact upJ_all l F v y HIVy.out⟩
                go_wp2_with fail
                go_roundw
                case rel => exact ⟨v + 1, by omega, by first | rfl | go_num, z, rfl, HYS, HOz, ⟨HBD.out.mono (by omega)⟩, HF⟩
                case measure => simp [intOf] <;> omega
        · have ev : n0 = v := by omega
          subst ev
          have c23 : decide ((n0 : Int) < (n0 : Int)) = false := decide_eq_false (by omega)
          have HRD : Aside0 (roundR l F n0 x1 = y) := ⟨HY.out.symm⟩
          have hk : n0 + 1 - r = (n0 - r) + 1 := by omega
          rw [hk] at HG1
          clear hk
          cases hst : y.still with
          | true =>
            have HG2 : Aside0 (XT = (y, true)) := ⟨by rw [← HG1.out]; exact goes_end HRD.out hst⟩
            clear hst
            go_wp2_with fail
            rw [Exit.noGoto_ret]
            go_ret
            rw [HG2.out]
            exact ⟨rfl, HF.out.kp, HF.out.D, HF.out.I, HF.out.B⟩
          | false =>
            have HG2 : Aside0 (goesR l F n0 (n0 + 1 - (r + 1)) y = XT) := ⟨by rw [show n0 + 1 - (r + 1) = n0 - r by omega, ← HG1.out]; exact (goes_step HRD.out hst).symm⟩
            clear hst
            go_wp2_with fail
            go_roundw
            case rel => exact ⟨r + 1, by omega, by first | rfl | go_num, y, HO, ⟨HBD.out.mono (by omega)⟩, HG2, HF⟩
            case measure => simp [intOf] <;> omega
    · have er : r = n0 + 1 := by omega
      subst er
      have c17 : decide (((n0 + 1 : Nat) : Int) < (n0 : Int) + 1) = false := decide_eq_false (by omega)
      have HG2 : Aside0 (XT = (x1, false)) := ⟨by have := HG1.out; rw [Nat.sub_self] at this; exact this.symm⟩
      go_wp2_with fail
      rw [Exit.noGoto_ret]
      go_ret
      rw [HG2.out]
      exact ⟨rfl, HF.out.kp, HF.out.D, HF.out.I, HF.out.B⟩
end Go.Proofs.Ytkcpanpdipmmmaa.H

/- Go's stable sort on a row without elements. -/
set_option linter.unusedVariables false
set_option linter.unusedSimpArgs false
namespace Go.Proofs.Ytkcpanpdipmmmaa.H
open Go.RowKit Go.Proofs.YtkcpanpdipmmmaaW.PrintWords Go.Proofs.YtkcpanpdipmmmaaW.PrintLast Go.Proofs.YtkcpanpdipmmmaaW.PrintMore Go.Proofs.Ytkcpanpdipmmmaa.P
set_option maxHeartbeats 1000000 in
set_option maxRecDepth 100000 in
theorem insertion_nil (A : Option Addr) (cap : Nat) (f : Value) (w : World) :
    Calls Try.prog 169 #[.slice A 0 cap, .int .i64 0, .int .i64 0, f] w fun e w' => e = .returned (.tuple #[]) ∧ w' = w := by
  go_enter Try.func169, Try.ntmps169
  go_wp2
  go_loopw [8] (fun i wr => i = .int .i64 1 ∧ Aside0 (wr = w)) (fun i _ => 0)
  case atStart => exact ⟨by go_num, ⟨rfl⟩⟩
  case round =>
    obtain ⟨rfl, HW⟩ := hrel
    go_wp2
    go_end0
    exact ⟨rfl, HW.out⟩
set_option maxHeartbeats 1000000 in
set_option maxRecDepth 100000 in
theorem stable_nil (A : Option Addr) (cap : Nat) (f : Value) (w : World) :
    Calls Try.prog 162 #[.slice A 0 cap, .int .i64 0, f] w fun e w' => e = .returned (.tuple #[]) ∧ w' = w := by
  go_enter Try.func162, Try.ntmps162
  go_wp2_with fail
  go_loopw [7, 8] (fun va vb wr => va = .int .i64 0 ∧ vb = .int .i64 20 ∧ Aside0 (wr = w)) (fun va _ _ => 0)
  case atStart => exact ⟨by go_num, by go_num, ⟨rfl⟩⟩
  case round =>
    obtain ⟨rfl, rfl, HW⟩ := hrel
    go_wp2_with fail
    refine (insertion_nil A cap f _).mono ?_
    rintro e1 w1 ⟨rfl, rfl⟩
    go_wp2_with fail
    go_loopw [6] (fun vs wr => vs = .int .i64 20 ∧ Aside0 (wr = w)) (fun vs _ => 0)
    case atStart => exact ⟨by go_num, HW⟩
    case round =>
      clear HW
      obtain ⟨rfl, HW⟩ := hrel
      go_wp2_with fail
      go_end0
      exact ⟨rfl, HW.out⟩
theorem sortStable_nil (A : Option Addr) (cap : Nat) (f : Value) (w : World) :
    Calls Try.prog 143 #[.slice A 0 cap, f] w fun e w' => e = .returned (.tuple #[]) ∧ w' = w := by
  go_enter Try.func143, Try.ntmps143
  go_wp2_with fail
  refine (stable_nil A cap f w).mono ?_
  rintro e1 w1 ⟨rfl, rfl⟩
  go_wp2_with fail
  go_end0
  exact ⟨rfl, rfl⟩
end Go.Proofs.Ytkcpanpdipmmmaa.H

/- The stable sort on one row of a row of rows. -/
set_option linter.unusedVariables false
set_option linter.unusedSimpArgs false
namespace Go.Proofs.Ytkcpanpdipmmmaa.H
open Go.RowKit Go.Proofs.YtkcpanpdipmmmaaW.PrintWords Go.Proofs.YtkcpanpdipmmmaaW.PrintLast Go.Proofs.YtkcpanpdipmmmaaW.PrintMore Go.Proofs.Ytkcpanpdipmmmaa.P
theorem stL_nil {l : List S74} {n : Nat} {v : Int} (hv0 : 0 ≤ v) (hv : v < n) (hE : ends l n) (h : stepsU l n v = []) : stL l v l.length = [] := by
  refine List.eq_nil_iff_forall_not_mem.2 fun s hs => ?_
  have := (mem_stepsU l n v hv0 hv hE s).2 ((mem_stL l v l.length s).1 hs)
  rw [h] at this
  cases this
theorem row_step (P : List S38) (L : List Int) (b : Bool) (j : Nat) (hj : j < L.length) : P ++ (L.take (j + 1)).map (fun i => (⟨i, b⟩ : S38)) = (P ++ (L.take j).map (fun i => (⟨i, b⟩ : S38))) ++ [⟨rd L (j : Int), b⟩] := by
  have e : L.take (j + 1) = L.take j ++ [rd L (j : Int)] := by
    rw [List.take_add_one, List.getElem?_eq_getElem hj]
    show _ ++ [L[j]] = _ ++ [L.getD (j : Int).toNat 0]
    rw [Int.toNat_natCast, List.getD_eq_getElem?_getD, List.getElem?_eq_getElem hj]
    rfl
  rw [e, List.map_append, List.append_assoc]
  rfl
theorem sort_row {w : World} {base go n co k N : Nat} {l : List S74} {X : List (List S38)} {oki : Nat → Prop} {A : Option Addr} {cr : Nat} {RW : List S38}
    (hH : Kd.H (Kd.slice 38 k38) 34 w base (fun _ => True) (.slice (some ⟨go, 0, none⟩) n co) X (k : Int) oki [.slice A RW.length cr])
    (hR : Kd.R k38 38 w base oki (.slice A RW.length cr) RW) (hRW : RW = stepsU l N (k : Int)) (hk : k < N) (hE : ends l N) (hl : l.length ≤ 1000000) (hlen : RW.length ≤ 1000000) :
    Calls Try.prog 143 #[.slice A RW.length cr, .func (.func 144) #[] #[]] w fun e w' => e = .returned (.tuple #[]) ∧
      ∃ v : Value, w.grownBy w' v.ownBlock ∧ (∀ g, v.ownBlock = some g → base ≤ g ∧ ∃ cells, w.heap[g]? = some (.cells cells 38 (0, 0))) ∧ Kd.S (Kd.slice 38 k38) 34 w' base (fun _ => True) (.slice (some ⟨go, 0, none⟩) n co) (X.set k (stL l k l.length)) := by
  have hk0 : 0 ≤ (k : Int) := by omega
  have hkn : (k : Int) < N := by omega
  by_cases hp : 0 < RW.length
  · obtain ⟨g, cap, e, hb, _, cells, hcl⟩ := Kd.R_form hR hp
    injection e with e1 _ e3
    subst e1
    subst e3
    have hA := arr_of_R hR hp
    refine (sortStable_calls g RW.length cr (fun i => RW.getD i z38) w hA hlen ?_ ?_).mono ?_
    · rw [hRW]; exact stab_of_list (stab_stepsU l N (k : Int) hk0 hkn hE)
    · rw [hRW]; exact small_steps hk0 hkn hE hl
    · rintro e w' ⟨rfl, ⟨K, hK, hs⟩, hf⟩
      refine ⟨rfl, .slice (some ⟨g, 0, none⟩) RW.length cr, hf.1, fun g' hg' => ?_, ?_⟩
      · have : g = g' := by simpa [Value.ownBlock] using hg'
        subst this
        exact ⟨hb, cells, hcl⟩
      · have hoki : oki g := hR.1 g rfl
        have hR' := R_of_arr hR rfl hp hK hf hoki
        have hst : (List.range RW.length).map K = stL l k l.length := by rw [hRW] at hs ⊢; exact sorted_is hk0 hkn hE hs
        rw [hst] at hR'
        have hS := Kd.H_back (Kd.H_grown hH hf.1 (fun q hq => by injection hq with hq; subst hq; exact hoki)) (x' := stL l k l.length) ⟨_, rfl, hR'⟩ (fun _ hk => hk)
        rw [Int.toNat_natCast] at hS
        exact hS
  · have h0 : RW = [] := List.eq_nil_of_length_eq_zero (by omega)
    have hst : stL l k l.length = [] := stL_nil hk0 hkn hE (by rw [← hRW]; exact h0)
    subst h0
    refine (sortStable_nil A cr _ w).mono ?_
    rintro e w' ⟨rfl, rfl⟩
    refine ⟨rfl, .slice none 0 0, World.grownBy.refl _ _, fun g' hg' => by simp [Value.ownBlock] at hg', ?_⟩
    rw [hst]
    have hS := Kd.H_back hH (x' := ([] : List S38)) ⟨_, rfl, hR⟩ (fun _ hk => hk)
    rw [Int.toNat_natCast] at hS
    exact hS
end Go.Proofs.Ytkcpanpdipmmmaa.H

/- level.At; by gen_at.py. -/
set_option linter.unusedVariables false
set_option linter.unusedSimpArgs false
namespace Go.Proofs.Ytkcpanpdipmmmaa.H
open Go.RowKit Go.Proofs.YtkcpanpdipmmmaaW.PrintWords Go.Proofs.YtkcpanpdipmmmaaW.PrintLast Go.Proofs.YtkcpanpdipmmmaaW.PrintMore Go.Proofs.Ytkcpanpdipmmmaa.P
theorem infoRowS : (Try.prog.info? 34).map (fun i => (i.zero, i.size, i.bytes)) = some (some (.slice none 0 0), 1, 24) := by kernel_rfl
set_option maxHeartbeats 2000000 in
set_option maxRecDepth 100000 in
theorem at_calls (n0 : Nat) (a0_1 : Bool) (A0_2 : Option Addr) (c0_2 : Nat) (l0_2 : List S74) (A1 : Option Addr) (c1 n1 : Nat) (w : World) (hr0_2 : Kd.C k74 w A0_2 l0_2.length l0_2) (hc0_2 : l0_2.length ≤ c0_2) (h0 : 0 ≤ (n0 : Int)) (h1 : (n0 : Int) ≤ 1000000) (hl : l0_2.length ≤ 500000) (hE0 : ∀ k : Nat, k < l0_2.length → 0 ≤ eFrom (rd_T74 l0_2 k) ∧ eFrom (rd_T74 l0_2 k) < (n0 : Int)) (hE1 : ∀ k : Nat, k < l0_2.length → 0 ≤ eTo (rd_T74 l0_2 k) ∧ eTo (rd_T74 l0_2 k) < (n0 : Int)) :
    Calls Try.prog 101 #[.agg #[.int .i64 (n0 : Int), .bool a0_1, .slice A0_2 l0_2.length c0_2], .slice A1 n1 c1] w fun e w' => ∃ v0_ : Value, e = .returned (.agg #[.int .i64 (n0 : Int), .bool a0_1, .slice A0_2 l0_2.length c0_2, .slice A1 n1 c1, v0_]) ∧ Kd.S (Kd.slice 38 k38) 34 w' w.heap.size (fun _ => True) v0_ (rowsAt l0_2 n0 n0) ∧ Below w.heap.size w w' := by
  have hu24 := Try.underlying24
  have hu118 := Try.underlying118
  have HR0_2 := Aside0.mk hr0_2
  have HC0_2 := Aside0.mk hc0_2
  have HH0 := Aside0.mk h0
  have HH1 := Aside0.mk h1
  have HE0 := Aside0.mk hE0
  have HE1 := Aside0.mk hE1
  have HR0 := Aside0.mk hr0_2
  clear hr0_2 hc0_2 h0 h1 hE0 hE1
  have HB := Aside0.mk (Below.refl w.heap.size w)
  go_enter Try.func101, Try.ntmps101
  go_wp2_with (first | ((with_reducible refine gate_dst (N := 2) rfl ?_); refine box_event ?hg (N := 2) ?hd (cs := #[.int .i64 (n0 : Int), .bool a0_1, .slice A0_2 l0_2.length c0_2]) (t := 24) ?hr ?_; (case hd => rfl); (case hg => rfl); (case hr => first | (go_simp; done) | (go_simp; rfl)); intro gb111 hg w4 hbox hb; have n0_ := Aside0.mk (below_step (by repeat (first | (with_reducible first | exact HB.out | apply below_alloc | apply pw_below_drewN | apply below_drew1) | exact HB.out)) hb); have n1_ := Aside0.mk (hbox); have n2_ := Aside0.mk (Kd.C_below HR0_2.out hb); clear HB HR0_2; have HB := n0_; have BK111 := n1_; have HR0_2 := n2_; clear n0_ n1_ n2_; clear hb hbox hg) | ((with_reducible refine gate_dst (N := 4) rfl ?_); refine box_event ?hg (N := 4) ?hd (cs := #[.int .i64 0, .bool false, .slice none 0 0, .slice none 0 0, .slice none 0 0]) (t := 118) ?hr ?_; (case hd => rfl); (case hg => rfl); (case hr => first | (go_simp; done) | (go_simp; rfl)); intro gb4 hg w5 hbox hb; have GE4 : Aside0 (w.heap.size ≤ gb4) := ⟨by rw [hg]; exact HB.out.size⟩; have n0_ := Aside0.mk (below_step (by repeat (first | (with_reducible first | exact HB.out | apply below_alloc | apply pw_below_drewN | apply below_drew1) | exact HB.out)) hb); have n1_ := Aside0.mk (hbox); have n2_ := Aside0.mk (Kd.C_below HR0_2.out hb); have n3_ := Aside0.mk (blk_below BK111.out hb); clear HB HR0_2 BK111; have HB := n0_; have BK4 := n1_; have HR0_2 := n2_; have BK111 := n3_; clear n0_ n1_ n2_ n3_; clear hb hbox hg) | fail)
  obtain ⟨R0, hR0⟩ : ∃ y_ : List (List S38), y_ = List.replicate (n0 : Int).toNat [] := ⟨_, rfl⟩
  have NR0 := Aside0.mk hR0
  clear hR0
  refine start_ (n := 9) (S := (fun w' => w'.cell? ⟨gb111, 0, none⟩ = some (.int .i64 (n0 : Int)) ∧ w'.cell? ⟨gb111, 1, none⟩ = some (.bool a0_1) ∧ w'.cell? ⟨gb111, 2, none⟩ = some (.slice A0_2 l0_2.length c0_2))) (ds := []) #[false, false, false, false, false, false, false, false, false] (by kernel_rfl) rfl rfl ⟨(blk_cell BK111.out 0).trans rfl, (blk_cell BK111.out 1).trans rfl, (blk_cell BK111.out 2).trans rfl⟩ (fun hHeld => ?_)
  have n0_ := Aside0.mk (below_drew HB.out)
  have n1_ : Aside0 (w5.drew.heap[gb111]? = some (.cells #[.int .i64 (n0 : Int), .bool a0_1, .slice A0_2 l0_2.length c0_2] 24 (0, 0))) := ⟨BK111.out⟩
  have n2_ : Aside0 (w5.drew.heap[gb4]? = some (.cells #[.int .i64 0, .bool false, .slice none 0 0, .slice none 0 0, .slice none 0 0] 118 (0, 0))) := ⟨BK4.out⟩
  clear HB BK111 BK4
  have HB := n0_
  have BK111 := n1_
  have BK4 := n2_
  clear n0_ n1_ n2_
  generalize w5.drew = w6 at BK111 HB BK4 hHeld ⊢
  refine pure_ (i := 1) (N := some 14) (v := ?_) (a' := ?_) #[false, true, false, false, false, false, false, false, false] rfl rfl (by kernel_rfl) (fun _ _ _ h => h) (Or.inl ⟨by rfl, ?_⟩) ?_ ?_
  rotate_left
  · intro w'
    go_simp
    with_reducible rfl
  rotate_left
  · simp only [Act.put, List.setIfInBounds_toArray, List.set_cons_zero, List.set_cons_succ, i64_w, i32_w]
    rfl
  refine pure_ (i := 3) (N := some 16) (v := ?_) (a' := ?_) #[false, true, false, true, false, false, false, false, false] rfl rfl (by kernel_rfl) (fun _ _ _ h => h) (Or.inl ⟨by rfl, ?_⟩) ?_ ?_
  rotate_left
  · intro w'
    go_simp
    with_reducible rfl
  rotate_left
  · simp only [Act.put, List.setIfInBounds_toArray, List.set_cons_zero, List.set_cons_succ, i64_w, i32_w]
    rfl
  refine take_ (i := 0) (N := some 13) (v := ?_) (a' := ?_) #[true, true, false, true, false, false, false, false, false] rfl rfl (by kernel_rfl) (fun _ _ _ h => h) (Or.inl ⟨by rfl, ?_⟩) hHeld ?_ ?_
  rotate_left
  · rintro w' ⟨s0, s1, s2⟩
    go_simp
    with_reducible rfl
  rotate_left
  · simp only [Act.put, List.setIfInBounds_toArray, List.set_cons_zero, List.set_cons_succ, i64_w, i32_w]
    rfl
  refine take_ (i := 4) (N := some 17) (v := ?_) (a' := ?_) #[true, true, false, true, true, false, false, false, false] rfl rfl (by kernel_rfl) (fun _ _ _ h => h) (Or.inl ⟨by rfl, ?_⟩) hHeld ?_ ?_
  rotate_left
  · rintro w' ⟨s0, s1, s2⟩
    go_simp
    with_reducible rfl
  rotate_left
  · simp only [Act.put, List.setIfInBounds_toArray, List.set_cons_zero, List.set_cons_succ, i64_w, i32_w]
    rfl
  refine pure_ (i := 2) (N := some 15) (v := ?_) (a' := ?_) #[true, true, true, true, true, false, false, false, false] rfl rfl (by kernel_rfl) (fun _ _ _ h => h) (Or.inl ⟨by rfl, ?_⟩) ?_ ?_
  rotate_left
  · intro w'
    go_simp
    with_reducible rfl
  rotate_left
  · simp only [Act.put, List.setIfInBounds_toArray, List.set_cons_zero, List.set_cons_succ, i64_w, i32_w]
    rfl
  refine join_ (σ := Value × Nat) 1 #[true, true, true, true, true, true, true, true, false] (fun s_ => [(18, s_.1), (19, .agg #[.int .i64 (n0 : Int), .bool a0_1, .slice A0_2 l0_2.length c0_2, .slice A1 n1 c1, s_.1]), (5, .pointer (some ⟨s_.2, 0, none⟩))]) (fun s_ w' => (w'.cell? ⟨gb111, 0, none⟩ = some (.int .i64 (n0 : Int)) ∧ w'.cell? ⟨gb111, 1, none⟩ = some (.bool a0_1) ∧ w'.cell? ⟨gb111, 2, none⟩ = some (.slice A0_2 l0_2.length c0_2)) ∧ Kd.S (Kd.slice 38 k38) 34 w' w.heap.size (fun _ => True) s_.1 R0 ∧ w'.heap[gb111]? = some (.cells #[.int .i64 (n0 : Int), .bool a0_1, .slice A0_2 l0_2.length c0_2] 24 (0, 0)) ∧ w'.heap[s_.2]? = some (.cells #[.int .i64 0, .bool false, .slice none 0 0, .slice none 0 0, .slice none 0 0] 118 (0, 0)) ∧ w'.heap[gb4]? = some (.cells #[.int .i64 0, .bool false, .slice none 0 0, .slice none 0 0, .slice none 0 0] 118 (0, 0)) ∧ w.heap.size ≤ s_.2 ∧ gb111 ≠ s_.2 ∧ gb4 ≠ s_.2 ∧ Below w.heap.size w w') ?_ ?_
  rotate_left
  · intro hCont
    refine two_ (i := 5) (j := 7) (Ni := some 18) (Nj := some 5) #[true, true, true, true, true, true, false, false, false] #[true, true, true, true, true, false, false, true, false] rfl rfl rfl rfl (by kernel_rfl) (by decide) (by decide) (fun K hK => ?_) (fun K hK => ?_)
    · skip
      refine Kd.S_make_step (Kd.slice 38 k38) _ 34 (by rfl) (N := 18) rfl 116 _ _ rfl (n0 : Int) rfl rfl Try.underlying116 (.slice none 0 0) 24 infoRowS rfl (by decide) (by omega) [] (ok := fun _ => True) (okp := fun _ => True) ⟨_, rfl, Kd.R_nil _ _ _ _ _⟩ (fun _ hk => hk) trivial HH0.out (by have := HH1.out; omega) (Below.refl _ _) (Nat.le_refl _) ?_
      intro v18 w7 ho hb _ _
      rw [← NR0.out] at ho
      obtain ⟨Ao, co, eo⟩ := Kd.S_slice ho
      subst eo
      have n0_ := Aside0.mk (Kd.S_lower ho HB.out.size)
      have n1_ := Aside0.mk (blk_below BK111.out hb)
      have n2_ := Aside0.mk (blk_below BK4.out hb)
      have n3_ := Aside0.mk (below_step HB.out hb)
      clear BK111 BK4 HB ho hb
      have HO := n0_
      have BK111 := n1_
      have BK4 := n2_
      have HB := n3_
      clear n0_ n1_ n2_ n3_
      refine hK.out _ _ ⟨(blk_cell BK111.out 0).trans rfl, (blk_cell BK111.out 1).trans rfl, (blk_cell BK111.out 2).trans rfl⟩ (fun hHeld => ?_)
      clear hK K
      refine norm_ (a' := ?_) ?_ ?_
      rotate_left
      · show Act.put _ (some 18) _ = _
        simp only [Act.put, List.setIfInBounds_toArray, List.set_cons_zero, List.set_cons_succ, i64_w, i32_w]
        rfl
      refine pure_ (i := 6) (N := some 19) (v := ?_) (a' := ?_) #[true, true, true, true, true, true, true, false, false] rfl rfl (by kernel_rfl) (fun _ _ _ h => h) (Or.inl ⟨by rfl, ?_⟩) ?_ ?_
      rotate_left
      · intro w'
        go_simp
        with_reducible rfl
      rotate_left
      · simp only [Act.put, List.setIfInBounds_toArray, List.set_cons_zero, List.set_cons_succ, i64_w, i32_w]
        rfl
      refine one_ (i := 7) (N := some 5) #[true, true, true, true, true, true, true, true, false] rfl rfl (by kernel_rfl) (by decide) (fun K hK => ?_)
      refine box_step ?hg (N := 5) ?hd (cs := #[.int .i64 0, .bool false, .slice none 0 0, .slice none 0 0, .slice none 0 0]) (t := 118) ?hr ?_; (case hd => rfl); (case hg => rfl); (case hr => first | (go_simp; done) | (go_simp; rfl))
      intro gb5 hg w8 hbox hb
      have n0_ := Aside0.mk hbox
      have n1_ := Aside0.mk (blk_below BK111.out hb)
      have n2_ := Aside0.mk (blk_below BK4.out hb)
      have n3_ := Aside0.mk (below_step HB.out hb)
      have n5_ : Aside0 (w.heap.size ≤ gb5) := ⟨by rw [hg]; exact HB.out.size⟩
      have n6_ : Aside0 (gb111 ≠ gb5) := ⟨by rw [hg]; exact Nat.ne_of_lt (blk_lt BK111.out)⟩
      have n7_ : Aside0 (gb4 ≠ gb5) := ⟨by rw [hg]; exact Nat.ne_of_lt (blk_lt BK4.out)⟩
      have n4_ := Aside0.mk (Kd.S_below HO.out hb)
      clear HO
      have HO := n4_
      clear n4_
      clear BK111 BK4 HB hbox hb hg
      have BK5 := n0_
      have BK111 := n1_
      have BK4 := n2_
      have HB := n3_
      have GE5 := n5_
      have NB111 := n6_
      have NB4 := n7_
      clear n0_ n1_ n2_ n3_ n5_ n6_ n7_
      refine hK.out _ _ ⟨(blk_cell BK111.out 0).trans rfl, (blk_cell BK111.out 1).trans rfl, (blk_cell BK111.out 2).trans rfl⟩ (fun hHeld => ?_)
      clear hK K
      refine norm_ (a' := ?_) ?_ ?_
      rotate_left
      · show Act.put _ (some 5) _ = _
        simp only [Act.put, List.setIfInBounds_toArray, List.set_cons_zero, List.set_cons_succ, i64_w, i32_w]
        rfl
      exact norm_ (by (simp only [putAll, Act.put, List.setIfInBounds_toArray, List.set_cons_zero, List.set_cons_succ]) <;> rfl) (hCont (.slice Ao R0.length co, gb5) _ ⟨hHeld, HO.out, BK111.out, BK5.out, BK4.out, GE5.out, NB111.out, NB4.out, HB.out⟩)
    · skip
      refine box_step ?hg (N := 5) ?hd (cs := #[.int .i64 0, .bool false, .slice none 0 0, .slice none 0 0, .slice none 0 0]) (t := 118) ?hr ?_; (case hd => rfl); (case hg => rfl); (case hr => first | (go_simp; done) | (go_simp; rfl))
      intro gb5 hg w7 hbox hb
      have n0_ := Aside0.mk hbox
      have n1_ := Aside0.mk (blk_below BK111.out hb)
      have n2_ := Aside0.mk (blk_below BK4.out hb)
      have n3_ := Aside0.mk (below_step HB.out hb)
      have n5_ : Aside0 (w.heap.size ≤ gb5) := ⟨by rw [hg]; exact HB.out.size⟩
      have n6_ : Aside0 (gb111 ≠ gb5) := ⟨by rw [hg]; exact Nat.ne_of_lt (blk_lt BK111.out)⟩
      have n7_ : Aside0 (gb4 ≠ gb5) := ⟨by rw [hg]; exact Nat.ne_of_lt (blk_lt BK4.out)⟩
      clear BK111 BK4 HB hbox hb hg
      have BK5 := n0_
      have BK111 := n1_
      have BK4 := n2_
      have HB := n3_
      have GE5 := n5_
      have NB111 := n6_
      have NB4 := n7_
      clear n0_ n1_ n2_ n3_ n5_ n6_ n7_
      refine hK.out _ _ ⟨(blk_cell BK111.out 0).trans rfl, (blk_cell BK111.out 1).trans rfl, (blk_cell BK111.out 2).trans rfl⟩ (fun hHeld => ?_)
      clear hK K
      refine norm_ (a' := ?_) ?_ ?_
      rotate_left
      · show Act.put _ (some 5) _ = _
        simp only [Act.put, List.setIfInBounds_toArray, List.set_cons_zero, List.set_cons_succ, i64_w, i32_w]
        rfl
      refine one_ (i := 5) (N := some 18) #[true, true, true, true, true, true, false, true, false] rfl rfl (by kernel_rfl) (by decide) (fun K hK => ?_)
      refine Kd.S_make_step (Kd.slice 38 k38) _ 34 (by rfl) (N := 18) rfl 116 _ _ rfl (n0 : Int) rfl rfl Try.underlying116 (.slice none 0 0) 24 infoRowS rfl (by decide) (by omega) [] (ok := fun _ => True) (okp := fun _ => True) ⟨_, rfl, Kd.R_nil _ _ _ _ _⟩ (fun _ hk => hk) trivial HH0.out (by have := HH1.out; omega) (Below.refl _ _) (Nat.le_refl _) ?_
      intro v18 w8 ho hb _ _
      rw [← NR0.out] at ho
      obtain ⟨Ao, co, eo⟩ := Kd.S_slice ho
      subst eo
      have n0_ := Aside0.mk (Kd.S_lower ho HB.out.size)
      have n1_ := Aside0.mk (blk_below BK111.out hb)
      have n2_ := Aside0.mk (blk_below BK4.out hb)
      have n3_ := Aside0.mk (below_step HB.out hb)
      have n4_ := Aside0.mk (blk_below BK5.out hb)
      clear BK5
      have BK5 := n4_
      clear n4_
      clear BK111 BK4 HB ho hb
      have HO := n0_
      have BK111 := n1_
      have BK4 := n2_
      have HB := n3_
      clear n0_ n1_ n2_ n3_
      refine hK.out _ _ ⟨(blk_cell BK111.out 0).trans rfl, (blk_cell BK111.out 1).trans rfl, (blk_cell BK111.out 2).trans rfl⟩ (fun hHeld => ?_)
      clear hK K
      refine norm_ (a' := ?_) ?_ ?_
      rotate_left
      · show Act.put _ (some 18) _ = _
        simp only [Act.put, List.setIfInBounds_toArray, List.set_cons_zero, List.set_cons_succ, i64_w, i32_w]
        rfl
      refine pure_ (i := 6) (N := some 19) (v := ?_) (a' := ?_) #[true, true, true, true, true, true, true, true, false] rfl rfl (by kernel_rfl) (fun _ _ _ h => h) (Or.inl ⟨by rfl, ?_⟩) ?_ ?_
      rotate_left
      · intro w'
        go_simp
        with_reducible rfl
      rotate_left
      · simp only [Act.put, List.setIfInBounds_toArray, List.set_cons_zero, List.set_cons_succ, i64_w, i32_w]
        rfl
      exact norm_ (by (simp only [putAll, Act.put, List.setIfInBounds_toArray, List.set_cons_zero, List.set_cons_succ]) <;> rfl) (hCont (.slice Ao R0.length co, gb5) _ ⟨hHeld, HO.out, BK111.out, BK5.out, BK4.out, GE5.out, NB111.out, NB4.out, HB.out⟩)
  rintro ⟨v18, gb5⟩ w9 ⟨hHeld, h0_, h1_, h2_, h3_, h4_, h5_, h6_, h7_⟩
  clear BK111 BK4 HB
  have HO := Aside0.mk h0_
  clear h0_
  have BK111 := Aside0.mk h1_
  clear h1_
  have BK5 := Aside0.mk h2_
  clear h2_
  have BK4 := Aside0.mk h3_
  clear h3_
  have GE5 := Aside0.mk h4_
  clear h4_
  have NB111 := Aside0.mk h5_
  clear h5_
  have NB4 := Aside0.mk h6_
  clear h6_
  have HB := Aside0.mk h7_
  clear h7_
  obtain ⟨Ao, co, eo⟩ := Kd.S_slice HO.out
  dsimp only at eo HO BK5 GE5 NB111 NB4
  subst eo
  refine norm_ (a' := ?_) ?_ ?_
  rotate_left
  · simp only [putAll, Act.put, List.setIfInBounds_toArray, List.set_cons_zero, List.set_cons_succ]
    rfl
  refine one_ (i := 8) (N := none) #[true, true, true, true, true, true, true, true, true] rfl rfl (by kernel_rfl) (by decide) (fun K hK => ?_)
  have hs0 : w9.cell? ⟨gb5, 0, none⟩ = some (.int .i64 0) := (blk_cell BK5.out 0).trans rfl
  have hfs0 := blk_frozen BK5.out 0
  have hs1 : w9.cell? ⟨gb5, 1, none⟩ = some (.bool false) := (blk_cell BK5.out 1).trans rfl
  have hfs1 := blk_frozen BK5.out 1
  have hs2 : w9.cell? ⟨gb5, 2, none⟩ = some (.slice none 0 0) := (blk_cell BK5.out 2).trans rfl
  have hfs2 := blk_frozen BK5.out 2
  have hs3 : w9.cell? ⟨gb5, 3, none⟩ = some (.slice none 0 0) := (blk_cell BK5.out 3).trans rfl
  have hfs3 := blk_frozen BK5.out 3
  have hs4 : w9.cell? ⟨gb5, 4, none⟩ = some (.slice none 0 0) := (blk_cell BK5.out 4).trans rfl
  have hfs4 := blk_frozen BK5.out 4
  have n0_ : Aside0 ((((((w9.setCell ⟨gb5, 0, none⟩ (.int .i64 (n0 : Int))).setCell ⟨gb5, 1, none⟩ (.bool a0_1)).setCell ⟨gb5, 2, none⟩ (.slice A0_2 l0_2.length c0_2)).setCell ⟨gb5, 3, none⟩ (.slice A1 n1 c1)).setCell ⟨gb5, 4, none⟩ (.slice Ao R0.length co)).heap[gb5]? = some (.cells #[.int .i64 (n0 : Int), .bool a0_1, .slice A0_2 l0_2.length c0_2, .slice A1 n1 c1, .slice Ao R0.length co] 118 (0, 0))) := ⟨by
    refine blk_put (cs := #[.int .i64 (n0 : Int), .bool a0_1, .slice A0_2 l0_2.length c0_2, .slice A1 n1 c1, .slice none 0 0]) ?_ 4 _ rfl
    refine blk_put (cs := #[.int .i64 (n0 : Int), .bool a0_1, .slice A0_2 l0_2.length c0_2, .slice none 0 0, .slice none 0 0]) ?_ 3 _ rfl
    refine blk_put (cs := #[.int .i64 (n0 : Int), .bool a0_1, .slice none 0 0, .slice none 0 0, .slice none 0 0]) ?_ 2 _ rfl
    refine blk_put (cs := #[.int .i64 (n0 : Int), .bool false, .slice none 0 0, .slice none 0 0, .slice none 0 0]) ?_ 1 _ rfl
    refine blk_put (cs := #[.int .i64 0, .bool false, .slice none 0 0, .slice none 0 0, .slice none 0 0]) ?_ 0 _ rfl
    exact BK5.out⟩
  have n1_ : Aside0 ((((((w9.setCell ⟨gb5, 0, none⟩ (.int .i64 (n0 : Int))).setCell ⟨gb5, 1, none⟩ (.bool a0_1)).setCell ⟨gb5, 2, none⟩ (.slice A0_2 l0_2.length c0_2)).setCell ⟨gb5, 3, none⟩ (.slice A1 n1 c1)).setCell ⟨gb5, 4, none⟩ (.slice Ao R0.length co)).heap[gb111]? = some (.cells #[.int .i64 (n0 : Int), .bool a0_1, .slice A0_2 l0_2.length c0_2] 24 (0, 0))) := ⟨by
    refine blk_far ?_ NB111.out _
    refine blk_far ?_ NB111.out _
    refine blk_far ?_ NB111.out _
    refine blk_far ?_ NB111.out _
    refine blk_far ?_ NB111.out _
    exact BK111.out⟩
  have n2_ : Aside0 ((((((w9.setCell ⟨gb5, 0, none⟩ (.int .i64 (n0 : Int))).setCell ⟨gb5, 1, none⟩ (.bool a0_1)).setCell ⟨gb5, 2, none⟩ (.slice A0_2 l0_2.length c0_2)).setCell ⟨gb5, 3, none⟩ (.slice A1 n1 c1)).setCell ⟨gb5, 4, none⟩ (.slice Ao R0.length co)).heap[gb4]? = some (.cells #[.int .i64 0, .bool false, .slice none 0 0, .slice none 0 0, .slice none 0 0] 118 (0, 0))) := ⟨by
    refine blk_far ?_ NB4.out _
    refine blk_far ?_ NB4.out _
    refine blk_far ?_ NB4.out _
    refine blk_far ?_ NB4.out _
    refine blk_far ?_ NB4.out _
    exact BK4.out⟩
  have n3_ : Aside0 (Kd.S (Kd.slice 38 k38) 34 (((((w9.setCell ⟨gb5, 0, none⟩ (.int .i64 (n0 : Int))).setCell ⟨gb5, 1, none⟩ (.bool a0_1)).setCell ⟨gb5, 2, none⟩ (.slice A0_2 l0_2.length c0_2)).setCell ⟨gb5, 3, none⟩ (.slice A1 n1 c1)).setCell ⟨gb5, 4, none⟩ (.slice Ao R0.length co)) w.heap.size (fun _ => True) (.slice Ao R0.length co) R0) := ⟨Kd.S_mono (Kd.S_far (p := ⟨gb5, 4, none⟩) (Kd.S_far (p := ⟨gb5, 3, none⟩) (Kd.S_far (p := ⟨gb5, 2, none⟩) (Kd.S_far (p := ⟨gb5, 1, none⟩) (Kd.S_far (p := ⟨gb5, 0, none⟩) (Kd.S_types HO.out BK5.out (by decide)) (fun _ hk => hk.2) (.int .i64 (n0 : Int))) (fun _ hk => hk.2) (.bool a0_1)) (fun _ hk => hk.2) (.slice A0_2 l0_2.length c0_2)) (fun _ hk => hk.2) (.slice A1 n1 c1)) (fun _ hk => hk.2) (.slice Ao R0.length co)) (fun _ _ => trivial)⟩
  have n4_ : Aside0 (Below w.heap.size w (((((w9.setCell ⟨gb5, 0, none⟩ (.int .i64 (n0 : Int))).setCell ⟨gb5, 1, none⟩ (.bool a0_1)).setCell ⟨gb5, 2, none⟩ (.slice A0_2 l0_2.length c0_2)).setCell ⟨gb5, 3, none⟩ (.slice A1 n1 c1)).setCell ⟨gb5, 4, none⟩ (.slice Ao R0.length co))) := ⟨by repeat (first | exact HB.out | refine below_set ?_ GE5.out)⟩
  refine skip_ (w1 := (((((w9.setCell ⟨gb5, 0, none⟩ (.int .i64 (n0 : Int))).setCell ⟨gb5, 1, none⟩ (.bool a0_1)).setCell ⟨gb5, 2, none⟩ (.slice A0_2 l0_2.length c0_2)).setCell ⟨gb5, 3, none⟩ (.slice A1 n1 c1)).setCell ⟨gb5, 4, none⟩ (.slice Ao R0.length co))) (by rfl) rfl ?_ ?_
  · go_simp
  clear hs0 hfs0 hs1 hfs1 hs2 hfs2 hs3 hfs3 hs4 hfs4
  refine hK.out _ _ ⟨(blk_cell n1_.out 0).trans rfl, (blk_cell n1_.out 1).trans rfl, (blk_cell n1_.out 2).trans rfl⟩ (fun hHeld => ?_)
  clear hK K BK5 BK111 BK4 HO HB hHeld
  have BK5 := n0_
  have BK111 := n1_
  have BK4 := n2_
  have HO := n3_
  have HB := n4_
  clear n0_ n1_ n2_ n3_ n4_
  refine done_ (by kernel_rfl) ?_
  generalize (((((w9.setCell ⟨gb5, 0, none⟩ (.int .i64 (n0 : Int))).setCell ⟨gb5, 1, none⟩ (.bool a0_1)).setCell ⟨gb5, 2, none⟩ (.slice A0_2 l0_2.length c0_2)).setCell ⟨gb5, 3, none⟩ (.slice A1 n1 c1)).setCell ⟨gb5, 4, none⟩ (.slice Ao R0.length co)) = w10 at BK5 BK111 BK4 HO HB ⊢
  go_wp2_with fail
  refine start_ (n := 6) (S := (fun w' => w'.cell? ⟨gb111, 0, none⟩ = some (.int .i64 (n0 : Int)) ∧ w'.cell? ⟨gb111, 1, none⟩ = some (.bool a0_1) ∧ w'.cell? ⟨gb111, 2, none⟩ = some (.slice A0_2 l0_2.length c0_2))) (ds := []) #[false, false, false, false, false, false] (by kernel_rfl) rfl rfl ⟨(blk_cell BK111.out 0).trans rfl, (blk_cell BK111.out 1).trans rfl, (blk_cell BK111.out 2).trans rfl⟩ (fun hHeld => ?_)
  have n0_ := Aside0.mk (below_drew HB.out)
  have n1_ : Aside0 (w10.drew.heap[gb111]? = some (.cells #[.int .i64 (n0 : Int), .bool a0_1, .slice A0_2 l0_2.length c0_2] 24 (0, 0))) := ⟨BK111.out⟩
  have n2_ : Aside0 (w10.drew.heap[gb4]? = some (.cells #[.int .i64 0, .bool false, .slice none 0 0, .slice none 0 0, .slice none 0 0] 118 (0, 0))) := ⟨BK4.out⟩
  have n3_ : Aside0 (w10.drew.heap[gb5]? = some (.cells #[.int .i64 (n0 : Int), .bool a0_1, .slice A0_2 l0_2.length c0_2, .slice A1 n1 c1, .slice Ao R0.length co] 118 (0, 0))) := ⟨BK5.out⟩
  have n4_ := Aside0.mk (Kd.S_drew HO.out)
  clear HB BK111 BK4 BK5 HO
  have HB := n0_
  have BK111 := n1_
  have BK4 := n2_
  have BK5 := n3_
  have HO := n4_
  clear n0_ n1_ n2_ n3_ n4_
  generalize w10.drew = w11 at BK111 HB BK4 BK5 HO hHeld ⊢
  refine take_ (i := 0) (N := some 20) (v := ?_) (a' := ?_) #[true, false, false, false, false, false] rfl rfl (by kernel_rfl) (fun _ _ _ h => h) (Or.inl ⟨by rfl, ?_⟩) hHeld ?_ ?_
  rotate_left
  · rintro w' ⟨s0, s1, s2⟩
    go_simp
    with_reducible rfl
  rotate_left
  · simp only [Act.put, List.setIfInBounds_toArray, List.set_cons_zero, List.set_cons_succ, i64_w, i32_w]
    rfl
  refine take_ (i := 2) (N := some 22) (v := ?_) (a' := ?_) #[true, false, true, false, false, false] rfl rfl (by kernel_rfl) (fun _ _ _ h => h) (Or.inl ⟨by rfl, ?_⟩) hHeld ?_ ?_
  rotate_left
  · rintro w' ⟨s0, s1, s2⟩
    go_simp
    with_reducible rfl
  rotate_left
  · simp only [Act.put, List.setIfInBounds_toArray, List.set_cons_zero, List.set_cons_succ, i64_w, i32_w]
    rfl
  refine one_ (i := 1) (N := some 21) #[true, true, true, false, false, false] rfl rfl (by kernel_rfl) (by decide) (fun K hK => ?_)
  refine goes_ Try.func141 (by kernel_rfl) rfl #[.agg #[.int .i64 (n0 : Int), .bool a0_1, .slice A0_2 l0_2.length c0_2]] (by rfl) rfl rfl (by (try simp only [List.map_toArray, List.map_cons, List.map_nil]); first | done | rfl) ?_
  refine (leaving_calls (n0 : Int) a0_1 A0_2 c0_2 l0_2 _ (Kd.C_below HR0.out HB.out) HC0_2.out HH0.out HH1.out (by omega) HE0.out).mono ?_
  rintro e w12 ⟨v21, rfl, hS, hb⟩
  refine ⟨_, rfl, ?_⟩
  have n0_ := Aside0.mk (below_step HB.out hb)
  have n1_ := Aside0.mk (blk_below BK111.out hb)
  have n2_ := Aside0.mk (blk_below BK4.out hb)
  have n3_ := Aside0.mk (blk_below BK5.out hb)
  have n4_ := Aside0.mk (Kd.S_below HO.out hb)
  have n5_ := Aside0.mk (Kd.S_lower hS HB.out.size)
  clear HB BK111 BK4 BK5 HO hS hb
  have HB := n0_
  have BK111 := n1_
  have BK4 := n2_
  have BK5 := n3_
  have HO := n4_
  have Hv21 := n5_
  clear n0_ n1_ n2_ n3_ n4_ n5_
  obtain ⟨Av21, cv21, ev21⟩ := Kd.S_slice Hv21.out
  subst ev21
  refine hK.out _ _ ⟨(blk_cell BK111.out 0).trans rfl, (blk_cell BK111.out 1).trans rfl, (blk_cell BK111.out 2).trans rfl⟩ (fun hHeld => ?_)
  clear hK K
  refine norm_ (a' := ?_) ?_ ?_
  rotate_left
  · show Act.put _ (some 21) _ = _
    simp only [Act.put, List.setIfInBounds_toArray, List.set_cons_zero, List.set_cons_succ, i64_w, i32_w]
    rfl
  refine one_ (i := 3) (N := some 23) #[true, true, true, true, false, false] rfl rfl (by kernel_rfl) (by decide) (fun K hK => ?_)
  refine goes_ Try.func142 (by kernel_rfl) rfl #[.agg #[.int .i64 (n0 : Int), .bool a0_1, .slice A0_2 l0_2.length c0_2]] (by rfl) rfl rfl (by (try simp only [List.map_toArray, List.map_cons, List.map_nil]); first | done | rfl) ?_
  refine (coming_calls (n0 : Int) a0_1 A0_2 c0_2 l0_2 _ (Kd.C_below HR0.out HB.out) HC0_2.out HH0.out HH1.out (by omega) HE1.out).mono ?_
  rintro e w13 ⟨v23, rfl, hS, hb⟩
  refine ⟨_, rfl, ?_⟩
  have n0_ := Aside0.mk (below_step HB.out hb)
  have n1_ := Aside0.mk (blk_below BK111.out hb)
  have n2_ := Aside0.mk (blk_below BK4.out hb)
  have n3_ := Aside0.mk (blk_below BK5.out hb)
  have n4_ := Aside0.mk (Kd.S_below HO.out hb)
  have n5_ := Aside0.mk (Kd.S_lower hS HB.out.size)
  have m_ := Aside0.mk (Kd.S_below Hv21.out hb)
  clear Hv21
  have Hv21 := m_
  clear m_
  clear HB BK111 BK4 BK5 HO hS hb
  have HB := n0_
  have BK111 := n1_
  have BK4 := n2_
  have BK5 := n3_
  have HO := n4_
  have Hv23 := n5_
  clear n0_ n1_ n2_ n3_ n4_ n5_
  obtain ⟨Av23, cv23, ev23⟩ := Kd.S_slice Hv23.out
  subst ev23
  refine hK.out _ _ ⟨(blk_cell BK111.out 0).trans rfl, (blk_cell BK111.out 1).trans rfl, (blk_cell BK111.out 2).trans rfl⟩ (fun hHeld => ?_)
  clear hK K
  refine norm_ (a' := ?_) ?_ ?_
  rotate_left
  · show Act.put _ (some 23) _ = _
    simp only [Act.put, List.setIfInBounds_toArray, List.set_cons_zero, List.set_cons_succ, i64_w, i32_w]
    rfl
  refine pure_ (i := 4) (N := some 6) (v := ?_) (a' := ?_) #[true, true, true, true, true, false] rfl rfl (by kernel_rfl) (fun _ _ _ h => h) (Or.inl ⟨by rfl, ?_⟩) ?_ ?_
  rotate_left
  · intro w'
    go_simp
    with_reducible rfl
  rotate_left
  · simp only [Act.put, List.setIfInBounds_toArray, List.set_cons_zero, List.set_cons_succ, i64_w, i32_w]
    rfl
  refine pure_ (i := 5) (N := some 7) (v := ?_) (a' := ?_) #[true, true, true, true, true, true] rfl rfl (by kernel_rfl) (fun _ _ _ h => h) (Or.inl ⟨by rfl, ?_⟩) ?_ ?_
  rotate_left
  · intro w'
    go_simp
    with_reducible rfl
  rotate_left
  · simp only [Act.put, List.setIfInBounds_toArray, List.set_cons_zero, List.set_cons_succ, i64_w, i32_w]
    rfl
  refine done_ (by kernel_rfl) ?_
  go_wp2_with fail
  have HR0' : Aside0 (R0 = rowsAt l0_2 n0 0) := ⟨by rw [NR0.out, rowsAt_zero, Int.toNat_natCast]⟩
  have hlR : R0.length = n0 := by rw [HR0'.out, rowsAt_len]
  rw [hlR] at HO BK5 ⊢
  rw [HR0'.out] at HO
  simp only [Int.toNat_natCast] at Hv21 Hv23 ⊢
  clear hHeld
  obtain ⟨L0, hL0⟩ : ∃ L, L = lsAt eFrom l0_2 n0 l0_2.length := ⟨_, rfl⟩
  obtain ⟨L1, hL1⟩ : ∃ L, L = lsAt eTo l0_2 n0 l0_2.length := ⟨_, rfl⟩
  have hn0 : L0.length = n0 := by rw [hL0, lsAt_len]
  have hn1 : L1.length = n0 := by rw [hL1, lsAt_len]
  rw [← hL0, hn0] at Hv21 ⊢
  rw [← hL1, hn1] at Hv23 ⊢
  have HL0 := Aside0.mk hL0
  have HL1 := Aside0.mk hL1
  clear hL0 hL1
  clear HR0' hlR HR0_2
  have hn6 : n0 ≤ 1000000 := by have := HH1.out; omega
  go_loopw [26] (fun v26 w' => ∃ k : Nat, k ≤ n0 ∧ v26 = .int .i64 k ∧ Aside0 (Kd.S (Kd.slice 38 k38) 34 w' w.heap.size (fun _ => True) (.slice Ao n0 co) (rowsAt l0_2 n0 k)) ∧ Aside0 (w'.heap[gb111]? = some (.cells #[.int .i64 (n0 : Int), .bool a0_1, .slice A0_2 l0_2.length c0_2] 24 (0, 0))) ∧ Aside0 (w'.heap[gb4]? = some (.cells #[.int .i64 0, .bool false, .slice none 0 0, .slice none 0 0, .slice none 0 0] 118 (0, 0))) ∧ Aside0 (w'.heap[gb5]? = some (.cells #[.int .i64 (n0 : Int), .bool a0_1, .slice A0_2 l0_2.length c0_2, .slice A1 n1 c1, .slice Ao n0 co] 118 (0, 0))) ∧ Aside0 (Kd.S (Kd.slice 3 (Kd.int .i64)) 25 w' w.heap.size (fun _ => True) (.slice Av21 n0 cv21) L0) ∧ Aside0 (Kd.S (Kd.slice 3 (Kd.int .i64)) 25 w' w.heap.size (fun _ => True) (.slice Av23 n0 cv23) L1) ∧ Aside0 (Below w.heap.size w w')) (fun v26 _ => n0 - (intOf v26).toNat)
  case atStart => exact ⟨0, Nat.zero_le _, rfl, HO, BK111, BK4, BK5, Hv21, Hv23, HB⟩
  case round =>
    clear HO BK111 BK4 BK5 Hv21 Hv23 HB
    obtain ⟨k, hk, rfl, HO, BK111, BK4, BK5, Hv21, Hv23, HB⟩ := hrel
    by_cases hlt : k < n0
    · have pk : 0 ≤ ((k : Nat) : Int) := by omega
      have qk : ((k : Nat) : Int) < (n0 : Int) := by omega
      have c27 : decide ((k : Int) < (n0 : Int)) = true := decide_eq_true qk
      obtain ⟨ad0, AA0, cc0, e_, hx_, hl_, _⟩ := at_L7 (Kd.S_reads' Hv21.out).2.2 (k : Int) pk (by rw [hn0]; omega)
      cases e_
      obtain ⟨ce_, hce_, hM_, hcc_⟩ := Kd.S_get Hv21.out [] (k : Int) pk qk
      obtain ⟨ve_, rfl, ge_⟩ := hM_
      have hv_ := hcc_ 0 _ rfl
      rw [Nat.add_zero, show ((Kd.slice 3 (Kd.int .i64))).sz = 1 from rfl, Nat.mul_one] at hv_
      replace hv_ := Option.some.inj (hv_.symm.trans hx_)
      rw [hv_] at ge_
      obtain ⟨LL0, hLL0⟩ : ∃ L, L = rd_L7 L0 (k : Int) := ⟨_, rfl⟩
      have HLL0 : Aside0 (Kd.R (Kd.int .i64) 3 wr w.heap.size (fun _ => True) (.slice AA0 LL0.length cc0) LL0) := ⟨by rw [hLL0]; exact Kd.R_mono ge_ (fun _ _ => trivial)⟩
      rw [← hLL0] at hx_
      simp only [Int.toNat_natCast] at hx_
      have HELL0 := Aside0.mk hLL0
      clear ge_ hv_ hcc_ hce_ hl_ hLL0
      have hxLL0 := hx_
      clear hx_
      obtain ⟨go, co2, eo, gbase, glt, cl, HG⟩ := Kd.S_form HO.out (by rw [rowsAt_len]; omega)
      rw [rowsAt_len] at eo
      injection eo with ea _ ec
      subst ea
      subst ec
      have GBO := Aside0.mk gbase
      clear gbase glt HG
      have HLE0 : Aside0 (LL0.length ≤ 500000) := ⟨by rw [HELL0.out, HL0.out]; exact Nat.le_trans (lsAt_row _ _ _ _ _) hl⟩
      go_wp2_with fail
      have hLL0 := HLE0.out
      obtain ⟨wo1, hwo1⟩ : ∃ x_ : World, x_ = wr := ⟨_, rfl⟩
      subst hwo1
      go_loopw [34] (fun v_ w' => ∃ j : Nat, j ≤ LL0.length ∧ v_ = .int .i64 j ∧ Aside0 (Kd.S (Kd.slice 38 k38) 34 w' w.heap.size (fun _ => True) (.slice (some ⟨go, 0, none⟩) n0 co) ((rowsAt l0_2 n0 k).set k (([] : List S38) ++ (LL0.take j).map (fun i => (⟨i, false⟩ : S38))))) ∧ Aside0 (w'.heap[gb111]? = some (.cells #[.int .i64 (n0 : Int), .bool a0_1, .slice A0_2 l0_2.length c0_2] 24 (0, 0))) ∧ Aside0 (w'.heap[gb4]? = some (.cells #[.int .i64 0, .bool false, .slice none 0 0, .slice none 0 0, .slice none 0 0] 118 (0, 0))) ∧ Aside0 (w'.heap[gb5]? = some (.cells #[.int .i64 (n0 : Int), .bool a0_1, .slice A0_2 l0_2.length c0_2, .slice A1 n1 c1, .slice (some ⟨go, 0, none⟩) n0 co] 118 (0, 0))) ∧ Aside0 (Kd.S (Kd.slice 3 (Kd.int .i64)) 25 w' w.heap.size (fun _ => True) (.slice (some ad0) n0 cv21) L0) ∧ Aside0 (Kd.S (Kd.slice 3 (Kd.int .i64)) 25 w' w.heap.size (fun _ => True) (.slice Av23 n0 cv23) L1) ∧ Aside0 (Kd.R (Kd.int .i64) 3 w' w.heap.size (fun _ => True) (.slice AA0 LL0.length cc0) LL0) ∧ Aside0 (Below w.heap.size w w')) (fun v_ _ => LL0.length - (intOf v_).toNat)
      case atStart => exact ⟨0, Nat.zero_le _, rfl, ⟨by rw [List.take_zero, List.map_nil, List.append_nil, rowsAt_self l0_2 n0 k hlt]; exact HO.out⟩, BK111, BK4, BK5, Hv21, Hv23, HLL0, HB⟩
      case round =>
        clear HO BK111 BK4 BK5 Hv21 Hv23 HLL0 HB
        obtain ⟨j, hj, rfl, HO, BK111, BK4, BK5, Hv21, Hv23, HLL0, HB⟩ := hrel
        by_cases hltj : j < LL0.length
        · have pj : 0 ≤ ((j : Nat) : Int) := by omega
          have qj : ((j : Nat) : Int) < (LL0.length : Int) := by omega
          have cj : decide ((j : Int) < (LL0.length : Int)) = true := decide_eq_true qj
          obtain ⟨adj, eadj, hxj⟩ := Kd.at_int (Kd.R_reads' HLL0.out).2.2 (j : Int) pj qj
          cases eadj
          simp only [Int.toNat_natCast] at hxj
          have HST := Aside0.mk (row_step ([] : List S38) LL0 false j hltj)
          obtain ⟨xj, hxv⟩ : ∃ x_, x_ = rd LL0 (j : Int) := ⟨_, rfl⟩
          obtain ⟨RW, hRW⟩ : ∃ r_, r_ = (([] : List S38) ++ (LL0.take j).map (fun i => (⟨i, false⟩ : S38))) := ⟨_, rfl⟩
          have HRL : Aside0 (RW.length ≤ 1000000) := ⟨by rw [hRW]; simp; have := HLE0.out; omega⟩
          rw [← hRW, ← hxv] at HST
          obtain ⟨RW2, hRW2⟩ : ∃ r_, r_ = (([] : List S38) ++ (LL0.take (j + 1)).map (fun i => (⟨i, false⟩ : S38))) := ⟨_, rfl⟩
          rw [← hRW2] at HST
          have HRW2 := Aside0.mk hRW2
          clear hRW2
          rw [← hxv] at hxj
          rw [← hRW] at HO
          have HRW := Aside0.mk hRW
          have HXV := Aside0.mk hxv
          clear hRW hxv
          obtain ⟨oki, c_, _, hM_, hcc_, _, _, hH_⟩ := Kd.S_elem HO.out [] (k : Int) pk qk
          obtain ⟨vr, rfl, hR_⟩ := hM_
          rw [show ((rowsAt l0_2 n0 k).set k RW).getD (k : Int).toNat [] = RW from rd_set (rowsAt l0_2 n0 k) k RW (by rw [rowsAt_len]; exact hlt)] at hR_
          obtain ⟨Ar, cr, er⟩ := Kd.R_slice hR_
          subst er
          have hx4 := hcc_ 0 _ rfl
          rw [show ((Kd.slice 38 k38)).sz = 1 from rfl, Nat.mul_one, Nat.add_zero, Int.toNat_natCast] at hx4
          have UU := Aside0.mk hR_
          have HH := Aside0.mk hH_
          clear hcc_ hR_ hH_
          have hx5 : wr.cell? ⟨gb5, 4, none⟩ = some (.slice (some ⟨go, 0, none⟩) n0 co) := (blk_cell BK5.out 4).trans rfl
          go_wp2_with fail
          refine start_ (n := 14) (S := fun w' => w'.cell? ⟨gb5, 4, none⟩ = some (.slice (some ⟨go, 0, none⟩) n0 co) ∧ w'.cell? ⟨go, k, none⟩ = some (.slice Ar RW.length cr)) (ds := [13]) #[false, false, false, false, false, false, false, false, false, false, false, false, false, false] (by kernel_rfl) rfl rfl ⟨hx5, hx4⟩ (fun hHeld => ?_)
          have m0_ := Aside0.mk (below_drew HB.out)
          have m1_ := Aside0.mk ((show wr.drew.heap[gb111]? = _ from BK111.out))
          have m2_ := Aside0.mk ((show wr.drew.heap[gb4]? = _ from BK4.out))
          have m3_ := Aside0.mk ((show wr.drew.heap[gb5]? = _ from BK5.out))
          have m4_ := Aside0.mk (Kd.S_drew Hv21.out)
          have m5_ := Aside0.mk (Kd.S_drew Hv23.out)
          have m6_ := Aside0.mk (Kd.R_drew HLL0.out)
          have m7_ := Aside0.mk (Kd.R_drew UU.out)
          have m8_ := Aside0.mk (Kd.H_drew HH.out)
          clear HB BK111 BK4 BK5 Hv21 Hv23 HLL0 UU HH
          have HB := m0_
          clear m0_
          have BK111 := m1_
          clear m1_
          have BK4 := m2_
          clear m2_
          have BK5 := m3_
          clear m3_
          have Hv21 := m4_
          clear m4_
          have Hv23 := m5_
          clear m5_
          have HLL0 := m6_
          clear m6_
          have UU := m7_
          clear m7_
          have HH := m8_
          clear m8_
          clear HO hxj hx5 hx4
          generalize wr.drew = w14 at HB BK111 BK4 BK5 Hv21 Hv23 HLL0 UU HH hHeld ⊢
          refine pure_ (i := 0) (N := some 38) (v := ?_) (a' := ?_) #[true, false, false, false, false, false, false, false, false, false, false, false, false, false] rfl rfl (by kernel_rfl) (fun _ _ _ h => h) (Or.inl ⟨by rfl, ?_⟩) ?_ ?_
          rotate_left
          · intro w'
            go_simp
            with_reducible rfl
          rotate_left
          · simp only [Act.put, List.setIfInBounds_toArray, List.set_cons_zero, List.set_cons_succ, i64_w, i32_w]
            rfl
          refine pure_ (i := 2) (N := some 40) (v := ?_) (a' := ?_) #[true, false, true, false, false, false, false, false, false, false, false, false, false, false] rfl rfl (by kernel_rfl) (fun _ _ _ h => h) (Or.inl ⟨by rfl, ?_⟩) ?_ ?_
          rotate_left
          · intro w'
            go_simp
            with_reducible rfl
          rotate_left
          · simp only [Act.put, List.setIfInBounds_toArray, List.set_cons_zero, List.set_cons_succ, i64_w, i32_w]
            rfl
          refine pure_ (i := 3) (N := some 41) (v := ?_) (a' := ?_) #[true, false, true, true, false, false, false, false, false, false, false, false, false, false] rfl rfl (by kernel_rfl) (fun _ _ _ h => h) (Or.inl ⟨by rfl, ?_⟩) ?_ ?_
          rotate_left
          · intro w'
            go_simp
            with_reducible rfl
          rotate_left
          · simp only [Act.put, List.setIfInBounds_toArray, List.set_cons_zero, List.set_cons_succ, i64_w, i32_w]
            rfl
          refine pure_ (i := 5) (N := some 43) (v := ?_) (a' := ?_) #[true, false, true, true, false, true, false, false, false, false, false, false, false, false] rfl rfl (by kernel_rfl) (fun _ _ _ h => h) (Or.inl ⟨by rfl, ?_⟩) ?_ ?_
          rotate_left
          · intro w'
            go_simp
            with_reducible rfl
          rotate_left
          · simp only [Act.put, List.setIfInBounds_toArray, List.set_cons_zero, List.set_cons_succ, i64_w, i32_w]
            rfl
          refine pure_ (i := 8) (N := some 46) (v := ?_) (a' := ?_) #[true, false, true, true, false, true, false, false, true, false, false, false, false, false] rfl rfl (by kernel_rfl) (fun _ _ _ h => h) (Or.inl ⟨by rfl, ?_⟩) ?_ ?_
          rotate_left
          · intro w'
            go_simp
            with_reducible rfl
          rotate_left
          · simp only [Act.put, List.setIfInBounds_toArray, List.set_cons_zero, List.set_cons_succ, i64_w, i32_w]
            rfl
          refine pure_ (i := 9) (N := some 47) (v := ?_) (a' := ?_) #[true, false, true, true, false, true, false, false, true, true, false, false, false, false] rfl rfl (by kernel_rfl) (fun _ _ _ h => h) (Or.inl ⟨by rfl, ?_⟩) ?_ ?_
          rotate_left
          · intro w'
            go_simp
            with_reducible rfl
          rotate_left
          · simp only [Act.put, List.setIfInBounds_toArray, List.set_cons_zero, List.set_cons_succ, i64_w, i32_w]
            rfl
          refine take_ (i := 1) (N := some 39) (v := ?_) (a' := ?_) #[true, true, true, true, false, true, false, false, true, true, false, false, false, false] rfl rfl (by kernel_rfl) (fun _ _ _ h => h) (Or.inl ⟨by rfl, ?_⟩) hHeld ?_ ?_
          rotate_left
          · rintro w' ⟨s0, s1⟩
            go_simp
            with_reducible rfl
          rotate_left
          · simp only [Act.put, List.setIfInBounds_toArray, List.set_cons_zero, List.set_cons_succ, i64_w, i32_w]
            rfl
          refine take_ (i := 4) (N := some 42) (v := ?_) (a' := ?_) #[true, true, true, true, true, true, false, false, true, true, false, false, false, false] rfl rfl (by kernel_rfl) (fun _ _ _ h => h) (Or.inl ⟨by rfl, ?_⟩) hHeld ?_ ?_
          rotate_left
          · rintro w' ⟨s0, s1⟩
            go_simp
            with_reducible rfl
          rotate_left
          · simp only [Act.put, List.setIfInBounds_toArray, List.set_cons_zero, List.set_cons_succ, i64_w, i32_w]
            rfl
          refine pure_ (i := 6) (N := some 44) (v := ?_) (a' := ?_) #[true, true, true, true, true, true, true, false, true, true, false, false, false, false] rfl rfl (by kernel_rfl) (fun _ _ _ h => h) (Or.inl ⟨by rfl, ?_⟩) ?_ ?_
          rotate_left
          · intro w'
            go_simp
            with_reducible rfl
          rotate_left
          · simp only [Act.put, List.setIfInBounds_toArray, List.set_cons_zero, List.set_cons_succ, i64_w, i32_w]
            rfl
          refine take_ (i := 7) (N := some 45) (v := ?_) (a' := ?_) #[true, true, true, true, true, true, true, true, true, true, false, false, false, false] rfl rfl (by kernel_rfl) (fun _ _ _ h => h) (Or.inl ⟨by rfl, ?_⟩) hHeld ?_ ?_
          rotate_left
          · rintro w' ⟨s0, s1⟩
            go_simp
            with_reducible rfl
          rotate_left
          · simp only [Act.put, List.setIfInBounds_toArray, List.set_cons_zero, List.set_cons_succ, i64_w, i32_w]
            rfl
          refine one_ (i := 10) (N := some 48) #[true, true, true, true, true, true, true, true, true, true, true, false, false, false] rfl rfl (by kernel_rfl) (by decide) (fun K hK => ?_)
          refine value_ (w1 := ?_) (v := ?_) (by rfl) rfl ?_ ?_
          rotate_left 2
          · go_simp
            constructor
            · rfl
            · rfl
          refine hK.out _ _ ⟨(blk_cell (blk_alloc BK5.out _) 4).trans rfl, (World.cell?_alloc_lt _ _ _ (World.block_lt_of_cell? _ _ hHeld.2)).trans hHeld.2⟩ (fun hHeld2 => ?_)
          clear hK K hHeld2
          refine norm_ (a' := ?_) ?_ ?_
          rotate_left
          · show Act.put _ (some 48) _ = _
            simp only [Act.put, List.setIfInBounds_toArray, List.set_cons_zero, List.set_cons_succ, i64_w, i32_w]
            rfl
          refine one_ (i := 11) (N := some 49) #[true, true, true, true, true, true, true, true, true, true, true, true, false, false] rfl rfl (by kernel_rfl) (by decide) (fun K hK => ?_)
          refine Kd.R_append_step k38 (w0 := w) w.heap.size (by rfl) (.tmp 45) (.tmp 48) 34 38 (.agg #[(.int .i64 0), (.bool false)]) 16 rfl Try.underlying34 info38 rfl (by decide) (by omega) (.slice Ar RW.length cr) RW (⟨xj, false⟩ : S38) [.int .i64 xj, .bool false] (fun k_ => oki k_ ∨ ((fun _ => True)) k_ ∧ w14.heap.size ≤ k_) (fun _ => False) rfl rfl ?aP (fun _ hk => hk.elim) ?aF ?aO ?aB ?aS ?aL ?_
          (case aP => exact k38_mkM _ _ _ (⟨xj, false⟩ : S38))
          (case aF => exact fun k_ hk => .inr ⟨trivial, hk⟩)
          (case aO => exact Kd.R_mono UU.out (fun _ hk => .inl hk))
          (case aB => exact HB.out)
          (case aS => exact HB.out.size)
          (case aL => have := HRL.out; omega)
          intro v_ w16 ho hb hg hat
          clear hat
          have m0_ := Aside0.mk (blk_grown BK111.out hg (Kd.R_ne UU.out BK111.out (by decide)))
          have m1_ := Aside0.mk (blk_grown BK4.out hg (Kd.R_ne UU.out BK4.out (by decide)))
          have m2_ := Aside0.mk (blk_grown BK5.out hg (Kd.R_ne UU.out BK5.out (by decide)))
          have m3_ := Aside0.mk (Kd.S_over' Hv21.out (Kd.R_typed UU.out) (by decide) hg)
          have m4_ := Aside0.mk (Kd.S_over' Hv23.out (Kd.R_typed UU.out) (by decide) hg)
          have m5_ := Aside0.mk (Kd.R_over' HLL0.out (Kd.R_typed UU.out) (by decide) hg)
          have m6_ := Aside0.mk (Kd.H_grown (Kd.H_widen HH.out) hg (fun k_ e_ => .inl (UU.out.1 k_ e_)))
          have m7_ := Aside0.mk (hb)
          have m8_ := Aside0.mk (ho)
          clear BK111 BK4 BK5 Hv21 Hv23 HLL0 HH HB UU
          have BK111 := m0_
          clear m0_
          have BK4 := m1_
          clear m1_
          have BK5 := m2_
          clear m2_
          have Hv21 := m3_
          clear m3_
          have Hv23 := m4_
          clear m4_
          have HLL0 := m5_
          clear m5_
          have HH := m6_
          clear m6_
          have HB := m7_
          clear m7_
          have UU := m8_
          clear m8_
          rw [← HST.out] at UU
          obtain ⟨A2, c2, e2⟩ := Kd.R_slice UU.out
          subst e2
          obtain ⟨_, _, hraw, _, _, hcc_, _⟩ := Kd.H_raw HH.out pk qk
          obtain ⟨_, hfr_⟩ := Kd.H_at HH.out pk qk
          have hx4 := hcc_ 0 _ rfl
          have hf4 := hfr_ 0
          rw [show ((Kd.slice 38 k38)).sz = 1 from rfl, Nat.mul_one, Nat.add_zero, Int.toNat_natCast] at hx4 hf4
          have HRAW := Aside0.mk hraw
          clear hcc_ hfr_ hraw ho hb hg
          refine hK.out _ _ ⟨(blk_cell BK5.out 4).trans rfl, hx4⟩ (fun hHeld => ?_)
          clear hK K
          refine norm_ (a' := ?_) ?_ ?_
          rotate_left
          · show Act.put _ (some 49) _ = _
            simp only [Act.put, List.setIfInBounds_toArray, List.set_cons_zero, List.set_cons_succ, i64_w, i32_w]
            rfl
          refine pure_ (i := 12) (N := some 50) (v := ?_) (a' := ?_) #[true, true, true, true, true, true, true, true, true, true, true, true, true, false] rfl rfl (by kernel_rfl) (fun _ _ _ h => h) (Or.inl ⟨by rfl, ?_⟩) ?_ ?_
          rotate_left
          · intro w'
            go_simp
            with_reducible rfl
          rotate_left
          · simp only [Act.put, List.setIfInBounds_toArray, List.set_cons_zero, List.set_cons_succ, i64_w, i32_w]
            rfl
          have HP := Kd.S_seg0 HH.out pk qk (seg := [.slice A2 RW2.length c2]) (j := 0) (show 1 ≤ 1 from by decide) (x' := RW2) (Kd.M_row UU.out) (fun _ hk => hk)
          rw [show ((Kd.slice 38 k38)).sz = 1 from rfl, Nat.mul_one, Nat.add_zero, Int.toNat_natCast, List.set_set] at HP
          have HG2 : w16.grownBy (w16.setCell ⟨go, k, none⟩ (.slice A2 RW2.length c2)) (some go) := HP.2
          have HO := Aside0.mk (show Kd.S (Kd.slice 38 k38) 34 (w16.setCell ⟨go, k, none⟩ (.slice A2 RW2.length c2)) w.heap.size (fun _ => True) (.slice (some ⟨go, 0, none⟩) n0 co) ((rowsAt l0_2 n0 k).set k RW2) from HP.1)
          refine last_ (i := 13) (N := none) #[true, true, true, true, true, true, true, true, true, true, true, true, true, true] rfl rfl (by kernel_rfl) (by decide) (fun K hK => ?_)
          refine skip_ (w1 := w16.setCell ⟨go, k, none⟩ (.slice A2 RW2.length c2)) (by rfl) rfl ?_ ?_
          · go_simp
          refine hK.out _ _ ?_
          clear hK K
          have m0_ := Aside0.mk (blk_grown BK111.out HG2 (Kd.R_ne HRAW.out BK111.out (by decide)))
          have m1_ := Aside0.mk (blk_grown BK4.out HG2 (Kd.R_ne HRAW.out BK4.out (by decide)))
          have m2_ := Aside0.mk (blk_grown BK5.out HG2 (Kd.R_ne HRAW.out BK5.out (by decide)))
          have m3_ := Aside0.mk (Kd.S_over' Hv21.out (Kd.R_typed HRAW.out) (by decide) HG2)
          have m4_ := Aside0.mk (Kd.S_over' Hv23.out (Kd.R_typed HRAW.out) (by decide) HG2)
          have m5_ := Aside0.mk (Kd.R_over' HLL0.out (Kd.R_typed HRAW.out) (by decide) HG2)
          have m6_ := Aside0.mk ((below_set HB.out GBO.out : Below w.heap.size w (w16.setCell ⟨go, k, none⟩ (.slice A2 RW2.length c2))))
          clear BK111 BK4 BK5 Hv21 Hv23 HLL0 HB
          have BK111 := m0_
          clear m0_
          have BK4 := m1_
          clear m1_
          have BK5 := m2_
          clear m2_
          have Hv21 := m3_
          clear m3_
          have Hv23 := m4_
          clear m4_
          have HLL0 := m5_
          clear m5_
          have HB := m6_
          clear m6_
          clear HP HG2 HRAW UU HH hHeld hx4 hf4
          refine done_ (by kernel_rfl) ?_
          generalize w16.setCell ⟨go, k, none⟩ (.slice A2 RW2.length c2) = w17 at HO BK111 BK4 BK5 Hv21 Hv23 HLL0 HB ⊢
          rw [HRW2.out] at HO
          clear HRW2 HST HRW
          go_wp2_with fail
          go_roundw
          case rel => exact ⟨j + 1, by omega, by first | rfl | go_num, HO, BK111, BK4, BK5, Hv21, Hv23, HLL0, HB⟩
          case measure => simp [intOf] <;> omega
        · have ej : j = LL0.length := by omega
          subst ej
          rw [List.take_length] at HO
          have cj : decide ((LL0.length : Int) < (LL0.length : Int)) = false := decide_eq_false (by omega)
          have hlenx : True := trivial
          obtain ⟨ad1, AA1, cc1, e_, hx_, hl_, _⟩ := at_L7 (Kd.S_reads' Hv23.out).2.2 (k : Int) pk (by rw [hn1]; omega)
          cases e_
          obtain ⟨ce_, hce_, hM_, hcc_⟩ := Kd.S_get Hv23.out [] (k : Int) pk qk
          obtain ⟨ve_, rfl, ge_⟩ := hM_
          have hv_ := hcc_ 0 _ rfl
          rw [Nat.add_zero, show ((Kd.slice 3 (Kd.int .i64))).sz = 1 from rfl, Nat.mul_one] at hv_
          replace hv_ := Option.some.inj (hv_.symm.trans hx_)
          rw [hv_] at ge_
          obtain ⟨LL1, hLL1⟩ : ∃ L, L = rd_L7 L1 (k : Int) := ⟨_, rfl⟩
          have HLL1 : Aside0 (Kd.R (Kd.int .i64) 3 wr w.heap.size (fun _ => True) (.slice AA1 LL1.length cc1) LL1) := ⟨by rw [hLL1]; exact Kd.R_mono ge_ (fun _ _ => trivial)⟩
          rw [← hLL1] at hx_
          simp only [Int.toNat_natCast] at hx_
          have HELL1 := Aside0.mk hLL1
          clear ge_ hv_ hcc_ hce_ hl_ hLL1
          have hxLL1 := hx_
          clear hx_
          have HLE1 : Aside0 (LL1.length ≤ 500000) := ⟨by rw [HELL1.out, HL1.out]; exact Nat.le_trans (lsAt_row _ _ _ _ _) hl⟩
          go_wp2_with fail
          have hLL1 := HLE1.out
          obtain ⟨wo2, hwo2⟩ : ∃ x_ : World, x_ = wr := ⟨_, rfl⟩
          subst hwo2
          go_loopw [57] (fun v_ w' => ∃ j : Nat, j ≤ LL1.length ∧ v_ = .int .i64 j ∧ Aside0 (Kd.S (Kd.slice 38 k38) 34 w' w.heap.size (fun _ => True) (.slice (some ⟨go, 0, none⟩) n0 co) ((rowsAt l0_2 n0 k).set k ((([] : List S38) ++ LL0.map (fun i => (⟨i, false⟩ : S38))) ++ (LL1.take j).map (fun i => (⟨i, true⟩ : S38))))) ∧ Aside0 (w'.heap[gb111]? = some (.cells #[.int .i64 (n0 : Int), .bool a0_1, .slice A0_2 l0_2.length c0_2] 24 (0, 0))) ∧ Aside0 (w'.heap[gb4]? = some (.cells #[.int .i64 0, .bool false, .slice none 0 0, .slice none 0 0, .slice none 0 0] 118 (0, 0))) ∧ Aside0 (w'.heap[gb5]? = some (.cells #[.int .i64 (n0 : Int), .bool a0_1, .slice A0_2 l0_2.length c0_2, .slice A1 n1 c1, .slice (some ⟨go, 0, none⟩) n0 co] 118 (0, 0))) ∧ Aside0 (Kd.S (Kd.slice 3 (Kd.int .i64)) 25 w' w.heap.size (fun _ => True) (.slice (some ad0) n0 cv21) L0) ∧ Aside0 (Kd.S (Kd.slice 3 (Kd.int .i64)) 25 w' w.heap.size (fun _ => True) (.slice (some ad1) n0 cv23) L1) ∧ Aside0 (Kd.R (Kd.int .i64) 3 w' w.heap.size (fun _ => True) (.slice AA1 LL1.length cc1) LL1) ∧ Aside0 (Below w.heap.size w w')) (fun v_ _ => LL1.length - (intOf v_).toNat)
          case atStart => exact ⟨0, Nat.zero_le _, rfl, ⟨by rw [List.take_zero, List.map_nil, List.append_nil]; exact HO.out⟩, BK111, BK4, BK5, Hv21, Hv23, HLL1, HB⟩
          case round =>
            clear HO BK111 BK4 BK5 Hv21 Hv23 HLL1 HB
            obtain ⟨j, hj, rfl, HO, BK111, BK4, BK5, Hv21, Hv23, HLL1, HB⟩ := hrel
            by_cases hltj : j < LL1.length
            · have pj : 0 ≤ ((j : Nat) : Int) := by omega
              have qj : ((j : Nat) : Int) < (LL1.length : Int) := by omega
              have cj : decide ((j : Int) < (LL1.length : Int)) = true := decide_eq_true qj
              obtain ⟨adj, eadj, hxj⟩ := Kd.at_int (Kd.R_reads' HLL1.out).2.2 (j : Int) pj qj
              cases eadj
              simp only [Int.toNat_natCast] at hxj
              have HST := Aside0.mk (row_step (([] : List S38) ++ LL0.map (fun i => (⟨i, false⟩ : S38))) LL1 true j hltj)
              obtain ⟨xj, hxv⟩ : ∃ x_, x_ = rd LL1 (j : Int) := ⟨_, rfl⟩
              obtain ⟨RW, hRW⟩ : ∃ r_, r_ = ((([] : List S38) ++ LL0.map (fun i => (⟨i, false⟩ : S38))) ++ (LL1.take j).map (fun i => (⟨i, true⟩ : S38))) := ⟨_, rfl⟩
              have HRL : Aside0 (RW.length ≤ 1000000) := ⟨by rw [hRW]; simp; have := HLE0.out; have := HLE1.out; omega⟩
              rw [← hRW, ← hxv] at HST
              obtain ⟨RW2, hRW2⟩ : ∃ r_, r_ = ((([] : List S38) ++ LL0.map (fun i => (⟨i, false⟩ : S38))) ++ (LL1.take (j + 1)).map (fun i => (⟨i, true⟩ : S38))) := ⟨_, rfl⟩
              rw [← hRW2] at HST
              have HRW2 := Aside0.mk hRW2
              clear hRW2
              rw [← hxv] at hxj
              rw [← hRW] at HO
              have HRW := Aside0.mk hRW
              have HXV := Aside0.mk hxv
              clear hRW hxv
              obtain ⟨oki, c_, _, hM_, hcc_, _, _, hH_⟩ := Kd.S_elem HO.out [] (k : Int) pk qk
              obtain ⟨vr, rfl, hR_⟩ := hM_
              rw [show ((rowsAt l0_2 n0 k).set k RW).getD (k : Int).toNat [] = RW from rd_set (rowsAt l0_2 n0 k) k RW (by rw [rowsAt_len]; exact hlt)] at hR_
              obtain ⟨Ar, cr, er⟩ := Kd.R_slice hR_
              subst er
              have hx4 := hcc_ 0 _ rfl
              rw [show ((Kd.slice 38 k38)).sz = 1 from rfl, Nat.mul_one, Nat.add_zero, Int.toNat_natCast] at hx4
              have UU := Aside0.mk hR_
              have HH := Aside0.mk hH_
              clear hcc_ hR_ hH_
              have hx5 : wr.cell? ⟨gb5, 4, none⟩ = some (.slice (some ⟨go, 0, none⟩) n0 co) := (blk_cell BK5.out 4).trans rfl
              go_wp2_with fail
              refine start_ (n := 14) (S := fun w' => w'.cell? ⟨gb5, 4, none⟩ = some (.slice (some ⟨go, 0, none⟩) n0 co) ∧ w'.cell? ⟨go, k, none⟩ = some (.slice Ar RW.length cr)) (ds := [13]) #[false, false, false, false, false, false, false, false, false, false, false, false, false, false] (by kernel_rfl) rfl rfl ⟨hx5, hx4⟩ (fun hHeld => ?_)
              have m0_ := Aside0.mk (below_drew HB.out)
              have m1_ := Aside0.mk ((show wr.drew.heap[gb111]? = _ from BK111.out))
              have m2_ := Aside0.mk ((show wr.drew.heap[gb4]? = _ from BK4.out))
              have m3_ := Aside0.mk ((show wr.drew.heap[gb5]? = _ from BK5.out))
              have m4_ := Aside0.mk (Kd.S_drew Hv21.out)
              have m5_ := Aside0.mk (Kd.S_drew Hv23.out)
              have m6_ := Aside0.mk (Kd.R_drew HLL1.out)
              have m7_ := Aside0.mk (Kd.R_drew UU.out)
              have m8_ := Aside0.mk (Kd.H_drew HH.out)
              clear HB BK111 BK4 BK5 Hv21 Hv23 HLL1 UU HH
              have HB := m0_
              clear m0_
              have BK111 := m1_
              clear m1_
              have BK4 := m2_
              clear m2_
              have BK5 := m3_
              clear m3_
              have Hv21 := m4_
              clear m4_
              have Hv23 := m5_
              clear m5_
              have HLL1 := m6_
              clear m6_
              have UU := m7_
              clear m7_
              have HH := m8_
              clear m8_
              clear HO hxj hx5 hx4
              generalize wr.drew = w14 at HB BK111 BK4 BK5 Hv21 Hv23 HLL1 UU HH hHeld ⊢
              refine pure_ (i := 0) (N := some 61) (v := ?_) (a' := ?_) #[true, false, false, false, false, false, false, false, false, false, false, false, false, false] rfl rfl (by kernel_rfl) (fun _ _ _ h => h) (Or.inl ⟨by rfl, ?_⟩) ?_ ?_
              rotate_left
              · intro w'
                go_simp
                with_reducible rfl
              rotate_left
              · simp only [Act.put, List.setIfInBounds_toArray, List.set_cons_zero, List.set_cons_succ, i64_w, i32_w]
                rfl
              refine pure_ (i := 2) (N := some 63) (v := ?_) (a' := ?_) #[true, false, true, false, false, false, false, false, false, false, false, false, false, false] rfl rfl (by kernel_rfl) (fun _ _ _ h => h) (Or.inl ⟨by rfl, ?_⟩) ?_ ?_
              rotate_left
              · intro w'
                go_simp
                with_reducible rfl
              rotate_left
              · simp only [Act.put, List.setIfInBounds_toArray, List.set_cons_zero, List.set_cons_succ, i64_w, i32_w]
                rfl
              refine pure_ (i := 3) (N := some 64) (v := ?_) (a' := ?_) #[true, false, true, true, false, false, false, false, false, false, false, false, false, false] rfl rfl (by kernel_rfl) (fun _ _ _ h => h) (Or.inl ⟨by rfl, ?_⟩) ?_ ?_
              rotate_left
              · intro w'
                go_simp
                with_reducible rfl
              rotate_left
              · simp only [Act.put, List.setIfInBounds_toArray, List.set_cons_zero, List.set_cons_succ, i64_w, i32_w]
                rfl
              refine pure_ (i := 5) (N := some 66) (v := ?_) (a' := ?_) #[true, false, true, true, false, true, false, false, false, false, false, false, false, false] rfl rfl (by kernel_rfl) (fun _ _ _ h => h) (Or.inl ⟨by rfl, ?_⟩) ?_ ?_
              rotate_left
              · intro w'
                go_simp
                with_reducible rfl
              rotate_left
              · simp only [Act.put, List.setIfInBounds_toArray, List.set_cons_zero, List.set_cons_succ, i64_w, i32_w]
                rfl
              refine pure_ (i := 8) (N := some 69) (v := ?_) (a' := ?_) #[true, false, true, true, false, true, false, false, true, false, false, false, false, false] rfl rfl (by kernel_rfl) (fun _ _ _ h => h) (Or.inl ⟨by rfl, ?_⟩) ?_ ?_
              rotate_left
              · intro w'
                go_simp
                with_reducible rfl
              rotate_left
              · simp only [Act.put, List.setIfInBounds_toArray, List.set_cons_zero, List.set_cons_succ, i64_w, i32_w]
                rfl
              refine pure_ (i := 9) (N := some 70) (v := ?_) (a' := ?_) #[true, false, true, true, false, true, false, false, true, true, false, false, false, false] rfl rfl (by kernel_rfl) (fun _ _ _ h => h) (Or.inl ⟨by rfl, ?_⟩) ?_ ?_
              rotate_left
              · intro w'
                go_simp
                with_reducible rfl
              rotate_left
              · simp only [Act.put, List.setIfInBounds_toArray, List.set_cons_zero, List.set_cons_succ, i64_w, i32_w]
                rfl
              refine take_ (i := 1) (N := some 62) (v := ?_) (a' := ?_) #[true, true, true, true, false, true, false, false, true, true, false, false, false, false] rfl rfl (by kernel_rfl) (fun _ _ _ h => h) (Or.inl ⟨by rfl, ?_⟩) hHeld ?_ ?_
              rotate_left
              · rintro w' ⟨s0, s1⟩
                go_simp
                with_reducible rfl
              rotate_left
              · simp only [Act.put, List.setIfInBounds_toArray, List.set_cons_zero, List.set_cons_succ, i64_w, i32_w]
                rfl
              refine take_ (i := 4) (N := some 65) (v := ?_) (a' := ?_) #[true, true, true, true, true, true, false, false, true, true, false, false, false, false] rfl rfl (by kernel_rfl) (fun _ _ _ h => h) (Or.inl ⟨by rfl, ?_⟩) hHeld ?_ ?_
              rotate_left
              · rintro w' ⟨s0, s1⟩
                go_simp
                with_reducible rfl
              rotate_left
              · simp only [Act.put, List.setIfInBounds_toArray, List.set_cons_zero, List.set_cons_succ, i64_w, i32_w]
                rfl
              refine pure_ (i := 6) (N := some 67) (v := ?_) (a' := ?_) #[true, true, true, true, true, true, true, false, true, true, false, false, false, false] rfl rfl (by kernel_rfl) (fun _ _ _ h => h) (Or.inl ⟨by rfl, ?_⟩) ?_ ?_
              rotate_left
              · intro w'
                go_simp
                with_reducible rfl
              rotate_left
              · simp only [Act.put, List.setIfInBounds_toArray, List.set_cons_zero, List.set_cons_succ, i64_w, i32_w]
                rfl
              refine take_ (i := 7) (N := some 68) (v := ?_) (a' := ?_) #[true, true, true, true, true, true, true, true, true, true, false, false, false, false] rfl rfl (by kernel_rfl) (fun _ _ _ h => h) (Or.inl ⟨by rfl, ?_⟩) hHeld ?_ ?_
              rotate_left
              · rintro w' ⟨s0, s1⟩
                go_simp
                with_reducible rfl
              rotate_left
              · simp only [Act.put, List.setIfInBounds_toArray, List.set_cons_zero, List.set_cons_succ, i64_w, i32_w]
                rfl
              refine one_ (i := 10) (N := some 71) #[true, true, true, true, true, true, true, true, true, true, true, false, false, false] rfl rfl (by kernel_rfl) (by decide) (fun K hK => ?_)
              refine value_ (w1 := ?_) (v := ?_) (by rfl) rfl ?_ ?_
              rotate_left 2
              · go_simp
                constructor
                · rfl
                · rfl
              refine hK.out _ _ ⟨(blk_cell (blk_alloc BK5.out _) 4).trans rfl, (World.cell?_alloc_lt _ _ _ (World.block_lt_of_cell? _ _ hHeld.2)).trans hHeld.2⟩ (fun hHeld2 => ?_)
              clear hK K hHeld2
              refine norm_ (a' := ?_) ?_ ?_
              rotate_left
              · show Act.put _ (some 71) _ = _
                simp only [Act.put, List.setIfInBounds_toArray, List.set_cons_zero, List.set_cons_succ, i64_w, i32_w]
                rfl
              refine one_ (i := 11) (N := some 72) #[true, true, true, true, true, true, true, true, true, true, true, true, false, false] rfl rfl (by kernel_rfl) (by decide) (fun K hK => ?_)
              refine Kd.R_append_step k38 (w0 := w) w.heap.size (by rfl) (.tmp 68) (.tmp 71) 34 38 (.agg #[(.int .i64 0), (.bool false)]) 16 rfl Try.underlying34 info38 rfl (by decide) (by omega) (.slice Ar RW.length cr) RW (⟨xj, true⟩ : S38) [.int .i64 xj, .bool true] (fun k_ => oki k_ ∨ ((fun _ => True)) k_ ∧ w14.heap.size ≤ k_) (fun _ => False) rfl rfl ?aP (fun _ hk => hk.elim) ?aF ?aO ?aB ?aS ?aL ?_
              (case aP => exact k38_mkM _ _ _ (⟨xj, true⟩ : S38))
              (case aF => exact fun k_ hk => .inr ⟨trivial, hk⟩)
              (case aO => exact Kd.R_mono UU.out (fun _ hk => .inl hk))
              (case aB => exact HB.out)
              (case aS => exact HB.out.size)
              (case aL => have := HRL.out; omega)
              intro v_ w16 ho hb hg hat
              clear hat
              have m0_ := Aside0.mk (blk_grown BK111.out hg (Kd.R_ne UU.out BK111.out (by decide)))
              have m1_ := Aside0.mk (blk_grown BK4.out hg (Kd.R_ne UU.out BK4.out (by decide)))
              have m2_ := Aside0.mk (blk_grown BK5.out hg (Kd.R_ne UU.out BK5.out (by decide)))
              have m3_ := Aside0.mk (Kd.S_over' Hv21.out (Kd.R_typed UU.out) (by decide) hg)
              have m4_ := Aside0.mk (Kd.S_over' Hv23.out (Kd.R_typed UU.out) (by decide) hg)
              have m5_ := Aside0.mk (Kd.R_over' HLL1.out (Kd.R_typed UU.out) (by decide) hg)
              have m6_ := Aside0.mk (Kd.H_grown (Kd.H_widen HH.out) hg (fun k_ e_ => .inl (UU.out.1 k_ e_)))
              have m7_ := Aside0.mk (hb)
              have m8_ := Aside0.mk (ho)
              clear BK111 BK4 BK5 Hv21 Hv23 HLL1 HH HB UU
              have BK111 := m0_
              clear m0_
              have BK4 := m1_
              clear m1_
              have BK5 := m2_
              clear m2_
              have Hv21 := m3_
              clear m3_
              have Hv23 := m4_
              clear m4_
              have HLL1 := m5_
              clear m5_
              have HH := m6_
              clear m6_
              have HB := m7_
              clear m7_
              have UU := m8_
              clear m8_
              rw [← HST.out] at UU
              obtain ⟨A2, c2, e2⟩ := Kd.R_slice UU.out
              subst e2
              obtain ⟨_, _, hraw, _, _, hcc_, _⟩ := Kd.H_raw HH.out pk qk
              obtain ⟨_, hfr_⟩ := Kd.H_at HH.out pk qk
              have hx4 := hcc_ 0 _ rfl
              have hf4 := hfr_ 0
              rw [show ((Kd.slice 38 k38)).sz = 1 from rfl, Nat.mul_one, Nat.add_zero, Int.toNat_natCast] at hx4 hf4
              have HRAW := Aside0.mk hraw
              clear hcc_ hfr_ hraw ho hb hg
              refine hK.out _ _ ⟨(blk_cell BK5.out 4).trans rfl, hx4⟩ (fun hHeld => ?_)
              clear hK K
              refine norm_ (a' := ?_) ?_ ?_
              rotate_left
              · show Act.put _ (some 72) _ = _
                simp only [Act.put, List.setIfInBounds_toArray, List.set_cons_zero, List.set_cons_succ, i64_w, i32_w]
                rfl
              refine pure_ (i := 12) (N := some 73) (v := ?_) (a' := ?_) #[true, true, true, true, true, true, true, true, true, true, true, true, true, false] rfl rfl (by kernel_rfl) (fun _ _ _ h => h) (Or.inl ⟨by rfl, ?_⟩) ?_ ?_
              rotate_left
              · intro w'
                go_simp
                with_reducible rfl
              rotate_left
              · simp only [Act.put, List.setIfInBounds_toArray, List.set_cons_zero, List.set_cons_succ, i64_w, i32_w]
                rfl
              have HP := Kd.S_seg0 HH.out pk qk (seg := [.slice A2 RW2.length c2]) (j := 0) (show 1 ≤ 1 from by decide) (x' := RW2) (Kd.M_row UU.out) (fun _ hk => hk)
              rw [show ((Kd.slice 38 k38)).sz = 1 from rfl, Nat.mul_one, Nat.add_zero, Int.toNat_natCast, List.set_set] at HP
              have HG2 : w16.grownBy (w16.setCell ⟨go, k, none⟩ (.slice A2 RW2.length c2)) (some go) := HP.2
              have HO := Aside0.mk (show Kd.S (Kd.slice 38 k38) 34 (w16.setCell ⟨go, k, none⟩ (.slice A2 RW2.length c2)) w.heap.size (fun _ => True) (.slice (some ⟨go, 0, none⟩) n0 co) ((rowsAt l0_2 n0 k).set k RW2) from HP.1)
              refine last_ (i := 13) (N := none) #[true, true, true, true, true, true, true, true, true, true, true, true, true, true] rfl rfl (by kernel_rfl) (by decide) (fun K hK => ?_)
              refine skip_ (w1 := w16.setCell ⟨go, k, none⟩ (.slice A2 RW2.length c2)) (by rfl) rfl ?_ ?_
              · go_simp
              refine hK.out _ _ ?_
              clear hK K
              have m0_ := Aside0.mk (blk_grown BK111.out HG2 (Kd.R_ne HRAW.out BK111.out (by decide)))
              have m1_ := Aside0.mk (blk_grown BK4.out HG2 (Kd.R_ne HRAW.out BK4.out (by decide)))
              have m2_ := Aside0.mk (blk_grown BK5.out HG2 (Kd.R_ne HRAW.out BK5.out (by decide)))
              have m3_ := Aside0.mk (Kd.S_over' Hv21.out (Kd.R_typed HRAW.out) (by decide) HG2)
              have m4_ := Aside0.mk (Kd.S_over' Hv23.out (Kd.R_typed HRAW.out) (by decide) HG2)
              have m5_ := Aside0.mk (Kd.R_over' HLL1.out (Kd.R_typed HRAW.out) (by decide) HG2)
              have m6_ := Aside0.mk ((below_set HB.out GBO.out : Below w.heap.size w (w16.setCell ⟨go, k, none⟩ (.slice A2 RW2.length c2))))
              clear BK111 BK4 BK5 Hv21 Hv23 HLL1 HB
              have BK111 := m0_
              clear m0_
              have BK4 := m1_
              clear m1_
              have BK5 := m2_
              clear m2_
              have Hv21 := m3_
              clear m3_
              have Hv23 := m4_
              clear m4_
              have HLL1 := m5_
              clear m5_
              have HB := m6_
              clear m6_
              clear HP HG2 HRAW UU HH hHeld hx4 hf4
              refine done_ (by kernel_rfl) ?_
              generalize w16.setCell ⟨go, k, none⟩ (.slice A2 RW2.length c2) = w17 at HO BK111 BK4 BK5 Hv21 Hv23 HLL1 HB ⊢
              rw [HRW2.out] at HO
              clear HRW2 HST HRW
              go_wp2_with fail
              go_roundw
              case rel => exact ⟨j + 1, by omega, by first | rfl | go_num, HO, BK111, BK4, BK5, Hv21, Hv23, HLL1, HB⟩
              case measure => simp [intOf] <;> omega
            · have ej : j = LL1.length := by omega
              subst ej
              rw [List.take_length] at HO
              have cj : decide ((LL1.length : Int) < (LL1.length : Int)) = false := decide_eq_false (by omega)
              obtain ⟨RW, hRW⟩ : ∃ r_, r_ = ((([] : List S38) ++ LL0.map (fun i => (⟨i, false⟩ : S38))) ++ LL1.map (fun i => (⟨i, true⟩ : S38))) := ⟨_, rfl⟩
              have HRU : Aside0 (RW = stepsU l0_2 n0 (k : Int)) := ⟨by rw [hRW, HELL0.out, HELL1.out, HL0.out, HL1.out]; rfl⟩
              have HRL : Aside0 (RW.length ≤ 1000000) := ⟨by rw [hRW]; simp; have := HLE0.out; have := HLE1.out; omega⟩
              rw [← hRW] at HO
              clear hRW
              obtain ⟨oki, c_, _, hM_, hcc_, _, _, hH_⟩ := Kd.S_elem HO.out [] (k : Int) pk qk
              obtain ⟨vr, rfl, hR_⟩ := hM_
              rw [show ((rowsAt l0_2 n0 k).set k RW).getD (k : Int).toNat [] = RW from rd_set (rowsAt l0_2 n0 k) k RW (by rw [rowsAt_len]; exact hlt)] at hR_
              obtain ⟨Ar, cr, er⟩ := Kd.R_slice hR_
              subst er
              have hx4 := hcc_ 0 _ rfl
              rw [show ((Kd.slice 38 k38)).sz = 1 from rfl, Nat.mul_one, Nat.add_zero, Int.toNat_natCast] at hx4
              have UU := Aside0.mk hR_
              have HH := Aside0.mk hH_
              clear hcc_ hR_ hH_
              have hx5 : wr.cell? ⟨gb5, 4, none⟩ = some (.slice (some ⟨go, 0, none⟩) n0 co) := (blk_cell BK5.out 4).trans rfl
              have HEN : Aside0 (ends l0_2 n0) := ⟨fun i hi => ⟨HE0.out i hi, HE1.out i hi⟩⟩
              go_wp2_with (first | (go_at_call 143; refine (sort_row HH.out UU.out HRU.out hlt HEN.out (by omega) HRL.out).mono ?_; rintro e_ w20 ⟨rfl, vv, hg, hty, hS⟩; rw [List.set_set, rowsAt_set l0_2 n0 k hlt] at hS; have m0_ := Aside0.mk (blk_grown BK111.out hg (fun he => by obtain ⟨_, cells_, hc_⟩ := hty _ he.symm; have t_ := BK111.out.symm.trans hc_; simp at t_)); have m1_ := Aside0.mk (blk_grown BK4.out hg (fun he => by obtain ⟨_, cells_, hc_⟩ := hty _ he.symm; have t_ := BK4.out.symm.trans hc_; simp at t_)); have m2_ := Aside0.mk (blk_grown BK5.out hg (fun he => by obtain ⟨_, cells_, hc_⟩ := hty _ he.symm; have t_ := BK5.out.symm.trans hc_; simp at t_)); have m3_ := Aside0.mk (Kd.S_over' (v := vv) Hv21.out (fun k_ hk_ => (hty k_ hk_).2) (by decide) hg); have m4_ := Aside0.mk (Kd.S_over' (v := vv) Hv23.out (fun k_ hk_ => (hty k_ hk_).2) (by decide) hg); have m5_ := Aside0.mk (HB.out.grown hg HB.out.size (fun k_ hk_ => (hty k_ hk_).1)); have m6_ := Aside0.mk hS; clear hg hty hS HO BK111 BK4 BK5 Hv21 Hv23 HLL1 HB UU HH hx4 hx5; have HO := m6_; have BK111 := m0_; have BK4 := m1_; have BK5 := m2_; have Hv21 := m3_; have Hv23 := m4_; have HB := m5_; clear m0_ m1_ m2_ m3_ m4_ m5_ m6_) | fail)
              go_roundw
              case rel => exact ⟨k + 1, by omega, by first | rfl | go_num, HO, BK111, BK4, BK5, Hv21, Hv23, HB⟩
              case measure => simp [intOf] <;> omega
    · have ek : n0 = k := by omega
      subst ek
      have hx0 : wr.cell? ⟨gb5, 0, none⟩ = some (.int .i64 (n0 : Int)) := (blk_cell BK5.out 0).trans rfl
      have hx1 : wr.cell? ⟨gb5, 1, none⟩ = some (.bool a0_1) := (blk_cell BK5.out 1).trans rfl
      have hx2 : wr.cell? ⟨gb5, 2, none⟩ = some (.slice A0_2 l0_2.length c0_2) := (blk_cell BK5.out 2).trans rfl
      have hx3 : wr.cell? ⟨gb5, 3, none⟩ = some (.slice A1 n1 c1) := (blk_cell BK5.out 3).trans rfl
      have hx4 : wr.cell? ⟨gb5, 4, none⟩ = some (.slice Ao n0 co) := (blk_cell BK5.out 4).trans rfl
      have hy0 : wr.cell? ⟨gb4, 0, none⟩ = some (.int .i64 0) := (blk_cell BK4.out 0).trans rfl
      have hf0 := blk_frozen BK4.out 0
      have hy1 : wr.cell? ⟨gb4, 1, none⟩ = some (.bool false) := (blk_cell BK4.out 1).trans rfl
      have hf1 := blk_frozen BK4.out 1
      have hy2 : wr.cell? ⟨gb4, 2, none⟩ = some (.slice none 0 0) := (blk_cell BK4.out 2).trans rfl
      have hf2 := blk_frozen BK4.out 2
      have hy3 : wr.cell? ⟨gb4, 3, none⟩ = some (.slice none 0 0) := (blk_cell BK4.out 3).trans rfl
      have hf3 := blk_frozen BK4.out 3
      have hy4 : wr.cell? ⟨gb4, 4, none⟩ = some (.slice none 0 0) := (blk_cell BK4.out 4).trans rfl
      have hf4 := blk_frozen BK4.out 4
      have GE4' := GE4.out
      go_wp2
      refine bodyPost_ret (results_cell_row rfl _ _ gb4 118 #[.int .i64 (n0 : Int), .bool a0_1, .slice A0_2 l0_2.length c0_2, .slice A1 n1 c1, .slice Ao n0 co] (0, 0) _ rfl (by refine blk_put (cs := #[.int .i64 (n0 : Int), .bool a0_1, .slice A0_2 l0_2.length c0_2, .slice A1 n1 c1, .slice none 0 0]) ?_ 4 _ rfl; refine blk_put (cs := #[.int .i64 (n0 : Int), .bool a0_1, .slice A0_2 l0_2.length c0_2, .slice none 0 0, .slice none 0 0]) ?_ 3 _ rfl; refine blk_put (cs := #[.int .i64 (n0 : Int), .bool a0_1, .slice none 0 0, .slice none 0 0, .slice none 0 0]) ?_ 2 _ rfl; refine blk_put (cs := #[.int .i64 (n0 : Int), .bool false, .slice none 0 0, .slice none 0 0, .slice none 0 0]) ?_ 1 _ rfl; refine blk_put (cs := #[.int .i64 0, .bool false, .slice none 0 0, .slice none 0 0, .slice none 0 0]) ?_ 0 _ rfl; exact BK4.out) Try.underlying118 rfl (by kernel_rfl)) rfl ?_
      exact ⟨_, rfl, Kd.S_mono (Kd.S_far (p := ⟨gb4, 4, none⟩) (Kd.S_far (p := ⟨gb4, 3, none⟩) (Kd.S_far (p := ⟨gb4, 2, none⟩) (Kd.S_far (p := ⟨gb4, 1, none⟩) (Kd.S_far (p := ⟨gb4, 0, none⟩) (Kd.S_types HO.out BK4.out (by decide)) (fun _ hk => hk.2) (.int .i64 (n0 : Int))) (fun _ hk => hk.2) (.bool a0_1)) (fun _ hk => hk.2) (.slice A0_2 l0_2.length c0_2)) (fun _ hk => hk.2) (.slice A1 n1 c1)) (fun _ hk => hk.2) (.slice Ao n0 co)) (fun _ _ => trivial), by repeat (first | exact HB.out | refine below_set ?_ GE4.out)⟩

end Go.Proofs.Ytkcpanpdipmmmaa.H
