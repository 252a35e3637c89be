/- Sums over the numbers below one. -/
namespace Go.Proofs.Ytghdpoabpodieaa.Q
def sumTo : Nat → (Nat → Int) → Int
  | 0, _ => 0
  | n + 1, g => sumTo n g + g n
theorem sumTo_add (n : Nat) (g h : Nat → Int) : sumTo n (fun v => g v + h v) = sumTo n g + sumTo n h := by
  induction n with
  | zero => rfl
  | succ n ih => simp only [sumTo, ih]; omega
theorem sumTo_sub (n : Nat) (g h : Nat → Int) : sumTo n (fun v => g v - h v) = sumTo n g - sumTo n h := by
  induction n with
  | zero => rfl
  | succ n ih => simp only [sumTo, ih]; omega
theorem sumTo_congr (n : Nat) {g h : Nat → Int} (e : ∀ v, v < n → g v = h v) : sumTo n g = sumTo n h := by
  induction n with
  | zero => rfl
  | succ n ih => simp only [sumTo]; rw [ih (fun v hv => e v (by omega)), e n (by omega)]
theorem sumTo_zero (n : Nat) : sumTo n (fun _ => 0) = 0 := by
  induction n with
  | zero => rfl
  | succ n ih => simp only [sumTo, ih]; rfl
theorem sumTo_one (n : Nat) (c x : Int) : sumTo n (fun v => if c = (v : Int) then x else 0) = if 0 ≤ c ∧ c < n then x else 0 := by
  induction n with
  | zero => simp only [sumTo]; rw [if_neg (by omega)]
  | succ n ih =>
    simp only [sumTo, ih]
    by_cases h : c = (n : Int)
    · rw [if_pos h, if_neg (by omega), if_pos (by omega)]; omega
    · rw [if_neg h]
      by_cases g : 0 ≤ c ∧ c < n
      · rw [if_pos g, if_pos (by omega)]; omega
      · rw [if_neg g, if_neg (by omega)]; omega
theorem sumTo_two (n : Nat) (g : Nat → Int) (s t : Nat) (hne : s ≠ t) (h : ∀ v, v < n → g v = 0 ∨ v = s ∨ v = t) : sumTo n g = (if s < n then g s else 0) + (if t < n then g t else 0) := by
  induction n with
  | zero => rfl
  | succ n ih =>
    simp only [sumTo, ih (fun v hv => h v (by omega))]
    rcases h n (by omega) with h0 | rfl | rfl
    · rw [h0]
      by_cases h1 : s < n
      · rw [if_pos h1, if_pos (show s < n + 1 by omega)]
        by_cases h2 : t < n
        · rw [if_pos h2, if_pos (show t < n + 1 by omega)]; omega
        · rw [if_neg h2]
          by_cases h3 : t = n
          · subst h3; rw [if_pos (by omega), h0]; omega
          · rw [if_neg (by omega)]; omega
      · rw [if_neg h1]
        by_cases h4 : s = n
        · subst h4
          rw [if_pos (show s < s + 1 by omega), h0]
          by_cases h2 : t < s
          · rw [if_pos h2, if_pos (by omega)]; omega
          · rw [if_neg h2, if_neg (by omega)]; omega
        · rw [if_neg (show ¬ s < n + 1 by omega)]
          by_cases h2 : t < n
          · rw [if_pos h2, if_pos (show t < n + 1 by omega)]; omega
          · rw [if_neg h2]
            by_cases h3 : t = n
            · subst h3; rw [if_pos (by omega), h0]; omega
            · rw [if_neg (by omega)]; omega
    · rw [if_neg (show ¬ n < n by omega), if_pos (show n < n + 1 by omega)]
      by_cases h2 : t < n
      · rw [if_pos h2, if_pos (show t < n + 1 by omega)]; omega
      · rw [if_neg h2, if_neg (show ¬ t < n + 1 by omega)]; omega
    · rw [if_neg (show ¬ n < n by omega), if_pos (show n < n + 1 by omega)]
      by_cases h2 : s < n
      · rw [if_pos h2, if_pos (show s < n + 1 by omega)]; omega
      · rw [if_neg h2, if_neg (show ¬ s < n + 1 by omega)]; omega
theorem sumTo_small (n : Nat) (g : Nat → Int) (B : Int) (h : ∀ v, v < n → -B ≤ g v ∧ g v ≤ B) : -(n * B) ≤ sumTo n g ∧ sumTo n g ≤ n * B := by
  induction n with
  | zero => simp [sumTo]
  | succ n ih =>
    have h1 := ih (fun v hv => h v (by omega))
    have h2 := h n (by omega)
    have e : ((n + 1 : Nat) : Int) * B = n * B + B := by rw [show ((n + 1 : Nat) : Int) = (n : Int) + 1 by omega, Int.add_mul, Int.one_mul]
    simp only [sumTo]
    omega
theorem sumTo_nonneg (n : Nat) (g : Nat → Int) (h : ∀ v, v < n → 0 ≤ g v) : 0 ≤ sumTo n g := by
  induction n with
  | zero => simp [sumTo]
  | succ n ih =>
    have h1 := ih (fun v hv => h v (by omega))
    have h2 := h n (by omega)
    simp only [sumTo]
    omega
theorem sumTo_mono (n : Nat) (g h : Nat → Int) (e : ∀ v, v < n → g v ≤ h v) : sumTo n g ≤ sumTo n h := by
  induction n with
  | zero => simp [sumTo]
  | succ n ih =>
    have h1 := ih (fun v hv => e v (by omega))
    have h2 := e n (by omega)
    simp only [sumTo]
    omega
end Go.Proofs.Ytghdpoabpodieaa.Q
