/- Among 64 words of a valid seed, of whatever kind, one is not among the 22 greatest: no condition. -/
import Derived.Test.YtoflcfkiknmhmaaRejZ
/- the line kind: no four words in a row are among the r greatest -/
namespace Rej
theorem line_l0 (d1 d2 d3 : Int) (b1 : -94489280512 < d1 ∧ d1 < 94489280512) (b2 : -94489280512 < d2 ∧ d2 < 94489280512) (b3 : -94489280512 < d3 ∧ d3 < 94489280512) : -18446744073709551616 < -2498093 * d1 + -397201 * d2 + 8218 * d3 := by omega
theorem line_u0 (d1 d2 d3 : Int) (b1 : -94489280512 < d1 ∧ d1 < 94489280512) (b2 : -94489280512 < d2 ∧ d2 < 94489280512) (b3 : -94489280512 < d3 ∧ d3 < 94489280512) : -2498093 * d1 + -397201 * d2 + 8218 * d3 < 18446744073709551616 := by omega
theorem line_z0 (d1 d2 d3 m : Int) (e : -2498093 * d1 + -397201 * d2 + 8218 * d3 = 18446744073709551616 * m) (b1 : -94489280512 < d1 ∧ d1 < 94489280512) (b2 : -94489280512 < d2 ∧ d2 < 94489280512) (b3 : -94489280512 < d3 ∧ d3 < 94489280512) : -2498093 * d1 + -397201 * d2 + 8218 * d3 = 0 := by
  have h1 := line_l0 d1 d2 d3 b1 b2 b3
  have h2 := line_u0 d1 d2 d3 b1 b2 b3
  rw [e] at h1 h2 ⊢
  clear e b1 b2 b3
  omega
theorem line_e0 (d1 d2 d3 p q : Int) (h2 : d2 = 6364136223846793005 * d1 - 18446744073709551616 * p) (h3 : d3 = 6364136223846793005 * d2 - 18446744073709551616 * q) : -2498093 * d1 + -397201 * d2 + 8218 * d3 = 18446744073709551616 * (18043689649964084197072 * d1 - 52300471487572944517889 * p - 8218 * q) := by
  subst h3 h2
  omega
theorem line_l1 (d1 d2 d3 : Int) (b1 : -94489280512 < d1 ∧ d1 < 94489280512) (b2 : -94489280512 < d2 ∧ d2 < 94489280512) (b3 : -94489280512 < d3 ∧ d3 < 94489280512) : -18446744073709551616 < 993613 * d1 + -1313894 * d2 + -1941511 * d3 := by omega
theorem line_u1 (d1 d2 d3 : Int) (b1 : -94489280512 < d1 ∧ d1 < 94489280512) (b2 : -94489280512 < d2 ∧ d2 < 94489280512) (b3 : -94489280512 < d3 ∧ d3 < 94489280512) : 993613 * d1 + -1313894 * d2 + -1941511 * d3 < 18446744073709551616 := by omega
theorem line_z1 (d1 d2 d3 m : Int) (e : 993613 * d1 + -1313894 * d2 + -1941511 * d3 = 18446744073709551616 * m) (b1 : -94489280512 < d1 ∧ d1 < 94489280512) (b2 : -94489280512 < d2 ∧ d2 < 94489280512) (b3 : -94489280512 < d3 ∧ d3 < 94489280512) : 993613 * d1 + -1313894 * d2 + -1941511 * d3 = 0 := by
  have h1 := line_l1 d1 d2 d3 b1 b2 b3
  have h2 := line_u1 d1 d2 d3 b1 b2 b3
  rw [e] at h1 h2 ⊢
  clear e b1 b2 b3
  omega
theorem line_e1 (d1 d2 d3 p q : Int) (h2 : d2 = 6364136223846793005 * d1 - 18446744073709551616 * p) (h3 : d3 = 6364136223846793005 * d2 - 18446744073709551616 * q) : 993613 * d1 + -1313894 * d2 + -1941511 * d3 = 18446744073709551616 * (-4262840342661404154699527 * d1 - -12356040484097010935244449 * p - -1941511 * q) := by
  subst h3 h2
  omega
theorem line_l2 (d1 d2 d3 : Int) (b1 : -94489280512 < d1 ∧ d1 < 94489280512) (b2 : -94489280512 < d2 ∧ d2 < 94489280512) (b3 : -94489280512 < d3 ∧ d3 < 94489280512) : -18446744073709551616 < 789167 * d1 + 2349913 * d2 + -2090292 * d3 := by omega
theorem line_u2 (d1 d2 d3 : Int) (b1 : -94489280512 < d1 ∧ d1 < 94489280512) (b2 : -94489280512 < d2 ∧ d2 < 94489280512) (b3 : -94489280512 < d3 ∧ d3 < 94489280512) : 789167 * d1 + 2349913 * d2 + -2090292 * d3 < 18446744073709551616 := by omega
theorem line_z2 (d1 d2 d3 m : Int) (e : 789167 * d1 + 2349913 * d2 + -2090292 * d3 = 18446744073709551616 * m) (b1 : -94489280512 < d1 ∧ d1 < 94489280512) (b2 : -94489280512 < d2 ∧ d2 < 94489280512) (b3 : -94489280512 < d3 ∧ d3 < 94489280512) : 789167 * d1 + 2349913 * d2 + -2090292 * d3 = 0 := by
  have h1 := line_l2 d1 d2 d3 b1 b2 b3
  have h2 := line_u2 d1 d2 d3 b1 b2 b3
  rw [e] at h1 h2 ⊢
  clear e b1 b2 b3
  omega
theorem line_e2 (d1 d2 d3 p q : Int) (h2 : d2 = 6364136223846793005 * d1 - 18446744073709551616 * p) (h3 : d3 = 6364136223846793005 * d2 - 18446744073709551616 * q) : 789167 * d1 + 2349913 * d2 + -2090292 * d3 = 18446744073709551616 * (-4589508411511648304240173 * d1 - -13302903035617160641657547 * p - -2090292 * q) := by
  subst h3 h2
  omega
theorem line_det (d1 d2 d3 : Int) : -18446744073709551616 * d1 = 7308804055591 * (-2498093 * d1 + -397201 * d2 + 8218 * d3) + -810954487658 * (993613 * d1 + -1313894 * d2 + -1941511 * d3) + 781967691603 * (789167 * d1 + 2349913 * d2 + -2090292 * d3) := by omega
theorem line_rel (d1 d2 d3 p q : Int) (h2 : d2 = 6364136223846793005 * d1 - 18446744073709551616 * p) (h3 : d3 = 6364136223846793005 * d2 - 18446744073709551616 * q)
    (b1 : -94489280512 < d1 ∧ d1 < 94489280512) (b2 : -94489280512 < d2 ∧ d2 < 94489280512) (b3 : -94489280512 < d3 ∧ d3 < 94489280512) : d1 = 0 := by
  have h := line_det d1 d2 d3
  rw [line_z0 d1 d2 d3 _ (line_e0 d1 d2 d3 p q h2 h3) b1 b2 b3] at h
  rw [line_z1 d1 d2 d3 _ (line_e1 d1 d2 d3 p q h2 h3) b1 b2 b3] at h
  rw [line_z2 d1 d2 d3 _ (line_e2 d1 d2 d3 p q h2 h3) b1 b2 b3] at h
  clear h2 h3 b1 b2 b3
  omega
theorem four_line (B a0 a1 a2 a3 : Nat) (hB : B % 2 = 1) (hb : B < 18446744073709551616)
    (h1 : a1 = (6364136223846793005 * a0 + B) % 18446744073709551616) (h2 : a2 = (6364136223846793005 * a1 + B) % 18446744073709551616) (h3 : a3 = (6364136223846793005 * a2 + B) % 18446744073709551616)
    (g0 : 18446744073709551616 - 94489280512 ≤ a0) (l0 : a0 < 18446744073709551616) (g1 : 18446744073709551616 - 94489280512 ≤ a1) (g2 : 18446744073709551616 - 94489280512 ≤ a2) (g3 : 18446744073709551616 - 94489280512 ≤ a3) : False := by
  have l1 : a1 < 18446744073709551616 := by rw [h1]; exact Nat.mod_lt _ (by decide)
  have l2 : a2 < 18446744073709551616 := by rw [h2]; exact Nat.mod_lt _ (by decide)
  have l3 : a3 < 18446744073709551616 := by rw [h3]; exact Nat.mod_lt _ (by decide)
  have k0 := Nat.div_add_mod (6364136223846793005 * a0 + B) 18446744073709551616
  have k1 := Nat.div_add_mod (6364136223846793005 * a1 + B) 18446744073709551616
  have k2 := Nat.div_add_mod (6364136223846793005 * a2 + B) 18446744073709551616
  rw [← h1] at k0
  rw [← h2] at k1
  rw [← h3] at k2
  generalize (6364136223846793005 * a0 + B) / 18446744073709551616 = q0 at k0
  generalize (6364136223846793005 * a1 + B) / 18446744073709551616 = q1 at k1
  generalize (6364136223846793005 * a2 + B) / 18446744073709551616 = q2 at k2
  clear h1 h2 h3
  have hd := line_rel ((a1 : Int) - a0) ((a2 : Int) - a1) ((a3 : Int) - a2) ((q1 : Int) - q0) ((q2 : Int) - q1) (by omega) (by omega) (by omega) (by omega) (by omega)
  have e : a1 = a0 := by omega
  rw [e] at k0
  omega
end Rej
/-! ### the four kinds, one step -/
namespace Rej
attribute [local irreducible] cc mS
def mixN (x : Nat) : Nat := fwd x ^^^ (fwd x >>> 31)
def a0 (p : Nat × Nat) : Nat := (6364136223846793005 * p.1 % Q + p.2) % Q
def a2 (p : Nat × Nat) : Nat := (p.1 + cc) % Q
def w0 (p : Nat × Nat) : Nat := a0 p / 2 ^ 32
def w1 (p : Nat × Nat) : Nat := stT p.1 * mS % Q / 2 ^ 32
def w2 (p : Nat × Nat) : Nat := mixN ((a2 p + p.2) % Q) / 2 ^ 32
def w3 (p : Nat × Nat) : Nat := (p.1 + p.2) % Q / 2 ^ 32
def nx (kind : Nat) (p : Nat × Nat) : (Nat × Nat) × Nat :=
  if kind = 0 then ((a0 p, p.2), w0 p)
  else if kind = 1 then ((stT p.1, p.2), w1 p)
  else if kind = 2 then ((a2 p, p.2), w2 p)
  else (stepP p, w3 p)
def vd (kind : Nat) (p : Nat × Nat) : Prop := p.1 < Q ∧ p.2 < Q ∧ (kind = 0 ∧ p.2 % 2 = 1 ∨ kind = 1 ∧ p.1 ≠ 0 ∨ kind = 2 ∨ kind = 3 ∧ (p.1 ≠ 0 ∨ p.2 ≠ 0))
def wd (kind : Nat) : Nat → Nat × Nat → Nat
  | 0, p => (nx kind p).2
  | i + 1, p => wd kind i (nx kind p).1
theorem mQ (x : Nat) : x % Q < Q := Nat.mod_lt _ (by decide)
theorem div32 {x : Nat} (h : x < Q) : x / 2 ^ 32 < 2 ^ 32 := by rw [Q_is] at h; omega
theorem fwd_lt (x : Nat) : fwd x < Q := mQ _
theorem mixN_lt (x : Nat) : mixN x < Q := Nat.xor_lt_two_pow (n := 64) (fwd_lt x) (Nat.lt_of_le_of_lt (Nat.shiftRight_le _ _) (fwd_lt x))
theorem rotX_lt (k x : Nat) (hx : x < Q) : rotX k x < Q := Nat.xor_lt_two_pow (n := 64) (mQ _) (Nat.lt_of_le_of_lt (Nat.shiftRight_le _ _) hx)
theorem stepP_lt (p : Nat × Nat) (h1 : p.1 < Q) (h2 : p.2 < Q) : (stepP p).1 < Q ∧ (stepP p).2 < Q := by
  have hx : p.2 ^^^ p.1 < Q := Nat.xor_lt_two_pow (n := 64) h2 h1
  exact ⟨Nat.xor_lt_two_pow (n := 64) (Nat.xor_lt_two_pow (n := 64) (rotX_lt _ _ h1) hx) (mQ _), rotX_lt _ _ hx⟩
theorem nx_0 (p : Nat × Nat) : nx 0 p = ((a0 p, p.2), w0 p) := if_pos rfl
theorem nx_1 (p : Nat × Nat) : nx 1 p = ((stT p.1, p.2), w1 p) := (if_neg (by decide)).trans (if_pos rfl)
theorem nx_2 (p : Nat × Nat) : nx 2 p = ((a2 p, p.2), w2 p) := (if_neg (by decide)).trans ((if_neg (by decide)).trans (if_pos rfl))
theorem nx_3 (p : Nat × Nat) : nx 3 p = (stepP p, w3 p) := (if_neg (by decide)).trans ((if_neg (by decide)).trans (if_neg (by decide)))
theorem a0_lt (p : Nat × Nat) : a0 p < Q := mQ _
theorem a2_lt (p : Nat × Nat) : a2 p < Q := mQ _
theorem w0_lt (p : Nat × Nat) : w0 p < 2 ^ 32 := div32 (mQ _)
theorem w1_lt (p : Nat × Nat) : w1 p < 2 ^ 32 := div32 (mQ _)
theorem w2_lt (p : Nat × Nat) : w2 p < 2 ^ 32 := div32 (mixN_lt _)
theorem w3_lt (p : Nat × Nat) : w3 p < 2 ^ 32 := div32 (mQ _)
theorem sT_lt (x : Nat) : stT x < Q := stT_lt x
theorem nx_lt (kind : Nat) (p : Nat × Nat) (h1 : p.1 < Q) (h2 : p.2 < Q) : (nx kind p).1.1 < Q ∧ (nx kind p).1.2 < Q ∧ (nx kind p).2 < 2 ^ 32 := by
  by_cases k0 : kind = 0
  · simp only [k0, nx_0]; exact ⟨a0_lt p, h2, w0_lt p⟩
  · by_cases k1 : kind = 1
    · simp only [k1, nx_1]; exact ⟨sT_lt _, h2, w1_lt p⟩
    · by_cases k2 : kind = 2
      · simp only [k2, nx_2]; exact ⟨a2_lt p, h2, w2_lt p⟩
      · have e : nx kind p = (stepP p, w3 p) := by unfold nx; rw [if_neg k0, if_neg k1, if_neg k2]
        simp only [e]
        exact ⟨(stepP_lt p h1 h2).1, (stepP_lt p h1 h2).2, w3_lt p⟩
theorem stT_ne (x : Nat) (hx : x < Q) (h : x ≠ 0) : stT x ≠ 0 := by
  intro h0
  have h1 := go_all 64 (by omega) x hx
  have h2 : go Dl x = (x % 2) * 765214667332754139 := by
    have e : ∀ l, go (765214667332754139 :: l) x = (x % 2 * 765214667332754139) ^^^ go l (stT x) := fun _ => rfl
    unfold Dl
    rw [e, h0, go_zero, Nat.xor_zero]
  rw [h1] at h2
  rcases Nat.mod_two_eq_zero_or_one x with h3 | h3
  · rw [h3] at h2; omega
  · rw [h3, Nat.one_mul] at h2
    rw [h2] at h0
    exact absurd h0 (by decide)
theorem rotX_ne (k x : Nat) (hk : k ≤ 64) (hx : x < Q) (h : rotX k x = 0) : x = 0 := by
  apply Nat.eq_of_testBit_eq
  intro i
  rw [Nat.zero_testBit]
  by_cases hi : i < 64
  · have hb : ∀ j, (rotX k x).testBit j = false := fun j => by rw [h, Nat.zero_testBit]
    unfold rotX at hb
    by_cases h1 : i + k < 64
    · have := hb (i + k)
      rw [Nat.testBit_xor, Nat.testBit_mod_two_pow, Nat.testBit_shiftLeft, Nat.testBit_shiftRight, Nat.testBit_lt_two_pow (Nat.lt_of_lt_of_le hx (Nat.pow_le_pow_right (by omega) (show 64 ≤ 64 - k + (i + k) by omega)))] at this
      simpa [h1] using this
    · have := hb (i + k - 64)
      rw [Nat.testBit_xor, Nat.testBit_mod_two_pow, Nat.testBit_shiftLeft, Nat.testBit_shiftRight] at this
      rw [show 64 - k + (i + k - 64) = i by omega] at this
      have h2 : ¬ (i + k - 64 ≥ k) := by omega
      simpa [h2] using this
  · exact Nat.testBit_lt_two_pow (Nat.lt_of_lt_of_le hx (Nat.pow_le_pow_right (by omega) (by omega)))
theorem xor_self_zero (a b : Nat) (h : a ^^^ b = 0) : a = b := by
  have : a ^^^ b ^^^ b = b := by rw [h, Nat.zero_xor]
  rwa [Nat.xor_assoc, Nat.xor_self, Nat.xor_zero] at this
theorem nx_vd (kind : Nat) (p : Nat × Nat) (h : vd kind p) : vd kind (nx kind p).1 := by
  obtain ⟨h1, h2, h3⟩ := h
  have hl := nx_lt kind p h1 h2
  refine ⟨hl.1, hl.2.1, ?_⟩
  rcases h3 with ⟨rfl, h⟩ | ⟨rfl, h⟩ | rfl | ⟨rfl, h⟩
  · rw [nx_0]; dsimp only; exact Or.inl ⟨rfl, h⟩
  · rw [nx_1]; dsimp only; exact Or.inr (Or.inl ⟨rfl, stT_ne p.1 h1 h⟩)
  · exact Or.inr (Or.inr (Or.inl rfl))
  · refine Or.inr (Or.inr (Or.inr ⟨rfl, ?_⟩))
    rw [nx_3]
    dsimp only
    by_cases hx : p.2 ^^^ p.1 = 0
    · left
      intro h0
      have h4 : rotX 24 p.1 = 0 := by
        unfold stepP at h0
        simp only [hx, Nat.xor_zero] at h0
        simpa using h0
      have h5 := rotX_ne 24 p.1 (by omega) h1 h4
      have h6 := xor_self_zero _ _ hx
      rcases h with h | h
      · exact h h5
      · exact h (h6.trans h5)
    · right
      intro h0
      exact hx (rotX_ne 37 _ (by omega) (Nat.xor_lt_two_pow (n := 64) h2 h1) h0)
theorem wd_lt (kind : Nat) : ∀ (i : Nat) (p : Nat × Nat), p.1 < Q → p.2 < Q → wd kind i p < 2 ^ 32
  | 0, p, h1, h2 => (nx_lt kind p h1 h2).2.2
  | i + 1, p, h1, h2 => wd_lt kind i _ (nx_lt kind p h1 h2).1 (nx_lt kind p h1 h2).2.1
theorem wd_one : ∀ (i a b : Nat), wd 1 i (a, b) = it i (stT a) * mS % Q / 2 ^ 32
  | 0, a, b => by rw [wd, nx_1]; rfl
  | i + 1, a, b => by
    rw [wd, nx_1]
    exact wd_one i (stT a) b
theorem wd_two : ∀ (i a b : Nat), wd 2 i (a, b) = mixN ((a2 (a, b) + b + i * cc) % Q) / 2 ^ 32
  | 0, a, b => by
    rw [wd, nx_2, Nat.zero_mul, Nat.add_zero]; rfl
  | i + 1, a, b => by
    rw [wd, nx_2]
    refine (wd_two i (a2 (a, b)) b).trans ?_
    have e : ∀ y : Nat, (a2 (y, b) + b + i * cc) % Q = (y + b + (i + 1) * cc) % Q := fun y => by
      unfold a2
      rw [Nat.add_assoc, Nat.mod_add_mod, Nat.add_mul, Nat.one_mul]
      congr 1
      generalize i * cc = u
      generalize cc = v
      show y + v + (b + u) = y + b + (u + v)
      omega
    rw [e]
theorem wd_three : ∀ (i : Nat) (p : Nat × Nat), wd 3 i p = ((itP i p).1 + (itP i p).2) % Q / 2 ^ 32
  | 0, p => by rw [wd, nx_3]; rfl
  | i + 1, p => by
    rw [wd, nx_3]
    exact wd_three i (stepP p)
/-- what the last step of the mixing turns: the word's lowest digit, if its highest is 1 -/
theorem mix_high (x : Nat) (h : 4294967274 ≤ mixN x / 2 ^ 32) : Q - 22 * 2 ^ 32 ≤ fwd x := by
  have hf := fwd_lt x
  unfold mixN at h
  generalize fwd x = y at *
  rw [Q_is] at *
  have e : (y ^^^ (y >>> 31)) / 2 ^ 32 = (y / 2 ^ 32) ^^^ (y / 2 ^ 63) := by
    rw [← Nat.shiftRight_eq_div_pow, shr_xor, ← Nat.shiftRight_add, Nat.shiftRight_eq_div_pow, Nat.shiftRight_eq_div_pow]
  rw [e] at h
  have h2 : y / 2 ^ 63 = 0 ∨ y / 2 ^ 63 = 1 := by omega
  have hY : y / 2 ^ 32 < 2 ^ 32 := by omega
  rcases h2 with h2 | h2
  · rw [h2, Nat.xor_zero] at h
    omega
  · rw [h2] at h
    have h3 : (y / 2 ^ 32) ^^^ 1 ≤ y / 2 ^ 32 + 1 ∧ y / 2 ^ 32 ≤ ((y / 2 ^ 32) ^^^ 1) + 1 ∧ ((y / 2 ^ 32) ^^^ 1) / 2 = y / 2 ^ 32 / 2 := by
      generalize y / 2 ^ 32 = z at *
      have e1 : (z ^^^ 1) / 2 = z / 2 := by
        have := shr_xor z 1 1
        rw [Nat.shiftRight_eq_div_pow, Nat.shiftRight_eq_div_pow, Nat.shiftRight_eq_div_pow, show 1 / 2 ^ 1 = 0 by decide, Nat.xor_zero] at this
        simpa using this
      refine ⟨by omega, by omega, e1⟩
    omega
/-- AMONG 64 WORDS OF A VALID SEED ONE IS NOT AMONG THE 22 GREATEST. -/
theorem some_word (kind : Nat) (p : Nat × Nat) (h : vd kind p) : ∃ i, i < 64 ∧ wd kind i p < 4294967274 := by
  apply Classical.byContradiction
  intro hn
  have hall : ∀ i, i < 64 → 4294967274 ≤ wd kind i p := fun i hi => by
    rcases Nat.lt_or_ge (wd kind i p) 4294967274 with h1 | h1
    · exact absurd ⟨i, hi, h1⟩ hn
    · exact h1
  clear hn
  obtain ⟨a, b⟩ := p
  obtain ⟨h1, h2, h3⟩ := h
  have hq : ∀ x, x < Q → 4294967274 ≤ x / 2 ^ 32 → Q - 22 * 2 ^ 32 ≤ x := fun x hx hx2 => by rw [Q_is] at *; omega
  rcases h3 with ⟨rfl, h⟩ | ⟨rfl, h⟩ | rfl | ⟨rfl, h⟩
  · have hs : ∀ x : Nat, a0 (x, b) = (6364136223846793005 * x + b) % 18446744073709551616 := fun x => by
      unfold a0
      rw [Nat.mod_add_mod, Q_is]
    have e0 : wd 0 0 (a, b) = a0 (a, b) / 2 ^ 32 := by rw [wd, nx_0]; rfl
    have e1 : wd 0 1 (a, b) = a0 (a0 (a, b), b) / 2 ^ 32 := by rw [wd, nx_0, wd, nx_0]; rfl
    have e2 : wd 0 2 (a, b) = a0 (a0 (a0 (a, b), b), b) / 2 ^ 32 := by rw [wd, nx_0, wd, nx_0, wd, nx_0]; rfl
    have e3 : wd 0 3 (a, b) = a0 (a0 (a0 (a0 (a, b), b), b), b) / 2 ^ 32 := by rw [wd, nx_0, wd, nx_0, wd, nx_0, wd, nx_0]; rfl
    have g0 := hall 0 (by omega)
    have g1 := hall 1 (by omega)
    have g2 := hall 2 (by omega)
    have g3 := hall 3 (by omega)
    rw [e0] at g0
    rw [e1] at g1
    rw [e2] at g2
    rw [e3] at g3
    have g0 := hq _ (a0_lt _) g0
    have g1 := hq _ (a0_lt _) g1
    have g2 := hq _ (a0_lt _) g2
    have g3 := hq _ (a0_lt _) g3
    have l0 := a0_lt (a, b)
    generalize a0 (a, b) = x0 at *
    have s1 := hs x0
    generalize a0 (x0, b) = x1 at *
    have s2 := hs x1
    generalize a0 (x1, b) = x2 at *
    have s3 := hs x2
    generalize a0 (x2, b) = x3 at *
    clear e0 e1 e2 e3 hall hq hs
    rw [Q_is] at g0 g1 g2 g3 h2 l0
    exact four_line b x0 x1 x2 x3 h h2 s1 s2 s3 g0 l0 g1 g2 g3
  · refine no_shift (stT a) (stT_lt a) (fun i hi => hq _ (mQ _) ?_)
    rw [← wd_one i a b]; exact hall i hi
  · refine no_count (a2 (a, b) + b) (fun i hi => mix_high _ ?_)
    rw [← wd_two]; exact hall i hi
  · refine no_pair a b h1 h2 (fun i hi => hq _ (mQ _) ?_)
    rw [← wd_three]; exact hall i (by omega)
end Rej
