/- The shift kind: what the looked-at blocks tell of 64 words: no condition. -/
import Derived.Test.YtoflcfkiknmhmaaRejB
/- the shift kind: the same enumeration as for the count, with its own step -/
namespace Rej
def mS : Nat := 2685821657736338717
/-- one step of the shift, below 2^64 -/
def stT (x : Nat) : Nat :=
  (fun y => (fun z => (z ^^^ (z <<< 17)) % 2 ^ 64) (xs 7 y)) ((x ^^^ (x <<< 13)) % 2 ^ 64)
theorem stT_lt (x : Nat) : stT x < 2 ^ 64 := Nat.mod_lt _ (by decide)
theorem lane_shl (n k : Nat) (f : Nat → Nat) (hk : k ≤ 64) (hf : ∀ j, f j < 2 ^ 64) : (vec n f ^^^ (vec n f <<< k)) &&& vec n (fun _ => M64) = vec n (fun j => (f j ^^^ (f j <<< k)) % 2 ^ 64) := by
  rw [vec_mask]
  apply vec_congr
  intro j hj
  have e : vec n f <<< k = vec n (fun j => f j <<< k) := by
    rw [Nat.shiftLeft_eq, vec_mul]
    exact vec_congr _ _ _ (fun j _ => (Nat.shiftLeft_eq _ _).symm)
  have hb : ∀ j, f j <<< k < 2 ^ 128 := fun j => by
    rw [Nat.shiftLeft_eq]
    have h1 : f j * 2 ^ k < 2 ^ 64 * 2 ^ k := Nat.mul_lt_mul_of_pos_right (hf j) (Nat.two_pow_pos k)
    have h2 : 2 ^ 64 * 2 ^ k ≤ 2 ^ 64 * 2 ^ 64 := Nat.mul_le_mul_left _ (Nat.pow_le_pow_right (by omega) hk)
    exact Nat.lt_of_lt_of_le h1 h2
  rw [shr_xor, e]
  have hm : ∀ a : Nat, a % 2 ^ 64 = (a % 2 ^ 128) % 2 ^ 64 := fun a => (Nat.mod_mod_of_dvd _ (by decide)).symm
  rw [Nat.xor_mod_two_pow, hm (vec n f >>> _), hm (vec n (fun j => f j <<< k) >>> _), lane_of n f (fun j => lt_of64 (hf j)) j hj, lane_of n _ hb j hj, ← Nat.xor_mod_two_pow]
noncomputable def shlS (lg k x : Nat) : Nat := Nat.land (Nat.xor x (Nat.shiftLeft x k)) (MK lg)
noncomputable def shrS (lg k x : Nat) : Nat := Nat.land (Nat.xor x (Nat.shiftRight x k)) (MK lg)
noncomputable def stepS (lg x : Nat) : Nat := shlS lg 17 (shrS lg 7 (shlS lg 13 x))
noncomputable def topS (lg b x : Nat) : Nat :=
  Nat.land (Nat.add (Nat.land (Nat.mul x 2685821657736338717) (rp lg (Nat.shiftLeft (Nat.sub (Nat.pow 2 b) 1) (Nat.sub 64 b)))) (rp lg (Nat.pow 2 (Nat.sub 64 b)))) (rp lg 18446744073709551616)
theorem stepS_vec (lg : Nat) (f : Nat → Nat) (hf : ∀ j, f j < 2 ^ 64) : stepS lg (vec (2 ^ lg) f) = vec (2 ^ lg) (fun j => stT (f j)) := by
  have e1 : shlS lg 13 (vec (2 ^ lg) f) = vec (2 ^ lg) (fun j => (f j ^^^ (f j <<< 13)) % 2 ^ 64) := by
    unfold shlS; rw [MK_rep, rep_vec]; exact lane_shl _ 13 f (by decide) hf
  have h1 : ∀ j, (f j ^^^ (f j <<< 13)) % 2 ^ 64 < 2 ^ 64 := fun j => Nat.mod_lt _ (by decide)
  have e2 : shrS lg 7 (vec (2 ^ lg) fun j => (f j ^^^ (f j <<< 13)) % 2 ^ 64) = vec (2 ^ lg) (fun j => xs 7 ((f j ^^^ (f j <<< 13)) % 2 ^ 64)) := by
    unfold shrS; rw [MK_rep, rep_vec]; exact lane_xs _ 7 _ (by decide) h1
  have e3 : shlS lg 17 (vec (2 ^ lg) fun j => xs 7 ((f j ^^^ (f j <<< 13)) % 2 ^ 64)) = vec (2 ^ lg) (fun j => stT (f j)) := by
    unfold shlS; rw [MK_rep, rep_vec]; exact lane_shl _ 17 _ (by decide) (fun j => xs_lt 7 _ (h1 j))
  unfold stepS
  rw [e1, e2, e3]
/-- what 'topS' tells of a lane -/
def topAt (b x : Nat) : Nat := (((x * mS) &&& ((2 ^ b - 1) <<< (64 - b))) + 2 ^ (64 - b)) &&& 2 ^ 64
theorem mS_lt : mS < 2 ^ 64 := by decide
theorem topS_vec (lg b : Nat) (hb : b ≤ 64) (f : Nat → Nat) (hf : ∀ j, f j < 2 ^ 64) : topS lg b (vec (2 ^ lg) f) = vec (2 ^ lg) (fun j => topAt b (f j)) := by
  unfold topS
  rw [rp_rep, rp_rep, rp_rep, shl_is, pw_is, rep_vec, rep_vec, rep_vec]
  have hP : ∀ j, f j * mS < 2 ^ 128 := fun j => mul_lt128 (hf j) mS_lt
  have e0 : Nat.mul (vec (2 ^ lg) f) 2685821657736338717 = vec (2 ^ lg) (fun j => f j * mS) := vec_mul _ _ _
  rw [e0]
  show ((vec (2 ^ lg) (fun j => f j * mS) &&& _) + _) &&& vec (2 ^ lg) (fun _ => 2 ^ 64) = _
  rw [vec_and _ _ (fun _ => lt_of64 (top_lt b hb)), vec_add, vec_and _ _ (fun _ => by decide)]
  apply vec_congr
  intro j hj
  have hT : ∀ i, (((vec (2 ^ lg) (fun j => f j * mS) >>> (128 * i)) &&& ((2 ^ b - 1) <<< (64 - b))) + 2 ^ (64 - b)) < 2 ^ 128 := fun i => by
    have h4 : ((vec (2 ^ lg) (fun j => f j * mS) >>> (128 * i)) &&& ((2 ^ b - 1) <<< (64 - b))) ≤ (2 ^ b - 1) <<< (64 - b) := Nat.and_le_right
    have h5 := top_lt b hb
    have h6 := pow_le64 b
    omega
  have hl := lane_of (2 ^ lg) _ hT j hj
  have e : ∀ a c : Nat, c < 2 ^ 128 → a &&& c = (a % 2 ^ 128) &&& c := fun a c hc => by
    apply Nat.eq_of_testBit_eq
    intro i
    simp only [Nat.testBit_and, Nat.testBit_mod_two_pow]
    by_cases hi : i < 128
    · simp [hi]
    · rw [Nat.testBit_lt_two_pow (Nat.lt_of_lt_of_le hc (Nat.pow_le_pow_right (by omega) (by omega)))]
      simp
  rw [e _ (2 ^ 64) (by decide), hl, e _ _ (lt_of64 (top_lt b hb)), lane_of (2 ^ lg) _ hP j hj]
  rfl
end Rej
namespace Rej
/-! ### the blocks, for any step 'a' from lane to lane -/
noncomputable def nextG (lg a w : Nat) : Nat := Nat.land (Nat.add w (rp lg (Nat.mod (Nat.mul (Nat.pow 2 lg) a) 18446744073709551616))) (MK lg)
noncomputable def startG (lg a i : Nat) : Nat := Nat.land (Nat.add (Nat.mul (L1 lg) a) (rp lg (Nat.mod (Nat.mul i a) 18446744073709551616))) (MK lg)
theorem nextG_vec (lg a i : Nat) : nextG lg a (vec (2 ^ lg) (fun j => (i + j) * a % Q)) = vec (2 ^ lg) (fun j => (i + 2 ^ lg + j) * a % Q) := by
  unfold nextG
  rw [MK_rep, rp_rep]
  show (vec (2 ^ lg) _ + rep lg (2 ^ lg * a % Q)) &&& rep lg M64 = _
  rw [rep_vec, rep_vec, vec_add, lane_mod _ _ (fun j => add_lt128 (modQ_lt _) (modQ_lt _))]
  apply vec_congr
  intro j _
  show ((i + j) * a % Q + 2 ^ lg * a % Q) % Q = (i + 2 ^ lg + j) * a % Q
  rw [← Nat.add_mod, ← Nat.add_mul]
  congr 2
  omega
theorem lane_key (n : Nat) (f : Nat → Nat) (hf : ∀ j, j < n → f j < 2 ^ 128) (j : Nat) (hj : j < n) : (vec n f >>> (128 * j)) % 2 ^ 128 = f j := by
  have e : vec n f = vec n (fun j => if j < n then f j else 0) := vec_congr _ _ _ (fun j hj => by simp [hj])
  rw [e, lane_of n _ (fun j => by by_cases h : j < n <;> simp [h]; exact hf j h) j hj]
  simp [hj]
theorem startG_vec (lg a i : Nat) (ha : a < 2 ^ 64) (hlg : lg ≤ 60) : startG lg a i = vec (2 ^ lg) (fun j => (i + j) * a % Q) := by
  unfold startG
  rw [MK_rep, rp_rep, L1_vec]
  show (vec (2 ^ lg) (fun j => j) * a + rep lg (i * a % Q)) &&& rep lg M64 = _
  rw [vec_mul, rep_vec, rep_vec, vec_add, vec_mask]
  apply vec_congr
  intro j hj
  have hn : 2 ^ lg ≤ 2 ^ 60 := Nat.pow_le_pow_right (by omega) hlg
  have hf : ∀ j, j < 2 ^ lg → j * a + i * a % Q < 2 ^ 128 := fun j hj => by
    have h1 : j * a < 2 ^ 60 * 2 ^ 64 := Nat.mul_lt_mul'' (by omega) ha
    have h2 : i * a % Q < 2 ^ 64 := modQ_lt _
    omega
  rw [show (vec (2 ^ lg) (fun j => j * a + i * a % Q) >>> (128 * j)) % 2 ^ 64 = ((vec (2 ^ lg) (fun j => j * a + i * a % Q) >>> (128 * j)) % 2 ^ 128) % 2 ^ 64 from (Nat.mod_mod_of_dvd _ (by decide)).symm, lane_key _ _ hf j hj]
  show (j * a + i * a % Q) % Q = (i + j) * a % Q
  rw [Nat.add_mod_mod, ← Nat.add_mul, Nat.add_comm]
theorem bksF_tell (lg a : Nat) (B : Nat → Bool) (P : Nat → Prop) (hB : ∀ i, B (vec (2 ^ lg) (fun j => (i + j) * a % Q)) = true → ∀ j, j < 2 ^ lg → P (i + j)) :
    ∀ (k i : Nat), bksF B (nextG lg a) k (vec (2 ^ lg) (fun j => (i + j) * a % Q)) = true → ∀ t, i ≤ t → t < i + k * 2 ^ lg → P t
  | 0, i, _, t, h1, h2 => by omega
  | k + 1, i, h, t, h1, h2 => by
    have e : bksF B (nextG lg a) (k + 1) (vec (2 ^ lg) (fun j => (i + j) * a % Q)) = Bool.rec (motive := fun _ => Bool) false (bksF B (nextG lg a) k (nextG lg a (vec (2 ^ lg) (fun j => (i + j) * a % Q)))) (B (vec (2 ^ lg) (fun j => (i + j) * a % Q))) := rfl
    rw [e, nextG_vec] at h
    cases hb : B (vec (2 ^ lg) (fun j => (i + j) * a % Q)) with
    | false => rw [hb] at h; exact absurd h (by simp)
    | true =>
      rw [hb] at h
      by_cases hlt : t < i + 2 ^ lg
      · have := hB i hb (t - i) (by omega)
        rwa [show i + (t - i) = t by omega] at this
      · exact bksF_tell lg a B P hB k (i + 2 ^ lg) h t (by omega) (by rw [Nat.add_mul] at h2; omega)
noncomputable def blockS (lg b w : Nat) : Bool := bkF (stepS lg) (topS lg b) (fun x => topS lg b (stepS lg x)) w
noncomputable def partS (lg b its i : Nat) : Bool := bksF (blockS lg b) (nextG lg 12031615345788793547) its (startG lg 12031615345788793547 (Nat.mul i (Nat.mul its (Nat.pow 2 lg))))
def OkS (b t : Nat) : Prop := topAt b (stT (t * 12031615345788793547 % Q)) &&& topAt b (stT (stT (t * 12031615345788793547 % Q))) = 0
theorem topAt_lt (b x : Nat) : topAt b x < 2 ^ 128 := Nat.lt_of_le_of_lt (Nat.and_le_right) (by decide)
theorem blockS_tells (lg b : Nat) (hb : b ≤ 64) (i : Nat) (h : blockS lg b (vec (2 ^ lg) (fun j => (i + j) * 12031615345788793547 % Q)) = true) : ∀ j, j < 2 ^ lg → OkS b (i + j) := by
  have e : ∀ (S H1 H2 : Nat → Nat) (w : Nat), bkF S H1 H2 w = (Nat.beq (H1 (S w)) 0 || Nat.beq (Nat.land (H1 (S w)) (H2 (S w))) 0) := fun S H1 H2 w => bkF_is S H1 H2 S H1 H2 w rfl (fun _ => rfl) (fun _ => rfl)
  unfold blockS at h
  rw [e, stepS_vec _ _ (fun j => modQ_lt _), topS_vec _ _ hb _ (fun j => stT_lt _), stepS_vec _ _ (fun j => stT_lt _), topS_vec _ _ hb _ (fun j => stT_lt _)] at h
  intro j hj
  unfold OkS
  rcases (Bool.or_eq_true _ _).mp h with h | h
  · have h1 := Nat.eq_of_beq_eq_true h
    have h2 := vec_zero _ _ h1 j hj
    rw [h2, Nat.zero_and]
  · have h1 : (vec (2 ^ lg) _ &&& vec (2 ^ lg) _) = 0 := Nat.eq_of_beq_eq_true h
    rw [vec_and _ _ (fun j => topAt_lt b _)] at h1
    have h2 := vec_zero _ _ h1 j hj
    have e : ∀ a c : Nat, c < 2 ^ 128 → a &&& c = (a % 2 ^ 128) &&& c := fun a c hc => by
      apply Nat.eq_of_testBit_eq
      intro i
      simp only [Nat.testBit_and, Nat.testBit_mod_two_pow]
      by_cases hi : i < 128
      · simp [hi]
      · rw [Nat.testBit_lt_two_pow (Nat.lt_of_lt_of_le hc (Nat.pow_le_pow_right (by omega) (by omega)))]
        simp
    rw [e _ _ (topAt_lt b _), lane_of (2 ^ lg) _ (fun j => topAt_lt b _) j hj] at h2
    exact h2
theorem partsS_tell (lg b its n : Nat) (hb : b ≤ 64) (hlg : lg ≤ 60) (hi : 0 < its) (h : ∀ i, i < n → partS lg b its i = true) : ∀ t, t < n * (its * 2 ^ lg) → OkS b t := by
  intro t ht
  have hp : 0 < its * 2 ^ lg := Nat.mul_pos hi (Nat.two_pow_pos _)
  have hq := Nat.div_add_mod t (its * 2 ^ lg)
  have hr := Nat.mod_lt t hp
  have hin : t / (its * 2 ^ lg) < n := Nat.div_lt_of_lt_mul (by rw [Nat.mul_comm]; exact ht)
  have hb2 := h _ hin
  unfold partS at hb2
  have e : Nat.mul (t / (its * 2 ^ lg)) (Nat.mul its (Nat.pow 2 lg)) = t / (its * 2 ^ lg) * (its * 2 ^ lg) := rfl
  rw [e, startG_vec _ _ _ (by decide) hlg] at hb2
  refine bksF_tell lg _ (blockS lg b) (OkS b) (fun i => blockS_tells lg b hb i) its _ hb2 t ?_ ?_
  · rw [Nat.mul_comm]; omega
  · rw [Nat.mul_comm (t / (its * 2 ^ lg))]; omega
end Rej
namespace Rej
theorem neg_mul_neg (a m : Nat) (ha : a ≤ Q) (hm : m ≤ Q) : (Q - a) * (Q - m) % Q = a * m % Q := by
  have e : (Q - a) * (Q - m) + Q * (a + m) = Q * Q + a * m := by
    obtain ⟨u, hu⟩ : ∃ u, Q = a + u := ⟨Q - a, by omega⟩
    obtain ⟨v, hv⟩ : ∃ v, Q = m + v := ⟨Q - m, by omega⟩
    have e1 : Q - a = u := by omega
    have e2 : Q - m = v := by omega
    have e3 : Q * Q = (a + u) * (m + v) := by rw [← hu, ← hv]
    have e4 : Q * (a + m) = (m + v) * a + (a + u) * m := by
      rw [Nat.mul_add]
      conv => lhs; lhs; rw [hv]
      conv => lhs; rhs; rw [hu]
    rw [e1, e2, e3, e4]
    simp only [Nat.add_mul, Nat.mul_add]
    rw [Nat.mul_comm v a, Nat.mul_comm m a]
    omega
  have h1 : ((Q - a) * (Q - m) + Q * (a + m)) % Q = (Q - a) * (Q - m) % Q := Nat.add_mul_mod_self_left _ _ _
  have h2 : (Q * Q + a * m) % Q = a * m % Q := Nat.mul_add_mod _ _ _
  rw [← h1, e, h2]
theorem stateS (x : Nat) (hx : x < Q) : (Q - x * mS % Q) * 12031615345788793547 % Q = x := by
  have hm : 12031615345788793547 = Q - 6415128727920758069 := by decide
  rw [hm, neg_mul_neg _ _ (Nat.le_of_lt (Nat.mod_lt _ (by decide))) (by decide)]
  exact mul_back mS 6415128727920758069 x (by decide) hx
theorem topAt_high (b x : Nat) (hb : b ≤ 64) (h : Q - 2 ^ (64 - b) ≤ x * mS % Q) : topAt b x = 2 ^ 64 := by
  have hy : x * mS % Q < Q := Nat.mod_lt _ (by decide)
  have hT : (2 ^ b - 1) <<< (64 - b) + 2 ^ (64 - b) = 2 ^ 64 := by
    rw [Nat.shiftLeft_eq, Nat.sub_mul, ← Nat.pow_add, show b + (64 - b) = 64 by omega, Nat.one_mul]
    have := pow_le64 b
    omega
  have hand : x * mS &&& (2 ^ b - 1) <<< (64 - b) = (2 ^ b - 1) <<< (64 - b) := by
    have e3 : x * mS &&& (2 ^ b - 1) <<< (64 - b) = x * mS % Q &&& (2 ^ b - 1) <<< (64 - b) := by
      apply Nat.eq_of_testBit_eq
      intro i
      rw [Nat.testBit_and, Nat.testBit_and, show Q = 2 ^ 64 from rfl, Nat.testBit_mod_two_pow]
      by_cases hi : i < 64
      · simp [hi]
      · rw [Nat.testBit_lt_two_pow (Nat.lt_of_lt_of_le (top_lt b hb) (Nat.pow_le_pow_right (by omega) (by omega)))]
        simp
    rw [e3]
    generalize x * mS % Q = y at h hy
    obtain ⟨z, hz⟩ : ∃ z, y = 2 ^ (64 - b) * (2 ^ b - 1) + z ∧ z < 2 ^ (64 - b) := by
      refine ⟨y - 2 ^ (64 - b) * (2 ^ b - 1), ?_, ?_⟩
      · have : 2 ^ (64 - b) * (2 ^ b - 1) + 2 ^ (64 - b) = Q := by rw [Nat.mul_comm, ← Nat.shiftLeft_eq, hT]; rfl
        omega
      · have : 2 ^ (64 - b) * (2 ^ b - 1) + 2 ^ (64 - b) = Q := by rw [Nat.mul_comm, ← Nat.shiftLeft_eq, hT]; rfl
        have := Nat.two_pow_pos (64 - b)
        omega
    rw [hz.1, Nat.shiftLeft_eq, Nat.mul_comm (2 ^ b - 1)]
    apply Nat.eq_of_testBit_eq
    intro i
    rw [Nat.testBit_and, Nat.testBit_two_pow_mul_add _ hz.2, Nat.testBit_two_pow_mul]
    by_cases hi : i < 64 - b
    · simp [hi] <;> (try intro h) <;> omega
    · simp [hi] <;> (try intro h) <;> omega
  unfold topAt
  rw [hand, hT]
  simp
/-- THREE WORDS OF A SHIFT, ONE BEHIND THE OTHER, ARE NEVER ALL AMONG THE r GREATEST. -/
theorem three_shift (lg b its n r : Nat) (hb : b ≤ 64) (hlg : lg ≤ 60) (hi : 0 < its) (hr : r * 2 ^ 32 ≤ 2 ^ (64 - b)) (hn : r * 2 ^ 32 < n * (its * 2 ^ lg)) (h : ∀ i, i < n → partS lg b its i = true)
    (x : Nat) (hx : x < Q) (h0 : Q - r * 2 ^ 32 ≤ x * mS % Q) (h1 : Q - r * 2 ^ 32 ≤ stT x * mS % Q) (h2 : Q - r * 2 ^ 32 ≤ stT (stT x) * mS % Q) : False := by
  have hok := partsS_tell lg b its n hb hlg hi h (Q - x * mS % Q) (by omega)
  unfold OkS at hok
  rw [stateS x hx, topAt_high b _ hb (by omega), topAt_high b _ hb (by omega)] at hok
  exact absurd hok (by decide)
end Rej
namespace Rej
def RunS (lg b its lo n : Nat) : Prop := ∀ k, k < n → partS lg b its (lo + k) = true
theorem runS_zero {lg b its lo : Nat} : RunS lg b its lo 0 := fun k hk => absurd hk (Nat.not_lt_zero k)
theorem runS_step {lg b its lo n : Nat} (h : RunS lg b its lo n) (h2 : partS lg b its (Nat.add lo n) = true) : RunS lg b its lo (Nat.succ n) := by
  intro k hk
  rcases Nat.lt_or_ge k n with h3 | h3
  · exact h k h3
  · have : k = n := Nat.le_antisymm (Nat.le_of_lt_succ hk) h3
    rw [this]; exact h2
theorem runS_app {lg b its lo n m : Nat} (h : RunS lg b its lo n) (h2 : RunS lg b its (lo + n) m) : RunS lg b its lo (n + m) := by
  intro k hk
  rcases Nat.lt_or_ge k n with h3 | h3
  · exact h k h3
  · have := h2 (k - n) (by omega)
    rwa [show lo + n + (k - n) = lo + k by omega] at this
end Rej
/- The shift kind: of 63 states one behind the other, two follow each other whose lowest bits are 1 and 0, but for 128 beginnings; those are looked at one by one. -/
namespace Rej
theorem and64_mod (a : Nat) : a % 2 ^ 64 = a % Q := rfl
theorem stT_xor (x y : Nat) : stT (x ^^^ y) = stT x ^^^ stT y := by
  have h1 : ∀ k a b : Nat, ((a ^^^ b) ^^^ ((a ^^^ b) <<< k)) % 2 ^ 64 = ((a ^^^ (a <<< k)) % 2 ^ 64) ^^^ ((b ^^^ (b <<< k)) % 2 ^ 64) := fun k a b => by
    rw [← Nat.xor_mod_two_pow, Nat.shiftLeft_xor_distrib]
    congr 1
    rw [Nat.xor_assoc, Nat.xor_assoc]
    congr 1
    rw [← Nat.xor_assoc, Nat.xor_comm b, Nat.xor_assoc]
  have h2 : ∀ k a b : Nat, xs k (a ^^^ b) = xs k a ^^^ xs k b := fun k a b => by
    unfold xs
    rw [shr_xor, Nat.xor_assoc, Nat.xor_assoc]
    congr 1
    rw [← Nat.xor_assoc, Nat.xor_comm b, Nat.xor_assoc]
  unfold stT
  show ((xs 7 _) ^^^ ((xs 7 _) <<< 17)) % 2 ^ 64 = (((xs 7 _) ^^^ ((xs 7 _) <<< 17)) % 2 ^ 64) ^^^ (((xs 7 _) ^^^ ((xs 7 _) <<< 17)) % 2 ^ 64)
  rw [h1 13, h2, h1 17]
def go : List Nat → Nat → Nat
  | [], _ => 0
  | D :: l, x => ((x % 2) * D) ^^^ go l (stT x)
theorem sel_xor (x y D : Nat) : ((x ^^^ y) % 2) * D = ((x % 2) * D) ^^^ ((y % 2) * D) := by
  have h : (x ^^^ y) % 2 = (x % 2) ^^^ (y % 2) := by
    have := Nat.xor_mod_two_pow (a := x) (b := y) (n := 1)
    simpa using this
  rw [h]
  rcases Nat.mod_two_eq_zero_or_one x with h1 | h1 <;> rcases Nat.mod_two_eq_zero_or_one y with h2 | h2 <;> simp [h1, h2]
theorem go_xor : ∀ (l : List Nat) (x y : Nat), go l (x ^^^ y) = go l x ^^^ go l y
  | [], _, _ => by simp [go]
  | D :: l, x, y => by
    show ((x ^^^ y) % 2 * D) ^^^ go l (stT (x ^^^ y)) = ((x % 2 * D) ^^^ go l (stT x)) ^^^ ((y % 2 * D) ^^^ go l (stT y))
    rw [stT_xor, go_xor l, sel_xor, Nat.xor_assoc, Nat.xor_assoc]
    congr 1
    rw [← Nat.xor_assoc, ← Nat.xor_assoc, Nat.xor_comm (y % 2 * D)]
def Dl : List Nat := [765214667332754139, 17235300656508344808, 10842792154767364426, 11861477401142530924, 14154529017182104628, 6385596388370554376, 691532738334620026, 5898541763365421178, 9711907597095275372, 12155618025712473194, 14464720641952688440, 2882249153028451682, 14123691599545303624, 2730094042262532610, 16943126684394861412, 8391591040338876758, 8412819294875497488, 10454139813421337350, 2645037302714756190, 5572395287506874938, 16312520999624989474, 14144171103483719746, 12917310659351395640, 17048491418589012308, 9196468559228725018, 2804089106546801516, 12414680139536559922, 7289974364390773054, 16285795414807087104, 3329047493701789002, 7973942233180524410, 6686695763040587866, 8108938154923198564, 1739210396313539182, 5039640327213289804, 1483330272981337414, 16926079430631865660, 8858273193987592758, 4487123005330979394, 5423209127082717454, 10611730223768939352, 432480615466467932, 3009160650165451786, 12500005660831046206, 13756769122937169242, 11694655578394963716, 3279004005068725266, 13486553326788161628, 16732199692265421102, 18295950747006212144, 15154678892734518072, 5340094515050717524, 10364499405675801888, 4184263754248862584, 7349930159865715534, 3234284937974697554, 1880517756254625852, 1122887321797376076, 1636572852913295186, 3429814496891692058, 16121056615786247282, 8649341513868404770, 12523919624944392464, 4102641269797740334]
theorem go_basis : ∀ k, k < 64 → go Dl (2 ^ k) = 2 ^ k := by decide +kernel
theorem go_zero (l : List Nat) : go l 0 = 0 := by
  have := go_xor l 0 0
  rw [Nat.xor_self] at this
  rw [this, Nat.xor_self]
theorem go_all : ∀ (n : Nat), n ≤ 64 → ∀ x, x < 2 ^ n → go Dl x = x
  | 0, _, x, hx => by
    have : x = 0 := by simpa using hx
    rw [this, go_zero]
  | n + 1, hn, x, hx => by
    rcases Nat.lt_or_ge x (2 ^ n) with h | h
    · exact go_all n (by omega) x h
    · have hy : x ^^^ 2 ^ n < 2 ^ n := by
        apply Nat.lt_pow_two_of_testBit
        intro i hi
        rw [Nat.testBit_xor, Nat.testBit_two_pow]
        rcases Nat.lt_or_ge n i with h1 | h1
        · rw [Nat.testBit_lt_two_pow (Nat.lt_of_lt_of_le hx (Nat.pow_le_pow_right (by omega) h1))]
          simp; omega
        · have : i = n := by omega
          subst this
          have : x.testBit i = true := by
            rw [Nat.testBit_eq_decide_div_mod_eq]
            have h3 : x / 2 ^ i = 1 := by
              apply Nat.div_eq_of_lt_le
              · rw [Nat.one_mul]; exact h
              · rw [Nat.pow_succ] at hx; omega
            rw [h3]; decide
          rw [this]; simp
      have e : x = (x ^^^ 2 ^ n) ^^^ 2 ^ n := by rw [Nat.xor_assoc, Nat.xor_self, Nat.xor_zero]
      have h4 := go_xor Dl (x ^^^ 2 ^ n) (2 ^ n)
      rw [← e, go_all n (by omega) _ hy, go_basis n (by omega)] at h4
      rw [h4]; exact e.symm
/-- what may come of states none of which but the last is even behind an odd one -/
def cand : List Nat → Bool → List Nat
  | [], _ => [0]
  | [D], _ => [0, D]
  | D :: E :: l, true => (cand (E :: l) true).map (fun v => D ^^^ v)
  | D :: E :: l, false => cand (E :: l) false ++ (cand (E :: l) true).map (fun v => D ^^^ v)
def Nice : List Nat → Bool → Nat → Prop
  | [], _, _ => True
  | [_], _, _ => True
  | _ :: E :: l, s, x => (s = true → x % 2 = 1) ∧ Nice (E :: l) (x % 2 == 1) (stT x)
theorem go_cand : ∀ (l : List Nat) (s : Bool) (x : Nat), Nice l s x → go l x ∈ cand l s
  | [], s, x, _ => by simp [go, cand]
  | [D], s, x, _ => by
    rcases Nat.mod_two_eq_zero_or_one x with h | h <;> cases s <;> simp [go, cand, h]
  | D :: E :: l, s, x, h => by
    have ih := go_cand (E :: l) (x % 2 == 1) (stT x) h.2
    show ((x % 2) * D) ^^^ go (E :: l) (stT x) ∈ _
    rcases Nat.mod_two_eq_zero_or_one x with h0 | h0
    · rw [h0] at ih ⊢
      rw [Nat.zero_mul, Nat.zero_xor]
      cases s with
      | true => exact absurd (h.1 rfl) (by omega)
      | false => exact List.mem_append.mpr (Or.inl ih)
    · rw [h0] at ih ⊢
      rw [Nat.one_mul]
      have hm : D ^^^ go (E :: l) (stT x) ∈ (cand (E :: l) true).map (fun v => D ^^^ v) := List.mem_map.mpr ⟨_, ih, rfl⟩
      cases s with
      | true => exact hm
      | false => exact List.mem_append.mpr (Or.inr hm)
def it : Nat → Nat → Nat
  | 0, x => x
  | i + 1, x => it i (stT x)
theorem it_succ : ∀ (i x : Nat), it (i + 1) x = stT (it i x)
  | 0, _ => rfl
  | i + 1, x => it_succ i (stT x)
theorem it_lt : ∀ (i x : Nat), x < Q → it i x < Q
  | 0, _, h => h
  | i + 1, x, _ => it_lt i _ (stT_lt x)
theorem nice_of : ∀ (l : List Nat) (s : Bool) (x : Nat), (s = true → l.length ≤ 1 ∨ x % 2 = 1) → (∀ i, i + 2 < l.length → it i x % 2 = 1 → it (i + 1) x % 2 = 1) → Nice l s x
  | [], _, _, _, _ => trivial
  | [_], _, _, _, _ => trivial
  | D :: E :: l, s, x, hs, h => by
    refine ⟨fun h1 => ?_, nice_of (E :: l) _ _ ?_ ?_⟩
    · rcases hs h1 with h2 | h2
      · simp at h2
      · exact h2
    · intro h1
      rcases Nat.lt_or_ge 1 (E :: l).length with h2 | h2
      · right
        exact h 0 (by simp at h2 ⊢; omega) (by show x % 2 = 1; simpa using h1)
      · exact Or.inl h2
    · intro i hi
      exact h (i + 1) (by simp at hi ⊢; omega)
/-- the states by themselves: one of the first words is not among the greatest -/
theorem cand_fall : (cand Dl false).all (fun v => Nat.ble (v * mS % Q) 18446743936270598143 || (Nat.ble (stT v * mS % Q) 18446743936270598143 || Nat.ble (stT (stT v) * mS % Q) 18446743936270598143)) = true := by decide +kernel

/-! ### lanes of every 256th -/
def ka : Nat := 12031615345788793547
theorem blockS_gen (lg b : Nat) (hb : b ≤ 64) (T : Nat → Nat) (h : blockS lg b (vec (2 ^ lg) (fun j => T j * ka % Q)) = true) : ∀ j, j < 2 ^ lg → OkS b (T j) := by
  have e : ∀ (S H1 H2 : Nat → Nat) (w : Nat), bkF S H1 H2 w = (Nat.beq (H1 (S w)) 0 || Nat.beq (Nat.land (H1 (S w)) (H2 (S w))) 0) := fun S H1 H2 w => bkF_is S H1 H2 S H1 H2 w rfl (fun _ => rfl) (fun _ => rfl)
  unfold blockS at h
  rw [e, stepS_vec _ _ (fun j => modQ_lt _), topS_vec _ _ hb _ (fun j => stT_lt _), stepS_vec _ _ (fun j => stT_lt _), topS_vec _ _ hb _ (fun j => stT_lt _)] at h
  intro j hj
  unfold OkS
  rcases (Bool.or_eq_true _ _).mp h with h | h
  · have h1 := Nat.eq_of_beq_eq_true h
    have h2 := vec_zero _ _ h1 j hj
    have h2 : topAt b (stT (T j * 12031615345788793547 % Q)) = 0 := h2
    rw [h2, Nat.zero_and]
  · have h1 : (vec (2 ^ lg) _ &&& vec (2 ^ lg) _) = 0 := Nat.eq_of_beq_eq_true h
    rw [vec_and _ _ (fun j => topAt_lt b _)] at h1
    have h2 := vec_zero _ _ h1 j hj
    rw [and_mod128 _ _ (topAt_lt b _), lane_of (2 ^ lg) _ (fun j => topAt_lt b _) j hj] at h2
    exact h2
/-- block g: its lowest 8 bits are those of the state 129 + 2 (g mod 64) -/
noncomputable def cutS (lg b g : Nat) : Bool :=
  blockS lg b (Nat.land (Nat.add (Nat.mul (L1 lg) 17934012286145579776) (rp lg (Nat.mod (Nat.mul (Nat.add (Nat.mod (Nat.mul 227 (Nat.add 129 (Nat.mul 2 (Nat.mod g 64)))) 256) (Nat.mul (Nat.mul 256 (Nat.pow 2 lg)) (Nat.div g 64))) 12031615345788793547) 18446744073709551616))) (MK lg))
theorem cutS_start (lg t ms : Nat) (hlg : lg ≤ 60) : Nat.land (Nat.add (Nat.mul (L1 lg) (ms * ka % Q)) (rp lg (Nat.mod (Nat.mul t 12031615345788793547) 18446744073709551616))) (MK lg) = vec (2 ^ lg) (fun i => (t + ms * i) * ka % Q) := by
  have e0 : Nat.mod (Nat.mul t 12031615345788793547) 18446744073709551616 = t * ka % Q := by rw [Q_is]; rfl
  rw [e0, L1_vec, rp_vec, MK_rep, rep_vec]
  show (vec _ _ * _ + vec _ _) &&& _ = _
  rw [vec_mul, vec_add]
  have e1 : vec (2 ^ lg) (fun j => j * (ms * ka % Q) + t * ka % Q) = vec (2 ^ lg) (fun j => (if j < 2 ^ lg then j else 0) * (ms * ka % Q) + t * ka % Q) := vec_congr _ _ _ (fun j hj => by simp [hj])
  rw [e1, lane_mod _ _ (fun j => ?_)]
  · apply vec_congr
    intro j hj
    simp only [hj, if_true]
    show (j * (ms * ka % Q) + t * ka % Q) % Q = (t + ms * j) * ka % Q
    rw [Nat.add_mul t, Nat.mul_comm ms j, Nat.mul_assoc j ms ka, modl (t * ka) j (ms * ka) Q, Nat.add_comm]
  · have h1 : (if j < 2 ^ lg then j else 0) < 2 ^ 60 := by
      have : 2 ^ lg ≤ 2 ^ 60 := Nat.pow_le_pow_right (by omega) hlg
      split <;> omega
    have h2 : (if j < 2 ^ lg then j else 0) * (ms * ka % Q) < 2 ^ 60 * 2 ^ 64 := Nat.mul_lt_mul'' h1 (modQ_lt _)
    have h3 : t * ka % Q < 2 ^ 64 := modQ_lt _
    omega
theorem low_of : ∀ k, k < 64 → ∀ t, t < 256 → t * 203 % 256 = 129 + 2 * k → t = 227 * (129 + 2 * k) % 256 := by decide +kernel
theorem low_ex (v : Nat) (h0 : v % 2 = 1) (h7 : v / 128 % 2 = 1) : ∃ k, k < 64 ∧ v % 256 = 129 + 2 * k := by
  have h8 : v % 256 = 128 * (v / 128 % 2) + v % 128 := by omega
  have h9 : v % 128 % 2 = 1 := by omega
  have h10 : v % 128 < 128 := Nat.mod_lt _ (by decide)
  refine ⟨(v % 128 - 1) / 2, by omega, ?_⟩
  rw [h8, h7]
  generalize v % 128 = w at *
  clear h8 h0 h7
  omega
theorem cutS_at (lg H k q : Nat) (hk : k < 64) : cutS lg H (q * 64 + k) = blockS lg H (Nat.land (Nat.add (Nat.mul (L1 lg) 17934012286145579776) (rp lg (Nat.mod (Nat.mul (227 * (129 + 2 * k) % 256 + 256 * 2 ^ lg * q) 12031615345788793547) 18446744073709551616))) (MK lg)) := by
  have e1 : (q * 64 + k) % 64 = k := by omega
  have e2 : (q * 64 + k) / 64 = q := by omega
  have e : cutS lg H (q * 64 + k) = blockS lg H (Nat.land (Nat.add (Nat.mul (L1 lg) 17934012286145579776) (rp lg (Nat.mod (Nat.mul (227 * (129 + 2 * ((q * 64 + k) % 64)) % 256 + 256 * 2 ^ lg * ((q * 64 + k) / 64)) 12031615345788793547) 18446744073709551616))) (MK lg)) := rfl
  rw [e, e1, e2]
theorem ms_is : (17934012286145579776 : Nat) = 256 * ka % Q := by decide
theorem cutS_tells (lg b H : Nat) (hb : b ≤ 64) (hlg : lg ≤ 60) (h : ∀ g, g < H * 64 → cutS lg b g = true) (t : Nat) (ht : t < 2 ^ lg * H * 256) (h0 : t * ka % Q % 2 = 1) (h7 : t * ka % Q / 128 % 2 = 1) : OkS b t := by
  have hlow : t % 256 * 203 % 256 = t * ka % Q % 256 := by
    rw [Nat.mod_mod_of_dvd _ (show 256 ∣ Q by decide), Nat.mul_mod t ka, show ka % 256 = 203 by decide]
  obtain ⟨k, hk, hk2⟩ := low_ex _ h0 h7
  have hl := low_of k hk (t % 256) (Nat.mod_lt _ (by decide)) (by rw [hlow, hk2])
  have hn : 0 < 2 ^ lg := Nat.two_pow_pos lg
  have hi := Nat.mod_lt (t / 256) hn
  have hq := Nat.div_add_mod (t / 256) (2 ^ lg)
  have hd := Nat.div_add_mod t 256
  have hh : t / 256 / 2 ^ lg < H := by
    apply Nat.div_lt_of_lt_mul
    apply Nat.div_lt_of_lt_mul
    rw [Nat.mul_comm]; exact ht
  have hc := h (t / 256 / 2 ^ lg * 64 + k) (by clear hlow hk2 hl h0 h7 hi hq hd ht h; omega)
  rw [cutS_at _ _ _ _ hk, ms_is, cutS_start _ _ _ hlg] at hc
  have := blockS_gen lg b hb _ hc (t / 256 % 2 ^ lg) hi
  have e : 227 * (129 + 2 * k) % 256 + 256 * 2 ^ lg * (t / 256 / 2 ^ lg) + 256 * (t / 256 % 2 ^ lg) = t := by
    rw [← hl, Nat.mul_assoc, Nat.add_assoc, ← Nat.mul_add, hq, Nat.add_comm, hd]
  rwa [e] at this
theorem stT_even (x : Nat) (h0 : x % 2 = 1) (h1 : stT x % 2 = 0) : x / 128 % 2 = 1 := by
  have hb : ∀ a : Nat, a % 2 = (a.testBit 0).toNat := fun a => by rw [Nat.testBit_zero]; rcases Nat.mod_two_eq_zero_or_one a with h | h <;> simp [h]
  have h7 : x / 128 % 2 = (x.testBit 7).toNat := by
    rw [Nat.testBit_eq_decide_div_mod_eq, show (2 : Nat) ^ 7 = 128 by decide]
    rcases Nat.mod_two_eq_zero_or_one (x / 128) with h | h <;> simp [h]
  rw [hb] at h0 h1
  have e : (stT x).testBit 0 = (x.testBit 0 ^^ x.testBit 7) := by
    unfold stT xs
    simp only [Nat.testBit_mod_two_pow, Nat.testBit_xor, Nat.testBit_shiftLeft, Nat.testBit_shiftRight]
    simp
  rw [e] at h1
  rw [h7]
  revert h0 h1
  cases x.testBit 0 <;> cases x.testBit 7 <;> simp
/-- NO STATE OF THE SHIFT GIVES 64 WORDS AMONG THE r GREATEST, ONE BEHIND THE OTHER. -/
theorem shift_run (lg b H r : Nat) (hb : b ≤ 64) (hlg : lg ≤ 60) (hr : r * 2 ^ 32 ≤ 2 ^ (64 - b)) (hb2 : 27 ≤ b) (hH : r * 2 ^ 32 < 2 ^ lg * H * 256) (h : ∀ g, g < H * 64 → cutS lg b g = true)
    (x : Nat) (hx : x < Q) (hall : ∀ i, i < 64 → Q - r * 2 ^ 32 ≤ it i x * mS % Q) : False := by
  have step : ∀ i, i + 2 < 64 → it i x % 2 = 1 → it (i + 1) x % 2 = 1 := by
    intro i hi h1
    rcases Nat.mod_two_eq_zero_or_one (it (i + 1) x) with h0 | h0
    · exfalso
      have hlt := it_lt i x hx
      have hf : it i x * mS % Q < Q := Nat.mod_lt _ (by decide)
      have a0 := hall i (by omega)
      have a1 := hall (i + 1) (by omega)
      have a2 := hall (i + 2) (by omega)
      rw [it_succ] at h0 a1
      rw [it_succ, it_succ] at a2
      have hs : (Q - it i x * mS % Q) * ka % Q = it i x := stateS _ hlt
      have hok := cutS_tells lg b H hb hlg h (Q - it i x * mS % Q) (by omega) (by rw [hs]; exact h1) (by rw [hs]; exact stT_even _ h1 h0)
      unfold OkS at hok
      rw [stateS _ hlt, topAt_high b _ hb (by omega), topAt_high b _ hb (by omega)] at hok
      exact absurd hok (by decide)
    · exact h0
  have hn := nice_of Dl false x (by intro h; cases h) (fun i hi => step i hi)
  have hm := go_cand Dl false x hn
  rw [go_all 64 (by omega) x hx] at hm
  have hf := List.all_eq_true.mp cand_fall x hm
  have hp : 2 ^ (64 - b) ≤ 2 ^ 37 := Nat.pow_le_pow_right (by omega) (by omega)
  have b0 : Q - r * 2 ^ 32 ≤ x * mS % Q := hall 0 (by omega)
  have b1 : Q - r * 2 ^ 32 ≤ stT x * mS % Q := hall 1 (by omega)
  have b2 : Q - r * 2 ^ 32 ≤ stT (stT x) * mS % Q := hall 2 (by omega)
  simp only [Bool.or_eq_true] at hf
  rw [Q_is] at b0 b1 b2
  rcases hf with hf | hf | hf <;> (have := Nat.le_of_ble_eq_true hf; rw [Q_is] at this; omega)
end Rej
