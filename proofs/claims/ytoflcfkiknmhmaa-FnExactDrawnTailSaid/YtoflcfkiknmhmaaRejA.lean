/- Lanes of a natural number, and the count kind's blocks and lines: plain arithmetic, no condition. -/
/- Lanes of 128 bits in one natural number: what the bitwise operations, sums and products by a constant do to each lane. -/
namespace Rej

/-- lanes f 0, f 1, .. of 128 bits each -/
def vec : Nat → (Nat → Nat) → Nat
  | 0, _ => 0
  | n + 1, f => f 0 + 2 ^ 128 * vec n (fun j => f (j + 1))

theorem vec_congr : ∀ (n : Nat) (f g : Nat → Nat), (∀ j, j < n → f j = g j) → vec n f = vec n g
  | 0, _, _, _ => rfl
  | n + 1, f, g, h => by
    unfold vec
    rw [h 0 (by omega), vec_congr n _ _ (fun j hj => h (j + 1) (by omega))]

theorem vec_mul : ∀ (n : Nat) (f : Nat → Nat) (m : Nat), vec n f * m = vec n (fun j => f j * m)
  | 0, _, _ => by simp [vec]
  | n + 1, f, m => by
    unfold vec
    rw [← vec_mul n, Nat.add_mul, Nat.mul_assoc]

theorem vec_add : ∀ (n : Nat) (f g : Nat → Nat), vec n f + vec n g = vec n (fun j => f j + g j)
  | 0, _, _ => by simp [vec]
  | n + 1, f, g => by
    unfold vec
    rw [← vec_add n]
    show _ = f 0 + g 0 + _
    omega

theorem shr128 (x a : Nat) (hx : x < 2 ^ 128) : (x + 2 ^ 128 * a) >>> 128 = a := by
  rw [Nat.shiftRight_eq_div_pow]; omega

theorem lane_of : ∀ (n : Nat) (f : Nat → Nat), (∀ j, f j < 2 ^ 128) → ∀ j, j < n → (vec n f >>> (128 * j)) % 2 ^ 128 = f j
  | 0, _, _, j, hj => by omega
  | n + 1, f, hf, 0, _ => by
    unfold vec
    have := hf 0
    simp
    omega
  | n + 1, f, hf, j + 1, hj => by
    unfold vec
    rw [show 128 * (j + 1) = 128 + 128 * j by omega, Nat.shiftRight_add, shr128 _ _ (hf 0)]
    exact lane_of n (fun j => f (j + 1)) (fun j => hf (j + 1)) j (by omega)

theorem and_split (V x a : Nat) (hx : x < 2 ^ 128) : V &&& (x + 2 ^ 128 * a) = (V &&& x) + 2 ^ 128 * ((V >>> 128) &&& a) := by
  have h1 : (V &&& x) < 2 ^ 128 := Nat.lt_of_le_of_lt Nat.and_le_right hx
  apply Nat.eq_of_testBit_eq
  intro i
  rw [Nat.testBit_and, Nat.add_comm x, Nat.add_comm (V &&& x), Nat.testBit_two_pow_mul_add _ hx, Nat.testBit_two_pow_mul_add _ h1]
  by_cases hi : i < 128
  · simp [hi]
  · simp [hi, Nat.testBit_shiftRight]
    rw [show 128 + (i - 128) = i by omega]

theorem vec_and : ∀ (n : Nat) (g : Nat → Nat), (∀ j, g j < 2 ^ 128) → ∀ V, V &&& vec n g = vec n (fun j => (V >>> (128 * j)) &&& g j)
  | 0, _, _, V => by simp [vec]
  | n + 1, g, hg, V => by
    unfold vec
    rw [and_split _ _ _ (hg 0), vec_and n (fun j => g (j + 1)) (fun j => hg (j + 1))]
    congr 2
    apply vec_congr
    intro j _
    rw [← Nat.shiftRight_add, show 128 + 128 * j = 128 * (j + 1) by omega]

theorem vec_zero : ∀ (n : Nat) (f : Nat → Nat), vec n f = 0 → ∀ j, j < n → f j = 0
  | 0, _, _, j, hj => by omega
  | n + 1, f, h, 0, _ => by unfold vec at h; omega
  | n + 1, f, h, j + 1, hj => by
    unfold vec at h
    exact vec_zero n (fun j => f (j + 1)) (by omega) j (by omega)

/-- a mask of the low 64 bits of each lane -/
def M64 : Nat := 2 ^ 64 - 1
theorem and_M64 (a : Nat) : a &&& M64 = a % 2 ^ 64 := Nat.and_two_pow_sub_one_eq_mod a 64
theorem vec_mask (n V : Nat) : V &&& vec n (fun _ => M64) = vec n (fun j => (V >>> (128 * j)) % 2 ^ 64) := by
  rw [vec_and n _ (fun _ => by decide)]
  exact vec_congr _ _ _ (fun j _ => and_M64 _)

theorem shr_xor (a b k : Nat) : (a ^^^ b) >>> k = (a >>> k) ^^^ (b >>> k) := Nat.shiftRight_xor_distrib
theorem shr_shr (a i k : Nat) : (a >>> i) >>> k = (a >>> k) >>> i := by rw [← Nat.shiftRight_add, ← Nat.shiftRight_add, Nat.add_comm]

/-- x with itself shifted back, once -/
def xs (k x : Nat) : Nat := x ^^^ (x >>> k)
/-- x with itself shifted back, twice: what undoes 'xs k' of a number below 2^64, for k at least 22 -/
def ux (k x : Nat) : Nat := x ^^^ ((x ^^^ (x >>> k)) >>> k)

theorem xs_shr (k x j : Nat) : xs k x >>> j = xs k (x >>> j) := by
  unfold xs; rw [shr_xor, shr_shr]
theorem ux_shr (k x j : Nat) : ux k x >>> j = ux k (x >>> j) := by
  unfold ux; rw [shr_xor, shr_shr, shr_xor, shr_shr x k j]
theorem xs_mod (k x : Nat) (hk : k ≤ 64) : xs k x % 2 ^ 64 = xs k (x % 2 ^ 128) % 2 ^ 64 := by
  apply Nat.eq_of_testBit_eq
  intro i
  simp only [xs, Nat.testBit_mod_two_pow, Nat.testBit_xor, Nat.testBit_shiftRight]
  by_cases hi : i < 64
  · simp [hi, show i < 128 by omega, show k + i < 128 by omega]
  · simp [hi]
theorem ux_mod (k x : Nat) (hk : k ≤ 32) : ux k x % 2 ^ 64 = ux k (x % 2 ^ 128) % 2 ^ 64 := by
  apply Nat.eq_of_testBit_eq
  intro i
  simp only [ux, Nat.testBit_mod_two_pow, Nat.testBit_xor, Nat.testBit_shiftRight]
  by_cases hi : i < 64
  · simp [hi, show i < 128 by omega, show k + i < 128 by omega, show k + (k + i) < 128 by omega]
  · simp [hi]
theorem xs_lt (k x : Nat) (hx : x < 2 ^ 64) : xs k x < 2 ^ 64 := Nat.xor_lt_two_pow hx (Nat.lt_of_le_of_lt (Nat.shiftRight_le x k) hx)
theorem ux_lt (k x : Nat) (hx : x < 2 ^ 64) : ux k x < 2 ^ 64 := by
  refine Nat.xor_lt_two_pow hx (Nat.lt_of_le_of_lt (Nat.shiftRight_le _ k) ?_)
  exact xs_lt k x hx

theorem lane_xs (n k : Nat) (f : Nat → Nat) (hk : k ≤ 64) (hf : ∀ j, f j < 2 ^ 64) : (vec n f ^^^ (vec n f >>> k)) &&& vec n (fun _ => M64) = vec n (fun j => xs k (f j)) := by
  rw [vec_mask]
  apply vec_congr
  intro j hj
  change xs k (vec n f) >>> (128 * j) % 2 ^ 64 = _
  rw [xs_shr, xs_mod _ _ hk, lane_of n f (fun j => Nat.lt_trans (hf j) (by decide)) j hj, Nat.mod_eq_of_lt (xs_lt k _ (hf j))]
theorem lane_ux (n k : Nat) (f : Nat → Nat) (hk : k ≤ 32) (hf : ∀ j, f j < 2 ^ 64) : (vec n f ^^^ ((vec n f ^^^ (vec n f >>> k)) >>> k)) &&& vec n (fun _ => M64) = vec n (fun j => ux k (f j)) := by
  rw [vec_mask]
  apply vec_congr
  intro j hj
  change ux k (vec n f) >>> (128 * j) % 2 ^ 64 = _
  rw [ux_shr, ux_mod _ _ hk, lane_of n f (fun j => Nat.lt_trans (hf j) (by decide)) j hj, Nat.mod_eq_of_lt (ux_lt k _ (hf j))]
theorem lane_mod (n : Nat) (f : Nat → Nat) (hf : ∀ j, f j < 2 ^ 128) : vec n f &&& vec n (fun _ => M64) = vec n (fun j => f j % 2 ^ 64) := by
  rw [vec_mask]
  apply vec_congr
  intro j hj
  rw [show (vec n f >>> (128 * j)) % 2 ^ 64 = ((vec n f >>> (128 * j)) % 2 ^ 128) % 2 ^ 64 from (Nat.mod_mod_of_dvd _ (by decide)).symm, lane_of n f hf j hj]

/-! ### one mixing, back and forth -/
def m1 : Nat := 13787848793156543929
def m2 : Nat := 10723151780598845931
def n1 : Nat := 10871156337175269513
def n2 : Nat := 3573116690164977347
def cc : Nat := 11400714819323198485
def Q : Nat := 2 ^ 64
/-- the mixing without its last step, which turns only what lies below the highest 31 bits -/
def fwd (x : Nat) : Nat := xs 27 (xs 30 x * m1 % Q) * m2 % Q
def back (r : Nat) : Nat := ux 30 (ux 27 (r * n2 % Q) * n1 % Q)

theorem Q_is : Q = 18446744073709551616 := by decide
theorem ux_xs (k x : Nat) (hk : 22 ≤ k) (hx : x < 2 ^ 64) : ux k (xs k x) = x := by
  have hb : ∀ i, 64 ≤ i → x.testBit i = false := fun i hi => Nat.testBit_lt_two_pow (Nat.lt_of_lt_of_le hx (Nat.pow_le_pow_right (by omega) hi))
  apply Nat.eq_of_testBit_eq
  intro i
  simp only [ux, xs, Nat.testBit_xor, Nat.testBit_shiftRight]
  rw [show k + (k + (k + i)) = 3 * k + i by omega, hb (3 * k + i) (by omega)]
  cases x.testBit i <;> cases x.testBit (k + i) <;> cases x.testBit (k + (k + i)) <;> rfl
theorem mul_back (m n x : Nat) (h : m * n % Q = 1) (hx : x < Q) : (x * m % Q) * n % Q = x := by
  have e : (x * m % Q) * n % Q = x * (m * n) % Q := by
    rw [Nat.mod_mul_mod, Nat.mul_assoc]
  rw [e, Nat.mul_mod, h, Nat.mul_one, Nat.mod_mod, Nat.mod_eq_of_lt hx]
theorem back_fwd (x : Nat) (hx : x < Q) : back (fwd x) = x := by
  have h0 : xs 30 x < Q := xs_lt 30 x hx
  have h1 : xs 30 x * m1 % Q < Q := Nat.mod_lt _ (by decide)
  have h2 : xs 27 (xs 30 x * m1 % Q) < Q := xs_lt 27 _ h1
  unfold back fwd
  rw [mul_back m2 n2 _ (by decide) h2, ux_xs 27 _ (by omega) h1, mul_back m1 n1 _ (by decide) h0, ux_xs 30 _ (by omega) hx]

/-! ### constants in all lanes -/
def rep : Nat → Nat → Nat
  | 0, a => a
  | k + 1, a => rep k a + (rep k a) <<< (128 * 2 ^ k)
def lan : Nat → Nat → Nat
  | 0, _ => 0
  | k + 1, a => lan k a + (lan k a + rep k (2 ^ k * a)) <<< (128 * 2 ^ k)
theorem vec_succ (n : Nat) (f : Nat → Nat) : vec (n + 1) f = f 0 + 2 ^ 128 * vec n (fun j => f (j + 1)) := rfl
theorem vec_app : ∀ (n m : Nat) (f : Nat → Nat), vec (n + m) f = vec n f + 2 ^ (128 * n) * vec m (fun j => f (n + j))
  | 0, m, f => by simp [vec]
  | n + 1, m, f => by
    rw [show n + 1 + m = (n + m) + 1 by omega, vec_succ (n + m) f, vec_succ n f, vec_app n m, Nat.mul_add, ← Nat.mul_assoc, ← Nat.pow_add, show 128 + 128 * n = 128 * (n + 1) by omega, Nat.add_assoc]
    congr 3
    apply vec_congr
    intro j _
    show f (n + j + 1) = f (n + 1 + j)
    congr 1
    omega
theorem rep_vec : ∀ (k a : Nat), rep k a = vec (2 ^ k) (fun _ => a)
  | 0, a => by simp [rep, vec]
  | k + 1, a => by
    rw [rep, rep_vec k a, Nat.shiftLeft_eq, show 2 ^ (k + 1) = 2 ^ k + 2 ^ k by omega, vec_app, Nat.mul_comm]
theorem lan_vec : ∀ (k a : Nat), lan k a = vec (2 ^ k) (fun j => j * a)
  | 0, a => by simp [lan, vec]
  | k + 1, a => by
    rw [lan, lan_vec k a, rep_vec, vec_add, Nat.shiftLeft_eq, show 2 ^ (k + 1) = 2 ^ k + 2 ^ k by omega, vec_app, Nat.mul_comm]
    congr 2
    apply vec_congr
    intro j _
    show j * a + 2 ^ k * a = (2 ^ k + j) * a
    rw [Nat.add_mul, Nat.add_comm]

/-! ### the blocks -/
/-- which lanes go on to a word whose highest b bits are all 1, after d steps more: bit 64 of each lane -/
def hits (lg b : Nat) (x d : Nat) : Nat :=
  (fun x2 => (fun u2 => (fun v2 => (fun w2 =>
    Nat.land (Nat.add (Nat.land (Nat.mul w2 m2) (rep lg ((2 ^ b - 1) <<< (64 - b)))) (rep lg (2 ^ (64 - b)))) (rep lg (2 ^ 64)))
    (Nat.land (Nat.xor v2 (Nat.shiftRight v2 27)) (rep lg M64)))
    (Nat.land (Nat.mul u2 m1) (rep lg M64)))
    (Nat.land (Nat.xor x2 (Nat.shiftRight x2 30)) (rep lg M64)))
    (Nat.land (Nat.add x (rep lg (d * cc % Q))) (rep lg M64))
/-- the lanes' states, out of the lanes of w -/
def states (lg w : Nat) : Nat :=
  (fun v => (fun u => Nat.land (Nat.xor u (Nat.shiftRight (Nat.xor u (Nat.shiftRight u 30)) 30)) (rep lg M64))
    (Nat.land (Nat.mul v n1) (rep lg M64)))
    (Nat.land (Nat.xor w (Nat.shiftRight (Nat.xor w (Nat.shiftRight w 27)) 27)) (rep lg M64))
/-- w's step from lane to lane, and from block to block -/
def na : Nat := (Q - 1) * n2 % Q
def bk (S H1 H2 : Nat → Nat) (w : Nat) : Bool :=
  Nat.beq (H1 (S w)) 0 || Nat.beq (Nat.land (H1 (S w)) (H2 (S w))) 0
def blockOk (lg b w : Nat) : Bool := bk (states lg) (fun x => hits lg b x 1) (fun x => hits lg b x 2) w
def bks (B : Nat → Bool) (N : Nat → Nat) : Nat → Nat → Bool
  | 0, _ => true
  | k + 1, w => B w && bks B N k (N w)
def nextW (lg w : Nat) : Nat := Nat.land (Nat.add w (rep lg (2 ^ lg * na % Q))) (rep lg M64)
def blocks (lg b k w : Nat) : Bool := bks (blockOk lg b) (nextW lg) k w
def start (lg i : Nat) : Nat := Nat.land (Nat.add (lan lg na) (rep lg (i * na % Q))) (rep lg M64)
def part (lg b its i : Nat) : Bool := blocks lg b its (start lg (i * (its * 2 ^ lg)))

theorem lt_of64 {a : Nat} (h : a < 2 ^ 64) : a < 2 ^ 128 := Nat.lt_trans h (by decide)
theorem modQ_lt (a : Nat) : a % Q < 2 ^ 64 := Nat.mod_lt _ (by decide)
theorem mul_lt128 {a m : Nat} (ha : a < 2 ^ 64) (hm : m < 2 ^ 64) : a * m < 2 ^ 128 := by
  have : a * m < 2 ^ 64 * 2 ^ 64 := Nat.mul_lt_mul'' ha hm
  exact this
theorem add_lt128 {a m : Nat} (ha : a < 2 ^ 64) (hm : m < 2 ^ 64) : a + m < 2 ^ 128 := by omega
theorem m1_lt : m1 < 2 ^ 64 := by decide
theorem m2_lt : m2 < 2 ^ 64 := by decide
theorem n1_lt : n1 < 2 ^ 64 := by decide

theorem states_vec (lg : Nat) (f : Nat → Nat) (hf : ∀ j, f j < 2 ^ 64) : states lg (vec (2 ^ lg) f) = vec (2 ^ lg) (fun j => ux 30 (ux 27 (f j) * n1 % Q)) := by
  unfold states
  show Nat.land _ _ = _
  rw [rep_vec]
  have h1 : Nat.land (Nat.xor (vec (2 ^ lg) f) (Nat.shiftRight (Nat.xor (vec (2 ^ lg) f) (Nat.shiftRight (vec (2 ^ lg) f) 27)) 27)) (vec (2 ^ lg) fun _ => M64) = vec (2 ^ lg) (fun j => ux 27 (f j)) := lane_ux _ 27 f (by decide) hf
  rw [h1]
  have h2 : Nat.land (Nat.mul (vec (2 ^ lg) (fun j => ux 27 (f j))) n1) (vec (2 ^ lg) fun _ => M64) = vec (2 ^ lg) (fun j => ux 27 (f j) * n1 % Q) := by
    show (vec (2 ^ lg) (fun j => ux 27 (f j)) * n1) &&& _ = _
    rw [vec_mul]
    exact lane_mod _ _ (fun j => mul_lt128 (ux_lt 27 _ (hf j)) n1_lt)
  rw [h2]
  exact lane_ux _ 30 _ (by decide) (fun j => modQ_lt _)

/-- what 'hits' tells of a lane -/
def hitAt (b x d : Nat) : Nat :=
  (((xs 27 (xs 30 ((x + d * cc % Q) % Q) * m1 % Q) * m2) &&& ((2 ^ b - 1) <<< (64 - b))) + 2 ^ (64 - b)) &&& 2 ^ 64
theorem top_lt (b : Nat) (hb : b ≤ 64) : (2 ^ b - 1) <<< (64 - b) < 2 ^ 64 := by
  rw [Nat.shiftLeft_eq]
  have h1 : 0 < 2 ^ b := Nat.two_pow_pos b
  have h2 : 0 < 2 ^ (64 - b) := Nat.two_pow_pos _
  have h3 : 2 ^ b * 2 ^ (64 - b) = 2 ^ 64 := by rw [← Nat.pow_add]; congr 1; omega
  rw [Nat.sub_mul, h3]
  omega
theorem pow_le64 (b : Nat) : 2 ^ (64 - b) ≤ 2 ^ 64 := Nat.pow_le_pow_right (by omega) (by omega)
theorem hits_vec (lg b : Nat) (hb : b ≤ 64) (f : Nat → Nat) (hf : ∀ j, f j < 2 ^ 64) (d : Nat) : hits lg b (vec (2 ^ lg) f) d = vec (2 ^ lg) (fun j => hitAt b (f j) d) := by
  unfold hits
  show Nat.land _ _ = _
  rw [rep_vec, rep_vec, rep_vec, rep_vec, rep_vec]
  have h0 : Nat.land (Nat.add (vec (2 ^ lg) f) (vec (2 ^ lg) fun _ => d * cc % Q)) (vec (2 ^ lg) fun _ => M64) = vec (2 ^ lg) (fun j => (f j + d * cc % Q) % Q) := by
    show (vec (2 ^ lg) f + _) &&& _ = _
    rw [vec_add]
    exact lane_mod _ _ (fun j => add_lt128 (hf j) (modQ_lt _))
  rw [h0]
  have h1 : Nat.land (Nat.xor (vec (2 ^ lg) (fun j => (f j + d * cc % Q) % Q)) (Nat.shiftRight (vec (2 ^ lg) (fun j => (f j + d * cc % Q) % Q)) 30)) (vec (2 ^ lg) fun _ => M64) = vec (2 ^ lg) (fun j => xs 30 ((f j + d * cc % Q) % Q)) := lane_xs _ 30 _ (by decide) (fun j => modQ_lt _)
  rw [h1]
  have h2 : Nat.land (Nat.mul (vec (2 ^ lg) (fun j => xs 30 ((f j + d * cc % Q) % Q))) m1) (vec (2 ^ lg) fun _ => M64) = vec (2 ^ lg) (fun j => xs 30 ((f j + d * cc % Q) % Q) * m1 % Q) := by
    show (vec (2 ^ lg) _ * m1) &&& _ = _
    rw [vec_mul]
    exact lane_mod _ _ (fun j => mul_lt128 (xs_lt 30 _ (modQ_lt _)) m1_lt)
  rw [h2]
  have h3 : Nat.land (Nat.xor (vec (2 ^ lg) (fun j => xs 30 ((f j + d * cc % Q) % Q) * m1 % Q)) (Nat.shiftRight (vec (2 ^ lg) (fun j => xs 30 ((f j + d * cc % Q) % Q) * m1 % Q)) 27)) (vec (2 ^ lg) fun _ => M64) = vec (2 ^ lg) (fun j => xs 27 (xs 30 ((f j + d * cc % Q) % Q) * m1 % Q)) := lane_xs _ 27 _ (by decide) (fun j => modQ_lt _)
  rw [h3]
  have hP : ∀ j, xs 27 (xs 30 ((f j + d * cc % Q) % Q) * m1 % Q) * m2 < 2 ^ 128 := fun j => mul_lt128 (xs_lt 27 _ (modQ_lt _)) m2_lt
  show (((vec (2 ^ lg) _ * m2) &&& _) + _) &&& _ = _
  rw [vec_mul, vec_and _ _ (fun _ => lt_of64 (top_lt b hb)), vec_add, vec_and _ _ (fun _ => by decide)]
  apply vec_congr
  intro j hj
  have hT : ∀ i, (((vec (2 ^ lg) (fun j => xs 27 (xs 30 ((f j + d * cc % Q) % Q) * m1 % Q) * m2) >>> (128 * i)) &&& ((2 ^ b - 1) <<< (64 - b))) + 2 ^ (64 - b)) < 2 ^ 128 := fun i => by
    have h4 : ((vec (2 ^ lg) (fun j => xs 27 (xs 30 ((f j + d * cc % Q) % Q) * m1 % Q) * m2) >>> (128 * i)) &&& ((2 ^ b - 1) <<< (64 - b))) ≤ (2 ^ b - 1) <<< (64 - b) := Nat.and_le_right
    have h5 := top_lt b hb
    have h6 := pow_le64 b
    omega
  have hl := lane_of (2 ^ lg) _ hT j hj
  have e : ∀ a : Nat, a &&& 2 ^ 64 = (a % 2 ^ 128) &&& 2 ^ 64 := fun a => by
    apply Nat.eq_of_testBit_eq
    intro i
    simp only [Nat.testBit_and, Nat.testBit_mod_two_pow, Nat.testBit_two_pow]
    by_cases hi : 64 = i
    · subst hi; simp
    · simp [hi]
  rw [e, hl]
  have e2 : ∀ a : Nat, a &&& ((2 ^ b - 1) <<< (64 - b)) = (a % 2 ^ 128) &&& ((2 ^ b - 1) <<< (64 - b)) := fun a => by
    apply Nat.eq_of_testBit_eq
    intro i
    simp only [Nat.testBit_and, Nat.testBit_mod_two_pow]
    by_cases hi : i < 128
    · simp [hi]
    · rw [Nat.testBit_lt_two_pow (Nat.lt_of_lt_of_le (lt_of64 (top_lt b hb)) (Nat.pow_le_pow_right (by omega) (by omega)))]
      simp
  rw [e2, lane_of (2 ^ lg) _ hP j hj]
  rfl

theorem start_vec (lg i : Nat) (hlg : lg ≤ 60) : start lg i = vec (2 ^ lg) (fun j => (i + j) * na % Q) := by
  unfold start
  show (lan lg na + rep lg (i * na % Q)) &&& rep lg M64 = _
  rw [lan_vec, rep_vec, rep_vec, vec_add, vec_mask]
  apply vec_congr
  intro j hj
  -- the lanes are below 2^128 as far as they are counted
  have key : ∀ (n : Nat) (f : Nat → Nat), (∀ j, j < n → f j < 2 ^ 128) → ∀ j, j < n → (vec n f >>> (128 * j)) % 2 ^ 128 = f j := by
    intro n f hf j hj
    have e : vec n f = vec n (fun j => if j < n then f j else 0) := vec_congr _ _ _ (fun j hj => by simp [hj])
    rw [e, lane_of n _ (fun j => by by_cases h : j < n <;> simp [h]; exact hf j h) j hj]
    simp [hj]
  · have hn : 2 ^ lg ≤ 2 ^ 60 := Nat.pow_le_pow_right (by omega) hlg
    have hf : ∀ j, j < 2 ^ lg → j * na + i * na % Q < 2 ^ 128 := fun j hj => by
      have h1 : j * na < 2 ^ 60 * 2 ^ 64 := Nat.mul_lt_mul'' (by omega) (by decide)
      have h2 : i * na % Q < 2 ^ 64 := modQ_lt _
      omega
    rw [show (vec (2 ^ lg) (fun j => j * na + i * na % Q) >>> (128 * j)) % 2 ^ 64 = ((vec (2 ^ lg) (fun j => j * na + i * na % Q) >>> (128 * j)) % 2 ^ 128) % 2 ^ 64 from (Nat.mod_mod_of_dvd _ (by decide)).symm, key _ _ hf j hj]
    show (j * na + i * na % Q) % Q = (i + j) * na % Q
    rw [Nat.add_mod_mod, ← Nat.add_mul, Nat.add_comm]

/-- the state whose word was t from the top -/
def stAt (t : Nat) : Nat := ux 30 (ux 27 (t * na % Q) * n1 % Q)
def Ok (b t : Nat) : Prop := hitAt b (stAt t) 1 &&& hitAt b (stAt t) 2 = 0
theorem blockOk_tells (lg b i : Nat) (hb : b ≤ 64) (h : blockOk lg b (vec (2 ^ lg) (fun j => (i + j) * na % Q)) = true) : ∀ j, j < 2 ^ lg → Ok b (i + j) := by
  unfold blockOk bk at h
  rw [states_vec _ _ (fun j => modQ_lt _)] at h
  have hst : ∀ j, ux 30 (ux 27 ((i + j) * na % Q) * n1 % Q) < 2 ^ 64 := fun j => ux_lt 30 _ (modQ_lt _)
  have h : (Nat.beq (hits lg b (vec (2 ^ lg) (fun j => ux 30 (ux 27 ((i + j) * na % Q) * n1 % Q))) 1) 0 || Nat.beq (Nat.land (hits lg b (vec (2 ^ lg) (fun j => ux 30 (ux 27 ((i + j) * na % Q) * n1 % Q))) 1) (hits lg b (vec (2 ^ lg) (fun j => ux 30 (ux 27 ((i + j) * na % Q) * n1 % Q))) 2)) 0) = true := h
  rw [hits_vec lg b hb _ hst 1, hits_vec lg b hb _ hst 2] at h
  intro j hj
  rcases (Bool.or_eq_true _ _).mp h with h | h
  · have h1 := Nat.eq_of_beq_eq_true h
    have h2 := vec_zero _ _ h1 j hj
    unfold Ok stAt
    rw [h2, Nat.zero_and]
  · have h1 : (vec (2 ^ lg) _ &&& vec (2 ^ lg) _) = 0 := Nat.eq_of_beq_eq_true h
    have hlt : ∀ x d, hitAt b x d < 2 ^ 128 := fun x d => Nat.lt_of_le_of_lt (Nat.and_le_right) (by decide)
    rw [vec_and _ _ (fun j => hlt _ _)] at h1
    have h2 := vec_zero _ _ h1 j hj
    -- the first lanes, modulo 2^128
    have e : ∀ a c : Nat, c < 2 ^ 128 → a &&& c = (a % 2 ^ 128) &&& c := fun a c hc => by
      apply Nat.eq_of_testBit_eq
      intro i
      simp only [Nat.testBit_and, Nat.testBit_mod_two_pow]
      by_cases hi : i < 128
      · simp [hi]
      · rw [Nat.testBit_lt_two_pow (Nat.lt_of_lt_of_le hc (Nat.pow_le_pow_right (by omega) (by omega)))]
        simp
    rw [e _ _ (hlt _ _), lane_of (2 ^ lg) _ (fun j => hlt _ _) j hj] at h2
    exact h2
theorem next_vec (lg i : Nat) : Nat.land (Nat.add (vec (2 ^ lg) (fun j => (i + j) * na % Q)) (rep lg (2 ^ lg * na % Q))) (rep lg M64) = vec (2 ^ lg) (fun j => (i + 2 ^ lg + j) * na % Q) := by
  show (vec (2 ^ lg) _ + rep lg _) &&& rep lg M64 = _
  rw [rep_vec, rep_vec, vec_add, lane_mod _ _ (fun j => add_lt128 (modQ_lt _) (modQ_lt _))]
  apply vec_congr
  intro j _
  show ((i + j) * na % Q + 2 ^ lg * na % Q) % Q = (i + 2 ^ lg + j) * na % Q
  rw [← Nat.add_mod, ← Nat.add_mul]
  congr 2
  omega
theorem blocks_tell (lg b : Nat) (hb : b ≤ 64) : ∀ (k i : Nat), blocks lg b k (vec (2 ^ lg) (fun j => (i + j) * na % Q)) = true → ∀ t, i ≤ t → t < i + k * 2 ^ lg → Ok b t
  | 0, i, _, t, h1, h2 => by omega
  | k + 1, i, h, t, h1, h2 => by
    unfold blocks bks at h
    rw [Bool.and_eq_true, nextW, next_vec] at h
    by_cases hlt : t < i + 2 ^ lg
    · have := blockOk_tells lg b i hb h.1 (t - i) (by omega)
      rwa [show i + (t - i) = t by omega] at this
    · exact blocks_tell lg b hb k (i + 2 ^ lg) h.2 t (by omega) (by rw [Nat.add_mul] at h2; omega)
theorem parts_tell (lg b its n : Nat) (hb : b ≤ 64) (hlg : lg ≤ 60) (hi : 0 < its) (h : ∀ i, i < n → part lg b its i = true) : ∀ t, t < n * (its * 2 ^ lg) → Ok b t := by
  intro t ht
  have hp : 0 < its * 2 ^ lg := Nat.mul_pos hi (Nat.two_pow_pos _)
  have hq := Nat.div_add_mod t (its * 2 ^ lg)
  have hr := Nat.mod_lt t hp
  have hin : t / (its * 2 ^ lg) < n := Nat.div_lt_of_lt_mul (by rw [Nat.mul_comm]; exact ht)
  have hb2 := h _ hin
  unfold part at hb2
  rw [start_vec _ _ hlg] at hb2
  refine blocks_tell lg b hb its _ hb2 t ?_ ?_
  · rw [Nat.mul_comm]; omega
  · rw [Nat.mul_comm (t / (its * 2 ^ lg))]; omega
theorem stAt_fwd (x : Nat) (hx : x < Q) : stAt (Q - fwd x) = x := by
  have hf : fwd x < Q := Nat.mod_lt _ (by decide)
  have e : (Q - fwd x) * na % Q = fwd x * n2 % Q := by
    unfold na
    rw [Nat.mul_mod_mod, ← Nat.mul_assoc, Nat.mul_mod, show (Q - fwd x) * (Q - 1) % Q = fwd x % Q from ?_, ← Nat.mul_mod]
    have : (Q - fwd x) * (Q - 1) = Q * (Q - 1 - fwd x) + fwd x := by
      rw [Nat.mul_sub, Nat.mul_one, Nat.sub_mul, Nat.mul_sub, Nat.mul_sub, Nat.mul_one]
      have h1 : fwd x * Q ≤ Q * Q := Nat.mul_le_mul_right _ (by omega)
      have h2 : Q * fwd x = fwd x * Q := Nat.mul_comm _ _
      have h3 : Q ≤ Q * Q := by decide
      have h4 : fwd x * Q + Q ≤ Q * Q := by
        have : (fwd x + 1) * Q ≤ Q * Q := Nat.mul_le_mul_right _ (by omega)
        rw [Nat.add_mul, Nat.one_mul] at this; exact this
      omega
    rw [this, Nat.mul_add_mod]
  unfold stAt
  rw [e]
  exact back_fwd x hx
theorem hitAt_high (b x d : Nat) (hb : b ≤ 64) (h : Q - 2 ^ (64 - b) ≤ fwd ((x + d * cc % Q) % Q)) : hitAt b x d = 2 ^ 64 := by
  have hy : fwd ((x + d * cc % Q) % Q) < Q := Nat.mod_lt _ (by decide)
  have hT : (2 ^ b - 1) <<< (64 - b) + 2 ^ (64 - b) = 2 ^ 64 := by
    rw [Nat.shiftLeft_eq, Nat.sub_mul, ← Nat.pow_add, show b + (64 - b) = 64 by omega, Nat.one_mul]
    have := pow_le64 b
    omega
  have hand : xs 27 (xs 30 ((x + d * cc % Q) % Q) * m1 % Q) * m2 &&& (2 ^ b - 1) <<< (64 - b) = (2 ^ b - 1) <<< (64 - b) := by
    have e3 : xs 27 (xs 30 ((x + d * cc % Q) % Q) * m1 % Q) * m2 &&& (2 ^ b - 1) <<< (64 - b) = fwd ((x + d * cc % Q) % Q) &&& (2 ^ b - 1) <<< (64 - b) := by
      unfold fwd
      apply Nat.eq_of_testBit_eq
      intro i
      rw [Nat.testBit_and, Nat.testBit_and, show Q = 2 ^ 64 from rfl, Nat.testBit_mod_two_pow]
      by_cases hi : i < 64
      · simp [hi]
      · rw [Nat.testBit_lt_two_pow (Nat.lt_of_lt_of_le (top_lt b hb) (Nat.pow_le_pow_right (by omega) (by omega)))]
        simp
    rw [e3]
    generalize fwd ((x + d * cc % Q) % Q) = y at h hy
    -- y = (2^b - 1) * 2^(64-b) + rest
    obtain ⟨z, hz⟩ : ∃ z, y = 2 ^ (64 - b) * (2 ^ b - 1) + z ∧ z < 2 ^ (64 - b) := by
      refine ⟨y - 2 ^ (64 - b) * (2 ^ b - 1), ?_, ?_⟩
      · have : 2 ^ (64 - b) * (2 ^ b - 1) + 2 ^ (64 - b) = Q := by rw [Nat.mul_comm, ← Nat.shiftLeft_eq, hT]; rfl
        omega
      · have : 2 ^ (64 - b) * (2 ^ b - 1) + 2 ^ (64 - b) = Q := by rw [Nat.mul_comm, ← Nat.shiftLeft_eq, hT]; rfl
        have := Nat.two_pow_pos (64 - b)
        omega
    rw [hz.1, Nat.shiftLeft_eq, Nat.mul_comm (2 ^ b - 1)]
    apply Nat.eq_of_testBit_eq
    intro i
    rw [Nat.testBit_and, Nat.testBit_two_pow_mul_add _ hz.2, Nat.testBit_two_pow_mul]
    by_cases hi : i < 64 - b
    · simp [hi] <;> (try intro h) <;> omega
    · simp [hi] <;> (try intro h) <;> omega
  unfold hitAt
  rw [hand, hT]
  simp
/-- THREE WORDS, ONE BEHIND THE OTHER, ARE NEVER ALL AMONG THE r GREATEST. -/
theorem three (lg b its n r : Nat) (hb : b ≤ 64) (hlg : lg ≤ 60) (hi : 0 < its) (hr : r * 2 ^ 32 ≤ 2 ^ (64 - b)) (hn : r * 2 ^ 32 < n * (its * 2 ^ lg)) (h : ∀ i, i < n → part lg b its i = true)
    (x : Nat) (hx : x < Q) (h0 : Q - r * 2 ^ 32 ≤ fwd x) (h1 : Q - r * 2 ^ 32 ≤ fwd ((x + cc) % Q)) (h2 : Q - r * 2 ^ 32 ≤ fwd ((x + 2 * cc) % Q)) : False := by
  have hok := parts_tell lg b its n hb hlg hi h (Q - fwd x) (by omega)
  unfold Ok at hok
  rw [stAt_fwd x hx, hitAt_high b x 1 hb (by rw [Nat.one_mul, Nat.add_mod_mod]; omega), hitAt_high b x 2 hb (by rw [Nat.add_mod_mod]; omega)] at hok
  exact absurd hok (by decide)
end Rej
namespace Rej
/-- 1 in each lane -/
noncomputable def R1 (lg : Nat) : Nat := Nat.div (Nat.sub (Nat.pow 2 (Nat.mul 128 (Nat.pow 2 lg))) 1) 340282366920938463463374607431768211455
noncomputable def rp (lg a : Nat) : Nat := Nat.mul (R1 lg) a
/-- j in lane j -/
noncomputable def L1 (lg : Nat) : Nat := Nat.div (Nat.sub (Nat.add (Nat.mul (Nat.sub (Nat.pow 2 lg) 1) (Nat.pow 2 (Nat.mul 128 (Nat.pow 2 lg)))) 1) (R1 lg)) 340282366920938463463374607431768211455
noncomputable def MK (lg : Nat) : Nat := rp lg 18446744073709551615
noncomputable def hitsF (lg b : Nat) (x c : Nat) : Nat :=
  (fun x2 => (fun u2 => (fun v2 => (fun w2 =>
    Nat.land (Nat.add (Nat.land (Nat.mul w2 10723151780598845931) (rp lg (Nat.shiftLeft (Nat.sub (Nat.pow 2 b) 1) (Nat.sub 64 b)))) (rp lg (Nat.pow 2 (Nat.sub 64 b)))) (rp lg 18446744073709551616))
    (Nat.land (Nat.xor v2 (Nat.shiftRight v2 27)) (MK lg)))
    (Nat.land (Nat.mul u2 13787848793156543929) (MK lg)))
    (Nat.land (Nat.xor x2 (Nat.shiftRight x2 30)) (MK lg)))
    (Nat.land (Nat.add x (rp lg c)) (MK lg))
noncomputable def statesF (lg w : Nat) : Nat :=
  (fun v => (fun u => Nat.land (Nat.xor u (Nat.shiftRight (Nat.xor u (Nat.shiftRight u 30)) 30)) (MK lg))
    (Nat.land (Nat.mul v 10871156337175269513) (MK lg)))
    (Nat.land (Nat.xor w (Nat.shiftRight (Nat.xor w (Nat.shiftRight w 27)) 27)) (MK lg))
noncomputable def bkF (S H1 H2 : Nat → Nat) (w : Nat) : Bool :=
  (fun x => (fun t => Bool.rec (motive := fun _ => Bool) (Nat.beq (Nat.land t (H2 x)) 0) true (Nat.beq t 0)) (H1 x)) (S w)
noncomputable def blockOkF (lg b w : Nat) : Bool := bkF (statesF lg) (fun x => hitsF lg b x 11400714819323198485) (fun x => hitsF lg b x 4354685564936845354) w
noncomputable def bksF (B : Nat → Bool) (N : Nat → Nat) (k w : Nat) : Bool :=
  Nat.rec (motive := fun _ => Nat → Bool) (fun _ => true) (fun _ f w => Bool.rec (motive := fun _ => Bool) false (f (N w)) (B w)) k w
noncomputable def nextF (lg w : Nat) : Nat := Nat.land (Nat.add w (rp lg (Nat.mod (Nat.mul (Nat.pow 2 lg) 14873627383544574269) 18446744073709551616))) (MK lg)
noncomputable def blocksF (lg b k w : Nat) : Bool := bksF (blockOkF lg b) (nextF lg) k w
noncomputable def partF (lg b its i : Nat) : Bool := blocksF lg b its (Nat.land (Nat.add (Nat.mul (L1 lg) 14873627383544574269) (rp lg (Nat.mod (Nat.mul (Nat.mul i (Nat.mul its (Nat.pow 2 lg))) 14873627383544574269) 18446744073709551616))) (MK lg))
end Rej
namespace Rej
theorem vec_one_mul : ∀ (n : Nat), vec n (fun _ => 1) * (2 ^ 128 - 1) + 1 = 2 ^ (128 * n)
  | 0 => by simp [vec]
  | n + 1 => by
    have h := vec_one_mul n
    show (1 + 2 ^ 128 * vec n (fun _ => 1)) * (2 ^ 128 - 1) + 1 = _
    rw [show 128 * (n + 1) = 128 * n + 128 by omega, Nat.pow_add, ← h]
    generalize vec n (fun _ => 1) = v
    obtain ⟨k, hk⟩ : ∃ k, 2 ^ 128 = k + 1 := ⟨2 ^ 128 - 1, rfl⟩
    rw [hk, Nat.add_sub_cancel]
    clear h hk
    rw [Nat.add_mul, Nat.one_mul, Nat.add_mul (v * k), Nat.one_mul, Nat.mul_comm (k + 1) v, Nat.mul_right_comm v (k + 1) k]
    omega
theorem R1_vec (lg : Nat) : R1 lg = vec (2 ^ lg) (fun _ => 1) := by
  have h := vec_one_mul (2 ^ lg)
  show (2 ^ (128 * 2 ^ lg) - 1) / 340282366920938463463374607431768211455 = _
  rw [← h, Nat.add_sub_cancel]
  exact Nat.mul_div_cancel _ (by decide)
theorem rp_rep (lg a : Nat) : rp lg a = rep lg a := by
  show R1 lg * a = _
  rw [R1_vec, rep_vec, vec_mul]
  exact vec_congr _ _ _ (fun j _ => Nat.one_mul a)
theorem vec_id_mul : ∀ (n : Nat), vec (n + 1) (fun j => j) * (2 ^ 128 - 1) + vec (n + 1) (fun _ => 1) = n * 2 ^ (128 * (n + 1)) + 1
  | 0 => by simp [vec]
  | n + 1 => by
    have h := vec_id_mul n
    rw [vec_app (n + 1) 1 (fun j => j), vec_app (n + 1) 1 (fun _ => 1)]
    have e1 : vec 1 (fun j => n + 1 + j) = n + 1 := by simp [vec]
    have e2 : vec 1 (fun _ => 1) = 1 := by simp [vec]
    rw [e1, e2, show 128 * (n + 1 + 1) = 128 * (n + 1) + 128 by omega, Nat.pow_add 2 (128 * (n + 1)) 128]
    generalize 2 ^ (128 * (n + 1)) = X at h ⊢
    generalize vec (n + 1) (fun j => j) = L at h ⊢
    generalize vec (n + 1) (fun _ => 1) = R at h ⊢
    have e3 : n * X + 1 = L * (2 ^ 128 - 1) + R := h.symm
    have e4 : (L + X * (n + 1)) * (2 ^ 128 - 1) = L * (2 ^ 128 - 1) + X * (n + 1) * (2 ^ 128 - 1) := Nat.add_mul _ _ _
    have e5 : (n + 1) * (X * 2 ^ 128) = X * (n + 1) * 2 ^ 128 := by
      rw [← Nat.mul_assoc, Nat.mul_comm (n + 1) X]
    have e6 : X * (n + 1) = n * X + X := by rw [Nat.mul_add, Nat.mul_one, Nat.mul_comm]
    rw [e4, e5, e6]
    obtain ⟨k, hk⟩ : ∃ k, 2 ^ 128 = k + 1 := ⟨2 ^ 128 - 1, rfl⟩
    rw [hk, Nat.add_sub_cancel] at e3
    rw [hk, Nat.add_sub_cancel, Nat.mul_add (n * X + X) k 1, Nat.mul_one]
    clear h e4 e5 e6 hk e1 e2
    generalize L * k = p at e3 ⊢
    generalize (n * X + X) * k = q at e3 ⊢
    omega
theorem L1_vec (lg : Nat) : L1 lg = vec (2 ^ lg) (fun j => j) := by
  obtain ⟨n, hn⟩ : ∃ n, 2 ^ lg = n + 1 := ⟨2 ^ lg - 1, by have := Nat.two_pow_pos lg; omega⟩
  show ((2 ^ lg - 1) * 2 ^ (128 * 2 ^ lg) + 1 - R1 lg) / 340282366920938463463374607431768211455 = _
  rw [R1_vec, hn, Nat.add_sub_cancel, ← vec_id_mul n, Nat.add_sub_cancel]
  exact Nat.mul_div_cancel _ (by decide)
theorem MK_rep (lg : Nat) : MK lg = rep lg M64 := rp_rep lg _
theorem na_is : na = 14873627383544574269 := by decide
theorem shl_is (b : Nat) : Nat.shiftLeft (Nat.sub (Nat.pow 2 b) 1) (Nat.sub 64 b) = (2 ^ b - 1) <<< (64 - b) := rfl
theorem pw_is (b : Nat) : Nat.pow 2 (Nat.sub 64 b) = 2 ^ (64 - b) := rfl
theorem e64 : (2 ^ 64 : Nat) = 18446744073709551616 := by decide
theorem hitsF_is (lg b x d c : Nat) (hc : d * cc % Q = c) : hitsF lg b x c = hits lg b x d := by
  unfold hitsF hits
  rw [MK_rep, rp_rep, rp_rep, rp_rep, rp_rep, hc, shl_is, pw_is, e64, show m2 = 10723151780598845931 from rfl, show m1 = 13787848793156543929 from rfl]
theorem statesF_is (lg w : Nat) : statesF lg w = states lg w := by
  unfold statesF states
  rw [MK_rep, show n1 = 10871156337175269513 from rfl]
theorem bkF_is (S H1 H2 S' H1' H2' : Nat → Nat) (w : Nat) (hS : S w = S' w) (h1 : ∀ x, H1 x = H1' x) (h2 : ∀ x, H2 x = H2' x) : bkF S H1 H2 w = bk S' H1' H2' w := by
  have e : bkF S H1 H2 w = Bool.rec (motive := fun _ => Bool) (Nat.beq (Nat.land (H1 (S w)) (H2 (S w))) 0) true (Nat.beq (H1 (S w)) 0) := rfl
  rw [e, hS, h1, h2]
  unfold bk
  cases Nat.beq (H1' (S' w)) 0 <;> rfl
theorem blockOkF_is (lg b w : Nat) : blockOkF lg b w = blockOk lg b w := by
  unfold blockOkF blockOk
  exact bkF_is _ _ _ _ _ _ _ (statesF_is lg w) (fun x => hitsF_is lg b x 1 _ (by decide)) (fun x => hitsF_is lg b x 2 _ (by decide))
theorem bksF_is (B B' : Nat → Bool) (N N' : Nat → Nat) (hB : ∀ w, B w = B' w) (hN : ∀ w, N w = N' w) : ∀ k w, bksF B N k w = bks B' N' k w
  | 0, _ => rfl
  | k + 1, w => by
    have e : bksF B N (k + 1) w = Bool.rec (motive := fun _ => Bool) false (bksF B N k (N w)) (B w) := rfl
    rw [e, hB, hN, bksF_is B B' N N' hB hN k, bks]
    cases B' w <;> rfl
theorem nextF_is (lg w : Nat) : nextF lg w = nextW lg w := by
  unfold nextF nextW
  rw [MK_rep, rp_rep, na_is, Q_is]
  rfl
theorem blocksF_is (lg b k w : Nat) : blocksF lg b k w = blocks lg b k w := by
  unfold blocksF blocks
  exact bksF_is _ _ _ _ (blockOkF_is lg b) (nextF_is lg) k w
theorem partF_is (lg b its i : Nat) : partF lg b its i = part lg b its i := by
  unfold partF part start
  rw [blocksF_is, MK_rep, rp_rep, L1_vec]
  have e : lan lg na = Nat.mul (vec (2 ^ lg) fun j => j) 14873627383544574269 := by
    rw [lan_vec, na_is]
    show _ = vec _ _ * _
    rw [vec_mul]
  rw [e, na_is, Q_is]
  rfl
end Rej
namespace Rej
/-- parts lo, lo + 1, .. , lo + n - 1 are all fine -/
def Run (lg b its lo n : Nat) : Prop := ∀ k, k < n → partF lg b its (lo + k) = true
theorem run_zero {lg b its lo : Nat} : Run lg b its lo 0 := fun k hk => absurd hk (Nat.not_lt_zero k)
theorem run_step {lg b its lo n : Nat} (h : Run lg b its lo n) (h2 : partF lg b its (Nat.add lo n) = true) : Run lg b its lo (Nat.succ n) := by
  intro k hk
  rcases Nat.lt_or_ge k n with h3 | h3
  · exact h k h3
  · have : k = n := Nat.le_antisymm (Nat.le_of_lt_succ hk) h3
    rw [this]; exact h2
theorem run_app {lg b its lo n m : Nat} (h : Run lg b its lo n) (h2 : Run lg b its (lo + n) m) : Run lg b its lo (n + m) := by
  intro k hk
  rcases Nat.lt_or_ge k n with h3 | h3
  · exact h k h3
  · have := h2 (k - n) (by omega)
    rwa [show lo + n + (k - n) = lo + k by omega] at this
/-- THREE WORDS, ONE BEHIND THE OTHER, ARE NEVER ALL AMONG THE r GREATEST. -/
theorem three_run (lg b its n r : Nat) (hb : b ≤ 64) (hlg : lg ≤ 60) (hi : 0 < its) (hr : r * 2 ^ 32 ≤ 2 ^ (64 - b)) (hn : r * 2 ^ 32 < n * (its * 2 ^ lg)) (h : Run lg b its 0 n)
    (x : Nat) (hx : x < Q) (h0 : Q - r * 2 ^ 32 ≤ fwd x) (h1 : Q - r * 2 ^ 32 ≤ fwd ((x + cc) % Q)) (h2 : Q - r * 2 ^ 32 ≤ fwd ((x + 2 * cc) % Q)) : False :=
  three lg b its n r hb hlg hi hr hn (fun i hin => by rw [← partF_is]; have := h i hin; rwa [Nat.zero_add] at this) x hx h0 h1 h2
end Rej
/- Lines: only those states are looked at whose mixed word has five zero bits; along a step they lie in one short run of each line. -/
namespace Rej
/-! ### lanes, once more -/
theorem and_mod128 (a c : Nat) (hc : c < 2 ^ 128) : a &&& c = (a % 2 ^ 128) &&& c := by
  apply Nat.eq_of_testBit_eq
  intro i
  simp only [Nat.testBit_and, Nat.testBit_mod_two_pow]
  by_cases hi : i < 128
  · simp [hi]
  · rw [Nat.testBit_lt_two_pow (Nat.lt_of_lt_of_le hc (Nat.pow_le_pow_right (by omega) (by omega)))]
    simp
theorem lane_and (n : Nat) (f g : Nat → Nat) (hf : ∀ j, f j < 2 ^ 128) (hg : ∀ j, g j < 2 ^ 128) : vec n f &&& vec n g = vec n (fun j => f j &&& g j) := by
  rw [vec_and n g hg]
  exact vec_congr _ _ _ (fun j hj => by rw [and_mod128 _ _ (hg j), lane_of n f hf j hj])
theorem vec_sub (n : Nat) (f g : Nat → Nat) (h : ∀ j, g j ≤ f j) : vec n f - vec n g = vec n (fun j => f j - g j) := by
  have e : vec n f = vec n (fun j => f j - g j) + vec n g := by
    rw [vec_add]; exact vec_congr _ _ _ (fun j _ => by have := h j; omega)
  rw [e, Nat.add_sub_cancel]
theorem lane_low (n k : Nat) (f : Nat → Nat) (hk : k ≤ 128) (hf : ∀ j, f j < 2 ^ 128) : vec n f &&& vec n (fun _ => 2 ^ k - 1) = vec n (fun j => f j % 2 ^ k) := by
  have h0 : 0 < 2 ^ k := Nat.two_pow_pos k
  have h1 : 2 ^ k ≤ 2 ^ 128 := Nat.pow_le_pow_right (by omega) hk
  rw [lane_and n f _ hf (fun _ => by omega)]
  exact vec_congr _ _ _ (fun j _ => Nat.and_two_pow_sub_one_eq_mod _ _)
theorem lane_high (n : Nat) (f : Nat → Nat) (hf : ∀ j, f j < 2 ^ 128) : (vec n f >>> 112) &&& vec n (fun _ => 2 ^ 16 - 1) = vec n (fun j => f j / 2 ^ 112) := by
  rw [vec_and n _ (fun _ => by decide)]
  apply vec_congr
  intro j hj
  rw [Nat.and_two_pow_sub_one_eq_mod, shr_shr]
  have h := lane_of n f hf j hj
  have e : ∀ a : Nat, (a >>> 112) % 2 ^ 16 = ((a % 2 ^ 128) >>> 112) % 2 ^ 16 := fun a => by
    rw [Nat.shiftRight_eq_div_pow, Nat.shiftRight_eq_div_pow]; omega
  rw [e, h, Nat.shiftRight_eq_div_pow, Nat.mod_eq_of_lt]
  have := hf j
  omega
theorem lane_a (n : Nat) (f : Nat → Nat) (hf : ∀ j, f j < 2 ^ 64) : (vec n f ^^^ (vec n f >>> 27)) &&& vec n (fun _ => 2 ^ 5 - 1) = vec n (fun j => xs 27 (f j) % 32) := by
  rw [vec_and n _ (fun _ => by decide)]
  apply vec_congr
  intro j hj
  change xs 27 (vec n f) >>> (128 * j) &&& _ = _
  rw [Nat.and_two_pow_sub_one_eq_mod, xs_shr]
  have h := lane_of n f (fun j => Nat.lt_trans (hf j) (by decide)) j hj
  rw [show (2 : Nat) ^ 5 = 32 by decide, ← Nat.mod_mod_of_dvd (xs 27 (vec n f >>> (128 * j))) (show 32 ∣ 2 ^ 64 by decide), xs_mod _ _ (by decide), h, Nat.mod_mod_of_dvd _ (by decide)]

/-! ### what the kernel runs -/
noncomputable def aF (lg v : Nat) : Nat := Nat.land (Nat.xor v (Nat.shiftRight v 27)) (rp lg 31)
noncomputable def yF (lg a v : Nat) : Nat := Nat.land (Nat.sub (Nat.add (Nat.land v (rp lg 576460752303423487)) (rp lg 576460752303423488)) (Nat.mul a 18014398509481984)) (rp lg 576460752303423487)
noncomputable def jF (lg sg mu y : Nat) : Nat := Nat.land (Nat.shiftRight (Nat.mul (Nat.sub (rp lg (Nat.add sg 576460752303423487)) y) mu) 112) (rp lg 65535)
noncomputable def stepF (lg dl v : Nat) : Nat := Nat.land (Nat.add v (rp lg dl)) (MK lg)
noncomputable def passF (lg b dl sg mu L a v : Nat) : Bool := bksF (blockOkF lg b) (stepF lg dl) L (Nat.land (Nat.add v (Nat.mul (jF lg sg mu (yF lg a v)) dl)) (MK lg))
noncomputable def lineF (lg b dl sg mu L dJ v : Nat) : Bool :=
  (fun aS => (fun aE => Bool.rec (motive := fun _ => Bool) false (Bool.rec (motive := fun _ => Bool) (passF lg b dl sg mu L aE v) true (Nat.beq aS aE)) (passF lg b dl sg mu L aS v))
    (aF lg (stepF lg dJ v))) (aF lg v)

theorem rp_vec (lg a : Nat) : rp lg a = vec (2 ^ lg) (fun _ => a) := by rw [rp_rep, rep_vec]
theorem aF_vec (lg : Nat) (f : Nat → Nat) (hf : ∀ j, f j < 2 ^ 64) : aF lg (vec (2 ^ lg) f) = vec (2 ^ lg) (fun j => xs 27 (f j) % 32) := by
  unfold aF
  rw [rp_vec]
  exact lane_a _ f hf
/-- how far a number is behind the beginning of sector a, of 32 -/
def yAt (a v : Nat) : Nat := (v % 2 ^ 59 + 2 ^ 59 - a * 2 ^ 54) % 2 ^ 59
theorem yF_vec (lg : Nat) (a f : Nat → Nat) (ha : ∀ j, a j < 32) (hf : ∀ j, f j < 2 ^ 64) : yF lg (vec (2 ^ lg) a) (vec (2 ^ lg) f) = vec (2 ^ lg) (fun j => yAt (a j) (f j)) := by
  unfold yF
  rw [rp_vec, rp_vec]
  have h1 : Nat.land (vec (2 ^ lg) f) (vec (2 ^ lg) fun _ => 576460752303423487) = vec (2 ^ lg) (fun j => f j % 2 ^ 59) := lane_low _ 59 f (by decide) (fun j => lt_of64 (hf j))
  rw [h1]
  have h2 : Nat.sub (Nat.add (vec (2 ^ lg) (fun j => f j % 2 ^ 59)) (vec (2 ^ lg) fun _ => 576460752303423488)) (Nat.mul (vec (2 ^ lg) a) 18014398509481984) = vec (2 ^ lg) (fun j => f j % 2 ^ 59 + 2 ^ 59 - a j * 2 ^ 54) := by
    show (vec _ _ + vec _ _) - vec _ _ * _ = _
    rw [vec_add, vec_mul, vec_sub _ _ _ (fun j => by have := ha j; omega)]
  rw [h2]
  exact lane_low _ 59 _ (by decide) (fun j => by have := Nat.mod_lt (f j) (show 0 < 2 ^ 59 by decide); omega)
def jAt (sg y : Nat) : Nat := (sg + (2 ^ 59 - 1) - y) / sg
theorem div_by (sg mu x : Nat) (hs : 0 < sg) (hx : x < 2 ^ 60) (he : 2 ^ 112 ≤ mu * sg) (he2 : (2 ^ 60 / sg + 1) * (mu * sg - 2 ^ 112) < mu) : x * mu / 2 ^ 112 = x / sg := by
  have hq := Nat.div_add_mod x sg
  have hr := Nat.mod_lt x hs
  have hq2 : x / sg ≤ 2 ^ 60 / sg := Nat.div_le_div_right (by omega)
  generalize x / sg = q at *
  generalize x % sg = r at *
  obtain ⟨e, hee⟩ : ∃ e, mu * sg = 2 ^ 112 + e := ⟨mu * sg - 2 ^ 112, by omega⟩
  rw [hee, Nat.add_sub_cancel_left] at he2
  have h1 : x * mu = q * 2 ^ 112 + (q * e + r * mu) := by
    rw [← hq, Nat.add_mul, Nat.mul_right_comm, Nat.mul_comm sg mu, hee, Nat.add_mul, Nat.mul_comm e q, Nat.mul_comm (2 ^ 112) q, Nat.add_assoc]
  have h2 : q * e + r * mu < 2 ^ 112 := by
    have h3 : (r + 1) * mu ≤ sg * mu := Nat.mul_le_mul_right _ (by omega)
    have h4 : q * e ≤ (2 ^ 60 / sg) * e := Nat.mul_le_mul_right _ hq2
    rw [Nat.add_mul, Nat.one_mul, Nat.mul_comm sg mu, hee] at h3
    rw [Nat.add_mul, Nat.one_mul] at he2
    omega
  rw [h1]
  omega
theorem jF_vec (lg sg mu : Nat) (hs : 0 < sg) (hs2 : sg < 2 ^ 58) (hmu : mu < 2 ^ 64) (he : 2 ^ 112 ≤ mu * sg) (he2 : (2 ^ 60 / sg + 1) * (mu * sg - 2 ^ 112) < mu) (y : Nat → Nat) (hy : ∀ j, y j < 2 ^ 59) :
    jF lg sg mu (vec (2 ^ lg) y) = vec (2 ^ lg) (fun j => jAt sg (y j)) := by
  unfold jF
  rw [rp_vec, rp_vec]
  have h1 : Nat.mul (Nat.sub (vec (2 ^ lg) fun _ => Nat.add sg 576460752303423487) (vec (2 ^ lg) y)) mu = vec (2 ^ lg) (fun j => (sg + (2 ^ 59 - 1) - y j) * mu) := by
    show (vec _ _ - vec _ _) * _ = _
    rw [vec_sub _ _ _ (fun j => by have := hy j; show _ ≤ sg + 576460752303423487; omega), vec_mul]
  rw [h1]
  have h2 := lane_high (2 ^ lg) (fun j => (sg + (2 ^ 59 - 1) - y j) * mu) (fun j => by
    have : (sg + (2 ^ 59 - 1) - y j) * mu < 2 ^ 60 * 2 ^ 64 := Nat.mul_lt_mul'' (by omega) hmu
    omega)
  refine h2.trans (vec_congr _ _ _ (fun j _ => ?_))
  exact div_by sg mu _ hs (by omega) he he2
theorem stepF_vec (lg d : Nat) (T : Nat → Nat) : stepF lg (d * na % Q) (vec (2 ^ lg) (fun j => T j * na % Q)) = vec (2 ^ lg) (fun j => (T j + d) * na % Q) := by
  unfold stepF
  rw [MK_rep, rep_vec, rp_vec]
  show (vec _ _ + vec _ _) &&& _ = _
  rw [vec_add, lane_mod _ _ (fun j => add_lt128 (modQ_lt _) (modQ_lt _))]
  apply vec_congr
  intro j _
  show (T j * na % Q + d * na % Q) % Q = _
  rw [← Nat.add_mod, ← Nat.add_mul]

theorem blockOk_gen (lg b : Nat) (T : Nat → Nat) (hb : b ≤ 64) (h : blockOkF lg b (vec (2 ^ lg) (fun j => T j * na % Q)) = true) : ∀ j, j < 2 ^ lg → Ok b (T j) := by
  rw [blockOkF_is] at h
  unfold blockOk bk at h
  rw [states_vec _ _ (fun j => modQ_lt _)] at h
  have hst : ∀ j, ux 30 (ux 27 (T j * na % Q) * n1 % Q) < 2 ^ 64 := fun j => ux_lt 30 _ (modQ_lt _)
  have h : (Nat.beq (hits lg b (vec (2 ^ lg) (fun j => ux 30 (ux 27 (T j * na % Q) * n1 % Q))) 1) 0 || Nat.beq (Nat.land (hits lg b (vec (2 ^ lg) (fun j => ux 30 (ux 27 (T j * na % Q) * n1 % Q))) 1) (hits lg b (vec (2 ^ lg) (fun j => ux 30 (ux 27 (T j * na % Q) * n1 % Q))) 2)) 0) = true := h
  rw [hits_vec lg b hb _ hst 1, hits_vec lg b hb _ hst 2] at h
  intro j hj
  rcases (Bool.or_eq_true _ _).mp h with h | h
  · have h1 := Nat.eq_of_beq_eq_true h
    have h2 := vec_zero _ _ h1 j hj
    unfold Ok stAt
    rw [h2, Nat.zero_and]
  · have h1 : (vec (2 ^ lg) _ &&& vec (2 ^ lg) _) = 0 := Nat.eq_of_beq_eq_true h
    have hlt : ∀ x d, hitAt b x d < 2 ^ 128 := fun x d => Nat.lt_of_le_of_lt (Nat.and_le_right) (by decide)
    rw [vec_and _ _ (fun j => hlt _ _)] at h1
    have h2 := vec_zero _ _ h1 j hj
    rw [and_mod128 _ _ (hlt _ _), lane_of (2 ^ lg) _ (fun j => hlt _ _) j hj] at h2
    exact h2
theorem bksF_succ (B : Nat → Bool) (N : Nat → Nat) (k w : Nat) : bksF B N (k + 1) w = Bool.rec (motive := fun _ => Bool) false (bksF B N k (N w)) (B w) := rfl
theorem modl (a k d M : Nat) : (a + k * d) % M = (a % M + k * (d % M)) % M := by
  rw [Nat.add_mod (a % M), Nat.mod_mod, Nat.mul_mod_mod, ← Nat.add_mod]
theorem rec_tt {x y : Bool} (h : Bool.rec (motive := fun _ => Bool) false x y = true) : y = true ∧ x = true := by
  cases y with
  | false => exact Bool.noConfusion h
  | true => exact ⟨rfl, h⟩
theorem rec_or {x y z : Bool} (h : Bool.rec (motive := fun _ => Bool) false (Bool.rec (motive := fun _ => Bool) x true y) z = true) : z = true ∧ (y = true ∨ x = true) := by
  have h1 := rec_tt h
  cases y with
  | true => exact ⟨h1.1, Or.inl rfl⟩
  | false => exact ⟨h1.1, Or.inr h1.2⟩
theorem bks_line (lg b d : Nat) (hb : b ≤ 64) : ∀ (k : Nat) (T : Nat → Nat), bksF (blockOkF lg b) (stepF lg (d * na % Q)) k (vec (2 ^ lg) (fun j => T j * na % Q)) = true → ∀ j, j < 2 ^ lg → ∀ t, t < k → Ok b (T j + t * d)
  | 0, _, _, _, _, t, ht => absurd ht (Nat.not_lt_zero t)
  | k + 1, T, h, j, hj, t, ht => by
    rw [bksF_succ] at h
    have h1 := rec_tt h
    have h2 := h1.2
    rw [stepF_vec] at h2
    cases t with
    | zero => rw [Nat.zero_mul, Nat.add_zero]; exact blockOk_gen lg b T hb h1.1 j hj
    | succ t =>
      have := bks_line lg b d hb k (fun j => T j + d) h2 j hj t (by omega)
      rwa [show T j + d + t * d = T j + (t + 1) * d by rw [Nat.add_mul, Nat.one_mul, Nat.add_assoc, Nat.add_comm d]] at this

/-- the five zero bits, told of the number one step later -/
def Zeros (w : Nat) : Prop := w / 2 ^ 54 % 32 = xs 27 w % 32

theorem pass_tells (lg b d L sg mu : Nat) (hb : b ≤ 64) (hsg : sg = d * na % 2 ^ 59) (hs : 0 < sg) (hs2 : sg < 2 ^ 58) (hmu : mu < 2 ^ 64) (he : 2 ^ 112 ≤ mu * sg) (he2 : (2 ^ 60 / sg + 1) * (mu * sg - 2 ^ 112) < mu) (hL : 2 ^ 54 ≤ L * sg)
    (T a : Nat → Nat) (ha : ∀ j, a j < 32) (h : passF lg b (d * na % Q) sg mu L (vec (2 ^ lg) a) (vec (2 ^ lg) (fun j => T j * na % Q)) = true)
    (i : Nat) (hi : i < 2 ^ lg) (j J : Nat) (h0 : 2 ^ 54 ≤ j * sg) (hj : j ≤ J) (hJ : J * sg ≤ 2 ^ 59) (hz : (T i + j * d) * na % Q / 2 ^ 54 % 32 = a i) : Ok b (T i + j * d) := by
  unfold passF at h
  rw [yF_vec lg a _ ha (fun j => modQ_lt _), jF_vec lg sg mu hs hs2 hmu he he2 (fun j => yAt (a j) (T j * na % Q)) (fun j => Nat.mod_lt _ (by decide))] at h
  have e : Nat.land (Nat.add (vec (2 ^ lg) fun j => T j * na % Q) (Nat.mul (vec (2 ^ lg) fun j => jAt sg (yAt (a j) (T j * na % Q))) (d * na % Q))) (MK lg) = vec (2 ^ lg) (fun j => (T j + jAt sg (yAt (a j) (T j * na % Q)) * d) * na % Q) := by
    rw [MK_rep, rep_vec]
    show (vec _ _ + vec _ _ * _) &&& _ = _
    have hjj : ∀ y, jAt sg y < 2 ^ 60 := fun y => by
      unfold jAt
      exact Nat.lt_of_le_of_lt (Nat.div_le_self _ _) (by omega)
    rw [vec_mul, vec_add, lane_mod _ _ (fun j => ?_)]
    · apply vec_congr
      intro j _
      show (T j * na % Q + jAt sg (yAt (a j) (T j * na % Q)) * (d * na % Q)) % Q = _
      rw [Nat.add_mul, Nat.mul_assoc, modl (T j * na)]
    · have h1 : T j * na % Q < 2 ^ 64 := modQ_lt _
      have h2 : jAt sg (yAt (a j) (T j * na % Q)) * (d * na % Q) < 2 ^ 60 * 2 ^ 64 := Nat.mul_lt_mul'' (hjj _) (modQ_lt _)
      omega
  rw [e] at h
  -- where the run begins
  have hV : T i * na % Q < 2 ^ 64 := modQ_lt _
  have ey : yAt (a i) (T i * na % Q) < 2 ^ 59 := Nat.mod_lt _ (by decide)
  have hval : (T i + j * d) * na % Q % 2 ^ 59 = (T i * na % Q % 2 ^ 59 + j * sg) % 2 ^ 59 := by
    rw [Nat.mod_mod_of_dvd _ (show 2 ^ 59 ∣ Q by decide), Nat.mod_mod_of_dvd _ (show 2 ^ 59 ∣ Q by decide), Nat.add_mul, Nat.mul_assoc, hsg, modl]
  have hz2 : (T i + j * d) * na % Q % 2 ^ 59 / 2 ^ 54 = a i := by
    rw [← hz]; omega
  rw [hval] at hz2
  have hjs : j * sg ≤ J * sg := Nat.mul_le_mul_right _ hj
  have hai := ha i
  have hrun : 2 ^ 59 ≤ yAt (a i) (T i * na % Q) + j * sg ∧ yAt (a i) (T i * na % Q) + j * sg < 2 ^ 59 + 2 ^ 54 := by
    unfold yAt at ey ⊢
    generalize T i * na % Q % 2 ^ 59 = V at *
    generalize j * sg = p at *
    omega
  have hjj : jAt sg (yAt (a i) (T i * na % Q)) ≤ j ∧ j < jAt sg (yAt (a i) (T i * na % Q)) + L := by
    generalize yAt (a i) (T i * na % Q) = y at *
    have hd := Nat.div_add_mod (sg + (2 ^ 59 - 1) - y) sg
    have hm := Nat.mod_lt (sg + (2 ^ 59 - 1) - y) hs
    change jAt sg y ≤ j ∧ j < jAt sg y + L
    have hdef : jAt sg y = (sg + (2 ^ 59 - 1) - y) / sg := rfl
    rw [← hdef] at hd
    generalize jAt sg y = q at *
    generalize (sg + (2 ^ 59 - 1) - y) % sg = m at *
    rw [Nat.mul_comm] at hd
    constructor
    · -- q * sg ≤ j * sg + (sg - 1)
      rcases Nat.lt_or_ge j q with hlt | hge
      · exfalso
        have h1 : (j + 1) * sg ≤ q * sg := Nat.mul_le_mul_right _ hlt
        rw [Nat.add_mul, Nat.one_mul] at h1
        omega
      · exact hge
    · rcases Nat.lt_or_ge j (q + L) with hlt | hge
      · exact hlt
      · exfalso
        have h1 : (q + L) * sg ≤ j * sg := Nat.mul_le_mul_right _ hge
        rw [Nat.add_mul] at h1
        omega
  have hk := bks_line lg b d hb L (fun j => T j + jAt sg (yAt (a j) (T j * na % Q)) * d) h i hi (j - jAt sg (yAt (a i) (T i * na % Q))) (by omega)
  have e2 : T i + jAt sg (yAt (a i) (T i * na % Q)) * d + (j - jAt sg (yAt (a i) (T i * na % Q))) * d = T i + j * d := by
    rw [Nat.add_assoc, ← Nat.add_mul]
    congr 2
    omega
  rwa [← e2]

theorem xs27_low (w : Nat) : xs 27 w % 32 = (w % 32) ^^^ (w / 2 ^ 27 % 32) := by
  unfold xs
  rw [show (32 : Nat) = 2 ^ 5 by decide, Nat.xor_mod_two_pow, Nat.shiftRight_eq_div_pow]

theorem line_tells (lg b d L sg mu J B : Nat) (hb : b ≤ 64) (hsg : sg = d * na % 2 ^ 59) (hs : 0 < sg) (hs2 : sg < 2 ^ 58) (hmu : mu < 2 ^ 64) (he : 2 ^ 112 ≤ mu * sg) (he2 : (2 ^ 60 / sg + 1) * (mu * sg - 2 ^ 112) < mu) (hL : 2 ^ 54 ≤ L * sg)
    (hJ : J * sg ≤ 2 ^ 59) (hB : B = d * na % 2 ^ 32) (hB5 : B % 32 = 0) (hBJ : J * B < 2 ^ 27)
    (T : Nat → Nat) (h : lineF lg b (d * na % Q) sg mu L (J * d * na % Q) (vec (2 ^ lg) (fun j => T j * na % Q)) = true)
    (i : Nat) (hi : i < 2 ^ lg) (j : Nat) (h0 : 2 ^ 54 ≤ j * sg) (hj : j ≤ J) (hz : Zeros ((T i + j * d) * na % Q)) : Ok b (T i + j * d) := by
  have hS : aF lg (vec (2 ^ lg) (fun j => T j * na % Q)) = vec (2 ^ lg) (fun j => xs 27 (T j * na % Q) % 32) := aF_vec lg _ (fun _ => modQ_lt _)
  have hE : aF lg (stepF lg (J * d * na % Q) (vec (2 ^ lg) (fun j => T j * na % Q))) = vec (2 ^ lg) (fun i => xs 27 ((T i + J * d) * na % Q) % 32) := by
    rw [stepF_vec, aF_vec lg _ (fun _ => modQ_lt _)]
  have h' : Bool.rec (motive := fun _ => Bool) false (Bool.rec (motive := fun _ => Bool) (passF lg b (d * na % Q) sg mu L (aF lg (stepF lg (J * d * na % Q) (vec (2 ^ lg) (fun j => T j * na % Q)))) (vec (2 ^ lg) (fun j => T j * na % Q))) true (Nat.beq (aF lg (vec (2 ^ lg) (fun j => T j * na % Q))) (aF lg (stepF lg (J * d * na % Q) (vec (2 ^ lg) (fun j => T j * na % Q)))))) (passF lg b (d * na % Q) sg mu L (aF lg (vec (2 ^ lg) (fun j => T j * na % Q))) (vec (2 ^ lg) (fun j => T j * na % Q))) = true := h
  rw [hS, hE] at h'
  have hlow : ∀ k : Nat, (T i + k * d) * na % Q % 32 = T i * na % Q % 32 := fun k => by
    have : d * na % 32 = 0 := by rw [← Nat.mod_mod_of_dvd (d * na) (show 32 ∣ 2 ^ 32 by decide), ← hB]; exact hB5
    rw [Nat.mod_mod_of_dvd _ (show 32 ∣ Q by decide), Nat.mod_mod_of_dvd _ (show 32 ∣ Q by decide), Nat.add_mul, Nat.mul_assoc, modl, this, Nat.mul_zero, Nat.add_zero, Nat.mod_mod]
  have hmid : ∀ k : Nat, (T i + k * d) * na % Q / 2 ^ 27 % 32 = ((T i * na % Q) % 2 ^ 32 + k * B) % 2 ^ 32 / 2 ^ 27 := fun k => by
    have e1 : (T i + k * d) * na % Q % 2 ^ 32 = ((T i * na % Q) % 2 ^ 32 + k * B) % 2 ^ 32 := by
      rw [Nat.mod_mod_of_dvd _ (show 2 ^ 32 ∣ Q by decide), Nat.mod_mod_of_dvd _ (show 2 ^ 32 ∣ Q by decide), Nat.add_mul, Nat.mul_assoc, hB, modl]
    omega
  have hcase : xs 27 ((T i + j * d) * na % Q) % 32 = xs 27 (T i * na % Q) % 32 ∨ xs 27 ((T i + j * d) * na % Q) % 32 = xs 27 ((T i + J * d) * na % Q) % 32 := by
    have h3 : j * B ≤ J * B := Nat.mul_le_mul_right _ hj
    have hm0 := hmid 0
    rw [Nat.zero_mul, Nat.add_zero, Nat.zero_mul, Nat.add_zero] at hm0
    rw [xs27_low, xs27_low, xs27_low, hlow, hlow, hmid, hmid, hm0]
    generalize (T i * na % Q) % 2 ^ 32 = w at *
    have hw : w % 2 ^ 32 / 2 ^ 27 = (w + j * B) % 2 ^ 32 / 2 ^ 27 ∨ (w + j * B) % 2 ^ 32 / 2 ^ 27 = (w + J * B) % 2 ^ 32 / 2 ^ 27 := by
      generalize j * B = p at *
      generalize J * B = q at *
      clear hm0 hmid hlow h' h hS hE
      omega
    rcases hw with hw | hw
    · exact Or.inl (by rw [hw])
    · exact Or.inr (by rw [hw])
  have h32 : ∀ v, xs 27 v % 32 < 32 := fun v => Nat.mod_lt _ (by decide)
  have hr := rec_or h'
  rcases hcase with hc | hc
  · exact pass_tells lg b d L sg mu hb hsg hs hs2 hmu he he2 hL T _ (fun _ => h32 _) hr.1 i hi j J h0 hj hJ (hz.trans hc)
  · have hQ : passF lg b (d * na % Q) sg mu L (vec (2 ^ lg) (fun i => xs 27 ((T i + J * d) * na % Q) % 32)) (vec (2 ^ lg) (fun j => T j * na % Q)) = true := by
      rcases hr.2 with hq | hq
      · rw [← Nat.eq_of_beq_eq_true hq]; exact hr.1
      · exact hq
    exact pass_tells lg b d L sg mu hb hsg hs hs2 hmu he he2 hL T _ (fun _ => h32 _) hQ i hi j J h0 hj hJ (hz.trans hc)
end Rej
