/- The law FnExactDrawnTail, told over whole numbers and lists: for every seed, all samples and every number of times, program and reference draw the same: no condition. -/
import Derived.Test.YtoflcfkiknmhmaaDx0
import Derived.Test.YtoflcfkiknmhmaaDx1
import Derived.Test.YtoflcfkiknmhmaaDx2
import Derived.Test.YtoflcfkiknmhmaaDx3
import Derived.Test.YtoflcfkiknmhmaaDx4
import Derived.Test.YtoflcfkiknmhmaaDx5
import Derived.Test.YtoflcfkiknmhmaaDx6
import Derived.Test.YtoflcfkiknmhmaaRejM
namespace Go.Proofs.Ytoflcfkiknmhmaa.D
open Go.RowKit Go.Proofs.YtoflcfkiknmhmaaW.PrintWords Go.Proofs.YtoflcfkiknmhmaaW.PrintLast Go.Proofs.YtoflcfkiknmhmaaW.PrintMore
/-! ### the words of a seed, over whole numbers -/
theorem u64w (x : Int) : IntKind.u64.wrap x = x % 18446744073709551616 := rfl
theorem u32w (x : Int) : IntKind.u32.wrap x = x % 4294967296 := rfl
theorem u64n (x : Nat) : IntKind.u64.wrap (x : Int) = ((x % Rej.Q : Nat) : Int) := by
  rw [u64w, Rej.Q_is, Int.natCast_emod]; rfl
theorem ofInt_nat (a : Nat) (ha : a < Rej.Q) : (BitVec.ofInt 64 (a : Int)).toNat = a := by
  rw [Rej.Q_is] at ha
  simp only [BitVec.ofInt_natCast, BitVec.toNat_ofNat]
  exact Nat.mod_eq_of_lt ha
theorem bx (a b : Nat) (ha : a < Rej.Q) (hb : b < Rej.Q) : Go.bits .xor .u64 (a : Int) (b : Int) = ((a ^^^ b : Nat) : Int) := by
  have e : Go.bits .xor .u64 (a : Int) (b : Int) = IntKind.u64.wrap (((BitVec.ofInt 64 (a : Int) ^^^ BitVec.ofInt 64 (b : Int)).toNat : Nat) : Int) := rfl
  rw [e, BitVec.toNat_xor, ofInt_nat a ha, ofInt_nat b hb, u64n, Nat.mod_eq_of_lt]
  exact Nat.xor_lt_two_pow (n := 64) ha hb
theorem bo (a b : Nat) (ha : a < Rej.Q) (hb : b < Rej.Q) : Go.bits .or .u64 (a : Int) (b : Int) = ((a ||| b : Nat) : Int) := by
  have e : Go.bits .or .u64 (a : Int) (b : Int) = IntKind.u64.wrap (((BitVec.ofInt 64 (a : Int) ||| BitVec.ofInt 64 (b : Int)).toNat : Nat) : Int) := rfl
  rw [e, BitVec.toNat_or, ofInt_nat a ha, ofInt_nat b hb, u64n, Nat.mod_eq_of_lt]
  exact Nat.or_lt_two_pow (n := 64) ha hb
theorem rot_or (k x : Nat) (hk : k ≤ 64) (hx : x < Rej.Q) : ((x <<< k) % 2 ^ 64) ||| (x >>> (64 - k)) = Rej.rotX k x := by
  apply Nat.eq_of_testBit_eq
  intro i
  unfold Rej.rotX
  rw [Nat.testBit_or, Nat.testBit_xor, Nat.testBit_mod_two_pow, Nat.testBit_shiftLeft, Nat.testBit_shiftRight]
  by_cases h : i < k
  · simp [show ¬ i ≥ k by omega]
  · rw [Nat.testBit_lt_two_pow (Nat.lt_of_lt_of_le hx (Nat.pow_le_pow_right (by omega) (show 64 ≤ 64 - k + i by omega)))]
    simp
theorem turn (k x : Nat) (hk : k ≤ 64) (hx : x < Rej.Q) : Go.bits .or .u64 (shl .u64 (x : Int) (k : Int)) (shr .u64 (x : Int) ((64 - k : Nat) : Int)) = ((Rej.rotX k x : Nat) : Int) := by
  have e1 : shl .u64 (x : Int) (k : Int) = (((x <<< k) % 2 ^ 64 : Nat) : Int) := by
    unfold shl
    rw [show min (k : Int).toNat IntKind.u64.bits = k from by show min k 64 = k; omega, Nat.shiftLeft_eq]
    have := u64n (x * 2 ^ k)
    rw [Int.natCast_mul, Int.natCast_pow] at this
    exact this
  have e2 : shr .u64 (x : Int) ((64 - k : Nat) : Int) = ((x >>> (64 - k) : Nat) : Int) := by
    unfold shr
    rw [show min ((64 - k : Nat) : Int).toNat IntKind.u64.bits = 64 - k from by show min (64 - k) 64 = 64 - k; omega, Nat.shiftRight_eq_div_pow, Int.natCast_ediv, Int.natCast_pow]
    rfl
  rw [e1, e2, bo ((x <<< k) % 2 ^ 64) (x >>> (64 - k)) (show _ < 2 ^ 64 from Nat.mod_lt _ (by decide)) (Nat.lt_of_le_of_lt (Nat.shiftRight_le _ _) hx), rot_or k x hk hx]
theorem turn24 (x : Nat) (hx : x < Rej.Q) : spec_l02Turn.f (x : Int) 24 = some ((Rej.rotX 24 x : Nat) : Int) := by
  unfold spec_l02Turn.f
  rw [if_pos (by decide), if_pos (by decide), show IntKind.u64.wrap (64 - 24) = ((64 - 24 : Nat) : Int) by decide]
  exact congrArg some (turn 24 x (by decide) hx)
theorem turn37 (x : Nat) (hx : x < Rej.Q) : spec_l02Turn.f (x : Int) 37 = some ((Rej.rotX 37 x : Nat) : Int) := by
  unfold spec_l02Turn.f
  rw [if_pos (by decide), if_pos (by decide), show IntKind.u64.wrap (64 - 37) = ((64 - 37 : Nat) : Int) by decide]
  exact congrArg some (turn 37 x (by decide) hx)
theorem left24 (x : Nat) (hx : x < Rej.Q) : bits_RotateLeft64.f (x : Int) 24 = some ((Rej.rotX 24 x : Nat) : Int) := by
  unfold bits_RotateLeft64.f
  rw [show Go.bits .and .u64 (IntKind.u64.wrap 24) 63 = ((24 : Nat) : Int) by decide, if_pos (by decide), if_pos (by decide), show IntKind.u64.wrap (64 - ((24 : Nat) : Int)) = ((64 - 24 : Nat) : Int) by decide]
  exact congrArg some (turn 24 x (by decide) hx)
theorem left37 (x : Nat) (hx : x < Rej.Q) : bits_RotateLeft64.f (x : Int) 37 = some ((Rej.rotX 37 x : Nat) : Int) := by
  unfold bits_RotateLeft64.f
  rw [show Go.bits .and .u64 (IntKind.u64.wrap 37) 63 = ((37 : Nat) : Int) by decide, if_pos (by decide), if_pos (by decide), show IntKind.u64.wrap (64 - ((37 : Nat) : Int)) = ((64 - 37 : Nat) : Int) by decide]
  exact congrArg some (turn 37 x (by decide) hx)
theorem word64 (x : Nat) (hx : x < Rej.Q) : wrap64 ((x : Int) / 4294967296) = ((x / 2 ^ 32 : Nat) : Int) := by
  rw [Rej.Q_is] at hx
  unfold wrap64
  omega
theorem word32 (x : Nat) (hx : x < Rej.Q) : IntKind.u32.wrap ((x : Int) / 4294967296) = ((x / 2 ^ 32 : Nat) : Int) := by
  rw [Rej.Q_is] at hx
  rw [u32w]
  omega
theorem shr_nat (x k : Nat) : (x : Int) / ((2 ^ k : Nat) : Int) = ((x >>> k : Nat) : Int) := by
  rw [Nat.shiftRight_eq_div_pow, Int.natCast_ediv]
theorem mul_nat (x m : Nat) : IntKind.u64.wrap ((x : Int) * (m : Int)) = ((x * m % Rej.Q : Nat) : Int) := by
  rw [← Int.natCast_mul, u64n]
theorem xs_nat (k x : Nat) (hx : x < Rej.Q) : Go.bits .xor .u64 (x : Int) ((x : Int) / ((2 ^ k : Nat) : Int)) = ((Rej.xs k x : Nat) : Int) := by
  rw [shr_nat, bx x _ hx (Nat.lt_of_le_of_lt (Nat.shiftRight_le _ _) hx)]; rfl
theorem xl_nat (k x : Nat) (hx : x < Rej.Q) : Go.bits .xor .u64 (x : Int) (IntKind.u64.wrap ((x : Int) * ((2 ^ k : Nat) : Int))) = (((x ^^^ (x <<< k)) % 2 ^ 64 : Nat) : Int) := by
  rw [mul_nat, bx x (x * 2 ^ k % Rej.Q) hx (Rej.mQ _), Nat.xor_mod_two_pow, Nat.shiftLeft_eq, Nat.mod_eq_of_lt (show x < 2 ^ 64 from hx)]
  rfl
theorem mix_nat (x : Nat) (hx : x < Rej.Q) : impl_MixWord.f (x : Int) = some ((Rej.mixN x : Nat) : Int) := by
  unfold impl_MixWord.f
  have e1 := xs_nat 30 x hx
  have h1 : Rej.xs 30 x < Rej.Q := Rej.xs_lt 30 x hx
  have e2 := mul_nat (Rej.xs 30 x) 13787848793156543929
  have h2 : Rej.xs 30 x * 13787848793156543929 % Rej.Q < Rej.Q := Rej.mQ _
  have e3 := xs_nat 27 _ h2
  have h3 : Rej.xs 27 (Rej.xs 30 x * 13787848793156543929 % Rej.Q) < Rej.Q := Rej.xs_lt 27 _ h2
  have e4 := mul_nat (Rej.xs 27 (Rej.xs 30 x * 13787848793156543929 % Rej.Q)) 10723151780598845931
  have h4 : Rej.xs 27 (Rej.xs 30 x * 13787848793156543929 % Rej.Q) * 10723151780598845931 % Rej.Q < Rej.Q := Rej.mQ _
  have e5 := xs_nat 31 _ h4
  have n30 : ((2 ^ 30 : Nat) : Int) = 1073741824 := by decide
  have n27 : ((2 ^ 27 : Nat) : Int) = 134217728 := by decide
  have n31 : ((2 ^ 31 : Nat) : Int) = 2147483648 := by decide
  have m1 : ((13787848793156543929 : Nat) : Int) = 13787848793156543929 := rfl
  have m2 : ((10723151780598845931 : Nat) : Int) = 10723151780598845931 := rfl
  rw [n30] at e1
  rw [n27] at e3
  rw [n31] at e5
  rw [m1] at e2
  rw [m2] at e4
  rw [e1, e2, e3, e4, e5]
  rfl
theorem mix_same (x : Int) : spec_l02Mix.f x = impl_MixWord.f x := rfl
/-- one step, told by the seed's own text and by the reference's -/
theorem step_both (kind : Nat) (p : Nat × Nat) (hk : kind ≤ 3) (h1 : p.1 < Rej.Q) (h2 : p.2 < Rej.Q) :
    impl_Seed_next.f (kind : Int) (p.1 : Int) (p.2 : Int) = some ((kind : Int), ((Rej.nx kind p).1.1 : Int), ((Rej.nx kind p).1.2 : Int), ((Rej.nx kind p).2 : Int)) ∧
    spec_l02Next.f (kind : Int) (p.1 : Int) (p.2 : Int) = some (((Rej.nx kind p).2 : Int), (kind : Int), ((Rej.nx kind p).1.1 : Int), ((Rej.nx kind p).1.2 : Int)) := by
  obtain ⟨a, b⟩ := p
  simp only at h1 h2
  have hc : kind = 0 ∨ kind = 1 ∨ kind = 2 ∨ kind = 3 := by omega
  rcases hc with rfl | rfl | rfl | rfl
  · simp only [Rej.nx_0]
    have e : IntKind.u64.wrap ((IntKind.u64.wrap (6364136223846793005 * (a : Int))) + (b : Int)) = ((Rej.a0 (a, b) : Nat) : Int) := by
      have m : IntKind.u64.wrap (6364136223846793005 * (a : Int)) = ((6364136223846793005 * a % Rej.Q : Nat) : Int) := by
        rw [Int.mul_comm, Nat.mul_comm]; exact mul_nat a 6364136223846793005
      rw [m, ← Int.natCast_add, u64n]
      rfl
    have hl := Rej.a0_lt (a, b)
    have w1 := word64 _ hl
    have w2 := word32 _ hl
    constructor
    · unfold impl_Seed_next.f
      rw [if_pos (show ((0 : Nat) : Int) = 0 from rfl), e, w1]
      rfl
    · unfold spec_l02Next.f
      rw [if_pos (show ((0 : Nat) : Int) = 0 from rfl), e, w2]
      rfl
  · simp only [Rej.nx_1]
    have n13 : ((2 ^ 13 : Nat) : Int) = 8192 := by decide
    have n7 : ((2 ^ 7 : Nat) : Int) = 128 := by decide
    have n17 : ((2 ^ 17 : Nat) : Int) = 131072 := by decide
    have e1 := xl_nat 13 a h1
    rw [n13] at e1
    have l1 : (a ^^^ (a <<< 13)) % 2 ^ 64 < Rej.Q := Nat.mod_lt _ (by decide)
    have e2 := xs_nat 7 _ l1
    rw [n7] at e2
    have l2 : Rej.xs 7 ((a ^^^ (a <<< 13)) % 2 ^ 64) < Rej.Q := Rej.xs_lt 7 _ l1
    have e3 := xl_nat 17 _ l2
    rw [n17] at e3
    have e3' : (((Rej.xs 7 ((a ^^^ (a <<< 13)) % 2 ^ 64) ^^^ (Rej.xs 7 ((a ^^^ (a <<< 13)) % 2 ^ 64) <<< 17)) % 2 ^ 64 : Nat) : Int) = ((Rej.stT a : Nat) : Int) := rfl
    have e4 := mul_nat (Rej.stT a) 2685821657736338717
    have m1 : ((2685821657736338717 : Nat) : Int) = 2685821657736338717 := rfl
    rw [m1] at e4
    have hl : Rej.stT a * 2685821657736338717 % Rej.Q < Rej.Q := Rej.mQ _
    have w1 := word64 _ hl
    have w2 := word32 _ hl
    constructor
    · unfold impl_Seed_next.f
      rw [if_neg (show ¬ ((1 : Nat) : Int) = 0 by decide), if_pos (show ((1 : Nat) : Int) = 1 from rfl), e1, e2, e3, e3', e4, w1]
      rfl
    · unfold spec_l02Next.f
      rw [if_neg (show ¬ ((1 : Nat) : Int) = 0 by decide), if_pos (show ((1 : Nat) : Int) = 1 from rfl), e1, e2, e3, e3', e4, w2]
      rfl
  · simp only [Rej.nx_2]
    have e1 : IntKind.u64.wrap ((a : Int) + 11400714819323198485) = ((Rej.a2 (a, b) : Nat) : Int) := by
      have := u64n (a + 11400714819323198485)
      rw [Int.natCast_add] at this
      exact this
    have e2 : IntKind.u64.wrap (((Rej.a2 (a, b) : Nat) : Int) + (b : Int)) = (((Rej.a2 (a, b) + b) % Rej.Q : Nat) : Int) := by
      rw [← Int.natCast_add, u64n]
    have e3 := mix_nat _ (Rej.mQ (Rej.a2 (a, b) + b))
    have hl := Rej.mixN_lt ((Rej.a2 (a, b) + b) % Rej.Q)
    have w1 := word64 _ hl
    have w2 := word32 _ hl
    constructor
    · unfold impl_Seed_next.f
      rw [if_neg (show ¬ ((2 : Nat) : Int) = 0 by decide), if_neg (show ¬ ((2 : Nat) : Int) = 1 by decide), if_pos (show ((2 : Nat) : Int) = 2 from rfl), e1, e2, e3]
      simp only [Option.bind_some]
      rw [w1]
      rfl
    · unfold spec_l02Next.f
      rw [if_neg (show ¬ ((2 : Nat) : Int) = 0 by decide), if_neg (show ¬ ((2 : Nat) : Int) = 1 by decide), if_pos (show ((2 : Nat) : Int) = 2 from rfl), e1, e2, mix_same, e3]
      simp only [Option.bind_some]
      rw [w2]
      rfl
  · simp only [Rej.nx_3]
    have ex := bx b a h2 h1
    have hx : b ^^^ a < Rej.Q := Nat.xor_lt_two_pow (n := 64) h2 h1
    have t1 := turn24 a h1
    have t2 := turn37 _ hx
    have r1 := left24 a h1
    have r2 := left37 _ hx
    have lr : Rej.rotX 24 a < Rej.Q := Rej.rotX_lt _ _ h1
    have e1 := bx _ _ lr hx
    have l1 : Rej.rotX 24 a ^^^ (b ^^^ a) < Rej.Q := Nat.xor_lt_two_pow (n := 64) lr hx
    have e2 : IntKind.u64.wrap (((b ^^^ a : Nat) : Int) * 65536) = ((((b ^^^ a) <<< 16) % 2 ^ 64 : Nat) : Int) := by
      rw [Nat.shiftLeft_eq]
      exact mul_nat (b ^^^ a) (2 ^ 16)
    have e3 := bx _ (((b ^^^ a) <<< 16) % 2 ^ 64) l1 (Nat.mod_lt _ (by decide))
    have e4 : IntKind.u64.wrap ((a : Int) + (b : Int)) = (((a + b) % Rej.Q : Nat) : Int) := by
      rw [← Int.natCast_add, u64n]
    have w1 := word64 _ (Rej.mQ (a + b))
    have w2 := word32 _ (Rej.mQ (a + b))
    constructor
    · unfold impl_Seed_next.f
      rw [if_neg (show ¬ ((3 : Nat) : Int) = 0 by decide), if_neg (show ¬ ((3 : Nat) : Int) = 1 by decide), if_neg (show ¬ ((3 : Nat) : Int) = 2 by decide), ex, r1, r2, e4]
      simp only [Option.bind_some]
      rw [e1, e2, e3, w1]
      rfl
    · unfold spec_l02Next.f
      rw [if_neg (show ¬ ((3 : Nat) : Int) = 0 by decide), if_neg (show ¬ ((3 : Nat) : Int) = 1 by decide), if_neg (show ¬ ((3 : Nat) : Int) = 2 by decide), ex, t1, t2, e4]
      simp only [Option.bind_some]
      rw [e1, e2, e3, w2]
      rfl
attribute [local irreducible] Rej.nx
/-! ### seeds, and numbers below a limit -/
theorem wrap_nat (x : Nat) (hx : x < 9223372036854775808) : wrap64 (x : Int) = (x : Int) := by unfold wrap64; omega
theorem valid_of (kind : Nat) (p : Nat × Nat) (h : Rej.vd kind p) : kind ≤ 3 ∧ impl_ValidSeed.f (kind : Int) (p.1 : Int) (p.2 : Int) = some true := by
  obtain ⟨h1, h2, h3⟩ := h
  unfold impl_ValidSeed.f
  rcases h3 with ⟨rfl, h⟩ | ⟨rfl, h⟩ | rfl | ⟨rfl, h⟩
  · refine ⟨by omega, ?_⟩
    rw [if_pos (show ((0 : Nat) : Int) = 0 from rfl)]
    have : Int.tmod (p.2 : Int) 2 = 1 := by rw [Int.tmod_eq_emod_of_nonneg (by omega)]; omega
    rw [this]; rfl
  · refine ⟨by omega, ?_⟩
    rw [if_neg (show ¬ ((1 : Nat) : Int) = 0 by decide), if_pos (show ((1 : Nat) : Int) = 1 from rfl)]
    have : ((p.1 : Int) != 0) = true := by rw [bne_iff_ne]; omega
    rw [this]
  · exact ⟨by omega, by rw [if_neg (show ¬ ((2 : Nat) : Int) = 0 by decide), if_neg (show ¬ ((2 : Nat) : Int) = 1 by decide), if_neg (show ¬ ((2 : Nat) : Int) = 3 by decide)]; rfl⟩
  · refine ⟨by omega, ?_⟩
    rw [if_neg (show ¬ ((3 : Nat) : Int) = 0 by decide), if_neg (show ¬ ((3 : Nat) : Int) = 1 by decide), if_pos (show ((3 : Nat) : Int) = 3 from rfl)]
    by_cases ha : (p.1 : Int) = 0
    · rw [if_pos ha]
      have : ((p.2 : Int) != 0) = true := by rw [bne_iff_ne]; omega
      rw [this]
    · rw [if_neg ha]
theorem valid_both (k a b : Int) (ha : 0 ≤ a ∧ a < 18446744073709551616) (hb : 0 ≤ b ∧ b < 18446744073709551616) :
    ∃ v, impl_ValidSeed.f k a b = some v ∧ spec_l02Is.f k a b = some (v, k, a, b) ∧ (v = true → ∃ (kind : Nat) (p : Nat × Nat), k = (kind : Int) ∧ a = (p.1 : Int) ∧ b = (p.2 : Int) ∧ Rej.vd kind p) := by
  unfold impl_ValidSeed.f spec_l02Is.f
  have hq : Rej.Q = 18446744073709551616 := Rej.Q_is
  have hp : ∀ kind : Nat, k = (kind : Int) → (kind = 0 ∧ b.toNat % 2 = 1 ∨ kind = 1 ∧ a.toNat ≠ 0 ∨ kind = 2 ∨ kind = 3 ∧ (a.toNat ≠ 0 ∨ b.toNat ≠ 0)) → ∃ (kind : Nat) (p : Nat × Nat), k = (kind : Int) ∧ a = (p.1 : Int) ∧ b = (p.2 : Int) ∧ Rej.vd kind p := fun kind h1 h2 =>
    ⟨kind, (a.toNat, b.toNat), h1, by simp only; omega, by simp only; omega, by simp only; rw [hq]; omega, by simp only; rw [hq]; omega, h2⟩
  by_cases k0 : k = 0
  · rw [if_pos k0, if_pos k0]
    refine ⟨_, rfl, rfl, fun h => hp 0 k0 (Or.inl ⟨rfl, ?_⟩)⟩
    have h := beq_iff_eq.mp h
    rw [Int.tmod_eq_emod_of_nonneg hb.1] at h
    omega
  · rw [if_neg k0, if_neg k0]
    by_cases k1 : k = 1
    · rw [if_pos k1, if_pos k1]
      refine ⟨_, rfl, rfl, fun h => hp 1 k1 (Or.inr (Or.inl ⟨rfl, ?_⟩))⟩
      have h := bne_iff_ne.mp h
      omega
    · rw [if_neg k1, if_neg k1]
      by_cases k3 : k = 3
      · rw [if_pos k3, if_neg (show ¬ k = 2 by omega), if_pos k3]
        by_cases a0 : a = 0
        · rw [if_pos a0, if_pos a0]
          refine ⟨_, rfl, rfl, fun h => hp 3 k3 (Or.inr (Or.inr (Or.inr ⟨rfl, Or.inr ?_⟩)))⟩
          have h := bne_iff_ne.mp h
          omega
        · rw [if_neg a0, if_neg a0]
          exact ⟨_, rfl, rfl, fun _ => hp 3 k3 (Or.inr (Or.inr (Or.inr ⟨rfl, Or.inl (by omega)⟩)))⟩
      · rw [if_neg k3]
        by_cases k2 : k = 2
        · rw [if_pos k2]
          have e : (k == 2) = true := beq_iff_eq.mpr k2
          rw [e]
          exact ⟨_, rfl, rfl, fun _ => hp 2 k2 (Or.inr (Or.inr (Or.inl rfl)))⟩
        · rw [if_neg k2, if_neg k3]
          have e : (k == 2) = false := beq_eq_false_iff_ne.mpr k2
          rw [e]
          exact ⟨_, rfl, rfl, fun h => absurd h (by decide)⟩
theorem lim_is : ∀ n : Nat, n < 41 → 1 ≤ n → wrap64 (wrap64 ((4294967296 : Int) / (n : Int)) * (n : Int)) = ((4294967296 / n * n : Nat) : Int) ∧ wrap64 (wrap64 (Int.tdiv 4294967296 (n : Int)) * (n : Int)) = ((4294967296 / n * n : Nat) : Int) ∧ 4294967274 ≤ 4294967296 / n * n := by decide +kernel
theorem tmod_nat (w n : Nat) : Int.tmod (w : Int) (n : Int) = ((w % n : Nat) : Int) := by
  rw [Int.tmod_eq_emod_of_nonneg (by omega), Int.natCast_emod]
theorem tried_eq (k : Nat) (n L i c a b w c' a' b' : Int) (h2 : spec_l02Next.f c a b = some (w, c', a', b')) :
    spec_l02Tried.l0 (k + 1) n L i c a b = if i < 64 then (if wrap64 w < L then (if n = 0 then none else some (Int.tmod (wrap64 w) n, true, c', a', b')) else spec_l02Tried.l0 k n L (wrap64 (i + 1)) c' a' b') else some (0, false, c, a, b) := by
  have e : spec_l02Tried.l0 (k + 1) n L i c a b = if i < 64 then ((spec_l02Next.f c a b).bind fun bt115 => (if (wrap64 (bt115.1)) < L then (if n = 0 then (none) else (some (Int.tmod (wrap64 (bt115.1)) n, true, bt115.2.1, bt115.2.2.1, bt115.2.2.2))) else (spec_l02Tried.l0 k n L (wrap64 (i + 1)) bt115.2.1 bt115.2.2.1 bt115.2.2.2))) else (some (0, false, c, a, b)) := rfl
  rw [e, h2]
  rfl
theorem seed_eq (k : Nat) (n i c a b w c' a' b' : Int) (h1 : impl_Seed_next.f c a b = some (c', a', b', w)) :
    impl_BelowSeed.l0 (k + 1) n i c a b = if i < 64 then (if n = 0 then none else (if w < wrap64 (wrap64 ((4294967296 : Int) / n) * n) then some (c', a', b', Int.tmod w n, true) else impl_BelowSeed.l0 k n (wrap64 (i + 1)) c' a' b')) else some (0, 0, 0, 0, false) := by
  have e : impl_BelowSeed.l0 (k + 1) n i c a b = if i < 64 then ((impl_Seed_next.f c a b).bind fun bt160 => (if n = 0 then (none) else (if bt160.2.2.2 < (wrap64 ((wrap64 ((4294967296 : Int) / n)) * n)) then (some (bt160.1, bt160.2.1, bt160.2.2.1, Int.tmod bt160.2.2.2 n, true)) else (impl_BelowSeed.l0 k n (wrap64 (i + 1)) bt160.1 bt160.2.1 bt160.2.2.1)))) else (some (0, 0, 0, 0, false)) := rfl
  rw [e, h1]
  rfl
theorem tried_hit (n L i : Nat) (c a b c' a' b' : Int) (w : Nat) (hn : 1 ≤ n) (hw : w < 4294967296) (hL : wrap64 (wrap64 ((4294967296 : Int) / (n : Int)) * (n : Int)) = (L : Int)) (hi : i < 64) (hlt : w < L)
    (h1 : impl_Seed_next.f c a b = some (c', a', b', (w : Int))) (h2 : spec_l02Next.f c a b = some ((w : Int), c', a', b')) (k : Nat) :
    spec_l02Tried.l0 (k + 1) (n : Int) (L : Int) (i : Int) c a b = some (((w % n : Nat) : Int), true, c', a', b') ∧
    impl_BelowSeed.l0 (k + 1) (n : Int) (i : Int) c a b = some (c', a', b', ((w % n : Nat) : Int), true) := by
  have hi64 : (i : Int) < 64 := by omega
  have hn0 : ¬ (n : Int) = 0 := by omega
  have hwr : wrap64 (w : Int) = (w : Int) := wrap_nat _ (by omega)
  have hlt1 : wrap64 (w : Int) < (L : Int) := hwr.symm ▸ (by omega)
  have hlt2 : (w : Int) < wrap64 (wrap64 ((4294967296 : Int) / (n : Int)) * (n : Int)) := hL.symm ▸ (by omega)
  have ht := tmod_nat w n
  have e1 := (tried_eq k (n : Int) (L : Int) (i : Int) c a b (w : Int) c' a' b' h2).trans ((if_pos hi64).trans ((if_pos hlt1).trans (if_neg hn0)))
  have e2 := (seed_eq k (n : Int) (i : Int) c a b (w : Int) c' a' b' h1).trans ((if_pos hi64).trans ((if_neg hn0).trans (if_pos hlt2)))
  rw [hwr, ht] at e1
  rw [ht] at e2
  exact ⟨e1, e2⟩
theorem tried_miss (n L i : Nat) (c a b c' a' b' : Int) (w : Nat) (hn : 1 ≤ n) (hw : w < 4294967296) (hL : wrap64 (wrap64 ((4294967296 : Int) / (n : Int)) * (n : Int)) = (L : Int)) (hi : i < 64) (hlt : ¬ w < L)
    (h1 : impl_Seed_next.f c a b = some (c', a', b', (w : Int))) (h2 : spec_l02Next.f c a b = some ((w : Int), c', a', b')) (k : Nat) :
    spec_l02Tried.l0 (k + 1) (n : Int) (L : Int) (i : Int) c a b = spec_l02Tried.l0 k (n : Int) (L : Int) ((i + 1 : Nat) : Int) c' a' b' ∧
    impl_BelowSeed.l0 (k + 1) (n : Int) (i : Int) c a b = impl_BelowSeed.l0 k (n : Int) ((i + 1 : Nat) : Int) c' a' b' := by
  have hi64 : (i : Int) < 64 := by omega
  have hn0 : ¬ (n : Int) = 0 := by omega
  have hi1 : wrap64 ((i : Int) + 1) = ((i + 1 : Nat) : Int) := by unfold wrap64; omega
  have hwr : wrap64 (w : Int) = (w : Int) := wrap_nat _ (by omega)
  have hlt1 : ¬ wrap64 (w : Int) < (L : Int) := hwr.symm ▸ (by omega)
  have hlt2 : ¬ (w : Int) < wrap64 (wrap64 ((4294967296 : Int) / (n : Int)) * (n : Int)) := hL.symm ▸ (by omega)
  have e1 := (tried_eq k (n : Int) (L : Int) (i : Int) c a b (w : Int) c' a' b' h2).trans ((if_pos hi64).trans (if_neg hlt1))
  have e2 := (seed_eq k (n : Int) (i : Int) c a b (w : Int) c' a' b' h1).trans ((if_pos hi64).trans ((if_neg hn0).trans (if_neg hlt2)))
  rw [hi1] at e1 e2
  exact ⟨e1, e2⟩
theorem wd_succ (kind j : Nat) (p : Nat × Nat) : Rej.wd kind (j + 1) p = Rej.wd kind j (Rej.nx kind p).1 := rfl
theorem wd_zero (kind : Nat) (p : Nat × Nat) : Rej.wd kind 0 p = (Rej.nx kind p).2 := rfl
theorem tried_both (kind n L : Nat) (hn : 1 ≤ n) (hL : wrap64 (wrap64 ((4294967296 : Int) / (n : Int)) * (n : Int)) = (L : Int)) (hL2 : 4294967274 ≤ L) (d : Nat) : ∀ (i : Nat) (p : Nat × Nat), i + d = 64 → Rej.vd kind p → (∃ j, j < d ∧ Rej.wd kind j p < 4294967274) →
    ∃ (x : Nat) (p' : Nat × Nat), x < n ∧ Rej.vd kind p' ∧
      Ev (fun k => spec_l02Tried.l0 k (n : Int) (L : Int) (i : Int) (kind : Int) (p.1 : Int) (p.2 : Int)) ((x : Int), true, (kind : Int), (p'.1 : Int), (p'.2 : Int)) ∧
      Ev (fun k => impl_BelowSeed.l0 k (n : Int) (i : Int) (kind : Int) (p.1 : Int) (p.2 : Int)) ((kind : Int), (p'.1 : Int), (p'.2 : Int), (x : Int), true) := by
  induction d with
  | zero => intro i p _ _ h; obtain ⟨j, hj, _⟩ := h; exact absurd hj (Nat.not_lt_zero j)
  | succ d ih =>
    intro i p hi hv h
    have hnx := Rej.nx_vd kind p hv
    have hw := (Rej.nx_lt kind p hv.1 hv.2.1).2.2
    have hstep := step_both kind p (valid_of kind p hv).1 hv.1 hv.2.1
    by_cases hlt : (Rej.nx kind p).2 < L
    · exact ⟨(Rej.nx kind p).2 % n, (Rej.nx kind p).1, Nat.mod_lt _ hn, hnx,
        Ev.step (f := fun _ => some _) (fun k => (tried_hit n L i _ _ _ _ _ _ _ hn hw hL (by omega) hlt hstep.1 hstep.2 k).1) (Ev.now _),
        Ev.step (f := fun _ => some _) (fun k => (tried_hit n L i _ _ _ _ _ _ _ hn hw hL (by omega) hlt hstep.1 hstep.2 k).2) (Ev.now _)⟩
    · obtain ⟨j, hj, hjw⟩ := h
      have hj0 : ∃ j', j' < d ∧ Rej.wd kind j' (Rej.nx kind p).1 < 4294967274 := by
        cases j with
        | zero => rw [wd_zero] at hjw; exact absurd (Nat.lt_of_lt_of_le hjw hL2) hlt
        | succ j => rw [wd_succ] at hjw; exact ⟨j, by omega, hjw⟩
      obtain ⟨x, p', hx, hv', e1, e2⟩ := ih (i + 1) (Rej.nx kind p).1 (by omega) hnx hj0
      exact ⟨x, p', hx, hv', Ev.step (fun k => (tried_miss n L i _ _ _ _ _ _ _ hn hw hL (by omega) hlt hstep.1 hstep.2 k).1) e1, Ev.step (fun k => (tried_miss n L i _ _ _ _ _ _ _ hn hw hL (by omega) hlt hstep.1 hstep.2 k).2) e2⟩
theorem below_both (kind n : Nat) (p : Nat × Nat) (hn : 1 ≤ n) (hn2 : n < 41) (hv : Rej.vd kind p) :
    ∃ (x : Nat) (p' : Nat × Nat), x < n ∧ Rej.vd kind p' ∧
      Ev (fun k => spec_l02Below.f k (kind : Int) (p.1 : Int) (p.2 : Int) (n : Int)) ((x : Int), (kind : Int), (p'.1 : Int), (p'.2 : Int)) ∧
      Ev (fun k => impl_BelowSeed.f k (kind : Int) (p.1 : Int) (p.2 : Int) (n : Int)) ((kind : Int), (p'.1 : Int), (p'.2 : Int), (x : Int), true) := by
  obtain ⟨x, p', hx, hv', e1, e2⟩ := tried_both kind n (4294967296 / n * n) hn (lim_is n hn2 hn).1 (lim_is n hn2 hn).2.2 64 0 p rfl hv (Rej.some_word kind p hv)
  have hlim := lim_is n hn2 hn
  refine ⟨x, p', hx, hv', ?_, ?_⟩
  · unfold spec_l02Below.f
    refine Ev.bind (a := ((x : Int), true, (kind : Int), (p'.1 : Int), (p'.2 : Int))) ?_ (Ev.now _)
    refine Ev.congr (fun k => ?_) e1
    unfold spec_l02Tried.f
    rw [if_neg (show ¬ (n : Int) = 0 by omega), hlim.2.1]
    rfl
  · refine Ev.congr (f := fun k => impl_BelowSeed.j0 k (n : Int) (!true) (kind : Int) (p.1 : Int) (p.2 : Int)) (fun k => ?_) ?_
    · unfold impl_BelowSeed.f
      rw [(valid_of kind p hv).2]
      simp only [Option.bind_some]
      rw [if_pos trivial]
      have : impl_within.f (n : Int) 1 4294967296 = some true := by
        unfold impl_within.f
        rw [if_pos (show (n : Int) ≥ 1 by omega), decide_eq_true (show (n : Int) ≤ 4294967296 by omega)]
      rw [this]
      rfl
    · refine Ev.step (fun k => ?_) e2
      simp only [impl_BelowSeed.j0]
      rfl
/-! ### the orders drawn -/
theorem shuffle_eq (k : Nat) (l : List Int) (i c a b x c' a' b' : Int) (h : spec_l02Below.f k c a b (wrap64 (wrap64 (i + 1) - 0)) = some (x, c', a', b')) (hi0 : i > 0) (hi : i < (l.length : Int)) (hx0 : 0 ≤ x) (hx : x < (l.length : Int)) :
    spec_l04Shuffle.l0 (k + 1) l 0 i c a b = spec_l04Shuffle.l0 k ((l.set i.toNat (rd l x)).set x.toNat (rd l i)) 0 (wrap64 (i - 1)) c' a' b' := by
  have e : spec_l04Shuffle.l0 (k + 1) l 0 i c a b = if i > 0 then ((spec_l02Below.f k c a b (wrap64 ((wrap64 (i + 1)) - 0))).bind fun bt124 => (if 0 ≤ i then (if i < (l.length : Int) then (if 0 ≤ bt124.1 then (if bt124.1 < (l.length : Int) then (spec_l04Shuffle.l0 k ((l.set (i : Int).toNat (rd l bt124.1)).set (bt124.1 : Int).toNat (rd l i)) 0 (wrap64 (i - 1)) bt124.2.1 bt124.2.2.1 bt124.2.2.2) else (none)) else (none)) else (none)) else (none))) else (some (c, a, b, l)) := rfl
  refine e.trans ((if_pos hi0).trans ?_)
  rw [h]
  exact (if_pos (Int.le_of_lt hi0)).trans ((if_pos hi).trans ((if_pos hx0).trans (if_pos hx)))
theorem list_eq (k : Nat) (l : List Int) (i c a b x c' a' b' : Int) (h : impl_BelowSeed.f k c a b (wrap64 (i + 1)) = some (c', a', b', x, true)) (hi0 : i ≥ 1) (hi : i < (l.length : Int)) (hx0 : 0 ≤ x) (hx : x < (l.length : Int)) :
    impl_drawnList.l0 (k + 1) 1 l i c a b = impl_drawnList.l0 k 1 ((l.set i.toNat (rd l x)).set x.toNat (rd l i)) (wrap64 (i - 1)) c' a' b' := by
  have e : impl_drawnList.l0 (k + 1) 1 l i c a b = if i ≥ 1 then ((impl_BelowSeed.f k c a b (wrap64 (i + 1))).bind fun bt171 => (if bt171.2.2.2.2 = true then (if 0 ≤ bt171.2.2.2.1 then (if bt171.2.2.2.1 < (l.length : Int) then (if 0 ≤ i then (if i < (l.length : Int) then (impl_drawnList.l0 k 1 ((l.set (i : Int).toNat (rd l bt171.2.2.2.1)).set (bt171.2.2.2.1 : Int).toNat (rd l i)) (wrap64 (i - 1)) bt171.1 bt171.2.1 bt171.2.2.1) else (none)) else (none)) else (none)) else (none)) else (some (0, 0, 0, ([] : List Int), false)))) else (some (c, a, b, l, true)) := rfl
  refine e.trans ((if_pos hi0).trans ?_)
  rw [h]
  refine (Option.bind_some _ _).trans ?_
  dsimp only
  rw [if_pos (rfl : true = true)]
  exact ((if_pos hx0).trans ((if_pos hx).trans ((if_pos (show (0 : Int) ≤ i by omega)).trans (if_pos hi))))
theorem Ev.one {α β : Type} {g : Nat → Option α} {a : α} {G F : Nat → Option β} {r : β} (h : Ev g a) (hs : ∀ k, g k = some a → G (k + 1) = F k) (hF : Ev F r) : Ev G r := by
  obtain ⟨K, h⟩ := h
  obtain ⟨K', hF⟩ := hF
  refine ⟨max K K' + 1, fun k hk => ?_⟩
  obtain ⟨m, rfl⟩ : ∃ m, k = m + 1 := ⟨k - 1, by omega⟩
  rw [hs m (h m (by omega))]
  exact hF m (by omega)
theorem order_both (kind : Nat) (i : Nat) : ∀ (l : List Int) (p : Nat × Nat), i < l.length → l.length ≤ 40 → Rej.vd kind p → ∃ (l' : List Int) (p' : Nat × Nat), l'.length = l.length ∧ Rej.vd kind p' ∧
    Ev (fun k => spec_l04Shuffle.l0 k l 0 (i : Int) (kind : Int) (p.1 : Int) (p.2 : Int)) ((kind : Int), (p'.1 : Int), (p'.2 : Int), l') ∧
    Ev (fun k => impl_drawnList.l0 k 1 l (i : Int) (kind : Int) (p.1 : Int) (p.2 : Int)) ((kind : Int), (p'.1 : Int), (p'.2 : Int), l', true) := by
  induction i with
  | zero =>
    intro l p _ _ hv
    refine ⟨l, p, rfl, hv, Ev.step (f := fun _ => some _) (fun k => ?_) (Ev.now _), Ev.step (f := fun _ => some _) (fun k => ?_) (Ev.now _)⟩
    · exact if_neg (by decide)
    · exact if_neg (by decide)
  | succ i ih =>
    intro l p hi hl hv
    obtain ⟨x, q, hx, hv', e1, e2⟩ := below_both kind (i + 2) p (by omega) (by omega) hv
    have hw1 : wrap64 (((i + 1 : Nat) : Int) + 1) = ((i + 2 : Nat) : Int) := by unfold wrap64; omega
    have hw2 : wrap64 (((i + 2 : Nat) : Int) - 0) = ((i + 2 : Nat) : Int) := by unfold wrap64; omega
    have hw3 : wrap64 (((i + 1 : Nat) : Int) - 1) = (i : Int) := by unfold wrap64; omega
    obtain ⟨l', p', hl', hv2, f1, f2⟩ := ih ((l.set ((i + 1 : Nat) : Int).toNat (rd l (x : Int))).set (x : Int).toNat (rd l ((i + 1 : Nat) : Int))) q (by simp only [List.length_set]; omega) (by simp only [List.length_set]; omega) hv'
    simp only [List.length_set] at hl'
    refine ⟨l', p', hl', hv2, Ev.one e1 (fun k h => ?_) f1, Ev.one e2 (fun k h => ?_) f2⟩
    · have := shuffle_eq k l ((i + 1 : Nat) : Int) (kind : Int) (p.1 : Int) (p.2 : Int) (x : Int) (kind : Int) (q.1 : Int) (q.2 : Int) (by rw [hw1, hw2]; exact h) (by omega) (by omega) (by omega) (by omega)
      rw [hw3] at this
      exact this
    · have := list_eq k l ((i + 1 : Nat) : Int) (kind : Int) (p.1 : Int) (p.2 : Int) (x : Int) (kind : Int) (q.1 : Int) (q.2 : Int) (by rw [hw1]; exact h) (by omega) (by omega) (by omega) (by omega)
      rw [hw3] at this
      exact this
/-! ### sums -/
theorem first_eq (k : Nat) (l : List Int) (m s i : Int) (h : i < m) (h0 : 0 ≤ i) (h1 : i < (l.length : Int)) : spec_l06First.l0 (k + 1) l m s i = spec_l06First.l0 k l m (wrap64 (s + rd l i)) (wrap64 (i + 1)) := by
  have e : spec_l06First.l0 (k + 1) l m s i = if i < m then (if 0 ≤ i then (if i < (l.length : Int) then (spec_l06First.l0 k l m (wrap64 (s + (rd l i))) (wrap64 (i + 1))) else (none)) else (none)) else (some s) := rfl
  exact e.trans ((if_pos h).trans ((if_pos h0).trans (if_pos h1)))
theorem total_eq (k : Nat) (l : List Int) (m s i : Int) (h : i < m) (h0 : 0 ≤ i) (h1 : i < (l.length : Int)) : impl_total.l0 (k + 1) s l m i = impl_total.l0 k (wrap64 (s + rd l i)) l m (wrap64 (i + 1)) := by
  have e : impl_total.l0 (k + 1) s l m i = if i < m then (if 0 ≤ i then (if i < (l.length : Int) then (impl_total.l0 k (wrap64 (s + (rd l i))) l m (wrap64 (i + 1))) else (none)) else (none)) else (some s) := rfl
  exact e.trans ((if_pos h).trans ((if_pos h0).trans (if_pos h1)))
theorem sum_loop (l : List Int) (m : Nat) (hm : m ≤ l.length) (hl : l.length ≤ 1000000) (d : Nat) : ∀ (i : Nat) (s : Int), i + d = m → ∃ r, Ev (fun k => spec_l06First.l0 k l (m : Int) s (i : Int)) r ∧ Ev (fun k => impl_total.l0 k s (l.take m) ((l.take m).length : Int) (i : Int)) r := by
  have hlen : (l.take m).length = m := by rw [List.length_take]; omega
  induction d with
  | zero =>
    intro i s hi
    refine ⟨s, Ev.step (f := fun _ => some s) (fun k => ?_) (Ev.now _), Ev.step (f := fun _ => some s) (fun k => ?_) (Ev.now _)⟩
    · exact if_neg (by omega)
    · exact if_neg (by rw [hlen]; omega)
  | succ d ih =>
    intro i s hi
    have hw : wrap64 ((i : Int) + 1) = ((i + 1 : Nat) : Int) := by unfold wrap64; omega
    have hr : rd (l.take m) (i : Int) = rd l (i : Int) := by
      unfold rd
      rw [List.getD_eq_getElem?_getD, List.getD_eq_getElem?_getD, List.getElem?_take]
      simp only [Int.toNat_natCast]
      rw [if_pos (by omega)]
    obtain ⟨r, e1, e2⟩ := ih (i + 1) (wrap64 (s + rd l (i : Int))) (by omega)
    refine ⟨r, Ev.step (fun k => ?_) e1, Ev.step (fun k => ?_) e2⟩
    · have := first_eq k l (m : Int) s (i : Int) (by omega) (by omega) (by omega)
      rw [hw] at this
      exact this
    · have := total_eq k (l.take m) ((l.take m).length : Int) s (i : Int) (by rw [hlen]; omega) (by omega) (by rw [hlen]; omega)
      rw [hw, hr] at this
      exact this
theorem sum_both (l : List Int) (m : Nat) (hm : m ≤ l.length) (hl : l.length ≤ 1000000) : ∃ r, Ev (fun k => spec_l06First.f k l (m : Int)) r ∧ Ev (fun k => impl_total.f k (l.take m)) r := sum_loop l m hm hl m 0 0 (by omega)
theorem Ev.unique {α : Type} {g : Nat → Option α} {a b : α} (h : Ev g a) (h2 : Ev g b) : a = b := by
  obtain ⟨K, h⟩ := h
  obtain ⟨K', h2⟩ := h2
  have := (h (max K K') (by omega)).symm.trans (h2 (max K K') (by omega))
  exact Option.some.inj this
/-! ### the tails drawn -/
theorem stail_eq (k : Nat) (l1 L : List Int) (a3 own n t c a b c' a' b' s : Int) (L' : List Int) (h : t < a3) (hs : spec_l04Shuffle.f k c a b L 0 = some (c', a', b', L')) (hf : spec_l06First.f k L' (l1.length : Int) = some s) :
    spec_DrawnTail.l0 (k + 1) l1 L a3 own n t c a b = if s ≥ own then spec_DrawnTail.l0 k l1 L a3 own (wrap64 (n + 1)) (wrap64 (t + 1)) c' a' b' else spec_DrawnTail.l0 k l1 L a3 own n (wrap64 (t + 1)) c' a' b' := by
  have e : spec_DrawnTail.l0 (k + 1) l1 L a3 own n t c a b = if t < a3 then ((spec_l04Shuffle.f k c a b L 0).bind fun b => ((spec_l06First.f k b.2.2.2 (l1.length : Int)).bind fun c => (if c ≥ own then (spec_DrawnTail.l0 k l1 L a3 own (wrap64 (n + 1)) (wrap64 (t + 1)) b.1 b.2.1 b.2.2.1) else (spec_DrawnTail.l0 k l1 L a3 own n (wrap64 (t + 1)) b.1 b.2.1 b.2.2.1)))) else (some (c, a, b, n, true)) := rfl
  refine e.trans ((if_pos h).trans ?_)
  rw [hs]
  refine (Option.bind_some _ _).trans ?_
  dsimp only
  rw [hf]
  exact Option.bind_some _ _
theorem itail_eq (k : Nat) (l1 L : List Int) (a3 own n t c a b c' a' b' s : Int) (L' : List Int) (h : t < a3) (hs : impl_drawnList.f k c a b L 1 = some (c', a', b', L', true)) (hl : (l1.length : Int) ≤ (L'.length : Int)) (hf : impl_total.f k (L'.take l1.length) = some s) (ho : impl_total.f k l1 = some own) :
    impl_DrawnTail.l0 (k + 1) l1 L n a3 t c a b = if s ≥ own then impl_DrawnTail.l0 k l1 L (wrap64 (n + 1)) a3 (wrap64 (t + 1)) c' a' b' else impl_DrawnTail.l0 k l1 L n a3 (wrap64 (t + 1)) c' a' b' := by
  have e : impl_DrawnTail.l0 (k + 1) l1 L n a3 t c a b = if t < a3 then ((impl_drawnList.f k c a b L 1).bind fun bt193 => (if bt193.2.2.2.2 = true then (if 0 ≤ (l1.length : Int) then (if (l1.length : Int) ≤ (bt193.2.2.2.1.length : Int) then ((impl_total.f k (bt193.2.2.2.1.take ((l1.length : Int) : Int).toNat)).bind fun t206 => ((impl_total.f k l1).bind fun t207 => (if t206 ≥ t207 then (impl_DrawnTail.l0 k l1 L (wrap64 (n + 1)) a3 (wrap64 (t + 1)) bt193.1 bt193.2.1 bt193.2.2.1) else (impl_DrawnTail.l0 k l1 L n a3 (wrap64 (t + 1)) bt193.1 bt193.2.1 bt193.2.2.1)))) else (none)) else (none)) else (some (0, 0, 0, 0, false)))) else (some (c, a, b, n, true)) := rfl
  refine e.trans ((if_pos h).trans ?_)
  rw [hs]
  refine (Option.bind_some _ _).trans ?_
  dsimp only
  rw [if_pos (rfl : true = true)]
  refine (if_pos (show (0 : Int) ≤ (l1.length : Int) by omega)).trans ((if_pos hl).trans ?_)
  rw [show ((l1.length : Int)).toNat = l1.length by omega, hf]
  refine (Option.bind_some _ _).trans ?_
  rw [ho]
  exact Option.bind_some _ _
theorem Ev.two {α β γ δ : Type} {g : Nat → Option α} {g2 : Nat → Option γ} {g3 : Nat → Option δ} {a : α} {a2 : γ} {a3 : δ} {G F : Nat → Option β} {r : β} (h : Ev g a) (h2 : Ev g2 a2) (h3 : Ev g3 a3) (hs : ∀ k, g k = some a → g2 k = some a2 → g3 k = some a3 → G (k + 1) = F k) (hF : Ev F r) : Ev G r := by
  obtain ⟨K, h⟩ := h
  obtain ⟨K2, h2⟩ := h2
  obtain ⟨K3, h3⟩ := h3
  obtain ⟨K', hF⟩ := hF
  refine ⟨max (max K K2) (max K3 K') + 1, fun k hk => ?_⟩
  obtain ⟨m, rfl⟩ : ∃ m, k = m + 1 := ⟨k - 1, by omega⟩
  rw [hs m (h m (by omega)) (h2 m (by omega)) (h3 m (by omega))]
  exact hF m (by omega)
theorem tails_loop (kind : Nat) (l1 L : List Int) (hl : l1.length ≤ L.length) (hL : L.length ≤ 40) (hL1 : 1 ≤ L.length) (own : Int) (ho : Ev (fun k => impl_total.f k l1) own) (a3 : Nat) (h3 : a3 ≤ 1000) (d : Nat) :
    ∀ (t : Nat) (n : Int) (p : Nat × Nat), t + d = a3 → Rej.vd kind p → ∃ (n' : Int) (p' : Nat × Nat),
      Ev (fun k => spec_DrawnTail.l0 k l1 L (a3 : Int) own n (t : Int) (kind : Int) (p.1 : Int) (p.2 : Int)) ((kind : Int), (p'.1 : Int), (p'.2 : Int), n', true) ∧
      Ev (fun k => impl_DrawnTail.l0 k l1 L n (a3 : Int) (t : Int) (kind : Int) (p.1 : Int) (p.2 : Int)) ((kind : Int), (p'.1 : Int), (p'.2 : Int), n', true) := by
  induction d with
  | zero =>
    intro t n p ht hv
    refine ⟨n, p, Ev.step (f := fun _ => some _) (fun k => ?_) (Ev.now _), Ev.step (f := fun _ => some _) (fun k => ?_) (Ev.now _)⟩
    · exact if_neg (by omega)
    · exact if_neg (by omega)
  | succ d ih =>
    intro t n p ht hv
    have hw : wrap64 ((t : Int) + 1) = ((t + 1 : Nat) : Int) := by unfold wrap64; omega
    have hlt : (t : Int) < (a3 : Int) := by omega
    obtain ⟨L', q, hL', hv', e1, e2⟩ := order_both kind (L.length - 1) L p (by omega) hL hv
    obtain ⟨s, f1, f2⟩ := sum_both L' l1.length (by omega) (by omega)
    have hlen : wrap64 ((L.length : Int) - 1) = ((L.length - 1 : Nat) : Int) := by unfold wrap64; omega
    have E1 : Ev (fun k => spec_l04Shuffle.f k (kind : Int) (p.1 : Int) (p.2 : Int) L 0) ((kind : Int), (q.1 : Int), (q.2 : Int), L') := by
      refine Ev.congr (fun k => ?_) e1
      unfold spec_l04Shuffle.f
      rw [hlen]
    have E2 : Ev (fun k => impl_drawnList.f k (kind : Int) (p.1 : Int) (p.2 : Int) L 1) ((kind : Int), (q.1 : Int), (q.2 : Int), L', true) := by
      refine Ev.congr (fun k => ?_) e2
      unfold impl_drawnList.f slices_Clone_int64_int64.f
      rw [(valid_of kind p hv).2]
      refine (Option.bind_some _ _).trans ?_
      rw [if_pos (rfl : true = true), if_pos (show L.length < 17592186044416 by omega)]
      refine (Option.bind_some _ _).trans ?_
      rw [hlen]
    obtain ⟨n', p', g1, g2⟩ := ih (t + 1) (if s ≥ own then wrap64 (n + 1) else n) q (by omega) hv'
    refine ⟨n', p', Ev.two E1 f1 ho (fun k u1 u2 _ => ?_) g1, Ev.two E2 f2 ho (fun k u1 u2 u3 => ?_) g2⟩
    · have := stail_eq k l1 L (a3 : Int) own n (t : Int) (kind : Int) (p.1 : Int) (p.2 : Int) (kind : Int) (q.1 : Int) (q.2 : Int) s L' hlt u1 u2
      rw [hw] at this
      refine this.trans ?_
      by_cases hs : s ≥ own
      · rw [if_pos hs, if_pos hs]
      · rw [if_neg hs, if_neg hs]
    · have := itail_eq k l1 L (a3 : Int) own n (t : Int) (kind : Int) (p.1 : Int) (p.2 : Int) (kind : Int) (q.1 : Int) (q.2 : Int) s L' hlt u1 (by omega) u2 u3
      rw [hw] at this
      refine this.trans ?_
      by_cases hs : s ≥ own
      · rw [if_pos hs, if_pos hs]
      · rw [if_neg hs, if_neg hs]
/-! ### samples -/
theorem sample_eq (k : Nat) (l : List Int) (i : Int) (h : i < (l.length : Int)) (h0 : 0 ≤ i) : spec_l06Sample.l0 (k + 1) l i = if smpBad (rd l i) = false then spec_l06Sample.l0 k l (wrap64 (i + 1)) else some false := by
  have e : spec_l06Sample.l0 (k + 1) l i = if i < (l.length : Int) then (if 0 ≤ i then ((spec_l00In.f (rd l i) (-1000) 1000).bind fun t102 => (if t102 = true then (spec_l06Sample.l0 k l (wrap64 (i + 1))) else (some false))) else (none)) else (if (l.length : Int) ≥ 1 then (some (decide ((l.length : Int) ≤ 40))) else (some false)) := rfl
  refine e.trans ((if_pos h).trans ((if_pos h0).trans ?_))
  unfold spec_l00In.f smpBad
  by_cases h1 : rd l i ≥ -1000
  · rw [if_pos h1, if_pos h1]
    refine (Option.bind_some _ _).trans ?_
    by_cases h2 : rd l i ≤ 1000
    · simp only [h2, decide_true, if_true, Bool.not_true]
    · simp only [h2, decide_false, Bool.not_false, Bool.false_eq_true, if_false, Bool.true_eq_false]
  · rw [if_neg h1, if_neg h1]
    refine (Option.bind_some _ _).trans ?_
    simp only [Bool.not_false, Bool.false_eq_true, if_false, Bool.true_eq_false]
theorem sample_loop (l : List Int) (hl : l.length ≤ 1048576) (d : Nat) : ∀ i : Nat, i + d = l.length → Ev (fun k => spec_l06Sample.l0 k l (i : Int)) ((l.drop i).all (fun x => !smpBad x) && (decide (1 ≤ l.length) && decide (l.length ≤ 40))) := by
  induction d with
  | zero =>
    intro i hi
    refine Ev.step (f := fun _ => some _) (fun k => ?_) (Ev.now _)
    refine (if_neg (by omega)).trans ?_
    rw [List.drop_of_length_le (by omega)]
    by_cases h1 : (l.length : Int) ≥ 1
    · rw [if_pos h1]
      have e1 : decide (1 ≤ l.length) = true := decide_eq_true (by omega)
      have e2 : decide ((l.length : Int) ≤ 40) = decide (l.length ≤ 40) := by
        by_cases h2 : l.length ≤ 40
        · rw [decide_eq_true h2, decide_eq_true (by omega)]
        · rw [decide_eq_false h2, decide_eq_false (by omega)]
      rw [e1, e2]
      rfl
    · rw [if_neg h1]
      have e1 : decide (1 ≤ l.length) = false := decide_eq_false (by omega)
      rw [e1]
      rfl
  | succ d ih =>
    intro i hi
    have hw : wrap64 ((i : Int) + 1) = ((i + 1 : Nat) : Int) := by unfold wrap64; omega
    have hlt : i < l.length := by omega
    have hr : rd l (i : Int) = l[i] := by
      unfold rd
      simp [hlt]
    have hd : l.drop i = l[i] :: l.drop (i + 1) := (List.drop_eq_getElem_cons hlt)
    have hs := fun k => sample_eq k l (i : Int) (by omega) (by omega)
    rw [hd, List.all_cons]
    cases hb : smpBad l[i] with
    | false =>
      refine Ev.step (fun k => ?_) (ih (i + 1) (by omega))
      refine (hs k).trans ?_
      rw [hr, hb, hw]
      exact if_pos rfl
    | true =>
      refine Ev.step (f := fun _ => some _) (fun k => ?_) (Ev.now _)
      refine (hs k).trans ?_
      rw [hr, hb]
      rfl
theorem sample_both (l : List Int) (hl : l.length ≤ 1048576) : ∃ v, Ev (fun k => spec_l06Sample.f k l) v ∧ impl_isSample.f l = some v ∧ (v = true → 1 ≤ l.length ∧ l.length ≤ 40) := by
  refine ⟨_, sample_loop l hl l.length 0 (by omega), ?_, fun h => ?_⟩
  · unfold impl_isSample.f
    rw [List.drop_zero, Bool.and_comm]
  · simp only [Bool.and_eq_true, decide_eq_true_eq] at h
    exact h.2
theorem both_both (l1 l2 : List Int) (h1 : l1.length ≤ 1048576) (h2 : l2.length ≤ 1048576) : ∃ v, Ev (fun k => spec_l06Both.f k l1 l2) v ∧ impl_areSamplesOf.f l1 l2 40 = some v ∧ (v = true → 1 ≤ l1.length ∧ l1.length + l2.length ≤ 40) := by
  obtain ⟨v1, e1, f1, g1⟩ := sample_both l1 h1
  obtain ⟨v2, e2, f2, g2⟩ := sample_both l2 h2
  have hw : wrap64 ((l1.length : Int) + (l2.length : Int)) = ((l1.length + l2.length : Nat) : Int) := by unfold wrap64; omega
  cases v1 with
  | false =>
    refine ⟨false, ?_, ?_, fun h => by cases h⟩
    · unfold spec_l06Both.f
      exact Ev.bind e1 (Ev.congr (fun _ => if_neg (by decide)) (Ev.now false))
    · unfold impl_areSamplesOf.f
      rw [f1]; rfl
  | true =>
    cases v2 with
    | false =>
      refine ⟨false, ?_, ?_, fun h => by cases h⟩
      · unfold spec_l06Both.f
        exact Ev.bind e1 (Ev.congr (fun _ => if_pos rfl) (Ev.bind e2 (Ev.congr (fun _ => if_neg (by decide)) (Ev.now false))))
      · unfold impl_areSamplesOf.f
        rw [f1, f2]; rfl
    | true =>
      refine ⟨decide (wrap64 ((l1.length : Int) + (l2.length : Int)) ≤ 40), ?_, ?_, fun h => ?_⟩
      · unfold spec_l06Both.f
        exact Ev.bind e1 (Ev.congr (fun _ => if_pos rfl) (Ev.bind e2 (Ev.congr (fun _ => if_pos rfl) (Ev.now _))))
      · unfold impl_areSamplesOf.f
        rw [f1, f2]; rfl
      · have h := of_decide_eq_true h
        rw [hw] at h
        exact ⟨(g1 rfl).1, by omega⟩
/-! ### copies -/
theorem copy_eq (k : Nat) (l x3 : List Int) (i : Int) (h : i < (l.length : Int)) (h0 : 0 ≤ i) (h1 : i < (x3.length : Int)) : laws_toInt64S.l0 (k + 1) l x3 i = laws_toInt64S.l0 k l (x3.set i.toNat (rd l i)) (wrap64 (i + 1)) := by
  have e : laws_toInt64S.l0 (k + 1) l x3 i = if i < (l.length : Int) then (if 0 ≤ i then (if i < (x3.length : Int) then (laws_toInt64S.l0 k l (x3.set (i : Int).toNat (rd l i)) (wrap64 (i + 1))) else (none)) else (none)) else (some x3) := rfl
  exact e.trans ((if_pos h).trans ((if_pos h0).trans (if_pos h1)))
theorem rd_at (l : List Int) (i : Nat) (h : i < l.length) : rd l (i : Int) = l[i] := by
  unfold rd
  simp [h]
theorem copy_loop (l : List Int) (hl : l.length ≤ 1048576) (d : Nat) : ∀ (i : Nat) (x : List Int), i + d = l.length → x.length = l.length → (∀ j, j < i → x[j]? = l[j]?) → Ev (fun k => laws_toInt64S.l0 k l x (i : Int)) l := by
  induction d with
  | zero =>
    intro i x hi hx hj
    have e : x = l := by
      apply List.ext_getElem?
      intro j
      rcases Nat.lt_or_ge j i with h | h
      · exact hj j h
      · rw [List.getElem?_eq_none (by omega), List.getElem?_eq_none (by omega)]
    refine Ev.step (f := fun _ => some l) (fun k => ?_) (Ev.now _)
    exact (if_neg (by omega)).trans (by rw [e])
  | succ d ih =>
    intro i x hi hx hj
    have hw : wrap64 ((i : Int) + 1) = ((i + 1 : Nat) : Int) := by unfold wrap64; omega
    refine Ev.step (fun k => ?_) (ih (i + 1) (x.set i (rd l (i : Int))) (by omega) (by rw [List.length_set]; exact hx) (fun j hj' => ?_))
    · have := copy_eq k l x (i : Int) (by omega) (by omega) (by omega)
      rw [hw, show ((i : Int)).toNat = i by omega] at this
      exact this
    · rw [List.getElem?_set]
      by_cases h : i = j
      · rw [if_pos h, if_pos (by omega), ← h, rd_at l i (by omega), List.getElem?_eq_getElem (by omega)]
      · rw [if_neg h]; exact hj j (by omega)
theorem copy_ev (l : List Int) (hl : l.length ≤ 1048576) : Ev (fun k => laws_toInt64S.f k l) l := by
  refine Ev.congr (fun k => ?_) (copy_loop l hl l.length 0 (List.replicate ((l.length : Int)).toNat 0) (by omega) (by rw [List.length_replicate]; omega) (fun j hj => absurd hj (Nat.not_lt_zero j)))
  exact (if_pos (show (0 : Int) ≤ (l.length : Int) by omega)).trans (if_pos (by omega))
theorem same_eq (k : Nat) (l : List Int) (i : Int) (h : i < (l.length : Int)) (h0 : 0 ≤ i) : laws_eqInt64S.l0 (k + 1) l l i = laws_eqInt64S.l0 k l l (wrap64 (i + 1)) := by
  have e : laws_eqInt64S.l0 (k + 1) l l i = if i < (l.length : Int) then (if 0 ≤ i then (if i < (l.length : Int) then (if (rd l i) = (rd l i) then (laws_eqInt64S.l0 k l l (wrap64 (i + 1))) else (some false)) else (none)) else (none)) else (some true) := rfl
  exact e.trans ((if_pos h).trans ((if_pos h0).trans ((if_pos h).trans (if_pos (Eq.refl (rd l i))))))
theorem same_loop (l : List Int) (hl : l.length ≤ 1048576) (d : Nat) : ∀ (i : Nat), i + d = l.length → Ev (fun k => laws_eqInt64S.l0 k l l (i : Int)) true := by
  induction d with
  | zero =>
    intro i hi
    exact Ev.step (f := fun _ => some true) (fun k => if_neg (by omega)) (Ev.now _)
  | succ d ih =>
    intro i hi
    have hw : wrap64 ((i : Int) + 1) = ((i + 1 : Nat) : Int) := by unfold wrap64; omega
    refine Ev.step (fun k => ?_) (ih (i + 1) (by omega))
    have := same_eq k l (i : Int) (by omega) (by omega)
    rw [hw] at this
    exact this
theorem same_ev (l : List Int) (hl : l.length ≤ 1048576) : Ev (fun k => laws_eqInt64S.f k l l) true := Ev.congr (fun _ => if_pos rfl) (same_loop l hl l.length 0 (by omega))
/-! ### lists joined -/
theorem c0_eq (k : Nat) (x : List (List Int)) (s m i : Int) (h : i < m) (h0 : 0 ≤ i) (h1 : i < (x.length : Int)) (h2 : ¬ wrap64 (s + ((rd_L4 x i).length : Int)) < 0) : slices_Concat_int64_int64.l0 (k + 1) x s x m i = slices_Concat_int64_int64.l0 k x (wrap64 (s + ((rd_L4 x i).length : Int))) x m (wrap64 (i + 1)) := by
  have e : slices_Concat_int64_int64.l0 (k + 1) x s x m i = if i < m then (if 0 ≤ i then (if i < (x.length : Int) then (if (wrap64 (s + ((rd_L4 x i).length : Int))) < 0 then (none) else (slices_Concat_int64_int64.l0 k x (wrap64 (s + ((rd_L4 x i).length : Int))) x m (wrap64 (i + 1)))) else (none)) else (none)) else ((slices_Grow_int64_int64.f ([] : List Int) s).bind fun t144 => (slices_Concat_int64_int64.l1 k t144 x (x.length : Int) 0)) := rfl
  exact e.trans ((if_pos h).trans ((if_pos h0).trans ((if_pos h1).trans (if_neg h2))))
theorem c0_end (k : Nat) (x : List (List Int)) (s m i : Int) (h : ¬ i < m) (hs : 0 ≤ s ∧ s < 17592186044416) : slices_Concat_int64_int64.l0 (k + 1) x s x m i = slices_Concat_int64_int64.l1 k [] x (x.length : Int) 0 := by
  have e : slices_Concat_int64_int64.l0 (k + 1) x s x m i = if i < m then (if 0 ≤ i then (if i < (x.length : Int) then (if (wrap64 (s + ((rd_L4 x i).length : Int))) < 0 then (none) else (slices_Concat_int64_int64.l0 k x (wrap64 (s + ((rd_L4 x i).length : Int))) x m (wrap64 (i + 1)))) else (none)) else (none)) else ((slices_Grow_int64_int64.f ([] : List Int) s).bind fun t144 => (slices_Concat_int64_int64.l1 k t144 x (x.length : Int) 0)) := rfl
  refine e.trans ((if_neg h).trans ?_)
  unfold slices_Grow_int64_int64.f
  rw [if_pos hs]
  exact Option.bind_some _ _
theorem c1_eq (k : Nat) (y : List Int) (x : List (List Int)) (m i : Int) (h : i < m) (h0 : 0 ≤ i) (h1 : i < (x.length : Int)) (h2 : y.length + (rd_L4 x i).length < 17592186044416) : slices_Concat_int64_int64.l1 (k + 1) y x m i = slices_Concat_int64_int64.l1 k (y ++ rd_L4 x i) x m (wrap64 (i + 1)) := by
  have e : slices_Concat_int64_int64.l1 (k + 1) y x m i = if i < m then (if 0 ≤ i then (if i < (x.length : Int) then (if y.length + (rd_L4 x i).length < 17592186044416 then (slices_Concat_int64_int64.l1 k (y ++ (rd_L4 x i)) x m (wrap64 (i + 1))) else (none)) else (none)) else (none)) else (some y) := rfl
  exact e.trans ((if_pos h).trans ((if_pos h0).trans ((if_pos h1).trans (if_pos h2))))
theorem concat_ev (l1 l2 : List Int) (h : l1.length + l2.length ≤ 40) : Ev (fun k => slices_Concat_int64_int64.f k [l1, l2]) (l1 ++ l2) := by
  have w0 : wrap64 (0 + 1) = 1 := by unfold wrap64; omega
  have w1 : wrap64 (1 + 1) = 2 := by unfold wrap64; omega
  have r0 : rd_L4 [l1, l2] 0 = l1 := rfl
  have r1 : rd_L4 [l1, l2] 1 = l2 := rfl
  have n0 : wrap64 (0 + (l1.length : Int)) = (l1.length : Int) := by unfold wrap64; omega
  have n1 : wrap64 ((l1.length : Int) + (l2.length : Int)) = (l1.length : Int) + (l2.length : Int) := by unfold wrap64; omega
  have hx : (([l1, l2] : List (List Int)).length : Int) = 2 := rfl
  refine ⟨6, fun k hk => ?_⟩
  obtain ⟨m, rfl⟩ : ∃ m, k = m + 6 := ⟨k - 6, by omega⟩
  have e1 := c0_eq (m + 5) [l1, l2] 0 2 0 (by decide) (by decide) (by rw [hx]; decide) (by rw [r0, n0]; omega)
  have e2 := c0_eq (m + 4) [l1, l2] (l1.length : Int) 2 1 (by decide) (by decide) (by rw [hx]; decide) (by rw [r1, n1]; omega)
  have e3 := c0_end (m + 3) [l1, l2] ((l1.length : Int) + (l2.length : Int)) 2 2 (by decide) (by omega)
  have e4 := c1_eq (m + 2) [] [l1, l2] 2 0 (by decide) (by decide) (by rw [hx]; decide) (by rw [r0]; simp only [List.length_nil]; omega)
  have e5 := c1_eq (m + 1) l1 [l1, l2] 2 1 (by decide) (by decide) (by rw [hx]; decide) (by rw [r1]; omega)
  have e6 : slices_Concat_int64_int64.l1 (m + 1) (l1 ++ l2) [l1, l2] 2 2 = some (l1 ++ l2) := if_neg (by decide)
  rw [r0, n0, w0] at e1
  rw [r1, n1, w1] at e2
  rw [hx] at e3
  rw [r0, w0, List.nil_append] at e4
  rw [r1, w1] at e5
  exact e1.trans (e2.trans (e3.trans (e4.trans (e5.trans e6))))
/-! ### the whole -/
theorem j0_true (n : Nat) (l1 l2 : List Int) (t k a b : Int) : impl_DrawnTail.j0 (n + 1) l1 l2 t true k a b = some (0, 0, 0, 0, false) := rfl
theorem j0_false (n : Nat) (l1 l2 : List Int) (t k a b : Int) : impl_DrawnTail.j0 (n + 1) l1 l2 t (!true) k a b = (slices_Concat_int64_int64.f n [l1, l2]).bind fun L => impl_DrawnTail.l0 n l1 L 0 t 0 k a b := rfl
theorem drawn_both (k a b : Int) (l1 l2 : List Int) (t : Int) (ha : 0 ≤ a ∧ a < 18446744073709551616) (hb : 0 ≤ b ∧ b < 18446744073709551616) (h1 : l1.length ≤ 1048576) (h2 : l2.length ≤ 1048576) :
    ∃ r, Ev (fun n => spec_DrawnTail.f n k a b l1 l2 t) r ∧ Ev (fun n => impl_DrawnTail.f n k a b l1 l2 t) r := by
  obtain ⟨v, e1, e2, hv⟩ := valid_both k a b ha hb
  obtain ⟨u, f1, f2, hu⟩ := both_both l1 l2 h1 h2
  have hj : Ev (fun n => impl_DrawnTail.j0 n l1 l2 t true k a b) (0, 0, 0, 0, false) := Ev.step (f := fun _ => some _) (fun n => j0_true n l1 l2 t k a b) (Ev.now _)
  unfold spec_DrawnTail.f impl_DrawnTail.f
  simp only [e1, e2, Option.bind_some]
  cases v with
  | false => exact ⟨(0, 0, 0, 0, false), Ev.congr (fun _ => if_neg (by decide)) (Ev.now _), Ev.congr (fun _ => if_neg (by decide)) hj⟩
  | true =>
    simp only [f2, Option.bind_some, if_true]
    cases u with
    | false => exact ⟨(0, 0, 0, 0, false), Ev.bind f1 (Ev.congr (fun _ => if_neg (by decide)) (Ev.now _)), Ev.congr (fun _ => if_neg (by decide)) hj⟩
    | true =>
      have ht : ∃ w, spec_l00In.f t 0 1000 = some w ∧ impl_within.f t 0 1000 = some w ∧ (w = true → 0 ≤ t ∧ t ≤ 1000) := by
        unfold spec_l00In.f impl_within.f
        by_cases h : t ≥ 0
        · rw [if_pos h]
          exact ⟨_, rfl, rfl, fun hw => ⟨h, of_decide_eq_true hw⟩⟩
        · rw [if_neg h]
          exact ⟨_, rfl, rfl, fun hw => by cases hw⟩
      obtain ⟨w, g1, g2, hw⟩ := ht
      simp only [g2, Option.bind_some, if_true]
      cases w with
      | false =>
        refine ⟨(0, 0, 0, 0, false), Ev.bind f1 (Ev.congr (fun _ => if_pos rfl) ?_), hj⟩
        simp only [g1, Option.bind_some]
        exact Ev.congr (fun _ => if_neg (by decide)) (Ev.now _)
      | true =>
        obtain ⟨kind, p, rfl, rfl, rfl, hvd⟩ := hv rfl
        obtain ⟨hl, hL⟩ := hu rfl
        obtain ⟨ht0, ht1⟩ := hw rfl
        obtain ⟨tn, rfl⟩ : ∃ n : Nat, t = (n : Int) := ⟨t.toNat, by omega⟩
        obtain ⟨own, o1, o2⟩ := sum_both l1 l1.length (Nat.le_refl _) (by omega)
        rw [List.take_length] at o2
        have hlen : (l1 ++ l2).length = l1.length + l2.length := List.length_append
        obtain ⟨n', p', q1, q2⟩ := tails_loop kind l1 (l1 ++ l2) (by omega) (by omega) (by omega) own o2 tn (by omega) tn 0 0 p (by omega) hvd
        refine ⟨_, Ev.bind f1 (Ev.congr (fun _ => if_pos rfl) ?_), Ev.step (fun n => j0_false n l1 l2 _ _ _ _) (Ev.bind (concat_ev l1 l2 hL) q2)⟩
        simp only [g1, Option.bind_some]
        refine Ev.congr (fun _ => if_pos trivial) ?_
        have hjoin : spec_l06Joined.f l1 l2 = some (l1 ++ l2) := by
          unfold spec_l06Joined.f
          refine (Option.bind_some _ _).trans ((if_pos (by simp only [List.length_nil]; omega)).trans ((Option.bind_some _ _).trans ((if_pos (by simp only [List.nil_append]; omega)).trans ?_)))
          rfl
        rw [hjoin]
        simp only [Option.bind_some]
        exact Ev.bind o1 (Ev.congr (fun _ => if_pos (by omega)) q1)
theorem drawn_pure (k a b : Int) (l1 l2 : List Int) (t : Int) (ha : 0 ≤ a ∧ a < 18446744073709551616) (hb : 0 ≤ b ∧ b < 18446744073709551616) : ∃ n, laws_FnExactDrawnTail.f n k a b l1 l2 t = some true := by
  apply Ev.rounds
  unfold laws_FnExactDrawnTail.f
  by_cases h1 : (l1.length : Int) > 1048576
  · exact Ev.congr (fun _ => if_pos h1) (Ev.now _)
  · refine Ev.congr (fun _ => if_neg h1) ?_
    by_cases h2 : (l2.length : Int) > 1048576
    · exact Ev.congr (fun _ => if_pos h2) (Ev.now _)
    · refine Ev.congr (fun _ => if_neg h2) ?_
      have c1 := copy_ev l1 (by omega)
      have c2 := copy_ev l2 (by omega)
      have s1 := same_ev l1 (by omega)
      have s2 := same_ev l2 (by omega)
      obtain ⟨⟨r1, r2, r3, r4, r5⟩, d1, d2⟩ := drawn_both k a b l1 l2 t ha hb (by omega) (by omega)
      unfold laws_toSeed.f
      simp only [Option.bind_some]
      refine Ev.bind c1 (Ev.bind c2 (Ev.bind d1 (Ev.bind c1 (Ev.bind c2 (Ev.bind d2 ?_)))))
      have he : laws_eqSeed.f r1 r2 r3 r1 r2 r3 = some true := by
        unfold laws_eqSeed.f
        rw [if_pos rfl, if_pos rfl, if_pos rfl]
      simp only [he, Option.bind_some, if_true, bne_self_eq_false]
      refine Ev.step (f := fun n => ((laws_toInt64S.f n l1).bind fun t244 => ((laws_eqInt64S.f n l1 t244).bind fun t247 => (if t247 = true then ((laws_toInt64S.f n l2).bind fun t248 => ((laws_eqInt64S.f n l2 t248).bind fun t251 => (if t251 = true then (some true) else (some false)))) else (some false))))) (fun n => rfl) ?_
      refine Ev.bind c1 (Ev.bind s1 (Ev.congr (fun _ => if_pos rfl) ?_))
      exact Ev.bind c2 (Ev.bind s2 (Ev.congr (fun _ => if_pos rfl) (Ev.now _)))
end Go.Proofs.Ytoflcfkiknmhmaa.D
