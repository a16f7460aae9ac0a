/- Blocks 392 to 783 of the pairB are fine: run by the kernel. -/
import Derived.Test.YtoflcfkiknmhmaaRejE
namespace Rej
set_option maxRecDepth 100000
set_option maxHeartbeats 100000000
theorem Qwarm1 : Nat.beq (Nat.shiftLeft 1 260000000) 0 = false := by decide +kernel
theorem Qp1_0 : AllOk pairB 392 28 := by
  repeat (refine all_step ?_ (by decide +kernel))
  exact all_zero
theorem Qr1_0 : AllOk pairB 392 28 := Qp1_0
theorem Qp1_1 : AllOk pairB 420 28 := by
  repeat (refine all_step ?_ (by decide +kernel))
  exact all_zero
theorem Qr1_1 : AllOk pairB 392 56 := all_app Qr1_0 Qp1_1
theorem Qp1_2 : AllOk pairB 448 28 := by
  repeat (refine all_step ?_ (by decide +kernel))
  exact all_zero
theorem Qr1_2 : AllOk pairB 392 84 := all_app Qr1_1 Qp1_2
theorem Qp1_3 : AllOk pairB 476 28 := by
  repeat (refine all_step ?_ (by decide +kernel))
  exact all_zero
theorem Qr1_3 : AllOk pairB 392 112 := all_app Qr1_2 Qp1_3
theorem Qp1_4 : AllOk pairB 504 28 := by
  repeat (refine all_step ?_ (by decide +kernel))
  exact all_zero
theorem Qr1_4 : AllOk pairB 392 140 := all_app Qr1_3 Qp1_4
theorem Qp1_5 : AllOk pairB 532 28 := by
  repeat (refine all_step ?_ (by decide +kernel))
  exact all_zero
theorem Qr1_5 : AllOk pairB 392 168 := all_app Qr1_4 Qp1_5
theorem Qp1_6 : AllOk pairB 560 28 := by
  repeat (refine all_step ?_ (by decide +kernel))
  exact all_zero
theorem Qr1_6 : AllOk pairB 392 196 := all_app Qr1_5 Qp1_6
theorem Qp1_7 : AllOk pairB 588 28 := by
  repeat (refine all_step ?_ (by decide +kernel))
  exact all_zero
theorem Qr1_7 : AllOk pairB 392 224 := all_app Qr1_6 Qp1_7
theorem Qp1_8 : AllOk pairB 616 28 := by
  repeat (refine all_step ?_ (by decide +kernel))
  exact all_zero
theorem Qr1_8 : AllOk pairB 392 252 := all_app Qr1_7 Qp1_8
theorem Qp1_9 : AllOk pairB 644 28 := by
  repeat (refine all_step ?_ (by decide +kernel))
  exact all_zero
theorem Qr1_9 : AllOk pairB 392 280 := all_app Qr1_8 Qp1_9
theorem Qp1_10 : AllOk pairB 672 28 := by
  repeat (refine all_step ?_ (by decide +kernel))
  exact all_zero
theorem Qr1_10 : AllOk pairB 392 308 := all_app Qr1_9 Qp1_10
theorem Qp1_11 : AllOk pairB 700 28 := by
  repeat (refine all_step ?_ (by decide +kernel))
  exact all_zero
theorem Qr1_11 : AllOk pairB 392 336 := all_app Qr1_10 Qp1_11
theorem Qp1_12 : AllOk pairB 728 28 := by
  repeat (refine all_step ?_ (by decide +kernel))
  exact all_zero
theorem Qr1_12 : AllOk pairB 392 364 := all_app Qr1_11 Qp1_12
theorem Qp1_13 : AllOk pairB 756 28 := by
  repeat (refine all_step ?_ (by decide +kernel))
  exact all_zero
theorem Qr1_13 : AllOk pairB 392 392 := all_app Qr1_12 Qp1_13
theorem Qfile1 : AllOk pairB 392 392 := Qr1_13
end Rej
