/- Blocks 0 to 391 of the pairB are fine: run by the kernel. -/
import Derived.Test.YtoflcfkiknmhmaaRejE
namespace Rej
set_option maxRecDepth 100000
set_option maxHeartbeats 100000000
theorem Qwarm0 : Nat.beq (Nat.shiftLeft 1 260000000) 0 = false := by decide +kernel
theorem Qp0_0 : AllOk pairB 0 28 := by
  repeat (refine all_step ?_ (by decide +kernel))
  exact all_zero
theorem Qr0_0 : AllOk pairB 0 28 := Qp0_0
theorem Qp0_1 : AllOk pairB 28 28 := by
  repeat (refine all_step ?_ (by decide +kernel))
  exact all_zero
theorem Qr0_1 : AllOk pairB 0 56 := all_app Qr0_0 Qp0_1
theorem Qp0_2 : AllOk pairB 56 28 := by
  repeat (refine all_step ?_ (by decide +kernel))
  exact all_zero
theorem Qr0_2 : AllOk pairB 0 84 := all_app Qr0_1 Qp0_2
theorem Qp0_3 : AllOk pairB 84 28 := by
  repeat (refine all_step ?_ (by decide +kernel))
  exact all_zero
theorem Qr0_3 : AllOk pairB 0 112 := all_app Qr0_2 Qp0_3
theorem Qp0_4 : AllOk pairB 112 28 := by
  repeat (refine all_step ?_ (by decide +kernel))
  exact all_zero
theorem Qr0_4 : AllOk pairB 0 140 := all_app Qr0_3 Qp0_4
theorem Qp0_5 : AllOk pairB 140 28 := by
  repeat (refine all_step ?_ (by decide +kernel))
  exact all_zero
theorem Qr0_5 : AllOk pairB 0 168 := all_app Qr0_4 Qp0_5
theorem Qp0_6 : AllOk pairB 168 28 := by
  repeat (refine all_step ?_ (by decide +kernel))
  exact all_zero
theorem Qr0_6 : AllOk pairB 0 196 := all_app Qr0_5 Qp0_6
theorem Qp0_7 : AllOk pairB 196 28 := by
  repeat (refine all_step ?_ (by decide +kernel))
  exact all_zero
theorem Qr0_7 : AllOk pairB 0 224 := all_app Qr0_6 Qp0_7
theorem Qp0_8 : AllOk pairB 224 28 := by
  repeat (refine all_step ?_ (by decide +kernel))
  exact all_zero
theorem Qr0_8 : AllOk pairB 0 252 := all_app Qr0_7 Qp0_8
theorem Qp0_9 : AllOk pairB 252 28 := by
  repeat (refine all_step ?_ (by decide +kernel))
  exact all_zero
theorem Qr0_9 : AllOk pairB 0 280 := all_app Qr0_8 Qp0_9
theorem Qp0_10 : AllOk pairB 280 28 := by
  repeat (refine all_step ?_ (by decide +kernel))
  exact all_zero
theorem Qr0_10 : AllOk pairB 0 308 := all_app Qr0_9 Qp0_10
theorem Qp0_11 : AllOk pairB 308 28 := by
  repeat (refine all_step ?_ (by decide +kernel))
  exact all_zero
theorem Qr0_11 : AllOk pairB 0 336 := all_app Qr0_10 Qp0_11
theorem Qp0_12 : AllOk pairB 336 28 := by
  repeat (refine all_step ?_ (by decide +kernel))
  exact all_zero
theorem Qr0_12 : AllOk pairB 0 364 := all_app Qr0_11 Qp0_12
theorem Qp0_13 : AllOk pairB 364 28 := by
  repeat (refine all_step ?_ (by decide +kernel))
  exact all_zero
theorem Qr0_13 : AllOk pairB 0 392 := all_app Qr0_12 Qp0_13
theorem Qfile0 : AllOk pairB 0 392 := Qr0_13
end Rej
