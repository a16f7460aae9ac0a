/- Blocks 15600 to 20576 of the countB are fine: run by the kernel. -/
import Derived.Test.YtoflcfkiknmhmaaRejE
namespace Rej
set_option maxRecDepth 100000
set_option maxHeartbeats 100000000
theorem Kwarm3 : Nat.beq (Nat.shiftLeft 1 260000000) 0 = false := by decide +kernel
theorem Kp3_0 : AllOk countB 15600 400 := by
  repeat (refine all_step ?_ (by decide +kernel))
  exact all_zero
theorem Kr3_0 : AllOk countB 15600 400 := Kp3_0
theorem Kp3_1 : AllOk countB 16000 400 := by
  repeat (refine all_step ?_ (by decide +kernel))
  exact all_zero
theorem Kr3_1 : AllOk countB 15600 800 := all_app Kr3_0 Kp3_1
theorem Kp3_2 : AllOk countB 16400 400 := by
  repeat (refine all_step ?_ (by decide +kernel))
  exact all_zero
theorem Kr3_2 : AllOk countB 15600 1200 := all_app Kr3_1 Kp3_2
theorem Kp3_3 : AllOk countB 16800 400 := by
  repeat (refine all_step ?_ (by decide +kernel))
  exact all_zero
theorem Kr3_3 : AllOk countB 15600 1600 := all_app Kr3_2 Kp3_3
theorem Kp3_4 : AllOk countB 17200 400 := by
  repeat (refine all_step ?_ (by decide +kernel))
  exact all_zero
theorem Kr3_4 : AllOk countB 15600 2000 := all_app Kr3_3 Kp3_4
theorem Kp3_5 : AllOk countB 17600 400 := by
  repeat (refine all_step ?_ (by decide +kernel))
  exact all_zero
theorem Kr3_5 : AllOk countB 15600 2400 := all_app Kr3_4 Kp3_5
theorem Kp3_6 : AllOk countB 18000 400 := by
  repeat (refine all_step ?_ (by decide +kernel))
  exact all_zero
theorem Kr3_6 : AllOk countB 15600 2800 := all_app Kr3_5 Kp3_6
theorem Kp3_7 : AllOk countB 18400 400 := by
  repeat (refine all_step ?_ (by decide +kernel))
  exact all_zero
theorem Kr3_7 : AllOk countB 15600 3200 := all_app Kr3_6 Kp3_7
theorem Kp3_8 : AllOk countB 18800 400 := by
  repeat (refine all_step ?_ (by decide +kernel))
  exact all_zero
theorem Kr3_8 : AllOk countB 15600 3600 := all_app Kr3_7 Kp3_8
theorem Kp3_9 : AllOk countB 19200 400 := by
  repeat (refine all_step ?_ (by decide +kernel))
  exact all_zero
theorem Kr3_9 : AllOk countB 15600 4000 := all_app Kr3_8 Kp3_9
theorem Kp3_10 : AllOk countB 19600 400 := by
  repeat (refine all_step ?_ (by decide +kernel))
  exact all_zero
theorem Kr3_10 : AllOk countB 15600 4400 := all_app Kr3_9 Kp3_10
theorem Kp3_11 : AllOk countB 20000 400 := by
  repeat (refine all_step ?_ (by decide +kernel))
  exact all_zero
theorem Kr3_11 : AllOk countB 15600 4800 := all_app Kr3_10 Kp3_11
theorem Kp3_12 : AllOk countB 20400 177 := by
  repeat (refine all_step ?_ (by decide +kernel))
  exact all_zero
theorem Kr3_12 : AllOk countB 15600 4977 := all_app Kr3_11 Kp3_12
theorem Kfile3 : AllOk countB 15600 4977 := Kr3_12
end Rej
