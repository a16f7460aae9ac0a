/- Blocks 0 to 5199 of the countB are fine: run by the kernel. -/
import Derived.Test.YtoflcfkiknmhmaaRejE
namespace Rej
set_option maxRecDepth 100000
set_option maxHeartbeats 100000000
theorem Kwarm0 : Nat.beq (Nat.shiftLeft 1 260000000) 0 = false := by decide +kernel
theorem Kp0_0 : AllOk countB 0 400 := by
  repeat (refine all_step ?_ (by decide +kernel))
  exact all_zero
theorem Kr0_0 : AllOk countB 0 400 := Kp0_0
theorem Kp0_1 : AllOk countB 400 400 := by
  repeat (refine all_step ?_ (by decide +kernel))
  exact all_zero
theorem Kr0_1 : AllOk countB 0 800 := all_app Kr0_0 Kp0_1
theorem Kp0_2 : AllOk countB 800 400 := by
  repeat (refine all_step ?_ (by decide +kernel))
  exact all_zero
theorem Kr0_2 : AllOk countB 0 1200 := all_app Kr0_1 Kp0_2
theorem Kp0_3 : AllOk countB 1200 400 := by
  repeat (refine all_step ?_ (by decide +kernel))
  exact all_zero
theorem Kr0_3 : AllOk countB 0 1600 := all_app Kr0_2 Kp0_3
theorem Kp0_4 : AllOk countB 1600 400 := by
  repeat (refine all_step ?_ (by decide +kernel))
  exact all_zero
theorem Kr0_4 : AllOk countB 0 2000 := all_app Kr0_3 Kp0_4
theorem Kp0_5 : AllOk countB 2000 400 := by
  repeat (refine all_step ?_ (by decide +kernel))
  exact all_zero
theorem Kr0_5 : AllOk countB 0 2400 := all_app Kr0_4 Kp0_5
theorem Kp0_6 : AllOk countB 2400 400 := by
  repeat (refine all_step ?_ (by decide +kernel))
  exact all_zero
theorem Kr0_6 : AllOk countB 0 2800 := all_app Kr0_5 Kp0_6
theorem Kp0_7 : AllOk countB 2800 400 := by
  repeat (refine all_step ?_ (by decide +kernel))
  exact all_zero
theorem Kr0_7 : AllOk countB 0 3200 := all_app Kr0_6 Kp0_7
theorem Kp0_8 : AllOk countB 3200 400 := by
  repeat (refine all_step ?_ (by decide +kernel))
  exact all_zero
theorem Kr0_8 : AllOk countB 0 3600 := all_app Kr0_7 Kp0_8
theorem Kp0_9 : AllOk countB 3600 400 := by
  repeat (refine all_step ?_ (by decide +kernel))
  exact all_zero
theorem Kr0_9 : AllOk countB 0 4000 := all_app Kr0_8 Kp0_9
theorem Kp0_10 : AllOk countB 4000 400 := by
  repeat (refine all_step ?_ (by decide +kernel))
  exact all_zero
theorem Kr0_10 : AllOk countB 0 4400 := all_app Kr0_9 Kp0_10
theorem Kp0_11 : AllOk countB 4400 400 := by
  repeat (refine all_step ?_ (by decide +kernel))
  exact all_zero
theorem Kr0_11 : AllOk countB 0 4800 := all_app Kr0_10 Kp0_11
theorem Kp0_12 : AllOk countB 4800 400 := by
  repeat (refine all_step ?_ (by decide +kernel))
  exact all_zero
theorem Kr0_12 : AllOk countB 0 5200 := all_app Kr0_11 Kp0_12
theorem Kfile0 : AllOk countB 0 5200 := Kr0_12
end Rej
