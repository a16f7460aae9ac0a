/- Blocks 10400 to 15599 of the countB are fine: run by the kernel. -/
import Derived.Test.YtoflcfkiknmhmaaRejE
namespace Rej
set_option maxRecDepth 100000
set_option maxHeartbeats 100000000
theorem Kwarm2 : Nat.beq (Nat.shiftLeft 1 260000000) 0 = false := by decide +kernel
theorem Kp2_0 : AllOk countB 10400 400 := by
  repeat (refine all_step ?_ (by decide +kernel))
  exact all_zero
theorem Kr2_0 : AllOk countB 10400 400 := Kp2_0
theorem Kp2_1 : AllOk countB 10800 400 := by
  repeat (refine all_step ?_ (by decide +kernel))
  exact all_zero
theorem Kr2_1 : AllOk countB 10400 800 := all_app Kr2_0 Kp2_1
theorem Kp2_2 : AllOk countB 11200 400 := by
  repeat (refine all_step ?_ (by decide +kernel))
  exact all_zero
theorem Kr2_2 : AllOk countB 10400 1200 := all_app Kr2_1 Kp2_2
theorem Kp2_3 : AllOk countB 11600 400 := by
  repeat (refine all_step ?_ (by decide +kernel))
  exact all_zero
theorem Kr2_3 : AllOk countB 10400 1600 := all_app Kr2_2 Kp2_3
theorem Kp2_4 : AllOk countB 12000 400 := by
  repeat (refine all_step ?_ (by decide +kernel))
  exact all_zero
theorem Kr2_4 : AllOk countB 10400 2000 := all_app Kr2_3 Kp2_4
theorem Kp2_5 : AllOk countB 12400 400 := by
  repeat (refine all_step ?_ (by decide +kernel))
  exact all_zero
theorem Kr2_5 : AllOk countB 10400 2400 := all_app Kr2_4 Kp2_5
theorem Kp2_6 : AllOk countB 12800 400 := by
  repeat (refine all_step ?_ (by decide +kernel))
  exact all_zero
theorem Kr2_6 : AllOk countB 10400 2800 := all_app Kr2_5 Kp2_6
theorem Kp2_7 : AllOk countB 13200 400 := by
  repeat (refine all_step ?_ (by decide +kernel))
  exact all_zero
theorem Kr2_7 : AllOk countB 10400 3200 := all_app Kr2_6 Kp2_7
theorem Kp2_8 : AllOk countB 13600 400 := by
  repeat (refine all_step ?_ (by decide +kernel))
  exact all_zero
theorem Kr2_8 : AllOk countB 10400 3600 := all_app Kr2_7 Kp2_8
theorem Kp2_9 : AllOk countB 14000 400 := by
  repeat (refine all_step ?_ (by decide +kernel))
  exact all_zero
theorem Kr2_9 : AllOk countB 10400 4000 := all_app Kr2_8 Kp2_9
theorem Kp2_10 : AllOk countB 14400 400 := by
  repeat (refine all_step ?_ (by decide +kernel))
  exact all_zero
theorem Kr2_10 : AllOk countB 10400 4400 := all_app Kr2_9 Kp2_10
theorem Kp2_11 : AllOk countB 14800 400 := by
  repeat (refine all_step ?_ (by decide +kernel))
  exact all_zero
theorem Kr2_11 : AllOk countB 10400 4800 := all_app Kr2_10 Kp2_11
theorem Kp2_12 : AllOk countB 15200 400 := by
  repeat (refine all_step ?_ (by decide +kernel))
  exact all_zero
theorem Kr2_12 : AllOk countB 10400 5200 := all_app Kr2_11 Kp2_12
theorem Kfile2 : AllOk countB 10400 5200 := Kr2_12
end Rej
