/- Blocks 5200 to 10399 of the countB are fine: run by the kernel. -/
import Derived.Test.YtoflcfkiknmhmaaRejE
namespace Rej
set_option maxRecDepth 100000
set_option maxHeartbeats 100000000
theorem Kwarm1 : Nat.beq (Nat.shiftLeft 1 260000000) 0 = false := by decide +kernel
theorem Kp1_0 : AllOk countB 5200 400 := by
  repeat (refine all_step ?_ (by decide +kernel))
  exact all_zero
theorem Kr1_0 : AllOk countB 5200 400 := Kp1_0
theorem Kp1_1 : AllOk countB 5600 400 := by
  repeat (refine all_step ?_ (by decide +kernel))
  exact all_zero
theorem Kr1_1 : AllOk countB 5200 800 := all_app Kr1_0 Kp1_1
theorem Kp1_2 : AllOk countB 6000 400 := by
  repeat (refine all_step ?_ (by decide +kernel))
  exact all_zero
theorem Kr1_2 : AllOk countB 5200 1200 := all_app Kr1_1 Kp1_2
theorem Kp1_3 : AllOk countB 6400 400 := by
  repeat (refine all_step ?_ (by decide +kernel))
  exact all_zero
theorem Kr1_3 : AllOk countB 5200 1600 := all_app Kr1_2 Kp1_3
theorem Kp1_4 : AllOk countB 6800 400 := by
  repeat (refine all_step ?_ (by decide +kernel))
  exact all_zero
theorem Kr1_4 : AllOk countB 5200 2000 := all_app Kr1_3 Kp1_4
theorem Kp1_5 : AllOk countB 7200 400 := by
  repeat (refine all_step ?_ (by decide +kernel))
  exact all_zero
theorem Kr1_5 : AllOk countB 5200 2400 := all_app Kr1_4 Kp1_5
theorem Kp1_6 : AllOk countB 7600 400 := by
  repeat (refine all_step ?_ (by decide +kernel))
  exact all_zero
theorem Kr1_6 : AllOk countB 5200 2800 := all_app Kr1_5 Kp1_6
theorem Kp1_7 : AllOk countB 8000 400 := by
  repeat (refine all_step ?_ (by decide +kernel))
  exact all_zero
theorem Kr1_7 : AllOk countB 5200 3200 := all_app Kr1_6 Kp1_7
theorem Kp1_8 : AllOk countB 8400 400 := by
  repeat (refine all_step ?_ (by decide +kernel))
  exact all_zero
theorem Kr1_8 : AllOk countB 5200 3600 := all_app Kr1_7 Kp1_8
theorem Kp1_9 : AllOk countB 8800 400 := by
  repeat (refine all_step ?_ (by decide +kernel))
  exact all_zero
theorem Kr1_9 : AllOk countB 5200 4000 := all_app Kr1_8 Kp1_9
theorem Kp1_10 : AllOk countB 9200 400 := by
  repeat (refine all_step ?_ (by decide +kernel))
  exact all_zero
theorem Kr1_10 : AllOk countB 5200 4400 := all_app Kr1_9 Kp1_10
theorem Kp1_11 : AllOk countB 9600 400 := by
  repeat (refine all_step ?_ (by decide +kernel))
  exact all_zero
theorem Kr1_11 : AllOk countB 5200 4800 := all_app Kr1_10 Kp1_11
theorem Kp1_12 : AllOk countB 10000 400 := by
  repeat (refine all_step ?_ (by decide +kernel))
  exact all_zero
theorem Kr1_12 : AllOk countB 5200 5200 := all_app Kr1_11 Kp1_12
theorem Kfile1 : AllOk countB 5200 5200 := Kr1_12
end Rej
