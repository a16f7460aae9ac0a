/- Blocks 11600 to 23199 of the shiftB are fine: run by the kernel. -/
import Derived.Test.YtoflcfkiknmhmaaRejE
namespace Rej
set_option maxRecDepth 100000
set_option maxHeartbeats 100000000
theorem Swarm1 : Nat.beq (Nat.shiftLeft 1 260000000) 0 = false := by decide +kernel
theorem Sp1_0 : AllOk shiftB 11600 400 := by
  repeat (refine all_step ?_ (by decide +kernel))
  exact all_zero
theorem Sr1_0 : AllOk shiftB 11600 400 := Sp1_0
theorem Sp1_1 : AllOk shiftB 12000 400 := by
  repeat (refine all_step ?_ (by decide +kernel))
  exact all_zero
theorem Sr1_1 : AllOk shiftB 11600 800 := all_app Sr1_0 Sp1_1
theorem Sp1_2 : AllOk shiftB 12400 400 := by
  repeat (refine all_step ?_ (by decide +kernel))
  exact all_zero
theorem Sr1_2 : AllOk shiftB 11600 1200 := all_app Sr1_1 Sp1_2
theorem Sp1_3 : AllOk shiftB 12800 400 := by
  repeat (refine all_step ?_ (by decide +kernel))
  exact all_zero
theorem Sr1_3 : AllOk shiftB 11600 1600 := all_app Sr1_2 Sp1_3
theorem Sp1_4 : AllOk shiftB 13200 400 := by
  repeat (refine all_step ?_ (by decide +kernel))
  exact all_zero
theorem Sr1_4 : AllOk shiftB 11600 2000 := all_app Sr1_3 Sp1_4
theorem Sp1_5 : AllOk shiftB 13600 400 := by
  repeat (refine all_step ?_ (by decide +kernel))
  exact all_zero
theorem Sr1_5 : AllOk shiftB 11600 2400 := all_app Sr1_4 Sp1_5
theorem Sp1_6 : AllOk shiftB 14000 400 := by
  repeat (refine all_step ?_ (by decide +kernel))
  exact all_zero
theorem Sr1_6 : AllOk shiftB 11600 2800 := all_app Sr1_5 Sp1_6
theorem Sp1_7 : AllOk shiftB 14400 400 := by
  repeat (refine all_step ?_ (by decide +kernel))
  exact all_zero
theorem Sr1_7 : AllOk shiftB 11600 3200 := all_app Sr1_6 Sp1_7
theorem Sp1_8 : AllOk shiftB 14800 400 := by
  repeat (refine all_step ?_ (by decide +kernel))
  exact all_zero
theorem Sr1_8 : AllOk shiftB 11600 3600 := all_app Sr1_7 Sp1_8
theorem Sp1_9 : AllOk shiftB 15200 400 := by
  repeat (refine all_step ?_ (by decide +kernel))
  exact all_zero
theorem Sr1_9 : AllOk shiftB 11600 4000 := all_app Sr1_8 Sp1_9
theorem Sp1_10 : AllOk shiftB 15600 400 := by
  repeat (refine all_step ?_ (by decide +kernel))
  exact all_zero
theorem Sr1_10 : AllOk shiftB 11600 4400 := all_app Sr1_9 Sp1_10
theorem Sp1_11 : AllOk shiftB 16000 400 := by
  repeat (refine all_step ?_ (by decide +kernel))
  exact all_zero
theorem Sr1_11 : AllOk shiftB 11600 4800 := all_app Sr1_10 Sp1_11
theorem Sp1_12 : AllOk shiftB 16400 400 := by
  repeat (refine all_step ?_ (by decide +kernel))
  exact all_zero
theorem Sr1_12 : AllOk shiftB 11600 5200 := all_app Sr1_11 Sp1_12
theorem Sp1_13 : AllOk shiftB 16800 400 := by
  repeat (refine all_step ?_ (by decide +kernel))
  exact all_zero
theorem Sr1_13 : AllOk shiftB 11600 5600 := all_app Sr1_12 Sp1_13
theorem Sp1_14 : AllOk shiftB 17200 400 := by
  repeat (refine all_step ?_ (by decide +kernel))
  exact all_zero
theorem Sr1_14 : AllOk shiftB 11600 6000 := all_app Sr1_13 Sp1_14
theorem Sp1_15 : AllOk shiftB 17600 400 := by
  repeat (refine all_step ?_ (by decide +kernel))
  exact all_zero
theorem Sr1_15 : AllOk shiftB 11600 6400 := all_app Sr1_14 Sp1_15
theorem Sp1_16 : AllOk shiftB 18000 400 := by
  repeat (refine all_step ?_ (by decide +kernel))
  exact all_zero
theorem Sr1_16 : AllOk shiftB 11600 6800 := all_app Sr1_15 Sp1_16
theorem Sp1_17 : AllOk shiftB 18400 400 := by
  repeat (refine all_step ?_ (by decide +kernel))
  exact all_zero
theorem Sr1_17 : AllOk shiftB 11600 7200 := all_app Sr1_16 Sp1_17
theorem Sp1_18 : AllOk shiftB 18800 400 := by
  repeat (refine all_step ?_ (by decide +kernel))
  exact all_zero
theorem Sr1_18 : AllOk shiftB 11600 7600 := all_app Sr1_17 Sp1_18
theorem Sp1_19 : AllOk shiftB 19200 400 := by
  repeat (refine all_step ?_ (by decide +kernel))
  exact all_zero
theorem Sr1_19 : AllOk shiftB 11600 8000 := all_app Sr1_18 Sp1_19
theorem Sp1_20 : AllOk shiftB 19600 400 := by
  repeat (refine all_step ?_ (by decide +kernel))
  exact all_zero
theorem Sr1_20 : AllOk shiftB 11600 8400 := all_app Sr1_19 Sp1_20
theorem Sp1_21 : AllOk shiftB 20000 400 := by
  repeat (refine all_step ?_ (by decide +kernel))
  exact all_zero
theorem Sr1_21 : AllOk shiftB 11600 8800 := all_app Sr1_20 Sp1_21
theorem Sp1_22 : AllOk shiftB 20400 400 := by
  repeat (refine all_step ?_ (by decide +kernel))
  exact all_zero
theorem Sr1_22 : AllOk shiftB 11600 9200 := all_app Sr1_21 Sp1_22
theorem Sp1_23 : AllOk shiftB 20800 400 := by
  repeat (refine all_step ?_ (by decide +kernel))
  exact all_zero
theorem Sr1_23 : AllOk shiftB 11600 9600 := all_app Sr1_22 Sp1_23
theorem Sp1_24 : AllOk shiftB 21200 400 := by
  repeat (refine all_step ?_ (by decide +kernel))
  exact all_zero
theorem Sr1_24 : AllOk shiftB 11600 10000 := all_app Sr1_23 Sp1_24
theorem Sp1_25 : AllOk shiftB 21600 400 := by
  repeat (refine all_step ?_ (by decide +kernel))
  exact all_zero
theorem Sr1_25 : AllOk shiftB 11600 10400 := all_app Sr1_24 Sp1_25
theorem Sp1_26 : AllOk shiftB 22000 400 := by
  repeat (refine all_step ?_ (by decide +kernel))
  exact all_zero
theorem Sr1_26 : AllOk shiftB 11600 10800 := all_app Sr1_25 Sp1_26
theorem Sp1_27 : AllOk shiftB 22400 400 := by
  repeat (refine all_step ?_ (by decide +kernel))
  exact all_zero
theorem Sr1_27 : AllOk shiftB 11600 11200 := all_app Sr1_26 Sp1_27
theorem Sp1_28 : AllOk shiftB 22800 400 := by
  repeat (refine all_step ?_ (by decide +kernel))
  exact all_zero
theorem Sr1_28 : AllOk shiftB 11600 11600 := all_app Sr1_27 Sp1_28
theorem Sfile1 : AllOk shiftB 11600 11600 := Sr1_28
end Rej
