/- Blocks 58000 to 69599 of the shiftB are fine: run by the kernel. -/
import Derived.Test.YtoflcfkiknmhmaaRejE
namespace Rej
set_option maxRecDepth 100000
set_option maxHeartbeats 100000000
theorem Swarm5 : Nat.beq (Nat.shiftLeft 1 260000000) 0 = false := by decide +kernel
theorem Sp5_0 : AllOk shiftB 58000 400 := by
  repeat (refine all_step ?_ (by decide +kernel))
  exact all_zero
theorem Sr5_0 : AllOk shiftB 58000 400 := Sp5_0
theorem Sp5_1 : AllOk shiftB 58400 400 := by
  repeat (refine all_step ?_ (by decide +kernel))
  exact all_zero
theorem Sr5_1 : AllOk shiftB 58000 800 := all_app Sr5_0 Sp5_1
theorem Sp5_2 : AllOk shiftB 58800 400 := by
  repeat (refine all_step ?_ (by decide +kernel))
  exact all_zero
theorem Sr5_2 : AllOk shiftB 58000 1200 := all_app Sr5_1 Sp5_2
theorem Sp5_3 : AllOk shiftB 59200 400 := by
  repeat (refine all_step ?_ (by decide +kernel))
  exact all_zero
theorem Sr5_3 : AllOk shiftB 58000 1600 := all_app Sr5_2 Sp5_3
theorem Sp5_4 : AllOk shiftB 59600 400 := by
  repeat (refine all_step ?_ (by decide +kernel))
  exact all_zero
theorem Sr5_4 : AllOk shiftB 58000 2000 := all_app Sr5_3 Sp5_4
theorem Sp5_5 : AllOk shiftB 60000 400 := by
  repeat (refine all_step ?_ (by decide +kernel))
  exact all_zero
theorem Sr5_5 : AllOk shiftB 58000 2400 := all_app Sr5_4 Sp5_5
theorem Sp5_6 : AllOk shiftB 60400 400 := by
  repeat (refine all_step ?_ (by decide +kernel))
  exact all_zero
theorem Sr5_6 : AllOk shiftB 58000 2800 := all_app Sr5_5 Sp5_6
theorem Sp5_7 : AllOk shiftB 60800 400 := by
  repeat (refine all_step ?_ (by decide +kernel))
  exact all_zero
theorem Sr5_7 : AllOk shiftB 58000 3200 := all_app Sr5_6 Sp5_7
theorem Sp5_8 : AllOk shiftB 61200 400 := by
  repeat (refine all_step ?_ (by decide +kernel))
  exact all_zero
theorem Sr5_8 : AllOk shiftB 58000 3600 := all_app Sr5_7 Sp5_8
theorem Sp5_9 : AllOk shiftB 61600 400 := by
  repeat (refine all_step ?_ (by decide +kernel))
  exact all_zero
theorem Sr5_9 : AllOk shiftB 58000 4000 := all_app Sr5_8 Sp5_9
theorem Sp5_10 : AllOk shiftB 62000 400 := by
  repeat (refine all_step ?_ (by decide +kernel))
  exact all_zero
theorem Sr5_10 : AllOk shiftB 58000 4400 := all_app Sr5_9 Sp5_10
theorem Sp5_11 : AllOk shiftB 62400 400 := by
  repeat (refine all_step ?_ (by decide +kernel))
  exact all_zero
theorem Sr5_11 : AllOk shiftB 58000 4800 := all_app Sr5_10 Sp5_11
theorem Sp5_12 : AllOk shiftB 62800 400 := by
  repeat (refine all_step ?_ (by decide +kernel))
  exact all_zero
theorem Sr5_12 : AllOk shiftB 58000 5200 := all_app Sr5_11 Sp5_12
theorem Sp5_13 : AllOk shiftB 63200 400 := by
  repeat (refine all_step ?_ (by decide +kernel))
  exact all_zero
theorem Sr5_13 : AllOk shiftB 58000 5600 := all_app Sr5_12 Sp5_13
theorem Sp5_14 : AllOk shiftB 63600 400 := by
  repeat (refine all_step ?_ (by decide +kernel))
  exact all_zero
theorem Sr5_14 : AllOk shiftB 58000 6000 := all_app Sr5_13 Sp5_14
theorem Sp5_15 : AllOk shiftB 64000 400 := by
  repeat (refine all_step ?_ (by decide +kernel))
  exact all_zero
theorem Sr5_15 : AllOk shiftB 58000 6400 := all_app Sr5_14 Sp5_15
theorem Sp5_16 : AllOk shiftB 64400 400 := by
  repeat (refine all_step ?_ (by decide +kernel))
  exact all_zero
theorem Sr5_16 : AllOk shiftB 58000 6800 := all_app Sr5_15 Sp5_16
theorem Sp5_17 : AllOk shiftB 64800 400 := by
  repeat (refine all_step ?_ (by decide +kernel))
  exact all_zero
theorem Sr5_17 : AllOk shiftB 58000 7200 := all_app Sr5_16 Sp5_17
theorem Sp5_18 : AllOk shiftB 65200 400 := by
  repeat (refine all_step ?_ (by decide +kernel))
  exact all_zero
theorem Sr5_18 : AllOk shiftB 58000 7600 := all_app Sr5_17 Sp5_18
theorem Sp5_19 : AllOk shiftB 65600 400 := by
  repeat (refine all_step ?_ (by decide +kernel))
  exact all_zero
theorem Sr5_19 : AllOk shiftB 58000 8000 := all_app Sr5_18 Sp5_19
theorem Sp5_20 : AllOk shiftB 66000 400 := by
  repeat (refine all_step ?_ (by decide +kernel))
  exact all_zero
theorem Sr5_20 : AllOk shiftB 58000 8400 := all_app Sr5_19 Sp5_20
theorem Sp5_21 : AllOk shiftB 66400 400 := by
  repeat (refine all_step ?_ (by decide +kernel))
  exact all_zero
theorem Sr5_21 : AllOk shiftB 58000 8800 := all_app Sr5_20 Sp5_21
theorem Sp5_22 : AllOk shiftB 66800 400 := by
  repeat (refine all_step ?_ (by decide +kernel))
  exact all_zero
theorem Sr5_22 : AllOk shiftB 58000 9200 := all_app Sr5_21 Sp5_22
theorem Sp5_23 : AllOk shiftB 67200 400 := by
  repeat (refine all_step ?_ (by decide +kernel))
  exact all_zero
theorem Sr5_23 : AllOk shiftB 58000 9600 := all_app Sr5_22 Sp5_23
theorem Sp5_24 : AllOk shiftB 67600 400 := by
  repeat (refine all_step ?_ (by decide +kernel))
  exact all_zero
theorem Sr5_24 : AllOk shiftB 58000 10000 := all_app Sr5_23 Sp5_24
theorem Sp5_25 : AllOk shiftB 68000 400 := by
  repeat (refine all_step ?_ (by decide +kernel))
  exact all_zero
theorem Sr5_25 : AllOk shiftB 58000 10400 := all_app Sr5_24 Sp5_25
theorem Sp5_26 : AllOk shiftB 68400 400 := by
  repeat (refine all_step ?_ (by decide +kernel))
  exact all_zero
theorem Sr5_26 : AllOk shiftB 58000 10800 := all_app Sr5_25 Sp5_26
theorem Sp5_27 : AllOk shiftB 68800 400 := by
  repeat (refine all_step ?_ (by decide +kernel))
  exact all_zero
theorem Sr5_27 : AllOk shiftB 58000 11200 := all_app Sr5_26 Sp5_27
theorem Sp5_28 : AllOk shiftB 69200 400 := by
  repeat (refine all_step ?_ (by decide +kernel))
  exact all_zero
theorem Sr5_28 : AllOk shiftB 58000 11600 := all_app Sr5_27 Sp5_28
theorem Sfile5 : AllOk shiftB 58000 11600 := Sr5_28
end Rej
