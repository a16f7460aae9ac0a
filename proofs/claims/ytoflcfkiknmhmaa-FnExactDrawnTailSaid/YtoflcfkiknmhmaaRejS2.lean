/- Blocks 23200 to 34799 of the shiftB are fine: run by the kernel. -/
import Derived.Test.YtoflcfkiknmhmaaRejE
namespace Rej
set_option maxRecDepth 100000
set_option maxHeartbeats 100000000
theorem Swarm2 : Nat.beq (Nat.shiftLeft 1 260000000) 0 = false := by decide +kernel
theorem Sp2_0 : AllOk shiftB 23200 400 := by
  repeat (refine all_step ?_ (by decide +kernel))
  exact all_zero
theorem Sr2_0 : AllOk shiftB 23200 400 := Sp2_0
theorem Sp2_1 : AllOk shiftB 23600 400 := by
  repeat (refine all_step ?_ (by decide +kernel))
  exact all_zero
theorem Sr2_1 : AllOk shiftB 23200 800 := all_app Sr2_0 Sp2_1
theorem Sp2_2 : AllOk shiftB 24000 400 := by
  repeat (refine all_step ?_ (by decide +kernel))
  exact all_zero
theorem Sr2_2 : AllOk shiftB 23200 1200 := all_app Sr2_1 Sp2_2
theorem Sp2_3 : AllOk shiftB 24400 400 := by
  repeat (refine all_step ?_ (by decide +kernel))
  exact all_zero
theorem Sr2_3 : AllOk shiftB 23200 1600 := all_app Sr2_2 Sp2_3
theorem Sp2_4 : AllOk shiftB 24800 400 := by
  repeat (refine all_step ?_ (by decide +kernel))
  exact all_zero
theorem Sr2_4 : AllOk shiftB 23200 2000 := all_app Sr2_3 Sp2_4
theorem Sp2_5 : AllOk shiftB 25200 400 := by
  repeat (refine all_step ?_ (by decide +kernel))
  exact all_zero
theorem Sr2_5 : AllOk shiftB 23200 2400 := all_app Sr2_4 Sp2_5
theorem Sp2_6 : AllOk shiftB 25600 400 := by
  repeat (refine all_step ?_ (by decide +kernel))
  exact all_zero
theorem Sr2_6 : AllOk shiftB 23200 2800 := all_app Sr2_5 Sp2_6
theorem Sp2_7 : AllOk shiftB 26000 400 := by
  repeat (refine all_step ?_ (by decide +kernel))
  exact all_zero
theorem Sr2_7 : AllOk shiftB 23200 3200 := all_app Sr2_6 Sp2_7
theorem Sp2_8 : AllOk shiftB 26400 400 := by
  repeat (refine all_step ?_ (by decide +kernel))
  exact all_zero
theorem Sr2_8 : AllOk shiftB 23200 3600 := all_app Sr2_7 Sp2_8
theorem Sp2_9 : AllOk shiftB 26800 400 := by
  repeat (refine all_step ?_ (by decide +kernel))
  exact all_zero
theorem Sr2_9 : AllOk shiftB 23200 4000 := all_app Sr2_8 Sp2_9
theorem Sp2_10 : AllOk shiftB 27200 400 := by
  repeat (refine all_step ?_ (by decide +kernel))
  exact all_zero
theorem Sr2_10 : AllOk shiftB 23200 4400 := all_app Sr2_9 Sp2_10
theorem Sp2_11 : AllOk shiftB 27600 400 := by
  repeat (refine all_step ?_ (by decide +kernel))
  exact all_zero
theorem Sr2_11 : AllOk shiftB 23200 4800 := all_app Sr2_10 Sp2_11
theorem Sp2_12 : AllOk shiftB 28000 400 := by
  repeat (refine all_step ?_ (by decide +kernel))
  exact all_zero
theorem Sr2_12 : AllOk shiftB 23200 5200 := all_app Sr2_11 Sp2_12
theorem Sp2_13 : AllOk shiftB 28400 400 := by
  repeat (refine all_step ?_ (by decide +kernel))
  exact all_zero
theorem Sr2_13 : AllOk shiftB 23200 5600 := all_app Sr2_12 Sp2_13
theorem Sp2_14 : AllOk shiftB 28800 400 := by
  repeat (refine all_step ?_ (by decide +kernel))
  exact all_zero
theorem Sr2_14 : AllOk shiftB 23200 6000 := all_app Sr2_13 Sp2_14
theorem Sp2_15 : AllOk shiftB 29200 400 := by
  repeat (refine all_step ?_ (by decide +kernel))
  exact all_zero
theorem Sr2_15 : AllOk shiftB 23200 6400 := all_app Sr2_14 Sp2_15
theorem Sp2_16 : AllOk shiftB 29600 400 := by
  repeat (refine all_step ?_ (by decide +kernel))
  exact all_zero
theorem Sr2_16 : AllOk shiftB 23200 6800 := all_app Sr2_15 Sp2_16
theorem Sp2_17 : AllOk shiftB 30000 400 := by
  repeat (refine all_step ?_ (by decide +kernel))
  exact all_zero
theorem Sr2_17 : AllOk shiftB 23200 7200 := all_app Sr2_16 Sp2_17
theorem Sp2_18 : AllOk shiftB 30400 400 := by
  repeat (refine all_step ?_ (by decide +kernel))
  exact all_zero
theorem Sr2_18 : AllOk shiftB 23200 7600 := all_app Sr2_17 Sp2_18
theorem Sp2_19 : AllOk shiftB 30800 400 := by
  repeat (refine all_step ?_ (by decide +kernel))
  exact all_zero
theorem Sr2_19 : AllOk shiftB 23200 8000 := all_app Sr2_18 Sp2_19
theorem Sp2_20 : AllOk shiftB 31200 400 := by
  repeat (refine all_step ?_ (by decide +kernel))
  exact all_zero
theorem Sr2_20 : AllOk shiftB 23200 8400 := all_app Sr2_19 Sp2_20
theorem Sp2_21 : AllOk shiftB 31600 400 := by
  repeat (refine all_step ?_ (by decide +kernel))
  exact all_zero
theorem Sr2_21 : AllOk shiftB 23200 8800 := all_app Sr2_20 Sp2_21
theorem Sp2_22 : AllOk shiftB 32000 400 := by
  repeat (refine all_step ?_ (by decide +kernel))
  exact all_zero
theorem Sr2_22 : AllOk shiftB 23200 9200 := all_app Sr2_21 Sp2_22
theorem Sp2_23 : AllOk shiftB 32400 400 := by
  repeat (refine all_step ?_ (by decide +kernel))
  exact all_zero
theorem Sr2_23 : AllOk shiftB 23200 9600 := all_app Sr2_22 Sp2_23
theorem Sp2_24 : AllOk shiftB 32800 400 := by
  repeat (refine all_step ?_ (by decide +kernel))
  exact all_zero
theorem Sr2_24 : AllOk shiftB 23200 10000 := all_app Sr2_23 Sp2_24
theorem Sp2_25 : AllOk shiftB 33200 400 := by
  repeat (refine all_step ?_ (by decide +kernel))
  exact all_zero
theorem Sr2_25 : AllOk shiftB 23200 10400 := all_app Sr2_24 Sp2_25
theorem Sp2_26 : AllOk shiftB 33600 400 := by
  repeat (refine all_step ?_ (by decide +kernel))
  exact all_zero
theorem Sr2_26 : AllOk shiftB 23200 10800 := all_app Sr2_25 Sp2_26
theorem Sp2_27 : AllOk shiftB 34000 400 := by
  repeat (refine all_step ?_ (by decide +kernel))
  exact all_zero
theorem Sr2_27 : AllOk shiftB 23200 11200 := all_app Sr2_26 Sp2_27
theorem Sp2_28 : AllOk shiftB 34400 400 := by
  repeat (refine all_step ?_ (by decide +kernel))
  exact all_zero
theorem Sr2_28 : AllOk shiftB 23200 11600 := all_app Sr2_27 Sp2_28
theorem Sfile2 : AllOk shiftB 23200 11600 := Sr2_28
end Rej
