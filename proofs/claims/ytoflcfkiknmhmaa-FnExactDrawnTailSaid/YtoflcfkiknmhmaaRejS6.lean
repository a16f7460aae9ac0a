/- Blocks 69600 to 81199 of the shiftB are fine: run by the kernel. -/
import Derived.Test.YtoflcfkiknmhmaaRejE
namespace Rej
set_option maxRecDepth 100000
set_option maxHeartbeats 100000000
theorem Swarm6 : Nat.beq (Nat.shiftLeft 1 260000000) 0 = false := by decide +kernel
theorem Sp6_0 : AllOk shiftB 69600 400 := by
  repeat (refine all_step ?_ (by decide +kernel))
  exact all_zero
theorem Sr6_0 : AllOk shiftB 69600 400 := Sp6_0
theorem Sp6_1 : AllOk shiftB 70000 400 := by
  repeat (refine all_step ?_ (by decide +kernel))
  exact all_zero
theorem Sr6_1 : AllOk shiftB 69600 800 := all_app Sr6_0 Sp6_1
theorem Sp6_2 : AllOk shiftB 70400 400 := by
  repeat (refine all_step ?_ (by decide +kernel))
  exact all_zero
theorem Sr6_2 : AllOk shiftB 69600 1200 := all_app Sr6_1 Sp6_2
theorem Sp6_3 : AllOk shiftB 70800 400 := by
  repeat (refine all_step ?_ (by decide +kernel))
  exact all_zero
theorem Sr6_3 : AllOk shiftB 69600 1600 := all_app Sr6_2 Sp6_3
theorem Sp6_4 : AllOk shiftB 71200 400 := by
  repeat (refine all_step ?_ (by decide +kernel))
  exact all_zero
theorem Sr6_4 : AllOk shiftB 69600 2000 := all_app Sr6_3 Sp6_4
theorem Sp6_5 : AllOk shiftB 71600 400 := by
  repeat (refine all_step ?_ (by decide +kernel))
  exact all_zero
theorem Sr6_5 : AllOk shiftB 69600 2400 := all_app Sr6_4 Sp6_5
theorem Sp6_6 : AllOk shiftB 72000 400 := by
  repeat (refine all_step ?_ (by decide +kernel))
  exact all_zero
theorem Sr6_6 : AllOk shiftB 69600 2800 := all_app Sr6_5 Sp6_6
theorem Sp6_7 : AllOk shiftB 72400 400 := by
  repeat (refine all_step ?_ (by decide +kernel))
  exact all_zero
theorem Sr6_7 : AllOk shiftB 69600 3200 := all_app Sr6_6 Sp6_7
theorem Sp6_8 : AllOk shiftB 72800 400 := by
  repeat (refine all_step ?_ (by decide +kernel))
  exact all_zero
theorem Sr6_8 : AllOk shiftB 69600 3600 := all_app Sr6_7 Sp6_8
theorem Sp6_9 : AllOk shiftB 73200 400 := by
  repeat (refine all_step ?_ (by decide +kernel))
  exact all_zero
theorem Sr6_9 : AllOk shiftB 69600 4000 := all_app Sr6_8 Sp6_9
theorem Sp6_10 : AllOk shiftB 73600 400 := by
  repeat (refine all_step ?_ (by decide +kernel))
  exact all_zero
theorem Sr6_10 : AllOk shiftB 69600 4400 := all_app Sr6_9 Sp6_10
theorem Sp6_11 : AllOk shiftB 74000 400 := by
  repeat (refine all_step ?_ (by decide +kernel))
  exact all_zero
theorem Sr6_11 : AllOk shiftB 69600 4800 := all_app Sr6_10 Sp6_11
theorem Sp6_12 : AllOk shiftB 74400 400 := by
  repeat (refine all_step ?_ (by decide +kernel))
  exact all_zero
theorem Sr6_12 : AllOk shiftB 69600 5200 := all_app Sr6_11 Sp6_12
theorem Sp6_13 : AllOk shiftB 74800 400 := by
  repeat (refine all_step ?_ (by decide +kernel))
  exact all_zero
theorem Sr6_13 : AllOk shiftB 69600 5600 := all_app Sr6_12 Sp6_13
theorem Sp6_14 : AllOk shiftB 75200 400 := by
  repeat (refine all_step ?_ (by decide +kernel))
  exact all_zero
theorem Sr6_14 : AllOk shiftB 69600 6000 := all_app Sr6_13 Sp6_14
theorem Sp6_15 : AllOk shiftB 75600 400 := by
  repeat (refine all_step ?_ (by decide +kernel))
  exact all_zero
theorem Sr6_15 : AllOk shiftB 69600 6400 := all_app Sr6_14 Sp6_15
theorem Sp6_16 : AllOk shiftB 76000 400 := by
  repeat (refine all_step ?_ (by decide +kernel))
  exact all_zero
theorem Sr6_16 : AllOk shiftB 69600 6800 := all_app Sr6_15 Sp6_16
theorem Sp6_17 : AllOk shiftB 76400 400 := by
  repeat (refine all_step ?_ (by decide +kernel))
  exact all_zero
theorem Sr6_17 : AllOk shiftB 69600 7200 := all_app Sr6_16 Sp6_17
theorem Sp6_18 : AllOk shiftB 76800 400 := by
  repeat (refine all_step ?_ (by decide +kernel))
  exact all_zero
theorem Sr6_18 : AllOk shiftB 69600 7600 := all_app Sr6_17 Sp6_18
theorem Sp6_19 : AllOk shiftB 77200 400 := by
  repeat (refine all_step ?_ (by decide +kernel))
  exact all_zero
theorem Sr6_19 : AllOk shiftB 69600 8000 := all_app Sr6_18 Sp6_19
theorem Sp6_20 : AllOk shiftB 77600 400 := by
  repeat (refine all_step ?_ (by decide +kernel))
  exact all_zero
theorem Sr6_20 : AllOk shiftB 69600 8400 := all_app Sr6_19 Sp6_20
theorem Sp6_21 : AllOk shiftB 78000 400 := by
  repeat (refine all_step ?_ (by decide +kernel))
  exact all_zero
theorem Sr6_21 : AllOk shiftB 69600 8800 := all_app Sr6_20 Sp6_21
theorem Sp6_22 : AllOk shiftB 78400 400 := by
  repeat (refine all_step ?_ (by decide +kernel))
  exact all_zero
theorem Sr6_22 : AllOk shiftB 69600 9200 := all_app Sr6_21 Sp6_22
theorem Sp6_23 : AllOk shiftB 78800 400 := by
  repeat (refine all_step ?_ (by decide +kernel))
  exact all_zero
theorem Sr6_23 : AllOk shiftB 69600 9600 := all_app Sr6_22 Sp6_23
theorem Sp6_24 : AllOk shiftB 79200 400 := by
  repeat (refine all_step ?_ (by decide +kernel))
  exact all_zero
theorem Sr6_24 : AllOk shiftB 69600 10000 := all_app Sr6_23 Sp6_24
theorem Sp6_25 : AllOk shiftB 79600 400 := by
  repeat (refine all_step ?_ (by decide +kernel))
  exact all_zero
theorem Sr6_25 : AllOk shiftB 69600 10400 := all_app Sr6_24 Sp6_25
theorem Sp6_26 : AllOk shiftB 80000 400 := by
  repeat (refine all_step ?_ (by decide +kernel))
  exact all_zero
theorem Sr6_26 : AllOk shiftB 69600 10800 := all_app Sr6_25 Sp6_26
theorem Sp6_27 : AllOk shiftB 80400 400 := by
  repeat (refine all_step ?_ (by decide +kernel))
  exact all_zero
theorem Sr6_27 : AllOk shiftB 69600 11200 := all_app Sr6_26 Sp6_27
theorem Sp6_28 : AllOk shiftB 80800 400 := by
  repeat (refine all_step ?_ (by decide +kernel))
  exact all_zero
theorem Sr6_28 : AllOk shiftB 69600 11600 := all_app Sr6_27 Sp6_28
theorem Sfile6 : AllOk shiftB 69600 11600 := Sr6_28
end Rej
