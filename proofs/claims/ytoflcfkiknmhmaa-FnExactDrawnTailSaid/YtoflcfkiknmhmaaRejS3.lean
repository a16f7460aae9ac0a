/- Blocks 34800 to 46399 of the shiftB are fine: run by the kernel. -/
import Derived.Test.YtoflcfkiknmhmaaRejE
namespace Rej
set_option maxRecDepth 100000
set_option maxHeartbeats 100000000
theorem Swarm3 : Nat.beq (Nat.shiftLeft 1 260000000) 0 = false := by decide +kernel
theorem Sp3_0 : AllOk shiftB 34800 400 := by
  repeat (refine all_step ?_ (by decide +kernel))
  exact all_zero
theorem Sr3_0 : AllOk shiftB 34800 400 := Sp3_0
theorem Sp3_1 : AllOk shiftB 35200 400 := by
  repeat (refine all_step ?_ (by decide +kernel))
  exact all_zero
theorem Sr3_1 : AllOk shiftB 34800 800 := all_app Sr3_0 Sp3_1
theorem Sp3_2 : AllOk shiftB 35600 400 := by
  repeat (refine all_step ?_ (by decide +kernel))
  exact all_zero
theorem Sr3_2 : AllOk shiftB 34800 1200 := all_app Sr3_1 Sp3_2
theorem Sp3_3 : AllOk shiftB 36000 400 := by
  repeat (refine all_step ?_ (by decide +kernel))
  exact all_zero
theorem Sr3_3 : AllOk shiftB 34800 1600 := all_app Sr3_2 Sp3_3
theorem Sp3_4 : AllOk shiftB 36400 400 := by
  repeat (refine all_step ?_ (by decide +kernel))
  exact all_zero
theorem Sr3_4 : AllOk shiftB 34800 2000 := all_app Sr3_3 Sp3_4
theorem Sp3_5 : AllOk shiftB 36800 400 := by
  repeat (refine all_step ?_ (by decide +kernel))
  exact all_zero
theorem Sr3_5 : AllOk shiftB 34800 2400 := all_app Sr3_4 Sp3_5
theorem Sp3_6 : AllOk shiftB 37200 400 := by
  repeat (refine all_step ?_ (by decide +kernel))
  exact all_zero
theorem Sr3_6 : AllOk shiftB 34800 2800 := all_app Sr3_5 Sp3_6
theorem Sp3_7 : AllOk shiftB 37600 400 := by
  repeat (refine all_step ?_ (by decide +kernel))
  exact all_zero
theorem Sr3_7 : AllOk shiftB 34800 3200 := all_app Sr3_6 Sp3_7
theorem Sp3_8 : AllOk shiftB 38000 400 := by
  repeat (refine all_step ?_ (by decide +kernel))
  exact all_zero
theorem Sr3_8 : AllOk shiftB 34800 3600 := all_app Sr3_7 Sp3_8
theorem Sp3_9 : AllOk shiftB 38400 400 := by
  repeat (refine all_step ?_ (by decide +kernel))
  exact all_zero
theorem Sr3_9 : AllOk shiftB 34800 4000 := all_app Sr3_8 Sp3_9
theorem Sp3_10 : AllOk shiftB 38800 400 := by
  repeat (refine all_step ?_ (by decide +kernel))
  exact all_zero
theorem Sr3_10 : AllOk shiftB 34800 4400 := all_app Sr3_9 Sp3_10
theorem Sp3_11 : AllOk shiftB 39200 400 := by
  repeat (refine all_step ?_ (by decide +kernel))
  exact all_zero
theorem Sr3_11 : AllOk shiftB 34800 4800 := all_app Sr3_10 Sp3_11
theorem Sp3_12 : AllOk shiftB 39600 400 := by
  repeat (refine all_step ?_ (by decide +kernel))
  exact all_zero
theorem Sr3_12 : AllOk shiftB 34800 5200 := all_app Sr3_11 Sp3_12
theorem Sp3_13 : AllOk shiftB 40000 400 := by
  repeat (refine all_step ?_ (by decide +kernel))
  exact all_zero
theorem Sr3_13 : AllOk shiftB 34800 5600 := all_app Sr3_12 Sp3_13
theorem Sp3_14 : AllOk shiftB 40400 400 := by
  repeat (refine all_step ?_ (by decide +kernel))
  exact all_zero
theorem Sr3_14 : AllOk shiftB 34800 6000 := all_app Sr3_13 Sp3_14
theorem Sp3_15 : AllOk shiftB 40800 400 := by
  repeat (refine all_step ?_ (by decide +kernel))
  exact all_zero
theorem Sr3_15 : AllOk shiftB 34800 6400 := all_app Sr3_14 Sp3_15
theorem Sp3_16 : AllOk shiftB 41200 400 := by
  repeat (refine all_step ?_ (by decide +kernel))
  exact all_zero
theorem Sr3_16 : AllOk shiftB 34800 6800 := all_app Sr3_15 Sp3_16
theorem Sp3_17 : AllOk shiftB 41600 400 := by
  repeat (refine all_step ?_ (by decide +kernel))
  exact all_zero
theorem Sr3_17 : AllOk shiftB 34800 7200 := all_app Sr3_16 Sp3_17
theorem Sp3_18 : AllOk shiftB 42000 400 := by
  repeat (refine all_step ?_ (by decide +kernel))
  exact all_zero
theorem Sr3_18 : AllOk shiftB 34800 7600 := all_app Sr3_17 Sp3_18
theorem Sp3_19 : AllOk shiftB 42400 400 := by
  repeat (refine all_step ?_ (by decide +kernel))
  exact all_zero
theorem Sr3_19 : AllOk shiftB 34800 8000 := all_app Sr3_18 Sp3_19
theorem Sp3_20 : AllOk shiftB 42800 400 := by
  repeat (refine all_step ?_ (by decide +kernel))
  exact all_zero
theorem Sr3_20 : AllOk shiftB 34800 8400 := all_app Sr3_19 Sp3_20
theorem Sp3_21 : AllOk shiftB 43200 400 := by
  repeat (refine all_step ?_ (by decide +kernel))
  exact all_zero
theorem Sr3_21 : AllOk shiftB 34800 8800 := all_app Sr3_20 Sp3_21
theorem Sp3_22 : AllOk shiftB 43600 400 := by
  repeat (refine all_step ?_ (by decide +kernel))
  exact all_zero
theorem Sr3_22 : AllOk shiftB 34800 9200 := all_app Sr3_21 Sp3_22
theorem Sp3_23 : AllOk shiftB 44000 400 := by
  repeat (refine all_step ?_ (by decide +kernel))
  exact all_zero
theorem Sr3_23 : AllOk shiftB 34800 9600 := all_app Sr3_22 Sp3_23
theorem Sp3_24 : AllOk shiftB 44400 400 := by
  repeat (refine all_step ?_ (by decide +kernel))
  exact all_zero
theorem Sr3_24 : AllOk shiftB 34800 10000 := all_app Sr3_23 Sp3_24
theorem Sp3_25 : AllOk shiftB 44800 400 := by
  repeat (refine all_step ?_ (by decide +kernel))
  exact all_zero
theorem Sr3_25 : AllOk shiftB 34800 10400 := all_app Sr3_24 Sp3_25
theorem Sp3_26 : AllOk shiftB 45200 400 := by
  repeat (refine all_step ?_ (by decide +kernel))
  exact all_zero
theorem Sr3_26 : AllOk shiftB 34800 10800 := all_app Sr3_25 Sp3_26
theorem Sp3_27 : AllOk shiftB 45600 400 := by
  repeat (refine all_step ?_ (by decide +kernel))
  exact all_zero
theorem Sr3_27 : AllOk shiftB 34800 11200 := all_app Sr3_26 Sp3_27
theorem Sp3_28 : AllOk shiftB 46000 400 := by
  repeat (refine all_step ?_ (by decide +kernel))
  exact all_zero
theorem Sr3_28 : AllOk shiftB 34800 11600 := all_app Sr3_27 Sp3_28
theorem Sfile3 : AllOk shiftB 34800 11600 := Sr3_28
end Rej
