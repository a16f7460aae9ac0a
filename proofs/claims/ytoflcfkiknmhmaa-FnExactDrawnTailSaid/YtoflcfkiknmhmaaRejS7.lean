/- Blocks 81200 to 90113 of the shiftB are fine: run by the kernel. -/
import Derived.Test.YtoflcfkiknmhmaaRejE
namespace Rej
set_option maxRecDepth 100000
set_option maxHeartbeats 100000000
theorem Swarm7 : Nat.beq (Nat.shiftLeft 1 260000000) 0 = false := by decide +kernel
theorem Sp7_0 : AllOk shiftB 81200 400 := by
  repeat (refine all_step ?_ (by decide +kernel))
  exact all_zero
theorem Sr7_0 : AllOk shiftB 81200 400 := Sp7_0
theorem Sp7_1 : AllOk shiftB 81600 400 := by
  repeat (refine all_step ?_ (by decide +kernel))
  exact all_zero
theorem Sr7_1 : AllOk shiftB 81200 800 := all_app Sr7_0 Sp7_1
theorem Sp7_2 : AllOk shiftB 82000 400 := by
  repeat (refine all_step ?_ (by decide +kernel))
  exact all_zero
theorem Sr7_2 : AllOk shiftB 81200 1200 := all_app Sr7_1 Sp7_2
theorem Sp7_3 : AllOk shiftB 82400 400 := by
  repeat (refine all_step ?_ (by decide +kernel))
  exact all_zero
theorem Sr7_3 : AllOk shiftB 81200 1600 := all_app Sr7_2 Sp7_3
theorem Sp7_4 : AllOk shiftB 82800 400 := by
  repeat (refine all_step ?_ (by decide +kernel))
  exact all_zero
theorem Sr7_4 : AllOk shiftB 81200 2000 := all_app Sr7_3 Sp7_4
theorem Sp7_5 : AllOk shiftB 83200 400 := by
  repeat (refine all_step ?_ (by decide +kernel))
  exact all_zero
theorem Sr7_5 : AllOk shiftB 81200 2400 := all_app Sr7_4 Sp7_5
theorem Sp7_6 : AllOk shiftB 83600 400 := by
  repeat (refine all_step ?_ (by decide +kernel))
  exact all_zero
theorem Sr7_6 : AllOk shiftB 81200 2800 := all_app Sr7_5 Sp7_6
theorem Sp7_7 : AllOk shiftB 84000 400 := by
  repeat (refine all_step ?_ (by decide +kernel))
  exact all_zero
theorem Sr7_7 : AllOk shiftB 81200 3200 := all_app Sr7_6 Sp7_7
theorem Sp7_8 : AllOk shiftB 84400 400 := by
  repeat (refine all_step ?_ (by decide +kernel))
  exact all_zero
theorem Sr7_8 : AllOk shiftB 81200 3600 := all_app Sr7_7 Sp7_8
theorem Sp7_9 : AllOk shiftB 84800 400 := by
  repeat (refine all_step ?_ (by decide +kernel))
  exact all_zero
theorem Sr7_9 : AllOk shiftB 81200 4000 := all_app Sr7_8 Sp7_9
theorem Sp7_10 : AllOk shiftB 85200 400 := by
  repeat (refine all_step ?_ (by decide +kernel))
  exact all_zero
theorem Sr7_10 : AllOk shiftB 81200 4400 := all_app Sr7_9 Sp7_10
theorem Sp7_11 : AllOk shiftB 85600 400 := by
  repeat (refine all_step ?_ (by decide +kernel))
  exact all_zero
theorem Sr7_11 : AllOk shiftB 81200 4800 := all_app Sr7_10 Sp7_11
theorem Sp7_12 : AllOk shiftB 86000 400 := by
  repeat (refine all_step ?_ (by decide +kernel))
  exact all_zero
theorem Sr7_12 : AllOk shiftB 81200 5200 := all_app Sr7_11 Sp7_12
theorem Sp7_13 : AllOk shiftB 86400 400 := by
  repeat (refine all_step ?_ (by decide +kernel))
  exact all_zero
theorem Sr7_13 : AllOk shiftB 81200 5600 := all_app Sr7_12 Sp7_13
theorem Sp7_14 : AllOk shiftB 86800 400 := by
  repeat (refine all_step ?_ (by decide +kernel))
  exact all_zero
theorem Sr7_14 : AllOk shiftB 81200 6000 := all_app Sr7_13 Sp7_14
theorem Sp7_15 : AllOk shiftB 87200 400 := by
  repeat (refine all_step ?_ (by decide +kernel))
  exact all_zero
theorem Sr7_15 : AllOk shiftB 81200 6400 := all_app Sr7_14 Sp7_15
theorem Sp7_16 : AllOk shiftB 87600 400 := by
  repeat (refine all_step ?_ (by decide +kernel))
  exact all_zero
theorem Sr7_16 : AllOk shiftB 81200 6800 := all_app Sr7_15 Sp7_16
theorem Sp7_17 : AllOk shiftB 88000 400 := by
  repeat (refine all_step ?_ (by decide +kernel))
  exact all_zero
theorem Sr7_17 : AllOk shiftB 81200 7200 := all_app Sr7_16 Sp7_17
theorem Sp7_18 : AllOk shiftB 88400 400 := by
  repeat (refine all_step ?_ (by decide +kernel))
  exact all_zero
theorem Sr7_18 : AllOk shiftB 81200 7600 := all_app Sr7_17 Sp7_18
theorem Sp7_19 : AllOk shiftB 88800 400 := by
  repeat (refine all_step ?_ (by decide +kernel))
  exact all_zero
theorem Sr7_19 : AllOk shiftB 81200 8000 := all_app Sr7_18 Sp7_19
theorem Sp7_20 : AllOk shiftB 89200 400 := by
  repeat (refine all_step ?_ (by decide +kernel))
  exact all_zero
theorem Sr7_20 : AllOk shiftB 81200 8400 := all_app Sr7_19 Sp7_20
theorem Sp7_21 : AllOk shiftB 89600 400 := by
  repeat (refine all_step ?_ (by decide +kernel))
  exact all_zero
theorem Sr7_21 : AllOk shiftB 81200 8800 := all_app Sr7_20 Sp7_21
theorem Sp7_22 : AllOk shiftB 90000 114 := by
  repeat (refine all_step ?_ (by decide +kernel))
  exact all_zero
theorem Sr7_22 : AllOk shiftB 81200 8914 := all_app Sr7_21 Sp7_22
theorem Sfile7 : AllOk shiftB 81200 8914 := Sr7_22
end Rej
