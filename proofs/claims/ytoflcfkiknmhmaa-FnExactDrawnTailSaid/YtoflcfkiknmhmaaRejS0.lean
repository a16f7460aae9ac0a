/- Blocks 0 to 11599 of the shiftB are fine: run by the kernel. -/
import Derived.Test.YtoflcfkiknmhmaaRejE
namespace Rej
set_option maxRecDepth 100000
set_option maxHeartbeats 100000000
theorem Swarm0 : Nat.beq (Nat.shiftLeft 1 260000000) 0 = false := by decide +kernel
theorem Sp0_0 : AllOk shiftB 0 400 := by
  repeat (refine all_step ?_ (by decide +kernel))
  exact all_zero
theorem Sr0_0 : AllOk shiftB 0 400 := Sp0_0
theorem Sp0_1 : AllOk shiftB 400 400 := by
  repeat (refine all_step ?_ (by decide +kernel))
  exact all_zero
theorem Sr0_1 : AllOk shiftB 0 800 := all_app Sr0_0 Sp0_1
theorem Sp0_2 : AllOk shiftB 800 400 := by
  repeat (refine all_step ?_ (by decide +kernel))
  exact all_zero
theorem Sr0_2 : AllOk shiftB 0 1200 := all_app Sr0_1 Sp0_2
theorem Sp0_3 : AllOk shiftB 1200 400 := by
  repeat (refine all_step ?_ (by decide +kernel))
  exact all_zero
theorem Sr0_3 : AllOk shiftB 0 1600 := all_app Sr0_2 Sp0_3
theorem Sp0_4 : AllOk shiftB 1600 400 := by
  repeat (refine all_step ?_ (by decide +kernel))
  exact all_zero
theorem Sr0_4 : AllOk shiftB 0 2000 := all_app Sr0_3 Sp0_4
theorem Sp0_5 : AllOk shiftB 2000 400 := by
  repeat (refine all_step ?_ (by decide +kernel))
  exact all_zero
theorem Sr0_5 : AllOk shiftB 0 2400 := all_app Sr0_4 Sp0_5
theorem Sp0_6 : AllOk shiftB 2400 400 := by
  repeat (refine all_step ?_ (by decide +kernel))
  exact all_zero
theorem Sr0_6 : AllOk shiftB 0 2800 := all_app Sr0_5 Sp0_6
theorem Sp0_7 : AllOk shiftB 2800 400 := by
  repeat (refine all_step ?_ (by decide +kernel))
  exact all_zero
theorem Sr0_7 : AllOk shiftB 0 3200 := all_app Sr0_6 Sp0_7
theorem Sp0_8 : AllOk shiftB 3200 400 := by
  repeat (refine all_step ?_ (by decide +kernel))
  exact all_zero
theorem Sr0_8 : AllOk shiftB 0 3600 := all_app Sr0_7 Sp0_8
theorem Sp0_9 : AllOk shiftB 3600 400 := by
  repeat (refine all_step ?_ (by decide +kernel))
  exact all_zero
theorem Sr0_9 : AllOk shiftB 0 4000 := all_app Sr0_8 Sp0_9
theorem Sp0_10 : AllOk shiftB 4000 400 := by
  repeat (refine all_step ?_ (by decide +kernel))
  exact all_zero
theorem Sr0_10 : AllOk shiftB 0 4400 := all_app Sr0_9 Sp0_10
theorem Sp0_11 : AllOk shiftB 4400 400 := by
  repeat (refine all_step ?_ (by decide +kernel))
  exact all_zero
theorem Sr0_11 : AllOk shiftB 0 4800 := all_app Sr0_10 Sp0_11
theorem Sp0_12 : AllOk shiftB 4800 400 := by
  repeat (refine all_step ?_ (by decide +kernel))
  exact all_zero
theorem Sr0_12 : AllOk shiftB 0 5200 := all_app Sr0_11 Sp0_12
theorem Sp0_13 : AllOk shiftB 5200 400 := by
  repeat (refine all_step ?_ (by decide +kernel))
  exact all_zero
theorem Sr0_13 : AllOk shiftB 0 5600 := all_app Sr0_12 Sp0_13
theorem Sp0_14 : AllOk shiftB 5600 400 := by
  repeat (refine all_step ?_ (by decide +kernel))
  exact all_zero
theorem Sr0_14 : AllOk shiftB 0 6000 := all_app Sr0_13 Sp0_14
theorem Sp0_15 : AllOk shiftB 6000 400 := by
  repeat (refine all_step ?_ (by decide +kernel))
  exact all_zero
theorem Sr0_15 : AllOk shiftB 0 6400 := all_app Sr0_14 Sp0_15
theorem Sp0_16 : AllOk shiftB 6400 400 := by
  repeat (refine all_step ?_ (by decide +kernel))
  exact all_zero
theorem Sr0_16 : AllOk shiftB 0 6800 := all_app Sr0_15 Sp0_16
theorem Sp0_17 : AllOk shiftB 6800 400 := by
  repeat (refine all_step ?_ (by decide +kernel))
  exact all_zero
theorem Sr0_17 : AllOk shiftB 0 7200 := all_app Sr0_16 Sp0_17
theorem Sp0_18 : AllOk shiftB 7200 400 := by
  repeat (refine all_step ?_ (by decide +kernel))
  exact all_zero
theorem Sr0_18 : AllOk shiftB 0 7600 := all_app Sr0_17 Sp0_18
theorem Sp0_19 : AllOk shiftB 7600 400 := by
  repeat (refine all_step ?_ (by decide +kernel))
  exact all_zero
theorem Sr0_19 : AllOk shiftB 0 8000 := all_app Sr0_18 Sp0_19
theorem Sp0_20 : AllOk shiftB 8000 400 := by
  repeat (refine all_step ?_ (by decide +kernel))
  exact all_zero
theorem Sr0_20 : AllOk shiftB 0 8400 := all_app Sr0_19 Sp0_20
theorem Sp0_21 : AllOk shiftB 8400 400 := by
  repeat (refine all_step ?_ (by decide +kernel))
  exact all_zero
theorem Sr0_21 : AllOk shiftB 0 8800 := all_app Sr0_20 Sp0_21
theorem Sp0_22 : AllOk shiftB 8800 400 := by
  repeat (refine all_step ?_ (by decide +kernel))
  exact all_zero
theorem Sr0_22 : AllOk shiftB 0 9200 := all_app Sr0_21 Sp0_22
theorem Sp0_23 : AllOk shiftB 9200 400 := by
  repeat (refine all_step ?_ (by decide +kernel))
  exact all_zero
theorem Sr0_23 : AllOk shiftB 0 9600 := all_app Sr0_22 Sp0_23
theorem Sp0_24 : AllOk shiftB 9600 400 := by
  repeat (refine all_step ?_ (by decide +kernel))
  exact all_zero
theorem Sr0_24 : AllOk shiftB 0 10000 := all_app Sr0_23 Sp0_24
theorem Sp0_25 : AllOk shiftB 10000 400 := by
  repeat (refine all_step ?_ (by decide +kernel))
  exact all_zero
theorem Sr0_25 : AllOk shiftB 0 10400 := all_app Sr0_24 Sp0_25
theorem Sp0_26 : AllOk shiftB 10400 400 := by
  repeat (refine all_step ?_ (by decide +kernel))
  exact all_zero
theorem Sr0_26 : AllOk shiftB 0 10800 := all_app Sr0_25 Sp0_26
theorem Sp0_27 : AllOk shiftB 10800 400 := by
  repeat (refine all_step ?_ (by decide +kernel))
  exact all_zero
theorem Sr0_27 : AllOk shiftB 0 11200 := all_app Sr0_26 Sp0_27
theorem Sp0_28 : AllOk shiftB 11200 400 := by
  repeat (refine all_step ?_ (by decide +kernel))
  exact all_zero
theorem Sr0_28 : AllOk shiftB 0 11600 := all_app Sr0_27 Sp0_28
theorem Sfile0 : AllOk shiftB 0 11600 := Sr0_28
end Rej
