/- Blocks 46400 to 57999 of the shiftB are fine: run by the kernel. -/
import Derived.Test.YtoflcfkiknmhmaaRejE
namespace Rej
set_option maxRecDepth 100000
set_option maxHeartbeats 100000000
theorem Swarm4 : Nat.beq (Nat.shiftLeft 1 260000000) 0 = false := by decide +kernel
theorem Sp4_0 : AllOk shiftB 46400 400 := by
  repeat (refine all_step ?_ (by decide +kernel))
  exact all_zero
theorem Sr4_0 : AllOk shiftB 46400 400 := Sp4_0
theorem Sp4_1 : AllOk shiftB 46800 400 := by
  repeat (refine all_step ?_ (by decide +kernel))
  exact all_zero
theorem Sr4_1 : AllOk shiftB 46400 800 := all_app Sr4_0 Sp4_1
theorem Sp4_2 : AllOk shiftB 47200 400 := by
  repeat (refine all_step ?_ (by decide +kernel))
  exact all_zero
theorem Sr4_2 : AllOk shiftB 46400 1200 := all_app Sr4_1 Sp4_2
theorem Sp4_3 : AllOk shiftB 47600 400 := by
  repeat (refine all_step ?_ (by decide +kernel))
  exact all_zero
theorem Sr4_3 : AllOk shiftB 46400 1600 := all_app Sr4_2 Sp4_3
theorem Sp4_4 : AllOk shiftB 48000 400 := by
  repeat (refine all_step ?_ (by decide +kernel))
  exact all_zero
theorem Sr4_4 : AllOk shiftB 46400 2000 := all_app Sr4_3 Sp4_4
theorem Sp4_5 : AllOk shiftB 48400 400 := by
  repeat (refine all_step ?_ (by decide +kernel))
  exact all_zero
theorem Sr4_5 : AllOk shiftB 46400 2400 := all_app Sr4_4 Sp4_5
theorem Sp4_6 : AllOk shiftB 48800 400 := by
  repeat (refine all_step ?_ (by decide +kernel))
  exact all_zero
theorem Sr4_6 : AllOk shiftB 46400 2800 := all_app Sr4_5 Sp4_6
theorem Sp4_7 : AllOk shiftB 49200 400 := by
  repeat (refine all_step ?_ (by decide +kernel))
  exact all_zero
theorem Sr4_7 : AllOk shiftB 46400 3200 := all_app Sr4_6 Sp4_7
theorem Sp4_8 : AllOk shiftB 49600 400 := by
  repeat (refine all_step ?_ (by decide +kernel))
  exact all_zero
theorem Sr4_8 : AllOk shiftB 46400 3600 := all_app Sr4_7 Sp4_8
theorem Sp4_9 : AllOk shiftB 50000 400 := by
  repeat (refine all_step ?_ (by decide +kernel))
  exact all_zero
theorem Sr4_9 : AllOk shiftB 46400 4000 := all_app Sr4_8 Sp4_9
theorem Sp4_10 : AllOk shiftB 50400 400 := by
  repeat (refine all_step ?_ (by decide +kernel))
  exact all_zero
theorem Sr4_10 : AllOk shiftB 46400 4400 := all_app Sr4_9 Sp4_10
theorem Sp4_11 : AllOk shiftB 50800 400 := by
  repeat (refine all_step ?_ (by decide +kernel))
  exact all_zero
theorem Sr4_11 : AllOk shiftB 46400 4800 := all_app Sr4_10 Sp4_11
theorem Sp4_12 : AllOk shiftB 51200 400 := by
  repeat (refine all_step ?_ (by decide +kernel))
  exact all_zero
theorem Sr4_12 : AllOk shiftB 46400 5200 := all_app Sr4_11 Sp4_12
theorem Sp4_13 : AllOk shiftB 51600 400 := by
  repeat (refine all_step ?_ (by decide +kernel))
  exact all_zero
theorem Sr4_13 : AllOk shiftB 46400 5600 := all_app Sr4_12 Sp4_13
theorem Sp4_14 : AllOk shiftB 52000 400 := by
  repeat (refine all_step ?_ (by decide +kernel))
  exact all_zero
theorem Sr4_14 : AllOk shiftB 46400 6000 := all_app Sr4_13 Sp4_14
theorem Sp4_15 : AllOk shiftB 52400 400 := by
  repeat (refine all_step ?_ (by decide +kernel))
  exact all_zero
theorem Sr4_15 : AllOk shiftB 46400 6400 := all_app Sr4_14 Sp4_15
theorem Sp4_16 : AllOk shiftB 52800 400 := by
  repeat (refine all_step ?_ (by decide +kernel))
  exact all_zero
theorem Sr4_16 : AllOk shiftB 46400 6800 := all_app Sr4_15 Sp4_16
theorem Sp4_17 : AllOk shiftB 53200 400 := by
  repeat (refine all_step ?_ (by decide +kernel))
  exact all_zero
theorem Sr4_17 : AllOk shiftB 46400 7200 := all_app Sr4_16 Sp4_17
theorem Sp4_18 : AllOk shiftB 53600 400 := by
  repeat (refine all_step ?_ (by decide +kernel))
  exact all_zero
theorem Sr4_18 : AllOk shiftB 46400 7600 := all_app Sr4_17 Sp4_18
theorem Sp4_19 : AllOk shiftB 54000 400 := by
  repeat (refine all_step ?_ (by decide +kernel))
  exact all_zero
theorem Sr4_19 : AllOk shiftB 46400 8000 := all_app Sr4_18 Sp4_19
theorem Sp4_20 : AllOk shiftB 54400 400 := by
  repeat (refine all_step ?_ (by decide +kernel))
  exact all_zero
theorem Sr4_20 : AllOk shiftB 46400 8400 := all_app Sr4_19 Sp4_20
theorem Sp4_21 : AllOk shiftB 54800 400 := by
  repeat (refine all_step ?_ (by decide +kernel))
  exact all_zero
theorem Sr4_21 : AllOk shiftB 46400 8800 := all_app Sr4_20 Sp4_21
theorem Sp4_22 : AllOk shiftB 55200 400 := by
  repeat (refine all_step ?_ (by decide +kernel))
  exact all_zero
theorem Sr4_22 : AllOk shiftB 46400 9200 := all_app Sr4_21 Sp4_22
theorem Sp4_23 : AllOk shiftB 55600 400 := by
  repeat (refine all_step ?_ (by decide +kernel))
  exact all_zero
theorem Sr4_23 : AllOk shiftB 46400 9600 := all_app Sr4_22 Sp4_23
theorem Sp4_24 : AllOk shiftB 56000 400 := by
  repeat (refine all_step ?_ (by decide +kernel))
  exact all_zero
theorem Sr4_24 : AllOk shiftB 46400 10000 := all_app Sr4_23 Sp4_24
theorem Sp4_25 : AllOk shiftB 56400 400 := by
  repeat (refine all_step ?_ (by decide +kernel))
  exact all_zero
theorem Sr4_25 : AllOk shiftB 46400 10400 := all_app Sr4_24 Sp4_25
theorem Sp4_26 : AllOk shiftB 56800 400 := by
  repeat (refine all_step ?_ (by decide +kernel))
  exact all_zero
theorem Sr4_26 : AllOk shiftB 46400 10800 := all_app Sr4_25 Sp4_26
theorem Sp4_27 : AllOk shiftB 57200 400 := by
  repeat (refine all_step ?_ (by decide +kernel))
  exact all_zero
theorem Sr4_27 : AllOk shiftB 46400 11200 := all_app Sr4_26 Sp4_27
theorem Sp4_28 : AllOk shiftB 57600 400 := by
  repeat (refine all_step ?_ (by decide +kernel))
  exact all_zero
theorem Sr4_28 : AllOk shiftB 46400 11600 := all_app Sr4_27 Sp4_28
theorem Sfile4 : AllOk shiftB 46400 11600 := Sr4_28
end Rej
