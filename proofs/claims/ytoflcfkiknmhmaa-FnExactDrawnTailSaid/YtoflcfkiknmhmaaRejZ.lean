/- No state of the count, shift or pair kind gives 64 words one behind the other that are all among the 22 greatest: no condition. -/
import Derived.Test.YtoflcfkiknmhmaaRejK0
import Derived.Test.YtoflcfkiknmhmaaRejK1
import Derived.Test.YtoflcfkiknmhmaaRejK2
import Derived.Test.YtoflcfkiknmhmaaRejK3
import Derived.Test.YtoflcfkiknmhmaaRejS0
import Derived.Test.YtoflcfkiknmhmaaRejS1
import Derived.Test.YtoflcfkiknmhmaaRejS2
import Derived.Test.YtoflcfkiknmhmaaRejS3
import Derived.Test.YtoflcfkiknmhmaaRejS4
import Derived.Test.YtoflcfkiknmhmaaRejS5
import Derived.Test.YtoflcfkiknmhmaaRejS6
import Derived.Test.YtoflcfkiknmhmaaRejS7
import Derived.Test.YtoflcfkiknmhmaaRejQ0
import Derived.Test.YtoflcfkiknmhmaaRejQ1
namespace Rej
theorem no_count (x : Nat) (hx : ∀ i, i < 64 → Q - 22 * 2 ^ 32 ≤ fwd ((x + i * cc) % Q)) : False := by
  have hp : AllOk countB 0 20577 := (all_app (all_app (all_app Kfile0 Kfile1) Kfile2) Kfile3)
  have hB : ∀ g, g < 6 * 13718 → cutF 12 27 10954173814816114720 1419521051068448 3657780808975449177 13 13161934665936452160 15430992236828949182 18446744069934978528 13718 g = true := fun g hg =>
    parts_all _ 4 20577 (by decide) (fun k hk => by have := hp k hk; rwa [Nat.zero_add] at this) g (by omega)
  exact count_run 27 290351776 325 22 (by decide) (by decide) (by decide) (fun e he hz => cut_tells 12 27 290351776 13 1419521051068448 3657780808975449177 338 2080 13718 18446744069934978528 10954173814816114720 13161934665936452160 15430992236828949182 325 13 6 (by decide) (by decide) (by decide) (by decide) (by decide)
    (by decide) (by decide) (by decide) (by decide) (by decide) (by decide) (by decide) (by decide) (by decide) (by decide) (by decide) (by decide) (by decide) (by decide) (by decide) (by decide) (by decide) hB e he hz) x hx
theorem no_shift (x : Nat) (hx : x < Q) (h : ∀ i, i < 64 → Q - 22 * 2 ^ 32 ≤ it i x * mS % Q) : False := by
  have hp : AllOk shiftB 0 90114 := (all_app (all_app (all_app (all_app (all_app (all_app (all_app Sfile0 Sfile1) Sfile2) Sfile3) Sfile4) Sfile5) Sfile6) Sfile7)
  have hB : ∀ g, g < 45057 * 64 → cutS 13 27 g = true := fun g hg =>
    parts_all _ 32 90114 (by decide) (fun k hk => by have := hp k hk; rwa [Nat.zero_add] at this) g (by omega)
  exact shift_run 13 27 45057 22 (by decide) (by decide) (by decide) (by decide) (by decide) hB x hx h
theorem no_pair (u v : Nat) (hu : u < Q) (hv : v < Q) (hx : ∀ i, i < 5 → Q - 22 * 2 ^ 32 ≤ ((itP i (u, v)).1 + (itP i (u, v)).2) % Q) : False := by
  have hp : AllOk pairB 0 784 := (all_app Qfile0 Qfile1)
  refine pair_run 27 rowsM (by decide) (by decide) rows_ok rows_zero (fun i hi => ?_) u v hu hv (fun i hi => Nat.le_trans (by decide) (hx i hi))
  have := hp i hi
  rwa [Nat.zero_add] at this
end Rej
