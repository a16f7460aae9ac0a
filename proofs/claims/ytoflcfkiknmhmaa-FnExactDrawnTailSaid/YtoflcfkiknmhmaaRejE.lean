/- The blocks that are looked at: definitions alone. -/
import Derived.Test.YtoflcfkiknmhmaaRejC
import Derived.Test.YtoflcfkiknmhmaaRejD
namespace Rej
noncomputable def countB (i : Nat) : Bool := bksF (cutF 12 27 10954173814816114720 1419521051068448 3657780808975449177 13 13161934665936452160 15430992236828949182 18446744069934978528 13718) Nat.succ 4 (Nat.mul i 4)
noncomputable def shiftB (i : Nat) : Bool := bksF (cutS 13 27) Nat.succ 32 (Nat.mul i 32)
end Rej
