/-
  The functions as plain partial functions, and plain lemmas about them: no condition.
-/
import Derived.Test.YtmhfebelfmgckaaGreatDoorPD
set_option linter.all false
set_option maxRecDepth 10000
set_option maxHeartbeats 1000000
namespace Go.Proofs.Dev
open Go Go.Tm
theorem wrap_i64(n:Int):aa .i64 n=(n+9223372036854775808) % 18446744073709551616-9223372036854775808:=by
 show XH n 9223372036854775808 18446744073709551616=_;unfold XH
 grind
theorem w0:aa .i64 0=0:=by decide
end Go.Proofs.Dev
