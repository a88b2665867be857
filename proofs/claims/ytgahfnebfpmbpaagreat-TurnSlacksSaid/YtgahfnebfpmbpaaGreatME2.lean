/-
The fixed example, 2.
-/
import Derived.Test.YtgahfnebfpmbpaaGreatME1
set_option linter.unusedVariables false
set_option linter.unusedSimpArgs false
namespace Go.AM
open Go.Proofs
set_option maxHeartbeats 0
set_option maxRecDepth 100000
theorem k35 : K4.call 35 [dayK, .f (.int .i64 1)] [] [] = some (.tup [.f (.int .i64 3), .f (.int .i64 0)], [], []) := limK_call.2 ⟨20, by kernel_rfl⟩
end Go.AM

namespace Go.AM
open Go.Proofs
set_option maxHeartbeats 0
set_option maxRecDepth 100000
theorem k38 : K4.call 38 [dayK, .f (.int .i64 1), .f (.int .i64 6)] [] [] = some (.tup [.sl 0 0 2 1 false, .f (.int .i64 0)], [.arr [.int .i64 0, .int .i64 2] false false], []) := limK_call.2 ⟨24, by kernel_rfl⟩
end Go.AM

namespace Go.AM
open Go.Proofs
set_option maxHeartbeats 0
set_option maxRecDepth 100000
theorem k33 : K4.call 33 [dayK, .f (.sl [.int .i64 3, .int .i64 2, .int .i64 0, .int .i64 1] 4 false)] [] [] = some (.tup [.sl 0 0 1 1 false, .f (.int .i64 0)], [.arr [.int .i64 3] false false], []) := limK_call.2 ⟨21, by kernel_rfl⟩
end Go.AM

namespace Go.AM
open Go.Proofs
set_option maxHeartbeats 0
set_option maxRecDepth 100000
theorem k42 : K4.call 42 [dayK, .f (.int .i64 1), .f (.int .i64 0), .f (.int .i64 1)] [] [] = some (.tup [.f (.int .i64 0), .f (.int .i64 0), .f (.int .i64 7)], [], []) := limK_call.2 ⟨17, by kernel_rfl⟩
end Go.AM

namespace Go.AM
open Go.Proofs
set_option maxHeartbeats 0
set_option maxRecDepth 100000
theorem k21 : K4.call 21 [dayK, .f (.int .i64 2), .f (.int .i64 6)] [] [] = some (.tup [.sl 0 0 2 1 false, .f (.int .i64 0)], [.arr [.int .i64 0, .int .i64 1] false false], []) := limK_call.2 ⟨25, by kernel_rfl⟩
end Go.AM
