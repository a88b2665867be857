/-
The fixed example, 1.
-/
import Derived.Test.YtgahfnebfpmbpaaGreatMB2
set_option linter.unusedVariables false
set_option linter.unusedSimpArgs false
namespace Go.AM
open Go.Proofs
set_option maxHeartbeats 0
set_option maxRecDepth 100000
noncomputable def dayK : AV := .agg [.f (.sl [.int .i64 0, .int .i64 0, .int .i64 4, .int .i64 6, .int .i64 0, .int .i64 0, .int .i64 3, .int .i64 3, .int .i64 1, .int .i64 0, .int .i64 5, .int .i64 8, .int .i64 1, .int .i64 2, .int .i64 2, .int .i64 4] 4 false), .f (.sl [.int .i64 1, .int .i64 0] 2 false)]
theorem k41 : K4.call 41 [] [] [] = some (.agg [.sl 0 0 4 4 false, .sl 1 0 2 1 false], [.arr [.int .i64 0, .int .i64 0, .int .i64 4, .int .i64 6, .int .i64 0, .int .i64 0, .int .i64 3, .int .i64 3, .int .i64 1, .int .i64 0, .int .i64 5, .int .i64 8, .int .i64 1, .int .i64 2, .int .i64 2, .int .i64 4] true false, .arr [.int .i64 1, .int .i64 0] true false], []) := limK_call.2 ⟨5, by kernel_rfl⟩
end Go.AM

namespace Go.AM
open Go.Proofs
set_option maxHeartbeats 0
set_option maxRecDepth 100000
theorem k25 : K4.call 25 [dayK] [] [] = some (.tup [.sl 0 0 4 1 false, .f (.int .i64 0)], [.arr [.int .i64 2, .int .i64 0, .int .i64 1, .int .i64 3] false false], []) := limK_call.2 ⟨16, by kernel_rfl⟩
end Go.AM

namespace Go.AM
open Go.Proofs
set_option maxHeartbeats 0
set_option maxRecDepth 100000
theorem k27 : K4.call 27 [dayK, .f (.int .i64 1)] [] [] = some (.tup [.sl 0 0 4 2 false, .f (.int .i64 0)], [.arr [.int .i64 5, .int .i64 8, .int .i64 9, .int .i64 14, .int .i64 0, .int .i64 0, .int .i64 12, .int .i64 17] true false], []) := limK_call.2 ⟨16, by kernel_rfl⟩
end Go.AM

namespace Go.AM
open Go.Proofs
set_option maxHeartbeats 0
set_option maxRecDepth 100000
theorem k28 : K4.call 28 [dayK, .f (.int .i64 2)] [] [] = some (.tup [.agg [.f (.int .i64 7), .f (.int .i64 12)], .f (.int .i64 0)], [], []) := limK_call.2 ⟨16, by kernel_rfl⟩
end Go.AM

namespace Go.AM
open Go.Proofs
set_option maxHeartbeats 0
set_option maxRecDepth 100000
theorem k29 : K4.call 29 [dayK, .f (.int .i64 2)] [] [] = some (.tup [.f (.int .i64 1), .f (.int .i64 6), .f (.int .i64 0)], [], []) := limK_call.2 ⟨16, by kernel_rfl⟩
end Go.AM
