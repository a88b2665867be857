/-
The fixed example, answered.
-/
import Derived.Test.YtgahfnebfpmbpaaGreatMD1
import Derived.Test.YtgahfnebfpmbpaaGreatME1
import Derived.Test.YtgahfnebfpmbpaaGreatME2
set_option linter.unusedVariables false
set_option linter.unusedSimpArgs false
namespace Go.AM
open Go.Proofs
set_option maxHeartbeats 0
set_option maxRecDepth 100000
set_option linter.unusedSimpArgs false
set_option linter.unusedVariables false
def clK : List Cl := [⟨0,0,4,6⟩, ⟨0,0,3,3⟩, ⟨1,0,5,8⟩, ⟨1,2,2,4⟩]
theorem k14 : K4.call 14 [dayK, (.f (.int .i64 (2))), (.f (.int .i64 (6))), (.f (.int .i64 (3)))] [] [] = some (.tup [(.f (.int .i64 (500))), (.f (.int .i64 (0)))], [], []) := by
  have he : opn clK [1, 0] 2 6 = 0 := by decide +kernel
  have hv := valid_of he
  have hsd := (pureS (st := 2) (lim := 6) (cl := clK) (rk := [1, 0])).v he
  have h := c14_ok [] false false false false clK [1, 0] hsd.1 hsd.2.1 hsd.2.2.1 (fun h => by cases h) (fun h => by cases h) 2 (by omega) 6 he 3 (by decide)
  have e1 : lateB clK (ord clK [1, 0]) 2 6 = false := by decide +kernel
  have e2 : slackR clK [1, 0] 2 6 3 = 500 := by decide +kernel
  rw [e1, if_neg (by simp), e2] at h
  exact h
theorem k23a : K4.call 23 [.f (.sl [.int .i64 2, .int .i64 0, .int .i64 1, .int .i64 3] 4 false), .f (.sl [.int .i64 2, .int .i64 0, .int .i64 1, .int .i64 3] 4 false)] [] [] = some ((.f (.bool (true))), [], []) := limK_call.2 ⟨20, by kernel_rfl⟩
theorem k23b : K4.call 23 [.f (.sl [.int .i64 0, .int .i64 2] 2 false), .f (.sl [.int .i64 0, .int .i64 2] 2 false)] [] [] = some ((.f (.bool (true))), [], []) := limK_call.2 ⟨20, by kernel_rfl⟩
theorem k23c : K4.call 23 [.f (.sl [.int .i64 3] 1 false), .f (.sl [.int .i64 3] 1 false)] [] [] = some ((.f (.bool (true))), [], []) := limK_call.2 ⟨20, by kernel_rfl⟩
theorem k23d : K4.call 23 [.f (.sl [.int .i64 0, .int .i64 1] 2 false), .f (.sl [.int .i64 0, .int .i64 1] 2 false)] [] [] = some ((.f (.bool (true))), [], []) := limK_call.2 ⟨20, by kernel_rfl⟩
theorem k43 : K4.call 43 [.f (.sl [.int .i64 5, .int .i64 8, .int .i64 9, .int .i64 14, .int .i64 0, .int .i64 0, .int .i64 12, .int .i64 17] 4 false), .f (.sl [.int .i64 5, .int .i64 8, .int .i64 9, .int .i64 14, .int .i64 0, .int .i64 0, .int .i64 12, .int .i64 17] 4 false)] [] [] = some ((.f (.bool (true))), [], []) := limK_call.2 ⟨20, by kernel_rfl⟩
theorem c37 (a b : Int) (Y : List Ctx) : K4.call 37 [(.f (.int .i64 (a))), (.f (.int .i64 (b)))] [] Y = some (.agg [(.f (.int .i64 (a))), (.f (.int .i64 (b)))], [], Y) := by
  rw [call_run (E := E4) (fn := Tryz.f37) fnF37 rfl rfl (by simp) (by simp [Tryz.f37])]
  simp (config := { maxSteps := 10000000, implicitDefEqProofs := false }) only [go_sem, Bool.false_eq_true, Nat.reduceAdd, Nat.reduceBEq, Nat.reduceLT, Nat.reduceMul, Nat.reduceSub, Nat.reduceLeDiff, Nat.reduceEqDiff, and_self, if_true, if_false, reduceIte, Tryz.f37]
theorem mkObj_8 {a b c d e f g h : FV} : mkObj [.f a, .f b, .f c, .f d, .f e, .f f, .f g, .f h] = .arr [a, b, c, d, e, f, g, h] true false := rfl
theorem neqK {σ : Nat → AObj} : binA Tryz.prog σ .neq 56 (.agg [(.f (.int .i64 (7))), (.f (.int .i64 (12)))]) (.agg [(.f (.int .i64 (7))), (.f (.int .i64 (12)))]) = some ((.f (.bool (false)))) := by kernel_rfl
theorem cut16 {a0 a1 a2 a3 a4 a5 a6 a7 a8 a9 a10 a11 a12 a13 a14 a15 : FV} : cutS [a0, a1, a2, a3, a4, a5, a6, a7, a8, a9, a10, a11, a12, a13, a14, a15] 0 16 = [a0, a1, a2, a3, a4, a5, a6, a7, a8, a9, a10, a11, a12, a13, a14, a15] := rfl
theorem cut2 {a b : FV} : cutS [a, b] 0 2 = [a, b] := rfl
theorem cut4 {a b c d : FV} : cutS [a, b, c, d] 0 4 = [a, b, c, d] := rfl
theorem cut1 {a : FV} : cutS [a] 0 1 = [a] := rfl
theorem cut8 {a0 a1 a2 a3 a4 a5 a6 a7 : FV} : cutS [a0, a1, a2, a3, a4, a5, a6, a7] 0 8 = [a0, a1, a2, a3, a4, a5, a6, a7] := rfl
theorem sc_int {k : IntKind} {n : Int} : FV.scalar (.int k n) = true := by simp [FV.scalar]
theorem k12 : K4.call 12 [] [] [] = some ((.f (.bool (true))), [], []) := by
  have h25 := k25
  have h27 := k27
  have h28 := k28
  have h29 := k29
  have h35 := k35
  have h38 := k38
  have h33 := k33
  have h42 := k42
  have h21 := k21
  have h14 := k14
  unfold dayK at h25 h27 h28 h29 h35 h38 h33 h42 h21 h14
  rw [call_run (E := E4) (fn := Tryz.f12) fnF12 rfl rfl (by simp) (by simp [Tryz.f12])]
  simp (config := { maxSteps := 10000000, implicitDefEqProofs := false }) only [go_sem, Bool.false_eq_true, Nat.reduceAdd, Nat.reduceBEq, Nat.reduceLT, Nat.reduceMul, Nat.reduceSub, Nat.reduceLeDiff, Nat.reduceEqDiff, and_self, if_true, if_false, reduceIte, Tryz.f12, k41, cut16, cut2, cut4, cut1, cut8, sc_int, List.all_cons, List.all_nil, h25, h27, h28, h29, h35, h38, h33, h42, h21, h14, k23a, k23b, k23c, k23d, k43, c37, mkObj_8, neqK]
  rw [drwEnd_ok (by kernel_rfl)]
  simp (config := { maxSteps := 10000000, implicitDefEqProofs := false }) only [go_sem, Bool.false_eq_true, Nat.reduceAdd, Nat.reduceBEq, Nat.reduceLT, Nat.reduceMul, Nat.reduceSub, Nat.reduceLeDiff, Nat.reduceEqDiff, and_self, if_true, if_false, reduceIte]
end Go.AM
