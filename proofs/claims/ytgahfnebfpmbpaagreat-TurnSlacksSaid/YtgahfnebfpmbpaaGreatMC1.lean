/-
Walks, 1.
-/
import Derived.Test.YtgahfnebfpmbpaaGreatMB2
set_option linter.unusedVariables false
set_option linter.unusedSimpArgs false
namespace Go.AM
open Go.Proofs
set_option maxHeartbeats 0
set_option maxRecDepth 100000
set_option linter.unusedSimpArgs false
set_option linter.unusedVariables false
def sink (lt : Int → Int → Bool) : Nat → List Int → List Int
  | 0, l => l
  | j + 1, l => if lt (nth l (j + 1)) (nth l j) then sink lt j ((l.set (j + 1) (nth l j)).set j (nth l (j + 1))) else l
theorem sink_len (lt : Int → Int → Bool) : ∀ j l, (sink lt j l).length = l.length
  | 0, l => rfl
  | j + 1, l => by
    simp only [sink]; split
    · rw [sink_len]; simp
    · rfl
theorem nth_mem {l : List Int} {i : Nat} (h : i < l.length) : nth l i ∈ l := by
  have : nth l i = l[i] := by rw [nth, List.getD_eq_getElem?_getD, List.getElem?_eq_getElem h]; rfl
  rw [this]; exact List.getElem_mem h
theorem dec_gt_t {a b : Nat} (h : b < a) : decide ((a : Int) > (b : Int)) = true := by simp; exact h
theorem loop110_2 (b : Code) (hb : b = lp Tryz.f110 2) (Y : List Ctx) (v1 v2 : FV) (cmp : Int → Int → Int) (S : Int → Prop)
    (hc : ∀ x y, S x → S y → ∀ Y, K4.call 66 [.agg [.f v1, .f v2], .f (.int .i64 x), .f (.int .i64 y)] [] Y = some (.f (.int .i64 (cmp x y)), [], Y))
    (i n : Nat) (hn : n ≤ 1000000) (ex nl : Bool) : ∀ (j : Nat) (l : List Int), (∀ x ∈ l, S x) → l.length = n → (j = 0 ∨ j < n) →
   ∃ T D, loopH K4 E4 110 2 b ⟨[(0, .sl 0 0 n 1 false), (1, .f (.int .i64 0)), (2, .f (.int .i64 n)), (3, .fn 66 [.agg [.f v1, .f v2]] []), (8, .f (.int .i64 i)), (9, .f (.int .i64 j))], [.arr (ints l) ex nl], 1⟩ Y = 
    some (.exit 2, ⟨T, .arr (ints (sink (fun x y => decide (cmp x y < 0)) j l)) ex nl :: D, 1⟩, Y) ∧ getT T 0 = .sl 0 0 n 1 false ∧ getT T 1 = .f (.int .i64 0) ∧ getT T 2 = .f (.int .i64 n) ∧ getT T 3 = .fn 66 [.agg [.f v1, .f v2]] [] ∧ getT T 8 = .f (.int .i64 i) := by
  intro j
  induction j with
  | zero =>
    intro l hS hl hj
    simp only [lp, loopIn, Tryz.f110, Option.bind_some, Option.getD_some, Nat.reduceBEq, Bool.false_eq_true, if_true, if_false] at hb
    generalize hX : loopH _ _ _ _ _ _ _ = X; unfold loopH at hX; conv at hX => (lhs; arg 5; rw [hb])
    simp (config := { maxSteps := 10000000, implicitDefEqProofs := false }) only [go_sem, Bool.false_eq_true, Nat.reduceAdd, Nat.reduceBEq, Nat.reduceLT, Nat.reduceMul, Nat.reduceSub, Nat.reduceLeDiff, Nat.reduceEqDiff, and_self, if_true, if_false, reduceIte] at hX
    rw [drwEnd_ok (by kernel_rfl)] at hX
    subst hX
    refine ⟨_, _, rfl, ?_⟩; simp only [go_sem, Nat.reduceBEq, and_self]
  | succ j ih =>
    intro l hS hl hj
    simp only [lp, loopIn, Tryz.f110, Option.bind_some, Option.getD_some, Nat.reduceBEq, Bool.false_eq_true, if_true, if_false] at hb
    generalize hX : loopH _ _ _ _ _ _ _ = X; unfold loopH at hX; conv at hX => (lhs; arg 5; rw [hb])
    have h1 : j < l.length := by omega
    have h2 : j + 1 < l.length := by omega
    have h3 : j < n := by omega
    have h4 : j + 1 < n := by omega
    simp (config := { maxSteps := 10000000, implicitDefEqProofs := false }) only [go_sem, Bool.false_eq_true, Nat.reduceAdd, Nat.reduceBEq, Nat.reduceLT, Nat.reduceMul, Nat.reduceSub, Nat.reduceLeDiff, Nat.reduceEqDiff, and_self, if_true, if_false, reduceIte, h1, h2, h3, h4, hc _ _ (hS (nth l (j + 1)) (nth_mem h2)) (hS (nth l j) (nth_mem h1)), wrap_pred (show j ≤ 1000000000 by omega), get_nth h1, get_nth h2] at hX
    cases hd : decide (cmp (nth l (j + 1)) (nth l j) < 0) with
    | false =>
      simp (config := { maxSteps := 10000000, implicitDefEqProofs := false }) only [go_sem, Bool.false_eq_true, Nat.reduceAdd, Nat.reduceBEq, Nat.reduceLT, Nat.reduceMul, Nat.reduceSub, Nat.reduceLeDiff, Nat.reduceEqDiff, and_self, if_true, if_false, reduceIte, hd] at hX
      rw [drwEnd_ok (by kernel_rfl)] at hX
      subst hX
      simp only [sink, hd, Bool.false_eq_true, if_false]
      refine ⟨_, _, rfl, ?_⟩; simp only [go_sem, Nat.reduceBEq, and_self]
    | true =>
      obtain ⟨T, D, e, g⟩ := ih ((l.set (j + 1) (nth l j)).set j (nth l (j + 1))) (by
        intro x hx
        rcases List.mem_or_eq_of_mem_set hx with h | h
        · rcases List.mem_or_eq_of_mem_set h with h | h
          · exact hS x h
          · rw [h]; exact hS _ (nth_mem h1)
        · rw [h]; exact hS _ (nth_mem h2)) (by simpa using hl) (Or.inr h3)
      simp (config := { maxSteps := 10000000, implicitDefEqProofs := false }) only [go_sem, Bool.false_eq_true, Nat.reduceAdd, Nat.reduceBEq, Nat.reduceLT, Nat.reduceMul, Nat.reduceSub, Nat.reduceLeDiff, Nat.reduceEqDiff, and_self, if_true, if_false, reduceIte, hd, e] at hX
      rw [drwEnd_ok (by kernel_rfl)] at hX
      subst hX
      simp only [sink, hd, if_true]
      exact ⟨T, D, rfl, g⟩

/-- insertion sort -/
def isortGo (lt : Int → Int → Bool) : Nat → Nat → List Int → List Int
  | 0, _, l => l
  | d + 1, i, l => isortGo lt d (i + 1) (sink lt i l)
def isort (lt : Int → Int → Bool) (l : List Int) : List Int := isortGo lt (l.length - 1) 1 l
theorem sink_mem {lt : Int → Int → Bool} : ∀ j (l : List Int), j < l.length → ∀ x, x ∈ sink lt j l → x ∈ l
  | 0, l, _, x, h => h
  | j + 1, l, hj, x, h => by
    simp only [sink] at h
    split at h
    · have h' := sink_mem j _ (by simp; omega) x h
      rcases List.mem_or_eq_of_mem_set h' with h | h
      · rcases List.mem_or_eq_of_mem_set h with h | h
        · exact h
        · rw [h]; exact nth_mem (by omega)
      · rw [h]; exact nth_mem (by omega)
    · exact h
theorem isortGo_len (lt : Int → Int → Bool) : ∀ d i l, (isortGo lt d i l).length = l.length
  | 0, _, _ => rfl
  | d + 1, i, l => by simp only [isortGo]; rw [isortGo_len, sink_len]
theorem isort_len (lt : Int → Int → Bool) (l : List Int) : (isort lt l).length = l.length := isortGo_len ..

theorem loop110_0 (b : Code) (hb : b = lp Tryz.f110 0) (Y : List Ctx) (v1 v2 : FV) (cmp : Int → Int → Int) (S : Int → Prop)
    (hc : ∀ x y, S x → S y → ∀ Y, K4.call 66 [.agg [.f v1, .f v2], .f (.int .i64 x), .f (.int .i64 y)] [] Y = some (.f (.int .i64 (cmp x y)), [], Y))
    (n : Nat) (hn : n ≤ 1000000) (ex nl : Bool) (d : Nat) : ∀ (i : Nat) (l : List Int), (∀ x ∈ l, S x) → l.length = n → n - i = d →
   ∃ T D, loopH K4 E4 110 0 b ⟨[(0, .sl 0 0 n 1 false), (1, .f (.int .i64 0)), (2, .f (.int .i64 n)), (3, .fn 66 [.agg [.f v1, .f v2]] []), (8, .f (.int .i64 i))], [.arr (ints l) ex nl], 1⟩ Y = 
    some (.exit 0, ⟨T, .arr (ints (isortGo (fun x y => decide (cmp x y < 0)) d i l)) ex nl :: D, 1⟩, Y) := by
  induction d with
  | zero =>
    intro i l hS hl hi
    simp only [lp, loopIn, Tryz.f110, Option.bind_some, Option.getD_some, Nat.reduceBEq, Bool.false_eq_true, if_true, if_false] at hb
    generalize hX : loopH _ _ _ _ _ _ _ = X; unfold loopH at hX; conv at hX => (lhs; arg 5; rw [hb])
    have h1 : ¬ i < n := by omega
    simp (config := { maxSteps := 10000000, implicitDefEqProofs := false }) only [go_sem, Bool.false_eq_true, Nat.reduceAdd, Nat.reduceBEq, Nat.reduceLT, Nat.reduceMul, Nat.reduceSub, Nat.reduceLeDiff, Nat.reduceEqDiff, and_self, if_true, if_false, reduceIte, h1] at hX
    subst hX
    exact ⟨_, _, rfl⟩
  | succ d ih =>
    intro i l hS hl hi
    simp only [lp, loopIn, Tryz.f110, Option.bind_some, Option.getD_some, Nat.reduceBEq, Bool.false_eq_true, if_true, if_false] at hb
    generalize hX : loopH _ _ _ _ _ _ _ = X; unfold loopH at hX; conv at hX => (lhs; arg 5; rw [hb])
    have h1 : i < n := by omega
    have h2 : i + 1 ≤ 1000000 := by omega
    obtain ⟨T, D, e, g0, g1, g2, g3, g4⟩ := loop110_2 _ rfl Y v1 v2 cmp S hc i n hn ex nl i l hS hl (Or.inr h1)
    obtain ⟨T', D', e'⟩ := ih (i + 1) (sink (fun x y => decide (cmp x y < 0)) i l) (fun x hx => hS x (sink_mem i l (by omega) x hx)) (by rw [sink_len]; exact hl) (by omega)
    simp only [lp, loopIn, Tryz.f110, Option.bind_some, Option.getD_some, Nat.reduceBEq, Bool.false_eq_true, if_true, if_false] at e
    simp (config := { maxSteps := 10000000, implicitDefEqProofs := false }) only [go_sem, Bool.false_eq_true, Nat.reduceAdd, Nat.reduceBEq, Nat.reduceLT, Nat.reduceMul, Nat.reduceSub, Nat.reduceLeDiff, Nat.reduceEqDiff, and_self, if_true, if_false, reduceIte, h1, e, g0, g1, g2, g3, g4, wrap_succ (show i ≤ 1000000000 by omega), e'] at hX
    subst hX
    exact ⟨T', D', rfl⟩

theorem c110 (Y : List Ctx) (v1 v2 : FV) (cmp : Int → Int → Int) (S : Int → Prop)
    (hc : ∀ x y, S x → S y → ∀ Y, K4.call 66 [.agg [.f v1, .f v2], .f (.int .i64 x), .f (.int .i64 y)] [] Y = some (.f (.int .i64 (cmp x y)), [], Y))
    (n : Nat) (hn : n ≤ 1000000) (ex nl : Bool) (l : List Int) (hS : ∀ x ∈ l, S x) (hl : l.length = n) :
    K4.call 110 [.sl 0 0 n 1 false, .f (.int .i64 0), .f (.int .i64 n), .fn 66 [.agg [.f v1, .f v2]] []] [.arr (ints l) ex nl] Y =
      some (.tup [], [.arr (ints (isort (fun x y => decide (cmp x y < 0)) l)) ex nl], Y) := by
  rw [call_run (E := E4) (fn := Tryz.f110) fnF110 rfl rfl (by simp) (by simp [Tryz.f110])]
  obtain ⟨T, D, e⟩ := loop110_0 _ rfl Y v1 v2 cmp S hc n hn ex nl (n - 1) 1 l hS hl rfl
  simp only [lp, loopIn, Tryz.f110, Option.bind_some, Option.getD_some, Nat.reduceBEq, Bool.false_eq_true, if_true, if_false, zero_cast] at e
  simp (config := { maxSteps := 10000000, implicitDefEqProofs := false }) only [go_sem, Bool.false_eq_true, Nat.reduceAdd, Nat.reduceBEq, Nat.reduceLT, Nat.reduceMul, Nat.reduceSub, Nat.reduceLeDiff, Nat.reduceEqDiff, and_self, if_true, if_false, reduceIte, Tryz.f110, e, show IntKind.i64.wrap (0 + 1) = ((1 : Nat) : Int) from rfl, isort, hl]

theorem c102 (Y : List Ctx) (v1 v2 : FV) (cmp : Int → Int → Int) (S : Int → Prop)
    (hc : ∀ x y, S x → S y → ∀ Y, K4.call 66 [.agg [.f v1, .f v2], .f (.int .i64 x), .f (.int .i64 y)] [] Y = some (.f (.int .i64 (cmp x y)), [], Y))
    (n : Nat) (hn : n ≤ 12) (ex nl : Bool) (lim : Int) (l : List Int) (hS : ∀ x ∈ l, S x) (hl : l.length = n) :
    K4.call 102 [.sl 0 0 n 1 false, .f (.int .i64 0), .f (.int .i64 n), .f (.int .i64 lim), .fn 66 [.agg [.f v1, .f v2]] []] [.arr (ints l) ex nl] Y =
      some (.tup [], [.arr (ints (isort (fun x y => decide (cmp x y < 0)) l)) ex nl], Y) := by
  rw [call_run (E := E4) (fn := Tryz.f102) fnF102 rfl rfl (by simp) (by simp [Tryz.f102])]
  simp (config := { maxSteps := 10000000, implicitDefEqProofs := false }) only [go_sem, Bool.false_eq_true, Nat.reduceAdd, Nat.reduceBEq, Nat.reduceLT, Nat.reduceMul, Nat.reduceSub, Nat.reduceLeDiff, Nat.reduceEqDiff, and_self, if_true, if_false, reduceIte, Tryz.f102, loopH, c110 Y v1 v2 cmp S hc n (by omega) ex nl l hS hl, show IntKind.i64.wrap ((n : Int) - 0) = (n : Int) by rw [IntWalk.i64_in _ (by omega)]; omega, show decide ((n : Int) ≤ 12) = true by simp; omega]
  trace_state
end Go.AM

namespace Go.AM
open Go.Proofs
set_option maxHeartbeats 0
set_option maxRecDepth 100000
set_option linter.unusedSimpArgs false
set_option linter.unusedVariables false
theorem c103 (Y : List Ctx) (n : Nat) (hn : n ≤ 12) : ∃ lim, K4.call 103 [.f (.int .u64 n)] [] Y = some ((.f (.int .i64 (lim))), [], Y) := by
  match n, hn with
  | 0, _ => exact ⟨0, limK_call.2 ⟨6, by kernel_rfl⟩⟩
  | 1, _ => exact ⟨1, limK_call.2 ⟨6, by kernel_rfl⟩⟩
  | 2, _ => exact ⟨2, limK_call.2 ⟨6, by kernel_rfl⟩⟩
  | 3, _ => exact ⟨2, limK_call.2 ⟨6, by kernel_rfl⟩⟩
  | 4, _ => exact ⟨3, limK_call.2 ⟨6, by kernel_rfl⟩⟩
  | 5, _ => exact ⟨3, limK_call.2 ⟨6, by kernel_rfl⟩⟩
  | 6, _ => exact ⟨3, limK_call.2 ⟨6, by kernel_rfl⟩⟩
  | 7, _ => exact ⟨3, limK_call.2 ⟨6, by kernel_rfl⟩⟩
  | 8, _ => exact ⟨4, limK_call.2 ⟨6, by kernel_rfl⟩⟩
  | 9, _ => exact ⟨4, limK_call.2 ⟨6, by kernel_rfl⟩⟩
  | 10, _ => exact ⟨4, limK_call.2 ⟨6, by kernel_rfl⟩⟩
  | 11, _ => exact ⟨4, limK_call.2 ⟨6, by kernel_rfl⟩⟩
  | 12, _ => exact ⟨4, limK_call.2 ⟨6, by kernel_rfl⟩⟩
  | n + 13, h => omega
theorem wrap_u {n : Nat} (h : n ≤ 1000000000) : IntKind.u64.wrap (n : Int) = (n : Int) := IntWalk.u64_in _ (by omega)

theorem c74 (Y : List Ctx) (v1 v2 : FV) (cmp : Int → Int → Int) (S : Int → Prop)
    (hc : ∀ x y, S x → S y → ∀ Y, K4.call 66 [.agg [.f v1, .f v2], (.f (.int .i64 (x))), (.f (.int .i64 (y)))] [] Y = some ((.f (.int .i64 (cmp x y))), [], Y))
    (n : Nat) (hn : n ≤ 12) (ex nl : Bool) (l : List Int) (hS : ∀ x ∈ l, S x) (hl : l.length = n) :
    K4.call 74 [.sl 0 0 n 1 false, .fn 66 [.agg [.f v1, .f v2]] []] [.arr (ints l) ex nl] Y =
      some (.tup [], [.arr (ints (isort (fun x y => decide (cmp x y < 0)) l)) ex nl], Y) := by
  obtain ⟨lim, hlim⟩ := c103 Y n hn
  rw [call_run (E := E4) (fn := Tryz.f74) fnF74 rfl rfl (by simp) (by simp [Tryz.f74])]
  simp (config := { maxSteps := 10000000, implicitDefEqProofs := false }) only [go_sem, Bool.false_eq_true, Nat.reduceAdd, Nat.reduceBEq, Nat.reduceLT, Nat.reduceMul, Nat.reduceSub, Nat.reduceLeDiff, Nat.reduceEqDiff, and_self, if_true, if_false, reduceIte, Tryz.f74, wrap_u (show n ≤ 1000000000 by omega), hlim, c102 Y v1 v2 cmp S hc n hn ex nl lim l hS hl]

/-! the same, for the order of numbers -/
theorem c139 (x : Int) (Y : List Ctx) : K4.call 139 [(.f (.int .i64 (x)))] [] Y = some ((.f (.bool (false))), [], Y) := by
  rw [call_run (E := E4) (fn := Tryz.f139) fnF139 rfl rfl (by simp) (by simp [Tryz.f139])]
  simp (config := { maxSteps := 10000000, implicitDefEqProofs := false }) only [go_sem, Bool.false_eq_true, Nat.reduceAdd, Nat.reduceBEq, Nat.reduceLT, Nat.reduceMul, Nat.reduceSub, Nat.reduceLeDiff, Nat.reduceEqDiff, and_self, if_true, if_false, reduceIte, Tryz.f139]
theorem c126 (x y : Int) (Y : List Ctx) : K4.call 126 [(.f (.int .i64 (x))), (.f (.int .i64 (y)))] [] Y = some ((.f (.bool (decide (x < y)))), [], Y) := by
  rw [call_run (E := E4) (fn := Tryz.f126) fnF126 rfl rfl (by simp) (by simp [Tryz.f126])]
  simp (config := { maxSteps := 10000000, implicitDefEqProofs := false }) only [go_sem, Bool.false_eq_true, Nat.reduceAdd, Nat.reduceBEq, Nat.reduceLT, Nat.reduceMul, Nat.reduceSub, Nat.reduceLeDiff, Nat.reduceEqDiff, and_self, if_true, if_false, reduceIte, Tryz.f126, c139]

def ltI (x y : Int) : Bool := decide (x < y)
theorem loop120_2 (b : Code) (hb : b = lp Tryz.f120 2) (Y : List Ctx) 
    (i n : Nat) (hn : n ≤ 1000000) (ex nl : Bool) : ∀ (j : Nat) (l : List Int), l.length = n → (j = 0 ∨ j < n) →
   ∃ T D, loopH K4 E4 120 2 b ⟨[(0, .sl 0 0 n 1 false), (1, (.f (.int .i64 (0)))), (2, (.f (.int .i64 (n)))), (6, (.f (.int .i64 (i)))), (7, (.f (.int .i64 (j))))], [.arr (ints l) ex nl], 1⟩ Y = 
    some (.exit 2, ⟨T, .arr (ints (sink ltI j l)) ex nl :: D, 1⟩, Y) ∧ getT T 0 = .sl 0 0 n 1 false ∧ getT T 1 = (.f (.int .i64 (0))) ∧ getT T 2 = (.f (.int .i64 (n))) ∧ getT T 6 = (.f (.int .i64 (i))) := by
  intro j
  induction j with
  | zero =>
    intro l hl hj
    simp only [lp, loopIn, Tryz.f120, Option.bind_some, Option.getD_some, Nat.reduceBEq, Bool.false_eq_true, if_true, if_false] at hb
    generalize hX : loopH _ _ _ _ _ _ _ = X; unfold loopH at hX; conv at hX => (lhs; arg 5; rw [hb])
    simp (config := { maxSteps := 10000000, implicitDefEqProofs := false }) only [go_sem, Bool.false_eq_true, Nat.reduceAdd, Nat.reduceBEq, Nat.reduceLT, Nat.reduceMul, Nat.reduceSub, Nat.reduceLeDiff, Nat.reduceEqDiff, and_self, if_true, if_false, reduceIte] at hX
    rw [drwEnd_ok (by kernel_rfl)] at hX
    subst hX
    refine ⟨_, _, rfl, ?_⟩; simp only [go_sem, Nat.reduceBEq, and_self]
  | succ j ih =>
    intro l hl hj
    simp only [lp, loopIn, Tryz.f120, Option.bind_some, Option.getD_some, Nat.reduceBEq, Bool.false_eq_true, if_true, if_false] at hb
    generalize hX : loopH _ _ _ _ _ _ _ = X; unfold loopH at hX; conv at hX => (lhs; arg 5; rw [hb])
    have h1 : j < l.length := by omega
    have h2 : j + 1 < l.length := by omega
    have h3 : j < n := by omega
    have h4 : j + 1 < n := by omega
    simp (config := { maxSteps := 10000000, implicitDefEqProofs := false }) only [go_sem, Bool.false_eq_true, Nat.reduceAdd, Nat.reduceBEq, Nat.reduceLT, Nat.reduceMul, Nat.reduceSub, Nat.reduceLeDiff, Nat.reduceEqDiff, and_self, if_true, if_false, reduceIte, h1, h2, h3, h4, c126, wrap_pred (show j ≤ 1000000000 by omega), get_nth h1, get_nth h2] at hX
    cases hd : decide (nth l (j + 1) < nth l j) with
    | false =>
      simp (config := { maxSteps := 10000000, implicitDefEqProofs := false }) only [go_sem, Bool.false_eq_true, Nat.reduceAdd, Nat.reduceBEq, Nat.reduceLT, Nat.reduceMul, Nat.reduceSub, Nat.reduceLeDiff, Nat.reduceEqDiff, and_self, if_true, if_false, reduceIte, hd] at hX
      rw [drwEnd_ok (by kernel_rfl)] at hX
      subst hX
      simp only [sink, ltI, hd, Bool.false_eq_true, if_false]
      refine ⟨_, _, rfl, ?_⟩; simp only [go_sem, Nat.reduceBEq, and_self]
    | true =>
      obtain ⟨T, D, e, g⟩ := ih ((l.set (j + 1) (nth l j)).set j (nth l (j + 1))) (by simpa using hl) (Or.inr h3)
      simp (config := { maxSteps := 10000000, implicitDefEqProofs := false }) only [go_sem, Bool.false_eq_true, Nat.reduceAdd, Nat.reduceBEq, Nat.reduceLT, Nat.reduceMul, Nat.reduceSub, Nat.reduceLeDiff, Nat.reduceEqDiff, and_self, if_true, if_false, reduceIte, hd, e] at hX
      rw [drwEnd_ok (by kernel_rfl)] at hX
      subst hX
      simp only [sink, ltI, hd, if_true]
      exact ⟨T, D, rfl, g⟩
theorem loop120_0 (b : Code) (hb : b = lp Tryz.f120 0) (Y : List Ctx) 
    (n : Nat) (hn : n ≤ 1000000) (ex nl : Bool) (d : Nat) : ∀ (i : Nat) (l : List Int), l.length = n → n - i = d →
   ∃ T D, loopH K4 E4 120 0 b ⟨[(0, .sl 0 0 n 1 false), (1, (.f (.int .i64 (0)))), (2, (.f (.int .i64 (n)))), (6, (.f (.int .i64 (i))))], [.arr (ints l) ex nl], 1⟩ Y = 
    some (.exit 0, ⟨T, .arr (ints (isortGo ltI d i l)) ex nl :: D, 1⟩, Y) := by
  induction d with
  | zero =>
    intro i l hl hi
    simp only [lp, loopIn, Tryz.f120, Option.bind_some, Option.getD_some, Nat.reduceBEq, Bool.false_eq_true, if_true, if_false] at hb
    generalize hX : loopH _ _ _ _ _ _ _ = X; unfold loopH at hX; conv at hX => (lhs; arg 5; rw [hb])
    have h1 : ¬ i < n := by omega
    simp (config := { maxSteps := 10000000, implicitDefEqProofs := false }) only [go_sem, Bool.false_eq_true, Nat.reduceAdd, Nat.reduceBEq, Nat.reduceLT, Nat.reduceMul, Nat.reduceSub, Nat.reduceLeDiff, Nat.reduceEqDiff, and_self, if_true, if_false, reduceIte, h1] at hX
    subst hX
    exact ⟨_, _, rfl⟩
  | succ d ih =>
    intro i l hl hi
    simp only [lp, loopIn, Tryz.f120, Option.bind_some, Option.getD_some, Nat.reduceBEq, Bool.false_eq_true, if_true, if_false] at hb
    generalize hX : loopH _ _ _ _ _ _ _ = X; unfold loopH at hX; conv at hX => (lhs; arg 5; rw [hb])
    have h1 : i < n := by omega
    obtain ⟨T, D, e, g0, g1, g2, g3⟩ := loop120_2 _ rfl Y i n hn ex nl i l hl (Or.inr h1)
    obtain ⟨T', D', e'⟩ := ih (i + 1) (sink ltI i l) (by rw [sink_len]; exact hl) (by omega)
    simp only [lp, loopIn, Tryz.f120, Option.bind_some, Option.getD_some, Nat.reduceBEq, Bool.false_eq_true, if_true, if_false, zero_cast] at e
    simp (config := { maxSteps := 10000000, implicitDefEqProofs := false }) only [go_sem, Bool.false_eq_true, Nat.reduceAdd, Nat.reduceBEq, Nat.reduceLT, Nat.reduceMul, Nat.reduceSub, Nat.reduceLeDiff, Nat.reduceEqDiff, and_self, if_true, if_false, reduceIte, h1, e, g0, g1, g2, g3, wrap_succ (show i ≤ 1000000000 by omega), e'] at hX
    subst hX
    exact ⟨T', D', rfl⟩
theorem c120 (Y : List Ctx) (n : Nat) (hn : n ≤ 1000000) (ex nl : Bool) (l : List Int) (hl : l.length = n) :
    K4.call 120 [.sl 0 0 n 1 false, (.f (.int .i64 (0))), (.f (.int .i64 (n)))] [.arr (ints l) ex nl] Y = some (.tup [], [.arr (ints (isort ltI l)) ex nl], Y) := by
  rw [call_run (E := E4) (fn := Tryz.f120) fnF120 rfl rfl (by simp) (by simp [Tryz.f120])]
  obtain ⟨T, D, e⟩ := loop120_0 _ rfl Y n hn ex nl (n - 1) 1 l hl rfl
  simp only [lp, loopIn, Tryz.f120, Option.bind_some, Option.getD_some, Nat.reduceBEq, Bool.false_eq_true, if_true, if_false, zero_cast] at e
  simp (config := { maxSteps := 10000000, implicitDefEqProofs := false }) only [go_sem, Bool.false_eq_true, Nat.reduceAdd, Nat.reduceBEq, Nat.reduceLT, Nat.reduceMul, Nat.reduceSub, Nat.reduceLeDiff, Nat.reduceEqDiff, and_self, if_true, if_false, reduceIte, Tryz.f120, e, isort, hl]
theorem c105 (Y : List Ctx) (n : Nat) (hn : n ≤ 12) (ex nl : Bool) (lim : Int) (l : List Int) (hl : l.length = n) :
    K4.call 105 [.sl 0 0 n 1 false, (.f (.int .i64 (0))), (.f (.int .i64 (n))), (.f (.int .i64 (lim)))] [.arr (ints l) ex nl] Y = some (.tup [], [.arr (ints (isort ltI l)) ex nl], Y) := by
  rw [call_run (E := E4) (fn := Tryz.f105) fnF105 rfl rfl (by simp) (by simp [Tryz.f105])]
  simp (config := { maxSteps := 10000000, implicitDefEqProofs := false }) only [go_sem, Bool.false_eq_true, Nat.reduceAdd, Nat.reduceBEq, Nat.reduceLT, Nat.reduceMul, Nat.reduceSub, Nat.reduceLeDiff, Nat.reduceEqDiff, and_self, if_true, if_false, reduceIte, Tryz.f105, loopH, c120 Y n (by omega) ex nl l hl, show IntKind.i64.wrap ((n : Int) - 0) = (n : Int) by rw [IntWalk.i64_in _ (by omega)]; omega, show decide ((n : Int) ≤ 12) = true by simp; omega]
theorem c85 (Y : List Ctx) (n : Nat) (hn : n ≤ 12) (ex nl : Bool) (l : List Int) (hl : l.length = n) :
    K4.call 85 [.sl 0 0 n 1 false] [.arr (ints l) ex nl] Y = some (.tup [], [.arr (ints (isort ltI l)) ex nl], Y) := by
  obtain ⟨lim, hlim⟩ := c103 Y n hn
  rw [call_run (E := E4) (fn := Tryz.f85) fnF85 rfl rfl (by simp) (by simp [Tryz.f85])]
  simp (config := { maxSteps := 10000000, implicitDefEqProofs := false }) only [go_sem, Bool.false_eq_true, Nat.reduceAdd, Nat.reduceBEq, Nat.reduceLT, Nat.reduceMul, Nat.reduceSub, Nat.reduceLeDiff, Nat.reduceEqDiff, and_self, if_true, if_false, reduceIte, Tryz.f85, wrap_u (show n ≤ 1000000000 by omega), hlim, c105 Y n hn ex nl lim l hl]
end Go.AM

namespace Go.AM
open Go.Proofs
set_option maxHeartbeats 0
set_option maxRecDepth 100000
set_option linter.unusedSimpArgs false
set_option linter.unusedVariables false
theorem refsL_app (a b : List AV) : AV.refsL (a ++ b) = AV.refsL a ++ AV.refsL b := by
  induction a with
  | nil => rfl
  | cons x a ih => simp only [List.cons_append, AV.refsL, ih, List.append_assoc]
theorem drop_any {α : Type} (p : α → Bool) (l : List α) (k : Nat) (h : k < l.length) : (l.drop k).any p = (p l[k] || (l.drop (k + 1)).any p) := by
  rw [List.drop_eq_getElem_cons h]; rfl
theorem nth_eq {l : List Int} {i : Nat} (h : i < l.length) : l[i] = nth l i := by
  rw [nth, List.getD_eq_getElem?_getD, List.getElem?_eq_getElem h]; rfl

theorem loop101 (b : Code) (hb : b = lp Tryz.f101 0) (Y : List Ctx) (g : FuncId) (x y : List FV) (p : Int → Bool) (nl c : Bool) (l : List Int) (n : Nat) (hn : n ≤ 1000000) (hl : l.length = n) (hnl : NilOk nl n)
    (hp : ∀ a ∈ l, ∀ Y, K4.call g (x.map ofFV ++ [(.f (.int .i64 (a)))] ++ y.map ofFV) [] Y = some ((.f (.bool (p a))), [], Y)) (d : Nat) : ∀ k, k + d = n →
    ∃ T e r, loopH K4 E4 101 0 b ⟨[(0, .f (mkSl nl (ints l) n c)), (1, .f (.fn g x y)), (7, (.f (.int .i64 (n)))), (8, (.f (.int .i64 (k))))], [], 0⟩ Y = some (e, ⟨T, [], 0⟩, Y) ∧
      (((l.drop k).any p = true ∧ e = .ret ∧ getT T 4 = (.f (.int .i64 (r))) ∧ 0 ≤ r) ∨ ((l.drop k).any p = false ∧ e = .exit 0)) := by
  induction d with
  | zero =>
    intro k hk
    simp only [lp, loopIn, Tryz.f101, Option.bind_some, Option.getD_some, Nat.reduceBEq, Bool.false_eq_true, if_true, if_false] at hb
    generalize hX : loopH _ _ _ _ _ _ _ = X; unfold loopH at hX; conv at hX => (lhs; arg 5; rw [hb])
    have h1 : ¬ k < n := by omega
    simp (config := { maxSteps := 10000000, implicitDefEqProofs := false }) only [go_sem, Bool.false_eq_true, Nat.reduceAdd, Nat.reduceBEq, Nat.reduceLT, Nat.reduceMul, Nat.reduceSub, Nat.reduceLeDiff, Nat.reduceEqDiff, and_self, if_true, if_false, reduceIte, h1] at hX
    subst hX
    refine ⟨_, _, 0, rfl, Or.inr ⟨?_, rfl⟩⟩
    rw [List.drop_eq_nil_of_le (by omega)]; rfl
  | succ d ih =>
    intro k hk
    simp only [lp, loopIn, Tryz.f101, Option.bind_some, Option.getD_some, Nat.reduceBEq, Bool.false_eq_true, if_true, if_false] at hb
    generalize hX : loopH _ _ _ _ _ _ _ = X; unfold loopH at hX; conv at hX => (lhs; arg 5; rw [hb])
    have h1 : k < n := by omega
    have h2 : k < l.length := by omega
    simp (config := { maxSteps := 10000000, implicitDefEqProofs := false }) only [go_sem, Bool.false_eq_true, Nat.reduceAdd, Nat.reduceBEq, Nat.reduceLT, Nat.reduceMul, Nat.reduceSub, Nat.reduceLeDiff, Nat.reduceEqDiff, and_self, if_true, if_false, reduceIte, h1, h2, hnl, get_nth h2, refsL_app, hp _ (nth_mem h2)] at hX
    rw [drop_any p l k h2, nth_eq h2]
    cases hd : p (nth l k) with
    | true =>
      simp (config := { maxSteps := 10000000, implicitDefEqProofs := false }) only [go_sem, Bool.false_eq_true, Nat.reduceAdd, Nat.reduceBEq, Nat.reduceLT, Nat.reduceMul, Nat.reduceSub, Nat.reduceLeDiff, Nat.reduceEqDiff, and_self, if_true, if_false, reduceIte, hd] at hX
      subst hX
      exact ⟨_, _, k, rfl, Or.inl ⟨rfl, rfl, by simp only [go_sem, Nat.reduceBEq], by omega⟩⟩
    | false =>
      obtain ⟨T, e, r, h, h'⟩ := ih (k + 1) (by omega)
      simp (config := { maxSteps := 10000000, implicitDefEqProofs := false }) only [go_sem, Bool.false_eq_true, Nat.reduceAdd, Nat.reduceBEq, Nat.reduceLT, Nat.reduceMul, Nat.reduceSub, Nat.reduceLeDiff, Nat.reduceEqDiff, and_self, if_true, if_false, reduceIte, hd, wrap_succ (show k ≤ 1000000000 by omega), h] at hX
      subst hX
      exact ⟨T, e, r, rfl, by simpa using h'⟩

theorem c72 (Y : List Ctx) (g : FuncId) (x y : List FV) (p : Int → Bool) (nl c : Bool) (l : List Int) (n : Nat) (hn : n ≤ 1000000) (hl : l.length = n) (hnl : NilOk nl n)
    (hp : ∀ a ∈ l, ∀ Y, K4.call g (x.map ofFV ++ [(.f (.int .i64 (a)))] ++ y.map ofFV) [] Y = some ((.f (.bool (p a))), [], Y)) :
    K4.call 72 [.f (mkSl nl (ints l) n c), .f (.fn g x y)] [] Y = some ((.f (.bool (l.any p))), [], Y) := by
  obtain ⟨T, e, r, h, h'⟩ := loop101 _ rfl Y g x y p nl c l n hn hl hnl hp n 0 (by omega)
  simp only [lp, loopIn, Tryz.f101, Option.bind_some, Option.getD_some, Nat.reduceBEq, Bool.false_eq_true, if_true, if_false, zero_cast] at h
  have h101 : ∃ r, K4.call 101 [.f (mkSl nl (ints l) n c), .f (.fn g x y)] [] Y = some ((.f (.int .i64 (r))), [], Y) ∧ decide (0 ≤ r) = l.any p := by
    rcases h' with ⟨ha, rfl, h4, hr⟩ | ⟨ha, rfl⟩
    · refine ⟨r, ?_, by simpa [hr] using ha⟩
      rw [call_run (E := E4) (fn := Tryz.f101) fnF101 rfl rfl (by simp) (by simp [Tryz.f101])]
      simp (config := { maxSteps := 10000000, implicitDefEqProofs := false }) only [go_sem, Bool.false_eq_true, Nat.reduceAdd, Nat.reduceBEq, Nat.reduceLT, Nat.reduceMul, Nat.reduceSub, Nat.reduceLeDiff, Nat.reduceEqDiff, and_self, if_true, if_false, reduceIte, Tryz.f101, hnl, h, h4]
    · refine ⟨-1, ?_, by simpa using ha⟩
      rw [call_run (E := E4) (fn := Tryz.f101) fnF101 rfl rfl (by simp) (by simp [Tryz.f101])]
      simp (config := { maxSteps := 10000000, implicitDefEqProofs := false }) only [go_sem, Bool.false_eq_true, Nat.reduceAdd, Nat.reduceBEq, Nat.reduceLT, Nat.reduceMul, Nat.reduceSub, Nat.reduceLeDiff, Nat.reduceEqDiff, and_self, if_true, if_false, reduceIte, Tryz.f101, hnl, h]
  obtain ⟨r', h1, h2⟩ := h101
  rw [call_run (E := E4) (fn := Tryz.f72) fnF72 rfl rfl (by simp) (by simp [Tryz.f72])]
  simp (config := { maxSteps := 10000000, implicitDefEqProofs := false }) only [go_sem, Bool.false_eq_true, Nat.reduceAdd, Nat.reduceBEq, Nat.reduceLT, Nat.reduceMul, Nat.reduceSub, Nat.reduceLeDiff, Nat.reduceEqDiff, and_self, if_true, if_false, reduceIte, Tryz.f72, h1, ge_iff_le, h2]
end Go.AM

namespace Go.AM
open Go.Proofs
set_option maxHeartbeats 0
set_option maxRecDepth 100000
set_option linter.unusedSimpArgs false
set_option linter.unusedVariables false
theorem drop_nth {l : List Int} {k : Nat} (h : k < l.length) : l.drop k = nth l k :: l.drop (k + 1) := by
  rw [List.drop_eq_getElem_cons h, nth_eq h]
/-- the values of a list, one by one -/
def ys (l : List Int) : List (List FV) := l.map fun x => [FV.int .i64 x]
theorem ys_drop {l : List Int} {k : Nat} (h : k < l.length) : ys (l.drop k) = [FV.int .i64 (nth l k)] :: ys (l.drop (k + 1)) := by
  rw [drop_nth h]; rfl
theorem loop107 (b : Code) (hb : b = lp Tryz.f107 0) (lvl : Nat) (nl c : Bool) (l : List Int) (n : Nat) (hn : n ≤ 1000000) (hl : l.length = n) (hnl : NilOk nl n) (d : Nat) : ∀ k, k + d = n → ∀ Y t Y', 
    yieldsV K4 lvl (ys (l.drop k)) Y = some (t, Y') →
    ∃ T e, loopH K4 E4 107 0 b ⟨[(0, .yld lvl), (5, .f (mkSl nl (ints l) n c)), (6, (.f (.int .i64 (n)))), (7, (.f (.int .i64 (k))))], [], 0⟩ Y = some (e, ⟨T, [], 0⟩, Y') ∧ (e = .ret ∨ e = .exit 0) := by
  induction d with
  | zero =>
    intro k hk Y t Y' hy
    simp only [lp, loopIn, Tryz.f107, Option.bind_some, Option.getD_some, Nat.reduceBEq, Bool.false_eq_true, if_true, if_false] at hb
    generalize hX : loopH _ _ _ _ _ _ _ = X; unfold loopH at hX; conv at hX => (lhs; arg 5; rw [hb])
    have h1 : ¬ k < n := by omega
    simp (config := { maxSteps := 10000000, implicitDefEqProofs := false }) only [go_sem, Bool.false_eq_true, Nat.reduceAdd, Nat.reduceBEq, Nat.reduceLT, Nat.reduceMul, Nat.reduceSub, Nat.reduceLeDiff, Nat.reduceEqDiff, and_self, if_true, if_false, reduceIte, h1] at hX
    subst hX
    rw [List.drop_eq_nil_of_le (by omega)] at hy
    cases hy
    exact ⟨_, _, rfl, Or.inr rfl⟩
  | succ d ih =>
    intro k hk Y t Y' hy'
    simp only [lp, loopIn, Tryz.f107, Option.bind_some, Option.getD_some, Nat.reduceBEq, Bool.false_eq_true, if_true, if_false] at hb
    generalize hX : loopH _ _ _ _ _ _ _ = X; unfold loopH at hX; conv at hX => (lhs; arg 5; rw [hb])
    have h1 : k < n := by omega
    have h2 : k < l.length := by omega
    simp (config := { maxSteps := 10000000, implicitDefEqProofs := false }) only [go_sem, Bool.false_eq_true, Nat.reduceAdd, Nat.reduceBEq, Nat.reduceLT, Nat.reduceMul, Nat.reduceSub, Nat.reduceLeDiff, Nat.reduceEqDiff, and_self, if_true, if_false, reduceIte, h1, h2, hnl, get_nth h2] at hX
    rw [ys_drop h2, yieldsV_cons] at hy'
    cases hy : yieldV K4 lvl [FV.int .i64 (nth l k)] Y with
    | none => rw [hy] at hy'; cases hy'
    | some q =>
      obtain ⟨t1, Y1⟩ := q
      rw [hy] at hy'
      cases t1 with
      | false =>
        simp (config := { maxSteps := 10000000, implicitDefEqProofs := false }) only [go_sem, Bool.false_eq_true, Nat.reduceAdd, Nat.reduceBEq, Nat.reduceLT, Nat.reduceMul, Nat.reduceSub, Nat.reduceLeDiff, Nat.reduceEqDiff, and_self, if_true, if_false, reduceIte, hy] at hX
        subst hX
        cases hy'
        exact ⟨_, _, rfl, Or.inl rfl⟩
      | true =>
        simp (config := { maxSteps := 10000000, implicitDefEqProofs := false }) only [go_sem, Bool.false_eq_true, Nat.reduceAdd, Nat.reduceBEq, Nat.reduceLT, Nat.reduceMul, Nat.reduceSub, Nat.reduceLeDiff, Nat.reduceEqDiff, and_self, if_true, if_false, reduceIte, hy, wrap_succ (show k ≤ 1000000000 by omega)] at hX
        subst hX
        exact ih (k + 1) (by omega) Y1 t Y' hy'
theorem g107 (nl c : Bool) (l : List Int) (n : Nat) (hn : n ≤ 1000000) (hl : l.length = n) (hnl : NilOk nl n) : Gen K4 107 [] [.ptr [mkSl nl (ints l) n c] 0] (ys l) := by
  intro lvl Y t Y' hy
  obtain ⟨T, e, he, h⟩ := loop107 _ rfl lvl nl c l n hn hl hnl n 0 (by omega) Y t Y' hy
  simp only [List.map_nil, List.nil_append, List.map_cons, ofFV_ptr]
  simp only [lp, loopIn, Tryz.f107, Option.bind_some, Option.getD_some, Nat.reduceBEq, Bool.false_eq_true, if_true, if_false, zero_cast] at he
  rw [call_run (E := E4) (fn := Tryz.f107) fnF107 rfl rfl (by simp) (by simp [Tryz.f107])]
  rcases h with rfl | rfl
  · simp (config := { maxSteps := 10000000, implicitDefEqProofs := false }) only [go_sem, Bool.false_eq_true, Nat.reduceAdd, Nat.reduceBEq, Nat.reduceLT, Nat.reduceMul, Nat.reduceSub, Nat.reduceLeDiff, Nat.reduceEqDiff, and_self, if_true, if_false, reduceIte, Tryz.f107, hnl, he]
  · simp (config := { maxSteps := 10000000, implicitDefEqProofs := false }) only [go_sem, Bool.false_eq_true, Nat.reduceAdd, Nat.reduceBEq, Nat.reduceLT, Nat.reduceMul, Nat.reduceSub, Nat.reduceLeDiff, Nat.reduceEqDiff, and_self, if_true, if_false, reduceIte, Tryz.f107, hnl, he]
end Go.AM

namespace Go.AM
open Go.Proofs
set_option maxHeartbeats 0
set_option maxRecDepth 100000
set_option linter.unusedSimpArgs false
set_option linter.unusedVariables false
theorem take_nth {l : List Int} {k : Nat} (h : k < l.length) : l.take k ++ [nth l k] = l.take (k + 1) := by
  rw [List.take_succ_eq_append_getElem h, nth_eq h]
theorem rng129 (a b : Code) (hab : rp Tryz.f129 0 = (a, b)) (T : Tmps) (hT : getT T 2 = .ptr 0 0) (Y : List Ctx) (l : List Int) (hn : l.length ≤ 1000000) (d : Nat) : ∀ k, (k + 1) + d = l.length →
    rngGo K4 129 [7] a b 1 T (ys (l.drop (k + 1))) [.box [.sl 1 0 (k + 1) 1 false], .arr (ints (l.take (k + 1))) false false] Y =
      some (none, [.box [.sl 1 0 l.length 1 false], .arr (ints l) false false], Y) := by
  simp only [rp, rngIn, Tryz.f129, Option.bind_some, Option.getD_some, Nat.reduceBEq, Bool.false_eq_true, if_true, if_false, zero_cast, Prod.mk.injEq] at hab
  obtain ⟨ha, hb⟩ := hab
  induction d with
  | zero =>
    intro k hk
    rw [List.drop_eq_nil_of_le (by omega), List.take_of_length_le (by omega), show k + 1 = l.length by omega]
    rfl
  | succ d ih =>
    intro k hk
    have h2 : k + 1 < l.length := by omega
    rw [ys_drop h2]
    have ih' := ih (k + 1) (by omega)
    subst ha hb
    simp (config := { maxSteps := 10000000, implicitDefEqProofs := false }) only [go_sem, Bool.false_eq_true, Nat.reduceAdd, Nat.reduceBEq, Nat.reduceLT, Nat.reduceMul, Nat.reduceSub, Nat.reduceLeDiff, Nat.reduceEqDiff, and_self, if_true, if_false, reduceIte, hT, List.length_take, Nat.min_eq_left (show k + 1 ≤ l.length by omega), show k + 1 ≤ 16777215 by omega, take_nth h2]
    exact ih'
theorem rng129' (a b : Code) (hab : rp Tryz.f129 0 = (a, b)) (T : Tmps) (hT : getT T 2 = .ptr 0 0) (Y : List Ctx) (l : List Int) (h0 : 0 < l.length) (hn : l.length ≤ 1000000) :
    rngGo K4 129 [7] a b 1 T (ys l) [.box [.f .nils]] Y = some (none, [.box [.sl 1 0 l.length 1 false], .arr (ints l) false false], Y) := by
  have h := rng129 a b hab T hT Y l hn (l.length - 1) 0 (by omega)
  simp only [rp, rngIn, Tryz.f129, Option.bind_some, Option.getD_some, Nat.reduceBEq, Bool.false_eq_true, if_true, if_false, zero_cast, Prod.mk.injEq] at hab
  obtain ⟨ha, hb⟩ := hab
  have e := ys_drop (l := l) (k := 0) h0
  rw [List.drop_zero] at e
  rw [e]
  rw [← take_nth h0, List.take_zero, List.nil_append] at h
  subst ha hb
  simp (config := { maxSteps := 10000000, implicitDefEqProofs := false }) only [go_sem, Bool.false_eq_true, Nat.reduceAdd, Nat.reduceBEq, Nat.reduceLT, Nat.reduceMul, Nat.reduceSub, Nat.reduceLeDiff, Nat.reduceEqDiff, and_self, if_true, if_false, reduceIte, hT]
  exact h

theorem r129 (a b : Code) (hab : rp Tryz.f129 0 = (a, b)) (T : Tmps) (hT : getT T 2 = .ptr 0 0) (Y : List Ctx) (nl c : Bool) (l : List Int) (n p : Nat) (hn : n ≤ 1000000) (hl : l.length = n) (hnl : NilOk nl n) (h0 : 0 < n) :
    rangeA K4 129 (.f (.fn 107 [] [.ptr [mkSl nl (ints l) n c] 0])) #[7] a b ⟨T, [.box [.f .nils]], p⟩ Y = some (.norm, ⟨T, [.box [.sl 1 0 n 1 false], .arr (ints l) false false], p⟩, Y) := by
  subst hl
  exact rangeA_gen (σ1 := [.box [.f .nils]]) rfl (g107 nl c l _ hn rfl hnl) (Nat.le_of_ble_eq_true rfl) (rng129' a b hab T hT Y l h0 hn)
theorem c129 (Y : List Ctx) (nl c : Bool) (l : List Int) (n : Nat) (hn : n ≤ 1000000) (hl : l.length = n) (hnl : NilOk nl n) (h0 : 0 < n) :
    K4.call 129 [.f .nils, .f (.fn 107 [] [.ptr [mkSl nl (ints l) n c] 0])] [] Y = some (.sl 0 0 n 1 false, [.arr (ints l) false false], Y) := by
  rw [call_run (E := E4) (fn := Tryz.f129) fnF129 rfl rfl (by simp) (by simp [Tryz.f129])]
  simp (config := { maxSteps := 10000000, implicitDefEqProofs := false }) only [go_sem, Bool.false_eq_true, Nat.reduceAdd, Nat.reduceBEq, Nat.reduceLT, Nat.reduceMul, Nat.reduceSub, Nat.reduceLeDiff, Nat.reduceEqDiff, and_self, if_true, if_false, reduceIte, rp, rngIn, Tryz.f129, Option.bind_some, Option.getD_some, Nat.reduceBEq, Bool.false_eq_true, if_true, if_false, zero_cast, r129, hn, hl, hnl, h0]

theorem c106 (Y : List Ctx) (nl c : Bool) (l : List Int) (n : Nat) (hn : n ≤ 1000000) (hl : l.length = n) (hnl : NilOk nl n) (h0 : 0 < n) :
    K4.call 106 [.f (.fn 107 [] [.ptr [mkSl nl (ints l) n c] 0])] [] Y = some (.sl 0 0 n 1 false, [.arr (ints l) false false], Y) := by
  rw [call_run (E := E4) (fn := Tryz.f106) fnF106 rfl rfl (by simp) (by simp [Tryz.f106])]
  simp (config := { maxSteps := 10000000, implicitDefEqProofs := false }) only [go_sem, Bool.false_eq_true, Nat.reduceAdd, Nat.reduceBEq, Nat.reduceLT, Nat.reduceMul, Nat.reduceSub, Nat.reduceLeDiff, Nat.reduceEqDiff, and_self, if_true, if_false, reduceIte, Tryz.f106, c129 Y nl c l n hn hl hnl h0]
theorem c87 (Y : List Ctx) (nl c : Bool) (l : List Int) (n : Nat) (hn : n ≤ 12) (hl : l.length = n) (hnl : NilOk nl n) (h0 : 0 < n) :
    K4.call 87 [.f (.fn 107 [] [.ptr [mkSl nl (ints l) n c] 0])] [] Y = some (.sl 0 0 n 1 false, [.arr (ints (isort ltI l)) false false], Y) := by
  rw [call_run (E := E4) (fn := Tryz.f87) fnF87 rfl rfl (by simp) (by simp [Tryz.f87])]
  simp (config := { maxSteps := 10000000, implicitDefEqProofs := false }) only [go_sem, Bool.false_eq_true, Nat.reduceAdd, Nat.reduceBEq, Nat.reduceLT, Nat.reduceMul, Nat.reduceSub, Nat.reduceLeDiff, Nat.reduceEqDiff, and_self, if_true, if_false, reduceIte, Tryz.f87, c106 Y nl c l n (by omega) hl hnl h0, c85 Y n hn false false l hl]
theorem c88 (Y : List Ctx) (nl c : Bool) (l : List FV) (n : Nat) :
    K4.call 88 [.f (mkSl nl l n c)] [] Y = some (.f (.fn 107 [] [.ptr [mkSl nl l n c] 0]), [], Y) := by
  rw [call_run (E := E4) (fn := Tryz.f88) fnF88 rfl rfl (by simp) (by simp [Tryz.f88])]
  simp (config := { maxSteps := 10000000, implicitDefEqProofs := false }) only [go_sem, Bool.false_eq_true, Nat.reduceAdd, Nat.reduceBEq, Nat.reduceLT, Nat.reduceMul, Nat.reduceSub, Nat.reduceLeDiff, Nat.reduceEqDiff, and_self, if_true, if_false, reduceIte, Tryz.f88]

theorem iota_nth {n k : Nat} (h : k < n) : nth (iota n) k = k := by
  rw [← nth_eq (by rw [iota_len]; exact h)]; simp [iota]
theorem drop_eq_iff {s t : List Int} {k : Nat} (h1 : k < s.length) (h2 : k < t.length) : s.drop k = t.drop k ↔ nth s k = nth t k ∧ s.drop (k + 1) = t.drop (k + 1) := by
  rw [drop_nth h1, drop_nth h2]; simp
theorem loop62 (b : Code) (hb : b = lp Tryz.f62 0) (Y : List Ctx) (v0 v' : AV) (h0 : ∀ m, v0.ren m = v0) (h1' : ∀ m, v'.ren m = v') (h2' : v0.refs = []) (h3' : v'.refs = []) (s : List Int) (n : Nat) (hn : n ≤ 12) (hs : s.length = n) (ex nl : Bool) (d : Nat) : ∀ k, k + d = n →
    ∃ T D e, loopH K4 E4 62 0 b ⟨[(0, v0), (1, v'), (11, .sl 0 0 n 1 false), (12, (.f (.int .i64 (n)))), (13, (.f (.int .i64 (k))))], [.arr (ints s) ex nl], 0⟩ Y = some (e, ⟨T, D, 0⟩, Y) ∧
      ((s.drop k = (iota n).drop k ∧ e = .exit 0 ∧ getT T 0 = v0 ∧ getT T 1 = v') ∨ (s.drop k ≠ (iota n).drop k ∧ e = .ret ∧ getT T 4 = (.f (.bool (false))))) := by
  induction d with
  | zero =>
    intro k hk
    simp only [lp, loopIn, Tryz.f62, Option.bind_some, Option.getD_some, Nat.reduceBEq, Bool.false_eq_true, if_true, if_false] at hb
    generalize hX : loopH _ _ _ _ _ _ _ = X; unfold loopH at hX; conv at hX => (lhs; arg 5; rw [hb])
    have h1 : ¬ k < n := by omega
    simp (config := { maxSteps := 10000000, implicitDefEqProofs := false }) only [go_sem, Bool.false_eq_true, Nat.reduceAdd, Nat.reduceBEq, Nat.reduceLT, Nat.reduceMul, Nat.reduceSub, Nat.reduceLeDiff, Nat.reduceEqDiff, and_self, if_true, if_false, reduceIte, h1] at hX
    subst hX
    refine ⟨_, _, _, rfl, Or.inl ⟨?_, rfl, ?_⟩⟩
    · rw [List.drop_eq_nil_of_le (by omega), List.drop_eq_nil_of_le (by rw [iota_len]; omega)]
    · simp (config := { maxSteps := 10000000, implicitDefEqProofs := false }) only [go_sem, Bool.false_eq_true, Nat.reduceAdd, Nat.reduceBEq, Nat.reduceLT, Nat.reduceMul, Nat.reduceSub, Nat.reduceLeDiff, Nat.reduceEqDiff, and_self, if_true, if_false, reduceIte]
  | succ d ih =>
    intro k hk
    simp only [lp, loopIn, Tryz.f62, Option.bind_some, Option.getD_some, Nat.reduceBEq, Bool.false_eq_true, if_true, if_false] at hb
    generalize hX : loopH _ _ _ _ _ _ _ = X; unfold loopH at hX; conv at hX => (lhs; arg 5; rw [hb])
    have h1 : k < n := by omega
    have h2 : k < s.length := by omega
    simp (config := { maxSteps := 10000000, implicitDefEqProofs := false }) only [go_sem, Bool.false_eq_true, Nat.reduceAdd, Nat.reduceBEq, Nat.reduceLT, Nat.reduceMul, Nat.reduceSub, Nat.reduceLeDiff, Nat.reduceEqDiff, and_self, if_true, if_false, reduceIte, h0, h1', h2', h3', h1, h2, get_nth h2] at hX
    simp only [ne_eq, drop_eq_iff h2 (show k < (iota n).length by rw [iota_len]; exact h1), iota_nth h1]
    cases hd : ((k : Int) == nth s k) with
    | true =>
      have hd' : nth s k = k := by have := eq_of_beq hd; exact this.symm
      obtain ⟨T, D, e, h, h'⟩ := ih (k + 1) (by omega)
      simp (config := { maxSteps := 10000000, implicitDefEqProofs := false }) only [go_sem, Bool.false_eq_true, Nat.reduceAdd, Nat.reduceBEq, Nat.reduceLT, Nat.reduceMul, Nat.reduceSub, Nat.reduceLeDiff, Nat.reduceEqDiff, and_self, if_true, if_false, reduceIte, hd, h0, h1', h2', h3', wrap_succ (show k ≤ 1000000000 by omega), h] at hX
      subst hX
      refine ⟨T, D, e, rfl, ?_⟩
      simpa [hd'] using h'
    | false =>
      have hd' : ¬ nth s k = k := by intro hh; rw [hh] at hd; simp at hd
      simp (config := { maxSteps := 10000000, implicitDefEqProofs := false }) only [go_sem, Bool.false_eq_true, Nat.reduceAdd, Nat.reduceBEq, Nat.reduceLT, Nat.reduceMul, Nat.reduceSub, Nat.reduceLeDiff, Nat.reduceEqDiff, and_self, if_true, if_false, reduceIte, hd] at hX
      subst hX
      refine ⟨_, _, _, rfl, Or.inr ⟨fun hh => hd' hh.1, rfl, ?_⟩⟩
      simp (config := { maxSteps := 10000000, implicitDefEqProofs := false }) only [go_sem, Bool.false_eq_true, Nat.reduceAdd, Nat.reduceBEq, Nat.reduceLT, Nat.reduceMul, Nat.reduceSub, Nat.reduceLeDiff, Nat.reduceEqDiff, and_self, if_true, if_false, reduceIte]
theorem c62 (Y : List Ctx) (nl c : Bool) (l : List Int) (n : Nat) (hn : n ≤ 12) (hl : l.length = n) (hnl : NilOk nl n) (h0 : 0 < n) (below : Int) :
    K4.call 62 [.f (mkSl nl (ints l) n c), (.f (.int .i64 (below)))] [] Y = some ((.f (.bool ((isort ltI l == iota n) && ((n : Int) == below)))), [], Y) := by
  obtain ⟨T, D, e, h, h'⟩ := loop62 _ rfl Y (.f (mkSl nl (ints l) n c)) (.f (.int .i64 (below))) (fun _ => ren_f) (fun _ => ren_f) rfl rfl (isort ltI l) n hn (by rw [isort_len, hl]) false false n 0 (by omega)
  simp only [lp, loopIn, Tryz.f62, Option.bind_some, Option.getD_some, Nat.reduceBEq, Bool.false_eq_true, if_true, if_false, zero_cast] at h
  simp only [List.drop_zero] at h'
  rcases h' with ⟨hs, rfl, g0, g1⟩ | ⟨hs, rfl, g4⟩
  · rw [call_run (E := E4) (fn := Tryz.f62) fnF62 rfl rfl (by simp) (by simp [Tryz.f62])]
    rw [hs]
    simp (config := { maxSteps := 10000000, implicitDefEqProofs := false }) only [go_sem, Bool.false_eq_true, Nat.reduceAdd, Nat.reduceBEq, Nat.reduceLT, Nat.reduceMul, Nat.reduceSub, Nat.reduceLeDiff, Nat.reduceEqDiff, and_self, if_true, if_false, reduceIte, Tryz.f62, c88, c87 Y nl c l n hn hl hnl h0, h, g0, g1, hnl]
    trace_state
  · have hs' : (isort ltI l == iota n) = false := by simp [hs]
    rw [hs', Bool.false_and]
    rw [call_run (E := E4) (fn := Tryz.f62) fnF62 rfl rfl (by simp) (by simp [Tryz.f62])]
    simp (config := { maxSteps := 10000000, implicitDefEqProofs := false }) only [go_sem, Bool.false_eq_true, Nat.reduceAdd, Nat.reduceBEq, Nat.reduceLT, Nat.reduceMul, Nat.reduceSub, Nat.reduceLeDiff, Nat.reduceEqDiff, and_self, if_true, if_false, reduceIte, Tryz.f62, c88, c87 Y nl c l n hn hl hnl h0, h, g4]
end Go.AM

namespace Go.AM
open Go.Proofs
set_option maxHeartbeats 0
set_option maxRecDepth 100000
set_option linter.unusedSimpArgs false
set_option linter.unusedVariables false
/-- a cloth -/
structure Cl where
  w : Int
  c : Int
  lo : Int
  hi : Int
  deriving DecidableEq
def clV (x : Cl) : List FV := [.int .i64 x.w, .int .i64 x.c, .int .i64 x.lo, .int .i64 x.hi]
def cls (l : List Cl) : List FV := l.flatMap clV
def cAt (l : List Cl) (k : Nat) : Cl := l.getD k ⟨0, 0, 0, 0⟩
theorem cls_cons (x : Cl) (l : List Cl) : cls (x :: l) = clV x ++ cls l := rfl
theorem cls_len (l : List Cl) : (cls l).length = l.length * 4 := by
  induction l with
  | nil => rfl
  | cons x l ih => rw [cls_cons, List.length_append, ih]; simp [clV]; omega
theorem cls_drop (l : List Cl) : ∀ k, (cls l).drop (k * 4) = cls (l.drop k) := by
  induction l with
  | nil => intro k; simp [cls]
  | cons x l ih =>
    intro k
    cases k with
    | zero => simp
    | succ k =>
      rw [cls_cons, show (k + 1) * 4 = (clV x).length + k * 4 by simp [clV]; omega, List.drop_length_add_append, ih]
      rfl
theorem cAt_eq {l : List Cl} {k : Nat} (h : k < l.length) : l[k] = cAt l k := by
  rw [cAt, List.getD_eq_getElem?_getD, List.getElem?_eq_getElem h]; rfl
theorem cls_at {l : List Cl} {k : Nat} (h : k < l.length) : (cls l).drop (k * 4) = clV (cAt l k) ++ cls (l.drop (k + 1)) := by
  rw [cls_drop, List.drop_eq_getElem_cons h, cls_cons, cAt_eq h]
theorem cls_get {l : List Cl} {k : Nat} (h : k < l.length) (j : Nat) (hj : j < 4) : (cls l)[k * 4 + j]? = (clV (cAt l k))[j]? := by
  have e := cls_at h
  have : (cls l)[k * 4 + j]? = ((cls l).drop (k * 4))[j]? := by simp
  rw [this, e, List.getElem?_append_left (by simpa [clV] using hj)]
theorem cls_g0 {l : List Cl} {k : Nat} (h : k < l.length) : (cls l)[k * 4]? = some (.int .i64 (cAt l k).w) := cls_get h 0 (by omega)
theorem cls_g1 {l : List Cl} {k : Nat} (h : k < l.length) : (cls l)[k * 4 + 1]? = some (.int .i64 (cAt l k).c) := cls_get h 1 (by omega)
theorem cls_g2 {l : List Cl} {k : Nat} (h : k < l.length) : (cls l)[k * 4 + 2]? = some (.int .i64 (cAt l k).lo) := cls_get h 2 (by omega)
theorem cls_g3 {l : List Cl} {k : Nat} (h : k < l.length) : (cls l)[k * 4 + 2 + 1]? = some (.int .i64 (cAt l k).hi) := cls_get h 3 (by omega)
theorem cls_s4 {l : List Cl} {k : Nat} (h : k < l.length) : sliceOf (cls l) (k * 4) 4 = some (clV (cAt l k)) := by
  simp only [sliceOf, cls_at h]
  rfl
theorem cls_s2 {l : List Cl} {k : Nat} (h : k < l.length) : sliceOf (cls l) (k * 4 + 2) 2 = some [.int .i64 (cAt l k).lo, .int .i64 (cAt l k).hi] := by
  have e : (cls l).drop (k * 4 + 2) = [.int .i64 (cAt l k).lo, .int .i64 (cAt l k).hi] ++ cls (l.drop (k + 1)) := by
    rw [← List.drop_drop, cls_at h]; rfl
  simp only [sliceOf, e]
  rfl
theorem cutS_2 {v w : FV} : cutS [v, w] 0 2 = [v, w] := rfl
attribute [go_sem] cls_g0 cls_g1 cls_g2 cls_g3 cls_s4 cls_s2 clV cutS_2

/-! within -/
theorem c73 (Y : List Ctx) (a b x : Int) : K4.call 73 [(.f (.int .i64 (x))), .f (.ptr [.int .i64 a] 0), .f (.ptr [.int .i64 b] 0)] [] Y = some ((.f (.bool (decide (x < a) || decide (x > b)))), [], Y) := by
  rw [call_run (E := E4) (fn := Tryz.f73) fnF73 rfl rfl (by simp) (by simp [Tryz.f73])]
  cases h : decide (x < a) with
  | true => simp (config := { maxSteps := 10000000, implicitDefEqProofs := false }) only [go_sem, Bool.false_eq_true, Nat.reduceAdd, Nat.reduceBEq, Nat.reduceLT, Nat.reduceMul, Nat.reduceSub, Nat.reduceLeDiff, Nat.reduceEqDiff, and_self, if_true, if_false, reduceIte, Tryz.f73, h, Bool.true_or]
  | false => simp (config := { maxSteps := 10000000, implicitDefEqProofs := false }) only [go_sem, Bool.false_eq_true, Nat.reduceAdd, Nat.reduceBEq, Nat.reduceLT, Nat.reduceMul, Nat.reduceSub, Nat.reduceLeDiff, Nat.reduceEqDiff, and_self, if_true, if_false, reduceIte, Tryz.f73, h, Bool.false_or]
def inI (a b x : Int) : Bool := decide (a ≤ x) && decide (x ≤ b)
theorem not_out (a b x : Int) : (!(decide (x < a) || decide (x > b))) = inI a b x := by
  by_cases h1 : x < a <;> by_cases h2 : x > b <;> simp [inI, h1, h2] <;> omega
theorem c45_1 (Y : List Ctx) (a b x : Int) : K4.call 45 [(.f (.int .i64 (a))), (.f (.int .i64 (b))), .f (.sl [.int .i64 x] 1 false)] [] Y = some ((.f (.bool (inI a b x))), [], Y) := by
  have h := c72 [] 73 [] [.ptr [.int .i64 a] 0, .ptr [.int .i64 b] 0] (fun x => decide (x < a) || decide (x > b)) false false [x] 1 (by omega) rfl (fun h => by cases h) (fun y _ Y => c73 Y a b y)
  simp only [mkSl_f, ints, List.map_cons, List.map_nil, List.any_cons, List.any_nil, Bool.or_false] at h
  rw [call_run (E := E4) (fn := Tryz.f45) fnF45 rfl rfl (by simp) (by simp [Tryz.f45])]
  simp (config := { maxSteps := 10000000, implicitDefEqProofs := false }) only [go_sem, Bool.false_eq_true, Nat.reduceAdd, Nat.reduceBEq, Nat.reduceLT, Nat.reduceMul, Nat.reduceSub, Nat.reduceLeDiff, Nat.reduceEqDiff, and_self, if_true, if_false, reduceIte, Tryz.f45, h]
  rw [not_out]
theorem c45_2 (Y : List Ctx) (a b x y : Int) : K4.call 45 [(.f (.int .i64 (a))), (.f (.int .i64 (b))), .f (.sl [.int .i64 x, .int .i64 y] 2 false)] [] Y = some ((.f (.bool (inI a b x && inI a b y))), [], Y) := by
  have h := c72 [] 73 [] [.ptr [.int .i64 a] 0, .ptr [.int .i64 b] 0] (fun x => decide (x < a) || decide (x > b)) false false [x, y] 2 (by omega) rfl (fun h => by cases h) (fun y _ Y => c73 Y a b y)
  simp only [mkSl_f, ints, List.map_cons, List.map_nil, List.any_cons, List.any_nil, Bool.or_false] at h
  rw [call_run (E := E4) (fn := Tryz.f45) fnF45 rfl rfl (by simp) (by simp [Tryz.f45])]
  simp (config := { maxSteps := 10000000, implicitDefEqProofs := false }) only [go_sem, Bool.false_eq_true, Nat.reduceAdd, Nat.reduceBEq, Nat.reduceLT, Nat.reduceMul, Nat.reduceSub, Nat.reduceLeDiff, Nat.reduceEqDiff, and_self, if_true, if_false, reduceIte, Tryz.f45, h]
  rw [Bool.not_or, not_out, not_out]
end Go.AM

namespace Go.AM
open Go.Proofs
set_option maxHeartbeats 0
set_option maxRecDepth 100000
set_option linter.unusedSimpArgs false
set_option linter.unusedVariables false
def clBad (m : Nat) (x : Cl) : Bool := !(inI 0 ((m : Int) - 1) x.w) || (!(inI 0 200 x.c) || (!(inI 1 20 x.lo && inI 1 20 x.hi) || decide (x.lo > x.hi)))
theorem wrap_len1 {m : Nat} (h : m ≤ 1000000000) : IntKind.i64.wrap ((m : Int) - 1) = (m : Int) - 1 := IntWalk.i64_in _ (by omega)
theorem c99 (Y : List Ctx) (n1 c1 n2 c2 : Bool) (cl : List Cl) (rk : List Int) (x : Cl) (hm : rk.length ≤ 1000000) (hn1 : NilOk n1 cl.length) (hn2 : NilOk n2 rk.length) :
    K4.call 99 [.agg [(.f (.int .i64 (x.w))), (.f (.int .i64 (x.c))), (.f (.int .i64 (x.lo))), (.f (.int .i64 (x.hi)))], (.f (.ptr [mkSl n1 (cls cl) cl.length c1, mkSl n2 (ints rk) rk.length c2] 0))] [] Y = some ((.f (.bool (clBad rk.length x))), [], Y) := by
  rw [call_run (E := E4) (fn := Tryz.f99) fnF99 rfl rfl (by simp) (by simp [Tryz.f99])]
  unfold clBad
  have hw := wrap_len1 (show rk.length ≤ 1000000000 by omega)
  cases h1 : inI 0 ((rk.length : Int) - 1) x.w with
  | false => simp (config := { maxSteps := 10000000, implicitDefEqProofs := false }) only [go_sem, Bool.false_eq_true, Nat.reduceAdd, Nat.reduceBEq, Nat.reduceLT, Nat.reduceMul, Nat.reduceSub, Nat.reduceLeDiff, Nat.reduceEqDiff, and_self, if_true, if_false, reduceIte, Tryz.f99, hn1, hn2, hw, c45_1, c45_2, h1, Bool.true_or]
  | true =>
    cases h2 : inI 0 200 x.c with
    | false => simp (config := { maxSteps := 10000000, implicitDefEqProofs := false }) only [go_sem, Bool.false_eq_true, Nat.reduceAdd, Nat.reduceBEq, Nat.reduceLT, Nat.reduceMul, Nat.reduceSub, Nat.reduceLeDiff, Nat.reduceEqDiff, and_self, if_true, if_false, reduceIte, Tryz.f99, hn1, hn2, hw, c45_1, c45_2, h1, h2, Bool.true_or, Bool.false_or]
    | true =>
      cases h3 : (inI 1 20 x.lo && inI 1 20 x.hi) with
      | false => simp (config := { maxSteps := 10000000, implicitDefEqProofs := false }) only [go_sem, Bool.false_eq_true, Nat.reduceAdd, Nat.reduceBEq, Nat.reduceLT, Nat.reduceMul, Nat.reduceSub, Nat.reduceLeDiff, Nat.reduceEqDiff, and_self, if_true, if_false, reduceIte, Tryz.f99, hn1, hn2, hw, c45_1, c45_2, h1, h2, h3, Bool.true_or, Bool.false_or]
      | true => simp (config := { maxSteps := 10000000, implicitDefEqProofs := false }) only [go_sem, Bool.false_eq_true, Nat.reduceAdd, Nat.reduceBEq, Nat.reduceLT, Nat.reduceMul, Nat.reduceSub, Nat.reduceLeDiff, Nat.reduceEqDiff, and_self, if_true, if_false, reduceIte, Tryz.f99, hn1, hn2, hw, c45_1, c45_2, h1, h2, h3, Bool.true_or, Bool.false_or]

theorem loop109 (b : Code) (hb : b = lp Tryz.f109 0) (Y : List Ctx) (g : FuncId) (x y : List FV) (p : Cl → Bool) (nl c : Bool) (l : List Cl) (n : Nat) (hn : n ≤ 1000000) (hl : l.length = n) (hnl : NilOk nl n)
    (hp : ∀ a ∈ l, ∀ Y, K4.call g (x.map ofFV ++ [.agg [(.f (.int .i64 (a.w))), (.f (.int .i64 (a.c))), (.f (.int .i64 (a.lo))), (.f (.int .i64 (a.hi)))]] ++ y.map ofFV) [] Y = some ((.f (.bool (p a))), [], Y)) (d : Nat) : ∀ k, k + d = n →
    ∃ T e r, loopH K4 E4 109 0 b ⟨[(0, .f (mkSl nl (cls l) n c)), (1, .f (.fn g x y)), (7, (.f (.int .i64 (n)))), (8, (.f (.int .i64 (k))))], [], 0⟩ Y = some (e, ⟨T, [], 0⟩, Y) ∧
      (((l.drop k).any p = true ∧ e = .ret ∧ getT T 4 = (.f (.int .i64 (r))) ∧ 0 ≤ r) ∨ ((l.drop k).any p = false ∧ e = .exit 0)) := by
  induction d with
  | zero =>
    intro k hk
    simp only [lp, loopIn, Tryz.f109, Option.bind_some, Option.getD_some, Nat.reduceBEq, Bool.false_eq_true, if_true, if_false] at hb
    generalize hX : loopH _ _ _ _ _ _ _ = X; unfold loopH at hX; conv at hX => (lhs; arg 5; rw [hb])
    have h1 : ¬ k < n := by omega
    simp (config := { maxSteps := 10000000, implicitDefEqProofs := false }) only [go_sem, Bool.false_eq_true, Nat.reduceAdd, Nat.reduceBEq, Nat.reduceLT, Nat.reduceMul, Nat.reduceSub, Nat.reduceLeDiff, Nat.reduceEqDiff, and_self, if_true, if_false, reduceIte, h1] at hX
    subst hX
    refine ⟨_, _, 0, rfl, Or.inr ⟨?_, rfl⟩⟩
    rw [List.drop_eq_nil_of_le (by omega)]; rfl
  | succ d ih =>
    intro k hk
    simp only [lp, loopIn, Tryz.f109, Option.bind_some, Option.getD_some, Nat.reduceBEq, Bool.false_eq_true, if_true, if_false] at hb
    generalize hX : loopH _ _ _ _ _ _ _ = X; unfold loopH at hX; conv at hX => (lhs; arg 5; rw [hb])
    have h1 : k < n := by omega
    have h2 : k < l.length := by omega
    simp (config := { maxSteps := 10000000, implicitDefEqProofs := false }) only [go_sem, Bool.false_eq_true, Nat.reduceAdd, Nat.reduceBEq, Nat.reduceLT, Nat.reduceMul, Nat.reduceSub, Nat.reduceLeDiff, Nat.reduceEqDiff, and_self, if_true, if_false, reduceIte, h1, h2, hnl, refsL_app, hp (cAt l k) (by rw [← cAt_eq h2]; exact List.getElem_mem h2)] at hX
    rw [drop_any p l k h2, cAt_eq h2]
    cases hd : p (cAt l k) with
    | true =>
      simp (config := { maxSteps := 10000000, implicitDefEqProofs := false }) only [go_sem, Bool.false_eq_true, Nat.reduceAdd, Nat.reduceBEq, Nat.reduceLT, Nat.reduceMul, Nat.reduceSub, Nat.reduceLeDiff, Nat.reduceEqDiff, and_self, if_true, if_false, reduceIte, hd] at hX
      subst hX
      exact ⟨_, _, k, rfl, Or.inl ⟨rfl, rfl, by simp only [go_sem, Nat.reduceBEq], by omega⟩⟩
    | false =>
      obtain ⟨T, e, r, h, h'⟩ := ih (k + 1) (by omega)
      simp (config := { maxSteps := 10000000, implicitDefEqProofs := false }) only [go_sem, Bool.false_eq_true, Nat.reduceAdd, Nat.reduceBEq, Nat.reduceLT, Nat.reduceMul, Nat.reduceSub, Nat.reduceLeDiff, Nat.reduceEqDiff, and_self, if_true, if_false, reduceIte, hd, wrap_succ (show k ≤ 1000000000 by omega), h] at hX
      subst hX
      exact ⟨T, e, r, rfl, by simpa using h'⟩
theorem c100 (Y : List Ctx) (g : FuncId) (x y : List FV) (p : Cl → Bool) (nl c : Bool) (l : List Cl) (n : Nat) (hn : n ≤ 1000000) (hl : l.length = n) (hnl : NilOk nl n)
    (hp : ∀ a ∈ l, ∀ Y, K4.call g (x.map ofFV ++ [.agg [(.f (.int .i64 (a.w))), (.f (.int .i64 (a.c))), (.f (.int .i64 (a.lo))), (.f (.int .i64 (a.hi)))]] ++ y.map ofFV) [] Y = some ((.f (.bool (p a))), [], Y)) :
    K4.call 100 [.f (mkSl nl (cls l) n c), .f (.fn g x y)] [] Y = some ((.f (.bool (l.any p))), [], Y) := by
  obtain ⟨T, e, r, h, h'⟩ := loop109 _ rfl Y g x y p nl c l n hn hl hnl hp n 0 (by omega)
  simp only [lp, loopIn, Tryz.f109, Option.bind_some, Option.getD_some, Nat.reduceBEq, Bool.false_eq_true, if_true, if_false, zero_cast] at h
  have h101 : ∃ r, K4.call 109 [.f (mkSl nl (cls l) n c), .f (.fn g x y)] [] Y = some ((.f (.int .i64 (r))), [], Y) ∧ decide (0 ≤ r) = l.any p := by
    rcases h' with ⟨ha, rfl, h4, hr⟩ | ⟨ha, rfl⟩
    · refine ⟨r, ?_, by simpa [hr] using ha⟩
      rw [call_run (E := E4) (fn := Tryz.f109) fnF109 rfl rfl (by simp) (by simp [Tryz.f109])]
      simp (config := { maxSteps := 10000000, implicitDefEqProofs := false }) only [go_sem, Bool.false_eq_true, Nat.reduceAdd, Nat.reduceBEq, Nat.reduceLT, Nat.reduceMul, Nat.reduceSub, Nat.reduceLeDiff, Nat.reduceEqDiff, and_self, if_true, if_false, reduceIte, Tryz.f109, hnl, h, h4]
    · refine ⟨-1, ?_, by simpa using ha⟩
      rw [call_run (E := E4) (fn := Tryz.f109) fnF109 rfl rfl (by simp) (by simp [Tryz.f109])]
      simp (config := { maxSteps := 10000000, implicitDefEqProofs := false }) only [go_sem, Bool.false_eq_true, Nat.reduceAdd, Nat.reduceBEq, Nat.reduceLT, Nat.reduceMul, Nat.reduceSub, Nat.reduceLeDiff, Nat.reduceEqDiff, and_self, if_true, if_false, reduceIte, Tryz.f109, hnl, h]
  obtain ⟨r', h1, h2⟩ := h101
  rw [call_run (E := E4) (fn := Tryz.f100) fnF100 rfl rfl (by simp) (by simp [Tryz.f100])]
  simp (config := { maxSteps := 10000000, implicitDefEqProofs := false }) only [go_sem, Bool.false_eq_true, Nat.reduceAdd, Nat.reduceBEq, Nat.reduceLT, Nat.reduceMul, Nat.reduceSub, Nat.reduceLeDiff, Nat.reduceEqDiff, and_self, if_true, if_false, reduceIte, Tryz.f100, h1, ge_iff_le, h2]

/-- the error of a day -/
def chk (cl : List Cl) (rk : List Int) : Int :=
  if (!(inI 1 6 rk.length)) = true then 4 else if (!(isort ltI rk == iota rk.length)) = true then 4 else if decide ((cl.length : Int) > 10) = true then 5 else if cl.any (clBad rk.length) = true then 2 else 0
theorem c71 (Y : List Ctx) (n1 c1 n2 c2 : Bool) (cl : List Cl) (rk : List Int) (hm : rk.length ≤ 1000000) (hc : cl.length ≤ 1000000) (hn1 : NilOk n1 cl.length) (hn2 : NilOk n2 rk.length) :
    K4.call 71 [(.agg [.f (mkSl n1 (cls cl) cl.length c1), .f (mkSl n2 (ints rk) rk.length c2)])] [] Y = some ((.f (.int .i64 (chk cl rk))), [], Y) := by
  have h100 := c100 [] 99 [] [.ptr [mkSl n1 (cls cl) cl.length c1, mkSl n2 (ints rk) rk.length c2] 0] (clBad rk.length) n1 c1 cl cl.length hc rfl hn1 (fun a _ Y => c99 Y n1 c1 n2 c2 cl rk a hm hn1 hn2)
  rw [call_run (E := E4) (fn := Tryz.f71) fnF71 rfl rfl (by simp) (by simp [Tryz.f71])]
  unfold chk
  cases h1 : inI 1 6 rk.length with
  | false => simp (config := { maxSteps := 10000000, implicitDefEqProofs := false }) only [go_sem, Bool.false_eq_true, Nat.reduceAdd, Nat.reduceBEq, Nat.reduceLT, Nat.reduceMul, Nat.reduceSub, Nat.reduceLeDiff, Nat.reduceEqDiff, and_self, if_true, if_false, reduceIte, Tryz.f71, hn1, hn2, c45_1, h1]
  | true =>
    have hr : 0 < rk.length ∧ rk.length ≤ 12 := by simp [inI] at h1; omega
    have h62 := fun Y => c62 Y n2 c2 rk rk.length hr.2 rfl hn2 hr.1 rk.length
    cases h2 : (isort ltI rk == iota rk.length) with
    | false =>
      simp only [h2] at h62
      simp (config := { maxSteps := 10000000, implicitDefEqProofs := false }) only [go_sem, Bool.false_eq_true, Nat.reduceAdd, Nat.reduceBEq, Nat.reduceLT, Nat.reduceMul, Nat.reduceSub, Nat.reduceLeDiff, Nat.reduceEqDiff, and_self, if_true, if_false, reduceIte, Tryz.f71, hn1, hn2, c45_1, h1, h62, Bool.false_and]
    | true =>
      simp only [h2] at h62
      cases h3 : decide ((cl.length : Int) > 10) with
      | true =>
        simp (config := { maxSteps := 10000000, implicitDefEqProofs := false }) only [go_sem, Bool.false_eq_true, Nat.reduceAdd, Nat.reduceBEq, Nat.reduceLT, Nat.reduceMul, Nat.reduceSub, Nat.reduceLeDiff, Nat.reduceEqDiff, and_self, if_true, if_false, reduceIte, Tryz.f71, hn1, hn2, c45_1, h1, h62, beq_self_eq_true, Bool.and_self, h3]
      | false =>
        cases h4 : cl.any (clBad rk.length) with
        | true => simp (config := { maxSteps := 10000000, implicitDefEqProofs := false }) only [go_sem, Bool.false_eq_true, Nat.reduceAdd, Nat.reduceBEq, Nat.reduceLT, Nat.reduceMul, Nat.reduceSub, Nat.reduceLeDiff, Nat.reduceEqDiff, and_self, if_true, if_false, reduceIte, Tryz.f71, hn1, hn2, c45_1, h1, h62, beq_self_eq_true, Bool.and_self, h3, h100, h4]
        | false => simp (config := { maxSteps := 10000000, implicitDefEqProofs := false }) only [go_sem, Bool.false_eq_true, Nat.reduceAdd, Nat.reduceBEq, Nat.reduceLT, Nat.reduceMul, Nat.reduceSub, Nat.reduceLeDiff, Nat.reduceEqDiff, and_self, if_true, if_false, reduceIte, Tryz.f71, hn1, hn2, c45_1, h1, h62, beq_self_eq_true, Bool.and_self, h3, h100, h4]
/-- the error of a day, of stocks and of a limit -/
def opn (cl : List Cl) (rk : List Int) (st lim : Int) : Int := if (chk cl rk == 0) = true then (if (!(inI 1 5 st)) = true then 3 else if (!(inI 0 500 lim)) = true then 3 else 0) else chk cl rk
theorem c44 (Y : List Ctx) (n1 c1 n2 c2 : Bool) (cl : List Cl) (rk : List Int) (hm : rk.length ≤ 1000000) (hc : cl.length ≤ 1000000) (hn1 : NilOk n1 cl.length) (hn2 : NilOk n2 rk.length) (st lim : Int) :
    K4.call 44 [(.agg [.f (mkSl n1 (cls cl) cl.length c1), .f (mkSl n2 (ints rk) rk.length c2)]), (.f (.int .i64 (st))), (.f (.int .i64 (lim)))] [] Y = some (.tup [(.agg [.f (mkSl n1 (cls cl) cl.length c1), .f (mkSl n2 (ints rk) rk.length c2)]), (.f (.int .i64 (opn cl rk st lim)))], [], Y) := by
  rw [call_run (E := E4) (fn := Tryz.f44) fnF44 rfl rfl (by simp) (by simp [Tryz.f44])]
  have h71 := fun Y => c71 Y n1 c1 n2 c2 cl rk hm hc hn1 hn2
  unfold opn
  cases h1 : (chk cl rk == 0) with
  | false => simp (config := { maxSteps := 10000000, implicitDefEqProofs := false }) only [go_sem, Bool.false_eq_true, Nat.reduceAdd, Nat.reduceBEq, Nat.reduceLT, Nat.reduceMul, Nat.reduceSub, Nat.reduceLeDiff, Nat.reduceEqDiff, and_self, if_true, if_false, reduceIte, Tryz.f44, h71, h1]
  | true =>
    have h1' : chk cl rk = 0 := by simpa using h1
    rw [h1'] at h71
    cases h2 : inI 1 5 st with
    | false => simp (config := { maxSteps := 10000000, implicitDefEqProofs := false }) only [go_sem, Bool.false_eq_true, Nat.reduceAdd, Nat.reduceBEq, Nat.reduceLT, Nat.reduceMul, Nat.reduceSub, Nat.reduceLeDiff, Nat.reduceEqDiff, and_self, if_true, if_false, reduceIte, Tryz.f44, h71, h1, h2, c45_1]
    | true =>
      cases h3 : inI 0 500 lim with
      | false => simp (config := { maxSteps := 10000000, implicitDefEqProofs := false }) only [go_sem, Bool.false_eq_true, Nat.reduceAdd, Nat.reduceBEq, Nat.reduceLT, Nat.reduceMul, Nat.reduceSub, Nat.reduceLeDiff, Nat.reduceEqDiff, and_self, if_true, if_false, reduceIte, Tryz.f44, h71, h1, h2, h3, c45_1]
      | true => simp (config := { maxSteps := 10000000, implicitDefEqProofs := false }) only [go_sem, Bool.false_eq_true, Nat.reduceAdd, Nat.reduceBEq, Nat.reduceLT, Nat.reduceMul, Nat.reduceSub, Nat.reduceLeDiff, Nat.reduceEqDiff, and_self, if_true, if_false, reduceIte, Tryz.f44, h71, h1, h2, h3, c45_1]
end Go.AM

namespace Go.AM
open Go.Proofs
set_option maxHeartbeats 0
set_option maxRecDepth 100000
set_option linter.unusedSimpArgs false
set_option linter.unusedVariables false
theorem cls_take (l : List Cl) : ∀ k, (cls l).take (k * 4) = cls (l.take k) := by
  induction l with
  | nil => intro k; simp [cls]
  | cons x l ih =>
    intro k
    cases k with
    | zero => simp [cls]
    | succ k =>
      rw [cls_cons, show (k + 1) * 4 = (clV x).length + k * 4 by simp [clV]; omega, List.take_length_add_append, ih]
      rfl
theorem cAt_take {l : List Cl} {i k : Nat} (h : i < k) (hk : k ≤ l.length) : cAt (l.take k) i = cAt l i := by
  rw [← cAt_eq (l := l.take k) (by simp; omega), ← cAt_eq (l := l) (by omega)]
  simp
theorem drop_count {α : Type} (p : α → Bool) (l : List α) (k : Nat) (h : k < l.length) : (l.drop k).countP p = (if p l[k] = true then 1 else 0) + (l.drop (k + 1)).countP p := by
  rw [List.drop_eq_getElem_cons h, List.countP_cons]; omega
def alike (x y : Cl) : Bool := y.w == x.w && y.c == x.c
theorem loop94 (b : Code) (hb : b = lp Tryz.f94 0) (Y : List Ctx) (nl c : Bool) (l : List Cl) (x : Cl) (k : Nat) (hk : l.length = k) (hn : k ≤ 1000000) (hnl : NilOk nl k) (d : Nat) : ∀ (i cnt : Nat), i + d = k → cnt ≤ i →
    ∃ T D, loopH K4 E4 94 0 b ⟨[(4, (.f (.int .i64 (cnt)))), (5, .ptr 0 0), (18, .f (mkSl nl (cls l) k c)), (19, (.f (.int .i64 (k)))), (20, (.f (.int .i64 (i))))], [.box [(.f (.int .i64 (x.w))), (.f (.int .i64 (x.c))), (.f (.int .i64 (x.lo))), (.f (.int .i64 (x.hi)))]], 0⟩ Y = some (.exit 0, ⟨T, D, 0⟩, Y) ∧
      getT T 4 = (.f (.int .i64 ((cnt + (l.drop i).countP (alike x) : Nat)))) := by
  induction d with
  | zero =>
    intro i cnt hi hc
    simp only [lp, loopIn, Tryz.f94, Option.bind_some, Option.getD_some, Nat.reduceBEq, Bool.false_eq_true, if_true, if_false] at hb
    generalize hX : loopH _ _ _ _ _ _ _ = X; unfold loopH at hX; conv at hX => (lhs; arg 5; rw [hb])
    have h1 : ¬ i < k := by omega
    simp (config := { maxSteps := 10000000, implicitDefEqProofs := false }) only [go_sem, Bool.false_eq_true, Nat.reduceAdd, Nat.reduceBEq, Nat.reduceLT, Nat.reduceMul, Nat.reduceSub, Nat.reduceLeDiff, Nat.reduceEqDiff, and_self, if_true, if_false, reduceIte, h1] at hX
    subst hX
    refine ⟨_, _, rfl, ?_⟩
    rw [List.drop_eq_nil_of_le (by omega)]
    simp (config := { maxSteps := 10000000, implicitDefEqProofs := false }) only [go_sem, Bool.false_eq_true, Nat.reduceAdd, Nat.reduceBEq, Nat.reduceLT, Nat.reduceMul, Nat.reduceSub, Nat.reduceLeDiff, Nat.reduceEqDiff, and_self, if_true, if_false, reduceIte, List.countP_nil]
  | succ d ih =>
    intro i cnt hi hc
    simp only [lp, loopIn, Tryz.f94, Option.bind_some, Option.getD_some, Nat.reduceBEq, Bool.false_eq_true, if_true, if_false] at hb
    generalize hX : loopH _ _ _ _ _ _ _ = X; unfold loopH at hX; conv at hX => (lhs; arg 5; rw [hb])
    have h1 : i < k := by omega
    have h2 : i < l.length := by omega
    rw [drop_count _ l i h2, cAt_eq h2]
    cases ha : ((cAt l i).w == x.w) with
    | false =>
      obtain ⟨T, D, h, h'⟩ := ih (i + 1) cnt (by omega) (by omega)
      have hal : alike x (cAt l i) = false := by simp only [alike, ha, Bool.false_and]
      simp (config := { maxSteps := 10000000, implicitDefEqProofs := false }) only [go_sem, Bool.false_eq_true, Nat.reduceAdd, Nat.reduceBEq, Nat.reduceLT, Nat.reduceMul, Nat.reduceSub, Nat.reduceLeDiff, Nat.reduceEqDiff, and_self, if_true, if_false, reduceIte, h1, h2, hnl, ha, wrap_succ (show i ≤ 1000000000 by omega), h] at hX
      subst hX
      refine ⟨T, D, rfl, ?_⟩
      rw [h', hal]; simp
    | true =>
      cases hb' : ((cAt l i).c == x.c) with
      | false =>
        obtain ⟨T, D, h, h'⟩ := ih (i + 1) cnt (by omega) (by omega)
        have hal : alike x (cAt l i) = false := by simp only [alike, ha, hb', Bool.and_false]
        simp (config := { maxSteps := 10000000, implicitDefEqProofs := false }) only [go_sem, Bool.false_eq_true, Nat.reduceAdd, Nat.reduceBEq, Nat.reduceLT, Nat.reduceMul, Nat.reduceSub, Nat.reduceLeDiff, Nat.reduceEqDiff, and_self, if_true, if_false, reduceIte, h1, h2, hnl, ha, hb', wrap_succ (show i ≤ 1000000000 by omega), h] at hX
        subst hX
        refine ⟨T, D, rfl, ?_⟩
        rw [h', hal]; simp
      | true =>
        obtain ⟨T, D, h, h'⟩ := ih (i + 1) (cnt + 1) (by omega) (by omega)
        have hal : alike x (cAt l i) = true := by simp only [alike, ha, hb', Bool.and_self]
        simp (config := { maxSteps := 10000000, implicitDefEqProofs := false }) only [go_sem, Bool.false_eq_true, Nat.reduceAdd, Nat.reduceBEq, Nat.reduceLT, Nat.reduceMul, Nat.reduceSub, Nat.reduceLeDiff, Nat.reduceEqDiff, and_self, if_true, if_false, reduceIte, h1, h2, hnl, ha, hb', wrap_succ (show i ≤ 1000000000 by omega), wrap_succ (show cnt ≤ 1000000000 by omega), h] at hX
        subst hX
        refine ⟨T, D, rfl, ?_⟩
        rw [h', hal, Nat.add_assoc]; rfl
/-- how many alike stand before -/
def earl (cl : List Cl) (k : Nat) : Nat := (cl.take k).countP (alike (cAt cl k))
theorem c94 (Y : List Ctx) (n1 c1 n2 c2 : Bool) (cl : List Cl) (rk : List Int) (hc : cl.length ≤ 1000000) (hn1 : NilOk n1 cl.length) (hn2 : NilOk n2 rk.length) (k : Nat) (hk : k < cl.length) :
    K4.call 94 [(.agg [.f (mkSl n1 (cls cl) cl.length c1), .f (mkSl n2 (ints rk) rk.length c2)]), (.f (.int .i64 (k)))] [] Y = some ((.f (.int .i64 (earl cl k))), [], Y) := by
  obtain ⟨T, D, h, h'⟩ := loop94 _ rfl Y n1 (c1 && (k == cl.length)) (cl.take k) (cAt cl k) k (by simp; omega) (by omega) (fun h => by have := hn1 h; omega) k 0 0 (by omega) (by omega)
  simp only [lp, loopIn, Tryz.f94, Option.bind_some, Option.getD_some, Nat.reduceBEq, Bool.false_eq_true, if_true, if_false, zero_cast] at h
  rw [List.drop_zero, Nat.zero_add] at h'
  rw [call_run (E := E4) (fn := Tryz.f94) fnF94 rfl rfl (by simp) (by simp [Tryz.f94])]
  simp (config := { maxSteps := 10000000, implicitDefEqProofs := false }) only [go_sem, Bool.false_eq_true, Nat.reduceAdd, Nat.reduceBEq, Nat.reduceLT, Nat.reduceMul, Nat.reduceSub, Nat.reduceLeDiff, Nat.reduceEqDiff, and_self, if_true, if_false, reduceIte, Tryz.f94, hn1, hk, sliceA_to (Nat.le_of_lt hk) hn1 (cls_len cl), cls_take, show NilOk n1 k from (fun h => by have := hn1 h; omega), h, h', earl]

def orI : List Int → Int
  | [] => 0
  | x :: l => if x = 0 then orI l else x
theorem drop_or {l : List Int} {k : Nat} (h : k < l.length) : orI (l.drop k) = if nth l k = 0 then orI (l.drop (k + 1)) else nth l k := by
  rw [drop_nth h]; rfl
theorem loop93 (b : Code) (hb : b = lp Tryz.f93 0) (Y : List Ctx) (nl c : Bool) (l : List Int) (n : Nat) (hn : n ≤ 1000000) (hl : l.length = n) (hnl : NilOk nl n) (d : Nat) : ∀ k, k + d = n →
    ∃ T D e, loopH K4 E4 93 0 b ⟨[(3, (.f (.int .i64 (0)))), (6, .f (mkSl nl (ints l) n c)), (7, (.f (.int .i64 (n)))), (8, (.f (.int .i64 (k))))], [], 0⟩ Y = some (e, ⟨T, D, 0⟩, Y) ∧
      ((e = .ret ∧ getT T 2 = (.f (.int .i64 (orI (l.drop k))))) ∨ (e = .exit 0 ∧ orI (l.drop k) = 0 ∧ getT T 3 = (.f (.int .i64 (0))))) := by
  induction d with
  | zero =>
    intro k hk
    simp only [lp, loopIn, Tryz.f93, Option.bind_some, Option.getD_some, Nat.reduceBEq, Bool.false_eq_true, if_true, if_false] at hb
    generalize hX : loopH _ _ _ _ _ _ _ = X; unfold loopH at hX; conv at hX => (lhs; arg 5; rw [hb])
    have h1 : ¬ k < n := by omega
    simp (config := { maxSteps := 10000000, implicitDefEqProofs := false }) only [go_sem, Bool.false_eq_true, Nat.reduceAdd, Nat.reduceBEq, Nat.reduceLT, Nat.reduceMul, Nat.reduceSub, Nat.reduceLeDiff, Nat.reduceEqDiff, and_self, if_true, if_false, reduceIte, h1] at hX
    subst hX
    refine ⟨_, _, _, rfl, Or.inr ⟨rfl, ?_, ?_⟩⟩
    · rw [List.drop_eq_nil_of_le (by omega)]; rfl
    · simp (config := { maxSteps := 10000000, implicitDefEqProofs := false }) only [go_sem, Bool.false_eq_true, Nat.reduceAdd, Nat.reduceBEq, Nat.reduceLT, Nat.reduceMul, Nat.reduceSub, Nat.reduceLeDiff, Nat.reduceEqDiff, and_self, if_true, if_false, reduceIte]
  | succ d ih =>
    intro k hk
    simp only [lp, loopIn, Tryz.f93, Option.bind_some, Option.getD_some, Nat.reduceBEq, Bool.false_eq_true, if_true, if_false] at hb
    generalize hX : loopH _ _ _ _ _ _ _ = X; unfold loopH at hX; conv at hX => (lhs; arg 5; rw [hb])
    have h1 : k < n := by omega
    have h2 : k < l.length := by omega
    rw [drop_or h2]
    cases hz : (nth l k == 0) with
    | true =>
      obtain ⟨T, D, e, h, h'⟩ := ih (k + 1) (by omega)
      simp (config := { maxSteps := 10000000, implicitDefEqProofs := false }) only [go_sem, Bool.false_eq_true, Nat.reduceAdd, Nat.reduceBEq, Nat.reduceLT, Nat.reduceMul, Nat.reduceSub, Nat.reduceLeDiff, Nat.reduceEqDiff, and_self, if_true, if_false, reduceIte, h1, h2, hnl, get_nth h2, hz, wrap_succ (show k ≤ 1000000000 by omega), h] at hX
      subst hX
      have : nth l k = 0 := by simpa using hz
      rw [if_pos this]
      exact ⟨T, D, e, rfl, h'⟩
    | false =>
      simp (config := { maxSteps := 10000000, implicitDefEqProofs := false }) only [go_sem, Bool.false_eq_true, Nat.reduceAdd, Nat.reduceBEq, Nat.reduceLT, Nat.reduceMul, Nat.reduceSub, Nat.reduceLeDiff, Nat.reduceEqDiff, and_self, if_true, if_false, reduceIte, h1, h2, hnl, get_nth h2, hz] at hX
      subst hX
      have : ¬ nth l k = 0 := by simpa using hz
      rw [if_neg this]
      refine ⟨_, _, _, rfl, Or.inl ⟨rfl, ?_⟩⟩
      simp (config := { maxSteps := 10000000, implicitDefEqProofs := false }) only [go_sem, Bool.false_eq_true, Nat.reduceAdd, Nat.reduceBEq, Nat.reduceLT, Nat.reduceMul, Nat.reduceSub, Nat.reduceLeDiff, Nat.reduceEqDiff, and_self, if_true, if_false, reduceIte]
theorem c93 (Y : List Ctx) (nl c : Bool) (l : List Int) (n : Nat) (hn : n ≤ 1000000) (hl : l.length = n) (hnl : NilOk nl n) :
    K4.call 93 [.f (mkSl nl (ints l) n c)] [] Y = some ((.f (.int .i64 (orI l))), [], Y) := by
  obtain ⟨T, D, e, h, h'⟩ := loop93 _ rfl Y nl c l n hn hl hnl n 0 (by omega)
  simp only [lp, loopIn, Tryz.f93, Option.bind_some, Option.getD_some, Nat.reduceBEq, Bool.false_eq_true, if_true, if_false, zero_cast] at h
  rw [List.drop_zero] at h'
  rcases h' with ⟨rfl, h2⟩ | ⟨rfl, h2, h3⟩
  · rw [call_run (E := E4) (fn := Tryz.f93) fnF93 rfl rfl (by simp) (by simp [Tryz.f93])]
    simp (config := { maxSteps := 10000000, implicitDefEqProofs := false }) only [go_sem, Bool.false_eq_true, Nat.reduceAdd, Nat.reduceBEq, Nat.reduceLT, Nat.reduceMul, Nat.reduceSub, Nat.reduceLeDiff, Nat.reduceEqDiff, and_self, if_true, if_false, reduceIte, Tryz.f93, hnl, h, h2]
  · rw [call_run (E := E4) (fn := Tryz.f93) fnF93 rfl rfl (by simp) (by simp [Tryz.f93])]
    simp (config := { maxSteps := 10000000, implicitDefEqProofs := false }) only [go_sem, Bool.false_eq_true, Nat.reduceAdd, Nat.reduceBEq, Nat.reduceLT, Nat.reduceMul, Nat.reduceSub, Nat.reduceLeDiff, Nat.reduceEqDiff, and_self, if_true, if_false, reduceIte, Tryz.f93, hnl, h, h2, h3]
end Go.AM
