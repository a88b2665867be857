/-
Walks, 3: the reference.
-/
import Derived.Test.YtgahfnebfpmbpaaGreatMC1
import Derived.Test.YtgahfnebfpmbpaaGreatMC2
set_option linter.unusedVariables false
set_option linter.unusedSimpArgs false
namespace Go.AM
open Go.Proofs
set_option maxHeartbeats 0
set_option maxRecDepth 100000
set_option linter.unusedSimpArgs false
set_option linter.unusedVariables false
theorem c17 (Y : List Ctx) (n a b : Int) : K4.call 17 [(.f (.int .i64 (n))), (.f (.int .i64 (a))), (.f (.int .i64 (b)))] [] Y = some ((.f (.bool (inI a b n))), [], Y) := by
  rw [call_run (E := E4) (fn := Tryz.f17) fnF17 rfl rfl (by simp) (by simp [Tryz.f17])]
  simp only [inI]
  cases h : decide (a ≤ n) with
  | true => simp (config := { maxSteps := 10000000, implicitDefEqProofs := false }) only [go_sem, Bool.false_eq_true, Nat.reduceAdd, Nat.reduceBEq, Nat.reduceLT, Nat.reduceMul, Nat.reduceSub, Nat.reduceLeDiff, Nat.reduceEqDiff, and_self, if_true, if_false, reduceIte, Tryz.f17, ge_iff_le, h, Bool.true_and]
  | false => simp (config := { maxSteps := 10000000, implicitDefEqProofs := false }) only [go_sem, Bool.false_eq_true, Nat.reduceAdd, Nat.reduceBEq, Nat.reduceLT, Nat.reduceMul, Nat.reduceSub, Nat.reduceLeDiff, Nat.reduceEqDiff, and_self, if_true, if_false, reduceIte, Tryz.f17, ge_iff_le, h, Bool.false_and]
/-- the place of a number, or -1 -/
def findGo (v : Int) : List Int → Nat → Int
  | [], _ => -1
  | x :: l, k => if x = v then (k : Int) else findGo v l (k + 1)
theorem findGo_neg (v : Int) : ∀ (l : List Int) k, decide (findGo v l k < 0) = !(l.any (· == v))
  | [], _ => rfl
  | x :: l, k => by
    by_cases h : x = v
    · simp [findGo, h]
    · have e : findGo v (x :: l) k = findGo v l (k + 1) := by simp [findGo, h]
      have h2 := findGo_neg v l (k + 1)
      rw [List.any_cons, beq_eq_false_iff_ne.2 h, Bool.false_or, ← h2]
      simp only [e]
theorem loop83 (b : Code) (hb : b = lp Tryz.f83 0) (Y : List Ctx) (v : Int) (nl c : Bool) (l : List Int) (n : Nat) (hn : n ≤ 1000000) (hl : l.length = n) (hnl : NilOk nl n) (d : Nat) : ∀ k, k + d = n →
    ∃ T D e, loopH K4 E4 83 0 b ⟨[(0, .f (mkSl nl (ints l) n c)), (1, (.f (.int .i64 (v)))), (5, (.f (.int .i64 (k))))], [], 0⟩ Y = some (e, ⟨T, D, 0⟩, Y) ∧
      ((e = .ret ∧ getT T 4 = (.f (.int .i64 (findGo v (l.drop k) k)))) ∨ (e = .exit 0 ∧ findGo v (l.drop k) k = -1)) := by
  induction d with
  | zero =>
    intro k hk
    simp only [lp, loopIn, Tryz.f83, Option.bind_some, Option.getD_some, Nat.reduceBEq, Bool.false_eq_true, if_true, if_false] at hb
    generalize hX : loopH _ _ _ _ _ _ _ = X; unfold loopH at hX; conv at hX => (lhs; arg 5; rw [hb])
    have h1 : ¬ k < n := by omega
    simp (config := { maxSteps := 10000000, implicitDefEqProofs := false }) only [go_sem, Bool.false_eq_true, Nat.reduceAdd, Nat.reduceBEq, Nat.reduceLT, Nat.reduceMul, Nat.reduceSub, Nat.reduceLeDiff, Nat.reduceEqDiff, and_self, if_true, if_false, reduceIte, hnl, h1] at hX
    subst hX
    refine ⟨_, _, _, rfl, Or.inr ⟨rfl, ?_⟩⟩
    rw [List.drop_eq_nil_of_le (by omega)]; rfl
  | succ d ih =>
    intro k hk
    simp only [lp, loopIn, Tryz.f83, Option.bind_some, Option.getD_some, Nat.reduceBEq, Bool.false_eq_true, if_true, if_false] at hb
    generalize hX : loopH _ _ _ _ _ _ _ = X; unfold loopH at hX; conv at hX => (lhs; arg 5; rw [hb])
    have h1 : k < n := by omega
    have h2 : k < l.length := by omega
    rw [drop_nth h2, findGo]
    cases hz : (nth l k == v) with
    | true =>
      simp (config := { maxSteps := 10000000, implicitDefEqProofs := false }) only [go_sem, Bool.false_eq_true, Nat.reduceAdd, Nat.reduceBEq, Nat.reduceLT, Nat.reduceMul, Nat.reduceSub, Nat.reduceLeDiff, Nat.reduceEqDiff, and_self, if_true, if_false, reduceIte, h1, h2, hnl, get_nth h2, hz] at hX
      subst hX
      rw [if_pos (by simpa using hz)]
      refine ⟨_, _, _, rfl, Or.inl ⟨rfl, ?_⟩⟩
      simp (config := { maxSteps := 10000000, implicitDefEqProofs := false }) only [go_sem, Bool.false_eq_true, Nat.reduceAdd, Nat.reduceBEq, Nat.reduceLT, Nat.reduceMul, Nat.reduceSub, Nat.reduceLeDiff, Nat.reduceEqDiff, and_self, if_true, if_false, reduceIte]
    | false =>
      obtain ⟨T, D, e, h, h'⟩ := ih (k + 1) (by omega)
      simp (config := { maxSteps := 10000000, implicitDefEqProofs := false }) only [go_sem, Bool.false_eq_true, Nat.reduceAdd, Nat.reduceBEq, Nat.reduceLT, Nat.reduceMul, Nat.reduceSub, Nat.reduceLeDiff, Nat.reduceEqDiff, and_self, if_true, if_false, reduceIte, h1, h2, hnl, get_nth h2, hz, wrap_succ (show k ≤ 1000000000 by omega), h] at hX
      subst hX
      rw [if_neg (by simpa using hz)]
      exact ⟨T, D, e, rfl, h'⟩
theorem c83 (Y : List Ctx) (v : Int) (nl c : Bool) (l : List Int) (n : Nat) (hn : n ≤ 1000000) (hl : l.length = n) (hnl : NilOk nl n) :
    K4.call 83 [.f (mkSl nl (ints l) n c), (.f (.int .i64 (v)))] [] Y = some ((.f (.int .i64 (findGo v l 0))), [], Y) := by
  obtain ⟨T, D, e, h, h'⟩ := loop83 _ rfl Y v nl c l n hn hl hnl n 0 (by omega)
  simp only [lp, loopIn, Tryz.f83, Option.bind_some, Option.getD_some, Nat.reduceBEq, Bool.false_eq_true, if_true, if_false, zero_cast] at h
  rw [List.drop_zero] at h'
  rcases h' with ⟨rfl, h4⟩ | ⟨rfl, h4⟩
  · rw [call_run (E := E4) (fn := Tryz.f83) fnF83 rfl rfl (by simp) (by simp [Tryz.f83])]
    simp (config := { maxSteps := 10000000, implicitDefEqProofs := false }) only [go_sem, Bool.false_eq_true, Nat.reduceAdd, Nat.reduceBEq, Nat.reduceLT, Nat.reduceMul, Nat.reduceSub, Nat.reduceLeDiff, Nat.reduceEqDiff, and_self, if_true, if_false, reduceIte, Tryz.f83, h, h4]
  · rw [call_run (E := E4) (fn := Tryz.f83) fnF83 rfl rfl (by simp) (by simp [Tryz.f83])]
    rw [h4]
    simp (config := { maxSteps := 10000000, implicitDefEqProofs := false }) only [go_sem, Bool.false_eq_true, Nat.reduceAdd, Nat.reduceBEq, Nat.reduceLT, Nat.reduceMul, Nat.reduceSub, Nat.reduceLeDiff, Nat.reduceEqDiff, and_self, if_true, if_false, reduceIte, Tryz.f83, h]
/-- each number below the length is in it -/
def onceB (l : List Int) : Bool := (iota l.length).all fun v => l.any (· == v)
theorem drop_all {α : Type} (p : α → Bool) (l : List α) (k : Nat) (h : k < l.length) : (l.drop k).all p = (p l[k] && (l.drop (k + 1)).all p) := by
  rw [List.drop_eq_getElem_cons h]; rfl
theorem iota_nth' {n k : Nat} (h : k < n) : nth (iota n) k = k := by
  rw [← nth_eq (by rw [iota_len]; exact h)]; simp [iota]
theorem loop76 (b : Code) (hb : b = lp Tryz.f76 0) (Y : List Ctx) (nl c : Bool) (l : List Int) (n : Nat) (hn : n ≤ 1000000) (hl : l.length = n) (hnl : NilOk nl n) (d : Nat) : ∀ k, k + d = n →
    ∃ T D e, loopH K4 E4 76 0 b ⟨[(0, .f (mkSl nl (ints l) n c)), (1, (.f (.int .i64 (n)))), (5, (.f (.int .i64 (k))))], [], 0⟩ Y = some (e, ⟨T, D, 0⟩, Y) ∧
      ((e = .ret ∧ getT T 4 = (.f (.bool (false))) ∧ ((iota n).drop k).all (fun v => l.any (· == v)) = false) ∨ (e = .exit 0 ∧ ((iota n).drop k).all (fun v => l.any (· == v)) = true)) := by
  induction d with
  | zero =>
    intro k hk
    simp only [lp, loopIn, Tryz.f76, Option.bind_some, Option.getD_some, Nat.reduceBEq, Bool.false_eq_true, if_true, if_false] at hb
    generalize hX : loopH _ _ _ _ _ _ _ = X; unfold loopH at hX; conv at hX => (lhs; arg 5; rw [hb])
    have h1 : ¬ k < n := by omega
    simp (config := { maxSteps := 10000000, implicitDefEqProofs := false }) only [go_sem, Bool.false_eq_true, Nat.reduceAdd, Nat.reduceBEq, Nat.reduceLT, Nat.reduceMul, Nat.reduceSub, Nat.reduceLeDiff, Nat.reduceEqDiff, and_self, if_true, if_false, reduceIte, h1] at hX
    subst hX
    refine ⟨_, _, _, rfl, Or.inr ⟨rfl, ?_⟩⟩
    rw [List.drop_eq_nil_of_le (by rw [iota_len]; omega)]; rfl
  | succ d ih =>
    intro k hk
    simp only [lp, loopIn, Tryz.f76, Option.bind_some, Option.getD_some, Nat.reduceBEq, Bool.false_eq_true, if_true, if_false] at hb
    generalize hX : loopH _ _ _ _ _ _ _ = X; unfold loopH at hX; conv at hX => (lhs; arg 5; rw [hb])
    have h1 : k < n := by omega
    have h2 : k < (iota n).length := by rw [iota_len]; exact h1
    have h83 := fun Y v => c83 Y v nl c l n hn hl hnl
    rw [drop_all _ _ k h2, nth_eq h2, iota_nth' h1]
    have hng := findGo_neg k l 0
    cases hz : l.any (· == (k : Int)) with
    | true =>
      rw [hz] at hng
      obtain ⟨T, D, e, h, h'⟩ := ih (k + 1) (by omega)
      simp (config := { maxSteps := 10000000, implicitDefEqProofs := false }) only [go_sem, Bool.false_eq_true, Nat.reduceAdd, Nat.reduceBEq, Nat.reduceLT, Nat.reduceMul, Nat.reduceSub, Nat.reduceLeDiff, Nat.reduceEqDiff, and_self, if_true, if_false, reduceIte, h1, h83, hng, wrap_succ (show k ≤ 1000000000 by omega), h] at hX
      subst hX
      rw [Bool.true_and]
      exact ⟨T, D, e, rfl, h'⟩
    | false =>
      rw [hz] at hng
      simp (config := { maxSteps := 10000000, implicitDefEqProofs := false }) only [go_sem, Bool.false_eq_true, Nat.reduceAdd, Nat.reduceBEq, Nat.reduceLT, Nat.reduceMul, Nat.reduceSub, Nat.reduceLeDiff, Nat.reduceEqDiff, and_self, if_true, if_false, reduceIte, h1, h83, hng] at hX
      subst hX
      rw [Bool.false_and]
      refine ⟨_, _, _, rfl, Or.inl ⟨rfl, ?_, rfl⟩⟩
      simp (config := { maxSteps := 10000000, implicitDefEqProofs := false }) only [go_sem, Bool.false_eq_true, Nat.reduceAdd, Nat.reduceBEq, Nat.reduceLT, Nat.reduceMul, Nat.reduceSub, Nat.reduceLeDiff, Nat.reduceEqDiff, and_self, if_true, if_false, reduceIte]
theorem c76 (Y : List Ctx) (nl c : Bool) (l : List Int) (n : Nat) (hn : n ≤ 1000000) (hl : l.length = n) (hnl : NilOk nl n) :
    K4.call 76 [.f (mkSl nl (ints l) n c), (.f (.int .i64 (n)))] [] Y = some ((.f (.bool (onceB l))), [], Y) := by
  obtain ⟨T, D, e, h, h'⟩ := loop76 _ rfl Y nl c l n hn hl hnl n 0 (by omega)
  simp only [lp, loopIn, Tryz.f76, Option.bind_some, Option.getD_some, Nat.reduceBEq, Bool.false_eq_true, if_true, if_false, zero_cast] at h
  rw [List.drop_zero] at h'
  subst hl
  rcases h' with ⟨rfl, h4, h5⟩ | ⟨rfl, h5⟩
  · rw [call_run (E := E4) (fn := Tryz.f76) fnF76 rfl rfl (by simp) (by simp [Tryz.f76])]
    rw [onceB, h5]
    simp (config := { maxSteps := 10000000, implicitDefEqProofs := false }) only [go_sem, Bool.false_eq_true, Nat.reduceAdd, Nat.reduceBEq, Nat.reduceLT, Nat.reduceMul, Nat.reduceSub, Nat.reduceLeDiff, Nat.reduceEqDiff, and_self, if_true, if_false, reduceIte, Tryz.f76, hnl, beq_self_eq_true, Bool.not_true, h, h4]
  · rw [call_run (E := E4) (fn := Tryz.f76) fnF76 rfl rfl (by simp) (by simp [Tryz.f76])]
    rw [onceB, h5]
    simp (config := { maxSteps := 10000000, implicitDefEqProofs := false }) only [go_sem, Bool.false_eq_true, Nat.reduceAdd, Nat.reduceBEq, Nat.reduceLT, Nat.reduceMul, Nat.reduceSub, Nat.reduceLeDiff, Nat.reduceEqDiff, and_self, if_true, if_false, reduceIte, Tryz.f76, hnl, beq_self_eq_true, Bool.not_true, h]
/-- a cloth that is not valid, as the reference says it -/
def badR (m : Nat) (x : Cl) : Bool := !(inI 0 ((m : Int) - 1) x.w) || (!(inI 0 200 x.c) || (!(inI 1 x.hi x.lo) || decide (x.hi > 20)))
theorem loop51 (b : Code) (hb : b = lp Tryz.f51 0) (Y : List Ctx) (n1 c1 n2 c2 : Bool) (cl : List Cl) (rk : List Int) (hn1 : NilOk n1 cl.length) (hn2 : NilOk n2 rk.length) (hc : cl.length ≤ 1000000) (hm : rk.length ≤ 1000000) (d : Nat) : ∀ k, k + d = cl.length →
    ∃ T D e, loopH K4 E4 51 0 b ⟨[(1, .ptr 0 0), (3, (.f (.int .i64 (k))))], [.box [.f (mkSl n1 (cls cl) cl.length c1), .f (mkSl n2 (ints rk) rk.length c2)]], 0⟩ Y = some (e, ⟨T, D, 0⟩, Y) ∧
      ((e = .ret ∧ getT T 2 = (.f (.int .i64 (2))) ∧ (cl.drop k).any (badR rk.length) = true) ∨ (e = .exit 0 ∧ (cl.drop k).any (badR rk.length) = false)) := by
  induction d with
  | zero =>
    intro k hk
    simp only [lp, loopIn, Tryz.f51, Option.bind_some, Option.getD_some, Nat.reduceBEq, Bool.false_eq_true, if_true, if_false] at hb
    generalize hX : loopH _ _ _ _ _ _ _ = X; unfold loopH at hX; conv at hX => (lhs; arg 5; rw [hb])
    have h1 : ¬ k < cl.length := by omega
    simp (config := { maxSteps := 10000000, implicitDefEqProofs := false }) only [go_sem, Bool.false_eq_true, Nat.reduceAdd, Nat.reduceBEq, Nat.reduceLT, Nat.reduceMul, Nat.reduceSub, Nat.reduceLeDiff, Nat.reduceEqDiff, and_self, if_true, if_false, reduceIte, hn1, hn2, h1] at hX
    subst hX
    refine ⟨_, _, _, rfl, Or.inr ⟨rfl, ?_⟩⟩
    rw [List.drop_eq_nil_of_le (by omega)]; rfl
  | succ d ih =>
    intro k hk
    simp only [lp, loopIn, Tryz.f51, Option.bind_some, Option.getD_some, Nat.reduceBEq, Bool.false_eq_true, if_true, if_false] at hb
    generalize hX : loopH _ _ _ _ _ _ _ = X; unfold loopH at hX; conv at hX => (lhs; arg 5; rw [hb])
    have h1 : k < cl.length := by omega
    have hw := wrap_len1 (show rk.length ≤ 1000000000 by omega)
    rw [drop_any _ _ k h1, cAt_eq h1]
    have hret : ∀ {X : Out} {T : Tmps} {D : List AObj}, some (AExit.ret, (⟨T, D, 0⟩ : St), Y) = X → getT T 2 = (.f (.int .i64 (2))) → badR rk.length (cAt cl k) = true →
       ∃ T D e, X = some (e, ⟨T, D, 0⟩, Y) ∧ ((e = .ret ∧ getT T 2 = (.f (.int .i64 (2))) ∧ (badR rk.length (cAt cl k) || (cl.drop (k + 1)).any (badR rk.length)) = true) ∨ (e = .exit 0 ∧ (badR rk.length (cAt cl k) || (cl.drop (k + 1)).any (badR rk.length)) = false)) := by
      intro X T D hX h2 h3
      subst hX
      exact ⟨T, D, _, rfl, Or.inl ⟨rfl, h2, by rw [h3, Bool.true_or]⟩⟩
    cases e1 : inI 0 ((rk.length : Int) - 1) (cAt cl k).w with
    | false =>
      simp (config := { maxSteps := 10000000, implicitDefEqProofs := false }) only [go_sem, Bool.false_eq_true, Nat.reduceAdd, Nat.reduceBEq, Nat.reduceLT, Nat.reduceMul, Nat.reduceSub, Nat.reduceLeDiff, Nat.reduceEqDiff, and_self, if_true, if_false, reduceIte, h1, hn1, hn2, hw, c17, e1] at hX
      refine hret hX ?_ ?_
      · simp (config := { maxSteps := 10000000, implicitDefEqProofs := false }) only [go_sem, Bool.false_eq_true, Nat.reduceAdd, Nat.reduceBEq, Nat.reduceLT, Nat.reduceMul, Nat.reduceSub, Nat.reduceLeDiff, Nat.reduceEqDiff, and_self, if_true, if_false, reduceIte]
      · simp only [badR, e1, Bool.not_false, Bool.true_or]
    | true =>
      cases e2 : inI 0 200 (cAt cl k).c with
      | false =>
        simp (config := { maxSteps := 10000000, implicitDefEqProofs := false }) only [go_sem, Bool.false_eq_true, Nat.reduceAdd, Nat.reduceBEq, Nat.reduceLT, Nat.reduceMul, Nat.reduceSub, Nat.reduceLeDiff, Nat.reduceEqDiff, and_self, if_true, if_false, reduceIte, h1, hn1, hn2, hw, c17, e1, e2] at hX
        refine hret hX ?_ ?_
        · simp (config := { maxSteps := 10000000, implicitDefEqProofs := false }) only [go_sem, Bool.false_eq_true, Nat.reduceAdd, Nat.reduceBEq, Nat.reduceLT, Nat.reduceMul, Nat.reduceSub, Nat.reduceLeDiff, Nat.reduceEqDiff, and_self, if_true, if_false, reduceIte]
        · simp only [badR, e1, e2, Bool.not_false, Bool.true_or, Bool.or_true]
      | true =>
        cases e3 : inI 1 (cAt cl k).hi (cAt cl k).lo with
        | false =>
          simp (config := { maxSteps := 10000000, implicitDefEqProofs := false }) only [go_sem, Bool.false_eq_true, Nat.reduceAdd, Nat.reduceBEq, Nat.reduceLT, Nat.reduceMul, Nat.reduceSub, Nat.reduceLeDiff, Nat.reduceEqDiff, and_self, if_true, if_false, reduceIte, h1, hn1, hn2, hw, c17, e1, e2, e3] at hX
          refine hret hX ?_ ?_
          · simp (config := { maxSteps := 10000000, implicitDefEqProofs := false }) only [go_sem, Bool.false_eq_true, Nat.reduceAdd, Nat.reduceBEq, Nat.reduceLT, Nat.reduceMul, Nat.reduceSub, Nat.reduceLeDiff, Nat.reduceEqDiff, and_self, if_true, if_false, reduceIte]
          · simp only [badR, e1, e2, e3, Bool.not_false, Bool.true_or, Bool.or_true]
        | true =>
          cases e4 : decide ((cAt cl k).hi > 20) with
          | true =>
            simp (config := { maxSteps := 10000000, implicitDefEqProofs := false }) only [go_sem, Bool.false_eq_true, Nat.reduceAdd, Nat.reduceBEq, Nat.reduceLT, Nat.reduceMul, Nat.reduceSub, Nat.reduceLeDiff, Nat.reduceEqDiff, and_self, if_true, if_false, reduceIte, h1, hn1, hn2, hw, c17, e1, e2, e3, e4] at hX
            refine hret hX ?_ ?_
            · simp (config := { maxSteps := 10000000, implicitDefEqProofs := false }) only [go_sem, Bool.false_eq_true, Nat.reduceAdd, Nat.reduceBEq, Nat.reduceLT, Nat.reduceMul, Nat.reduceSub, Nat.reduceLeDiff, Nat.reduceEqDiff, and_self, if_true, if_false, reduceIte]
            · simp only [badR, e1, e2, e3, e4, Bool.or_true]
          | false =>
            obtain ⟨T, D, e, h, h'⟩ := ih (k + 1) (by omega)
            simp (config := { maxSteps := 10000000, implicitDefEqProofs := false }) only [go_sem, Bool.false_eq_true, Nat.reduceAdd, Nat.reduceBEq, Nat.reduceLT, Nat.reduceMul, Nat.reduceSub, Nat.reduceLeDiff, Nat.reduceEqDiff, and_self, if_true, if_false, reduceIte, h1, hn1, hn2, hw, c17, e1, e2, e3, e4, wrap_succ (show k ≤ 1000000000 by omega), h] at hX
            subst hX
            have : badR rk.length (cAt cl k) = false := by simp only [badR, e1, e2, e3, e4, Bool.not_true, Bool.or_self]
            rw [this, Bool.false_or]
            exact ⟨T, D, e, rfl, h'⟩
/-- the error of a day, as the reference says it -/
def chkR (cl : List Cl) (rk : List Int) : Int :=
  if (!(inI 1 6 rk.length)) = true then 4 else if (!(onceB rk)) = true then 4 else if decide ((cl.length : Int) > 10) = true then 5 else if cl.any (badR rk.length) = true then 2 else 0
theorem c51 (Y : List Ctx) (n1 c1 n2 c2 : Bool) (cl : List Cl) (rk : List Int) (hm : rk.length ≤ 1000000) (hc : cl.length ≤ 1000000) (hn1 : NilOk n1 cl.length) (hn2 : NilOk n2 rk.length) :
    K4.call 51 [(.agg [.f (mkSl n1 (cls cl) cl.length c1), .f (mkSl n2 (ints rk) rk.length c2)])] [] Y = some ((.f (.int .i64 (chkR cl rk))), [], Y) := by
  have h76 := fun Y => c76 Y n2 c2 rk rk.length hm rfl hn2
  obtain ⟨T, D, e, h, h'⟩ := loop51 _ rfl Y n1 c1 n2 c2 cl rk hn1 hn2 hc hm cl.length 0 (by omega)
  simp only [lp, loopIn, Tryz.f51, Option.bind_some, Option.getD_some, Nat.reduceBEq, Bool.false_eq_true, if_true, if_false, zero_cast] at h
  rw [List.drop_zero] at h'
  rw [call_run (E := E4) (fn := Tryz.f51) fnF51 rfl rfl (by simp) (by simp [Tryz.f51])]
  unfold chkR
  cases e1 : inI 1 6 rk.length with
  | false => simp (config := { maxSteps := 10000000, implicitDefEqProofs := false }) only [go_sem, Bool.false_eq_true, Nat.reduceAdd, Nat.reduceBEq, Nat.reduceLT, Nat.reduceMul, Nat.reduceSub, Nat.reduceLeDiff, Nat.reduceEqDiff, and_self, if_true, if_false, reduceIte, Tryz.f51, hn1, hn2, c17, e1]
  | true =>
    cases e2 : onceB rk with
    | false => simp (config := { maxSteps := 10000000, implicitDefEqProofs := false }) only [go_sem, Bool.false_eq_true, Nat.reduceAdd, Nat.reduceBEq, Nat.reduceLT, Nat.reduceMul, Nat.reduceSub, Nat.reduceLeDiff, Nat.reduceEqDiff, and_self, if_true, if_false, reduceIte, Tryz.f51, hn1, hn2, c17, e1, h76, e2]
    | true =>
      cases e3 : decide ((cl.length : Int) > 10) with
      | true => simp (config := { maxSteps := 10000000, implicitDefEqProofs := false }) only [go_sem, Bool.false_eq_true, Nat.reduceAdd, Nat.reduceBEq, Nat.reduceLT, Nat.reduceMul, Nat.reduceSub, Nat.reduceLeDiff, Nat.reduceEqDiff, and_self, if_true, if_false, reduceIte, Tryz.f51, hn1, hn2, c17, e1, h76, e2, e3]
      | false =>
        rcases h' with ⟨rfl, h4, h5⟩ | ⟨rfl, h5⟩
        · rw [h5]
          simp (config := { maxSteps := 10000000, implicitDefEqProofs := false }) only [go_sem, Bool.false_eq_true, Nat.reduceAdd, Nat.reduceBEq, Nat.reduceLT, Nat.reduceMul, Nat.reduceSub, Nat.reduceLeDiff, Nat.reduceEqDiff, and_self, if_true, if_false, reduceIte, Tryz.f51, hn1, hn2, c17, e1, h76, e2, e3, h, h4]
        · rw [h5]
          simp (config := { maxSteps := 10000000, implicitDefEqProofs := false }) only [go_sem, Bool.false_eq_true, Nat.reduceAdd, Nat.reduceBEq, Nat.reduceLT, Nat.reduceMul, Nat.reduceSub, Nat.reduceLeDiff, Nat.reduceEqDiff, and_self, if_true, if_false, reduceIte, Tryz.f51, hn1, hn2, c17, e1, h76, e2, e3, h]
def opnR (cl : List Cl) (rk : List Int) (st lim : Int) : Int := if (!(chkR cl rk == 0)) = true then chkR cl rk else if (!(inI 1 5 st)) = true then 3 else if (!(inI 0 500 lim)) = true then 3 else 0
theorem c16 (Y : List Ctx) (n1 c1 n2 c2 : Bool) (cl : List Cl) (rk : List Int) (hm : rk.length ≤ 1000000) (hc : cl.length ≤ 1000000) (hn1 : NilOk n1 cl.length) (hn2 : NilOk n2 rk.length) (st lim : Int) :
    K4.call 16 [(.agg [.f (mkSl n1 (cls cl) cl.length c1), .f (mkSl n2 (ints rk) rk.length c2)]), (.f (.int .i64 (st))), (.f (.int .i64 (lim)))] [] Y = some ((.f (.int .i64 (opnR cl rk st lim))), [], Y) := by
  have h51 := fun Y => c51 Y n1 c1 n2 c2 cl rk hm hc hn1 hn2
  rw [call_run (E := E4) (fn := Tryz.f16) fnF16 rfl rfl (by simp) (by simp [Tryz.f16])]
  unfold opnR
  cases e0 : (chkR cl rk == 0) with
  | false => simp (config := { maxSteps := 10000000, implicitDefEqProofs := false }) only [go_sem, Bool.false_eq_true, Nat.reduceAdd, Nat.reduceBEq, Nat.reduceLT, Nat.reduceMul, Nat.reduceSub, Nat.reduceLeDiff, Nat.reduceEqDiff, and_self, if_true, if_false, reduceIte, Tryz.f16, h51, e0, Bool.not_false]
  | true =>
    cases e1 : inI 1 5 st with
    | false => simp (config := { maxSteps := 10000000, implicitDefEqProofs := false }) only [go_sem, Bool.false_eq_true, Nat.reduceAdd, Nat.reduceBEq, Nat.reduceLT, Nat.reduceMul, Nat.reduceSub, Nat.reduceLeDiff, Nat.reduceEqDiff, and_self, if_true, if_false, reduceIte, Tryz.f16, h51, e0, Bool.not_true, c17, e1]
    | true =>
      cases e2 : inI 0 500 lim with
      | false => simp (config := { maxSteps := 10000000, implicitDefEqProofs := false }) only [go_sem, Bool.false_eq_true, Nat.reduceAdd, Nat.reduceBEq, Nat.reduceLT, Nat.reduceMul, Nat.reduceSub, Nat.reduceLeDiff, Nat.reduceEqDiff, and_self, if_true, if_false, reduceIte, Tryz.f16, h51, e0, Bool.not_true, c17, e1, e2]
      | true => simp (config := { maxSteps := 10000000, implicitDefEqProofs := false }) only [go_sem, Bool.false_eq_true, Nat.reduceAdd, Nat.reduceBEq, Nat.reduceLT, Nat.reduceMul, Nat.reduceSub, Nat.reduceLeDiff, Nat.reduceEqDiff, and_self, if_true, if_false, reduceIte, Tryz.f16, h51, e0, Bool.not_true, c17, e1, e2]

theorem loop79 (b : Code) (hb : b = lp Tryz.f79 0) (Y : List Ctx) (n1 c1 n2 c2 : Bool) (cl : List Cl) (rk : List Int) (hn1 : NilOk n1 cl.length) (hn2 : NilOk n2 rk.length) (hc : cl.length ≤ 1000000) (k : Nat) (hk : k < cl.length) (d : Nat) : ∀ (i cnt : Nat), i + d = k → cnt ≤ i →
    ∃ T D, loopH K4 E4 79 0 b ⟨[(1, (.f (.int .i64 (k)))), (2, .ptr 0 0), (5, (.f (.int .i64 (cnt)))), (6, (.f (.int .i64 (i))))], [.box [.f (mkSl n1 (cls cl) cl.length c1), .f (mkSl n2 (ints rk) rk.length c2)]], 0⟩ Y = some (.exit 0, ⟨T, D, 0⟩, Y) ∧
      getT T 5 = (.f (.int .i64 ((cnt + ((cl.take k).drop i).countP (alike (cAt cl k)) : Nat)))) := by
  induction d with
  | zero =>
    intro i cnt hi hcn
    simp only [lp, loopIn, Tryz.f79, Option.bind_some, Option.getD_some, Nat.reduceBEq, Bool.false_eq_true, if_true, if_false] at hb
    generalize hX : loopH _ _ _ _ _ _ _ = X; unfold loopH at hX; conv at hX => (lhs; arg 5; rw [hb])
    have h1 : ¬ i < k := by omega
    simp (config := { maxSteps := 10000000, implicitDefEqProofs := false }) only [go_sem, Bool.false_eq_true, Nat.reduceAdd, Nat.reduceBEq, Nat.reduceLT, Nat.reduceMul, Nat.reduceSub, Nat.reduceLeDiff, Nat.reduceEqDiff, and_self, if_true, if_false, reduceIte, h1] at hX
    subst hX
    refine ⟨_, _, rfl, ?_⟩
    rw [List.drop_eq_nil_of_le (by simp; omega)]
    simp (config := { maxSteps := 10000000, implicitDefEqProofs := false }) only [go_sem, Bool.false_eq_true, Nat.reduceAdd, Nat.reduceBEq, Nat.reduceLT, Nat.reduceMul, Nat.reduceSub, Nat.reduceLeDiff, Nat.reduceEqDiff, and_self, if_true, if_false, reduceIte, List.countP_nil]
  | succ d ih =>
    intro i cnt hi hcn
    simp only [lp, loopIn, Tryz.f79, Option.bind_some, Option.getD_some, Nat.reduceBEq, Bool.false_eq_true, if_true, if_false] at hb
    generalize hX : loopH _ _ _ _ _ _ _ = X; unfold loopH at hX; conv at hX => (lhs; arg 5; rw [hb])
    have h1 : i < k := by omega
    have h2 : i < (cl.take k).length := by simp; omega
    have h3 : i < cl.length := by omega
    rw [drop_count _ _ i h2, cAt_eq h2, cAt_take h1 (by omega)]
    cases ha : ((cAt cl i).w == (cAt cl k).w) with
    | false =>
      obtain ⟨T, D, h, h'⟩ := ih (i + 1) cnt (by omega) (by omega)
      have hal : alike (cAt cl k) (cAt cl i) = false := by simp only [alike, ha, Bool.false_and]
      simp (config := { maxSteps := 10000000, implicitDefEqProofs := false }) only [go_sem, Bool.false_eq_true, Nat.reduceAdd, Nat.reduceBEq, Nat.reduceLT, Nat.reduceMul, Nat.reduceSub, Nat.reduceLeDiff, Nat.reduceEqDiff, and_self, if_true, if_false, reduceIte, h1, h3, hk, hn1, hn2, ha, wrap_succ (show i ≤ 1000000000 by omega), h] at hX
      rw [drwEnd_ok (by kernel_rfl)] at hX
      subst hX
      refine ⟨T, D, rfl, ?_⟩
      rw [h', hal]; simp
    | true =>
      cases hb' : ((cAt cl i).c == (cAt cl k).c) with
      | false =>
        obtain ⟨T, D, h, h'⟩ := ih (i + 1) cnt (by omega) (by omega)
        have hal : alike (cAt cl k) (cAt cl i) = false := by simp only [alike, ha, hb', Bool.and_false]
        simp (config := { maxSteps := 10000000, implicitDefEqProofs := false }) only [go_sem, Bool.false_eq_true, Nat.reduceAdd, Nat.reduceBEq, Nat.reduceLT, Nat.reduceMul, Nat.reduceSub, Nat.reduceLeDiff, Nat.reduceEqDiff, and_self, if_true, if_false, reduceIte, h1, h3, hk, hn1, hn2, ha, hb', wrap_succ (show i ≤ 1000000000 by omega), h] at hX
        rw [drwEnd_ok (by kernel_rfl)] at hX
        subst hX
        refine ⟨T, D, rfl, ?_⟩
        rw [h', hal]; simp
      | true =>
        obtain ⟨T, D, h, h'⟩ := ih (i + 1) (cnt + 1) (by omega) (by omega)
        have hal : alike (cAt cl k) (cAt cl i) = true := by simp only [alike, ha, hb', Bool.and_self]
        simp (config := { maxSteps := 10000000, implicitDefEqProofs := false }) only [go_sem, Bool.false_eq_true, Nat.reduceAdd, Nat.reduceBEq, Nat.reduceLT, Nat.reduceMul, Nat.reduceSub, Nat.reduceLeDiff, Nat.reduceEqDiff, and_self, if_true, if_false, reduceIte, h1, h3, hk, hn1, hn2, ha, hb', wrap_succ (show i ≤ 1000000000 by omega), wrap_succ (show cnt ≤ 1000000000 by omega), h] at hX
        rw [drwEnd_ok (by kernel_rfl)] at hX
        subst hX
        refine ⟨T, D, rfl, ?_⟩
        rw [h', hal, Nat.add_assoc]; rfl
theorem c79 (Y : List Ctx) (n1 c1 n2 c2 : Bool) (cl : List Cl) (rk : List Int) (hc : cl.length ≤ 1000000) (hn1 : NilOk n1 cl.length) (hn2 : NilOk n2 rk.length) (k : Nat) (hk : k < cl.length) :
    K4.call 79 [(.agg [.f (mkSl n1 (cls cl) cl.length c1), .f (mkSl n2 (ints rk) rk.length c2)]), (.f (.int .i64 (k)))] [] Y = some ((.f (.int .i64 (earl cl k))), [], Y) := by
  obtain ⟨T, D, h, h'⟩ := loop79 _ rfl Y n1 c1 n2 c2 cl rk hn1 hn2 hc k hk k 0 0 (by omega) (by omega)
  simp only [lp, loopIn, Tryz.f79, Option.bind_some, Option.getD_some, Nat.reduceBEq, Bool.false_eq_true, if_true, if_false, zero_cast] at h
  rw [List.drop_zero, Nat.zero_add] at h'
  rw [call_run (E := E4) (fn := Tryz.f79) fnF79 rfl rfl (by simp) (by simp [Tryz.f79])]
  simp (config := { maxSteps := 10000000, implicitDefEqProofs := false }) only [go_sem, Bool.false_eq_true, Nat.reduceAdd, Nat.reduceBEq, Nat.reduceLT, Nat.reduceMul, Nat.reduceSub, Nat.reduceLeDiff, Nat.reduceEqDiff, and_self, if_true, if_false, reduceIte, Tryz.f79, h, h', earl]
end Go.AM

namespace Go.AM
open Go.Proofs
set_option maxHeartbeats 0
set_option maxRecDepth 100000
set_option linter.unusedSimpArgs false
set_option linter.unusedVariables false
/-- is a cloth taken before another one, as the reference says it -/
def befR (cl : List Cl) (rk : List Int) (a b : Nat) : Bool :=
  if (!((cAt cl a).c == (cAt cl b).c)) = true then decide ((cAt cl a).c < (cAt cl b).c) else
  if (!((earl cl a : Int) == (earl cl b : Int))) = true then decide (earl cl a < earl cl b) else decide (rkAt cl rk a < rkAt cl rk b)
theorem c53 (Y : List Ctx) (n1 c1 n2 c2 : Bool) (cl : List Cl) (rk : List Int) (hv : VD cl rk) (hn1 : NilOk n1 cl.length) (hn2 : NilOk n2 rk.length) (a b : Nat) (ha : a < cl.length) (hb : b < cl.length) :
    K4.call 53 [(.agg [.f (mkSl n1 (cls cl) cl.length c1), .f (mkSl n2 (ints rk) rk.length c2)]), (.f (.int .i64 (a))), (.f (.int .i64 (b)))] [] Y = some ((.f (.bool (befR cl rk a b))), [], Y) := by
  have hn := hv.n
  have h79 := fun Y k hk => c79 Y n1 c1 n2 c2 cl rk (by omega) hn1 hn2 k hk
  have wa := hv.w a ha
  have wb := hv.w b hb
  have ia : (cAt cl a).w.toNat < rk.length := by omega
  have ib : (cAt cl b).w.toNat < rk.length := by omega
  rw [call_run (E := E4) (fn := Tryz.f53) fnF53 rfl rfl (by simp) (by simp [Tryz.f53])]
  unfold befR
  cases e1 : ((cAt cl a).c == (cAt cl b).c) with
  | false =>
    simp (config := { maxSteps := 10000000, implicitDefEqProofs := false }) only [go_sem, Bool.false_eq_true, Nat.reduceAdd, Nat.reduceBEq, Nat.reduceLT, Nat.reduceMul, Nat.reduceSub, Nat.reduceLeDiff, Nat.reduceEqDiff, and_self, if_true, if_false, reduceIte, Tryz.f53, hn1, hn2, ha, hb, e1]
    rw [drwEnd_ok (by kernel_rfl)]
    simp (config := { maxSteps := 10000000, implicitDefEqProofs := false }) only [go_sem, Bool.false_eq_true, Nat.reduceAdd, Nat.reduceBEq, Nat.reduceLT, Nat.reduceMul, Nat.reduceSub, Nat.reduceLeDiff, Nat.reduceEqDiff, and_self, if_true, if_false, reduceIte]
  | true =>
    cases e2 : ((earl cl a : Int) == (earl cl b : Int)) with
    | false =>
      simp (config := { maxSteps := 10000000, implicitDefEqProofs := false }) only [go_sem, Bool.false_eq_true, Nat.reduceAdd, Nat.reduceBEq, Nat.reduceLT, Nat.reduceMul, Nat.reduceSub, Nat.reduceLeDiff, Nat.reduceEqDiff, and_self, if_true, if_false, reduceIte, Tryz.f53, hn1, hn2, ha, hb, e1, h79, e2]
      rw [drwEnd_ok (by kernel_rfl)]
      simp (config := { maxSteps := 10000000, implicitDefEqProofs := false }) only [go_sem, Bool.false_eq_true, Nat.reduceAdd, Nat.reduceBEq, Nat.reduceLT, Nat.reduceMul, Nat.reduceSub, Nat.reduceLeDiff, Nat.reduceEqDiff, and_self, if_true, if_false, reduceIte]
    | true =>
      simp (config := { maxSteps := 10000000, implicitDefEqProofs := false }) only [go_sem, Bool.false_eq_true, Nat.reduceAdd, Nat.reduceBEq, Nat.reduceLT, Nat.reduceMul, Nat.reduceSub, Nat.reduceLeDiff, Nat.reduceEqDiff, and_self, if_true, if_false, reduceIte, Tryz.f53, hn1, hn2, ha, hb, e1, h79, e2, wa, wb, ia, ib, get_nth ia, get_nth ib]
      rw [drwEnd_ok (by kernel_rfl)]
      simp (config := { maxSteps := 10000000, implicitDefEqProofs := false }) only [go_sem, Bool.false_eq_true, Nat.reduceAdd, Nat.reduceBEq, Nat.reduceLT, Nat.reduceMul, Nat.reduceSub, Nat.reduceLeDiff, Nat.reduceEqDiff, and_self, if_true, if_false, reduceIte, rkAt]
      rfl
/-- the place of a cloth -/
def before1 (cl : List Cl) (rk : List Int) (a b : Nat) : Bool := !((b : Int) == (a : Int)) && befR cl rk b a
def posR (cl : List Cl) (rk : List Int) (a : Nat) : Nat := (List.range cl.length).countP (before1 cl rk a)
theorem loop19_2 (b : Code) (hb : b = lp Tryz.f19 2) (Y : List Ctx) (n1 c1 n2 c2 : Bool) (cl : List Cl) (rk : List Int) (hv : VD cl rk) (hn1 : NilOk n1 cl.length) (hn2 : NilOk n2 rk.length) (a : Nat) (ha : a < cl.length) (o : List FV) (ex nl : Bool) (d : Nat) : ∀ (k cnt : Nat), k + d = cl.length → cnt ≤ k →
    ∃ T, loopH K4 E4 19 2 b ⟨[(1, .ptr 0 0), (3, .sl 1 0 cl.length 1 false), (4, (.f (.int .i64 (a)))), (5, (.f (.int .i64 (cnt)))), (6, (.f (.int .i64 (k))))], [.box [.f (mkSl n1 (cls cl) cl.length c1), .f (mkSl n2 (ints rk) rk.length c2)], .arr o ex nl], 0⟩ Y =
      some (.exit 2, ⟨T, [.box [.f (mkSl n1 (cls cl) cl.length c1), .f (mkSl n2 (ints rk) rk.length c2)], .arr o ex nl], 0⟩, Y) ∧ getT T 1 = .ptr 0 0 ∧ getT T 3 = .sl 1 0 cl.length 1 false ∧ getT T 4 = (.f (.int .i64 (a))) ∧
      getT T 5 = (.f (.int .i64 ((cnt + ((List.range cl.length).drop k).countP (before1 cl rk a) : Nat)))) := by
  have hn := hv.n
  induction d with
  | zero =>
    intro k cnt hk hc
    simp only [lp, loopIn, Tryz.f19, Option.bind_some, Option.getD_some, Nat.reduceBEq, Bool.false_eq_true, if_true, if_false] at hb
    generalize hX : loopH _ _ _ _ _ _ _ = X; unfold loopH at hX; conv at hX => (lhs; arg 5; rw [hb])
    have h1 : ¬ k < cl.length := by omega
    simp (config := { maxSteps := 10000000, implicitDefEqProofs := false }) only [go_sem, Bool.false_eq_true, Nat.reduceAdd, Nat.reduceBEq, Nat.reduceLT, Nat.reduceMul, Nat.reduceSub, Nat.reduceLeDiff, Nat.reduceEqDiff, and_self, if_true, if_false, reduceIte, hn1, hn2, h1] at hX
    subst hX
    rw [List.drop_eq_nil_of_le (by simp; omega)]
    refine ⟨_, rfl, ?_⟩
    simp (config := { maxSteps := 10000000, implicitDefEqProofs := false }) only [go_sem, Bool.false_eq_true, Nat.reduceAdd, Nat.reduceBEq, Nat.reduceLT, Nat.reduceMul, Nat.reduceSub, Nat.reduceLeDiff, Nat.reduceEqDiff, and_self, if_true, if_false, reduceIte, List.countP_nil]
  | succ d ih =>
    intro k cnt hk hc
    simp only [lp, loopIn, Tryz.f19, Option.bind_some, Option.getD_some, Nat.reduceBEq, Bool.false_eq_true, if_true, if_false] at hb
    generalize hX : loopH _ _ _ _ _ _ _ = X; unfold loopH at hX; conv at hX => (lhs; arg 5; rw [hb])
    have h1 : k < cl.length := by omega
    have h2 : k < (List.range cl.length).length := by simpa using h1
    rw [drop_count _ _ k h2, List.getElem_range]
    have h53 := fun Y => c53 Y n1 c1 n2 c2 cl rk hv hn1 hn2 k a h1 ha
    cases e1 : ((k : Int) == (a : Int)) with
    | true =>
      obtain ⟨T, h, h'⟩ := ih (k + 1) cnt (by omega) (by omega)
      have hal : before1 cl rk a k = false := by simp only [before1, e1, Bool.not_true, Bool.false_and]
      simp (config := { maxSteps := 10000000, implicitDefEqProofs := false }) only [go_sem, Bool.false_eq_true, Nat.reduceAdd, Nat.reduceBEq, Nat.reduceLT, Nat.reduceMul, Nat.reduceSub, Nat.reduceLeDiff, Nat.reduceEqDiff, and_self, if_true, if_false, reduceIte, h1, hn1, hn2, e1, Bool.not_true, wrap_succ (show k ≤ 1000000000 by omega), h] at hX
      subst hX
      refine ⟨T, rfl, ?_⟩
      simpa [hal] using h'
    | false =>
      cases e2 : befR cl rk k a with
      | false =>
        obtain ⟨T, h, h'⟩ := ih (k + 1) cnt (by omega) (by omega)
        have hal : before1 cl rk a k = false := by simp only [before1, e2, Bool.and_false]
        simp (config := { maxSteps := 10000000, implicitDefEqProofs := false }) only [go_sem, Bool.false_eq_true, Nat.reduceAdd, Nat.reduceBEq, Nat.reduceLT, Nat.reduceMul, Nat.reduceSub, Nat.reduceLeDiff, Nat.reduceEqDiff, and_self, if_true, if_false, reduceIte, h1, hn1, hn2, e1, e2, h53, Bool.not_false, wrap_succ (show k ≤ 1000000000 by omega), h] at hX
        subst hX
        refine ⟨T, rfl, ?_⟩
        simpa [hal] using h'
      | true =>
        obtain ⟨T, h, h'⟩ := ih (k + 1) (cnt + 1) (by omega) (by omega)
        have hal : before1 cl rk a k = true := by simp only [before1, e1, e2, Bool.not_false, Bool.and_true]
        simp (config := { maxSteps := 10000000, implicitDefEqProofs := false }) only [go_sem, Bool.false_eq_true, Nat.reduceAdd, Nat.reduceBEq, Nat.reduceLT, Nat.reduceMul, Nat.reduceSub, Nat.reduceLeDiff, Nat.reduceEqDiff, and_self, if_true, if_false, reduceIte, h1, hn1, hn2, e1, e2, h53, Bool.not_false, wrap_succ (show k ≤ 1000000000 by omega), wrap_succ (show cnt ≤ 1000000000 by omega), h] at hX
        subst hX
        refine ⟨T, rfl, ?_⟩
        rw [hal]
        simpa [Nat.add_assoc] using h'
theorem posR_lt (cl : List Cl) (rk : List Int) {a : Nat} (ha : a < cl.length) : posR cl rk a < cl.length := by
  have h : posR cl rk a < (List.range cl.length).length := by
    refine Nat.lt_of_le_of_ne List.countP_le_length (fun h => ?_)
    have := (List.countP_eq_length.1 h) a (by simpa using ha)
    simp [before1] at this
  simpa using h
/-- the order, as the reference makes it -/
def ordGo (cl : List Cl) (rk : List Int) : List Nat → List Int → List Int
  | [], out => out
  | a :: r, out => ordGo cl rk r (out.set (posR cl rk a) (a : Int))
theorem ordGo_len (cl : List Cl) (rk : List Int) : ∀ l out, (ordGo cl rk l out).length = out.length
  | [], _ => rfl
  | a :: r, out => by rw [ordGo, ordGo_len]; simp
def ordR (cl : List Cl) (rk : List Int) : List Int := ordGo cl rk (List.range cl.length) (List.replicate cl.length 0)
theorem ordR_len (cl : List Cl) (rk : List Int) : (ordR cl rk).length = cl.length := by rw [ordR, ordGo_len]; simp
theorem loop19_0 (b : Code) (hb : b = lp Tryz.f19 0) (Y : List Ctx) (n1 c1 n2 c2 : Bool) (cl : List Cl) (rk : List Int) (hv : VD cl rk) (hn1 : NilOk n1 cl.length) (hn2 : NilOk n2 rk.length) (d : Nat) : ∀ (k : Nat) (o : List Int), k + d = cl.length → o.length = cl.length →
    ∃ T, loopH K4 E4 19 0 b ⟨[(1, .ptr 0 0), (3, .sl 1 0 cl.length 1 false), (4, (.f (.int .i64 (k))))], [.box [.f (mkSl n1 (cls cl) cl.length c1), .f (mkSl n2 (ints rk) rk.length c2)], .arr (ints o) true false], 0⟩ Y =
      some (.exit 0, ⟨T, [.box [.f (mkSl n1 (cls cl) cl.length c1), .f (mkSl n2 (ints rk) rk.length c2)], .arr (ints (ordGo cl rk ((List.range cl.length).drop k) o)) true false], 0⟩, Y) ∧ getT T 3 = .sl 1 0 cl.length 1 false := by
  have hn := hv.n
  induction d with
  | zero =>
    intro k o hk ho
    simp only [lp, loopIn, Tryz.f19, Option.bind_some, Option.getD_some, Nat.reduceBEq, Bool.false_eq_true, if_true, if_false] at hb
    generalize hX : loopH _ _ _ _ _ _ _ = X; unfold loopH at hX; conv at hX => (lhs; arg 5; rw [hb])
    have h1 : ¬ k < cl.length := by omega
    simp (config := { maxSteps := 10000000, implicitDefEqProofs := false }) only [go_sem, Bool.false_eq_true, Nat.reduceAdd, Nat.reduceBEq, Nat.reduceLT, Nat.reduceMul, Nat.reduceSub, Nat.reduceLeDiff, Nat.reduceEqDiff, and_self, if_true, if_false, reduceIte, hn1, hn2, h1] at hX
    subst hX
    rw [List.drop_eq_nil_of_le (by simp; omega)]
    refine ⟨_, rfl, ?_⟩
    simp (config := { maxSteps := 10000000, implicitDefEqProofs := false }) only [go_sem, Bool.false_eq_true, Nat.reduceAdd, Nat.reduceBEq, Nat.reduceLT, Nat.reduceMul, Nat.reduceSub, Nat.reduceLeDiff, Nat.reduceEqDiff, and_self, if_true, if_false, reduceIte]
  | succ d ih =>
    intro k o hk ho
    simp only [lp, loopIn, Tryz.f19, Option.bind_some, Option.getD_some, Nat.reduceBEq, Bool.false_eq_true, if_true, if_false] at hb
    generalize hX : loopH _ _ _ _ _ _ _ = X; unfold loopH at hX; conv at hX => (lhs; arg 5; rw [hb])
    have h1 : k < cl.length := by omega
    have hp := posR_lt cl rk h1
    obtain ⟨T, h, g1, g3, g4, g5⟩ := loop19_2 _ rfl Y n1 c1 n2 c2 cl rk hv hn1 hn2 k h1 (ints o) true false cl.length 0 0 (by omega) (by omega)
    simp only [lp, loopIn, Tryz.f19, Option.bind_some, Option.getD_some, Nat.reduceBEq, Bool.false_eq_true, if_true, if_false, zero_cast] at h
    rw [List.drop_zero, Nat.zero_add, ← posR] at g5
    obtain ⟨T', h', g'⟩ := ih (k + 1) (o.set (posR cl rk k) (k : Int)) (by omega) (by simpa using ho)
    simp (config := { maxSteps := 10000000, implicitDefEqProofs := false }) only [go_sem, Bool.false_eq_true, Nat.reduceAdd, Nat.reduceBEq, Nat.reduceLT, Nat.reduceMul, Nat.reduceSub, Nat.reduceLeDiff, Nat.reduceEqDiff, and_self, if_true, if_false, reduceIte, h1, hn1, hn2, h, g1, g3, g4, g5, hp, ho, wrap_succ (show k ≤ 1000000000 by omega), h'] at hX
    subst hX
    refine ⟨T', ?_, g'⟩
    have e : (List.range cl.length).drop k = k :: (List.range cl.length).drop (k + 1) := by
      rw [List.drop_eq_getElem_cons (by simpa using h1), List.getElem_range]
    rw [e]
    rfl
theorem rep_ints' (n : Nat) : (List.replicate n [FV.int .i64 0]).flatten = ints (List.replicate n 0) := by
  induction n with
  | zero => rfl
  | succ n ih => rw [List.replicate_succ, List.flatten_cons, ih, List.replicate_succ]; rfl
theorem c19 (Y : List Ctx) (n1 c1 n2 c2 : Bool) (cl : List Cl) (rk : List Int) (hv : VD cl rk) (hn1 : NilOk n1 cl.length) (hn2 : NilOk n2 rk.length) :
    K4.call 19 [(.agg [.f (mkSl n1 (cls cl) cl.length c1), .f (mkSl n2 (ints rk) rk.length c2)])] [] Y = some (.sl 0 0 cl.length 1 false, [.arr (ints (ordR cl rk)) true false], Y) := by
  have hn := hv.n
  obtain ⟨T, h, h'⟩ := loop19_0 _ rfl Y n1 c1 n2 c2 cl rk hv hn1 hn2 cl.length 0 (List.replicate cl.length 0) (by omega) (by simp)
  simp only [lp, loopIn, Tryz.f19, Option.bind_some, Option.getD_some, Nat.reduceBEq, Bool.false_eq_true, if_true, if_false, zero_cast, List.drop_zero] at h
  rw [← ordR] at h
  have hb : (0 : Int) ≤ (cl.length : Int) ∧ (cl.length : Int) ≤ 65536 := by omega
  rw [call_run (E := E4) (fn := Tryz.f19) fnF19 rfl rfl (by simp) (by simp [Tryz.f19])]
  simp (config := { maxSteps := 10000000, implicitDefEqProofs := false }) only [go_sem, Bool.false_eq_true, Nat.reduceAdd, Nat.reduceBEq, Nat.reduceLT, Nat.reduceMul, Nat.reduceSub, Nat.reduceLeDiff, Nat.reduceEqDiff, and_self, if_true, if_false, reduceIte, Tryz.f19, hn1, hn2, hb, rep_ints', h, h']
end Go.AM

namespace Go.AM
open Go.Proofs
set_option maxHeartbeats 0
set_option maxRecDepth 100000
set_option linter.unusedSimpArgs false
set_option linter.unusedVariables false
theorem app_ints1e {b o k : Nat} {l : List Int} {v : Int} {nl : Bool} (hl : l.length = k) (hb : k ≤ 16777215) :
   appO b o (.arr (ints l) true nl) 0 k 1 false 1 [.int .i64 v] 1 = some ⟨.sl b 0 (k + 1) 1 false, [], [.arr (ints (l ++ [v])) false false]⟩ := by
  rw [appO_grow_ex ⟨by omega, by simp [ints, hl], by simp, by omega, by omega⟩ (by omega), ints_one, ints_app]
attribute [go_sem] app_ints1e
def his (cl : List Cl) : List Int := cl.map (·.hi)
theorem his_nth {cl : List Cl} {k : Nat} (h : k < cl.length) : nth (his cl) k = (cAt cl k).hi := by
  rw [← nth_eq (by simpa [his] using h), ← cAt_eq h]; simp [his]
theorem his_len (cl : List Cl) : (his cl).length = cl.length := by simp [his]
theorem take_snoc {l : List Int} {k : Nat} {v : Int} (h : k < l.length) (hv : nth l k = v) : l.take k ++ [v] = l.take (k + 1) := by
  rw [List.take_succ_eq_append_getElem h, nth_eq h, hv]
theorem loop78 (b : Code) (hb : b = lp Tryz.f78 0) (Y : List Ctx) (n1 c1 n2 c2 : Bool) (cl : List Cl) (rk : List Int) (hn1 : NilOk n1 cl.length) (hn2 : NilOk n2 rk.length) (hc : cl.length ≤ 1000000) (d : Nat) : ∀ (k : Nat) (ex : Bool), k + d = cl.length →
    ∃ T ex', loopH K4 E4 78 0 b ⟨[(1, (.f (.bool (true)))), (2, .ptr 0 0), (5, .sl 1 0 k 1 false), (6, (.f (.int .i64 (k))))], [.box [.f (mkSl n1 (cls cl) cl.length c1), .f (mkSl n2 (ints rk) rk.length c2)], .arr (ints ((his cl).take k)) ex false], 0⟩ Y =
      some (.exit 0, ⟨T, [.box [.f (mkSl n1 (cls cl) cl.length c1), .f (mkSl n2 (ints rk) rk.length c2)], .arr (ints (his cl)) ex' false], 0⟩, Y) ∧ getT T 5 = .sl 1 0 cl.length 1 false := by
  induction d with
  | zero =>
    intro k ex hk
    simp only [lp, loopIn, Tryz.f78, Option.bind_some, Option.getD_some, Nat.reduceBEq, Bool.false_eq_true, if_true, if_false] at hb
    generalize hX : loopH _ _ _ _ _ _ _ = X; unfold loopH at hX; conv at hX => (lhs; arg 5; rw [hb])
    have h1 : ¬ k < cl.length := by omega
    simp (config := { maxSteps := 10000000, implicitDefEqProofs := false }) only [go_sem, Bool.false_eq_true, Nat.reduceAdd, Nat.reduceBEq, Nat.reduceLT, Nat.reduceMul, Nat.reduceSub, Nat.reduceLeDiff, Nat.reduceEqDiff, and_self, if_true, if_false, reduceIte, hn1, hn2, h1] at hX
    subst hX
    rw [List.take_of_length_le (by rw [his_len]; omega), show k = cl.length by omega]
    refine ⟨_, _, rfl, ?_⟩
    simp (config := { maxSteps := 10000000, implicitDefEqProofs := false }) only [go_sem, Bool.false_eq_true, Nat.reduceAdd, Nat.reduceBEq, Nat.reduceLT, Nat.reduceMul, Nat.reduceSub, Nat.reduceLeDiff, Nat.reduceEqDiff, and_self, if_true, if_false, reduceIte]
  | succ d ih =>
    intro k ex hk
    simp only [lp, loopIn, Tryz.f78, Option.bind_some, Option.getD_some, Nat.reduceBEq, Bool.false_eq_true, if_true, if_false] at hb
    generalize hX : loopH _ _ _ _ _ _ _ = X; unfold loopH at hX; conv at hX => (lhs; arg 5; rw [hb])
    have h1 : k < cl.length := by omega
    obtain ⟨T, ex', h, h'⟩ := ih (k + 1) false (by omega)
    have hl : ((his cl).take k).length = k := by simp [his]; omega
    have hs : (his cl).take k ++ [(cAt cl k).hi] = (his cl).take (k + 1) := take_snoc (by rw [his_len]; exact h1) (his_nth h1)
    cases ex with
    | false =>
      simp (config := { maxSteps := 10000000, implicitDefEqProofs := false }) only [go_sem, Bool.false_eq_true, Nat.reduceAdd, Nat.reduceBEq, Nat.reduceLT, Nat.reduceMul, Nat.reduceSub, Nat.reduceLeDiff, Nat.reduceEqDiff, and_self, if_true, if_false, reduceIte, hn1, hn2, h1, hl, show k ≤ 16777215 by omega, hs, wrap_succ (show k ≤ 1000000000 by omega), h] at hX
      subst hX
      exact ⟨T, ex', rfl, h'⟩
    | true =>
      simp (config := { maxSteps := 10000000, implicitDefEqProofs := false }) only [go_sem, Bool.false_eq_true, Nat.reduceAdd, Nat.reduceBEq, Nat.reduceLT, Nat.reduceMul, Nat.reduceSub, Nat.reduceLeDiff, Nat.reduceEqDiff, and_self, if_true, if_false, reduceIte, hn1, hn2, h1, hl, show k ≤ 16777215 by omega, hs, wrap_succ (show k ≤ 1000000000 by omega), h] at hX
      subst hX
      exact ⟨T, ex', rfl, h'⟩
theorem c78 (Y : List Ctx) (n1 c1 n2 c2 : Bool) (cl : List Cl) (rk : List Int) (hn1 : NilOk n1 cl.length) (hn2 : NilOk n2 rk.length) (hc : cl.length ≤ 1000000) :
    ∃ ex, K4.call 78 [(.agg [.f (mkSl n1 (cls cl) cl.length c1), .f (mkSl n2 (ints rk) rk.length c2)]), (.f (.bool (true)))] [] Y = some (.sl 0 0 cl.length 1 false, [.arr (ints (his cl)) ex false], Y) := by
  obtain ⟨T, ex, h, h'⟩ := loop78 _ rfl Y n1 c1 n2 c2 cl rk hn1 hn2 hc cl.length 0 true (by omega)
  simp only [lp, loopIn, Tryz.f78, Option.bind_some, Option.getD_some, Nat.reduceBEq, Bool.false_eq_true, if_true, if_false, zero_cast, List.take_zero, show ints [] = [] from rfl] at h
  refine ⟨ex, ?_⟩
  rw [call_run (E := E4) (fn := Tryz.f78) fnF78 rfl rfl (by simp) (by simp [Tryz.f78])]
  simp (config := { maxSteps := 10000000, implicitDefEqProofs := false }) only [go_sem, Bool.false_eq_true, Nat.reduceAdd, Nat.reduceBEq, Nat.reduceLT, Nat.reduceMul, Nat.reduceSub, Nat.reduceLeDiff, Nat.reduceEqDiff, and_self, if_true, if_false, reduceIte, Tryz.f78, h, h']

/-- the first one of the least -/
def minGo (l : List Int) : Nat → Nat → Nat → Nat
  | 0, _, f => f
  | d + 1, s, f => minGo l d (s + 1) (if nth l s < nth l f then s else f)
theorem minGo_lt (l : List Int) : ∀ d s f, s + d ≤ l.length → f < l.length → minGo l d s f < l.length
  | 0, _, _, _, h => h
  | d + 1, s, f, h1, h2 => by
    simp only [minGo]
    refine minGo_lt l d _ _ (by omega) ?_
    split <;> omega
theorem loop77_2 (b : Code) (hb : b = lp Tryz.f77 2) (Y : List Ctx) (v1 v2 v3 v4 : FV) (nf st : Nat) (hst : st ≤ 1000000) (free : List Int) (hf : free.length = st) (o : List FV) (ex : Bool) (ko ki : Nat) (d : Nat) : ∀ (s f : Nat), s + d = st → f < st →
    ∃ T D, loopH K4 E4 77 2 b ⟨[(1, .f v1), (2, (.f (.int .i64 (st)))), (3, .f v2), (4, .ptr 0 0), (9, .sl 1 0 ko 1 false), (10, .sl 2 0 st 1 false), (11, (.f (.int .i64 (ki)))), (12, (.f (.int .i64 (f)))), (13, (.f (.int .i64 (s))))], [.box [.f v3, .f v4], .arr o ex false, .arr (ints free) true false], 0⟩ Y =
      some (.exit 2, ⟨T, [.box [.f v3, .f v4], .arr o ex false, .arr (ints free) true false] ++ D, 0⟩, Y) ∧ D = [] ∧ getT T 1 = .f v1 ∧ getT T 2 = (.f (.int .i64 (st))) ∧ getT T 3 = .f v2 ∧ getT T 4 = .ptr 0 0 ∧ getT T 9 = .sl 1 0 ko 1 false ∧ getT T 10 = .sl 2 0 st 1 false ∧ getT T 11 = (.f (.int .i64 (ki))) ∧ getT T 12 = (.f (.int .i64 ((minGo free d s f : Nat)))) := by
  induction d with
  | zero =>
    intro s f hs hf2
    simp only [lp, loopIn, Tryz.f77, Option.bind_some, Option.getD_some, Nat.reduceBEq, Bool.false_eq_true, if_true, if_false] at hb
    generalize hX : loopH _ _ _ _ _ _ _ = X; unfold loopH at hX; conv at hX => (lhs; arg 5; rw [hb])
    have h1 : ¬ s < st := by omega
    simp (config := { maxSteps := 10000000, implicitDefEqProofs := false }) only [go_sem, Bool.false_eq_true, Nat.reduceAdd, Nat.reduceBEq, Nat.reduceLT, Nat.reduceMul, Nat.reduceSub, Nat.reduceLeDiff, Nat.reduceEqDiff, and_self, if_true, if_false, reduceIte, h1] at hX
    subst hX
    refine ⟨_, [], rfl, rfl, ?_⟩
    simp (config := { maxSteps := 10000000, implicitDefEqProofs := false }) only [go_sem, Bool.false_eq_true, Nat.reduceAdd, Nat.reduceBEq, Nat.reduceLT, Nat.reduceMul, Nat.reduceSub, Nat.reduceLeDiff, Nat.reduceEqDiff, and_self, if_true, if_false, reduceIte, minGo]
  | succ d ih =>
    intro s f hs hf2
    simp only [lp, loopIn, Tryz.f77, Option.bind_some, Option.getD_some, Nat.reduceBEq, Bool.false_eq_true, if_true, if_false] at hb
    generalize hX : loopH _ _ _ _ _ _ _ = X; unfold loopH at hX; conv at hX => (lhs; arg 5; rw [hb])
    have h1 : s < st := by omega
    have h2 : s < free.length := by omega
    have h3 : f < free.length := by omega
    cases e : decide (nth free s < nth free f) with
    | true =>
      obtain ⟨T, D, h, h'⟩ := ih (s + 1) s (by omega) (by omega)
      simp (config := { maxSteps := 10000000, implicitDefEqProofs := false }) only [go_sem, Bool.false_eq_true, Nat.reduceAdd, Nat.reduceBEq, Nat.reduceLT, Nat.reduceMul, Nat.reduceSub, Nat.reduceLeDiff, Nat.reduceEqDiff, and_self, if_true, if_false, reduceIte, h1, h2, h3, hf2, get_nth h2, get_nth h3, e, wrap_succ (show s ≤ 1000000000 by omega), h] at hX
      rw [drwEnd_ok (by kernel_rfl)] at hX
      subst hX
      rw [minGo, if_pos (by simpa using e)]
      exact ⟨T, D, rfl, h'⟩
    | false =>
      obtain ⟨T, D, h, h'⟩ := ih (s + 1) f (by omega) hf2
      simp (config := { maxSteps := 10000000, implicitDefEqProofs := false }) only [go_sem, Bool.false_eq_true, Nat.reduceAdd, Nat.reduceBEq, Nat.reduceLT, Nat.reduceMul, Nat.reduceSub, Nat.reduceLeDiff, Nat.reduceEqDiff, and_self, if_true, if_false, reduceIte, h1, h2, h3, hf2, get_nth h2, get_nth h3, e, wrap_succ (show s ≤ 1000000000 by omega), h] at hX
      rw [drwEnd_ok (by kernel_rfl)] at hX
      subst hX
      rw [minGo, if_neg (by simpa using e)]
      exact ⟨T, D, rfl, h'⟩
/-- when the cloths are taken -/
def tkn (sy : List Int) (cl : List Cl) (st : Nat) : List Int → List Int → List Int
  | [], _ => []
  | k :: r, free =>
    let at' := max (nth free (minGo free st 0 0)) (cAt cl k.toNat).c
    at' :: tkn sy cl st r (free.set (minGo free st 0 0) (at' + nth sy k.toNat))
theorem loop77_0 (b : Code) (hb : b = lp Tryz.f77 0) (Y : List Ctx) (n1 c1 n2 c2 : Bool) (cl : List Cl) (rk : List Int) (hn1 : NilOk n1 cl.length) (hn2 : NilOk n2 rk.length) (nl c : Bool) (l : List Int) (hl : ∀ x ∈ l, ∃ j, j < cl.length ∧ x = ((j : Nat) : Int)) (n : Nat) (hn : n ≤ 1000) (hln : l.length = n) (hnl : NilOk nl n)
    (sy : List Int) (hsy : sy.length = cl.length) (hs : ∀ k, k < cl.length → 0 ≤ nth sy k ∧ nth sy k ≤ 1000) (hc : ∀ k, k < cl.length → (cAt cl k).c ≤ 200 ∧ 0 ≤ (cAt cl k).c) (hcn : cl.length ≤ 1000000) (st : Nat) (hst : 0 < st ∧ st ≤ 1000) (d : Nat) :
    ∀ (k : Nat) (free out : List Int) (ex : Bool), k + d = n → free.length = st → out.length = k → (∀ x ∈ free, 0 ≤ x ∧ x ≤ 1000 + 1000 * (k : Int)) →
    ∃ T ex' o2, loopH K4 E4 77 0 b ⟨[(1, .f (mkSl nl (ints l) n c)), (2, (.f (.int .i64 (st)))), (3, .f (.sl (ints sy) cl.length false)), (4, .ptr 0 0), (9, .sl 1 0 k 1 false), (10, .sl 2 0 st 1 false), (11, (.f (.int .i64 (k))))], [.box [.f (mkSl n1 (cls cl) cl.length c1), .f (mkSl n2 (ints rk) rk.length c2)], .arr (ints out) ex false, .arr (ints free) true false], 0⟩ Y =
      some (.exit 0, ⟨T, [.box [.f (mkSl n1 (cls cl) cl.length c1), .f (mkSl n2 (ints rk) rk.length c2)], .arr (ints (out ++ tkn sy cl st (l.drop k) free)) ex' false, o2], 0⟩, Y) ∧ getT T 9 = .sl 1 0 n 1 false := by
  induction d with
  | zero =>
    intro k free out ex hk hf ho hfb
    simp only [lp, loopIn, Tryz.f77, Option.bind_some, Option.getD_some, Nat.reduceBEq, Bool.false_eq_true, if_true, if_false] at hb
    generalize hX : loopH _ _ _ _ _ _ _ = X; unfold loopH at hX; conv at hX => (lhs; arg 5; rw [hb])
    have h1 : ¬ k < n := by omega
    simp (config := { maxSteps := 10000000, implicitDefEqProofs := false }) only [go_sem, Bool.false_eq_true, Nat.reduceAdd, Nat.reduceBEq, Nat.reduceLT, Nat.reduceMul, Nat.reduceSub, Nat.reduceLeDiff, Nat.reduceEqDiff, and_self, if_true, if_false, reduceIte, hnl, h1] at hX
    subst hX
    rw [List.drop_eq_nil_of_le (by omega), tkn, List.append_nil, show k = n by omega]
    refine ⟨_, _, _, rfl, ?_⟩
    simp (config := { maxSteps := 10000000, implicitDefEqProofs := false }) only [go_sem, Bool.false_eq_true, Nat.reduceAdd, Nat.reduceBEq, Nat.reduceLT, Nat.reduceMul, Nat.reduceSub, Nat.reduceLeDiff, Nat.reduceEqDiff, and_self, if_true, if_false, reduceIte]
  | succ d ih =>
    intro k free out ex hk hf ho hfb
    simp only [lp, loopIn, Tryz.f77, Option.bind_some, Option.getD_some, Nat.reduceBEq, Bool.false_eq_true, if_true, if_false] at hb
    generalize hX : loopH _ _ _ _ _ _ _ = X; unfold loopH at hX; conv at hX => (lhs; arg 5; rw [hb])
    have h1 : k < n := by omega
    have h2 : k < l.length := by omega
    obtain ⟨j, hj, ej⟩ := hl _ (nth_mem h2)
    have hm : minGo free st 0 0 < free.length := minGo_lt free st 0 0 (by omega) (by omega)
    have hm' : minGo free st 0 0 < st := by omega
    have b0 := hfb _ (nth_mem hm)
    have b1 := hc j hj
    have b2 := hs j hj
    have h4 : j < sy.length := by omega
    have hw : IntKind.i64.wrap (max (nth free (minGo free st 0 0)) (cAt cl j).c + nth sy j) = max (nth free (minGo free st 0 0)) (cAt cl j).c + nth sy j := IntWalk.i64_in _ (by omega)
    have et : tkn sy cl st (l.drop k) free = max (nth free (minGo free st 0 0)) (cAt cl j).c :: tkn sy cl st (l.drop (k + 1)) (free.set (minGo free st 0 0) (max (nth free (minGo free st 0 0)) (cAt cl j).c + nth sy j)) := by
      rw [drop_nth h2, ej]; rfl
    obtain ⟨T, ex', o2, h, h'⟩ := ih (k + 1) (free.set (minGo free st 0 0) (max (nth free (minGo free st 0 0)) (cAt cl j).c + nth sy j)) (out ++ [max (nth free (minGo free st 0 0)) (cAt cl j).c]) false (by omega) (by simpa using hf) (by simp; omega) (by
      intro x hx
      rcases List.mem_or_eq_of_mem_set hx with h' | h'
      · have := hfb x h'; omega
      · rw [h']; omega)
    obtain ⟨T2, D2, g, hD, g1, g2, g3, g4, g9, g10, g11, g12⟩ := loop77_2 _ rfl Y (mkSl nl (ints l) n c) (.sl (ints sy) cl.length false) (mkSl n1 (cls cl) cl.length c1) (mkSl n2 (ints rk) rk.length c2) 0 st (by omega) free hf (ints out) ex k k st 0 0 (by omega) hst.1
    subst hD
    simp only [lp, loopIn, Tryz.f77, Option.bind_some, Option.getD_some, Nat.reduceBEq, Bool.false_eq_true, if_true, if_false, zero_cast, List.append_nil] at g
    rw [et]
    rw [List.append_assoc, List.singleton_append] at h
    cases ex with
    | false =>
      simp (config := { maxSteps := 10000000, implicitDefEqProofs := false }) only [go_sem, Bool.false_eq_true, Nat.reduceAdd, Nat.reduceBEq, Nat.reduceLT, Nat.reduceMul, Nat.reduceSub, Nat.reduceLeDiff, Nat.reduceEqDiff, and_self, if_true, if_false, reduceIte, hnl, hn1, hn2, h1, h2, h4, ej, hj, hm, hm', get_nth h2, get_nth hm, get_nth h4, g, g1, g2, g3, g4, g9, g10, g11, g12, hw, ho, show k ≤ 16777215 by omega, wrap_succ (show k ≤ 1000000000 by omega), h] at hX
      rw [drwEnd_ok (by kernel_rfl)] at hX
      subst hX
      exact ⟨T, ex', o2, rfl, h'⟩
    | true =>
      simp (config := { maxSteps := 10000000, implicitDefEqProofs := false }) only [go_sem, Bool.false_eq_true, Nat.reduceAdd, Nat.reduceBEq, Nat.reduceLT, Nat.reduceMul, Nat.reduceSub, Nat.reduceLeDiff, Nat.reduceEqDiff, and_self, if_true, if_false, reduceIte, hnl, hn1, hn2, h1, h2, h4, ej, hj, hm, hm', get_nth h2, get_nth hm, get_nth h4, g, g1, g2, g3, g4, g9, g10, g11, g12, hw, ho, show k ≤ 16777215 by omega, wrap_succ (show k ≤ 1000000000 by omega), h] at hX
      rw [drwEnd_ok (by kernel_rfl)] at hX
      subst hX
      exact ⟨T, ex', o2, rfl, h'⟩
theorem tkn_len (sy : List Int) (cl : List Cl) (st : Nat) : ∀ l free, (tkn sy cl st l free).length = l.length
  | [], _ => rfl
  | k :: r, free => by simp only [tkn, List.length_cons, tkn_len]
theorem c77 (Y : List Ctx) (n1 c1 n2 c2 : Bool) (cl : List Cl) (rk : List Int) (hn1 : NilOk n1 cl.length) (hn2 : NilOk n2 rk.length) (nl c : Bool) (l : List Int) (hl : ∀ x ∈ l, ∃ j, j < cl.length ∧ x = ((j : Nat) : Int)) (n : Nat) (hn : n ≤ 1000) (hln : l.length = n) (hnl : NilOk nl n)
    (sy : List Int) (hsy : sy.length = cl.length) (hs : ∀ k, k < cl.length → 0 ≤ nth sy k ∧ nth sy k ≤ 1000) (hc : ∀ k, k < cl.length → (cAt cl k).c ≤ 200 ∧ 0 ≤ (cAt cl k).c) (hcn : cl.length ≤ 1000000) (st : Nat) (hst : 0 < st ∧ st ≤ 1000) :
    ∃ ex, K4.call 77 [(.agg [.f (mkSl n1 (cls cl) cl.length c1), .f (mkSl n2 (ints rk) rk.length c2)]), .f (mkSl nl (ints l) n c), (.f (.int .i64 (st))), .f (.sl (ints sy) cl.length false)] [] Y = some (.sl 0 0 n 1 false, [.arr (ints (tkn sy cl st l (List.replicate st 0))) ex false], Y) := by
  obtain ⟨T, ex, o2, h, h'⟩ := loop77_0 _ rfl Y n1 c1 n2 c2 cl rk hn1 hn2 nl c l hl n hn hln hnl sy hsy hs hc hcn st hst n 0 (List.replicate st 0) [] true (by omega) (by simp) rfl (fun x hx => by have := (List.mem_replicate.1 hx).2; omega)
  simp only [lp, loopIn, Tryz.f77, Option.bind_some, Option.getD_some, Nat.reduceBEq, Bool.false_eq_true, if_true, if_false, zero_cast, List.drop_zero, List.nil_append, show ints [] = [] from rfl] at h
  have hb : (0 : Int) ≤ (st : Int) ∧ (st : Int) ≤ 65536 := by omega
  refine ⟨ex, ?_⟩
  rw [call_run (E := E4) (fn := Tryz.f77) fnF77 rfl rfl (by simp) (by simp [Tryz.f77])]
  simp (config := { maxSteps := 10000000, implicitDefEqProofs := false }) only [go_sem, Bool.false_eq_true, Nat.reduceAdd, Nat.reduceBEq, Nat.reduceLT, Nat.reduceMul, Nat.reduceSub, Nat.reduceLeDiff, Nat.reduceEqDiff, and_self, if_true, if_false, reduceIte, Tryz.f77, hnl, hb, rep_ints', h, h']
  try rw [drwEnd_ok (by kernel_rfl)]
  simp (config := { maxSteps := 10000000, implicitDefEqProofs := false }) only [go_sem, Bool.false_eq_true, Nat.reduceAdd, Nat.reduceBEq, Nat.reduceLT, Nat.reduceMul, Nat.reduceSub, Nat.reduceLeDiff, Nat.reduceEqDiff, and_self, if_true, if_false, reduceIte]

/-- the cloth that waits longest, and how long -/
def wst (cl : List Cl) : List Int → List Int → Int × Int → Int × Int
  | k :: r, t :: ts, q => wst cl r ts (if t - (cAt cl k.toNat).c > q.2 then (k, t - (cAt cl k.toNat).c) else q)
  | _, _, q => q
theorem loop52 (b : Code) (hb : b = lp Tryz.f52 0) (Y : List Ctx) (n1 c1 n2 c2 : Bool) (cl : List Cl) (rk : List Int) (hn1 : NilOk n1 cl.length) (hn2 : NilOk n2 rk.length) (nl c : Bool) (l : List Int) (hl : ∀ x ∈ l, ∃ j, j < cl.length ∧ x = ((j : Nat) : Int)) (n : Nat) (hn : n ≤ 1000) (hln : l.length = n) (hnl : NilOk nl n)
    (tk : List Int) (htk : tk.length = n) (hb' : ∀ x ∈ tk, 0 ≤ x ∧ x ≤ 1000000000) (hc : ∀ k, k < cl.length → (cAt cl k).c ≤ 200 ∧ 0 ≤ (cAt cl k).c) (ex : Bool) (d : Nat) : ∀ (k : Nat) (q : Int × Int), k + d = n →
    ∃ T D, loopH K4 E4 52 0 b ⟨[(1, .f (mkSl nl (ints l) n c)), (3, .ptr 0 0), (8, (.f (.int .i64 (q.1)))), (9, (.f (.int .i64 (q.2)))), (10, .sl 1 0 n 1 false), (11, (.f (.int .i64 (k))))], [.box [.f (mkSl n1 (cls cl) cl.length c1), .f (mkSl n2 (ints rk) rk.length c2)], .arr (ints tk) ex false], 0⟩ Y =
      some (.exit 0, ⟨T, D, 0⟩, Y) ∧ getT T 8 = (.f (.int .i64 ((wst cl (l.drop k) (tk.drop k) q).1))) ∧ getT T 9 = (.f (.int .i64 ((wst cl (l.drop k) (tk.drop k) q).2))) := by
  induction d with
  | zero =>
    intro k q hk
    simp only [lp, loopIn, Tryz.f52, Option.bind_some, Option.getD_some, Nat.reduceBEq, Bool.false_eq_true, if_true, if_false] at hb
    generalize hX : loopH _ _ _ _ _ _ _ = X; unfold loopH at hX; conv at hX => (lhs; arg 5; rw [hb])
    have h1 : ¬ k < n := by omega
    simp (config := { maxSteps := 10000000, implicitDefEqProofs := false }) only [go_sem, Bool.false_eq_true, Nat.reduceAdd, Nat.reduceBEq, Nat.reduceLT, Nat.reduceMul, Nat.reduceSub, Nat.reduceLeDiff, Nat.reduceEqDiff, and_self, if_true, if_false, reduceIte, hnl, h1] at hX
    subst hX
    rw [List.drop_eq_nil_of_le (by omega), List.drop_eq_nil_of_le (by omega)]
    refine ⟨_, _, rfl, ?_⟩
    simp (config := { maxSteps := 10000000, implicitDefEqProofs := false }) only [go_sem, Bool.false_eq_true, Nat.reduceAdd, Nat.reduceBEq, Nat.reduceLT, Nat.reduceMul, Nat.reduceSub, Nat.reduceLeDiff, Nat.reduceEqDiff, and_self, if_true, if_false, reduceIte, wst]
  | succ d ih =>
    intro k q hk
    simp only [lp, loopIn, Tryz.f52, Option.bind_some, Option.getD_some, Nat.reduceBEq, Bool.false_eq_true, if_true, if_false] at hb
    generalize hX : loopH _ _ _ _ _ _ _ = X; unfold loopH at hX; conv at hX => (lhs; arg 5; rw [hb])
    have h1 : k < n := by omega
    have h2 : k < l.length := by omega
    have h3 : k < tk.length := by omega
    obtain ⟨j, hj, ej⟩ := hl _ (nth_mem h2)
    have b0 := hb' _ (nth_mem h3)
    have b1 := hc j hj
    have hw : IntKind.i64.wrap (nth tk k - (cAt cl j).c) = nth tk k - (cAt cl j).c := IntWalk.i64_in _ (by omega)
    rw [drop_nth h2, drop_nth h3, ej, wst, toNat_cast]
    cases e : decide (nth tk k - (cAt cl j).c > q.2) with
    | true =>
      rw [if_pos (by simpa using e)]
      obtain ⟨T, D, h, h'⟩ := ih (k + 1) ((j : Int), nth tk k - (cAt cl j).c) (by omega)
      simp (config := { maxSteps := 10000000, implicitDefEqProofs := false }) only [go_sem, Bool.false_eq_true, Nat.reduceAdd, Nat.reduceBEq, Nat.reduceLT, Nat.reduceMul, Nat.reduceSub, Nat.reduceLeDiff, Nat.reduceEqDiff, and_self, if_true, if_false, reduceIte, hnl, hn1, hn2, h1, h2, h3, ej, hj, get_nth h2, get_nth h3, hw, e, wrap_succ (show k ≤ 1000000000 by omega), h] at hX
      rw [drwEnd_ok (by kernel_rfl)] at hX
      subst hX
      exact ⟨T, D, rfl, h'⟩
    | false =>
      rw [if_neg (by simpa using e)]
      obtain ⟨T, D, h, h'⟩ := ih (k + 1) q (by omega)
      simp (config := { maxSteps := 10000000, implicitDefEqProofs := false }) only [go_sem, Bool.false_eq_true, Nat.reduceAdd, Nat.reduceBEq, Nat.reduceLT, Nat.reduceMul, Nat.reduceSub, Nat.reduceLeDiff, Nat.reduceEqDiff, and_self, if_true, if_false, reduceIte, hnl, hn1, hn2, h1, h2, h3, ej, hj, get_nth h2, get_nth h3, hw, e, wrap_succ (show k ≤ 1000000000 by omega), h] at hX
      rw [drwEnd_ok (by kernel_rfl)] at hX
      subst hX
      exact ⟨T, D, rfl, h'⟩
theorem tkn_bound {sy : List Int} {cl : List Cl} {st : Nat} (hs : ∀ k, k < cl.length → 0 ≤ nth sy k ∧ nth sy k ≤ 1000) (hc : ∀ k, k < cl.length → (cAt cl k).c ≤ 200 ∧ 0 ≤ (cAt cl k).c) (hst : 0 < st) : ∀ (l : List Int), (∀ x ∈ l, ∃ j, j < cl.length ∧ x = ((j : Nat) : Int)) → ∀ (free : List Int) (B : Int), 200 ≤ B → free.length = st →
    (∀ x ∈ free, 0 ≤ x ∧ x ≤ B) → ∀ x ∈ tkn sy cl st l free, 0 ≤ x ∧ x ≤ B + 1000 * (l.length : Int)
  | [], _, _, _, _, _, _, x, hx => by cases hx
  | k :: r, hl, free, B, hB, hf, hfb, x, hx => by
    obtain ⟨j, hj, ej⟩ := hl k List.mem_cons_self
    have ek : k.toNat = j := by omega
    have hm : minGo free st 0 0 < free.length := minGo_lt free st 0 0 (by omega) (by omega)
    have b0 := hfb _ (nth_mem hm)
    have b1 := hc j hj
    have b2 := hs j hj
    simp only [tkn, ek] at hx
    simp only [List.length_cons]
    rcases List.mem_cons.1 hx with h | h
    · subst h; omega
    · have := tkn_bound hs hc hst r (fun x hx => hl x (List.mem_cons_of_mem _ hx)) _ (B + 1000) (by omega) (by simpa using hf) (by
        intro y hy
        rcases List.mem_or_eq_of_mem_set hy with h' | h'
        · have := hfb y h'; omega
        · rw [h']; omega) x h
      omega
def lateR (cl : List Cl) (l : List Int) (st : Nat) (lim : Int) : Bool := decide ((wst cl l (tkn (his cl) cl st l (List.replicate st 0)) (-1, -1)).2 > lim)
theorem c52 (Y : List Ctx) (n1 c1 n2 c2 : Bool) (cl : List Cl) (rk : List Int) (hn1 : NilOk n1 cl.length) (hn2 : NilOk n2 rk.length) (nl c : Bool) (l : List Int) (hl : ∀ x ∈ l, ∃ j, j < cl.length ∧ x = ((j : Nat) : Int)) (n : Nat) (hn : n ≤ 1000) (hln : l.length = n) (hnl : NilOk nl n)
    (hs : ∀ k, k < cl.length → 0 ≤ (cAt cl k).hi ∧ (cAt cl k).hi ≤ 1000) (hc : ∀ k, k < cl.length → (cAt cl k).c ≤ 200 ∧ 0 ≤ (cAt cl k).c) (hcn : cl.length ≤ 1000000) (st : Nat) (hst : 0 < st ∧ st ≤ 1000) :
    K4.call 52 [(.agg [.f (mkSl n1 (cls cl) cl.length c1), .f (mkSl n2 (ints rk) rk.length c2)]), .f (mkSl nl (ints l) n c), (.f (.int .i64 (st)))] [] Y = some (.tup [(.f (.int .i64 ((wst cl l (tkn (his cl) cl st l (List.replicate st 0)) (-1, -1)).1))), (.f (.int .i64 ((wst cl l (tkn (his cl) cl st l (List.replicate st 0)) (-1, -1)).2)))], [], Y) := by
  have hs' : ∀ k, k < cl.length → 0 ≤ nth (his cl) k ∧ nth (his cl) k ≤ 1000 := fun k hk => by rw [his_nth hk]; exact hs k hk
  obtain ⟨ex0, h78⟩ := c78 Y n1 c1 n2 c2 cl rk hn1 hn2 hcn
  obtain ⟨ex, h77⟩ := c77 [] n1 c1 n2 c2 cl rk hn1 hn2 nl c l hl n hn hln hnl (his cl) (his_len cl) hs' hc hcn st hst
  have hb := tkn_bound hs' hc hst.1 l hl (List.replicate st 0) 200 (by omega) (by simp) (fun x hx => by have := (List.mem_replicate.1 hx).2; omega)
  obtain ⟨T, D, h, h8, h9⟩ := loop52 _ rfl Y n1 c1 n2 c2 cl rk hn1 hn2 nl c l hl n hn hln hnl (tkn (his cl) cl st l (List.replicate st 0)) (by rw [tkn_len, hln]) (fun x hx => by have := hb x hx; omega) hc ex n 0 (-1, -1) (by omega)
  simp only [lp, loopIn, Tryz.f52, Option.bind_some, Option.getD_some, Nat.reduceBEq, Bool.false_eq_true, if_true, if_false, zero_cast, List.drop_zero] at h
  rw [List.drop_zero, List.drop_zero] at h8 h9
  rw [call_run (E := E4) (fn := Tryz.f52) fnF52 rfl rfl (by simp) (by simp [Tryz.f52])]
  simp (config := { maxSteps := 10000000, implicitDefEqProofs := false }) only [go_sem, Bool.false_eq_true, Nat.reduceAdd, Nat.reduceBEq, Nat.reduceLT, Nat.reduceMul, Nat.reduceSub, Nat.reduceLeDiff, Nat.reduceEqDiff, and_self, if_true, if_false, reduceIte, Tryz.f52, h78, cutS_ints (his_len cl), h77, h, h8, h9]
  rw [drwEnd_ok (by kernel_rfl)]
  simp (config := { maxSteps := 10000000, implicitDefEqProofs := false }) only [go_sem, Bool.false_eq_true, Nat.reduceAdd, Nat.reduceBEq, Nat.reduceLT, Nat.reduceMul, Nat.reduceSub, Nat.reduceLeDiff, Nat.reduceEqDiff, and_self, if_true, if_false, reduceIte]
theorem c18 (Y : List Ctx) (n1 c1 n2 c2 : Bool) (cl : List Cl) (rk : List Int) (hn1 : NilOk n1 cl.length) (hn2 : NilOk n2 rk.length) (nl c : Bool) (l : List Int) (hl : ∀ x ∈ l, ∃ j, j < cl.length ∧ x = ((j : Nat) : Int)) (n : Nat) (hn : n ≤ 1000) (hln : l.length = n) (hnl : NilOk nl n)
    (hs : ∀ k, k < cl.length → 0 ≤ (cAt cl k).hi ∧ (cAt cl k).hi ≤ 1000) (hc : ∀ k, k < cl.length → (cAt cl k).c ≤ 200 ∧ 0 ≤ (cAt cl k).c) (hcn : cl.length ≤ 1000000) (st : Nat) (hst : 0 < st ∧ st ≤ 1000) (lim : Int) :
    K4.call 18 [(.agg [.f (mkSl n1 (cls cl) cl.length c1), .f (mkSl n2 (ints rk) rk.length c2)]), .f (mkSl nl (ints l) n c), (.f (.int .i64 (st))), (.f (.int .i64 (lim)))] [] Y = some ((.f (.bool (lateR cl l st lim))), [], Y) := by
  have h52 := fun Y => c52 Y n1 c1 n2 c2 cl rk hn1 hn2 nl c l hl n hn hln hnl hs hc hcn st hst
  rw [call_run (E := E4) (fn := Tryz.f18) fnF18 rfl rfl (by simp) (by simp [Tryz.f18])]
  simp (config := { maxSteps := 10000000, implicitDefEqProofs := false }) only [go_sem, Bool.false_eq_true, Nat.reduceAdd, Nat.reduceBEq, Nat.reduceLT, Nat.reduceMul, Nat.reduceSub, Nat.reduceLeDiff, Nat.reduceEqDiff, and_self, if_true, if_false, reduceIte, Tryz.f18, h52, lateR]
end Go.AM
