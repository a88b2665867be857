/-
Walks, 4: the reference, and the law.
-/
import Derived.Test.YtgahfnebfpmbpaaGreatMC3
import Derived.Test.YtgahfnebfpmbpaaGreatMC2
set_option linter.unusedVariables false
set_option linter.unusedSimpArgs false
namespace Go.AM
open Go.Proofs
set_option maxHeartbeats 0
set_option maxRecDepth 100000
set_option linter.unusedSimpArgs false
set_option linter.unusedVariables false
theorem comesS_mkc {σ : Nat → AObj} {cs : List FV} {n : Nat} {nl c : Bool} (h : NilOk nl n) (h2 : n = 0 → cs = []) : comesS σ (.f (mkSl nl cs n c)) = some (cs, n) := by
  cases nl with
  | false => exact comesS_f
  | true => rw [h rfl, h2 (h rfl)]; rfl
theorem appO_e0 {b o k : Nat} (hk : 0 < k) (hk2 : k ≤ 1024) : appO b o (.arr [] true false) 0 0 k false k [] 0 = some ⟨.sl b 0 0 k false, [(o, .dead)], [.arr [] false false]⟩ := by
  simp [appO, appendA, viewS, unF, appMax]
  omega
theorem c13 (Y : List Ctx) (n1 c1 n2 c2 : Bool) (cl : List Cl) (rk : List Int) (hn1 : NilOk n1 cl.length) (hn2 : NilOk n2 rk.length) (hc : cl.length ≤ 1000000) (hm : rk.length ≤ 1000000) :
    K4.call 13 [(.agg [.f (mkSl n1 (cls cl) cl.length c1), .f (mkSl n2 (ints rk) rk.length c2)])] [] Y = some (.agg [.sl 0 0 cl.length 4 false, .sl 1 0 rk.length 1 false], [.arr (cls cl) false false, .arr (ints rk) false false], Y) := by
  have k1 := fun σ => comesS_mkc (σ := σ) (c := c1) hn1 (fun h => by rw [List.length_eq_zero_iff.1 h]; rfl : cl.length = 0 → cls cl = [])
  have k2 := fun σ => comesS_mkc (σ := σ) (c := c2) hn2 (fun h => by rw [List.length_eq_zero_iff.1 h]; rfl : rk.length = 0 → ints rk = [])
  rw [call_run (E := E4) (fn := Tryz.f13) fnF13 rfl rfl (by simp) (by simp [Tryz.f13])]
  by_cases h1 : cl.length = 0
  · have e1 : cl = [] := List.length_eq_zero_iff.1 h1
    by_cases h2 : rk.length = 0
    · have e2 : rk = [] := List.length_eq_zero_iff.1 h2
      subst e1 e2
      simp only [List.length_nil, show cls [] = [] from rfl, show ints [] = [] from rfl] at *
      simp (config := { maxSteps := 10000000, implicitDefEqProofs := false }) only [go_sem, Bool.false_eq_true, Nat.reduceAdd, Nat.reduceBEq, Nat.reduceLT, Nat.reduceMul, Nat.reduceSub, Nat.reduceLeDiff, Nat.reduceEqDiff, and_self, if_true, if_false, reduceIte, Tryz.f13, k1, k2, appO_e0]
      rw [drwEnd_ok (by kernel_rfl)]
      simp (config := { maxSteps := 10000000, implicitDefEqProofs := false }) only [go_sem, Bool.false_eq_true, Nat.reduceAdd, Nat.reduceBEq, Nat.reduceLT, Nat.reduceMul, Nat.reduceSub, Nat.reduceLeDiff, Nat.reduceEqDiff, and_self, if_true, if_false, reduceIte]
    · subst e1
      simp only [List.length_nil, show cls [] = [] from rfl] at *
      simp (config := { maxSteps := 10000000, implicitDefEqProofs := false }) only [go_sem, Bool.false_eq_true, Nat.reduceAdd, Nat.reduceBEq, Nat.reduceLT, Nat.reduceMul, Nat.reduceSub, Nat.reduceLeDiff, Nat.reduceEqDiff, and_self, if_true, if_false, reduceIte, Tryz.f13, k1, k2, appO_e0, app_ints0 (l := rk) rfl (by omega) hm]
      rw [drwEnd_ok (by kernel_rfl)]
      simp (config := { maxSteps := 10000000, implicitDefEqProofs := false }) only [go_sem, Bool.false_eq_true, Nat.reduceAdd, Nat.reduceBEq, Nat.reduceLT, Nat.reduceMul, Nat.reduceSub, Nat.reduceLeDiff, Nat.reduceEqDiff, and_self, if_true, if_false, reduceIte]
  · by_cases h2 : rk.length = 0
    · have e2 : rk = [] := List.length_eq_zero_iff.1 h2
      subst e2
      simp only [List.length_nil, show ints [] = [] from rfl] at *
      simp (config := { maxSteps := 10000000, implicitDefEqProofs := false }) only [go_sem, Bool.false_eq_true, Nat.reduceAdd, Nat.reduceBEq, Nat.reduceLT, Nat.reduceMul, Nat.reduceSub, Nat.reduceLeDiff, Nat.reduceEqDiff, and_self, if_true, if_false, reduceIte, Tryz.f13, k1, k2, appO_e0, app_cls0 (l := cl) rfl (by omega) hc]
      rw [drwEnd_ok (by kernel_rfl)]
      simp (config := { maxSteps := 10000000, implicitDefEqProofs := false }) only [go_sem, Bool.false_eq_true, Nat.reduceAdd, Nat.reduceBEq, Nat.reduceLT, Nat.reduceMul, Nat.reduceSub, Nat.reduceLeDiff, Nat.reduceEqDiff, and_self, if_true, if_false, reduceIte]
    · simp (config := { maxSteps := 10000000, implicitDefEqProofs := false }) only [go_sem, Bool.false_eq_true, Nat.reduceAdd, Nat.reduceBEq, Nat.reduceLT, Nat.reduceMul, Nat.reduceSub, Nat.reduceLeDiff, Nat.reduceEqDiff, and_self, if_true, if_false, reduceIte, Tryz.f13, k1, k2, app_cls0 (l := cl) rfl (by omega) hc, app_ints0 (l := rk) rfl (by omega) hm]
      rw [drwEnd_ok (by kernel_rfl)]
      simp (config := { maxSteps := 10000000, implicitDefEqProofs := false }) only [go_sem, Bool.false_eq_true, Nat.reduceAdd, Nat.reduceBEq, Nat.reduceLT, Nat.reduceMul, Nat.reduceSub, Nat.reduceLeDiff, Nat.reduceEqDiff, and_self, if_true, if_false, reduceIte]
theorem loop23 (b : Code) (hb : b = lp Tryz.f23 0) (Y : List Ctx) (nl c nl' c' : Bool) (l l' : List Int) (n : Nat) (hn : n ≤ 1000000) (hl : l.length = n) (hl' : l'.length = n) (hnl : NilOk nl n) (hnl' : NilOk nl' n) (d : Nat) : ∀ k, k + d = n →
    ∃ T D e, loopH K4 E4 23 0 b ⟨[(0, .f (mkSl nl (ints l) n c)), (1, .f (mkSl nl' (ints l') n c')), (5, (.f (.int .i64 (k))))], [], 0⟩ Y = some (e, ⟨T, D, 0⟩, Y) ∧
      ((e = .ret ∧ getT T 4 = (.f (.bool (false))) ∧ (l.drop k == l'.drop k) = false) ∨ (e = .exit 0 ∧ (l.drop k == l'.drop k) = true)) := by
  induction d with
  | zero =>
    intro k hk
    simp only [lp, loopIn, Tryz.f23, Option.bind_some, Option.getD_some, Nat.reduceBEq, Bool.false_eq_true, if_true, if_false] at hb
    generalize hX : loopH _ _ _ _ _ _ _ = X; unfold loopH at hX; conv at hX => (lhs; arg 5; rw [hb])
    have h1 : ¬ k < n := by omega
    simp (config := { maxSteps := 10000000, implicitDefEqProofs := false }) only [go_sem, Bool.false_eq_true, Nat.reduceAdd, Nat.reduceBEq, Nat.reduceLT, Nat.reduceMul, Nat.reduceSub, Nat.reduceLeDiff, Nat.reduceEqDiff, and_self, if_true, if_false, reduceIte, hnl, h1] at hX
    subst hX
    refine ⟨_, _, _, rfl, Or.inr ⟨rfl, ?_⟩⟩
    rw [List.drop_eq_nil_of_le (by omega), List.drop_eq_nil_of_le (by omega)]; rfl
  | succ d ih =>
    intro k hk
    simp only [lp, loopIn, Tryz.f23, Option.bind_some, Option.getD_some, Nat.reduceBEq, Bool.false_eq_true, if_true, if_false] at hb
    generalize hX : loopH _ _ _ _ _ _ _ = X; unfold loopH at hX; conv at hX => (lhs; arg 5; rw [hb])
    have h1 : k < n := by omega
    have h2 : k < l.length := by omega
    have h3 : k < l'.length := by omega
    rw [drop_nth h2, drop_nth h3]
    cases e1 : (nth l k == nth l' k) with
    | true =>
      obtain ⟨T, D, e, h, h'⟩ := ih (k + 1) (by omega)
      simp (config := { maxSteps := 10000000, implicitDefEqProofs := false }) only [go_sem, Bool.false_eq_true, Nat.reduceAdd, Nat.reduceBEq, Nat.reduceLT, Nat.reduceMul, Nat.reduceSub, Nat.reduceLeDiff, Nat.reduceEqDiff, and_self, if_true, if_false, reduceIte, h1, h2, h3, hnl, hnl', get_nth h2, get_nth h3, e1, Bool.not_true, wrap_succ (show k ≤ 1000000000 by omega), h] at hX
      rw [drwEnd_ok (by kernel_rfl)] at hX
      subst hX
      refine ⟨T, D, e, rfl, ?_⟩
      rw [List.cons_beq_cons, e1, Bool.true_and]
      exact h'
    | false =>
      simp (config := { maxSteps := 10000000, implicitDefEqProofs := false }) only [go_sem, Bool.false_eq_true, Nat.reduceAdd, Nat.reduceBEq, Nat.reduceLT, Nat.reduceMul, Nat.reduceSub, Nat.reduceLeDiff, Nat.reduceEqDiff, and_self, if_true, if_false, reduceIte, h1, h2, h3, hnl, hnl', get_nth h2, get_nth h3, e1, Bool.not_false] at hX
      rw [drwEnd_ok (by kernel_rfl)] at hX
      subst hX
      refine ⟨_, _, _, rfl, Or.inl ⟨rfl, ?_, ?_⟩⟩
      · simp (config := { maxSteps := 10000000, implicitDefEqProofs := false }) only [go_sem, Bool.false_eq_true, Nat.reduceAdd, Nat.reduceBEq, Nat.reduceLT, Nat.reduceMul, Nat.reduceSub, Nat.reduceLeDiff, Nat.reduceEqDiff, and_self, if_true, if_false, reduceIte]
      · rw [List.cons_beq_cons, e1, Bool.false_and]
theorem c23 (Y : List Ctx) (nl c nl' c' : Bool) (l l' : List Int) (hn : l.length ≤ 1000000) (hn' : l'.length ≤ 1000000) (hnl : NilOk nl l.length) (hnl' : NilOk nl' l'.length) :
    K4.call 23 [.f (mkSl nl (ints l) l.length c), .f (mkSl nl' (ints l') l'.length c')] [] Y = some ((.f (.bool (l == l'))), [], Y) := by
  cases e : ((l.length : Int) == (l'.length : Int)) with
  | false =>
    have : (l == l') = false := by
      rw [beq_eq_false_iff_ne]; intro h; subst h; simp at e
    rw [this]
    rw [call_run (E := E4) (fn := Tryz.f23) fnF23 rfl rfl (by simp) (by simp [Tryz.f23])]
    simp (config := { maxSteps := 10000000, implicitDefEqProofs := false }) only [go_sem, Bool.false_eq_true, Nat.reduceAdd, Nat.reduceBEq, Nat.reduceLT, Nat.reduceMul, Nat.reduceSub, Nat.reduceLeDiff, Nat.reduceEqDiff, and_self, if_true, if_false, reduceIte, Tryz.f23, hnl, hnl', e, Bool.not_false]
  | true =>
    have hh : l'.length = l.length := by have := eq_of_beq e; omega
    rw [hh] at hnl' ⊢
    obtain ⟨T, D, ee, h, h'⟩ := loop23 _ rfl Y nl c nl' c' l l' l.length hn rfl hh hnl hnl' l.length 0 (by omega)
    simp only [lp, loopIn, Tryz.f23, Option.bind_some, Option.getD_some, Nat.reduceBEq, Bool.false_eq_true, if_true, if_false, zero_cast] at h
    simp only [List.drop_zero] at h'
    rcases h' with ⟨rfl, h4, h5⟩ | ⟨rfl, h5⟩
    · rw [h5]
      rw [call_run (E := E4) (fn := Tryz.f23) fnF23 rfl rfl (by simp) (by simp [Tryz.f23])]
      simp (config := { maxSteps := 10000000, implicitDefEqProofs := false }) only [go_sem, Bool.false_eq_true, Nat.reduceAdd, Nat.reduceBEq, Nat.reduceLT, Nat.reduceMul, Nat.reduceSub, Nat.reduceLeDiff, Nat.reduceEqDiff, and_self, if_true, if_false, reduceIte, Tryz.f23, hnl, hnl', Bool.not_true, h, h4]
    · rw [h5]
      rw [call_run (E := E4) (fn := Tryz.f23) fnF23 rfl rfl (by simp) (by simp [Tryz.f23])]
      simp (config := { maxSteps := 10000000, implicitDefEqProofs := false }) only [go_sem, Bool.false_eq_true, Nat.reduceAdd, Nat.reduceBEq, Nat.reduceLT, Nat.reduceMul, Nat.reduceSub, Nat.reduceLeDiff, Nat.reduceEqDiff, and_self, if_true, if_false, reduceIte, Tryz.f23, hnl, hnl', Bool.not_true, h]
theorem neq66 {σ : Nat → AObj} {a b c d a' b' c' d' : Int} : binA Tryz.prog σ .neq 66 (.agg [(.f (.int .i64 (a))), (.f (.int .i64 (b))), (.f (.int .i64 (c))), (.f (.int .i64 (d)))]) (.agg [(.f (.int .i64 (a'))), (.f (.int .i64 (b'))), (.f (.int .i64 (c'))), (.f (.int .i64 (d')))]) = some ((.f (.bool (!((a == a') && ((b == b') && (((c == c') && ((d == d') && true)) && true))))))) := nr (by kernel_rfl)
theorem loop15 (b : Code) (hb : b = lp Tryz.f15 0) (Y : List Ctx) (n1 c1 n2 c2 : Bool) (cl : List Cl) (rk : List Int) (hn1 : NilOk n1 cl.length) (hn2 : NilOk n2 rk.length) (hc : cl.length ≤ 1000000) (d : Nat) : ∀ k, k + d = cl.length →
    ∃ T D, loopH K4 E4 15 0 b ⟨[(2, .ptr 0 0), (3, .ptr 1 0), (5, (.f (.int .i64 (k))))], [.box [.f (.sl (cls cl) cl.length false), .f (.sl (ints rk) rk.length false)], .box [.f (mkSl n1 (cls cl) cl.length c1), .f (mkSl n2 (ints rk) rk.length c2)]], 0⟩ Y = some (.exit 0, ⟨T, D, 0⟩, Y) := by
  induction d with
  | zero =>
    intro k hk
    simp only [lp, loopIn, Tryz.f15, Option.bind_some, Option.getD_some, Nat.reduceBEq, Bool.false_eq_true, if_true, if_false] at hb
    generalize hX : loopH _ _ _ _ _ _ _ = X; unfold loopH at hX; conv at hX => (lhs; arg 5; rw [hb])
    have h1 : ¬ k < cl.length := by omega
    simp (config := { maxSteps := 10000000, implicitDefEqProofs := false }) only [go_sem, Bool.false_eq_true, Nat.reduceAdd, Nat.reduceBEq, Nat.reduceLT, Nat.reduceMul, Nat.reduceSub, Nat.reduceLeDiff, Nat.reduceEqDiff, and_self, if_true, if_false, reduceIte, hn1, h1] at hX
    subst hX
    exact ⟨_, _, rfl⟩
  | succ d ih =>
    intro k hk
    simp only [lp, loopIn, Tryz.f15, Option.bind_some, Option.getD_some, Nat.reduceBEq, Bool.false_eq_true, if_true, if_false] at hb
    generalize hX : loopH _ _ _ _ _ _ _ = X; unfold loopH at hX; conv at hX => (lhs; arg 5; rw [hb])
    have h1 : k < cl.length := by omega
    obtain ⟨T, D, h⟩ := ih (k + 1) (by omega)
    simp (config := { maxSteps := 10000000, implicitDefEqProofs := false }) only [go_sem, Bool.false_eq_true, Nat.reduceAdd, Nat.reduceBEq, Nat.reduceLT, Nat.reduceMul, Nat.reduceSub, Nat.reduceLeDiff, Nat.reduceEqDiff, and_self, if_true, if_false, reduceIte, hn1, hn2, h1, neq66, beq_self_eq_true, Bool.and_self, Bool.not_true, wrap_succ (show k ≤ 1000000000 by omega), h] at hX
    rw [drwEnd_ok (by kernel_rfl)] at hX
    subst hX
    exact ⟨T, D, rfl⟩
theorem c15 (Y : List Ctx) (n1 c1 n2 c2 : Bool) (cl : List Cl) (rk : List Int) (hn1 : NilOk n1 cl.length) (hn2 : NilOk n2 rk.length) (hc : cl.length ≤ 1000000) (hm : rk.length ≤ 1000000) :
    K4.call 15 [.agg [.f (.sl (cls cl) cl.length false), .f (.sl (ints rk) rk.length false)], (.agg [.f (mkSl n1 (cls cl) cl.length c1), .f (mkSl n2 (ints rk) rk.length c2)])] [] Y = some ((.f (.bool (true))), [], Y) := by
  have h23 := fun Y => c23 Y false false n2 c2 rk rk hm hm (fun h => by cases h) hn2
  simp only [mkSl_f, beq_self_eq_true] at h23
  obtain ⟨T, D, h⟩ := loop15 _ rfl Y n1 c1 n2 c2 cl rk hn1 hn2 hc cl.length 0 (by omega)
  simp only [lp, loopIn, Tryz.f15, Option.bind_some, Option.getD_some, Nat.reduceBEq, Bool.false_eq_true, if_true, if_false, zero_cast] at h
  rw [call_run (E := E4) (fn := Tryz.f15) fnF15 rfl rfl (by simp) (by simp [Tryz.f15])]
  simp (config := { maxSteps := 10000000, implicitDefEqProofs := false }) only [go_sem, Bool.false_eq_true, Nat.reduceAdd, Nat.reduceBEq, Nat.reduceLT, Nat.reduceMul, Nat.reduceSub, Nat.reduceLeDiff, Nat.reduceEqDiff, and_self, if_true, if_false, reduceIte, Tryz.f15, hn1, hn2, h23, beq_self_eq_true, Bool.not_true, h]
end Go.AM

namespace Go.AM
open Go.Proofs
set_option maxHeartbeats 0
set_option maxRecDepth 100000
set_option linter.unusedSimpArgs false
set_option linter.unusedVariables false
theorem longer_longer {cl : List Cl} {j : Nat} (hj : j < cl.length) (a b : Int) : longer (longer cl j a) j b = longer cl j (a + b) := by
  simp only [longer, cAt_set hj, if_true, List.set_set, Int.add_assoc]
theorem longer_zero {cl : List Cl} {j : Nat} (hj : j < cl.length) : longer cl j 0 = cl := by
  simp only [longer, Int.add_zero]
  show cl.set j (cAt cl j) = cl
  rw [← cAt_eq hj, List.set_getElem_self]
theorem longer_vd {cl : List Cl} {rk : List Int} {j : Nat} {b : Int} (hj : j < cl.length) (hv : VD cl rk) : VD (longer cl j b) rk := by
  refine ⟨by rw [longer_len]; exact hv.n, hv.m, hv.m0, fun k hk => ?_, fun k hk => ?_, hv.r⟩
  · rw [longer_len] at hk
    rw [longer, cAt_set hj]
    split
    · exact hv.w j hj
    · exact hv.w k hk
  · rw [longer_len] at hk
    rw [longer, cAt_set hj]
    split
    · exact hv.c j hj
    · exact hv.c k hk
theorem ordGo_all {cl : List Cl} {rk : List Int} {P : Int → Prop} : ∀ (l : List Nat) (out : List Int), (∀ x ∈ out, P x) → (∀ a ∈ l, P (a : Int)) → ∀ x ∈ ordGo cl rk l out, P x
  | [], _, h, _ => h
  | a :: r, out, h, h2 => ordGo_all r _ (by
      intro x hx
      rcases List.mem_or_eq_of_mem_set hx with h' | h'
      · exact h x h'
      · rw [h']; exact h2 a List.mem_cons_self) (fun a ha => h2 a (List.mem_cons_of_mem _ ha))
theorem ordR_mem {cl : List Cl} {rk : List Int} : ∀ x ∈ ordR cl rk, ∃ k, k < cl.length ∧ x = ((k : Nat) : Int) :=
  ordGo_all _ _ (fun x hx => by
    have h := List.mem_replicate.1 hx
    exact ⟨0, by omega, h.2⟩) (fun a ha => ⟨a, by simpa using ha, rfl⟩)
/-- hour by hour -/
def slk (p : Nat → Bool) : Nat → Nat → Nat
  | 0, n => n
  | d + 1, n => if p n = true then n else slk p d (n + 1)
theorem loop20 (b : Code) (hb : b = lp Tryz.f20 0) (Y : List Ctx) (cl : List Cl) (rk : List Int) (hv : VD cl rk) (hs : SD cl) (hs2 : ∀ k, k < cl.length → (cAt cl k).hi ≤ 20) (j : Nat) (hj : j < cl.length) (st : Nat) (hst : 0 < st ∧ st ≤ 12) (lim : Int) (d : Nat) : ∀ n, n + d = 500 →
    ∃ T D e, loopH K4 E4 20 0 b ⟨[(1, (.f (.int .i64 (st)))), (2, (.f (.int .i64 (lim)))), (3, (.f (.int .i64 (j)))), (9, (.f (.int .i64 (n)))), (10, .ptr 0 0)], [.box [.sl 1 0 cl.length 4 false, .sl 2 0 rk.length 1 false], .arr (cls (longer cl j n)) false false, .arr (ints rk) false false], 0⟩ Y = some (e, ⟨T, D, 0⟩, Y) ∧
      ((e = .ret ∧ getT T 8 = (.f (.int .i64 ((slk (fun n => lateR (longer cl j ((n + 1 : Nat) : Int)) (ordR (longer cl j ((n + 1 : Nat) : Int)) rk) st lim) d n : Nat))))) ∨
       (e = .exit 0 ∧ getT T 9 = (.f (.int .i64 ((slk (fun n => lateR (longer cl j ((n + 1 : Nat) : Int)) (ordR (longer cl j ((n + 1 : Nat) : Int)) rk) st lim) d n : Nat)))))) := by
  have hN := hv.n
  have hM := hv.m
  induction d with
  | zero =>
    intro n hn
    simp only [lp, loopIn, Tryz.f20, Option.bind_some, Option.getD_some, Nat.reduceBEq, Bool.false_eq_true, if_true, if_false] at hb
    generalize hX : loopH _ _ _ _ _ _ _ = X; unfold loopH at hX; conv at hX => (lhs; arg 5; rw [hb])
    have h1 : decide ((n : Int) < 500) = false := by simp; omega
    simp (config := { maxSteps := 10000000, implicitDefEqProofs := false }) only [go_sem, Bool.false_eq_true, Nat.reduceAdd, Nat.reduceBEq, Nat.reduceLT, Nat.reduceMul, Nat.reduceSub, Nat.reduceLeDiff, Nat.reduceEqDiff, and_self, if_true, if_false, reduceIte, h1] at hX
    subst hX
    refine ⟨_, _, _, rfl, Or.inr ⟨rfl, ?_⟩⟩
    simp (config := { maxSteps := 10000000, implicitDefEqProofs := false }) only [go_sem, Bool.false_eq_true, Nat.reduceAdd, Nat.reduceBEq, Nat.reduceLT, Nat.reduceMul, Nat.reduceSub, Nat.reduceLeDiff, Nat.reduceEqDiff, and_self, if_true, if_false, reduceIte, slk]
  | succ d ih =>
    intro n hn
    simp only [lp, loopIn, Tryz.f20, Option.bind_some, Option.getD_some, Nat.reduceBEq, Bool.false_eq_true, if_true, if_false] at hb
    generalize hX : loopH _ _ _ _ _ _ _ = X; unfold loopH at hX; conv at hX => (lhs; arg 5; rw [hb])
    have h1 : decide ((n : Int) < 500) = true := by simp; omega
    have h20 := hs2 j hj
    have h0 := hs.hi j hj
    have hjl : j < (longer cl j (n : Int)).length := by rw [longer_len]; exact hj
    have hhi : (cAt (longer cl j (n : Int)) j).hi = (cAt cl j).hi + n := by rw [longer, cAt_set hj, if_pos rfl]
    have hw : IntKind.i64.wrap ((cAt (longer cl j (n : Int)) j).hi + 1) = (cAt (longer cl j (n : Int)) j).hi + 1 := IntWalk.i64_in _ (by omega)
    have hset : (longer cl j (n : Int)).set j { cAt (longer cl j (n : Int)) j with hi := (cAt (longer cl j (n : Int)) j).hi + 1 } = longer cl j ((n + 1 : Nat) : Int) := by
      have := longer_longer hj (n : Int) 1
      rw [show ((n + 1 : Nat) : Int) = (n : Int) + 1 by omega, ← this]
      rfl
    have hv' := longer_vd (b := ((n + 1 : Nat) : Int)) hj hv
    have hs' := longer_sd (b := ((n + 1 : Nat) : Int)) hj hs (by omega)
    have h19 := c19 [] false false false false (longer cl j ((n + 1 : Nat) : Int)) rk hv' (fun h => by cases h) (fun h => by cases h)
    have hom : ∀ x ∈ ordR (longer cl j ((n + 1 : Nat) : Int)) rk, ∃ k, k < (longer cl j ((n + 1 : Nat) : Int)).length ∧ x = ((k : Nat) : Int) := ordR_mem
    have h18 := c18 [] false false false false (longer cl j ((n + 1 : Nat) : Int)) rk (fun h => by cases h) (fun h => by cases h) false false (ordR (longer cl j ((n + 1 : Nat) : Int)) rk) hom cl.length (by omega) (by rw [ordR_len, longer_len]) (fun h => by cases h) hs'.hi hs'.c (by rw [longer_len]; omega) st (by omega) lim
    simp only [mkSl_f, longer_len] at h18 h19
    rw [slk]
    cases e : lateR (longer cl j ((n + 1 : Nat) : Int)) (ordR (longer cl j ((n + 1 : Nat) : Int)) rk) st lim with
    | true =>
      rw [e] at h18
      simp (config := { maxSteps := 10000000, implicitDefEqProofs := false }) only [go_sem, Bool.false_eq_true, Nat.reduceAdd, Nat.reduceBEq, Nat.reduceLT, Nat.reduceMul, Nat.reduceSub, Nat.reduceLeDiff, Nat.reduceEqDiff, and_self, if_true, if_false, reduceIte, h1, hj, hjl, hw, stO_cls hjl, hset, cutS_cls (longer_len cl j ((n + 1 : Nat) : Int)), cutS_ints (show rk.length = rk.length from rfl), h19, h18, cutS_ints (show (ordR (longer cl j ((n + 1 : Nat) : Int)) rk).length = cl.length by rw [ordR_len, longer_len])] at hX
      rw [drwEnd_ok (by kernel_rfl)] at hX
      subst hX
      refine ⟨_, _, _, rfl, Or.inl ⟨rfl, ?_⟩⟩
      simp (config := { maxSteps := 10000000, implicitDefEqProofs := false }) only [go_sem, Bool.false_eq_true, Nat.reduceAdd, Nat.reduceBEq, Nat.reduceLT, Nat.reduceMul, Nat.reduceSub, Nat.reduceLeDiff, Nat.reduceEqDiff, and_self, if_true, if_false, reduceIte]
    | false =>
      rw [e] at h18
      obtain ⟨T, D, ee, h, h'⟩ := ih (n + 1) (by omega)
      simp (config := { maxSteps := 10000000, implicitDefEqProofs := false }) only [go_sem, Bool.false_eq_true, Nat.reduceAdd, Nat.reduceBEq, Nat.reduceLT, Nat.reduceMul, Nat.reduceSub, Nat.reduceLeDiff, Nat.reduceEqDiff, and_self, if_true, if_false, reduceIte, h1, hj, hjl, hw, stO_cls hjl, hset, cutS_cls (longer_len cl j ((n + 1 : Nat) : Int)), cutS_ints (show rk.length = rk.length from rfl), h19, h18, cutS_ints (show (ordR (longer cl j ((n + 1 : Nat) : Int)) rk).length = cl.length by rw [ordR_len, longer_len]), wrap_succ (show n ≤ 1000000000 by omega), h] at hX
      rw [drwEnd_ok (by kernel_rfl)] at hX
      subst hX
      refine ⟨T, D, ee, rfl, ?_⟩
      simpa using h'
/-- the slack, as the reference finds it -/
def slackQ (cl : List Cl) (rk : List Int) (st : Nat) (lim : Int) (j : Nat) : Nat := slk (fun n => lateR (longer cl j ((n + 1 : Nat) : Int)) (ordR (longer cl j ((n + 1 : Nat) : Int)) rk) st lim) 500 0
theorem c20 (Y : List Ctx) (n1 c1 n2 c2 : Bool) (cl : List Cl) (rk : List Int) (hn1 : NilOk n1 cl.length) (hn2 : NilOk n2 rk.length) (hv : VD cl rk) (hs : SD cl) (hs2 : ∀ k, k < cl.length → (cAt cl k).hi ≤ 20) (j : Nat) (hj : j < cl.length) (st : Nat) (hst : 0 < st ∧ st ≤ 12) (lim : Int) :
    K4.call 20 [(.agg [.f (mkSl n1 (cls cl) cl.length c1), .f (mkSl n2 (ints rk) rk.length c2)]), (.f (.int .i64 (st))), (.f (.int .i64 (lim))), (.f (.int .i64 (j)))] [] Y = some ((.f (.int .i64 (slackQ cl rk st lim j))), [], Y) := by
  have hN := hv.n
  have hM := hv.m
  obtain ⟨T, D, e, h, h'⟩ := loop20 _ rfl Y cl rk hv hs hs2 j hj st hst lim 500 0 (by omega)
  simp only [lp, loopIn, Tryz.f20, Option.bind_some, Option.getD_some, Nat.reduceBEq, Bool.false_eq_true, if_true, if_false, zero_cast, longer_zero hj] at h
  have h13 := fun Y => c13 Y n1 c1 n2 c2 cl rk hn1 hn2 (by omega) (by omega)
  rcases h' with ⟨rfl, h8⟩ | ⟨rfl, h9⟩
  · rw [call_run (E := E4) (fn := Tryz.f20) fnF20 rfl rfl (by simp) (by simp [Tryz.f20])]
    simp (config := { maxSteps := 10000000, implicitDefEqProofs := false }) only [go_sem, Bool.false_eq_true, Nat.reduceAdd, Nat.reduceBEq, Nat.reduceLT, Nat.reduceMul, Nat.reduceSub, Nat.reduceLeDiff, Nat.reduceEqDiff, and_self, if_true, if_false, reduceIte, Tryz.f20, h13, h, h8, slackQ]
  · rw [call_run (E := E4) (fn := Tryz.f20) fnF20 rfl rfl (by simp) (by simp [Tryz.f20])]
    simp (config := { maxSteps := 10000000, implicitDefEqProofs := false }) only [go_sem, Bool.false_eq_true, Nat.reduceAdd, Nat.reduceBEq, Nat.reduceLT, Nat.reduceMul, Nat.reduceSub, Nat.reduceLeDiff, Nat.reduceEqDiff, and_self, if_true, if_false, reduceIte, Tryz.f20, h13, h, h9, slackQ]
def longB (cl : List Cl) (rk : List Int) : Bool := decide ((cl.length : Int) > 20) || decide ((rk.length : Int) > 10)
theorem c11 (Y : List Ctx) (n1 c1 n2 c2 : Bool) (cl : List Cl) (rk : List Int) (hn1 : NilOk n1 cl.length) (hn2 : NilOk n2 rk.length) : K4.call 11 [(.agg [.f (mkSl n1 (cls cl) cl.length c1), .f (mkSl n2 (ints rk) rk.length c2)])] [] Y = some ((.f (.bool (longB cl rk))), [], Y) := by
  rw [call_run (E := E4) (fn := Tryz.f11) fnF11 rfl rfl (by simp) (by simp [Tryz.f11])]
  unfold longB
  cases e : decide ((cl.length : Int) > 20) with
  | true => simp (config := { maxSteps := 10000000, implicitDefEqProofs := false }) only [go_sem, Bool.false_eq_true, Nat.reduceAdd, Nat.reduceBEq, Nat.reduceLT, Nat.reduceMul, Nat.reduceSub, Nat.reduceLeDiff, Nat.reduceEqDiff, and_self, if_true, if_false, reduceIte, Tryz.f11, hn1, hn2, e, Bool.true_or]
  | false => simp (config := { maxSteps := 10000000, implicitDefEqProofs := false }) only [go_sem, Bool.false_eq_true, Nat.reduceAdd, Nat.reduceBEq, Nat.reduceLT, Nat.reduceMul, Nat.reduceSub, Nat.reduceLeDiff, Nat.reduceEqDiff, and_self, if_true, if_false, reduceIte, Tryz.f11, hn1, hn2, e, Bool.false_or]
end Go.AM

namespace Go.AM
open Go.Proofs
set_option maxHeartbeats 0
set_option maxRecDepth 100000
set_option linter.unusedSimpArgs false
set_option linter.unusedVariables false
/-- what is to be shown of numbers and lists -/
structure PureS (cl : List Cl) (rk : List Int) (st lim : Int) : Prop where
  o : opn cl rk st lim = opnR cl rk st lim
  v : opn cl rk st lim = 0 → VD cl rk ∧ SD cl ∧ (∀ k, k < cl.length → (cAt cl k).hi ≤ 20) ∧ ∃ s : Nat, st = (s : Int) ∧ 0 < s ∧ s ≤ 12
  l : ∀ s : Nat, st = (s : Int) → opn cl rk st lim = 0 → lateB cl (ord cl rk) s lim = lateR cl (ordR cl rk) s lim
  s : ∀ s : Nat, st = (s : Int) → opn cl rk st lim = 0 → ∀ j, j < cl.length → lateB cl (ord cl rk) s lim = false → slackR cl rk s lim j = slackQ cl rk s lim j
theorem c3 (n1 c1 n2 c2 : Bool) (cl : List Cl) (rk : List Int) (hn1 : NilOk n1 cl.length) (hn2 : NilOk n2 rk.length) (st lim cloth : Int) (hp : longB cl rk = false → PureS cl rk st lim) (h12 : K4.call 12 [] [] [] = some ((.f (.bool (true))), [], [])) :
    K4.call 3 [(.agg [.f (mkSl n1 (cls cl) cl.length c1), .f (mkSl n2 (ints rk) rk.length c2)]), (.f (.int .i64 (st))), .agg [(.f (.int .i64 (lim))), (.f (.int .i64 (cloth)))]] [] [] = some ((.f (.bool (true))), [], []) := by
  have h11 := fun Y => c11 Y n1 c1 n2 c2 cl rk hn1 hn2
  rw [call_run (E := E4) (fn := Tryz.f3) fnF3 rfl rfl (by simp) (by simp [Tryz.f3])]
  cases e : longB cl rk with
  | true =>
    rw [e] at h11
    simp (config := { maxSteps := 10000000, implicitDefEqProofs := false }) only [go_sem, Bool.false_eq_true, Nat.reduceAdd, Nat.reduceBEq, Nat.reduceLT, Nat.reduceMul, Nat.reduceSub, Nat.reduceLeDiff, Nat.reduceEqDiff, and_self, if_true, if_false, reduceIte, Tryz.f3, h11, h12]
  | false =>
    rw [e] at h11
    have hs : cl.length ≤ 20 ∧ rk.length ≤ 10 := by simp [longB] at e; omega
    have hP := hp e
    have h13 := fun Y => c13 Y n1 c1 n2 c2 cl rk hn1 hn2 (by omega) (by omega)
    have h15 := fun Y => c15 Y n1 c1 n2 c2 cl rk hn1 hn2 (by omega) (by omega)
    have h16 := fun Y => c16 Y n1 c1 n2 c2 cl rk (by omega) (by omega) hn1 hn2 st lim
    have hw := wrap_len1 (show cl.length ≤ 1000000000 by omega)
    rw [← hP.o] at h16
    have i2 : (0 : Int) ≤ 0 ∧ (0 : Int) < ((2 : Nat) : Int) := by omega
    have i3 : (0 : Int) ≤ 1 ∧ (1 : Int) < ((2 : Nat) : Int) := by omega
    cases e0 : (opn cl rk st lim == 0) with
    | false =>
      have h14 := c14_err [] false false false false cl rk (by omega) (by omega) (fun h => by cases h) (fun h => by cases h) st lim cloth e0
      simp only [mkSl_f] at h14
      simp (config := { maxSteps := 10000000, implicitDefEqProofs := false }) only [go_sem, Bool.false_eq_true, Nat.reduceAdd, Nat.reduceBEq, Nat.reduceLT, Nat.reduceMul, Nat.reduceSub, Nat.reduceLeDiff, Nat.reduceEqDiff, and_self, if_true, if_false, reduceIte, Tryz.f3, h11, h13, i2, i3, iaA_o i2, iaA_o i3, Int.toNat_zero, Int.toNat_one, cutS_cls (show cl.length = cl.length from rfl), cutS_ints (show rk.length = rk.length from rfl), h15, h16, Bool.not_true, Bool.not_false, h14, e0, h12, beq_self_eq_true]
      rw [drwEnd_ok (by kernel_rfl)]
      simp (config := { maxSteps := 10000000, implicitDefEqProofs := false }) only [go_sem, Bool.false_eq_true, Nat.reduceAdd, Nat.reduceBEq, Nat.reduceLT, Nat.reduceMul, Nat.reduceSub, Nat.reduceLeDiff, Nat.reduceEqDiff, and_self, if_true, if_false, reduceIte]
    | true =>
      have e0' : opn cl rk st lim = 0 := by simpa using e0
      rw [e0'] at h16
      obtain ⟨hv, hsd, h20, s, rfl, hs0, hs5⟩ := hP.v e0'
      cases e1 : inI 0 ((cl.length : Int) - 1) cloth with
      | false =>
        have h14 := c14_none [] false false false false cl rk (by omega) (by omega) (fun h => by cases h) (fun h => by cases h) s lim cloth e0' e1
        simp only [mkSl_f] at h14
        simp (config := { maxSteps := 10000000, implicitDefEqProofs := false }) only [go_sem, Bool.false_eq_true, Nat.reduceAdd, Nat.reduceBEq, Nat.reduceLT, Nat.reduceMul, Nat.reduceSub, Nat.reduceLeDiff, Nat.reduceEqDiff, and_self, if_true, if_false, reduceIte, Tryz.f3, h11, h13, i2, i3, iaA_o i2, iaA_o i3, Int.toNat_zero, Int.toNat_one, cutS_cls (show cl.length = cl.length from rfl), cutS_ints (show rk.length = rk.length from rfl), h15, h16, Bool.not_true, Bool.not_false, h14, c17, hn1, hw, e1, h12, beq_self_eq_true, show ((7 : Int) == 0) = false from rfl]
        rw [drwEnd_ok (by kernel_rfl)]
        simp (config := { maxSteps := 10000000, implicitDefEqProofs := false }) only [go_sem, Bool.false_eq_true, Nat.reduceAdd, Nat.reduceBEq, Nat.reduceLT, Nat.reduceMul, Nat.reduceSub, Nat.reduceLeDiff, Nat.reduceEqDiff, and_self, if_true, if_false, reduceIte]
      | true =>
        obtain ⟨j, rfl, hj⟩ : ∃ j : Nat, cloth = (j : Int) ∧ j < cl.length := by
          simp [inI] at e1
          exact ⟨cloth.toNat, by omega, by omega⟩
        have h19 := fun Y => c19 Y n1 c1 n2 c2 cl rk hv hn1 hn2
        have h18 := c18 [] n1 c1 n2 c2 cl rk hn1 hn2 false false (ordR cl rk) ordR_mem cl.length (by omega) (ordR_len cl rk) (fun h => by cases h) hsd.hi hsd.c (by omega) s (by omega) lim
        have h14 := c14_ok [] false false false false cl rk hv hsd h20 (fun h => by cases h) (fun h => by cases h) s ⟨hs0, hs5⟩ lim e0' j hj
        simp only [mkSl_f] at h14 h18
        rw [← hP.l s rfl e0'] at h18
        cases e2 : lateB cl (ord cl rk) s lim with
        | true =>
          rw [e2] at h14 h18
          rw [if_pos rfl] at h14
          simp (config := { maxSteps := 10000000, implicitDefEqProofs := false }) only [go_sem, Bool.false_eq_true, Nat.reduceAdd, Nat.reduceBEq, Nat.reduceLT, Nat.reduceMul, Nat.reduceSub, Nat.reduceLeDiff, Nat.reduceEqDiff, and_self, if_true, if_false, reduceIte, Tryz.f3, h11, h13, i2, i3, iaA_o i2, iaA_o i3, Int.toNat_zero, Int.toNat_one, cutS_cls (show cl.length = cl.length from rfl), cutS_ints (show rk.length = rk.length from rfl), h15, h16, Bool.not_true, Bool.not_false, h14, c17, hn1, hw, e1, h19, h18, cutS_ints (ordR_len cl rk), h12, beq_self_eq_true, show ((9 : Int) == 0) = false from rfl]
          rw [drwEnd_ok (by kernel_rfl)]
          simp (config := { maxSteps := 10000000, implicitDefEqProofs := false }) only [go_sem, Bool.false_eq_true, Nat.reduceAdd, Nat.reduceBEq, Nat.reduceLT, Nat.reduceMul, Nat.reduceSub, Nat.reduceLeDiff, Nat.reduceEqDiff, and_self, if_true, if_false, reduceIte]
        | false =>
          rw [e2] at h14 h18
          rw [if_neg (by simp)] at h14
          have h20' := fun Y => c20 Y n1 c1 n2 c2 cl rk hn1 hn2 hv hsd h20 j hj s ⟨hs0, hs5⟩ lim
          rw [← hP.s s rfl e0' j hj e2] at h20'
          simp (config := { maxSteps := 10000000, implicitDefEqProofs := false }) only [go_sem, Bool.false_eq_true, Nat.reduceAdd, Nat.reduceBEq, Nat.reduceLT, Nat.reduceMul, Nat.reduceSub, Nat.reduceLeDiff, Nat.reduceEqDiff, and_self, if_true, if_false, reduceIte, Tryz.f3, h11, h13, i2, i3, iaA_o i2, iaA_o i3, Int.toNat_zero, Int.toNat_one, cutS_cls (show cl.length = cl.length from rfl), cutS_ints (show rk.length = rk.length from rfl), h15, h16, Bool.not_true, Bool.not_false, h14, c17, hn1, hw, e1, h19, h18, cutS_ints (ordR_len cl rk), h20', h12, beq_self_eq_true]
          rw [drwEnd_ok (by kernel_rfl)]
          simp (config := { maxSteps := 10000000, implicitDefEqProofs := false }) only [go_sem, Bool.false_eq_true, Nat.reduceAdd, Nat.reduceBEq, Nat.reduceLT, Nat.reduceMul, Nat.reduceSub, Nat.reduceLeDiff, Nat.reduceEqDiff, and_self, if_true, if_false, reduceIte]
end Go.AM
