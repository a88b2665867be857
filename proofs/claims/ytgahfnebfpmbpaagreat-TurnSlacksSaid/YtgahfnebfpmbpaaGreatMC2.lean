/-
Walks, 2.
-/
import Derived.Test.YtgahfnebfpmbpaaGreatMC1
set_option linter.unusedVariables false
set_option linter.unusedSimpArgs false
namespace Go.AM
open Go.Proofs
set_option maxHeartbeats 0
set_option maxRecDepth 100000
set_option linter.unusedSimpArgs false
set_option linter.unusedVariables false
/-- a valid day -/
structure VD (cl : List Cl) (rk : List Int) : Prop where
  n : cl.length ≤ 10
  m : rk.length ≤ 6
  m0 : 0 < rk.length
  w : ∀ k, k < cl.length → 0 ≤ (cAt cl k).w ∧ (cAt cl k).w < rk.length
  c : ∀ k, k < cl.length → 0 ≤ (cAt cl k).c ∧ (cAt cl k).c ≤ 200
  r : ∀ j, j < rk.length → 0 ≤ nth rk j ∧ nth rk j < rk.length
theorem cutS_4 {a b c d : FV} : cutS [a, b, c, d] 0 4 = [a, b, c, d] := rfl
theorem earl_le (cl : List Cl) (k : Nat) : earl cl k ≤ k := by
  unfold earl
  refine Nat.le_trans (List.countP_le_length) ?_
  simp; omega
def rkAt (cl : List Cl) (rk : List Int) (k : Nat) : Int := nth rk (cAt cl k).w.toNat
def cmpC (cl : List Cl) (rk : List Int) (a b : Nat) : Int :=
  orI [(cAt cl a).c - (cAt cl b).c, (earl cl a : Int) - (earl cl b : Int), rkAt cl rk a - rkAt cl rk b, (a : Int) - (b : Int)]
theorem c66 (Y : List Ctx) (n1 c1 n2 c2 : Bool) (cl : List Cl) (rk : List Int) (hv : VD cl rk) (hn1 : NilOk n1 cl.length) (hn2 : NilOk n2 rk.length) (a b : Nat) (ha : a < cl.length) (hb : b < cl.length) :
    K4.call 66 [(.agg [.f (mkSl n1 (cls cl) cl.length c1), .f (mkSl n2 (ints rk) rk.length c2)]), (.f (.int .i64 (a))), (.f (.int .i64 (b)))] [] Y = some ((.f (.int .i64 (cmpC cl rk a b))), [], Y) := by
  have hn := hv.n
  have hm := hv.m
  have h94 := fun Y k hk => c94 Y n1 c1 n2 c2 cl rk (by omega) hn1 hn2 k hk
  have h93 := fun Y a b c d => c93 Y false false [a, b, c, d] 4 (by omega) rfl (fun h => by cases h)
  simp only [mkSl_f, ints, List.map_cons, List.map_nil] at h93
  have wa := hv.w a ha
  have wb := hv.w b hb
  have ca := hv.c a ha
  have cb := hv.c b hb
  have ia : (cAt cl a).w.toNat < rk.length := by omega
  have ib : (cAt cl b).w.toNat < rk.length := by omega
  have ra := hv.r _ ia
  have rb := hv.r _ ib
  have ea := earl_le cl a
  have eb := earl_le cl b
  have w1 : IntKind.i64.wrap ((cAt cl a).c - (cAt cl b).c) = (cAt cl a).c - (cAt cl b).c := IntWalk.i64_in _ (by omega)
  have w2 : IntKind.i64.wrap ((earl cl a : Int) - (earl cl b : Int)) = (earl cl a : Int) - (earl cl b : Int) := IntWalk.i64_in _ (by omega)
  have w3 : IntKind.i64.wrap (nth rk (cAt cl a).w.toNat - nth rk (cAt cl b).w.toNat) = nth rk (cAt cl a).w.toNat - nth rk (cAt cl b).w.toNat := IntWalk.i64_in _ (by omega)
  have w4 : IntKind.i64.wrap ((a : Int) - (b : Int)) = (a : Int) - (b : Int) := IntWalk.i64_in _ (by omega)
  rw [call_run (E := E4) (fn := Tryz.f66) fnF66 rfl rfl (by simp) (by simp [Tryz.f66])]
  simp (config := { maxSteps := 10000000, implicitDefEqProofs := false }) only [go_sem, Bool.false_eq_true, Nat.reduceAdd, Nat.reduceBEq, Nat.reduceLT, Nat.reduceMul, Nat.reduceSub, Nat.reduceLeDiff, Nat.reduceEqDiff, and_self, if_true, if_false, reduceIte, Tryz.f66, hn1, hn2, ha, hb, h94, h93, wa, wb, ia, ib, get_nth ia, get_nth ib, w1, w2, w3, w4, cutS_4]
  rw [drwEnd_ok (by kernel_rfl)]
  simp (config := { maxSteps := 10000000, implicitDefEqProofs := false }) only [go_sem, Bool.false_eq_true, Nat.reduceAdd, Nat.reduceBEq, Nat.reduceLT, Nat.reduceMul, Nat.reduceSub, Nat.reduceLeDiff, Nat.reduceEqDiff, and_self, if_true, if_false, reduceIte, cmpC, rkAt]

theorem loop47 (b : Code) (hb : b = lp Tryz.f47 0) (Y : List Ctx) (v1 v2 : FV) (n : Nat) (hn : n ≤ 1000000) (d : Nat) : ∀ (k : Nat) (nl : Bool), k + d = n →
   ∃ T, loopH K4 E4 47 0 b ⟨[(1, .ptr 0 0), (2, .sl 1 0 k 1 false), (7, (.f (.int .i64 (n)))), (8, (.f (.int .i64 (k))))], [.box [.f v1, .f v2], .arr (ints (iota k)) false nl], 0⟩ Y = 
    some (.exit 0, ⟨T, [.box [.f v1, .f v2], .arr (ints (iota n)) false (nl && d == 0)], 0⟩, Y) ∧ getT T 1 = .ptr 0 0 ∧ getT T 2 = .sl 1 0 n 1 false := by
  induction d with
  | zero =>
    intro k nl hk
    obtain rfl : k = n := by omega
    simp only [lp, loopIn, Tryz.f47, Option.bind_some, Option.getD_some, Nat.reduceBEq, Bool.false_eq_true, if_true, if_false] at hb
    generalize hX : loopH _ _ _ _ _ _ _ = X; unfold loopH at hX; conv at hX => (lhs; arg 5; rw [hb])
    have h1 : ¬ k < k := by omega
    simp (config := { maxSteps := 10000000, implicitDefEqProofs := false }) only [go_sem, Bool.false_eq_true, Nat.reduceAdd, Nat.reduceBEq, Nat.reduceLT, Nat.reduceMul, Nat.reduceSub, Nat.reduceLeDiff, Nat.reduceEqDiff, and_self, if_true, if_false, reduceIte, h1] at hX
    subst hX
    rw [show (nl && 0 == 0) = nl by simp]
    refine ⟨_, rfl, ?_⟩
    simp (config := { maxSteps := 10000000, implicitDefEqProofs := false }) only [go_sem, Bool.false_eq_true, Nat.reduceAdd, Nat.reduceBEq, Nat.reduceLT, Nat.reduceMul, Nat.reduceSub, Nat.reduceLeDiff, Nat.reduceEqDiff, and_self, if_true, if_false, reduceIte]
  | succ d ih =>
    intro k nl hk
    simp only [lp, loopIn, Tryz.f47, Option.bind_some, Option.getD_some, Nat.reduceBEq, Bool.false_eq_true, if_true, if_false] at hb
    generalize hX : loopH _ _ _ _ _ _ _ = X; unfold loopH at hX; conv at hX => (lhs; arg 5; rw [hb])
    have h1 : k < n := by omega
    obtain ⟨T, h, h'⟩ := ih (k + 1) false (by omega)
    simp (config := { maxSteps := 10000000, implicitDefEqProofs := false }) only [go_sem, Bool.false_eq_true, Nat.reduceAdd, Nat.reduceBEq, Nat.reduceLT, Nat.reduceMul, Nat.reduceSub, Nat.reduceLeDiff, Nat.reduceEqDiff, and_self, if_true, if_false, reduceIte, h1, iota_len, show k ≤ 16777215 by omega, wrap_succ (show k ≤ 1000000000 by omega), iota_succ, h] at hX
    subst hX
    rw [show (nl && d + 1 == 0) = false by simp, Bool.false_and]
    exact ⟨T, rfl, h'⟩
def cmpI (cl : List Cl) (rk : List Int) (x y : Int) : Int := cmpC cl rk x.toNat y.toNat
/-- the custom's order, as the program makes it -/
def ord (cl : List Cl) (rk : List Int) : List Int := isort (fun x y => decide (cmpI cl rk x y < 0)) (iota cl.length)
theorem iota_mem {n : Nat} {x : Int} (h : x ∈ iota n) : ∃ k, k < n ∧ x = (k : Int) := by
  simp only [iota, List.mem_map, List.mem_range] at h
  obtain ⟨k, h1, h2⟩ := h
  exact ⟨k, h1, h2.symm⟩
theorem c47 (Y : List Ctx) (n1 c1 n2 c2 : Bool) (cl : List Cl) (rk : List Int) (hv : VD cl rk) (hn1 : NilOk n1 cl.length) (hn2 : NilOk n2 rk.length) :
    K4.call 47 [(.agg [.f (mkSl n1 (cls cl) cl.length c1), .f (mkSl n2 (ints rk) rk.length c2)])] [] Y = some (.sl 0 0 cl.length 1 false, [.arr (ints (ord cl rk)) false (cl.length == 0)], Y) := by
  have hn := hv.n
  obtain ⟨T, h, h1, h2⟩ := loop47 _ rfl Y (mkSl n1 (cls cl) cl.length c1) (mkSl n2 (ints rk) rk.length c2) cl.length (by omega) cl.length 0 true (by omega)
  simp only [lp, loopIn, Tryz.f47, Option.bind_some, Option.getD_some, Nat.reduceBEq, Bool.false_eq_true, if_true, if_false, zero_cast, Bool.true_and, show ints (iota 0) = [] from rfl] at h
  have h74 := fun Y => c74 Y (mkSl n1 (cls cl) cl.length c1) (mkSl n2 (ints rk) rk.length c2) (cmpI cl rk) (fun x => ∃ k, k < cl.length ∧ x = (k : Int)) (by
    rintro x y ⟨a, ha, rfl⟩ ⟨b, hb, rfl⟩ Y
    exact c66 Y n1 c1 n2 c2 cl rk hv hn1 hn2 a b ha hb) cl.length (by omega) false (cl.length == 0) (iota cl.length) (fun x hx => iota_mem hx) (iota_len _)
  rw [call_run (E := E4) (fn := Tryz.f47) fnF47 rfl rfl (by simp) (by simp [Tryz.f47])]
  simp (config := { maxSteps := 10000000, implicitDefEqProofs := false }) only [go_sem, Bool.false_eq_true, Nat.reduceAdd, Nat.reduceBEq, Nat.reduceLT, Nat.reduceMul, Nat.reduceSub, Nat.reduceLeDiff, Nat.reduceEqDiff, and_self, if_true, if_false, reduceIte, Tryz.f47, hn1, hn2, h, h1, h2, h74, ord]
  trace_state
end Go.AM

namespace Go.AM
open Go.Proofs
set_option maxHeartbeats 0
set_option maxRecDepth 100000
set_option linter.unusedSimpArgs false
set_option linter.unusedVariables false
theorem c59 (Y : List Ctx) (lo hi : Int) : K4.call 59 [.agg [(.f (.int .i64 (lo))), (.f (.int .i64 (hi)))]] [] Y = some ((.f (.int .i64 (hi))), [], Y) := by
  rw [call_run (E := E4) (fn := Tryz.f59) fnF59 rfl rfl (by simp) (by simp [Tryz.f59])]
  simp (config := { maxSteps := 10000000, implicitDefEqProofs := false }) only [go_sem, Bool.false_eq_true, Nat.reduceAdd, Nat.reduceBEq, Nat.reduceLT, Nat.reduceMul, Nat.reduceSub, Nat.reduceLeDiff, Nat.reduceEqDiff, and_self, if_true, if_false, reduceIte, Tryz.f59]
theorem c58 (Y : List Ctx) (lo hi : Int) : K4.call 58 [.agg [(.f (.int .i64 (lo))), (.f (.int .i64 (hi)))]] [] Y = some ((.f (.int .i64 (lo))), [], Y) := by
  rw [call_run (E := E4) (fn := Tryz.f58) fnF58 rfl rfl (by simp) (by simp [Tryz.f58])]
  simp (config := { maxSteps := 10000000, implicitDefEqProofs := false }) only [go_sem, Bool.false_eq_true, Nat.reduceAdd, Nat.reduceBEq, Nat.reduceLT, Nat.reduceMul, Nat.reduceSub, Nat.reduceLeDiff, Nat.reduceEqDiff, and_self, if_true, if_false, reduceIte, Tryz.f58]
/-- the turns: cloth, taken, done -/
def trn (stay : Cl → Int) (cl : List Cl) : List Int → List Int → List (Int × Int × Int)
  | [], _ => []
  | k :: r, free =>
    let taken := max (cAt cl k.toNat).c (nth free 0)
    (k, taken, taken + stay (cAt cl k.toNat)) :: trn stay cl r (isort ltI (free.set 0 (taken + stay (cAt cl k.toNat))))
def tv (q : Int × Int × Int) : List FV := [.agg [.int .i64 q.1, .int .i64 q.2.1, .int .i64 q.2.2]]
theorem sinkm {lt : Int → Int → Bool} {P : Int → Prop} : ∀ d i (l : List Int), i + d ≤ l.length → (∀ x ∈ l, P x) → ∀ x ∈ isortGo lt d i l, P x
  | 0, _, _, _, h => h
  | d + 1, i, l, hl, h => by
    simp only [isortGo]
    exact sinkm d (i + 1) _ (by rw [sink_len]; omega) (fun x hx => h x (sink_mem i l (by omega) x hx))
theorem isort_all {lt : Int → Int → Bool} {P : Int → Prop} {l : List Int} (h : ∀ x ∈ l, P x) : ∀ x ∈ isort lt l, P x := by
  cases l with
  | nil => exact fun x hx => h x hx
  | cons a l => exact sinkm _ _ _ (by simp; omega) h
theorem all_set {P : Int → Prop} {l : List Int} {i : Nat} {v : Int} (h : ∀ x ∈ l, P x) (hv : P v) : ∀ x ∈ l.set i v, P x := by
  intro x hx
  rcases List.mem_or_eq_of_mem_set hx with h' | h'
  · exact h x h'
  · rw [h']; exact hv
theorem nth_cast {l : List Int} {k : Nat} {cl : List Cl} (h : ∀ x ∈ l, ∃ j, j < cl.length ∧ x = ((j : Nat) : Int)) (hk : k < l.length) : ∃ j, j < cl.length ∧ nth l k = ((j : Nat) : Int) := h _ (nth_mem hk)

theorem loop84 (b : Code) (hb : b = lp Tryz.f84 0) (lvl : Nat) (n1 c1 n2 c2 : Bool) (cl : List Cl) (rk : List Int) (hn1 : NilOk n1 cl.length) (hn2 : NilOk n2 rk.length) (gh : FuncId) (sel : Int → Int → Int) (hgh : ∀ lo hi Y, K4.call gh [.agg [(.f (.int .i64 (lo))), (.f (.int .i64 (hi)))]] [] Y = some ((.f (.int .i64 (sel lo hi))), [], Y))
    (hc : ∀ k, k < cl.length → (cAt cl k).c ≤ 200 ∧ 0 ≤ (cAt cl k).c) (hs : ∀ k, k < cl.length → 0 ≤ sel (cAt cl k).lo (cAt cl k).hi ∧ sel (cAt cl k).lo (cAt cl k).hi ≤ 1000)
    (nl c : Bool) (l : List Int) (hl : ∀ x ∈ l, ∃ j, j < cl.length ∧ x = ((j : Nat) : Int)) (n : Nat) (hn : n ≤ 1000) (hln : l.length = n) (hnl : NilOk nl n) (st : Nat) (hst : 0 < st ∧ st ≤ 12) (d : Nat) :
    ∀ k (free : List Int), k + d = n → free.length = st → (∀ x ∈ free, 0 ≤ x ∧ x ≤ 1000 + 1000 * (k : Int)) → ∀ Y t Y',
    yieldsV K4 lvl ((trn (fun x => sel x.lo x.hi) cl (l.drop k) free).map tv) Y = some (t, Y') →
    ∃ T D e, loopH K4 E4 84 0 b ⟨[(0, .yld lvl), (3, (.f (.ptr [mkSl n1 (cls cl) cl.length c1, mkSl n2 (ints rk) rk.length c2] 0))), (4, .f (.ptr [.fn gh [] []] 0)), (6, .sl 0 0 st 1 false), (13, .f (mkSl nl (ints l) n c)), (14, (.f (.int .i64 (n)))), (15, (.f (.int .i64 (k))))], [.arr (ints free) true false], 0⟩ Y = some (e, ⟨T, D, 0⟩, Y') ∧ (e = .ret ∨ e = .exit 0) := by
  induction d with
  | zero =>
    intro k free hk hf hfb Y t Y' hy
    simp only [lp, loopIn, Tryz.f84, Option.bind_some, Option.getD_some, Nat.reduceBEq, Bool.false_eq_true, if_true, if_false] at hb
    generalize hX : loopH _ _ _ _ _ _ _ = X; unfold loopH at hX; conv at hX => (lhs; arg 5; rw [hb])
    have h1 : ¬ k < n := by omega
    simp (config := { maxSteps := 10000000, implicitDefEqProofs := false }) only [go_sem, Bool.false_eq_true, Nat.reduceAdd, Nat.reduceBEq, Nat.reduceLT, Nat.reduceMul, Nat.reduceSub, Nat.reduceLeDiff, Nat.reduceEqDiff, and_self, if_true, if_false, reduceIte, h1] at hX
    subst hX
    rw [List.drop_eq_nil_of_le (by omega)] at hy
    cases hy
    exact ⟨_, _, _, rfl, Or.inr rfl⟩
  | succ d ih =>
    intro k free hk hf hfb Y t Y' hy'
    simp only [lp, loopIn, Tryz.f84, Option.bind_some, Option.getD_some, Nat.reduceBEq, Bool.false_eq_true, if_true, if_false] at hb
    generalize hX : loopH _ _ _ _ _ _ _ = X; unfold loopH at hX; conv at hX => (lhs; arg 5; rw [hb])
    have h1 : k < n := by omega
    have h2 : k < l.length := by omega
    obtain ⟨j, hj, ej⟩ := nth_cast hl h2
    have h3 : 0 < free.length := by omega
    have h4 : 0 < st := hst.1
    have b0 := hfb _ (nth_mem h3)
    have b1 := hc j hj
    have b2 := hs j hj
    have hw : IntKind.i64.wrap (max (cAt cl j).c (nth free 0) + sel (cAt cl j).lo (cAt cl j).hi) = max (cAt cl j).c (nth free 0) + sel (cAt cl j).lo (cAt cl j).hi := IntWalk.i64_in _ (by omega)
    have h85 := fun Y v => c85 Y st hst.2 true false (free.set 0 v) (by simpa using hf)
    have h4i : (0 : Int) < (st : Int) := by omega
    have hy2 : trn (fun x => sel x.lo x.hi) cl (l.drop k) free = ((j : Int), max (cAt cl j).c (nth free 0), max (cAt cl j).c (nth free 0) + sel (cAt cl j).lo (cAt cl j).hi) :: trn (fun x => sel x.lo x.hi) cl (l.drop (k + 1)) (isort ltI (free.set 0 (max (cAt cl j).c (nth free 0) + sel (cAt cl j).lo (cAt cl j).hi))) := by
      rw [drop_nth h2, ej]; rfl
    simp (config := { maxSteps := 10000000, implicitDefEqProofs := false }) only [go_sem, Bool.false_eq_true, Nat.reduceAdd, Nat.reduceBEq, Nat.reduceLT, Nat.reduceMul, Nat.reduceSub, Nat.reduceLeDiff, Nat.reduceEqDiff, and_self, if_true, if_false, reduceIte, h1, h2, h3, h4, h4i, Int.le_refl, Int.toNat_zero, hnl, hn1, hn2, get_nth h2, get_nth h3, ej, hj, hgh, hw, h85] at hX
    rw [drwEnd_ok (by kernel_rfl)] at hX
    rw [hy2, List.map_cons, yieldsV_cons] at hy'
    simp only [tv] at hy'
    cases hy : yieldV K4 lvl [FV.agg [.int .i64 (j : Int), .int .i64 (max (cAt cl j).c (nth free 0)), .int .i64 (max (cAt cl j).c (nth free 0) + sel (cAt cl j).lo (cAt cl j).hi)]] Y with
    | none => rw [hy] at hy'; cases hy'
    | some q =>
      obtain ⟨t1, Y1⟩ := q
      rw [hy] at hy'
      cases t1 with
      | false =>
        simp (config := { maxSteps := 10000000, implicitDefEqProofs := false }) only [go_sem, Bool.false_eq_true, Nat.reduceAdd, Nat.reduceBEq, Nat.reduceLT, Nat.reduceMul, Nat.reduceSub, Nat.reduceLeDiff, Nat.reduceEqDiff, and_self, if_true, if_false, reduceIte, hy] at hX
        subst hX
        cases hy'
        exact ⟨_, _, _, rfl, Or.inl rfl⟩
      | true =>
        obtain ⟨T, D, e, h, h'⟩ := ih (k + 1) (isort ltI (free.set 0 (max (cAt cl j).c (nth free 0) + sel (cAt cl j).lo (cAt cl j).hi))) (by omega) (by rw [isort_len]; simpa using hf)
          (isort_all (all_set (fun x hx => by have := hfb x hx; omega) (by omega))) Y1 t Y' hy'
        simp (config := { maxSteps := 10000000, implicitDefEqProofs := false }) only [go_sem, Bool.false_eq_true, Nat.reduceAdd, Nat.reduceBEq, Nat.reduceLT, Nat.reduceMul, Nat.reduceSub, Nat.reduceLeDiff, Nat.reduceEqDiff, and_self, if_true, if_false, reduceIte, hy, wrap_succ (show k ≤ 1000000000 by omega), h] at hX
        subst hX
        exact ⟨T, D, e, rfl, h'⟩

theorem rep_ints (n : Nat) : (List.replicate n [FV.int .i64 0]).flatten = ints (List.replicate n 0) := by
  induction n with
  | zero => rfl
  | succ n ih => rw [List.replicate_succ, List.flatten_cons, ih, List.replicate_succ]; rfl
theorem g84 (n1 c1 n2 c2 : Bool) (cl : List Cl) (rk : List Int) (hn1 : NilOk n1 cl.length) (hn2 : NilOk n2 rk.length) (gh : FuncId) (sel : Int → Int → Int) (hgh : ∀ lo hi Y, K4.call gh [.agg [(.f (.int .i64 (lo))), (.f (.int .i64 (hi)))]] [] Y = some ((.f (.int .i64 (sel lo hi))), [], Y))
    (hc : ∀ k, k < cl.length → (cAt cl k).c ≤ 200 ∧ 0 ≤ (cAt cl k).c) (hs : ∀ k, k < cl.length → 0 ≤ sel (cAt cl k).lo (cAt cl k).hi ∧ sel (cAt cl k).lo (cAt cl k).hi ≤ 1000)
    (nl c : Bool) (l : List Int) (hl : ∀ x ∈ l, ∃ j, j < cl.length ∧ x = ((j : Nat) : Int)) (n : Nat) (hn : n ≤ 1000) (hln : l.length = n) (hnl : NilOk nl n) (st : Nat) (hst : 0 < st ∧ st ≤ 12) :
    Gen K4 84 [] [.ptr [.int .i64 st] 0, .ptr [mkSl nl (ints l) n c] 0, .ptr [mkSl n1 (cls cl) cl.length c1, mkSl n2 (ints rk) rk.length c2] 0, .ptr [.fn gh [] []] 0]
      ((trn (fun x => sel x.lo x.hi) cl l (List.replicate st 0)).map tv) := by
  intro lvl Y t Y' hy
  obtain ⟨T, D, e, he, h⟩ := loop84 _ rfl lvl n1 c1 n2 c2 cl rk hn1 hn2 gh sel hgh hc hs nl c l hl n hn hln hnl st hst n 0 (List.replicate st 0) (by omega) (by simp) (fun x hx => by
    have := (List.mem_replicate.1 hx).2; omega) Y t Y' hy
  simp only [List.map_nil, List.nil_append, List.map_cons, ofFV_ptr]
  simp only [lp, loopIn, Tryz.f84, Option.bind_some, Option.getD_some, Nat.reduceBEq, Bool.false_eq_true, if_true, if_false, zero_cast] at he
  have hs1 : (0 : Int) ≤ (st : Int) ∧ (st : Int) ≤ 65536 := by omega
  rw [call_run (E := E4) (fn := Tryz.f84) fnF84 rfl rfl (by simp) (by simp [Tryz.f84])]
  rcases h with rfl | rfl
  · simp (config := { maxSteps := 10000000, implicitDefEqProofs := false }) only [go_sem, Bool.false_eq_true, Nat.reduceAdd, Nat.reduceBEq, Nat.reduceLT, Nat.reduceMul, Nat.reduceSub, Nat.reduceLeDiff, Nat.reduceEqDiff, and_self, if_true, if_false, reduceIte, Tryz.f84, hnl, hs1, rep_ints, he]
  · simp (config := { maxSteps := 10000000, implicitDefEqProofs := false }) only [go_sem, Bool.false_eq_true, Nat.reduceAdd, Nat.reduceBEq, Nat.reduceLT, Nat.reduceMul, Nat.reduceSub, Nat.reduceLeDiff, Nat.reduceEqDiff, and_self, if_true, if_false, reduceIte, Tryz.f84, hnl, hs1, rep_ints, he]

theorem c57 (Y : List Ctx) (n1 c1 n2 c2 : Bool) (cl : List Cl) (rk : List Int) (o : FV) (st : Int) (gh : FuncId) :
    K4.call 57 [(.agg [.f (mkSl n1 (cls cl) cl.length c1), .f (mkSl n2 (ints rk) rk.length c2)]), .f o, (.f (.int .i64 (st))), .f (.fn gh [] [])] [] Y = some (.f (.fn 84 [] [.ptr [.int .i64 st] 0, .ptr [o] 0, .ptr [mkSl n1 (cls cl) cl.length c1, mkSl n2 (ints rk) rk.length c2] 0, .ptr [.fn gh [] []] 0]), [], Y) := by
  rw [call_run (E := E4) (fn := Tryz.f57) fnF57 rfl rfl (by simp) (by simp [Tryz.f57])]
  simp (config := { maxSteps := 10000000, implicitDefEqProofs := false }) only [go_sem, Bool.false_eq_true, Nat.reduceAdd, Nat.reduceBEq, Nat.reduceLT, Nat.reduceMul, Nat.reduceSub, Nat.reduceLeDiff, Nat.reduceEqDiff, and_self, if_true, if_false, reduceIte, Tryz.f57]
theorem c60 (Y : List Ctx) (n1 c1 n2 c2 : Bool) (cl : List Cl) (rk : List Int) (o : FV) (st : Int) :
    K4.call 60 [(.agg [.f (mkSl n1 (cls cl) cl.length c1), .f (mkSl n2 (ints rk) rk.length c2)]), .f o, (.f (.int .i64 (st)))] [] Y = some (.f (.fn 86 [] [.ptr [mkSl n1 (cls cl) cl.length c1, mkSl n2 (ints rk) rk.length c2] 0, .ptr [o] 0, .ptr [.int .i64 st] 0]), [], Y) := by
  rw [call_run (E := E4) (fn := Tryz.f60) fnF60 rfl rfl (by simp) (by simp [Tryz.f60])]
  simp (config := { maxSteps := 10000000, implicitDefEqProofs := false }) only [go_sem, Bool.false_eq_true, Nat.reduceAdd, Nat.reduceBEq, Nat.reduceLT, Nat.reduceMul, Nat.reduceSub, Nat.reduceLeDiff, Nat.reduceEqDiff, and_self, if_true, if_false, reduceIte, Tryz.f60]
end Go.AM

namespace Go.AM
open Go.Proofs
set_option maxHeartbeats 0
set_option maxRecDepth 100000
set_option linter.unusedSimpArgs false
set_option linter.unusedVariables false
/-- the wait that is told of a turn -/
def wv (cl : List Cl) (q : Int × Int × Int) : List FV := [.int .i64 q.1, .int .i64 (q.2.1 - (cAt cl q.1.toNat).c)]
def TOk (cl : List Cl) (q : Int × Int × Int) : Prop := ∃ j, j < cl.length ∧ q.1 = ((j : Nat) : Int) ∧ 0 ≤ q.2.1 ∧ q.2.1 ≤ 1000000000
theorem rng86 (a b : Code) (hab : rp Tryz.f86 0 = (a, b)) (lvl : Nat) (n1 c1 n2 c2 : Bool) (cl : List Cl) (rk : List Int) (hn1 : NilOk n1 cl.length) (hn2 : NilOk n2 rk.length) (hc : ∀ k, k < cl.length → (cAt cl k).c ≤ 200 ∧ 0 ≤ (cAt cl k).c) (T : Tmps) (hT1 : getT T 1 = (.f (.ptr [mkSl n1 (cls cl) cl.length c1, mkSl n2 (ints rk) rk.length c2] 0))) (hT4 : getT T 4 = .ptr 0 0) :
    ∀ (seq : List (Int × Int × Int)), (∀ q ∈ seq, TOk cl q) → ∀ Y t Y', yieldsV K4 lvl (seq.map (wv cl)) Y = some (t, Y') →
    rngGo K4 86 [10] a b 1 T (seq.map tv) [.box [.yld lvl]] Y = some (bif t then none else some .ret, [.box [.yld lvl]], Y') := by
  simp only [rp, rngIn, Tryz.f86, Option.bind_some, Option.getD_some, Nat.reduceBEq, Bool.false_eq_true, if_true, if_false, zero_cast, Prod.mk.injEq] at hab
  obtain ⟨ha, hb⟩ := hab
  intro seq
  induction seq with
  | nil =>
    intro _ Y t Y' hy
    cases hy
    rfl
  | cons q r ih =>
    intro hq Y t Y' hy'
    obtain ⟨q1, q2, q3⟩ := q
    obtain ⟨j, hj, ej, b1, b2⟩ := hq _ List.mem_cons_self
    simp only at ej b1 b2
    subst ej
    have bc := hc j hj
    have hw : IntKind.i64.wrap (q2 - (cAt cl j).c) = q2 - (cAt cl j).c := IntWalk.i64_in _ (by omega)
    rw [List.map_cons, yieldsV_cons] at hy'
    simp only [wv, toNat_cast] at hy'
    generalize hX : rngGo _ _ _ _ _ _ _ _ _ _ = X
    simp only [List.map_cons, tv] at hX
    rw [← ha, ← hb] at hX
    cases hy : yieldV K4 lvl [FV.int .i64 (j : Int), .int .i64 (q2 - (cAt cl j).c)] Y with
    | none => rw [hy] at hy'; cases hy'
    | some qq =>
      obtain ⟨t1, Y1⟩ := qq
      rw [hy] at hy'
      have hlen := yieldV_len hy
      cases t1 with
      | false =>
        simp (config := { maxSteps := 10000000, implicitDefEqProofs := false }) only [go_sem, Bool.false_eq_true, Nat.reduceAdd, Nat.reduceBEq, Nat.reduceLT, Nat.reduceMul, Nat.reduceSub, Nat.reduceLeDiff, Nat.reduceEqDiff, and_self, if_true, if_false, reduceIte, hT1, hT4, hn1, hn2, hj, hw, hy, hlen] at hX
        rw [drwR_ok (by kernel_rfl)] at hX
        subst hX
        cases hy'
        rfl
      | true =>
        have hi := ih (fun q h => hq q (List.mem_cons_of_mem _ h)) Y1 t Y' hy'
        rw [← ha, ← hb] at hi
        simp (config := { maxSteps := 10000000, implicitDefEqProofs := false }) only [go_sem, Bool.false_eq_true, Nat.reduceAdd, Nat.reduceBEq, Nat.reduceLT, Nat.reduceMul, Nat.reduceSub, Nat.reduceLeDiff, Nat.reduceEqDiff, and_self, if_true, if_false, reduceIte, hT1, hT4, hn1, hn2, hj, hw, hy, hlen] at hX
        rw [drwR_ok (by kernel_rfl)] at hX
        subst hX
        exact hi
theorem g86 (n1 c1 n2 c2 : Bool) (cl : List Cl) (rk : List Int) (hn1 : NilOk n1 cl.length) (hn2 : NilOk n2 rk.length) (hc : ∀ k, k < cl.length → (cAt cl k).c ≤ 200 ∧ 0 ≤ (cAt cl k).c) (hs : ∀ k, k < cl.length → 0 ≤ (cAt cl k).hi ∧ (cAt cl k).hi ≤ 1000)
    (nl c : Bool) (l : List Int) (hl : ∀ x ∈ l, ∃ j, j < cl.length ∧ x = ((j : Nat) : Int)) (n : Nat) (hn : n ≤ 1000) (hln : l.length = n) (hnl : NilOk nl n) (st : Nat) (hst : 0 < st ∧ st ≤ 12)
    (ht : ∀ q ∈ trn (fun x => x.hi) cl l (List.replicate st 0), TOk cl q) :
    Gen K4 86 [] [.ptr [mkSl n1 (cls cl) cl.length c1, mkSl n2 (ints rk) rk.length c2] 0, .ptr [mkSl nl (ints l) n c] 0, .ptr [.int .i64 st] 0]
      ((trn (fun x => x.hi) cl l (List.replicate st 0)).map (wv cl)) := by
  intro lvl Y t Y' hy
  have hg := g84 n1 c1 n2 c2 cl rk hn1 hn2 59 (fun _ hi => hi) (fun lo hi Y => c59 Y lo hi) hc hs nl c l hl n hn hln hnl st hst
  have hr : ∀ (a b : Code), rp Tryz.f86 0 = (a, b) → ∀ (T : Tmps), getT T 1 = (.f (.ptr [mkSl n1 (cls cl) cl.length c1, mkSl n2 (ints rk) rk.length c2] 0)) → getT T 4 = .ptr 0 0 → ∀ p,
      rangeA K4 86 (.f (.fn 84 [] [.ptr [.int .i64 st] 0, .ptr [mkSl nl (ints l) n c] 0, .ptr [mkSl n1 (cls cl) cl.length c1, mkSl n2 (ints rk) rk.length c2] 0, .ptr [.fn 59 [] []] 0])) #[10] a b ⟨T, [.box [.yld lvl]], p⟩ Y =
        some ((bif t then none else some .ret : Option AExit).getD .norm, ⟨T, [.box [.yld lvl]], p⟩, Y') := fun a b hab T h1 h4 p =>
    rangeA_gen (σ1 := [.box [.yld lvl]]) rfl hg (Nat.le_of_ble_eq_true rfl) (rng86 a b hab lvl n1 c1 n2 c2 cl rk hn1 hn2 hc T h1 h4 _ ht Y t Y' hy)
  simp only [List.map_nil, List.nil_append, List.map_cons, ofFV_ptr]
  rw [call_run (E := E4) (fn := Tryz.f86) fnF86 rfl rfl (by simp) (by simp [Tryz.f86])]
  cases t with
  | false => simp (config := { maxSteps := 10000000, implicitDefEqProofs := false }) only [go_sem, Bool.false_eq_true, Nat.reduceAdd, Nat.reduceBEq, Nat.reduceLT, Nat.reduceMul, Nat.reduceSub, Nat.reduceLeDiff, Nat.reduceEqDiff, and_self, if_true, if_false, reduceIte, rp, rngIn, Tryz.f86, Option.bind_some, Option.getD_some, Nat.reduceBEq, Bool.false_eq_true, if_true, if_false, zero_cast, Tryz.f86, hnl, c57, hr]
  | true => simp (config := { maxSteps := 10000000, implicitDefEqProofs := false }) only [go_sem, Bool.false_eq_true, Nat.reduceAdd, Nat.reduceBEq, Nat.reduceLT, Nat.reduceMul, Nat.reduceSub, Nat.reduceLeDiff, Nat.reduceEqDiff, and_self, if_true, if_false, reduceIte, rp, rngIn, Tryz.f86, Option.bind_some, Option.getD_some, Nat.reduceBEq, Bool.false_eq_true, if_true, if_false, zero_cast, Tryz.f86, hnl, c57, hr, Option.getD_none]

def waitOf (cl : List Cl) (q : Int × Int × Int) : Int := q.2.1 - (cAt cl q.1.toNat).c
theorem rng46 (a b : Code) (hab : rp Tryz.f46 0 = (a, b)) (cl : List Cl) (T : Tmps) (hT7 : getT T 7 = .ptr 1 0) (hT8 : getT T 8 = .ptr 2 0) (v : List AV) (hv : AV.refsL v = []) (hv2 : ∀ m, AV.renL m v = v) (lim : Int) :
    ∀ (seq : List (Int × Int × Int)) Y, rngGo K4 46 [15, 16] a b 3 T (seq.map (wv cl)) [.box v, .box [(.f (.int .i64 (lim)))], .box [(.f (.bool (false)))]] Y =
      some (bif seq.any (fun q => decide (waitOf cl q > lim)) then some .ret else none, [.box v, .box [(.f (.int .i64 (lim)))], .box [(.f (.bool (seq.any (fun q => decide (waitOf cl q > lim)))))]], Y) := by
  simp only [rp, rngIn, Tryz.f46, Option.bind_some, Option.getD_some, Nat.reduceBEq, Bool.false_eq_true, if_true, if_false, zero_cast, Prod.mk.injEq] at hab
  obtain ⟨ha, hb⟩ := hab
  intro seq
  induction seq with
  | nil => intro Y; rfl
  | cons q r ih =>
    intro Y
    have hi := ih Y
    generalize hX : rngGo _ _ _ _ _ _ _ _ _ _ = X
    simp only [List.map_cons, wv] at hX
    rw [List.any_cons]
    rw [← ha, ← hb] at hX hi
    have hd : waitOf cl q = q.2.1 - (cAt cl q.1.toNat).c := rfl
    cases h : decide (q.2.1 - (cAt cl q.1.toNat).c > lim) with
    | true =>
      rw [hd, h]
      simp (config := { maxSteps := 10000000, implicitDefEqProofs := false }) only [go_sem, Bool.false_eq_true, Nat.reduceAdd, Nat.reduceBEq, Nat.reduceLT, Nat.reduceMul, Nat.reduceSub, Nat.reduceLeDiff, Nat.reduceEqDiff, and_self, if_true, if_false, reduceIte, hT7, hT8, hv, hv2, h, List.range, List.range.loop] at hX
      subst hX
      rfl
    | false =>
      rw [hd, h]
      simp (config := { maxSteps := 10000000, implicitDefEqProofs := false }) only [go_sem, Bool.false_eq_true, Nat.reduceAdd, Nat.reduceBEq, Nat.reduceLT, Nat.reduceMul, Nat.reduceSub, Nat.reduceLeDiff, Nat.reduceEqDiff, and_self, if_true, if_false, reduceIte, hT7, hT8, hv, hv2, h, List.range, List.range.loop] at hX
      subst hX
      rw [Bool.false_or]
      exact hi
end Go.AM

namespace Go.AM
open Go.Proofs
set_option maxHeartbeats 0
set_option maxRecDepth 100000
set_option linter.unusedSimpArgs false
set_option linter.unusedVariables false
/-- a day in which a cloth may stay longer -/
structure SD (cl : List Cl) : Prop where
  c : ∀ k, k < cl.length → (cAt cl k).c ≤ 200 ∧ 0 ≤ (cAt cl k).c
  hi : ∀ k, k < cl.length → 0 ≤ (cAt cl k).hi ∧ (cAt cl k).hi ≤ 1000
theorem trn_ok {cl : List Cl} (hv : SD cl) : ∀ (l : List Int), (∀ x ∈ l, ∃ j, j < cl.length ∧ x = ((j : Nat) : Int)) → ∀ (free : List Int) (B : Int), 200 ≤ B → B + 1000 * (l.length : Int) ≤ 1000000000 → 0 < free.length →
    (∀ x ∈ free, 0 ≤ x ∧ x ≤ B) → ∀ q ∈ trn (fun x => x.hi) cl l free, TOk cl q
  | [], _, _, _, _, _, _, _, q, hq => by cases hq
  | k :: r, hl, free, B, hB, hle, hf, hfb, q, hq => by
    obtain ⟨j, hj, ej⟩ := hl k List.mem_cons_self
    have b1 := hv.c j hj
    have b2 := hv.hi j hj
    have b3 := hfb _ (nth_mem hf)
    have ek : k.toNat = j := by omega
    simp only [List.length_cons] at hle
    rcases List.mem_cons.1 hq with h | h
    · subst h
      exact ⟨j, hj, ej, by simp only [ek]; omega, by simp only [ek]; omega⟩
    · refine trn_ok hv r (fun x hx => hl x (List.mem_cons_of_mem _ hx)) _ (B + 1000) (by omega) (by omega) (by rw [isort_len]; simpa using hf) ?_ q h
      refine isort_all (all_set (fun x hx => ?_) ?_)
      · have := hfb x hx; omega
      · rw [ek]; show _ ∧ max (cAt cl j).c (nth free 0) + (cAt cl j).hi ≤ _; simp only []; omega
def lateB (cl : List Cl) (l : List Int) (st : Nat) (lim : Int) : Bool := (trn (fun x => x.hi) cl l (List.replicate st 0)).any fun q => decide (waitOf cl q > lim)
theorem c46 (Y : List Ctx) (n1 c1 n2 c2 : Bool) (cl : List Cl) (rk : List Int) (hn1 : NilOk n1 cl.length) (hn2 : NilOk n2 rk.length) (hv : SD cl) (nl c : Bool) (l : List Int) (hl : ∀ x ∈ l, ∃ j, j < cl.length ∧ x = ((j : Nat) : Int)) (n : Nat) (hn : n ≤ 1000) (hln : l.length = n) (hnl : NilOk nl n) (st : Nat) (hst : 0 < st ∧ st ≤ 12) (lim : Int) :
    K4.call 46 [(.agg [.f (mkSl n1 (cls cl) cl.length c1), .f (mkSl n2 (ints rk) rk.length c2)]), .f (mkSl nl (ints l) n c), (.f (.int .i64 (st))), (.f (.int .i64 (lim)))] [] Y = some ((.f (.bool (lateB cl l st lim))), [], Y) := by
  have ht := trn_ok hv l hl (List.replicate st 0) 200 (by omega) (by omega) (by simp; omega) (fun x hx => by have := (List.mem_replicate.1 hx).2; omega)
  have hg := g86 n1 c1 n2 c2 cl rk hn1 hn2 hv.c hv.hi nl c l hl n hn hln hnl st hst ht
  have hr : ∀ (a b : Code), rp Tryz.f46 0 = (a, b) → ∀ (T : Tmps), getT T 7 = .ptr 1 0 → getT T 8 = .ptr 2 0 → ∀ p,
      rangeA K4 46 (.f (.fn 86 [] [.ptr [mkSl n1 (cls cl) cl.length c1, mkSl n2 (ints rk) rk.length c2] 0, .ptr [mkSl nl (ints l) n c] 0, .ptr [.int .i64 st] 0])) #[15, 16] a b ⟨T, [.box [.f (mkSl n1 (cls cl) cl.length c1), .f (mkSl n2 (ints rk) rk.length c2)], .box [(.f (.int .i64 (lim)))], .box [(.f (.bool (false)))]], p⟩ Y =
        some ((bif lateB cl l st lim then some .ret else none : Option AExit).getD .norm, ⟨T, [.box [.f (mkSl n1 (cls cl) cl.length c1), .f (mkSl n2 (ints rk) rk.length c2)], .box [(.f (.int .i64 (lim)))], .box [(.f (.bool (lateB cl l st lim)))]], p⟩, Y) := fun a b hab T h7 h8 p =>
    rangeA_gen (σ1 := [.box [.f (mkSl n1 (cls cl) cl.length c1), .f (mkSl n2 (ints rk) rk.length c2)], .box [(.f (.int .i64 (lim)))], .box [(.f (.bool (false)))]]) rfl hg (Nat.le_of_ble_eq_true rfl) (rng46 a b hab cl T h7 h8 _ rfl (fun _ => by simp only [renL_cons, renL_nil, ren_f]) lim _ Y)
  rw [call_run (E := E4) (fn := Tryz.f46) fnF46 rfl rfl (by simp) (by simp [Tryz.f46])]
  cases h : lateB cl l st lim with
  | true =>
    rw [h] at hr
    simp (config := { maxSteps := 10000000, implicitDefEqProofs := false }) only [go_sem, Bool.false_eq_true, Nat.reduceAdd, Nat.reduceBEq, Nat.reduceLT, Nat.reduceMul, Nat.reduceSub, Nat.reduceLeDiff, Nat.reduceEqDiff, and_self, if_true, if_false, reduceIte, rp, rngIn, Tryz.f46, Option.bind_some, Option.getD_some, Nat.reduceBEq, Bool.false_eq_true, if_true, if_false, zero_cast, Tryz.f46, c60, hr, Option.getD_some]
  | false =>
    rw [h] at hr
    simp (config := { maxSteps := 10000000, implicitDefEqProofs := false }) only [go_sem, Bool.false_eq_true, Nat.reduceAdd, Nat.reduceBEq, Nat.reduceLT, Nat.reduceMul, Nat.reduceSub, Nat.reduceLeDiff, Nat.reduceEqDiff, and_self, if_true, if_false, reduceIte, rp, rngIn, Tryz.f46, Option.bind_some, Option.getD_some, Nat.reduceBEq, Bool.false_eq_true, if_true, if_false, zero_cast, Tryz.f46, c60, hr, Option.getD_none]
end Go.AM

namespace Go.AM
open Go.Proofs
set_option maxHeartbeats 0
set_option maxRecDepth 100000
set_option linter.unusedSimpArgs false
set_option linter.unusedVariables false
theorem bin_shr1 {P : Program} {σ : Nat → AObj} {t : TypeId} {x : Int} : binA P σ .shr t (.f (.int .u64 x)) (.f (.int .u64 1)) = some (.f (.int .u64 (x.fdiv 2))) := rfl
theorem bin_nil {P : Program} {σ : Nat → AObj} {t e : TypeId} {x : AV} (h : P.underlying t = some (.slice e)) : binA P σ .eql t x (.f .nils) = (isNilS σ x).map fun b => .f (.bool b) := by
  unfold binA
  cases x with
  | f v => cases v <;> simp only [h]
  | _ => simp only [h]
def nilV (x : Option Bool) : Option AV := match x with | some b => some (.f (.bool b)) | none => none
theorem nilV_some {b : Bool} : nilV (some b) = some (.f (.bool b)) := rfl
theorem bin_nilV {P : Program} {σ : Nat → AObj} {t e : TypeId} {x : AV} (h : P.underlying t = some (.slice e)) : binA P σ .eql t x (.f .nils) = nilV (isNilS σ x) := by
  rw [bin_nil h]; cases isNilS σ x <;> rfl
theorem eqn22 {σ : Nat → AObj} {x : AV} : binA Tryz.prog σ .eql 22 x (.f .nils) = nilV (isNilS σ x) := bin_nilV (e := 66) (by kernel_rfl)
theorem eqn23 {σ : Nat → AObj} {x : AV} : binA Tryz.prog σ .eql 23 x (.f .nils) = nilV (isNilS σ x) := bin_nilV (e := 3) (by kernel_rfl)
theorem isNil_mk {σ : Nat → AObj} {nl c : Bool} {cs : List FV} {n : Nat} : isNilS σ (.f (mkSl nl cs n c)) = some nl := by cases nl <;> rfl
theorem isNil_nils {σ : Nat → AObj} : isNilS σ (.f .nils) = some true := rfl
def isNilO (x : AObj) : Option Bool := match x with | .arr _ _ isNil => some isNil | .box _ | .frz _ => some false | _ => none
theorem isNil_o {σ : Nat → AObj} {o off len esz : Nat} {c : Bool} : isNilS σ (.sl o off len esz c) = isNilO (σ o) := by
  simp only [isNilS, isNilO]
  cases σ o <;> rfl
theorem isNil_sl {σ : Nat → AObj} {c : Bool} {cs : List FV} {n : Nat} : isNilS σ (.f (.sl cs n c)) = some false := rfl
theorem isNilO_arr {cs : List FV} {ex nl : Bool} : isNilO (.arr cs ex nl) = some nl := rfl
attribute [go_sem] eqn22 eqn23 nilV_some isNil_mk isNil_nils isNil_sl isNil_o isNilO_arr bin_shr1
theorem app_cls0 {b o n : Nat} {l : List Cl} (hl : l.length = n) (hn : 0 < n) (hb : n ≤ 1000000) : appO b o (.arr [] true false) 0 0 4 false 4 (cls l) n = some ⟨.sl b 0 n 4 false, [], [.arr (cls l) false false]⟩ := by
  rw [appO_grow_ex ⟨by omega, by simp, by rw [cls_len, hl], by omega, by omega⟩ hn]; simp
theorem app_ints0 {b o n : Nat} {l : List Int} (hl : l.length = n) (hn : 0 < n) (hb : n ≤ 1000000) : appO b o (.arr [] true false) 0 0 1 false 1 (ints l) n = some ⟨.sl b 0 n 1 false, [], [.arr (ints l) false false]⟩ := by
  rw [appO_grow_ex ⟨by omega, by simp, by rw [ints_len, hl]; omega, by omega, by omega⟩ hn]; simp
theorem comesS_mk {σ : Nat → AObj} {cs : List FV} {n : Nat} {c : Bool} : comesS σ (.f (mkSl false cs n c)) = some (cs, n) := comesS_f
theorem c75 (Y : List Ctx) (c : Bool) (l : List Cl) (n : Nat) (hl : l.length = n) (hn : 0 < n) (hb : n ≤ 1000000) :
    K4.call 75 [.f (.sl (cls l) n c)] [] Y = some (.sl 0 0 n 4 false, [.arr (cls l) false false], Y) := by
  rw [call_run (E := E4) (fn := Tryz.f75) fnF75 rfl rfl (by simp) (by simp [Tryz.f75])]
  simp (config := { maxSteps := 10000000, implicitDefEqProofs := false }) only [go_sem, Bool.false_eq_true, Nat.reduceAdd, Nat.reduceBEq, Nat.reduceLT, Nat.reduceMul, Nat.reduceSub, Nat.reduceLeDiff, Nat.reduceEqDiff, and_self, if_true, if_false, reduceIte, Tryz.f75, comesS_mk, app_cls0 hl hn hb]
theorem cls_set {l : List Cl} {j : Nat} (h : j < l.length) (v : Int) : (cls l).set (j * 4 + 2 + 1) (.int .i64 v) = cls (l.set j { cAt l j with hi := v }) := by
  induction l generalizing j with
  | nil => simp at h
  | cons x l ih =>
    cases j with
    | zero => simp [cls, clV, cAt]
    | succ j =>
      have e : cAt (x :: l) (j + 1) = cAt l j := by simp [cAt]
      rw [List.set_cons_succ, cls_cons, cls_cons, e, ← ih (by simpa using h)]
      rw [show (j + 1) * 4 + 2 + 1 = (clV x).length + (j * 4 + 2 + 1) by simp [clV]; omega, List.set_append_right _ _ (by omega)]
      simp
theorem stO_cls {l : List Cl} {j : Nat} {v : Int} {ex nl : Bool} (h : j < l.length) : stO (.arr (cls l) ex nl) (j * 4 + 2 + 1) [.f (.int .i64 v)] = some (.arr (cls (l.set j { cAt l j with hi := v })) ex nl) := by
  rw [stO_arr1 (by rw [cls_len]; omega), cls_set h]
def longer (cl : List Cl) (j : Nat) (by' : Int) : List Cl := cl.set j { cAt cl j with hi := (cAt cl j).hi + by' }
theorem c50 (Y : List Ctx) (n1 c1 n2 c2 : Bool) (cl : List Cl) (rk : List Int) (hc : cl.length ≤ 1000000) (j : Nat) (hj : j < cl.length) (by' : Int) (hb : -1000000000 ≤ (cAt cl j).hi + by' ∧ (cAt cl j).hi + by' ≤ 1000000000) (hn1 : NilOk n1 cl.length) (hn2 : NilOk n2 rk.length) :
    K4.call 50 [(.agg [.f (mkSl n1 (cls cl) cl.length c1), .f (mkSl n2 (ints rk) rk.length c2)]), (.f (.int .i64 (j))), (.f (.int .i64 (by')))] [] Y = some (.agg [.sl 0 0 cl.length 4 false, .f (mkSl n2 (ints rk) rk.length c2)], [.arr (cls (longer cl j by')) false false], Y) := by
  have hnl : n1 = false := by
    cases n1 with
    | false => rfl
    | true => have := hn1 rfl; omega
  subst hnl
  have hw : IntKind.i64.wrap ((cAt cl j).hi + by') = (cAt cl j).hi + by' := IntWalk.i64_in _ (by omega)
  have h75 := fun Y => c75 Y c1 cl cl.length rfl (by omega) hc
  have e0 : cl.length ≠ 0 := by omega
  rw [call_run (E := E4) (fn := Tryz.f50) fnF50 rfl rfl (by simp) (by simp [Tryz.f50])]
  simp (config := { maxSteps := 10000000, implicitDefEqProofs := false }) only [go_sem, Bool.false_eq_true, Nat.reduceAdd, Nat.reduceBEq, Nat.reduceLT, Nat.reduceMul, Nat.reduceSub, Nat.reduceLeDiff, Nat.reduceEqDiff, and_self, if_true, if_false, reduceIte, Tryz.f50, h75, hj, hw, stO_cls hj, longer]
theorem longer_len (cl : List Cl) (j : Nat) (b : Int) : (longer cl j b).length = cl.length := by simp [longer]
theorem cAt_set {l : List Cl} {j k : Nat} {v : Cl} (hj : j < l.length) : cAt (l.set j v) k = if k = j then v else cAt l k := by
  simp only [cAt, List.getD_eq_getElem?_getD, List.getElem?_set]
  by_cases h : j = k
  · subst h; simp [hj]
  · rw [if_neg h, if_neg (fun e => h e.symm)]
theorem cutS_cls {l : List Cl} {n : Nat} (h : l.length = n) : cutS (cls l) 0 (n * 4) = cls l := cutS_all (by rw [cls_len, h])
theorem ord_len (cl : List Cl) (rk : List Int) : (ord cl rk).length = cl.length := by rw [ord, isort_len, iota_len]
theorem ord_mem {cl : List Cl} {rk : List Int} : ∀ x ∈ ord cl rk, ∃ j, j < cl.length ∧ x = ((j : Nat) : Int) := isort_all (fun x hx => iota_mem hx)
theorem longer_sd {cl : List Cl} {j : Nat} {b : Int} (hj : j < cl.length) (hv : SD cl) (hb : 0 ≤ b ∧ (cAt cl j).hi + b ≤ 1000) : SD (longer cl j b) := by
  constructor
  · intro k hk
    rw [longer_len] at hk
    rw [longer, cAt_set hj]
    split
    · exact hv.c j hj
    · exact hv.c k hk
  · intro k hk
    rw [longer_len] at hk
    rw [longer, cAt_set hj]
    split
    · have := hv.hi j hj
      show 0 ≤ (cAt cl j).hi + b ∧ (cAt cl j).hi + b ≤ 1000
      omega
    · exact hv.hi k hk
theorem c49 (Y : List Ctx) (n1 c1 n2 c2 : Bool) (cl : List Cl) (rk : List Int) (hn1 : NilOk n1 cl.length) (hn2 : NilOk n2 rk.length) (hv : VD cl rk) (hs : SD cl) (hs2 : ∀ k, k < cl.length → (cAt cl k).hi ≤ 20) (j : Nat) (hj : j < cl.length) (st : Nat) (hst : 0 < st ∧ st ≤ 12) (lim : Int) (n : Nat) (hn : n ≤ 600) :
    K4.call 49 [(.f (.int .i64 (n))), (.f (.ptr [mkSl n1 (cls cl) cl.length c1, mkSl n2 (ints rk) rk.length c2] 0)), .f (.ptr [.int .i64 j] 0), .f (.ptr [.int .i64 st] 0), .f (.ptr [.int .i64 lim] 0)] [] Y = some ((.f (.bool (lateB (longer cl j ((n + 1 : Nat) : Int)) (ord cl rk) st lim))), [], Y) := by
  have h20 := hs2 j hj
  have h0 := hs.hi j hj
  have hN := hv.n
  have h50 := fun Y => c50 Y n1 c1 n2 c2 cl rk (by omega) j hj ((n + 1 : Nat) : Int) (by omega) hn1 hn2
  have h47 := fun Y => c47 Y n1 c1 n2 c2 cl rk hv hn1 hn2
  have h46 := c46 [] false false n2 c2 (longer cl j ((n + 1 : Nat) : Int)) rk (fun h => by cases h) hn2 (longer_sd hj hs (by omega)) (cl.length == 0) false (ord cl rk) (by rw [longer_len]; exact ord_mem) cl.length (by omega) (ord_len cl rk) (fun h => by simpa using h) st hst lim
  simp only [mkSl_f, longer_len] at h46
  rw [call_run (E := E4) (fn := Tryz.f49) fnF49 rfl rfl (by simp) (by simp [Tryz.f49])]
  simp (config := { maxSteps := 10000000, implicitDefEqProofs := false }) only [go_sem, Bool.false_eq_true, Nat.reduceAdd, Nat.reduceBEq, Nat.reduceLT, Nat.reduceMul, Nat.reduceSub, Nat.reduceLeDiff, Nat.reduceEqDiff, and_self, if_true, if_false, reduceIte, Tryz.f49, h50, h47, h46, wrap_succ (show n ≤ 1000000000 by omega), cutS_cls (longer_len cl j ((n + 1 : Nat) : Int)), cutS_ints (ord_len cl rk)]
  rw [drwEnd_ok (by kernel_rfl)]
  simp (config := { maxSteps := 10000000, implicitDefEqProofs := false }) only [go_sem, Bool.false_eq_true, Nat.reduceAdd, Nat.reduceBEq, Nat.reduceLT, Nat.reduceMul, Nat.reduceSub, Nat.reduceLeDiff, Nat.reduceEqDiff, and_self, if_true, if_false, reduceIte]
end Go.AM

namespace Go.AM
open Go.Proofs
set_option maxHeartbeats 0
set_option maxRecDepth 100000
set_option linter.unusedSimpArgs false
set_option linter.unusedVariables false
/-- binary search -/
def bs (p : Nat → Bool) : Nat → Nat → Nat → Nat
  | 0, i, _ => i
  | f + 1, i, j => if i < j then (if p ((i + j) / 2) = true then bs p f i ((i + j) / 2) else bs p f ((i + j) / 2 + 1) j) else i
theorem loop48 (b : Code) (hb : b = lp Tryz.f48 0) (Y : List Ctx) (g : FuncId) (x y : List FV) (p : Nat → Bool) (N : Nat) (hN : N ≤ 1000000)
    (hp : ∀ a, a < N → ∀ Y, K4.call g (x.map ofFV ++ [(.f (.int .i64 ((a : Int))))] ++ y.map ofFV) [] Y = some ((.f (.bool (p a))), [], Y)) (f : Nat) : ∀ i j, j - i ≤ f → j ≤ N → i ≤ j →
    ∃ T D, loopH K4 E4 48 0 b ⟨[(1, .f (.fn g x y)), (5, (.f (.int .i64 (i)))), (6, (.f (.int .i64 (j))))], [], 0⟩ Y = some (.exit 0, ⟨T, D, 0⟩, Y) ∧ getT T 5 = (.f (.int .i64 ((bs p f i j : Nat)))) := by
  induction f with
  | zero =>
    intro i j hf hj hij
    simp only [lp, loopIn, Tryz.f48, Option.bind_some, Option.getD_some, Nat.reduceBEq, Bool.false_eq_true, if_true, if_false] at hb
    generalize hX : loopH _ _ _ _ _ _ _ = X; unfold loopH at hX; conv at hX => (lhs; arg 5; rw [hb])
    have h1 : ¬ i < j := by omega
    simp (config := { maxSteps := 10000000, implicitDefEqProofs := false }) only [go_sem, Bool.false_eq_true, Nat.reduceAdd, Nat.reduceBEq, Nat.reduceLT, Nat.reduceMul, Nat.reduceSub, Nat.reduceLeDiff, Nat.reduceEqDiff, and_self, if_true, if_false, reduceIte, h1] at hX
    subst hX
    refine ⟨_, _, rfl, ?_⟩
    simp (config := { maxSteps := 10000000, implicitDefEqProofs := false }) only [go_sem, Bool.false_eq_true, Nat.reduceAdd, Nat.reduceBEq, Nat.reduceLT, Nat.reduceMul, Nat.reduceSub, Nat.reduceLeDiff, Nat.reduceEqDiff, and_self, if_true, if_false, reduceIte, bs]
  | succ f ih =>
    intro i j hf hj hij
    by_cases h1 : i < j
    · have w1 : IntKind.i64.wrap ((i : Int) + (j : Int)) = ((i + j : Nat) : Int) := by rw [IntWalk.i64_in _ (by omega)]; omega
      have w2 : IntKind.u64.wrap ((i + j : Nat) : Int) = ((i + j : Nat) : Int) := wrap_u (by omega)
      have w3 : ((i + j : Nat) : Int).fdiv 2 = (((i + j) / 2 : Nat) : Int) := by
        rw [Int.fdiv_eq_ediv_of_nonneg _ (by omega)]; omega
      have w4 : IntKind.i64.wrap (((i + j) / 2 : Nat) : Int) = (((i + j) / 2 : Nat) : Int) := IntWalk.i64_in _ (by omega)
      simp only [lp, loopIn, Tryz.f48, Option.bind_some, Option.getD_some, Nat.reduceBEq, Bool.false_eq_true, if_true, if_false] at hb
      generalize hX : loopH _ _ _ _ _ _ _ = X; unfold loopH at hX; conv at hX => (lhs; arg 5; rw [hb])
      have hpp := fun Y => hp ((i + j) / 2) (by omega) Y
      cases hd : p ((i + j) / 2) with
      | true =>
        obtain ⟨T, D, h, h'⟩ := ih i ((i + j) / 2) (by omega) (by omega) (by omega)
        simp (config := { maxSteps := 10000000, implicitDefEqProofs := false }) only [go_sem, Bool.false_eq_true, Nat.reduceAdd, Nat.reduceBEq, Nat.reduceLT, Nat.reduceMul, Nat.reduceSub, Nat.reduceLeDiff, Nat.reduceEqDiff, and_self, if_true, if_false, reduceIte, h1, w1, w2, w3, w4, refsL_app, hpp, hd, h] at hX
        subst hX
        refine ⟨T, D, rfl, ?_⟩
        simp only [bs, h1, hd, if_true]
        exact h'
      | false =>
        obtain ⟨T, D, h, h'⟩ := ih ((i + j) / 2 + 1) j (by omega) (by omega) (by omega)
        simp (config := { maxSteps := 10000000, implicitDefEqProofs := false }) only [go_sem, Bool.false_eq_true, Nat.reduceAdd, Nat.reduceBEq, Nat.reduceLT, Nat.reduceMul, Nat.reduceSub, Nat.reduceLeDiff, Nat.reduceEqDiff, and_self, if_true, if_false, reduceIte, h1, w1, w2, w3, w4, refsL_app, hpp, hd, wrap_succ (show (i + j) / 2 ≤ 1000000000 by omega), h] at hX
        subst hX
        refine ⟨T, D, rfl, ?_⟩
        simp only [bs, h1, hd, if_true, Bool.false_eq_true, if_false]
        exact h'
    · simp only [lp, loopIn, Tryz.f48, Option.bind_some, Option.getD_some, Nat.reduceBEq, Bool.false_eq_true, if_true, if_false] at hb
      generalize hX : loopH _ _ _ _ _ _ _ = X; unfold loopH at hX; conv at hX => (lhs; arg 5; rw [hb])
      simp (config := { maxSteps := 10000000, implicitDefEqProofs := false }) only [go_sem, Bool.false_eq_true, Nat.reduceAdd, Nat.reduceBEq, Nat.reduceLT, Nat.reduceMul, Nat.reduceSub, Nat.reduceLeDiff, Nat.reduceEqDiff, and_self, if_true, if_false, reduceIte, h1] at hX
      subst hX
      refine ⟨_, _, rfl, ?_⟩
      simp (config := { maxSteps := 10000000, implicitDefEqProofs := false }) only [go_sem, Bool.false_eq_true, Nat.reduceAdd, Nat.reduceBEq, Nat.reduceLT, Nat.reduceMul, Nat.reduceSub, Nat.reduceLeDiff, Nat.reduceEqDiff, and_self, if_true, if_false, reduceIte, bs, h1]
theorem c48 (Y : List Ctx) (g : FuncId) (x y : List FV) (p : Nat → Bool) (N : Nat) (hN : N ≤ 1000000)
    (hp : ∀ a, a < N → ∀ Y, K4.call g (x.map ofFV ++ [(.f (.int .i64 ((a : Int))))] ++ y.map ofFV) [] Y = some ((.f (.bool (p a))), [], Y)) :
    K4.call 48 [(.f (.int .i64 (N))), .f (.fn g x y)] [] Y = some ((.f (.int .i64 ((bs p N 0 N : Nat)))), [], Y) := by
  obtain ⟨T, D, h, h'⟩ := loop48 _ rfl Y g x y p N hN hp N 0 N (by omega) (by omega) (by omega)
  simp only [lp, loopIn, Tryz.f48, Option.bind_some, Option.getD_some, Nat.reduceBEq, Bool.false_eq_true, if_true, if_false, zero_cast] at h
  rw [call_run (E := E4) (fn := Tryz.f48) fnF48 rfl rfl (by simp) (by simp [Tryz.f48])]
  simp (config := { maxSteps := 10000000, implicitDefEqProofs := false }) only [go_sem, Bool.false_eq_true, Nat.reduceAdd, Nat.reduceBEq, Nat.reduceLT, Nat.reduceMul, Nat.reduceSub, Nat.reduceLeDiff, Nat.reduceEqDiff, and_self, if_true, if_false, reduceIte, Tryz.f48, h, h']

/-- what turn.Slack returns -/
def slackR (cl : List Cl) (rk : List Int) (st : Nat) (lim : Int) (j : Nat) : Nat := bs (fun n => lateB (longer cl j ((n + 1 : Nat) : Int)) (ord cl rk) st lim) 500 0 500
/-- the three ways out with an error, and the answer -/
theorem c14_err (Y : List Ctx) (n1 c1 n2 c2 : Bool) (cl : List Cl) (rk : List Int) (hm : rk.length ≤ 1000000) (hc : cl.length ≤ 1000000) (hn1 : NilOk n1 cl.length) (hn2 : NilOk n2 rk.length) (st lim cloth : Int) (he : (opn cl rk st lim == 0) = false) :
    K4.call 14 [(.agg [.f (mkSl n1 (cls cl) cl.length c1), .f (mkSl n2 (ints rk) rk.length c2)]), (.f (.int .i64 (st))), (.f (.int .i64 (lim))), (.f (.int .i64 (cloth)))] [] Y = some (.tup [(.f (.int .i64 (0))), (.f (.int .i64 (opn cl rk st lim)))], [], Y) := by
  have h44 := fun Y => c44 Y n1 c1 n2 c2 cl rk hm hc hn1 hn2 st lim
  rw [call_run (E := E4) (fn := Tryz.f14) fnF14 rfl rfl (by simp) (by simp [Tryz.f14])]
  simp (config := { maxSteps := 10000000, implicitDefEqProofs := false }) only [go_sem, Bool.false_eq_true, Nat.reduceAdd, Nat.reduceBEq, Nat.reduceLT, Nat.reduceMul, Nat.reduceSub, Nat.reduceLeDiff, Nat.reduceEqDiff, and_self, if_true, if_false, reduceIte, Tryz.f14, h44, he]
theorem c14_none (Y : List Ctx) (n1 c1 n2 c2 : Bool) (cl : List Cl) (rk : List Int) (hm : rk.length ≤ 1000000) (hc : cl.length ≤ 1000000) (hn1 : NilOk n1 cl.length) (hn2 : NilOk n2 rk.length) (st lim cloth : Int) (he : opn cl rk st lim = 0) (hi : inI 0 ((cl.length : Int) - 1) cloth = false) :
    K4.call 14 [(.agg [.f (mkSl n1 (cls cl) cl.length c1), .f (mkSl n2 (ints rk) rk.length c2)]), (.f (.int .i64 (st))), (.f (.int .i64 (lim))), (.f (.int .i64 (cloth)))] [] Y = some (.tup [(.f (.int .i64 (0))), (.f (.int .i64 (7)))], [], Y) := by
  have h44 := fun Y => c44 Y n1 c1 n2 c2 cl rk hm hc hn1 hn2 st lim
  have hw := wrap_len1 (show cl.length ≤ 1000000000 by omega)
  rw [he] at h44
  rw [call_run (E := E4) (fn := Tryz.f14) fnF14 rfl rfl (by simp) (by simp [Tryz.f14])]
  simp (config := { maxSteps := 10000000, implicitDefEqProofs := false }) only [go_sem, Bool.false_eq_true, Nat.reduceAdd, Nat.reduceBEq, Nat.reduceLT, Nat.reduceMul, Nat.reduceSub, Nat.reduceLeDiff, Nat.reduceEqDiff, and_self, if_true, if_false, reduceIte, Tryz.f14, h44, hw, hn1, c45_1, hi]
theorem c14_ok (Y : List Ctx) (n1 c1 n2 c2 : Bool) (cl : List Cl) (rk : List Int) (hv : VD cl rk) (hs : SD cl) (hs2 : ∀ k, k < cl.length → (cAt cl k).hi ≤ 20) (hn1 : NilOk n1 cl.length) (hn2 : NilOk n2 rk.length) (st : Nat) (hst : 0 < st ∧ st ≤ 12) (lim : Int) (he : opn cl rk st lim = 0) (j : Nat) (hj : j < cl.length) :
    K4.call 14 [(.agg [.f (mkSl n1 (cls cl) cl.length c1), .f (mkSl n2 (ints rk) rk.length c2)]), (.f (.int .i64 (st))), (.f (.int .i64 (lim))), (.f (.int .i64 (j)))] [] Y = some (.tup (if lateB cl (ord cl rk) st lim = true then [(.f (.int .i64 (0))), (.f (.int .i64 (9)))] else [(.f (.int .i64 (slackR cl rk st lim j))), (.f (.int .i64 (0)))]), [], Y) := by
  have hN := hv.n
  have hM := hv.m
  have h44 := fun Y => c44 Y n1 c1 n2 c2 cl rk (by omega) (by omega) hn1 hn2 st lim
  have hw := wrap_len1 (show cl.length ≤ 1000000000 by omega)
  have hi : inI 0 ((cl.length : Int) - 1) (j : Int) = true := by simp [inI]; omega
  have h47 := fun Y => c47 Y n1 c1 n2 c2 cl rk hv hn1 hn2
  have h46 := c46 [] n1 c1 n2 c2 cl rk hn1 hn2 hs (cl.length == 0) false (ord cl rk) ord_mem cl.length (by omega) (ord_len cl rk) (fun h => by simpa using h) st hst lim
  have h48 := c48 [] 49 [] [.ptr [mkSl n1 (cls cl) cl.length c1, mkSl n2 (ints rk) rk.length c2] 0, .ptr [.int .i64 j] 0, .ptr [.int .i64 st] 0, .ptr [.int .i64 lim] 0]
    (fun n => lateB (longer cl j ((n + 1 : Nat) : Int)) (ord cl rk) st lim) 500 (by omega) (fun a ha Y => c49 Y n1 c1 n2 c2 cl rk hn1 hn2 hv hs hs2 j hj st hst lim a (by omega))
  rw [he] at h44
  simp only [show ((500 : Nat) : Int) = 500 from rfl] at h48
  rw [call_run (E := E4) (fn := Tryz.f14) fnF14 rfl rfl (by simp) (by simp [Tryz.f14])]
  cases hl : lateB cl (ord cl rk) st lim with
  | true =>
    rw [hl] at h46
    simp (config := { maxSteps := 10000000, implicitDefEqProofs := false }) only [go_sem, Bool.false_eq_true, Nat.reduceAdd, Nat.reduceBEq, Nat.reduceLT, Nat.reduceMul, Nat.reduceSub, Nat.reduceLeDiff, Nat.reduceEqDiff, and_self, if_true, if_false, reduceIte, Tryz.f14, h44, hw, hn1, c45_1, hi, h47, h46, cutS_ints (ord_len cl rk)]
    rw [drwEnd_ok (by kernel_rfl)]
    simp (config := { maxSteps := 10000000, implicitDefEqProofs := false }) only [go_sem, Bool.false_eq_true, Nat.reduceAdd, Nat.reduceBEq, Nat.reduceLT, Nat.reduceMul, Nat.reduceSub, Nat.reduceLeDiff, Nat.reduceEqDiff, and_self, if_true, if_false, reduceIte]
  | false =>
    rw [hl] at h46
    simp (config := { maxSteps := 10000000, implicitDefEqProofs := false }) only [go_sem, Bool.false_eq_true, Nat.reduceAdd, Nat.reduceBEq, Nat.reduceLT, Nat.reduceMul, Nat.reduceSub, Nat.reduceLeDiff, Nat.reduceEqDiff, and_self, if_true, if_false, reduceIte, Tryz.f14, h44, hw, hn1, c45_1, hi, h47, h46, cutS_ints (ord_len cl rk), h48]
    rw [drwEnd_ok (by kernel_rfl)]
    simp (config := { maxSteps := 10000000, implicitDefEqProofs := false }) only [go_sem, Bool.false_eq_true, Nat.reduceAdd, Nat.reduceBEq, Nat.reduceLT, Nat.reduceMul, Nat.reduceSub, Nat.reduceLeDiff, Nat.reduceEqDiff, and_self, if_true, if_false, reduceIte]
    rfl
end Go.AM
