/-
Soundness of drawn regions, loops, functions.
-/
import Derived.Test.YtgahfnebfpmbpaaGreatMA4
set_option linter.unusedVariables false
set_option linter.unusedSimpArgs false
namespace Go.AM

/-! ### selections -/

def foldSel {α : Type} (f : Nat → α → α) (sel : Nat → Bool) : Nat → α → α
  | 0, x => x
  | n + 1, x => bif sel n then f n (foldSel f sel n x) else foldSel f sel n x

theorem foldSel_congr {α : Type} {f : Nat → α → α} (hit : Nat → Prop) (hnot : ∀ i y, ¬ hit i → f i y = y) (hhit : ∀ i y y', hit i → f i y = f i y') {sel sel' : Nat → Bool} :
    ∀ (n : Nat) (x : α), (∀ i, i < n → hit i → sel i = sel' i) → foldSel f sel n x = foldSel f sel' n x
  | 0, _, _ => rfl
  | n + 1, x, h => by
    have ih := foldSel_congr hit hnot hhit (sel := sel) (sel' := sel') n x (fun i hi hh => h i (by omega) hh)
    simp only [foldSel]
    by_cases hh : hit n
    · rw [h n (by omega) hh, ih]
    · rw [hnot n _ hh, hnot n _ hh, Bool.cond_self, Bool.cond_self]
      exact ih

theorem foldSel_none {α : Type} {f : Nat → α → α} (hit : Nat → Prop) (hnot : ∀ i y, ¬ hit i → f i y = y) {sel : Nat → Bool} :
    ∀ (n : Nat) (x : α), (∀ i, i < n → sel i = true → ¬ hit i) → foldSel f sel n x = x
  | 0, _, _ => rfl
  | n + 1, x, h => by
    have ih := foldSel_none hit hnot (sel := sel) n x (fun i hi hh => h i (by omega) hh)
    simp only [foldSel]
    cases hs : sel n with
    | true => simp only [cond_true]; rw [hnot n _ (h n (by omega) hs), ih]
    | false => simp only [cond_false]; exact ih

theorem foldSel_last {α : Type} {f : Nat → α → α} (hit : Nat → Prop) (hnot : ∀ i y, ¬ hit i → f i y = y) (hhit : ∀ i y y', hit i → f i y = f i y') {sel : Nat → Bool} {j : Nat} (hj : hit j) (hs : sel j = true)
    (y0 : α) : ∀ (n : Nat) (x : α), j < n → (∀ i, j < i → i < n → sel i = true → ¬ hit i) → foldSel f sel n x = f j y0
  | 0, _, h, _ => by omega
  | n + 1, x, h, hl => by
    simp only [foldSel]
    by_cases hjn : j = n
    · subst hjn
      rw [hs]
      exact hhit _ _ _ hj
    · have ih := foldSel_last hit hnot hhit hj hs y0 n x (by omega) (fun i h1 h2 h3 => hl i h1 (by omega) h3)
      cases hsn : sel n with
      | true => simp only [cond_true]; rw [hnot n _ (hl n (by omega) (by omega) hsn), ih]
      | false => simp only [cond_false]; exact ih

theorem foldSel_ext {α : Type} {f : Nat → α → α} {sel sel' : Nat → Bool} : ∀ (n : Nat) (x : α), (∀ i, i < n → sel i = sel' i) → foldSel f sel n x = foldSel f sel' n x
  | 0, _, _ => rfl
  | n + 1, x, h => by
    simp only [foldSel]
    rw [h n (by omega), foldSel_ext n x (fun i hi => h i (by omega))]

theorem foldSel_stop {α : Type} {f : Nat → α → α} {sel : Nat → Bool} {j : Nat} (x : α) : ∀ n, j ≤ n → (∀ i, j ≤ i → i < n → sel i = false) → foldSel f sel n x = foldSel f sel j x
  | 0, h, _ => by
    have : j = 0 := by omega
    subst this; rfl
  | n + 1, h, hs => by
    by_cases hj : j = n + 1
    · subst hj; rfl
    · simp only [foldSel]
      rw [hs n (by omega) (by omega)]
      simp only [cond_false]
      exact foldSel_stop x n (by omega) (fun i h1 h2 => hs i h1 (by omega))

/-! ### what surely comes before -/

theorem testBit_fold {g : Nat → Nat} (i : Nat) : ∀ (l : List Edge) (s : Nat),
    (l.foldl (fun s (e : Edge) => bif Region.binds .any e then s ||| 2 ^ e.on ||| g e.on else s) s).testBit i = true →
      s.testBit i = true ∨ ∃ e ∈ l, Region.binds .any e = true ∧ (i = e.on ∨ (g e.on).testBit i = true)
  | [], s, h => .inl h
  | e :: r, s, h => by
    simp only [List.foldl_cons] at h
    rcases testBit_fold i r _ h with h1 | ⟨e', h1, h2⟩
    · cases hb : Region.binds .any e with
      | true =>
        rw [hb] at h1
        simp only [cond_true, Nat.testBit_or, Bool.or_eq_true] at h1
        rcases h1 with (h1 | h1) | h1
        · exact .inl h1
        · rw [Nat.testBit_two_pow] at h1
          simp at h1
          exact .inr ⟨e, List.mem_cons_self .., hb, .inl h1.symm⟩
        · exact .inr ⟨e, List.mem_cons_self .., hb, .inr h1⟩
      | false =>
        rw [hb] at h1
        exact .inl h1
    · exact .inr ⟨e', List.mem_cons_of_mem _ h1, h2⟩

theorem befGo_spec {ops : Array Oper} {D G : Nat → Prop} (hc : ∀ (j : Nat) (o : Oper), ops[j]? = some o → G j → ∀ e ∈ o.after, Region.binds .any e = true → D e.on) (hDG : ∀ j, D j → G j) :
    ∀ (l : List Oper) (acc : Array Nat), ops.toList.drop acc.size = l → (∀ j i, j < acc.size → (acc.getD j 0).testBit i = true → G j → D i) →
      ∀ j i, ((befGo l acc).getD j 0).testBit i = true → G j → D i
  | [], acc, hl, hP, j, i, hb, hj => by
    simp only [befGo] at hb
    by_cases hlt : j < acc.size
    · exact hP j i hlt hb hj
    · have : acc.getD j 0 = 0 := by simp [Array.getD, hlt]
      rw [this] at hb
      simp at hb
  | o :: r, acc, hl, hP, j, i, hb, hj => by
    simp only [befGo] at hb
    have hoi : ops[acc.size]? = some o := by
      have : (ops.toList.drop acc.size)[0]? = some o := by rw [hl]; rfl
      rw [List.getElem?_drop] at this
      simpa using this
    refine befGo_spec hc hDG r _ ?_ ?_ j i hb hj
    · have := congrArg (List.drop 1) hl
      simpa [List.drop_drop, Nat.add_comm] using this
    · intro j i hlt hb hj
      by_cases hja : j < acc.size
      · have e1 : (acc.push (o.after.toList.foldl (fun s e => bif Region.binds .any e then s ||| 2 ^ e.on ||| acc.getD e.on 0 else s) 0)).getD j 0 = acc.getD j 0 := by
          simp only [Array.getD_eq_getD_getElem?]
          rw [Array.getElem?_push, if_neg (by omega)]
        rw [e1] at hb
        exact hP j i hja hb hj
      · have hje : j = acc.size := by
          rw [Array.size_push] at hlt; omega
        subst hje
        have e1 : (acc.push (o.after.toList.foldl (fun s e => bif Region.binds .any e then s ||| 2 ^ e.on ||| acc.getD e.on 0 else s) 0)).getD acc.size 0 =
            o.after.toList.foldl (fun s e => bif Region.binds .any e then s ||| 2 ^ e.on ||| acc.getD e.on 0 else s) 0 := by
          simp only [Array.getD_eq_getD_getElem?]
          rw [Array.getElem?_push, if_pos rfl]
          rfl
        rw [e1] at hb
        rcases testBit_fold (g := fun k => acc.getD k 0) i _ _ hb with h1 | ⟨e, h1, h2, h3⟩
        · simp at h1
        · have hD := hc acc.size o hoi hj e (by simpa using h1) h2
          rcases h3 with rfl | h3
          · exact hD
          · by_cases he : e.on < acc.size
            · exact hP e.on i he h3 (hDG _ hD)
            · have : acc.getD e.on 0 = 0 := by simp [Array.getD, he]
              rw [this] at h3
              simp at h3

theorem befA_spec {ops : Array Oper} {D G : Nat → Prop} (hc : ∀ (j : Nat) (o : Oper), ops[j]? = some o → G j → ∀ e ∈ o.after, Region.binds .any e = true → D e.on) (hDG : ∀ j, D j → G j)
    {j i : Nat} (hb : ((befA ops).getD j 0).testBit i = true) (hj : G j) : D i :=
  befGo_spec hc hDG ops.toList #[] (by simp) (fun j i h => by simp at h) j i hb hj

/-- All that surely comes before an operation stands before it in the text. -/
theorem befA_lt {ops : Array Oper} (he : ∀ (j : Nat) (o : Oper), ops[j]? = some o → ∀ e ∈ o.after, Region.binds .any e = true → e.on < j) {j i : Nat} (hb : ((befA ops).getD j 0).testBit i = true) : i < j :=
  befA_spec (D := fun k => k < j) (G := fun k => k ≤ j) (fun k o hk hg e hm hb => Nat.lt_of_lt_of_le (he k o hk e hm hb) hg) (fun _ hk => Nat.le_of_lt hk) hb (Nat.le_refl j)

/-! ### the region, in the text's order -/

section
variable (C : Knot) (E : Env) (all : Array Oper)

inductive RowOk (o : Oper) (s : St) (y : List Ctx) : Option Eff → Foot → St → List Ctx → Prop
  | skip : wantA all s.tmps o = some false → RowOk o s y none { see := [], wr := [], call := false } { s with tmps := putDst s.tmps o.dst (.tup []) } y
  | step {see : List Nat} {e : Eff} {y' : List Ctx} : wantA all s.tmps o = some true → stepA C E s.σ.length (maskO (atO s.σ) see) (evalR s.tmps (opTmps o)) o y = some (e, y') →
      RowOk o s y (some e) { see, wr := e.wr.map (·.1) ++ (List.range e.news.length).map (s.σ.length + ·), call := isCallOp o.op }
        { s with tmps := putDst s.tmps o.dst e.val, σ := putWr s.σ e.wr ++ (padE e).news } y'

/-- The region's operations one by one. -/
structure Trace (l : List Oper) (st : St) (Y : List Ctx) (st' : St) (Y' : List Ctx) (fs : List Foot) where
  ss : Nat → St
  ys : Nat → List Ctx
  rs : Nat → Option Eff
  ft : Nat → Foot
  s0 : ss 0 = st
  y0 : ys 0 = Y
  sN : ss l.length = st'
  yN : ys l.length = Y'
  row : ∀ (j : Nat) (o : Oper), l[j]? = some o → RowOk C E all o (ss j) (ys j) (rs j) (ft j) (ss (j + 1)) (ys (j + 1))
  feet : fs = (List.range l.length).map ft

theorem padE_val (e : Eff) : (padE e).val = e.val := by unfold padE; split <;> rfl
theorem padE_wr (e : Eff) : (padE e).wr = e.wr := by unfold padE; split <;> rfl

theorem opsDraw_trace : ∀ (l : List Oper) (st : St) (Y : List Ctx) (fs : List Foot) (st' : St) (Y' : List Ctx) (fs' : List Foot),
    opsDrawA C E all l st Y fs = some (st', Y', fs') → ∃ fs2, fs' = fs.reverse ++ fs2 ∧ Nonempty (Trace C E all l st Y st' Y' fs2)
  | [], st, Y, fs, st', Y', fs', h => by
    simp only [opsDrawA, Option.some.injEq, Prod.mk.injEq] at h
    obtain ⟨rfl, rfl, rfl⟩ := h
    exact ⟨[], by simp, ⟨{ ss := fun _ => st, ys := fun _ => Y, rs := fun _ => none, ft := fun _ => default, s0 := rfl, y0 := rfl, sN := rfl, yN := rfl, row := by simp, feet := by simp }⟩⟩
  | o :: r, st, Y, fs, st', Y', fs', h => by
    have glue : ∀ (s1 : St) (y1 : List Ctx) (res : Option Eff) (f : Foot), RowOk C E all o st Y res f s1 y1 → opsDrawA C E all r s1 y1 (f :: fs) = some (st', Y', fs') →
        ∃ fs2, fs' = fs.reverse ++ fs2 ∧ Nonempty (Trace C E all (o :: r) st Y st' Y' fs2) := by
      intro s1 y1 res f hrow h
      obtain ⟨fs2, h1, ⟨t⟩⟩ := opsDraw_trace r s1 y1 (f :: fs) st' Y' fs' h
      refine ⟨f :: fs2, by rw [h1]; simp, ⟨{ ss := fun | 0 => st | n + 1 => t.ss n, ys := fun | 0 => Y | n + 1 => t.ys n, rs := fun | 0 => res | n + 1 => t.rs n, ft := fun | 0 => f | n + 1 => t.ft n, s0 := rfl, y0 := rfl, sN := t.sN, yN := t.yN, row := ?_, feet := ?_ }⟩⟩
      · intro j o' hj
        cases j with
        | zero =>
          simp at hj
          subst hj
          show RowOk C E all o st Y res f (t.ss 0) (t.ys 0)
          rw [t.s0, t.y0]
          exact hrow
        | succ j =>
          simp at hj
          exact t.row j o' hj
      · rw [List.length_cons, List.range_succ_eq_map, List.map_cons, List.map_map]
        exact congrArg (f :: ·) t.feet
    simp only [opsDrawA] at h
    split at h
    · cases h
    · rename_i hw
      exact glue _ _ none _ (.skip hw) h
    · rename_i hw
      split at h
      · cases h
      · rename_i e Y1 hs
        refine glue _ _ (some e) _ (.step hw hs) ?_
        have e1 : (applyE st.tmps st.σ o.dst (padE e)) = (putDst st.tmps o.dst e.val, putWr st.σ e.wr ++ (padE e).news) := by
          unfold applyE
          rw [padE_val, padE_wr]
        rw [e1] at h
        exact h

end
end Go.AM

namespace Go.AM

section
variable {C : Knot} {E : Env} {ops : Array Oper} {st st' : St} {Y Y' : List Ctx} {fs : List Foot} (t : Trace C E ops ops.toList st Y st' Y' fs)

def dstA (ops : Array Oper) (j : Nat) : Option Tmp := (ops[j]?).bind (·.dst)
def Trace.val (j : Nat) : AV := match t.rs j with | none => .tup [] | some e => e.val
def Trace.base (j : Nat) : Nat := (t.ss j).σ.length
def Trace.new (j : Nat) : Nat := match t.rs j with | none => 0 | some e => e.news.length

def Trace.fS (o j : Nat) (x : AObj) : AObj := match t.rs j with | none => x | some e => effO (fun _ => x) (t.base j) e o
def Trace.hitS (o j : Nat) : Prop := ∃ e, t.rs j = some e ∧ e.hits (t.base j) o
def Trace.SD (D : Nat → Bool) (o : Nat) : AObj := foldSel (t.fS o) D ops.size (atO st.σ o)

def Trace.fT (x j : Nat) (y : AV) : AV := if dstA ops j = some x then t.val j else y
def Trace.TD (D : Nat → Bool) : Tmps := foldSel (fun j T => putDst T (dstA ops j) (t.val j)) D ops.size st.tmps

def Trace.fY (j : Nat) (y : List Ctx) : List Ctx := bif (t.ft j).call then t.ys (j + 1) else y
def Trace.YD (D : Nat → Bool) : List Ctx := foldSel t.fY D ops.size Y

theorem Trace.fS_not {o i : Nat} (y : AObj) (h : ¬ t.hitS o i) : t.fS o i y = y := by
  unfold Trace.fS
  split
  · rfl
  · rename_i e he
    exact effO_not fun hh => h ⟨e, he, hh⟩

theorem Trace.fS_hit {o i : Nat} (y y' : AObj) (h : t.hitS o i) : t.fS o i y = t.fS o i y' := by
  obtain ⟨e, he, hh⟩ := h
  unfold Trace.fS
  rw [he]
  exact effO_hit hh

theorem getT_putDst (T : Tmps) (d : Option Tmp) (v : AV) (x : Nat) : getT (putDst T d v) x = if d = some x then v else getT T x := by
  cases d with
  | none => simp [putDst]
  | some d =>
    simp only [putDst, getT_setT]
    by_cases h : x = d
    · subst h; simp
    · rw [if_neg h, if_neg (by simpa using fun e => h e.symm)]

theorem Trace.getT_fold (D : Nat → Bool) (x : Nat) : ∀ n, getT (foldSel (fun j T => putDst T (dstA ops j) (t.val j)) D n st.tmps) x = foldSel (t.fT x) D n (getT st.tmps x)
  | 0 => rfl
  | n + 1 => by
    simp only [foldSel]
    cases D n with
    | true =>
      simp only [cond_true]
      rw [getT_putDst, Trace.getT_fold D x n]
      rfl
    | false => exact Trace.getT_fold D x n

theorem Trace.getTD (D : Nat → Bool) (x : Nat) : getT (t.TD D) x = foldSel (t.fT x) D ops.size (getT st.tmps x) := t.getT_fold D x ops.size

theorem dstA_some {j : Nat} {o : Oper} (h : ops[j]? = some o) : dstA ops j = o.dst := by
  unfold dstA
  rw [h]
  rfl

theorem Trace.rowAt {j : Nat} {o : Oper} (h : ops[j]? = some o) : RowOk C E ops o (t.ss j) (t.ys j) (t.rs j) (t.ft j) (t.ss (j + 1)) (t.ys (j + 1)) :=
  t.row j o (by simpa using h)

/-- One operation: what it does to the three. -/
theorem Trace.next {j : Nat} (hj : j < ops.size) :
    (∀ o, atO (t.ss (j + 1)).σ o = t.fS o j (atO (t.ss j).σ o)) ∧ (∀ x, getT (t.ss (j + 1)).tmps x = t.fT x j (getT (t.ss j).tmps x)) ∧ t.ys (j + 1) = t.fY j (t.ys j) ∧
      (t.ss (j + 1)).pin = (t.ss j).pin ∧ t.base j + t.new j ≤ t.base (j + 1) ∧ (∀ e, t.rs j = some e → t.base j + 1 ≤ t.base (j + 1)) := by
  have hoj : ops[j]? = some ops[j] := Array.getElem?_eq_getElem hj
  have hrow := t.rowAt hoj
  have hd := dstA_some hoj
  unfold Trace.fS Trace.fT Trace.fY Trace.base Trace.new Trace.val
  rw [hd]
  generalize t.rs j = rj at *
  generalize t.ft j = fj at *
  generalize t.ss (j + 1) = s1 at *
  generalize t.ys (j + 1) = y1 at *
  cases hrow with
  | skip hw =>
    refine ⟨fun o => rfl, fun x => ?_, rfl, rfl, Nat.le_refl _, fun e he => by cases he⟩
    exact getT_putDst ..
  | step hw hs =>
    rename_i see e
    have hwr := (stepA_cases hs).2
    refine ⟨fun o => ?_, fun x => ?_, ?_, rfl, ?_, ?_⟩
    · have h1 : atO (putWr (t.ss j).σ e.wr ++ (padE e).news) = effO (atO (t.ss j).σ) (t.ss j).σ.length (padE e) := by
        have h2 := atO_eff (l := (t.ss j).σ) (e := padE e) (by rw [padE_wr]; exact hwr)
        rwa [padE_wr] at h2
      simp only [h1]
      by_cases hh : e.hits (t.ss j).σ.length o
      · have hp : (padE e).hits (t.ss j).σ.length o := by
          rcases hh with hh | hh
          · left; rw [padE_wr]; exact hh
          · right
            unfold padE
            split
            · rename_i h0
              rw [h0] at hh
              simp at hh; omega
            · exact hh
        have e3 : padE e = e ∨ e.news = [] := by
          unfold padE
          split
          · rename_i h0; exact .inr h0
          · exact .inl rfl
        rcases e3 with h3 | h3
        · rw [h3]; exact effO_hit hh
        · have hlt : o < (t.ss j).σ.length := by
            rcases hh with ⟨x, hx⟩ | hh
            · exact hwr o x hx
            · rw [h3] at hh; simp at hh; omega
          unfold effO
          rw [updNews_lt (.inl hlt), updNews_lt (.inl hlt), padE_wr]
          rcases hh with hh | hh
          · exact updWr_congr hh
          · omega
      · rw [effO_not hh]
        by_cases hp : (padE e).hits (t.ss j).σ.length o
        · have : e.news = [] ∧ o = (t.ss j).σ.length := by
            unfold padE at hp
            split at hp
            · rename_i h0
              refine ⟨h0, ?_⟩
              rcases hp with hp | hp
              · exact absurd (.inl hp) hh
              · simp at hp; omega
            · exact absurd hp hh
          obtain ⟨h0, rfl⟩ := this
          unfold effO padE
          rw [h0]
          have hx := updNews_at (σ := updWr (atO (t.ss j).σ) e.wr) (l := [AObj.dead]) (base := (t.ss j).σ.length) (j := 0) (x := .dead) rfl
          rw [Nat.add_zero] at hx
          simp only [hx]
          simp [atO]
        · exact effO_not hp
    · exact getT_putDst ..
    · cases hc : isCallOp ops[j].op with
      | true => rfl
      | false =>
        simp only [cond_false]
        obtain ⟨h0, _⟩ := stepA_cases hs
        rcases step0_cases h0 with ⟨_, h1⟩ | ⟨c, x, h1, h2, _⟩
        · exact h1
        · obtain ⟨cl, ar, ty⟩ := c
          simp only at h2
          subst h2
          rw [h1] at hc
          simp [isCallOp] at hc
    · simp only [List.length_append, putWr_length]
      unfold padE
      split
      · rename_i h0; rw [h0]; simp
      · omega
    · intro e' he'
      cases he'
      simp only [List.length_append, putWr_length]
      unfold padE
      split
      · simp
      · rename_i h0
        cases hn : e.news with
        | nil => exact absurd hn h0
        | cons a l => simp

theorem Trace.chain : ∀ n, n ≤ ops.size → (∀ o, atO (t.ss n).σ o = foldSel (t.fS o) (fun _ => true) n (atO st.σ o)) ∧ (∀ x, getT (t.ss n).tmps x = foldSel (t.fT x) (fun _ => true) n (getT st.tmps x)) ∧
    t.ys n = foldSel t.fY (fun _ => true) n Y ∧ (t.ss n).pin = st.pin
  | 0, _ => by
    rw [t.s0, t.y0]
    exact ⟨fun _ => rfl, fun _ => rfl, rfl, rfl⟩
  | n + 1, h => by
    obtain ⟨h1, h2, h3, h4⟩ := Trace.chain n (by omega)
    obtain ⟨g1, g2, g3, g4, _⟩ := t.next (j := n) (by omega)
    refine ⟨fun o => ?_, fun x => ?_, ?_, g4.trans h4⟩
    · rw [g1, h1]; rfl
    · rw [g2, h2]; rfl
    · rw [g3, h3]; rfl

theorem Trace.base_mono {i j : Nat} (h : i ≤ j) (hj : j ≤ ops.size) : t.base i ≤ t.base j := by
  induction j with
  | zero =>
    have : i = 0 := by omega
    subst this; exact Nat.le_refl _
  | succ j ih =>
    by_cases he : i = j + 1
    · subst he; exact Nat.le_refl _
    · have := ih (by omega) (by omega)
      have h2 := (t.next (j := j) (by omega)).2.2.2.2.1
      omega

theorem Trace.hit_wr {o j : Nat} (hj : j < ops.size) (h : t.hitS o j) : o ∈ (t.ft j).wr := by
  obtain ⟨e, he, hh⟩ := h
  have hoj : ops[j]? = some ops[j] := Array.getElem?_eq_getElem hj
  have hrow := t.rowAt hoj
  unfold Trace.base at hh
  rw [he] at hrow
  generalize t.ft j = fj at *
  generalize t.ss (j + 1) = s1 at *
  generalize t.ys (j + 1) = y1 at *
  cases hrow with
  | step hw hs =>
    rcases hh with ⟨x, hx⟩ | ⟨h1, h2⟩
    · exact List.mem_append_left _ (List.mem_map.2 ⟨(o, x), hx, rfl⟩)
    · refine List.mem_append_right _ (List.mem_map.2 ⟨o - (t.ss j).σ.length, ?_, by omega⟩)
      rw [List.mem_range]; omega

/-! ### what the check says of two operations whose order is open -/

def unord (ops : Array Oper) (i j : Nat) : Prop := ((befA ops).getD i 0).testBit j = false ∧ ((befA ops).getD j 0).testBit i = false

def Apart (a b : Foot) : Prop := (∀ x ∈ a.wr, x ∉ b.see) ∧ (∀ x ∈ a.wr, x ∉ b.wr) ∧ ¬ (a.call = true ∧ b.call = true)

theorem disj_spec {a b : List Nat} (h : disj a b = true) : ∀ x ∈ a, x ∉ b := by
  intro x hx
  have := List.all_eq_true.1 h x hx
  simpa using this

theorem apartF_spec {a b : Foot} (h : apartF a b = true) : Apart a b ∧ Apart b a := by
  unfold apartF at h
  simp only [Bool.and_eq_true, Bool.not_eq_true', Bool.and_eq_false_iff] at h
  obtain ⟨⟨⟨h1, h2⟩, h3⟩, h4⟩ := h
  have h3' := disj_spec h3
  refine ⟨⟨disj_spec h1, h3', ?_⟩, ⟨disj_spec h2, fun x hx hx' => h3' x hx' hx, ?_⟩⟩
  · rintro ⟨h5, h6⟩
    rcases h4 with h4 | h4
    · rw [h4] at h5; cases h5
    · rw [h4] at h6; cases h6
  · rintro ⟨h5, h6⟩
    rcases h4 with h4 | h4
    · rw [h4] at h6; cases h6
    · rw [h4] at h5; cases h5

theorem apart_trivial {a b : Foot} (ha : a.wr = []) (hac : a.call = false) : Apart a b := by
  refine ⟨by simp [ha], by simp [ha], ?_⟩
  rintro ⟨h, _⟩
  rw [hac] at h; cases h

/-- The region's check. -/
def feetOk (ops : Array Oper) (fs : List Foot) : Bool := fs.all (fun f => f.wr.isEmpty && !f.call) || pairsOk (befA ops) fs

theorem Trace.apart (hf : feetOk ops fs = true) {i j : Nat} (hi : i < ops.size) (hj : j < ops.size) (hne : i ≠ j) (hu : unord ops i j) : Apart (t.ft i) (t.ft j) := by
  have hfi : fs[i]? = some (t.ft i) := by
    have h0 := congrArg (fun l => l[i]?) t.feet
    simpa [hi] using h0
  have hfj : fs[j]? = some (t.ft j) := by
    have h0 := congrArg (fun l => l[j]?) t.feet
    simpa [hj] using h0
  have triv : ∀ f : Foot, (f.wr.isEmpty && !f.call) = true → f.wr = [] ∧ f.call = false := by
    intro f h
    simpa using h
  unfold feetOk at hf
  rw [Bool.or_eq_true] at hf
  rcases hf with hf | hf
  · obtain ⟨h1, h2⟩ := triv _ (List.all_eq_true.1 hf _ (List.mem_of_getElem? hfi))
    exact apart_trivial h1 h2
  · unfold pairsOk at hf
    simp only at hf
    have hmi : (t.ft i, i) ∈ fs.zipIdx := by
      rw [List.mem_zipIdx_iff_getElem?]; exact hfi
    have hmj : (t.ft j, j) ∈ fs.zipIdx := by
      rw [List.mem_zipIdx_iff_getElem?]; exact hfj
    have h1 := List.all_eq_true.1 hf _ hmi
    simp only [Bool.or_eq_true] at h1
    rcases h1 with h1 | h1
    · obtain ⟨h2, h3⟩ := triv _ h1
      exact apart_trivial h2 h3
    · have h2 := List.all_eq_true.1 h1 _ hmj
      simp only [Bool.or_eq_true, beq_iff_eq] at h2
      rcases h2 with ((h2 | h2) | h2) | h2
      · exact absurd h2.symm hne
      · rw [hu.1] at h2; cases h2
      · rw [hu.2] at h2; cases h2
      · exact (apartF_spec h2).2

end
end Go.AM

namespace Go.AM

structure DrawOk (ops : Array Oper) : Prop where
  lt : ∀ (j : Nat) (o : Oper), ops[j]? = some o → ∀ e ∈ o.after, Region.binds .any e = true → e.on < j
  dst : ∀ (i j : Nat) (oi oj : Oper), ops[i]? = some oi → ops[j]? = some oj → i < j → ∀ d, oi.dst = some d → oj.dst ≠ some d
  back : ∀ (i j : Nat) (oi oj : Oper), ops[i]? = some oi → ops[j]? = some oj → i < j → ((befA ops).getD j 0).testBit i = true ∨ ∀ d, oj.dst = some d → d ∉ oi.looksAt ops
  fwd : ∀ (i j : Nat) (oi oj : Oper), ops[i]? = some oi → ops[j]? = some oj → i < j → ((befA ops).getD j 0).testBit i = true ∨ ∀ d, oi.dst = some d → d ∉ oj.looksAt ops

theorem drawOk_spec {ops : Array Oper} (h : drawOk ops = true) : DrawOk ops := by
  unfold drawOk at h
  simp only at h
  have all := fun (j : Nat) (o : Oper) (hj : ops[j]? = some o) => by
    have hm : (o, j) ∈ ops.toList.zipIdx := by
      rw [List.mem_zipIdx_iff_getElem?]; simpa using hj
    exact List.all_eq_true.1 h _ hm
  have pair : ∀ (i j : Nat) (oi oj : Oper), ops[i]? = some oi → ops[j]? = some oj → i < j → _ := fun i j oi oj hi hj hij => by
    have h1 := all j oj hj
    simp only [Bool.and_eq_true] at h1
    have hm : (oi, i) ∈ ops.toList.zipIdx := by
      rw [List.mem_zipIdx_iff_getElem?]; simpa using hi
    have h2 := List.all_eq_true.1 h1.2 _ hm
    have hb : Nat.blt i j = true := by rw [Nat.blt_eq]; exact hij
    rw [hb] at h2
    simp only [Bool.not_true, Bool.false_or, Bool.and_eq_true] at h2
    exact h2
  refine ⟨?_, ?_, ?_, ?_⟩
  · intro j o hj e he hbd
    have h1 := all j o hj
    simp only [Bool.and_eq_true] at h1
    have h2 := h1.1
    rw [Array.all_eq_true_iff_forall_mem] at h2
    have h3 := h2 e he
    rw [hbd] at h3
    simp only [Bool.not_true, Bool.false_or] at h3
    rwa [Nat.blt_eq] at h3
  · intro i j oi oj hi hj hij d hd hd'
    have h1 := (pair i j oi oj hi hj hij).1.1
    rw [hd, hd'] at h1
    simp at h1
  · intro i j oi oj hi hj hij
    have h1 := (pair i j oi oj hi hj hij).1.2
    cases hdj : oj.dst with
    | none => exact .inr fun d hd => by cases hd
    | some d0 =>
      rw [hdj] at h1
      simp only [Bool.or_eq_true] at h1
      rcases h1 with h1 | h1
      · exact .inl h1
      · refine .inr fun d hd hd' => ?_
        cases hd
        simp at h1
        exact h1 hd'
  · intro i j oi oj hi hj hij
    have h1 := (pair i j oi oj hi hj hij).2
    rw [Bool.or_eq_true] at h1
    rcases h1 with h1 | h1
    · exact .inl h1
    · refine .inr fun d hd hd' => ?_
      rw [hd] at h1
      simp at h1
      exact h1 hd'

theorem AV.renL_eq (m : Nat → Option Nat) : ∀ l, AV.renL m l = l.map (AV.ren m)
  | [] => rfl
  | v :: r => by simp [AV.renL, AV.renL_eq m r]

mutual
theorem AV.ren_some : ∀ v : AV, v.ren some = v
  | .f _ => rfl
  | .sl .. => rfl
  | .ptr .. => rfl
  | .fn g a b => by simp only [AV.ren]; rw [AV.renL_some a, AV.renL_some b]
  | .iface t v => by simp only [AV.ren]; rw [AV.ren_some v]
  | .mp _ => rfl
  | .yld _ => rfl
  | .agg l => by simp only [AV.ren]; rw [AV.renL_some l]
  | .tup l => by simp only [AV.ren]; rw [AV.renL_some l]
  | .bot => rfl
theorem AV.renL_some : ∀ l : List AV, AV.renL some l = l
  | [] => rfl
  | v :: r => by simp only [AV.renL]; rw [AV.ren_some v, AV.renL_some r]
end

theorem AObj.ren_some (x : AObj) : x.ren some = x := by
  cases x with
  | box cs => simp only [AObj.ren]; rw [AV.renL_some]
  | _ => rfl

section
variable {M M' : Mem} {w w' : World} {R : List Nat} {Φ Φ' : List Map} {Y Y' : List Ctx} {φ φ' : Map} {σ σm τ : Nat → AObj}

/-- A part of a store. -/
theorem Good.sub (h : Good M w R Φ Y φ σ) (hs : ∀ o, σm o = .dead ∨ σm o = σ o) : Good M w R Φ Y φ σm := by
  have hl : ∀ o, live (σm o) = true → σm o = σ o := by
    intro o ho
    rcases hs o with h1 | h1
    · rw [h1] at ho; cases ho
    · exact h1
  refine ⟨⟨h.inv.froz, ?_, ?_, ?_⟩, ?_, h.lvs, ?_⟩
  · intro o
    rcases hs o with h1 | h1
    · rw [h1]; trivial
    · rw [h1]; exact h.inv.obj o
  · intro o o' b n n' h1 h2 p1 p2
    rw [hl o h1] at h1
    rw [hl o' h2] at h2
    exact h.inv.inj o o' b n n' h1 h2 p1 p2
  · intro o b n h1 p1 off
    rw [hl o h1] at h1
    exact h.inv.sep o b n h1 p1 off
  · intro o
    rcases hs o with h1 | h1
    · exact .inr h1
    · rw [h1]; exact h.dom o
  · rintro b ⟨o, n, h1, p1⟩
    rw [hl o h1] at h1
    exact h.sep b ⟨o, n, h1, p1⟩

/-- An operation on a part, seen in the whole. -/
theorem Step.whole {base : Nat} {e : Eff} (hG : Good M w R Φ Y φ σ) (hs : ∀ o, σm o = .dead ∨ σm o = σ o) (h : Step M w R Φ Y φ σm M' w' Φ' Y' φ' (effO σm base e)) (hle : φ.le φ')
    (hsame : ∀ o, (o < base ∨ base + e.news.length ≤ o) → φ' o = φ o) (hτ : ∀ o, τ o = effO σ base e o) : Step M w R Φ Y φ σ M' w' Φ' Y' φ' τ := by
  classical
  refine Step.join hG h ?_ (fun o => if σm o ≠ .dead ∨ e.hits base o then some o else none) some ?_ ?_ (fun i o p h1 h2 => by cases h1; exact h2) hle
  · rintro b ⟨o, n, h1, p1⟩
    rcases hs o with h2 | h2
    · rw [h2] at h1; cases h1
    · rw [h2] at h1; exact ⟨o, n, h1, p1⟩
  · intro o i hk
    split at hk
    · rename_i hc
      cases hk
      refine ⟨?_, rfl, rfl⟩
      rw [AObj.ren_some, hτ]
      by_cases hh : e.hits base o
      · exact effO_hit hh
      · rw [effO_not hh, effO_not hh]
        rcases hc with hc | hc
        · exact ((hs o).resolve_left hc).symm
        · exact absurd hc hh
    · cases hk
  · intro o hk
    split at hk
    · cases hk
    · rename_i hc
      simp only [not_or, Classical.not_not] at hc
      refine ⟨?_, ?_, ?_⟩
      · rw [hτ, effO_not hc.2]
      · refine hsame o ?_
        refine Classical.byContradiction fun hh => hc.2 (.inr ⟨by omega, by omega⟩)
      · rintro n b hl hp ⟨o', n', hl', hp'⟩
        have h2 : σm o' = σ o' := by
          rcases hs o' with h1 | h1
          · rw [h1] at hl'; cases hl'
          · exact h1
        rw [h2] at hl'
        have := hG.inv.inj o o' b n n' hl hl' hp hp'
        subst this
        rw [hc.1] at h2
        rw [← h2] at hl
        cases hl

end

theorem stepA_nocall {C : Knot} {E : Env} {base : Nat} {σ : Nat → AObj} {ρ : Operand → AV} {o : Oper} {Y Y' : List Ctx} {e : Eff} (hc : isCallOp o.op = false) (h : stepA C E base σ ρ o Y = some (e, Y')) :
    Y' = Y ∧ ∀ Y2, stepA C E base σ ρ o Y2 = some (e, Y2) := by
  have h0 : ∀ Y2, step0 C E base σ ρ o Y2 = (opA E.P base σ ρ o).map (·, Y2) := by
    intro Y2
    unfold step0
    split
    · rename_i c hop
      split
      · rfl
      · rename_i hb
        exfalso
        obtain ⟨cl, ar, ty⟩ := c
        rw [hop] at hc
        cases cl with
        | builtin b => exact hb b rfl
        | value x => simp [isCallOp] at hc
        | invoke x s => simp [isCallOp] at hc
    · rfl
  unfold stepA at h
  rw [h0] at h
  cases ho : opA E.P base σ ρ o with
  | none => rw [ho] at h; cases h
  | some e' =>
    rw [ho] at h
    simp only [Option.map_some] at h
    cases hb : e'.wr.all (fun q => Nat.blt q.1 base) with
    | false => rw [hb] at h; cases h
    | true =>
      rw [hb] at h
      cases h
      refine ⟨rfl, fun Y2 => ?_⟩
      unfold stepA
      rw [h0, ho]
      simp only [Option.map_some]
      rw [hb]
      rfl

theorem wantA_congr {ops : Array Oper} {T T' : Tmps} {o : Oper} (h : ∀ d ∈ o.looksAt ops, getT T d = getT T' d) : wantA ops T o = wantA ops T' o := by
  unfold wantA
  split
  · rfl
  · rename_i j want hg
    split
    · rfl
    · rename_i d hd
      rw [h d (by
        unfold Oper.looksAt
        rw [hg]
        refine List.mem_append_right _ ?_
        simp only
        rw [hd]
        simp)]

end Go.AM

namespace Go.AM

section
variable {C : Knot} {E : Env} {m : Nat} {ops : Array Oper} {st st' : St} {Y Y' : List Ctx} {fs : List Foot} (t : Trace C E ops ops.toList st Y st' Y' fs)

def Closed (ops : Array Oper) (D : Nat → Bool) : Prop := ∀ (j : Nat) (o : Oper), ops[j]? = some o → D j = true → ∀ e ∈ o.after, Region.binds .any e = true → D e.on = true

def Rdy (ops : Array Oper) (D : Nat → Bool) (j : Nat) : Prop := D j = false ∧ ∀ o, ops[j]? = some o → ∀ e ∈ o.after, Region.binds .any e = true → D e.on = true

def addD (D : Nat → Bool) (j : Nat) : Nat → Bool := fun i => D i || (i == j)

theorem addD_same {D : Nat → Bool} {j : Nat} : addD D j j = true := by simp [addD]
theorem addD_ne {D : Nat → Bool} {i j : Nat} (h : i ≠ j) : addD D j i = D i := by simp [addD, h]

theorem Closed.add {D : Nat → Bool} {j : Nat} (h : Closed ops D) (hr : Rdy ops D j) : Closed ops (addD D j) := by
  intro i o hi hD e he hb
  by_cases hij : i = j
  · subst hij
    have := hr.2 o hi e he hb
    simp [addD, this]
  · rw [addD_ne hij] at hD
    have := h i o hi hD e he hb
    simp [addD, this]

theorem open_before (hd : DrawOk ops) {D : Nat → Bool} (hc : Closed ops D) {i j : Nat} (hr : Rdy ops D j) (hij : i < j) (hi : D i = false) : unord ops i j := by
  refine ⟨?_, ?_⟩
  · cases hb : ((befA ops).getD i 0).testBit j with
    | false => rfl
    | true => have := befA_lt hd.lt hb; omega
  · cases hb : ((befA ops).getD j 0).testBit i with
    | false => rfl
    | true =>
      have : D i = true := befA_spec (D := fun k => D k = true) (G := fun k => D k = true ∨ k = j) (fun k o hk hg e he hbb => by
        rcases hg with hg | rfl
        · exact hc k o hk hg e he hbb
        · exact hr.2 o hk e he hbb) (fun k hk => .inl hk) hb (.inr rfl)
      rw [hi] at this; cases this

theorem open_after (hd : DrawOk ops) {D : Nat → Bool} (hc : Closed ops D) {i j : Nat} (hr : Rdy ops D j) (hij : j < i) (hi : D i = true) : unord ops i j := by
  refine ⟨?_, ?_⟩
  · cases hb : ((befA ops).getD i 0).testBit j with
    | false => rfl
    | true =>
      have : D j = true := befA_spec (D := fun k => D k = true) (G := fun k => D k = true) (fun k o hk hg e he hbb => hc k o hk hg e he hbb) (fun k hk => hk) hb hi
      rw [hr.1] at this; cases this
  · cases hb : ((befA ops).getD j 0).testBit i with
    | false => rfl
    | true => have := befA_lt hd.lt hb; omega

theorem unord.symm {i j : Nat} (h : unord ops i j) : unord ops j i := ⟨h.2, h.1⟩

section
variable (hd : DrawOk ops) (hf : feetOk ops fs = true) {D : Nat → Bool} (hc : Closed ops D) {j : Nat} (hj : j < ops.size) (hr : Rdy ops D j)
 include hd hf hc hj hr

theorem Trace.see_agree {o : Nat} (ho : o ∈ (t.ft j).see) : t.SD D o = atO (t.ss j).σ o := by
  rw [(t.chain j (Nat.le_of_lt hj)).1 o]
  unfold Trace.SD
  rw [← foldSel_ext (sel := fun i => Nat.blt i j) j _ (fun i hi => by rw [Nat.blt_eq]; exact hi),
    ← foldSel_stop (j := j) _ ops.size (Nat.le_of_lt hj) (fun i h1 _ => by
      cases hb : Nat.blt i j with
      | false => rfl
      | true => rw [Nat.blt_eq] at hb; omega)]
  refine foldSel_congr (t.hitS o) (fun i y => t.fS_not y) (fun i y y' => t.fS_hit y y') _ _ ?_
  intro i hi hh
  have hw := t.hit_wr hi hh
  rcases Nat.lt_trichotomy i j with h | h | h
  · have hb : Nat.blt i j = true := by rw [Nat.blt_eq]; exact h
    rw [hb]
    cases hD : D i with
    | true => rfl
    | false => exact absurd ho ((t.apart hf hi hj (by omega) (open_before hd hc hr h hD)).1 o hw)
  · subst h
    rw [hr.1]
    cases hb : Nat.blt i i with
    | false => rfl
    | true => rw [Nat.blt_eq] at hb; omega
  · have hb : Nat.blt i j = false := by
      cases hb : Nat.blt i j with
      | false => rfl
      | true => rw [Nat.blt_eq] at hb; omega
    rw [hb]
    cases hD : D i with
    | false => rfl
    | true => exact absurd ho ((t.apart hf hi hj (by omega) (open_after hd hc hr h hD)).1 o hw)

 omit hf in
theorem Trace.tmp_agree {o : Oper} (hoj : ops[j]? = some o) {x : Nat} (hx : x ∈ o.looksAt ops) : getT (t.TD D) x = getT (t.ss j).tmps x := by
  rw [(t.chain j (Nat.le_of_lt hj)).2.1 x, t.getTD]
  rw [← foldSel_ext (sel := fun i => Nat.blt i j) j _ (fun i hi => by rw [Nat.blt_eq]; exact hi),
    ← foldSel_stop (j := j) _ ops.size (Nat.le_of_lt hj) (fun i h1 _ => by
      cases hb : Nat.blt i j with
      | false => rfl
      | true => rw [Nat.blt_eq] at hb; omega)]
  refine foldSel_congr (fun i => dstA ops i = some x) (fun i y hn => if_neg hn) (fun i y y' hh => by
    have hh' : dstA ops i = some x := hh
    show (if dstA ops i = some x then _ else _) = (if dstA ops i = some x then _ else _)
    rw [if_pos hh', if_pos hh']) _ _ ?_
  intro i hi hh
  have hoi : ops[i]? = some ops[i] := Array.getElem?_eq_getElem hi
  have hh' : ops[i].dst = some x := by
    have h0 : dstA ops i = some x := hh
    rwa [dstA_some hoi] at h0
  rcases Nat.lt_trichotomy i j with h | h | h
  · have hb : Nat.blt i j = true := by rw [Nat.blt_eq]; exact h
    rw [hb]
    cases hD : D i with
    | true => rfl
    | false =>
      rcases hd.fwd i j _ _ hoi hoj h with h1 | h1
      · rw [(open_before hd hc hr h hD).2] at h1; cases h1
      · exact absurd hx (h1 x hh')
  · subst h
    rw [hr.1]
    cases hb : Nat.blt i i with
    | false => rfl
    | true => rw [Nat.blt_eq] at hb; omega
  · have hb : Nat.blt i j = false := by
      cases hb : Nat.blt i j with
      | false => rfl
      | true => rw [Nat.blt_eq] at hb; omega
    rw [hb]
    cases hD : D i with
    | false => rfl
    | true =>
      rcases hd.back j i _ _ hoj hoi h with h1 | h1
      · rw [(open_after hd hc hr h hD).1] at h1; cases h1
      · exact absurd hx (h1 x hh')

theorem Trace.lvl_agree (hcall : (t.ft j).call = true) : t.YD D = t.ys j := by
  rw [(t.chain j (Nat.le_of_lt hj)).2.2.1]
  unfold Trace.YD
  rw [← foldSel_ext (sel := fun i => Nat.blt i j) j _ (fun i hi => by rw [Nat.blt_eq]; exact hi),
    ← foldSel_stop (j := j) _ ops.size (Nat.le_of_lt hj) (fun i h1 _ => by
      cases hb : Nat.blt i j with
      | false => rfl
      | true => rw [Nat.blt_eq] at hb; omega)]
  refine foldSel_congr (fun i => (t.ft i).call = true) (fun i y hn => by
      unfold Trace.fY
      cases hb : (t.ft i).call with
      | true => exact absurd hb hn
      | false => rfl) (fun i y y' hh => by
      have hh' : (t.ft i).call = true := hh
      unfold Trace.fY; rw [hh']; rfl) _ _ ?_
  intro i hi hh
  rcases Nat.lt_trichotomy i j with h | h | h
  · have hb : Nat.blt i j = true := by rw [Nat.blt_eq]; exact h
    rw [hb]
    cases hD : D i with
    | true => rfl
    | false => exact absurd ⟨hh, hcall⟩ (t.apart hf hi hj (by omega) (open_before hd hc hr h hD)).2.2
  · subst h
    rw [hr.1]
    cases hb : Nat.blt i i with
    | false => rfl
    | true => rw [Nat.blt_eq] at hb; omega
  · have hb : Nat.blt i j = false := by
      cases hb : Nat.blt i j with
      | false => rfl
      | true => rw [Nat.blt_eq] at hb; omega
    rw [hb]
    cases hD : D i with
    | false => rfl
    | true => exact absurd ⟨hh, hcall⟩ (t.apart hf hi hj (by omega) (open_after hd hc hr h hD)).2.2

theorem Trace.SD_add (o : Nat) : t.SD (addD D j) o = match t.rs j with | none => t.SD D o | some e => effO (t.SD D) (t.base j) e o := by
  by_cases hh : t.hitS o j
  · have h1 : t.SD (addD D j) o = t.fS o j (t.SD D o) := by
      refine foldSel_last (t.hitS o) (fun i y => t.fS_not y) (fun i y y' => t.fS_hit y y') hh addD_same _ _ _ hj ?_
      intro i hji hi hs hhi
      rw [addD_ne (by omega)] at hs
      exact (t.apart hf hi hj (by omega) (open_after hd hc hr hji hs)).2.1 o (t.hit_wr hi hhi) (t.hit_wr hj hh)
    rw [h1]
    obtain ⟨e, he, hhe⟩ := hh
    unfold Trace.fS
    rw [he]
    exact effO_hit hhe
  · have h1 : t.SD (addD D j) o = t.SD D o := by
      refine foldSel_congr (t.hitS o) (fun i y => t.fS_not y) (fun i y y' => t.fS_hit y y') _ _ ?_
      intro i hi hhi
      refine addD_ne ?_
      rintro rfl; exact hh hhi
    rw [h1]
    split
    · rfl
    · rename_i e he
      exact (effO_not fun hx => hh ⟨e, he, hx⟩).symm

 omit hf hc in
theorem Trace.TD_add (x : Nat) : getT (t.TD (addD D j)) x = getT (putDst (t.TD D) (dstA ops j) (t.val j)) x := by
  rw [getT_putDst, t.getTD, t.getTD]
  have hoj : ops[j]? = some ops[j] := Array.getElem?_eq_getElem hj
  have hnot : ∀ i y, ¬ dstA ops i = some x → t.fT x i y = y := fun i y hn => if_neg hn
  have hhit : ∀ i y y', dstA ops i = some x → t.fT x i y = t.fT x i y' := fun i y y' hh => by unfold Trace.fT; rw [if_pos hh, if_pos hh]
  by_cases hx : dstA ops j = some x
  · rw [if_pos hx]
    have h1 := foldSel_last (f := t.fT x) (fun i => dstA ops i = some x) hnot hhit (sel := addD D j) hx addD_same .bot ops.size (getT st.tmps x) hj (by
      intro i hji hi _ hhi
      have hoi : ops[i]? = some ops[i] := Array.getElem?_eq_getElem hi
      have h0 : dstA ops i = some x := hhi
      rw [dstA_some hoi] at h0
      rw [dstA_some hoj] at hx
      exact hd.dst j i _ _ hoj hoi hji x hx h0)
    rw [h1]
    unfold Trace.fT
    rw [if_pos hx]
  · rw [if_neg hx]
    refine foldSel_congr (fun i => dstA ops i = some x) hnot hhit _ _ ?_
    intro i hi hhi
    refine addD_ne ?_
    rintro rfl; exact hx hhi

theorem Trace.YD_add : t.YD (addD D j) = bif (t.ft j).call then t.ys (j + 1) else t.YD D := by
  have hnot : ∀ i y, ¬ (t.ft i).call = true → t.fY i y = y := fun i y hn => by
    unfold Trace.fY
    cases hb : (t.ft i).call with
    | true => exact absurd hb hn
    | false => rfl
  have hhit : ∀ i y y', (t.ft i).call = true → t.fY i y = t.fY i y' := fun i y y' hh => by unfold Trace.fY; rw [hh]; rfl
  cases hcall : (t.ft j).call with
  | true =>
    have h1 := foldSel_last (f := t.fY) (fun i => (t.ft i).call = true) hnot hhit (sel := addD D j) hcall addD_same [] ops.size Y hj (by
      intro i hji hi hs hhi
      rw [addD_ne (by omega)] at hs
      exact (t.apart hf hi hj (by omega) (open_after hd hc hr hji hs)).2.2 ⟨hhi, hcall⟩)
    show foldSel t.fY (addD D j) ops.size Y = _
    rw [h1]
    unfold Trace.fY
    rw [hcall]
    rfl
  | false =>
    refine foldSel_congr (fun i => (t.ft i).call = true) hnot hhit _ _ ?_
    intro i hi hhi
    refine addD_ne ?_
    rintro rfl
    have h0 : (t.ft i).call = true := hhi
    rw [hcall] at h0; cases h0

end

/-- What holds when the operations of D have come up. -/
def DInv (M0 : Mem) (w0 : World) (R : List Nat) (Φ0 : List Map) (φ0 : Map) (nt k : Nat) (D : Nat → Bool) (a : Act) (w : World) : Prop :=
  Closed ops D ∧ a.tmps.size = nt ∧ DefOk k w a.defers ∧
    ∃ M φ Φ, Step M0 w0 R Φ0 Y φ0 (atO st.σ) M w Φ (t.YD D) φ (t.SD D) ∧ TRel φ (LOf R) M (t.TD D) a.tmps ∧
      (∀ o, st.σ.length ≤ o → (∀ i, i < ops.size → D i = true → ¬ (t.base i ≤ o ∧ o < t.base i + t.new i)) → φ o = none) ∧ (∀ o, o < st.σ.length → φ o = φ0 o)

theorem draw_step (hK : KnotOk E C m) (hd : DrawOk ops) (hf : feetOk ops fs = true) {M0 : Mem} {w0 : World} {R : List Nat} {Φ0 : List Map} {φ0 : Map} {nt k : Nat} {F : Fence} (hA : Amb F w0 R)
    (hG0 : Good M0 w0 R Φ0 Y φ0 (atO st.σ)) (hops : ∀ o ∈ ops.toList, ∀ d, o.dst = some d → d < nt) {D : Nat → Bool} {j : Nat} (hj : j < ops.size) (hr : Rdy ops D j) {a : Act} {w : World} {n : Nat}
    {K : Act → World → Prop} {Q : Exit → Act → World → Prop} (hI : DInv t M0 w0 R Φ0 φ0 nt k D a w) (hK' : ∀ a' w', DInv t M0 w0 R Φ0 φ0 nt k (addD D j) a' w' → K a' w') : wpOpIn F n E.P ops Q j K a w := by
  obtain ⟨hc, hnt, hdf, M, φ, Φ, hst, htm, hfr, hpin⟩ := hI
  have hoj : ops[j]? = some ops[j] := Array.getElem?_eq_getElem hj
  have hom : ops[j] ∈ ops.toList := by simp
  have hAw : Amb F w R := hA.keep hG0 hst.frame (fun _ h => h)
  have hagree : ∀ x ∈ ops[j].looksAt ops, getT (t.TD D) x = getT (t.ss j).tmps x := fun x hx => t.tmp_agree hd hc hj hr hoj hx
  have hbase0 : st.σ.length ≤ t.base j := by
    have := t.base_mono (Nat.zero_le j) (Nat.le_of_lt hj)
    unfold Trace.base at this
    rwa [t.s0] at this
  have hSD := t.SD_add hd hf hc hj hr
  have hTD := t.TD_add hd (D := D) hj hr
  have hYD := t.YD_add hd hf hc hj hr
  have hnext := t.next hj
  have hdst := dstA_some hoj
  have hrow := t.rowAt hoj
  have hval : t.val j = match t.rs j with | none => .tup [] | some e => e.val := rfl
  have hnew : t.new j = match t.rs j with | none => 0 | some e => e.news.length := rfl
  -- the temporaries afterwards
  have tmps' : ∀ {M' : Mem} {φ' : Map} {v : Value}, φ.le φ' → M.le M' → ARel φ' (LOf R) M' (t.val j) v → TRel φ' (LOf R) M' (t.TD (addD D j)) (a.put ops[j].dst v).tmps := by
    intro M' φ' v hle hM hv x
    rw [hTD x, hdst]
    exact putDst_rel (dst := ops[j].dst) (fun y => (htm y).mono hle (fun _ _ h => h) hM) (fun d hd' => by rw [hnt]; exact hops _ hom d hd') hv x
  have fresh_j : ∀ o, t.base j ≤ o → o < t.base (j + 1) → φ o = none := by
    intro o h1 h2
    refine hfr o (by omega) ?_
    intro i hi hDi
    rintro ⟨h3, h4⟩
    have hij : i ≠ j := by rintro rfl; rw [hr.1] at hDi; cases hDi
    rcases Nat.lt_or_ge i j with h | h
    · have h5 := (t.next hi).2.2.2.2.1
      have h6 := t.base_mono (i := i + 1) (j := j) (by omega) (Nat.le_of_lt hj)
      omega
    · have h6 := t.base_mono (i := j + 1) (j := i) (by omega) (Nat.le_of_lt hi)
      omega
  unfold wpOpIn
  rw [hoj]
  simp only
  generalize hrs : t.rs j = rj at *
  generalize hft : t.ft j = fj at *
  generalize t.ss (j + 1) = s1 at *
  generalize t.ys (j + 1) = y1 at *
  cases hrow with
  | skip hw =>
    rw [← wantA_congr hagree] at hw
    rw [wantA_sound htm hw]
    simp only [Bool.false_eq_true, if_false]
    refine ⟨fun f _ => hAw.fn f, hK' _ _ ⟨hc.add hr, by rw [put_size]; exact hnt, by rw [put_defers]; exact hdf, M, φ, Φ, ?_, ?_, ?_, hpin⟩⟩
    · have e1 : t.SD (addD D j) = t.SD D := funext fun o => hSD o
      have e2 : t.YD (addD D j) = t.YD D := hYD
      rw [e1, e2]; exact hst
    · exact tmps' (fun _ _ h => h) (fun _ _ _ h => h) (by rw [hval]; exact .tup (vs := #[]) .nil)
    · intro o ho hn
      refine hfr o ho fun i hi hDi => hn i hi ?_
      simp [addD, hDi]
  | step hw hs =>
    rename_i see e
    rw [← wantA_congr hagree] at hw
    rw [wantA_sound htm hw]
    simp only [if_true]
    -- the levels
    have hY : stepA C E (t.ss j).σ.length (maskO (atO (t.ss j).σ) see) (evalR (t.ss j).tmps (opTmps ops[j])) ops[j] (t.YD D) = some (e, t.YD (addD D j)) := by
      cases hcall : isCallOp ops[j].op with
      | true =>
        have h1 : t.YD D = t.ys j := t.lvl_agree hd hf hc hj hr (by rw [hft]; exact hcall)
        rw [hYD, h1, hcall]
        exact hs
      | false =>
        obtain ⟨h1, h2⟩ := stepA_nocall hcall hs
        rw [hYD, hcall]
        exact h2 _
    have hsub : ∀ o, maskO (atO (t.ss j).σ) see o = .dead ∨ maskO (atO (t.ss j).σ) see o = t.SD D o := by
      intro o
      unfold maskO
      cases hb : see.contains o with
      | false => exact .inl rfl
      | true =>
        right
        simp only [cond_true]
        refine (t.see_agree hd hf hc hj hr ?_).symm
        rw [hft]
        simpa using hb
    have hnl : 1 ≤ t.base (j + 1) - t.base j := by
      have := hnext.2.2.2.2.2 e rfl
      omega
    have hnl2 : t.base j + e.news.length ≤ t.base (j + 1) := by
      have := hnext.2.2.2.2.1
      rw [hnew] at this
      exact this
    refine stepA_sound hK hY (hst.good.sub hsub) ?_ (fresh_j _ (Nat.le_refl _) (by show t.base j < _; omega)) (fun o h1 h2 => fresh_j o h1 (by
      have h3 : o < t.base j + e.news.length := h2
      omega)) ?_ hAw ?_
    · intro o ho
      unfold maskO
      cases see.contains o with
      | false => rfl
      | true => simp [atO, ho]
    · intro x
      cases x with
      | tmp i =>
        simp only [evalR]
        cases hb : (opTmps ops[j]).contains i with
        | false => exact .bot
        | true =>
          simp only [cond_true]
          rw [← hagree i (by
            unfold Oper.looksAt
            refine List.mem_append_left _ ?_
            have hb' : i ∈ opTmps ops[j] := by simpa using hb
            unfold opTmps at hb'
            obtain ⟨x, hx, hm⟩ := List.mem_filterMap.1 hb'
            refine List.mem_filterMap.2 ⟨x, hx, ?_⟩
            cases x <;> first | exact hm | cases hm)]
          exact htm i
      | const v => exact eval_rel htm (.const v)
      | global g => exact .bot
      | func g => exact eval_rel htm (.func g)
    · rintro v w' ⟨M', φ', Φ', h1, h2, h3, h4⟩
      have hbj : (t.ss j).σ.length = t.base j := rfl
      rw [hbj] at h1 h3
      have hwh := Step.whole hst.good hsub h1 h2 h3 (τ := t.SD (addD D j)) (fun o => hSD o)
      refine hK' _ _ ⟨hc.add hr, by rw [put_size]; exact hnt, ?_, M', φ', Φ', hst.trans hwh, ?_, ?_, ?_⟩
      · rw [put_defers]; exact hdf.keep hst.good hwh.frame (fun _ h => h)
      · exact tmps' h2 hwh.frame.mem (by rw [hval]; exact h4)
      · intro o ho hn
        have hnj := hn j hj addD_same
        rw [hnew] at hnj
        rw [h3 o (by
          simp only at hnj
          omega)]
        refine hfr o ho fun i hi hDi => hn i hi ?_
        simp [addD, hDi]
      · intro o ho
        rw [h3 o (.inl (by omega))]
        exact hpin o ho

end
end Go.AM

namespace Go.AM

def openN (listed : Array Bool) : Nat := (listed.toList.filter (!·)).length

theorem openN_set {listed : Array Bool} {j : Nat} (hj : listed[j]? = some false) : openN (listed.setIfInBounds j true) + 1 = openN listed := by
  unfold openN
  obtain ⟨hlt, hv⟩ := Array.getElem?_eq_some_iff.1 hj
  have key : ∀ (l : List Bool) (j : Nat), l[j]? = some false → ((l.set j true).filter (!·)).length + 1 = (l.filter (!·)).length := by
    intro l
    induction l with
    | nil => intro j h; simp at h
    | cons b r ih =>
      intro j h
      cases j with
      | zero => simp at h; subst h; simp
      | succ j =>
        simp at h
        have := ih j h
        cases b
        · simp only [List.set_cons_succ, List.filter_cons, Bool.not_false, if_true, List.length_cons]
          omega
        · simp only [List.set_cons_succ, List.filter_cons, Bool.not_true, Bool.false_eq_true, if_false]
          exact this
  have := key listed.toList j (by simpa using hj)
  rw [Array.toList_setIfInBounds]
  exact this

section
variable {C : Knot} {E : Env} {m : Nat} {ops : Array Oper} {st st' : St} {Y Y' : List Ctx} {fs : List Foot} (t : Trace C E ops ops.toList st Y st' Y' fs)

theorem DInv.congr {M0 : Mem} {w0 : World} {R : List Nat} {Φ0 : List Map} {φ0 : Map} {nt k : Nat} {D D' : Nat → Bool} {a : Act} {w : World} (h : ∀ i, i < ops.size → D i = D' i) (hlt : ∀ i, D' i = true → i < ops.size)
    (hlt' : ∀ i, D i = true → i < ops.size) (hI : DInv t M0 w0 R Φ0 φ0 nt k D a w) : DInv t M0 w0 R Φ0 φ0 nt k D' a w := by
  have : D = D' := by
    funext i
    by_cases hi : i < ops.size
    · exact h i hi
    · cases h1 : D i with
      | true => exact absurd (hlt' i h1) hi
      | false =>
        cases h2 : D' i with
        | true => exact absurd (hlt i h2) hi
        | false => rfl
  rw [← this]; exact hI

theorem draw_any (hK : KnotOk E C m) (hd : DrawOk ops) (hf : feetOk ops fs = true) {M0 : Mem} {w0 : World} {R : List Nat} {Φ0 : List Map} {φ0 : Map} {nt k : Nat} {F : Fence} (hA : Amb F w0 R)
    (hG0 : Good M0 w0 R Φ0 Y φ0 (atO st.σ)) (hops : ∀ o ∈ ops.toList, ∀ d, o.dst = some d → d < nt) {n : Nat} {Q : Exit → Act → World → Prop}
    (hQ : ∀ D a w, (∀ i, i < ops.size → D i = true) → DInv t M0 w0 R Φ0 φ0 nt k D a w → Q .normal a w) :
    ∀ (fuel : Nat) (listed : Array Bool) (a : Act) (w : World), listed.size = ops.size → openN listed ≤ fuel → DInv t M0 w0 R Φ0 φ0 nt k (fun i => listed.getD i false) a w →
      wpAnyIn F n E.P .any ops Q fuel listed a w := by
  have bound : ∀ (listed : Array Bool), listed.size = ops.size → ∀ i, listed.getD i false = true → i < ops.size := by
    intro listed hs i hi
    refine Nat.lt_of_not_le fun h => ?_
    simp [Array.getD, Nat.not_lt.2 (hs ▸ h)] at hi
  have least : ∀ (listed : Array Bool), listed.size = ops.size → Region.ready .any ops listed = [] → ∀ i, i < ops.size → listed.getD i false = true := by
    intro listed hs hnil i
    induction i using Nat.strongRecOn with
    | _ i ih =>
      intro hi
      cases hv : listed.getD i false with
      | true => rfl
      | false =>
        exfalso
        have hm : i ∈ Region.ready .any ops listed := by
          rw [mem_ready]
          refine ⟨?_, ops[i], Array.getElem?_eq_getElem hi, fun e he hbd => ?_⟩
          · have hlt : i < listed.size := by rw [hs]; exact hi
            simp [Array.getD, hlt] at hv ⊢
            exact hv
          · have hlt := hd.lt i _ (Array.getElem?_eq_getElem hi) e he hbd
            exact ih e.on hlt (by omega)
        rw [hnil] at hm
        cases hm
  intro fuel
  induction fuel with
  | zero =>
    intro listed a w hs hn hI
    have hall : ∀ i, i < ops.size → listed.getD i false = true := by
      intro i hi
      cases hv : listed.getD i false with
      | true => rfl
      | false =>
        exfalso
        have hlt : i < listed.size := by rw [hs]; exact hi
        have hg : listed[i]? = some false := by
          simp [Array.getD, hlt] at hv
          rw [Array.getElem?_eq_getElem hlt, hv]
        have := openN_set hg
        omega
    refine ⟨?_, hQ _ a w hall hI⟩
    cases hr : Region.ready .any ops listed with
    | nil => rfl
    | cons x xs =>
      exfalso
      have hx : x ∈ Region.ready .any ops listed := by rw [hr]; exact List.mem_cons_self ..
      rw [mem_ready] at hx
      obtain ⟨h0, o, ho, _⟩ := hx
      have hlt := (Array.getElem?_eq_some_iff.1 ho).1
      have h1 := hall x hlt
      have hlt2 : x < listed.size := by rw [hs]; exact hlt
      simp [Array.getD, hlt2] at h0 h1
      rw [h0] at h1; cases h1
  | succ fuel ih =>
    intro listed a w hs hn hI
    refine ⟨fun hnil => hQ _ a w (least listed hs hnil) hI, fun j hj => ?_⟩
    rw [mem_ready] at hj
    obtain ⟨h0, o, ho, hall⟩ := hj
    have hlt := (Array.getElem?_eq_some_iff.1 ho).1
    have hlt2 : j < listed.size := by rw [hs]; exact hlt
    have hg : listed[j]? = some false := by
      simp [Array.getD, hlt2] at h0
      rw [Array.getElem?_eq_getElem hlt2, h0]
    have hr : Rdy ops (fun i => listed.getD i false) j := by
      refine ⟨?_, fun o' ho' e he hb => ?_⟩
      · simp [Array.getD, hlt2] at h0 ⊢
        exact h0
      · rw [ho] at ho'; cases ho'
        exact hall e he hb
    refine draw_step t hK hd hf hA hG0 hops hlt hr hI fun a' w' hI' => ?_
    refine ih _ a' w' (by simpa using hs) ?_ ?_
    · have := openN_set hg
      omega
    · refine hI'.congr t (fun i hi => ?_) (bound _ (by simpa using hs)) (fun i hi => ?_)
      · by_cases hij : i = j
        · subst hij
          rw [addD_same]
          simp [hlt2]
        · rw [addD_ne hij, getD_set_ne false (Ne.symm hij)]
      · by_cases hij : i = j
        · subst hij; exact hlt
        · rw [addD_ne hij] at hi
          exact bound listed hs i hi

end

section
variable {C : Knot} {E : Env} {m : Nat} {M : Mem} {w : World} {R : List Nat} {Φ : List Map} {Y Y' : List Ctx} {φ : Map}

theorem Good.drew {σ : Nat → AObj} (h : Good M w R Φ Y φ σ) (n : Nat) : Step M w R Φ Y φ σ M { w with drawn := n } Φ Y φ σ :=
  Step.drew h n (h.lvs.keep (S := fun _ => False) (Frame.drew n) (h.inv.drew n).froz (fun _ _ h => h) (fun _ _ h => h))

theorem regOk_spec {n : Nat} {ops : Array Oper} {draw : Bool} (h : regOk n ops draw = true) : (∀ o ∈ ops.toList, ∀ d, o.dst = some d → d < n) ∧ (draw = true → drawOk ops = true) := by
  unfold regOk at h
  rw [Bool.and_eq_true] at h
  refine ⟨fun o ho d hd => ?_, fun hdr => ?_⟩
  · have := List.all_eq_true.1 h.1 o ho
    rw [hd] at this
    rwa [Nat.blt_eq] at this
  · have := h.2
    rw [hdr] at this
    simpa using this

theorem region_sound (hE : EnvOk E) (hK : KnotOk E C m) {id : Nat} {ops : Array Oper} {draw : Bool} {st st' : St} {a : Act} {F : Fence} {n k : Nat} {Q : Exit → Act → World → Prop}
    (h : regionA C E ops draw st Y = some (st', Y')) (hok : regOk a.tmps.size ops draw = true) (hP : Pre M w R Φ Y φ st a F k)
    (hQ : ∀ a' w', Post M w R Φ Y φ st a k st' Y' a' w' → Q .normal a' w') : (Code.region id ops draw).wpIn F n E.P Q a w := by
  obtain ⟨hops, hdr⟩ := regOk_spec hok
  unfold regionA at h
  cases draw with
  | false =>
    simp only [cond_false] at h
    refine wpIn_region ?_
    have := regA_sound hK (F := F) (n := n) (Q := Q) hops ops.toList 0 (by simp) h hP rfl hQ
    rwa [← List.range_eq_range', Array.length_toList] at this
  | true =>
    simp only [cond_true] at h
    split at h
    rotate_left
    · cases h
    rename_i st1 Y1 fs hdraw
    split at h
    rotate_left
    · cases h
    rename_i hfeet
    cases h
    obtain ⟨fs2, hfs, ⟨t⟩⟩ := opsDraw_trace C E ops ops.toList st Y [] st' Y' fs hdraw
    simp only [List.reverse_nil, List.nil_append] at hfs
    subst hfs
    have hd := drawOk_spec (hdr rfl)
    refine wpIn_region_any hE.mixed ?_
    have hstep := hP.good.drew (w.drawn + 1)
    have hA' : Amb F { w with drawn := w.drawn + 1 } R := hP.amb.keep hP.good hstep.frame (fun _ h => h)
    refine draw_any t hK hd hfeet (M0 := M) (w0 := { w with drawn := w.drawn + 1 }) (R := R) (Φ0 := Φ) (φ0 := φ) (nt := a.tmps.size) (k := k) hA' hstep.good hops ?_ ops.size _ a _ (by simp) ?_ ?_
    · intro D a' w' hall hI
      obtain ⟨_, h1, h2, M', φ', Φ', h3, h4, h5, h6⟩ := hI
      refine hQ a' w' (Post.trans (st1 := st) (a1 := a) hstep rfl rfl (fun _ _ => rfl) ?_)
      have hch := t.chain ops.size (Nat.le_refl _)
      have hsN : t.ss ops.size = st' := by rw [← Array.length_toList]; exact t.sN
      have hyN : t.ys ops.size = Y' := by rw [← Array.length_toList]; exact t.yN
      rw [hsN, hyN] at hch
      obtain ⟨c1, c2, c3, c4⟩ := hch
      have hSD : t.SD D = atO st'.σ := by
        funext o
        rw [c1 o]
        exact foldSel_ext _ _ hall
      have hYD : t.YD D = Y' := by
        exact (foldSel_ext _ _ hall).trans c3.symm
      have hTD : ∀ x, getT (t.TD D) x = getT st'.tmps x := by
        intro x
        rw [c2 x, t.getTD]
        exact foldSel_ext _ _ hall
      rw [hSD, hYD] at h3
      have hb : st.σ.length ≤ st'.σ.length := by
        have := t.base_mono (Nat.zero_le ops.size) (Nat.le_refl _)
        unfold Trace.base at this
        rwa [t.s0, hsN] at this
      refine ⟨M', φ', Φ', h3, ?_, fun x => by rw [← hTD x]; exact h4 x, h1, c4, ?_, ?_, h2⟩
      · intro o ho
        refine h5 o (by omega) ?_
        intro i hi _
        rintro ⟨g1, g2⟩
        have g3 := (t.next hi).2.2.2.2.1
        have g4 := t.base_mono (i := i + 1) (j := ops.size) (by omega) (Nat.le_refl _)
        have g5 : t.base ops.size = st'.σ.length := by unfold Trace.base; rw [hsN]
        omega
      · have := hP.pinL; omega
      · intro o ho
        exact h6 o (Nat.lt_of_lt_of_le ho hP.pinL)
    · unfold openN
      simp
    · have hD : (fun i => (Array.replicate ops.size false).getD i false) = fun _ => false := by
        funext i
        simp only [Array.getD_eq_getD_getElem?, Array.getElem?_replicate]
        split <;> rfl
      rw [hD]
      refine ⟨fun j o _ h => (Bool.false_ne_true h).elim, rfl, hP.defs.keep hP.good hstep.frame (fun _ h => h), M, φ, Φ, ?_, ?_, ?_, fun _ _ => rfl⟩
      · have e1 : t.SD (fun _ => false) = atO st.σ := funext fun o => foldSel_none (fun _ => True) (fun _ _ hn => absurd trivial hn) _ _ (fun _ _ h => by cases h)
        have e2 : t.YD (fun _ => false) = Y := foldSel_none (fun _ => True) (fun _ _ hn => absurd trivial hn) _ _ (fun _ _ h => by cases h)
        rw [e1, e2]
        exact Step.refl hstep.good
      · intro x
        have e3 : getT (t.TD (fun _ => false)) x = getT st.tmps x := by
          rw [t.getTD]
          exact foldSel_none (fun _ => True) (fun _ _ hn => absurd trivial hn) _ _ (fun _ _ h => by cases h)
        rw [e3]
        exact hP.tmps x
      · intro o ho _
        exact hP.fresh o ho

end
end Go.AM

namespace Go.AM

section
variable {M : Mem} {w : World} {R : List Nat} {Φ : List Map} {Y : List Ctx} {φ : Map}

theorem getT_liveT (tmps : Tmps) (x : Nat) : ∀ l, getT (liveT tmps l) x = if x ∈ l then getT tmps x else .bot
  | [] => by simp [liveT, getT]
  | t :: r => by
    simp only [liveT, getT_setT, getT_liveT tmps x r]
    by_cases h : x = t
    · subst h; simp
    · rw [if_neg h]
      by_cases h2 : x ∈ r
      · rw [if_pos h2, if_pos (List.mem_cons_of_mem _ h2)]
      · rw [if_neg h2, if_neg (by simp [h, h2])]

theorem TRel.live {L : LMap} {tmps : Tmps} {vals : Array Value} (h : TRel φ L M tmps vals) (l : List Nat) : TRel φ L M (liveT tmps l) vals := by
  intro x
  rw [getT_liveT]
  split
  · exact h x
  · exact .bot

theorem getT_renT (m : Nat → Option Nat) (x : Nat) : ∀ l, getT (renT m l) x = (getT l x).ren m
  | [] => rfl
  | (t, v) :: r => by
    simp only [renT, getT]
    cases hb : (t == x) with
    | true => rfl
    | false => exact getT_renT m x r

/-- A state that is the same world, otherwise seen. -/
structure Seen (M : Mem) (w : World) (R : List Nat) (Φ : List Map) (Y : List Ctx) (φ : Map) (st : St) (φ' : Map) (st' : St) (a : Act) : Prop where
  step : Step M w R Φ Y φ (atO st.σ) M w Φ Y φ' (atO st'.σ)
  fresh : ∀ o, st'.σ.length ≤ o → φ' o = none
  tmps : TRel φ' (LOf R) M st'.tmps a.tmps
  pin : st'.pin = st.pin
  pinL : st.pin ≤ st'.σ.length
  keep : ∀ o, o < st.pin → φ' o = φ o

theorem Seen.trans {st st1 st2 : St} {φ1 φ2 : Map} {a : Act} (h : Seen M w R Φ Y φ st φ1 st1 a) (h' : Seen M w R Φ Y φ1 st1 φ2 st2 a) : Seen M w R Φ Y φ st φ2 st2 a :=
  ⟨h.step.trans h'.step, h'.fresh, h'.tmps, h'.pin.trans h.pin, by have := h'.pinL; rw [h.pin] at this; exact this,
   fun o ho => (h'.keep o (by rw [h.pin]; exact ho)).trans (h.keep o ho)⟩

theorem Pre.seen {st st' : St} {a : Act} {F : Fence} {k : Nat} {φ' : Map} (hP : Pre M w R Φ Y φ st a F k) (h : Seen M w R Φ Y φ st φ' st' a) : Pre M w R Φ Y φ' st' a F k :=
  ⟨h.step.good, h.fresh, h.tmps, hP.amb, by rw [h.pin]; exact hP.pinF, by rw [h.pin]; exact h.pinL, hP.defs, hP.kle⟩

theorem atO_push (l : List AObj) (x : AObj) : atO (l ++ [x]) = upd (atO l) l.length x := by
  rw [atO_append]
  rfl

theorem owns_ghost {σ : Nat → AObj} {k : Nat} {a : Option Addr} {x : AObj} {b : Nat} (h : owns (upd φ k (some (.ghost a))) (upd σ k x) b) : owns φ σ b := by
  obtain ⟨o, n, hl, hp⟩ := h
  by_cases ho : o = k
  · subst ho; simp at hp
  · rw [upd_ne _ _ ho] at hl hp
    exact ⟨o, n, hl, hp⟩

/-- A new nil slice's object. -/
theorem Step.ghost {l : List AObj} (hG : Good M w R Φ Y φ (atO l)) (hfr : φ l.length = none) :
    Step M w R Φ Y φ (atO l) M w Φ Y (upd φ l.length (some (.ghost none))) (atO (l ++ [.arr [] false true])) := by
  rw [atO_push]
  refine Step.of_top hG (hG.inv.newGhost hfr none false true (by simp) (by simp)) (hG.dom.upd ⟨_, rfl⟩) (Frame.refl _ _ _) ?_
  intro b hb
  exact .inl (owns_ghost hb)

/-- A box's cells, told otherwise. -/
theorem Inv.rebox {L : LMap} {σ : Nat → AObj} {o : Nat} {cs cs' : List AV} (hI : Inv M φ L σ w) (hx : σ o = .box cs) (hc : ∀ xs, ARels φ L M cs xs → ARels φ L M cs' xs) : Inv M φ L (upd σ o (.box cs')) w := by
  have hl : ∀ i, live (upd σ o (.box cs') i) = live (σ i) := by
    intro i
    by_cases e : i = o
    · subst e; rw [upd_same, hx]; rfl
    · rw [upd_ne _ _ e]
  refine ⟨hI.froz, fun i => ?_, fun i j b n n' h1 h2 p1 p2 => ?_, fun i b n h1 p1 off => ?_⟩
  · by_cases e : i = o
    · subst e
      rw [upd_same]
      have := hI.obj i
      rw [hx] at this
      obtain ⟨b, vs, el, fz, hp, hh, hf, hr, h1⟩ := this
      exact ⟨b, vs, el, fz, hp, hh, hf, hc _ hr, h1⟩
    · rw [upd_ne _ _ e]; exact hI.obj i
  · rw [hl] at h1 h2
    exact hI.inj i j b n n' h1 h2 p1 p2
  · rw [hl] at h1
    exact hI.sep i b n h1 p1 off

theorem ARels.set_same {L : LMap} : ∀ {l : List AV} {xs : List Value} (i : Nat) {v : AV}, ARels φ L M l xs → (∀ x, xs[i]? = some x → ARel φ L M v x) → ARels φ L M (l.set i v) xs
  | _, _, _, _, .nil, _ => by simp; exact .nil
  | _, _, 0, _, .cons (x := x) _ hb, h => by simpa using ARels.cons (h x (by simp)) hb
  | _, _, i + 1, _, .cons ha hb, h => by simpa using ARels.cons ha (hb.set_same i fun x hx => h x (by simpa using hx))

theorem adopt_sound {a : Act} {F : Fence} {k : Nat} : ∀ (l : List (Nat × Option Nat × Nat)) {st : St} {φ : Map}, Pre M w R Φ Y φ st a F k → ∃ φ', Seen M w R Φ Y φ st φ' (adoptA l st) a
  | [], st, φ, hP => ⟨φ, Step.refl hP.good, hP.fresh, hP.tmps, rfl, hP.pinL, fun _ _ => rfl⟩
  | (t, none, esz) :: r, st, φ, hP => by
    simp only [adoptA]
    split
    · rename_i hv
      have hfr := hP.fresh _ (Nat.le_refl _)
      have hle : φ.le (upd φ st.σ.length (some (.ghost none))) := Map.le_upd hfr _
      have hs : Seen M w R Φ Y φ st (upd φ st.σ.length (some (.ghost none))) { st with tmps := setT st.tmps t (.sl st.σ.length 0 0 esz false), σ := st.σ ++ [.arr [] false true] } a := by
        refine ⟨Step.ghost hP.good hfr, ?_, ?_, rfl, ?_, ?_⟩
        · intro o ho
          simp at ho
          rw [upd_ne _ _ (by omega)]
          exact hP.fresh o (by omega)
        · intro x
          simp only [getT_setT]
          by_cases hx : x = t
          · subst hx
            rw [if_pos rfl]
            have h1 := hP.tmps x
            rw [hv] at h1
            generalize a.tmps.getD x undef = y at h1
            cases h1 with
            | f hf _ =>
              cases hf
              exact .slN (upd_same _ _ _)
          · rw [if_neg hx]
            exact (hP.tmps x).mono hle (fun _ _ h => h) (fun _ _ _ h => h)
        · have := hP.pinL; simp; omega
        · intro o ho
          have := hP.pinL
          exact upd_ne _ _ (by omega)
      obtain ⟨φ', h'⟩ := adopt_sound r (hP.seen hs)
      exact ⟨φ', hs.trans h'⟩
    · exact adopt_sound r hP
  | (t, some k', esz) :: r, st, φ, hP => by
    simp only [adoptA]
    split
    · rename_i o hv
      split
      · rename_i cells hx
        split
        · rename_i hk
          have hfr := hP.fresh _ (Nat.le_refl _)
          have hle : φ.le (upd φ st.σ.length (some (.ghost none))) := Map.le_upd hfr _
          have hlt : o < st.σ.length := atO_lt (by rw [hx]; simp)
          have hg := Step.ghost hP.good hfr
          have hat : atO (st.σ.set o (.box (cells.set k' (.sl st.σ.length 0 0 esz false))) ++ [.arr [] false true]) = upd (atO (st.σ ++ [.arr [] false true])) o (.box (cells.set k' (.sl st.σ.length 0 0 esz false))) := by
            rw [atO_push, atO_push, atO_set hlt]
            funext i
            rw [List.length_set]
            by_cases h1 : i = o
            · subst h1
              rw [upd_same, upd_ne _ _ (by omega), upd_same]
            · rw [upd_ne _ _ h1]
              by_cases h2 : i = st.σ.length
              · subst h2; rw [upd_same, upd_same]
              · rw [upd_ne _ _ h2, upd_ne _ _ h2, upd_ne _ _ h1]
          have hxo : atO (st.σ ++ [.arr [] false true]) o = .box cells := by
            rw [atO_push, upd_ne _ _ (by omega)]; exact hx
          have hs : Seen M w R Φ Y φ st (upd φ st.σ.length (some (.ghost none))) { st with σ := st.σ.set o (.box (cells.set k' (.sl st.σ.length 0 0 esz false))) ++ [.arr [] false true] } a := by
            refine ⟨?_, ?_, ?_, rfl, ?_, ?_⟩
            · refine hg.trans ?_
              simp only
              rw [hat]
              refine Step.of_top hg.good (hg.good.inv.rebox hxo ?_) ?_ (Frame.refl _ _ _) ?_
              · intro xs hr
                refine hr.set_same k' fun x hxk => ?_
                obtain ⟨y, hy1, hy2⟩ := hr.get hk
                rw [hy1] at hxk
                cases hxk
                cases hy2 with
                | f hf _ =>
                  cases hf
                  exact .slN (upd_same _ _ _)
              · intro i
                by_cases e : i = o
                · subst e
                  rcases hg.good.dom i with h1 | h1
                  · exact .inl h1
                  · rw [hxo] at h1; cases h1
                · rw [upd_ne _ _ e]; exact hg.good.dom i
              · rintro b ⟨i, n, h1, p1⟩
                refine .inl ⟨i, n, ?_, p1⟩
                by_cases e : i = o
                · subst e; rw [hxo]; rfl
                · rwa [upd_ne _ _ e] at h1
            · intro i hi
              simp at hi
              rw [upd_ne _ _ (by omega)]
              exact hP.fresh i (by omega)
            · exact fun x => (hP.tmps x).mono hle (fun _ _ h => h) (fun _ _ _ h => h)
            · have := hP.pinL; simp; omega
            · intro i hi
              have := hP.pinL
              exact upd_ne _ _ (by omega)
          obtain ⟨φ', h'⟩ := adopt_sound r (hP.seen hs)
          exact ⟨φ', hs.trans h'⟩
        · exact adopt_sound r hP
      · exact adopt_sound r hP
    · exact adopt_sound r hP

theorem norm_sound {a : Act} {F : Fence} {k : Nat} {st : St} (ann : Option LoopAnn) (hP : Pre M w R Φ Y φ st a F k) : ∃ φ', Seen M w R Φ Y φ st φ' (normA ann st) a := by
  cases ann with
  | none => exact ⟨φ, Step.refl hP.good, hP.fresh, hP.tmps, rfl, hP.pinL, fun _ _ => rfl⟩
  | some an =>
    simp only [normA]
    have hs0 : Seen M w R Φ Y φ st φ { st with tmps := liveT st.tmps an.live } a := ⟨Step.refl hP.good, hP.fresh, hP.tmps.live _, rfl, hP.pinL, fun _ _ => rfl⟩
    obtain ⟨φ1, hs1⟩ := adopt_sound an.adopt (hP.seen hs0)
    have hs2 := hs0.trans hs1
    have hP1 := hP.seen hs2
    generalize adoptA an.adopt { st with tmps := liveT st.tmps an.live } = st1 at hs2 hP1 ⊢
    clear hs1
    have hnd := gcIds_nodup st1.σ st1.pin (refsT st1.tmps)
    have hGg := hP1.good.gc hnd
    refine ⟨gcMap φ1 (gcIds st1.σ st1.pin (refsT st1.tmps)), hs2.trans ⟨?_, fun o ho => gc_fresh ho, ?_, rfl, gcIds_len _ _ _ hP1.pinF, fun o ho => gcMap_pin _ _ _ hP1.pinF ho⟩⟩
    · exact Step.of_top hP1.good hGg.inv hGg.dom (Frame.refl _ _ _) (fun b hb => .inl (owns_gc hb))
    · intro x
      rw [getT_renT]
      refine (hP1.tmps x).ren fun o o' p h1 h2 => ?_
      obtain ⟨_, h3⟩ := posIn_spec _ o 0 o' h1
      rw [Nat.sub_zero] at h3
      unfold gcMap
      rw [h3]
      exact h2

end
end Go.AM

namespace Go.AM

section
variable {E : Env} {C : Knot} {m : Nat} {M : Mem} {w : World} {R : List Nat} {Φ : List Map} {Y Y' : List Ctx} {φ : Map}

theorem heap_alloc_lt (w : World) (o : Obj) (b : Nat) (h : b < w.heap.size) : (w.alloc o).heap[b]? = w.heap[b]? := heap_push_lt h

theorem append_get_lt {α : Type} {l : List α} {x : α} {i : Nat} (h : i < l.length) : (l ++ [x])[i]? = l[i]? := List.getElem?_append_left h
theorem append_get_eq {α : Type} {l : List α} {x : α} : (l ++ [x])[l.length]? = some x := by simp

/-- The record of a range's loop. -/
theorem enter_loop {F : Fence} {k : Nat} (hA : Amb F w R) (fn : FuncId) (tmps : Array Value) (ps : Array Tmp) (assign body : Code) (P : Program) (hk : k ≤ w.heap.size) {ds : List Deferred} (hd : DefOk k w ds) :
    ∃ l mk w1 D, (Instr.enterLoop fn tmps ps assign body F.round).run P w = .ok (l, mk) w1 ∧ w.heap.size ≤ l ∧
      w1.heap[l]? = some (.loop { state := .ready, pending := none, fn, tmps, params := ps, assign, body, defers := D }) ∧
      (w.heap.size ≤ w1.heap.size ∧ (∀ b, b < w.heap.size → w1.heap[b]? = w.heap[b]?) ∧ w1.tape = w.tape ∧ w1.os = w.os ∧ w1.output = w.output) ∧ DefOk k w1 (mk ++ ds) := by
  obtain ⟨bs, h1, h2, h3⟩ := hd
  rcases hA with rfl | ⟨l0, rec0, rfl, hr, _⟩
  · refine ⟨_, _, _, w.heap.size, run_enterLoop_outer fn tmps ps assign body, by omega, ?_, ?_, ?_⟩
    · have := World.alloc_heap_new (w.alloc (.deferred (some []))) (.loop { state := .ready, pending := none, fn, tmps, params := ps, assign, body, defers := w.heap.size })
      rwa [World.size_alloc] at this
    · refine ⟨by simp; omega, fun b hb => ?_, rfl, rfl, rfl⟩
      rw [heap_alloc_lt _ _ _ (by simp; omega), heap_alloc_lt _ _ _ hb]
    · refine ⟨w.heap.size :: bs, by rw [h1]; rfl, ?_, ?_⟩
      · rw [List.nodup_cons]
        refine ⟨fun hm => ?_, h2⟩
        have := lt_of_heap (h3 _ hm).2
        omega
      · intro b hb
        rcases List.mem_cons.1 hb with rfl | hb
        · refine ⟨hk, ?_⟩
          rw [heap_alloc_lt _ _ _ (by simp)]
          exact World.alloc_heap_new w _
        · refine ⟨(h3 b hb).1, ?_⟩
          have hlt := lt_of_heap (h3 b hb).2
          rw [heap_alloc_lt _ _ _ (by simp; omega), heap_alloc_lt _ _ _ hlt]
          exact (h3 b hb).2
  · refine ⟨_, _, _, rec0.defers, run_enterLoop_inner hr fn tmps ps assign body, Nat.le_refl _, World.alloc_heap_new w _, ?_, ?_⟩
    · exact ⟨by simp, fun b hb => heap_alloc_lt _ _ _ hb, rfl, rfl, rfl⟩
    · refine ⟨bs, by rw [h1]; rfl, h2, fun b hb => ⟨(h3 b hb).1, ?_⟩⟩
      rw [heap_alloc_lt _ _ _ (lt_of_heap (h3 b hb).2)]
      exact (h3 b hb).2

theorem freeze_one {h : AV} {σ σ1 : List AObj} {x : FV} {w : World} {v : Value} (hz : freezeL [h] σ = some ([x], σ1)) (hI : Inv M φ (LOf R) (atO σ) w) (hD : Dom φ (atO σ)) (ha : ARel φ (LOf R) M h v) :
    ∃ M', Frz M φ (LOf R) σ σ1 M' w ∧ FRel M' x v := by
  obtain ⟨M', h1, h2⟩ := freezeL_sound hz hI hD (.cons ha .nil)
  cases h2 with
  | cons h3 _ => exact ⟨M', h1, h3⟩

theorem range_sound (hK : KnotOk E C m) {fid : FuncId} {h : Operand} {params : Array Tmp} {assign body : Code} {st st' : St} {e : AExit} {a : Act} {F : Fence} {n k : Nat} {Q : Exit → Act → World → Prop}
    (hr : rangeA C fid (evalO st.tmps h) params assign body st Y = some (e, st', Y')) (hok : codeOk a.tmps.size (.rangeFunc h params assign body) = true) (hP : Pre M w R Φ Y φ st a F k)
    (hQ : ∀ a' w', Post M w R Φ Y φ st a k st' Y' a' w' → Q (exitOf e) a' w') : (Code.rangeFunc h params assign body).wpIn F n E.P Q a w := by
  unfold rangeA at hr
  split at hr
  rotate_left
  · cases hr
  rename_i g A B σ1 hz
  split at hr
  · cases hr
  rename_i hlen
  simp only at hr
  split at hr
  rotate_left
  · cases hr
  rename_i rv objs Yx hc
  split at hr
  rotate_left
  · cases hr
  rename_i c' hc'
  split at hr
  · cases hr
  rename_i hYl
  cases hr
  simp only [codeOk, Bool.and_eq_true] at hok
  obtain ⟨M1, hF, hfn⟩ := freeze_one hz hP.good.inv hP.good.dom (eval_rel hP.tmps h)
  have hs0 : Step M w R Φ Y φ (atO st.σ) M1 w Φ Y φ (atO σ1) := Step.of_top hP.good hF.inv hF.dom hF.frame (fun b ⟨o, n', hl, hp⟩ => .inl ⟨o, n', hF.live o hl, hp⟩)
  have hG1 := hs0.good
  refine wpIn_rangeFunc fun fn _ => ?_
  obtain ⟨l, mk, w1, D, hent, hl, hrec, ⟨hsz, hkp, htp, hos, hout⟩, hdf⟩ := enter_loop hP.amb fn a.tmps params assign body E.P hP.kle hP.defs
  have hAw1 : Amb F w1 R := by
    rcases hP.amb with h | ⟨l0, rec0, h1, h2, h3⟩
    · exact .inl h
    · exact .inr ⟨l0, rec0, h1, (hkp l0 (lt_of_heap h2)).trans h2, h3⟩
  have hfr1 : Frame (fun _ => False) M1 w M1 w1 := ⟨hsz, fun b hb _ => hkp b hb, fun _ _ _ h => h, fun _ _ _ _ => rfl, htp, hos, hout⟩
  have hfroz1 : ∀ b off v, M1 b off = some v → w1.cell? ⟨b, off, none⟩ = some v := fun b off v hv => by
    rw [cell_congr (hkp b (hG1.inv.memLt hv))]; exact hG1.inv.froz b off v hv
  have hI1 : Inv M1 φ (LOf R) (atO σ1) w1 := hG1.inv.keep hfr1 hfroz1 (fun _ _ h => h) (fun _ _ h => h) (fun _ _ => rfl) hG1.dom (fun _ _ h => h)
  have hL1 : Lvls M1 w1 R Φ Y := hG1.lvs.keep hfr1 hfroz1 (fun _ _ h => h) (fun _ _ h => h)
  have hG1' : Good M1 w1 R Φ Y φ (atO σ1) := ⟨hI1, hG1.dom, hL1, hG1.sep⟩
  have hlenσ : σ1.length = st.σ.length := hF.len
  have hfreshσ : ∀ o, σ1.length ≤ o → φ o = none := fun o ho => hP.fresh o (by omega)
  have hRl : R.length = Y.length := hG1.lvs.lenR
  have hΦl : Φ.length = Y.length := hG1.lvs.lenΦ
  have hlR : l ∉ R := by
    intro hm
    obtain ⟨rec, hh⟩ := hG1.lvs.heap hm
    have := lt_of_heap hh
    omega
  generalize hctx : ({ tmps := st.tmps, σ := σ1, keep := σ1.length, fn := fid, params := params.toList, assign, body, jump := none } : Ctx) = c at hc
  have hcσ : c.σ = σ1 := by rw [← hctx]
  have hck : c.keep = σ1.length := by rw [← hctx]
  have hOk : LvlOk M1 w1 R l φ c := by
    rw [← hctx]
    refine ⟨hI1, hG1.dom, hfreshσ, Nat.le_of_not_lt hlen, Nat.le_refl _, _, hrec, rfl, rfl, rfl, hok.1.2, hok.2, ?_, ⟨φ, ?_, ?_⟩, rfl, rfl⟩
    · intro p hp
      have := List.all_eq_true.1 hok.1.1 p hp
      rwa [Nat.blt_eq] at this
    · exact fun t => (hP.tmps t).mono (fun _ _ h => h) (fun _ _ h => h) hF.le
    · intro o p hp
      refine ⟨?_, hp⟩
      refine Nat.lt_of_not_le fun hh => ?_
      rw [hfreshσ o hh] at hp; cases hp
  -- the levels, with the new one
  have split : ∀ i ci φi, (Y ++ [c])[i]? = some ci → (Φ ++ [φ])[i]? = some φi → (i < Y.length ∧ Y[i]? = some ci ∧ Φ[i]? = some φi) ∨ (i = Y.length ∧ ci = c ∧ φi = φ) := by
    intro i ci φi h1 h2
    by_cases hi : i < Y.length
    · rw [append_get_lt hi] at h1
      rw [append_get_lt (by omega)] at h2
      exact .inl ⟨hi, h1, h2⟩
    · have hi' : i < (Y ++ [c]).length := (List.getElem?_eq_some_iff.1 h1).1
      simp at hi'
      have : i = Y.length := by omega
      subst this
      rw [append_get_eq] at h1
      rw [← hΦl, append_get_eq] at h2
      cases h1; cases h2
      exact .inr ⟨rfl, rfl, rfl⟩
  have hLn : Lvls M1 w1 (R ++ [l]) (Φ ++ [φ]) (Y ++ [c]) := by
    refine ⟨by simp [hRl], by simp [hΦl], ?_, ?_, ?_⟩
    · intro i ci φi ri h1 h2 h3
      rcases split i ci φi h1 h2 with ⟨hi, g1, g2⟩ | ⟨rfl, rfl, rfl⟩
      · rw [append_get_lt (by omega)] at h3
        have := hL1.lv i ci φi ri g1 g2 h3
        rwa [List.take_append_of_le_length (by omega)]
      · rw [← hRl, append_get_eq] at h3
        cases h3
        rw [List.take_append_of_le_length (by omega), ← hRl, List.take_length]
        exact hOk
    · rw [List.nodup_append]
      refine ⟨hG1.lvs.recs, by simp, ?_⟩
      intro x hx y hy
      simp at hy
      subst hy
      rintro rfl; exact hlR hx
    · intro i j ci cj φi φj b h1 h2 h3 h4 h5 h6
      rcases split i ci φi h1 h2 with ⟨hi, g1, g2⟩ | ⟨hi, g1, g2⟩ <;> rcases split j cj φj h3 h4 with ⟨hj, k1, k2⟩ | ⟨hj, k1, k2⟩
      · exact hG1.lvs.sep i j ci cj φi φj b g1 g2 k1 k2 h5 h6
      · subst k1; subst k2
        rw [hcσ] at h6
        exact absurd ⟨i, ci, φi, g1, g2, h5⟩ (hG1.sep b h6)
      · subst g1; subst g2
        rw [hcσ] at h5
        exact absurd ⟨j, cj, φj, k1, k2, h6⟩ (hG1.sep b h5)
      · omega
  have hGn : Good M1 w1 (R ++ [l]) (Φ ++ [φ]) (Y ++ [c]) (gcMap φ []) (atO []) := ⟨inv_nil _ hfroz1, dom_nil, hLn, fun _ hb => (owns_none hb).elim⟩
  -- the call
  cases hv : a.eval h with
  | func fv first cap =>
    rw [hv] at hfn
    cases hfn with
    | fn hA1 hB1 =>
      obtain ⟨hcf, hci⟩ := hK.call g _ [] _ rv objs Yx hc
      have hargs : ARels (gcMap φ []) (LOf (R ++ [l])) M1 (A.map ofFV ++ .yld Y.length :: B.map ofFV) (first ++ #[Value.func (.yield l) #[] #[]] ++ cap).toList := by
        rw [Array.toList_append, Array.toList_append, List.append_assoc]
        refine (ARels.ofFVs hA1).append (.cons (.yld ?_) (ARels.ofFVs hB1))
        show (R ++ [l])[Y.length]? = some l
        rw [← hRl, append_get_eq]
      have hcall := hci M1 w1 (R ++ [l]) (Φ ++ [φ]) (gcMap φ []) _ (n - 1) hGn (fun o _ => by simp [gcMap_nil]) hargs (by rw [hargs.length, Array.length_toList])
      refine ⟨l, mk, w1, { target := .fn (.func g) cap, args := first ++ #[Value.func (.yield l) #[] #[]] }, w1, g, first ++ #[Value.func (.yield l) #[] #[]] ++ cap, w1, hent, ?_, fun f _ => hP.amb.fn f, ?_, hP.amb.depth, ?_⟩
      · simp only [resolve, hv, Deferred.ofValue, Sem.run_pure]
        simp [Act.eval]
      · simp only [invoke]
        exact hcf _ _
      · refine (hAw1.calls ?_).mono (fun _ _ h => h)
        refine hcall.mono ?_
        intro en w' hp
        cases en with
        | panicked ch => exact hp.elim
        | outgrown => exact hp.elim
        | returned v =>
          obtain ⟨M2, φ1, Φ2, hst, _, _, _, _⟩ := hp
          have hYx : Yx.length = Y.length + 1 := by simpa using hst.lvls.len
          have hΦx : Φ2.length = Y.length + 1 := by rw [hst.good.lvs.lenΦ, hYx]
          obtain ⟨φ2, hφ2⟩ : ∃ φ2, Φ2[Y.length]? = some φ2 := ⟨_, List.getElem?_eq_getElem (by omega)⟩
          have hrl : (R ++ [l])[Y.length]? = some l := by rw [← hRl, append_get_eq]
          have hLv := hst.good.lvs.lv Y.length c' φ2 l hc' hφ2 hrl
          have htake : (R ++ [l]).take Y.length = R := by rw [List.take_append_of_le_length (by omega), ← hRl, List.take_length]
          have hGt := hst.good.take hc' hφ2 hrl
          rw [htake] at hLv hGt
          obtain ⟨rec', hrec', hLR'⟩ := hLv.record
          have hnb : rec'.state ≠ .busy := by
            rw [hLR'.state]
            cases c'.jump <;> simp
          obtain ⟨hG4, hF4⟩ := hGt.putObj hrec' (fun _ _ _ h => by cases h) hlR (.loop { rec' with state := .exhausted })
          have hsame := hst.lvls.same Y.length c c' append_get_eq hc'
          have hkeep' : c'.keep = c.keep := by rw [hsame]
          have hpins := hst.lvls.keep Y.length c φ φ2 append_get_eq (by rw [← hΦl]; exact append_get_eq) hφ2
          rw [hck] at hpins
          have hle : φ.le φ2 := by
            intro o p hp
            rw [hpins o (Nat.lt_of_not_le fun hh => by rw [hfreshσ o hh] at hp; cases hp)]
            exact hp
          -- what the call may have touched
          have hact : ∀ b, b < w.heap.size → act (R ++ [l]) (Φ ++ [φ]) (Y ++ [c]) (gcMap φ []) (atO []) b → act R Φ Y φ (atO st.σ) b := by
            rintro b hb (h1 | h1 | ⟨i, ci, φi, g1, g2, g3⟩)
            · exact (owns_none h1).elim
            · rcases List.mem_append.1 h1 with h1 | h1
              · exact .inr (.inl h1)
              · simp at h1; omega
            · rcases split i ci φi g1 g2 with ⟨_, k1, k2⟩ | ⟨_, rfl, rfl⟩
              · exact .inr (.inr ⟨i, ci, φi, k1, k2, g3⟩)
              · rw [hcσ] at g3
                obtain ⟨o, n', hl', hp'⟩ := g3
                exact .inl ⟨o, n', hF.live o hl', hp'⟩
          have hF1 : Frame (act R Φ Y φ (atO st.σ)) M w M1 w := hs0.frame
          have hF2 : Frame (act R Φ Y φ (atO st.σ)) M w M1 w1 := hF1.trans hfr1 (fun _ _ h => h.elim)
          have hF3 : Frame (act R Φ Y φ (atO st.σ)) M w M2 w' := hF2.trans hst.frame hact
          have hF5 : Frame (act R Φ Y φ (atO st.σ)) M w M2 (w'.putObj l (.loop { rec' with state := .exhausted })) := hF3.trans hF4 (fun b hb h1 => by omega)
          have hpost : ∀ (a' : Act), a'.tmps = a.tmps → a'.defers = mk ++ a.defers →
              Post M w R Φ Y φ st a k { st with σ := c'.σ } (Yx.take Y.length) a' (w'.putObj l (.loop { rec' with state := .exhausted })) := by
            intro a' hat had
            refine ⟨M2, φ2, Φ2.take Y.length, ⟨hG4, hF5, ?_, ?_⟩, hLv.fresh, ?_, by rw [hat], rfl, ?_, ?_, ?_⟩
            · intro b hb
              have hb' : act (R ++ [l]) Φ2 Yx φ1 (atO objs) b := by
                rcases hb with h1 | h1 | h1
                · exact .inr (.inr ⟨Y.length, c', φ2, hc', hφ2, h1⟩)
                · exact .inr (.inl (List.mem_append_left _ h1))
                · obtain ⟨i, ci, φi, hi, g1, g2, g3⟩ := lvOwn_take h1
                  exact .inr (.inr ⟨i, ci, φi, g1, g2, g3⟩)
              rcases hst.own b hb' with h1 | h1
              · by_cases hbs : b < w.heap.size
                · exact .inl (hact b hbs h1)
                · exact .inr (by omega)
              · exact .inr (by omega)
            · refine ⟨by simp [hYx], ?_, ?_⟩
              · intro i ci cj g1 g2
                have hi : i < Y.length := (List.getElem?_eq_some_iff.1 g1).1
                rw [take_get, if_pos hi] at g2
                exact hst.lvls.same i ci cj (by rw [append_get_lt hi]; exact g1) g2
              · intro i ci φi φj g1 g2 g3 o ho
                have hi : i < Y.length := (List.getElem?_eq_some_iff.1 g1).1
                rw [take_get, if_pos hi] at g3
                exact hst.lvls.keep i ci φi φj (by rw [append_get_lt hi]; exact g1) (by rw [append_get_lt (by omega)]; exact g2) g3 o ho
            · rw [hat]
              exact fun t => (hP.tmps t).mono hle (fun _ _ h => h) hF3.mem
            · have := hLv.keepL
              rw [hkeep', hck] at this
              have h2 := hP.pinL
              simp only
              omega
            · intro o ho
              have := hP.pinL
              exact hpins o (by omega)
            · rw [had]
              obtain ⟨bs, h1, h2, h3⟩ := hdf
              refine ⟨bs, h1, h2, fun b hb => ⟨(h3 b hb).1, ?_⟩⟩
              have hh := (h3 b hb).2
              rw [World.putObj_heap_other (by rintro rfl; rw [hrec] at hh; cases hh)]
              rw [hst.frame.keep b (lt_of_heap hh) (hGn.not_act hh (fun _ _ _ h => by cases h) ?_)]
              · exact hh
              · intro hm
                obtain ⟨rec2, hh2⟩ := hLn.heap hm
                rw [hh] at hh2; cases hh2
          refine ⟨_, _, run_endLoop hrec' hnb, ?_⟩
          clear hG4 hF4 hF5
          generalize w'.putObj l (.loop { rec' with state := .exhausted }) = w4 at hpost ⊢
          rw [hLR'.pending]
          cases hj : c'.jump with
          | none =>
            rw [hj] at hQ
            exact hQ _ _ (hpost { a with defers := mk ++ a.defers } rfl rfl)
          | some x =>
            rw [hj] at hQ
            cases x with
            | norm => exact hQ _ _ (hpost { a with defers := mk ++ a.defers } rfl rfl)
            | ret => exact wpIn_ret (hQ _ _ (hpost { a with defers := mk ++ a.defers } rfl rfl))
            | exit id => exact wpIn_exit (hQ _ _ (hpost { a with defers := mk ++ a.defers } rfl rfl))
  | _ => rw [hv] at hfn; cases hfn

end
end Go.AM

namespace Go.AM

section
variable {E : Env} {C : Knot} {m : Nat} {M : Mem} {w : World} {R : List Nat} {Φ : List Map} {Y Y' : List Ctx} {φ : Map}

/-- On from where a piece of code has come to. -/
theorem Post.on {st st1 : St} {a a1 : Act} {Y1 : List Ctx} {F : Fence} {k : Nat} {w1 : World} (hP : Pre M w R Φ Y φ st a F k) (h : Post M w R Φ Y φ st a k st1 Y1 a1 w1) :
    ∃ M1 φ1 Φ1, Pre M1 w1 R Φ1 Y1 φ1 st1 a1 F k ∧ a1.tmps.size = a.tmps.size ∧ ∀ st2 Y2 a2 w2, Post M1 w1 R Φ1 Y1 φ1 st1 a1 k st2 Y2 a2 w2 → Post M w R Φ Y φ st a k st2 Y2 a2 w2 := by
  obtain ⟨M1, φ1, Φ1, h1, h2, h3, h4, h5, h6, h7, h8⟩ := h
  exact ⟨M1, φ1, Φ1, ⟨h1.good, h2, h3, hP.amb.keep hP.good h1.frame (fun _ h => h), by rw [h5]; exact hP.pinF, by rw [h5]; exact h6, h8, Nat.le_trans hP.kle h1.frame.size⟩, h4,
    fun st2 Y2 a2 w2 h => Post.trans h1 h4 h5 h7 h⟩

theorem evA_sound (hE : EnvOk E) (hK : KnotOk E C m) (fid : FuncId) : ∀ (c : Code) (blk : Nat) {st : St} {Y : List Ctx} {e : AExit} {st' : St} {Y' : List Ctx}, evA C E fid blk c st Y = some (e, st', Y') → CodeC E c st Y e st' Y' := by
  intro c
  induction c with
  | skip =>
    intro blk st Y e st' Y' h M w R Φ φ a F n k Q hP hok hQ
    simp only [evA, Option.some.injEq, Prod.mk.injEq] at h
    obtain ⟨rfl, rfl, rfl⟩ := h
    exact wpIn_skip (hQ a w (Post.refl hP))
  | region id ops draw =>
    intro blk st Y e st' Y' h M w R Φ φ a F n k Q hP hok hQ
    simp only [evA] at h
    cases hr : regionA C E ops draw st Y with
    | none => rw [hr] at h; cases h
    | some p =>
      obtain ⟨st1, Y1⟩ := p
      rw [hr] at h
      simp only [Option.map_some, Option.some.injEq, Prod.mk.injEq] at h
      obtain ⟨rfl, rfl, rfl⟩ := h
      exact region_sound hE hK hr hok hP hQ
  | seq x y ihx ihy =>
    intro blk st Y e st' Y' h M w R Φ φ a F n k Q hP hok hQ
    simp only [codeOk, Bool.and_eq_true] at hok
    simp only [evA] at h
    refine wpIn_seq ?_
    cases hx : evA C E fid blk x st Y with
    | none => rw [hx] at h; cases h
    | some p =>
      obtain ⟨e1, st1, Y1⟩ := p
      rw [hx] at h
      refine ihx blk hx M w R Φ φ a F n k _ hP hok.1 fun a1 w1 hp => ?_
      cases e1 with
      | norm =>
        simp only at h
        obtain ⟨M1, φ1, Φ1, hP1, hs1, hon⟩ := hp.on hP
        exact ihy blk h M1 w1 R Φ1 φ1 a1 F n k Q hP1 (by rw [hs1]; exact hok.2) fun a2 w2 hp2 => hQ a2 w2 (hon _ _ _ _ hp2)
      | ret =>
        simp only [Option.some.injEq, Prod.mk.injEq] at h
        obtain ⟨rfl, rfl, rfl⟩ := h
        exact hQ a1 w1 hp
      | exit id =>
        simp only [Option.some.injEq, Prod.mk.injEq] at h
        obtain ⟨rfl, rfl, rfl⟩ := h
        exact hQ a1 w1 hp
  | cond c x y ihx ihy =>
    intro blk st Y e st' Y' h M w R Φ φ a F n k Q hP hok hQ
    simp only [codeOk, Bool.and_eq_true] at hok
    simp only [evA] at h
    have hc := eval_rel hP.tmps c
    split at h
    · rename_i b hb
      rw [hb] at hc
      have hcv : a.eval c = .bool b := by
        generalize a.eval c = v at hc
        cases hc with
        | f hf _ => cases hf; rfl
      refine wpIn_cond hcv ?_
      cases b with
      | true => exact ihx blk h M w R Φ φ a F n k Q hP hok.1 hQ
      | false => exact ihy blk h M w R Φ φ a F n k Q hP hok.2 hQ
    · cases h
  | block id b ih =>
    intro blk st Y e st' Y' h M w R Φ φ a F n k Q hP hok hQ
    simp only [codeOk] at hok
    simp only [evA] at h
    refine wpIn_block ?_
    cases hb : evA C E fid id b st Y with
    | none => rw [hb] at h; cases h
    | some p =>
      obtain ⟨e1, st1, Y1⟩ := p
      rw [hb] at h
      refine ih id hb M w R Φ φ a F n k _ hP hok fun a1 w1 hp => ?_
      cases e1 with
      | exit i =>
        simp only [Option.some.injEq, Prod.mk.injEq] at h
        obtain ⟨rfl, rfl, rfl⟩ := h
        simp only [exitOf, Exit.inBlock]
        by_cases hi : i = id
        · subst hi
          rw [if_pos rfl]
          have := hQ a1 w1 hp
          simpa [exitOf] using this
        · rw [if_neg hi]
          have hbq : (i == id) = false := by simpa using hi
          rw [hbq] at hQ
          exact hQ a1 w1 hp
      | norm =>
        simp only [Option.some.injEq, Prod.mk.injEq] at h
        obtain ⟨rfl, rfl, rfl⟩ := h
        exact hQ a1 w1 hp
      | ret =>
        simp only [Option.some.injEq, Prod.mk.injEq] at h
        obtain ⟨rfl, rfl, rfl⟩ := h
        exact hQ a1 w1 hp
  | loop b ih =>
    intro blk st Y e st' Y' h M w R Φ φ a F n k Q hP hok hQ
    simp only [evA] at h
    exact wpIn_loop_rounds m (hK.loop fid blk b st Y e st' Y' h M w R Φ φ a F n k Q hP hok hQ)
  | rangeFunc f ps assign body _ _ =>
    intro blk st Y e st' Y' h M w R Φ φ a F n k Q hP hok hQ
    simp only [evA] at h
    exact range_sound hK h hok hP hQ
  | exit id =>
    intro blk st Y e st' Y' h M w R Φ φ a F n k Q hP hok hQ
    simp only [evA, Option.some.injEq, Prod.mk.injEq] at h
    obtain ⟨rfl, rfl, rfl⟩ := h
    exact wpIn_exit (hQ a w (Post.refl hP))
  | scope b _ => intro blk st Y e st' Y' h; simp [evA] at h
  | label l =>
    intro blk st Y e st' Y' h M w R Φ φ a F n k Q hP hok hQ
    simp only [evA, Option.some.injEq, Prod.mk.injEq] at h
    obtain ⟨rfl, rfl, rfl⟩ := h
    exact wpIn_label (hQ a w (Post.refl hP))
  | goto l => intro blk st Y e st' Y' h; simp [evA] at h
  | ret =>
    intro blk st Y e st' Y' h M w R Φ φ a F n k Q hP hok hQ
    simp only [evA, Option.some.injEq, Prod.mk.injEq] at h
    obtain ⟨rfl, rfl, rfl⟩ := h
    exact wpIn_ret (hQ a w (Post.refl hP))
  | refuse why => intro blk st Y e st' Y' h; simp [evA] at h

theorem loopA_sound (hE : EnvOk E) (hK : KnotOk E C m) {fid blk : Nat} {b : Code} {st : St} {e : AExit} {st' : St} (h : loopA C E fid blk b st Y = some (e, st', Y')) : LoopC E (m + 1) b st Y e st' Y' := by
  intro M w R Φ φ a F n k Q hP hok hQ
  rw [roundsIn_succ]
  obtain ⟨φ0, hs⟩ := norm_sound (E.loops fid blk) hP
  have hP0 := hP.seen hs
  have hQ0 : ∀ st2 Y2 a' w', Post M w R Φ Y φ0 (normA (E.loops fid blk) st) a k st2 Y2 a' w' → Post M w R Φ Y φ st a k st2 Y2 a' w' := fun st2 Y2 a' w' hp => Post.trans hs.step rfl hs.pin hs.keep hp
  unfold loopA at h
  cases hb : evA C E fid blk b (normA (E.loops fid blk) st) Y with
  | none => rw [hb] at h; cases h
  | some p =>
    obtain ⟨e1, st1, Y1⟩ := p
    rw [hb] at h
    refine evA_sound hE hK fid b blk hb M w R Φ φ0 a F n k _ hP0 hok fun a1 w1 hp => ?_
    cases e1 with
    | norm =>
      simp only at h
      obtain ⟨M1, φ1, Φ1, hP1, hs1, hon⟩ := hp.on hP0
      exact hK.loop fid blk b st1 Y1 e st' Y' h M1 w1 R Φ1 φ1 a1 F n k Q hP1 (by rw [hs1]; exact hok) fun a2 w2 hp2 => hQ a2 w2 (hQ0 _ _ _ _ (hon _ _ _ _ hp2))
    | ret =>
      simp only [Option.some.injEq, Prod.mk.injEq] at h
      obtain ⟨rfl, rfl, rfl⟩ := h
      exact hQ a1 w1 (hQ0 _ _ _ _ hp)
    | exit id =>
      simp only [Option.some.injEq, Prod.mk.injEq] at h
      obtain ⟨rfl, rfl, rfl⟩ := h
      exact hQ a1 w1 (hQ0 _ _ _ _ hp)

/-! ### results -/

theorem resV_sound {P : Program} {tmps : Tmps} {vals : Array Value} {σ : Nat → AObj} (hI : Inv M φ (LOf R) σ w) (ht : TRel φ (LOf R) M tmps vals) :
    ∀ (l : List ResultVar) (vs : List AV), (l.mapM fun | .tmp t => some (getT tmps t) | .cell a t => loadA P σ t (getT tmps a)) = some vs →
      ∃ xs, (l.mapM (m := Sem) fun | .tmp t => pure (vals.getD t undef) | .cell a t => do loadVar t (← asAddr (vals.getD a undef))).run P w = .ok xs w ∧ ARels φ (LOf R) M vs xs
  | [], vs, h => by
    simp at h
    subst h
    exact ⟨[], by simp, .nil⟩
  | r :: l, vs, h => by
    simp only [List.mapM_cons, Option.bind_eq_bind, Option.pure_def] at h
    obtain ⟨v, h1, h2⟩ := bind_some h
    obtain ⟨vs', h3, h4⟩ := bind_some h2
    cases h4
    obtain ⟨xs, h5, h6⟩ := resV_sound hI ht l vs' h3
    have hone : ∃ x, (match r with | .tmp t => pure (vals.getD t undef) | .cell a t => do loadVar t (← asAddr (vals.getD a undef)) : Sem Value).run P w = .ok x w ∧ ARel φ (LOf R) M v x := by
      cases r with
      | tmp t =>
        cases h1
        exact ⟨vals.getD t undef, rfl, ht t⟩
      | cell a t =>
        simp only at h1
        have hta := ht a
        obtain ⟨x, hx1, hx2⟩ := load_sound hI h1 hta
        refine ⟨x, ?_, hx2⟩
        have hptr : ∃ ad, vals.getD a undef = .pointer (some ad) := by
          generalize vals.getD a undef = y at hta
          unfold loadA at h1
          cases hg : getT tmps a with
          | f fv =>
            rw [hg] at h1 hta
            cases fv with
            | ptr cells off =>
              cases hta with
              | f hf _ => cases hf; exact ⟨_, rfl⟩
            | _ =>
              exfalso
              split at h1
              · split at h1
                · simp [loadCells] at h1
                · cases h1
              · simp [loadCells] at h1
              · cases h1
          | ptr o off =>
            rw [hg] at hta
            cases hta with
            | ptr _ => exact ⟨_, rfl⟩
          | _ =>
            exfalso
            rw [hg] at h1
            split at h1
            · split at h1
              · simp [loadCells] at h1
              · cases h1
            · simp [loadCells] at h1
            · cases h1
        obtain ⟨ad, had⟩ := hptr
        show Sem.run P (do loadVar t (← asAddr (vals.getD a undef))) w = _
        rw [had] at hx1 ⊢
        simpa [Instr.loadAt, Instr.sureAddr, asAddr] using hx1
    obtain ⟨x, hx1, hx2⟩ := hone
    refine ⟨x :: xs, ?_, .cons hx2 h6⟩
    rw [List.mapM_cons]
    simp only [Sem.run_bind, hx1, Result.andThen_ok, h5, Sem.run_pure]

end
end Go.AM

namespace Go.AM

section
variable {E : Env} {C : Knot} {m : Nat} {M : Mem} {w : World} {R : List Nat} {Φ : List Map} {Y Y' : List Ctx} {φ : Map}

theorem results_sound {P : Program} {fn : Func} {st : St} {vals : Array Value} {vs : List AV} (hI : Inv M φ (LOf R) (atO st.σ) w) (ht : TRel φ (LOf R) M st.tmps vals) (h : resA P fn st = some vs) :
    ∃ xs, (results fn vals).run P w = .ok (if h : xs.size = 1 then xs[0] else .tuple xs) w ∧ ARels φ (LOf R) M vs xs.toList := by
  obtain ⟨xs, h1, h2⟩ := resV_sound (P := P) (w := w) hI ht fn.results.toList vs h
  refine ⟨xs.toArray, ?_, by simpa using h2⟩
  unfold results
  rw [Array.mapM_eq_mapM_toList]
  simp only [Sem.run_bind, map_eq_pure_bind]
  refine Eq.trans (congrArg (fun z => (Result.andThen z (fun (a : List Value) w' => Sem.run P (pure a.toArray) w')).andThen fun (a : Array Value) w' => Sem.run P (pure (if h : a.size = 1 then a[0] else Value.tuple a)) w') h1) ?_
  simp only [Result.andThen_ok, Sem.run_pure]

theorem one_rel {L : LMap} {vs : List AV} {xs : Array Value} (h : ARels φ L M vs xs.toList) : ARel φ L M (one vs) (if h : xs.size = 1 then xs[0] else .tuple xs) := by
  obtain ⟨l⟩ := xs
  simp only at h
  cases h with
  | nil => exact .tup (vs := #[]) .nil
  | cons h1 h2 =>
    cases h2 with
    | nil => exact h1
    | cons h3 h4 =>
      rw [dif_neg (by simp)]
      exact .tup (.cons h1 (.cons h3 h4))

theorem leaves_marks {P : Program} {F : Fence} {n k : Nat} {fn : Func} {tmps : Array Value} {Rr : Ending → World → Prop} {σ : Nat → AObj} : ∀ (bs : List Nat) (w : World), Good M w R Φ Y φ σ → bs.Nodup →
    (∀ b ∈ bs, k ≤ b ∧ w.heap[b]? = some (.deferred (some []))) →
    (∀ w2, Good M w2 R Φ Y φ σ → Frame (fun b => k ≤ b) M w M w2 → LeavesIn F n P fn tmps Rr [] .returning w2) → LeavesInM F n P fn tmps Rr (bs.map mark) .returning w
  | [], w, hG, _, _, hk => hk w hG (Frame.refl _ _ _)
  | b :: r, w, hG, hnd, hb, hk => by
    rw [List.nodup_cons] at hnd
    obtain ⟨h1, h2⟩ := hb b (List.mem_cons_self ..)
    refine ⟨by simp, .inl ⟨b, _, rfl, run_takeDeferred h2, ?_⟩⟩
    have hbR : b ∉ R := by
      intro hm
      obtain ⟨rec, hh⟩ := hG.lvs.heap hm
      rw [h2] at hh; cases hh
    obtain ⟨hG2, hF2⟩ := hG.putObj h2 (fun _ _ _ h => by cases h) hbR (.deferred none)
    refine leaves_marks (k := k) r _ hG2 hnd.2 (fun b' hb' => ?_) (fun w2 hG3 hF3 => hk w2 hG3 ?_)
    · refine ⟨(hb b' (List.mem_cons_of_mem _ hb')).1, ?_⟩
      rw [World.putObj_heap_other (by rintro rfl; exact hnd.1 hb')]
      exact (hb b' (List.mem_cons_of_mem _ hb')).2
    · exact (hF2.mono (S' := fun b => k ≤ b) (fun b' _ he => by subst he; exact h1)).trans hF3 (fun _ _ h => h)

theorem getT_argT {L : LMap} : ∀ {args : List AV} {vals : List Value} (i t : Nat), ARels φ L M args vals → i ≤ t → ARel φ L M (getT (argT i args) t) ((vals[t - i]?).getD undef)
  | _, _, _, _, .nil, _ => .bot
  | _, _, i, t, .cons (v := v) (x := x) ha hb, h => by
    simp only [argT, getT]
    by_cases he : i = t
    · subst he
      simp
      exact ha
    · have : (i == t) = false := by simpa using he
      rw [this]
      simp only [cond_false]
      have h2 := getT_argT (i + 1) t hb (by omega)
      have e : t - i = (t - (i + 1)) + 1 := by omega
      rw [e]
      simpa using h2

theorem getT_argT_lt : ∀ {args : List AV} {i t : Nat}, t < i → getT (argT i args) t = .bot
  | [], _, _, _ => rfl
  | v :: r, i, t, h => by
    simp only [argT, getT]
    have : (i == t) = false := by simp; omega
    rw [this]
    exact getT_argT_lt (by omega)

theorem bodyA_sound (hE : EnvOk E) (hK : KnotOk E C m) {g : FuncId} {args : List AV} {σ : List AObj} {r : AV} {objs : List AObj} (h : bodyA C E g args σ Y = some (r, objs, Y')) :
    (∀ as w, (callFunc g as).run E.P w = .ok (.enter g as) w) ∧
    ∀ M w R Φ φ (vals : Array Value) n, Good M w R Φ Y φ (atO σ) → (∀ o, σ.length ≤ o → φ o = none) → ARels φ (LOf R) M args vals.toList → vals.size = args.length →
      CallsIn Fence.wide n E.P g vals w (CallPost M w R Φ Y φ σ r objs Y') := by
  unfold bodyA at h
  split at h
  · cases h
  rename_i fn hfn
  split at h
  · cases h
  rename_i c hc
  split at h
  · cases h
  rename_i hcond
  simp only [not_or, Nat.not_lt] at hcond
  obtain ⟨hf, hname, hcode⟩ := hE.fn g fn hfn
  refine ⟨fun as w => ?_, ?_⟩
  · have h1 : fn.name ≠ "runtime.NumGoroutine" := by simpa using hname
    simp [callFunc, hf, h1, hc]
  intro M w R Φ φ vals n hG hfr ha hsz
  have main : ∀ ex st Y1, evA C E g 0 c { tmps := argT 0 args, σ, pin := σ.length } Y = some (ex, st, Y1) → (∀ id, ex ≠ .exit id) →
      (match resA E.P fn st with
        | none => none
        | some vs =>
          match (bif (E.cfg g).retFz then freezeRes vs st.σ else some (vs, st.σ)) with
          | none => none
          | some (vs, σ1) =>
            let ids := gcIds σ1 σ.length (AV.refsL vs)
            some ((one vs).ren (fun x => posIn ids x 0), gcS σ1 ids, Y1)) = some (r, objs, Y') →
      CallsIn Fence.wide n E.P g vals w (CallPost M w R Φ Y φ σ r objs Y') := by
    intro ex st Y1 hev hex hres
    split at hres
    · cases hres
    rename_i vs hvs
    split at hres
    · cases hres
    rename_i vs2 σ1 hfz
    simp only [Option.some.injEq, Prod.mk.injEq] at hres
    obtain ⟨rfl, rfl, rfl⟩ := hres
    have hntm : (vals ++ Array.replicate (fn.ntmps - vals.size) undef).size = fn.ntmps := by
      simp; omega
    refine callsIn_of_wp_marks hf hc trivial ?_
    refine evA_sound hE hK g c 0 hev M w R Φ φ _ Fence.wide n w.heap.size _ ?_ (by simp only [hntm]; exact hcode c hc) ?_
    · refine ⟨hG, hfr, ?_, .inl rfl, hcond.1, Nat.le_refl _, ⟨[], rfl, List.nodup_nil, by simp⟩, Nat.le_refl _⟩
      intro t
      have h1 := getT_argT (φ := φ) (L := LOf R) (M := M) 0 t ha (Nat.zero_le t)
      simp only [Nat.sub_zero] at h1
      by_cases ht : t < vals.size
      · have e : (vals ++ Array.replicate (fn.ntmps - vals.size) undef).getD t undef = (vals.toList[t]?).getD undef := by
          simp [Array.getD_eq_getD_getElem?, Array.getElem?_append_left ht]
        rw [e]; exact h1
      · have e : getT (argT 0 args) t = .bot := by
          have e2 : ∀ (l : List AV) (i : Nat), i + l.length ≤ t → getT (argT i l) t = .bot := by
            intro l
            induction l with
            | nil => intro i _; rfl
            | cons x l ih =>
              intro i hi
              simp only [argT, getT]
              simp at hi
              have : (i == t) = false := by simp; omega
              rw [this]
              exact ih (i + 1) (by omega)
          exact e2 args 0 (by omega)
        rw [e]; exact .bot
    intro a1 w1 hp
    obtain ⟨M1, φ1, Φ1, hst, hfr1, htm, _, hpin, hpl, hkeep, bs, hbs1, hbs2, hbs3⟩ := hp
    simp only at hst hpin hpl hkeep
    have hleave : LeavesInM Fence.wide n E.P fn a1.tmps (CallPost M w R Φ Y φ σ ((one vs2).ren (fun x => posIn (gcIds σ1 σ.length (AV.refsL vs2)) x 0)) (gcS σ1 (gcIds σ1 σ.length (AV.refsL vs2))) Y1) a1.defers .returning w1 := by
      rw [hbs1]
      refine leaves_marks bs w1 hst.good hbs2 hbs3 fun w2 hG2 hF2 => ?_
      obtain ⟨xs, hrun, hrel⟩ := results_sound (P := E.P) hG2.inv htm hvs
      refine ⟨_, hrun, ?_⟩
      have hFw : Frame (act R Φ Y φ (atO σ)) M w M1 w2 := hst.frame.trans hF2 (fun b hb hk => by omega)
      have hst2 : Step M w R Φ Y φ (atO σ) M1 w2 Φ1 Y1 φ1 (atO st.σ) := ⟨hG2, hFw, hst.own, hst.lvls⟩
      have hfin : ∃ M3, Step M w R Φ Y φ (atO σ) M3 w2 Φ1 Y1 φ1 (atO σ1) ∧ ARels φ1 (LOf R) M3 vs2 xs.toList := by
        cases hcf : (E.cfg g).retFz with
        | false =>
          rw [hcf] at hfz
          simp only [cond_false, Option.some.injEq, Prod.mk.injEq] at hfz
          obtain ⟨rfl, rfl⟩ := hfz
          exact ⟨M1, hst2, hrel⟩
        | true =>
          rw [hcf] at hfz
          simp only [cond_true, freezeRes] at hfz
          cases hz : freezeL vs st.σ with
          | none => rw [hz] at hfz; cases hfz
          | some p =>
            obtain ⟨fs, σ2⟩ := p
            rw [hz] at hfz
            simp only [Option.map_some, Option.some.injEq, Prod.mk.injEq] at hfz
            obtain ⟨rfl, rfl⟩ := hfz
            obtain ⟨M3, hF, hfs⟩ := freezeL_sound hz hG2.inv hG2.dom hrel
            exact ⟨M3, hst2.trans (Step.of_top hG2 hF.inv hF.dom hF.frame (fun b ⟨o, n', hl, hp⟩ => .inl ⟨o, n', hF.live o hl, hp⟩)), ARels.ofFVs hfs⟩
      obtain ⟨M3, hst3, hrel3⟩ := hfin
      have hnd := gcIds_nodup σ1 σ.length (AV.refsL vs2)
      have hGg := hst3.good.gc hnd
      refine ⟨M3, gcMap φ1 (gcIds σ1 σ.length (AV.refsL vs2)), Φ1, hst3.trans (Step.of_top hst3.good hGg.inv hGg.dom (Frame.refl _ _ _) (fun b hb => .inl (owns_gc hb))), ?_, ?_, gcIds_len _ _ _ hcond.1, fun o ho => gc_fresh ho⟩
      · refine (one_rel hrel3).ren fun o o' p h1 h2 => ?_
        obtain ⟨_, h3⟩ := posIn_spec _ o 0 o' h1
        rw [Nat.sub_zero] at h3
        unfold gcMap
        rw [h3]
        exact h2
      · intro o ho
        rw [gcMap_pin _ _ _ hcond.1 ho]
        exact hkeep o ho
    cases ex with
    | norm => exact hleave
    | ret => exact hleave
    | exit id => exact absurd rfl (hex id)
  split at h
  · cases h
  · cases h
  · rename_i ex st Y1 hex hev
    exact main ex st Y1 hev (fun id he => by subst he; exact hex id rfl) h

theorem knot0_ok : KnotOk E knot0 0 :=
  ⟨fun _ _ _ _ _ _ _ h => by simp [knot0] at h, fun _ _ _ _ _ _ _ h => by simp [knot0] at h, fun _ _ _ _ _ _ _ _ h => by simp [knot0] at h⟩

theorem knotS_ok (hE : EnvOk E) (hK : KnotOk E C m) : KnotOk E (knotS E C) (m + 1) :=
  ⟨fun _ _ _ _ _ _ _ h => bodyA_sound hE hK h, fun fid c _ _ _ _ _ h => evA_sound hE hK fid c 0 h, fun _ _ _ _ _ _ _ _ h => loopA_sound hE hK h⟩

theorem knotN_ok (hE : EnvOk E) : ∀ n, KnotOk E (knotN E n) n
  | 0 => knot0_ok
  | n + 1 => knotS_ok hE (knotN_ok hE n)

end
end Go.AM
