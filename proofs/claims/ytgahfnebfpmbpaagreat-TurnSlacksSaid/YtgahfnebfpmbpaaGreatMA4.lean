/-
Soundness of calls, yields and regions.
-/
import Derived.Test.YtgahfnebfpmbpaaGreatMA3
import Derived.RangeFuncLeaves
import Derived.RangeFuncRecord
import Derived.RangeFuncNested
import Derived.LoopNIn
set_option linter.unusedVariables false
set_option linter.unusedSimpArgs false
namespace Go.AM

def LOf (R : List Nat) : LMap := fun i => R[i]?

/-! ### what is asked of a function's code, once -/

/-- The orders of a region's operations on the temporaries. -/
def drawOk (ops : Array Oper) : Bool :=
  let bf := befA ops
  ops.toList.zipIdx.all (fun (oj, j) =>
    (oj.after.all fun e => !(Region.binds .any e) || Nat.blt e.on j) && (ops.toList.zipIdx.all fun (oi, i) => !(Nat.blt i j) ||
      (match oi.dst, oj.dst with | some d, some d' => d != d' | _, _ => true) &&
      (match oj.dst with | some d => (bf.getD j 0).testBit i || !(oi.looksAt ops).contains d | none => true) &&
      ((bf.getD j 0).testBit i || (match oi.dst with | some d => !(oj.looksAt ops).contains d | none => true))))

def regOk (n : Nat) (ops : Array Oper) (draw : Bool) : Bool :=
  ops.toList.all (fun o => match o.dst with | some d => Nat.blt d n | none => true) && (!draw || drawOk ops)

def codeOk (n : Nat) : Code → Bool
  | .region _ ops draw => regOk n ops draw
  | .seq a b => codeOk n a && codeOk n b
  | .cond _ a b => codeOk n a && codeOk n b
  | .block _ b => codeOk n b
  | .loop b => codeOk n b
  | .rangeFunc _ ps a b => ps.toList.all (fun p => Nat.blt p n) && codeOk n a && codeOk n b
  | _ => true

/-! ### the levels -/

def exitCode : AExit → Option Code
  | .norm => none
  | .exit id => some (.exit id)
  | .ret => some .ret

structure LvlRec (M : Mem) (R : List Nat) (φ : Map) (c : Ctx) (rec : Loop) : Prop where
  params : rec.params.toList = c.params
  assign : rec.assign = c.assign
  body : rec.body = c.body
  okA : codeOk rec.tmps.size c.assign = true
  okB : codeOk rec.tmps.size c.body = true
  okP : ∀ p ∈ c.params, p < rec.tmps.size
  tmps : ∃ φ0 : Map, TRel φ0 (LOf R) M c.tmps rec.tmps ∧ ∀ o p, φ0 o = some p → o < c.keep ∧ φ o = some p
  state : rec.state = if c.jump.isNone then .ready else .done
  pending : rec.pending = c.jump.bind exitCode

structure LvlOk (M : Mem) (w : World) (R : List Nat) (r : Nat) (φ : Map) (c : Ctx) : Prop where
  inv : Inv M φ (LOf R) (atO c.σ) w
  dom : Dom φ (atO c.σ)
  fresh : ∀ o, c.σ.length ≤ o → φ o = none
  keepF : c.keep ≤ reachFuel
  keepL : c.keep ≤ c.σ.length
  record : ∃ rec : Loop, w.heap[r]? = some (.loop rec) ∧ LvlRec M R φ c rec

def lvOwn (Φ : List Map) (Y : List Ctx) (b : Nat) : Prop := ∃ (i : Nat) (c : Ctx) (φ : Map), Y[i]? = some c ∧ Φ[i]? = some φ ∧ owns φ (atO c.σ) b

/-- The blocks that a walk may change. -/
def act (R : List Nat) (Φ : List Map) (Y : List Ctx) (φ : Map) (σ : Nat → AObj) (b : Nat) : Prop := owns φ σ b ∨ b ∈ R ∨ lvOwn Φ Y b

structure Lvls (M : Mem) (w : World) (R : List Nat) (Φ : List Map) (Y : List Ctx) : Prop where
  lenR : R.length = Y.length
  lenΦ : Φ.length = Y.length
  lv : ∀ (i : Nat) (c : Ctx) (φ : Map) (r : Nat), Y[i]? = some c → Φ[i]? = some φ → R[i]? = some r → LvlOk M w (R.take i) r φ c
  recs : R.Nodup
  sep : ∀ (i j : Nat) (c c' : Ctx) (φ φ' : Map) (b : Nat), Y[i]? = some c → Φ[i]? = some φ → Y[j]? = some c' → Φ[j]? = some φ' → owns φ (atO c.σ) b → owns φ' (atO c'.σ) b → i = j

structure Good (M : Mem) (w : World) (R : List Nat) (Φ : List Map) (Y : List Ctx) (φ : Map) (σ : Nat → AObj) : Prop where
  inv : Inv M φ (LOf R) σ w
  dom : Dom φ σ
  lvs : Lvls M w R Φ Y
  sep : ∀ b, owns φ σ b → ¬ lvOwn Φ Y b

structure LvlsStep (Φ : List Map) (Y : List Ctx) (Φ' : List Map) (Y' : List Ctx) : Prop where
  len : Y'.length = Y.length
  same : ∀ (i : Nat) (c c' : Ctx), Y[i]? = some c → Y'[i]? = some c' → c' = { c with σ := c'.σ, jump := c'.jump }
  keep : ∀ (i : Nat) (c : Ctx) (φ φ' : Map), Y[i]? = some c → Φ[i]? = some φ → Φ'[i]? = some φ' → ∀ o, o < c.keep → φ' o = φ o

theorem LvlsStep.refl {Φ : List Map} {Y : List Ctx} : LvlsStep Φ Y Φ Y :=
  ⟨rfl, fun i c c' h h' => by rw [h] at h'; cases h'; rfl, fun i c φ φ' _ h h' o _ => by rw [h] at h'; cases h'; rfl⟩

theorem LvlsStep.trans {Φ Φ' Φ'' : List Map} {Y Y' Y'' : List Ctx} (h : LvlsStep Φ Y Φ' Y') (h' : LvlsStep Φ' Y' Φ'' Y'') (hΦ : Φ'.length = Y'.length) : LvlsStep Φ Y Φ'' Y'' := by
  have get : ∀ (i : Nat) (c : Ctx), Y[i]? = some c → ∃ (c' : Ctx) (φ' : Map), Y'[i]? = some c' ∧ Φ'[i]? = some φ' := by
    intro i c hc
    have hlt := (List.getElem?_eq_some_iff.1 hc).1
    exact ⟨Y'[i]'(by rw [h.len]; exact hlt), Φ'[i]'(by rw [hΦ, h.len]; exact hlt), List.getElem?_eq_getElem _, List.getElem?_eq_getElem _⟩
  refine ⟨h'.len.trans h.len, ?_, ?_⟩
  · intro i c c'' hc hc''
    obtain ⟨c', φ', hc', hφ'⟩ := get i c hc
    have h1 := h.same i c c' hc hc'
    have h2 := h'.same i c' c'' hc' hc''
    rw [h2, h1]
  · intro i c φ φ'' hc hφ hφ'' o ho
    obtain ⟨c', φ', hc', hφ'⟩ := get i c hc
    have h1 := h.same i c c' hc hc'
    have hk : c'.keep = c.keep := by rw [h1]
    exact (h'.keep i c' φ' φ'' hc' hφ' hφ'' o (by rw [hk]; exact ho)).trans (h.keep i c φ φ' hc hφ hφ' o ho)

/-- From one state to another. -/
structure Step (M : Mem) (w : World) (R : List Nat) (Φ : List Map) (Y : List Ctx) (φ : Map) (σ : Nat → AObj)
    (M' : Mem) (w' : World) (Φ' : List Map) (Y' : List Ctx) (φ' : Map) (σ' : Nat → AObj) : Prop where
  good : Good M' w' R Φ' Y' φ' σ'
  frame : Frame (act R Φ Y φ σ) M w M' w'
  own : ∀ b, act R Φ' Y' φ' σ' b → act R Φ Y φ σ b ∨ w.heap.size ≤ b
  lvls : LvlsStep Φ Y Φ' Y'

section
variable {M M' M'' : Mem} {w w' w'' : World} {R : List Nat} {Φ Φ' Φ'' : List Map} {Y Y' Y'' : List Ctx} {φ φ' φ'' : Map} {σ σ' σ'' : Nat → AObj}

theorem Step.refl (h : Good M w R Φ Y φ σ) : Step M w R Φ Y φ σ M w Φ Y φ σ :=
  ⟨h, Frame.refl _ _ _, fun _ h => .inl h, LvlsStep.refl⟩

theorem Step.trans (h : Step M w R Φ Y φ σ M' w' Φ' Y' φ' σ') (h' : Step M' w' R Φ' Y' φ' σ' M'' w'' Φ'' Y'' φ'' σ'') : Step M w R Φ Y φ σ M'' w'' Φ'' Y'' φ'' σ'' := by
  refine ⟨h'.good, h.frame.trans h'.frame ?_, ?_, h.lvls.trans h'.lvls h.good.lvs.lenΦ⟩
  · intro b hb hs
    rcases h.own b hs with h1 | h1
    · exact h1
    · omega
  · intro b hb
    rcases h'.own b hb with h1 | h1
    · exact h.own b h1
    · exact .inr (Nat.le_trans h.frame.size h1)

theorem Step.drew (h : Good M w R Φ Y φ σ) (n : Nat) (hl : Lvls M { w with drawn := n } R Φ Y) : Step M w R Φ Y φ σ M { w with drawn := n } Φ Y φ σ :=
  ⟨⟨h.inv.drew n, h.dom, hl, h.sep⟩, Frame.drew n, fun _ h => .inl h, LvlsStep.refl⟩

/-- A block that is a loop's record is no block of a store. -/
theorem Inv.not_rec {L : LMap} (h : Inv M φ L σ w) {b : Nat} {o : Obj} (ho : w.heap[b]? = some o) (hc : ∀ vs el fz, o ≠ .cells vs el fz) : ¬ owns φ σ b := by
  rintro ⟨i, n, hl, hp⟩
  have hob := h.obj i
  cases hx : σ i with
  | box cs =>
    rw [hx] at hob
    obtain ⟨b', vs, el, fz, hp', hh, _⟩ := hob
    rw [hp] at hp'; cases hp'
    rw [ho] at hh; cases hh
    exact hc _ _ _ rfl
  | arr cs ex isNil =>
    rw [hx] at hob
    rcases hob with ⟨_, b', vs, el, fz, pre, post, hp', hh, _⟩ | ⟨_, a, hp', _⟩
    · rw [hp] at hp'; cases hp'
      rw [ho] at hh; cases hh
      exact hc _ _ _ rfl
    · rw [hp] at hp'; cases hp'
  | frz cs => rw [hx] at hl; cases hl
  | map es => rw [hx] at hob; exact hob.elim
  | dead => rw [hx] at hl; cases hl

theorem Inv.not_loop {L : LMap} (h : Inv M φ L σ w) {b : Nat} {rec : Loop} (ho : w.heap[b]? = some (.loop rec)) : ¬ owns φ σ b :=
  h.not_rec ho (fun _ _ _ h => by cases h)

theorem Lvls.heap (h : Lvls M w R Φ Y) {r : Nat} (hr : r ∈ R) : ∃ rec, w.heap[r]? = some (.loop rec) := by
  obtain ⟨i, hi, rfl⟩ := List.mem_iff_getElem.1 hr
  have hy : i < Y.length := by rw [← h.lenR]; exact hi
  have hf : i < Φ.length := by rw [h.lenΦ]; exact hy
  obtain ⟨rec, h1, _⟩ := (h.lv i Y[i] Φ[i] R[i] (List.getElem?_eq_getElem _) (List.getElem?_eq_getElem _) (List.getElem?_eq_getElem _)).record
  exact ⟨rec, h1⟩

theorem Lvls.own_lt (h : Lvls M w R Φ Y) {b : Nat} (hb : lvOwn Φ Y b) : b < w.heap.size := by
  obtain ⟨i, c, φ, hc, hp, o, n, hl, hp'⟩ := hb
  have hy : i < Y.length := (List.getElem?_eq_some_iff.1 hc).1
  have hR : i < R.length := by rw [h.lenR]; exact hy
  exact (h.lv i c φ R[i] hc hp (List.getElem?_eq_getElem _)).inv.lt hl hp'

theorem Lvls.own_not_loop (h : Lvls M w R Φ Y) {b : Nat} (hb : lvOwn Φ Y b) {rec : Loop} (hr : w.heap[b]? = some (.loop rec)) : False := by
  obtain ⟨i, c, φ, hc, hp, ho⟩ := hb
  have hy : i < Y.length := (List.getElem?_eq_some_iff.1 hc).1
  have hR : i < R.length := by rw [h.lenR]; exact hy
  exact (h.lv i c φ R[i] hc hp (List.getElem?_eq_getElem _)).inv.not_loop hr ho

theorem Good.act_lt (h : Good M w R Φ Y φ σ) {b : Nat} (hb : act R Φ Y φ σ b) : b < w.heap.size := by
  rcases hb with ⟨o, n, hl, hp⟩ | hb | hb
  · exact h.inv.lt hl hp
  · obtain ⟨rec, hr⟩ := h.lvs.heap hb
    exact lt_of_heap hr
  · exact h.lvs.own_lt hb

/-- What holds no cells and no record of ours stays. -/
theorem Good.not_act (h : Good M w R Φ Y φ σ) {b : Nat} {o : Obj} (ho : w.heap[b]? = some o) (hc : ∀ vs el fz, o ≠ .cells vs el fz) (hr : b ∉ R) : ¬ act R Φ Y φ σ b := by
  rintro (h1 | h1 | ⟨i, c, φ', hc', hp, h1⟩)
  · exact h.inv.not_rec ho hc h1
  · exact hr h1
  · have hy : i < Y.length := (List.getElem?_eq_some_iff.1 hc').1
    have hR : i < R.length := by rw [h.lvs.lenR]; exact hy
    exact (h.lvs.lv i c φ' R[i] hc' hp (List.getElem?_eq_getElem _)).inv.not_rec ho hc h1

/-- A level lasts where neither its blocks nor its record are touched. -/
theorem LvlOk.keep {S : Nat → Prop} {Ri : List Nat} {r : Nat} {c : Ctx} (h : LvlOk M w Ri r φ c) (hf : Frame S M w M' w') (hfr : ∀ b off v, M' b off = some v → w'.cell? ⟨b, off, none⟩ = some v)
    (hs : ∀ b, owns φ (atO c.σ) b → ¬ S b) (hr : ¬ S r) : LvlOk M' w' Ri r φ c where
  inv := h.inv.keep hf hfr (fun _ _ h => h) (fun _ _ h => h) (fun _ _ => rfl) h.dom hs
  dom := h.dom
  fresh := h.fresh
  keepF := h.keepF
  keepL := h.keepL
  record := by
    obtain ⟨rec, h1, h2⟩ := h.record
    refine ⟨rec, (hf.keep r (lt_of_heap h1) hr).trans h1, h2.params, h2.assign, h2.body, h2.okA, h2.okB, h2.okP, ?_, h2.state, h2.pending⟩
    obtain ⟨φ0, h3, h4⟩ := h2.tmps
    exact ⟨φ0, fun t => (h3 t).mono (fun _ _ h => h) (fun _ _ h => h) hf.mem, h4⟩

theorem Lvls.keep {S : Nat → Prop} (h : Lvls M w R Φ Y) (hf : Frame S M w M' w') (hfr : ∀ b off v, M' b off = some v → w'.cell? ⟨b, off, none⟩ = some v)
    (hs : ∀ b, lvOwn Φ Y b → ¬ S b) (hr : ∀ r, r ∈ R → ¬ S r) : Lvls M' w' R Φ Y where
  lenR := h.lenR
  lenΦ := h.lenΦ
  lv i c φ r hc hp hr' := (h.lv i c φ r hc hp hr').keep hf hfr (fun b hb => hs b ⟨i, c, φ, hc, hp, hb⟩) (hr r (List.mem_of_getElem? hr'))
  recs := h.recs
  sep := h.sep

/-- An operation that touches the store at hand alone. -/
theorem Step.of_top (h : Good M w R Φ Y φ σ) (hI : Inv M' φ' (LOf R) σ' w') (hD : Dom φ' σ') (hf : Frame (owns φ σ) M w M' w') (ho : ∀ b, owns φ' σ' b → owns φ σ b ∨ w.heap.size ≤ b) :
    Step M w R Φ Y φ σ M' w' Φ Y φ' σ' := by
  have hl : Lvls M' w' R Φ Y := h.lvs.keep hf hI.froz (fun b hb ho => h.sep b ho hb) (fun r hr => by
    obtain ⟨rec, hh⟩ := h.lvs.heap hr
    exact h.inv.not_loop hh)
  refine ⟨⟨hI, hD, hl, ?_⟩, hf.mono (fun b _ hb => .inl hb), ?_, LvlsStep.refl⟩
  · intro b hb hlv
    rcases ho b hb with h1 | h1
    · exact h.sep b h1 hlv
    · have := h.lvs.own_lt hlv; omega
  · rintro b (h1 | h1 | h1)
    · rcases ho b h1 with h2 | h2
      · exact .inl (.inl h2)
      · exact .inr h2
    · exact .inl (.inr (.inl h1))
    · exact .inl (.inr (.inr h1))

end
end Go.AM

namespace Go.AM

theorem ORel.ren {φ φ' : Map} {L : LMap} {M : Mem} {p : Option Blk} {x : AObj} {w : World} {m : Nat → Option Nat} (h : ORel φ L M p x w)
    (hm : ∀ o o' q, m o = some o' → φ o = some q → φ' o' = some q) : ORel φ' L M p (x.ren m) w := by
  cases x with
  | box cs =>
    obtain ⟨b, vs, el, fz, hp, hh, hf, hr, hc⟩ := h
    exact ⟨b, vs, el, fz, hp, hh, hf, hr.ren hm, hc⟩
  | arr cs ex nl => exact h
  | frz cs => exact h
  | map es => exact h
  | dead => trivial

theorem live_ren (m : Nat → Option Nat) (x : AObj) : live (x.ren m) = live x := by cases x <;> rfl

section
variable {M M' : Mem} {w w' : World} {R : List Nat} {Φ Φ' : List Map} {Y Y' : List Ctx} {φ φ' φc φ1 : Map} {σ τ σc σ1 : Nat → AObj}

theorem Step.join (hG : Good M w R Φ Y φ σ) (hs : Step M w R Φ Y φc σc M' w' Φ' Y' φ1 σ1) (hsub : ∀ b, owns φc σc b → owns φ σ b)
    (κ β : Nat → Option Nat) (hκ : ∀ o i, κ o = some i → τ o = (σ1 i).ren β ∧ φ' o = φ1 i ∧ β i = some o)
    (hn : ∀ o, κ o = none → τ o = σ o ∧ φ' o = φ o ∧ ∀ n b, live (σ o) = true → φ o = some (.blk b n) → ¬ owns φc σc b)
    (hβ : ∀ i o p, β i = some o → φ1 i = some p → φ' o = some p) (hle : φ.le φ') : Step M w R Φ Y φ σ M' w' Φ' Y' φ' τ := by
  have away : ∀ o n b, κ o = none → live (σ o) = true → φ o = some (.blk b n) → ¬ act R Φ Y φc σc b := by
    intro o n b hk hl hp
    rintro (h1 | h1 | h1)
    · exact (hn o hk).2.2 n b hl hp h1
    · obtain ⟨rec, hr⟩ := hG.lvs.heap h1
      exact hG.inv.not_loop hr ⟨o, n, hl, hp⟩
    · exact hG.sep b ⟨o, n, hl, hp⟩ h1
  have away' : ∀ o n b, κ o = none → live (σ o) = true → φ o = some (.blk b n) → ¬ act R Φ' Y' φ1 σ1 b := by
    intro o n b hk hl hp h1
    rcases hs.own b h1 with h2 | h2
    · exact away o n b hk hl hp h2
    · have := hG.inv.lt hl hp; omega
  have hin : ∀ b, act R Φ Y φc σc b → act R Φ Y φ σ b := by
    rintro b (h1 | h1)
    · exact .inl (hsub b h1)
    · exact .inr h1
  have hown : ∀ b, owns φ' τ b → owns φ1 σ1 b ∨ ∃ o n, κ o = none ∧ live (σ o) = true ∧ φ o = some (.blk b n) := by
    rintro b ⟨o, n, hl, hp⟩
    cases hk : κ o with
    | some i =>
      obtain ⟨h1, h2, _⟩ := hκ o i hk
      rw [h1, live_ren] at hl
      rw [h2] at hp
      exact .inl ⟨i, n, hl, hp⟩
    | none =>
      obtain ⟨h1, h2, _⟩ := hn o hk
      rw [h1] at hl
      rw [h2] at hp
      exact .inr ⟨o, n, hk, hl, hp⟩
  refine ⟨⟨⟨hs.good.inv.froz, ?_, ?_, ?_⟩, ?_, hs.good.lvs, ?_⟩, hs.frame.mono (fun b _ hb => hin b hb), ?_, hs.lvls⟩
  · intro o
    cases hk : κ o with
    | some i =>
      obtain ⟨h1, h2, _⟩ := hκ o i hk
      rw [h1, h2]
      exact (hs.good.inv.obj i).ren (fun i o q => hβ i o q)
    | none =>
      obtain ⟨h1, h2, _⟩ := hn o hk
      rw [h1, h2]
      exact (hG.inv.obj o).keep hle (fun _ _ h => h) hs.frame.mem (fun b n hl hp => hs.frame.keep b (hG.inv.lt hl hp) (away o n b hk hl hp))
  · intro o o' b n n' hl hl' hp hp'
    cases hk : κ o with
    | some i =>
      obtain ⟨h1, h2, h3⟩ := hκ o i hk
      rw [h1, live_ren] at hl
      rw [h2] at hp
      cases hk' : κ o' with
      | some i' =>
        obtain ⟨h1', h2', h3'⟩ := hκ o' i' hk'
        rw [h1', live_ren] at hl'
        rw [h2'] at hp'
        have := hs.good.inv.inj i i' b n n' hl hl' hp hp'
        subst this
        rw [h3] at h3'
        cases h3'
        rfl
      | none =>
        obtain ⟨h1', h2', _⟩ := hn o' hk'
        rw [h1'] at hl'
        rw [h2'] at hp'
        exact absurd (.inl ⟨i, n, hl, hp⟩) (away' o' n' b hk' hl' hp')
    | none =>
      obtain ⟨h1, h2, _⟩ := hn o hk
      rw [h1] at hl
      rw [h2] at hp
      cases hk' : κ o' with
      | some i' =>
        obtain ⟨h1', h2', h3'⟩ := hκ o' i' hk'
        rw [h1', live_ren] at hl'
        rw [h2'] at hp'
        exact absurd (.inl ⟨i', n', hl', hp'⟩) (away' o n b hk hl hp)
      | none =>
        obtain ⟨h1', h2', _⟩ := hn o' hk'
        rw [h1'] at hl'
        rw [h2'] at hp'
        exact hG.inv.inj o o' b n n' hl hl' hp hp'
  · intro o b n hl hp off
    cases hk : κ o with
    | some i =>
      obtain ⟨h1, h2, h3⟩ := hκ o i hk
      rw [h1, live_ren] at hl
      rw [h2] at hp
      exact hs.good.inv.sep i b n hl hp off
    | none =>
      obtain ⟨h1, h2, _⟩ := hn o hk
      rw [h1] at hl
      rw [h2] at hp
      rw [hs.frame.memN b off (hG.inv.lt hl hp) (away o n b hk hl hp)]
      exact hG.inv.sep o b n hl hp off
  · intro o
    cases hk : κ o with
    | some i =>
      obtain ⟨h1, h2, h3⟩ := hκ o i hk
      rcases hs.good.dom i with ⟨p, hp⟩ | hd
      · exact .inl ⟨p, h2.trans hp⟩
      · right; rw [h1, hd]; rfl
    | none =>
      obtain ⟨h1, h2, _⟩ := hn o hk
      rcases hG.dom o with ⟨p, hp⟩ | hd
      · exact .inl ⟨p, h2.trans hp⟩
      · right; rw [h1, hd]
  · intro b hb hlv
    rcases hown b hb with h1 | ⟨o, n, hk, hl, hp⟩
    · exact hs.good.sep b h1 hlv
    · exact away' o n b hk hl hp (.inr (.inr hlv))
  · rintro b (h1 | h1 | h1)
    · rcases hown b h1 with h2 | ⟨o, n, hk, hl, hp⟩
      · exact (hs.own b (.inl h2)).imp (hin b) id
      · exact .inl (.inl ⟨o, n, hl, hp⟩)
    · exact .inl (.inr (.inl h1))
    · exact (hs.own b (.inr (.inr h1))).imp (hin b) id

end

/-! ### effects, as functions -/

theorem updWr_not {σ : Nat → AObj} : ∀ {wr : List (Nat × AObj)} {o : Nat}, (∀ x, (o, x) ∉ wr) → updWr σ wr o = σ o
  | [], _, _ => rfl
  | (k, x) :: r, o, h => by
    simp only [updWr]
    rw [updWr_not (fun y hy => h y (List.mem_cons_of_mem _ hy)), upd_ne]
    rintro rfl
    exact h x (List.mem_cons_self ..)

theorem updWr_congr {σ σ' : Nat → AObj} : ∀ {wr : List (Nat × AObj)} {o : Nat}, (∃ x, (o, x) ∈ wr) → updWr σ wr o = updWr σ' wr o
  | [], _, ⟨_, h⟩ => by cases h
  | (k, x) :: r, o, ⟨y, h⟩ => by
    simp only [updWr]
    by_cases hr : ∃ z, (o, z) ∈ r
    · exact updWr_congr hr
    · have hno : ∀ z, (o, z) ∉ r := fun z hz => hr ⟨z, hz⟩
      rcases List.mem_cons.1 h with h1 | h1
      · cases h1
        rw [updWr_not hno, updWr_not hno, upd_same, upd_same]
      · exact absurd h1 (hno y)

theorem updNews_lt {σ : Nat → AObj} : ∀ {l : List AObj} {base o : Nat}, (o < base ∨ base + l.length ≤ o) → updNews σ base l o = σ o
  | [], _, _, _ => rfl
  | x :: r, base, o, h => by
    simp only [updNews]
    simp only [List.length_cons] at h
    rw [updNews_lt (by omega), upd_ne _ _ (by omega)]

theorem updNews_at {σ : Nat → AObj} : ∀ {l : List AObj} {base j : Nat} {x : AObj}, l[j]? = some x → updNews σ base l (base + j) = x
  | [], _, _, _, h => by simp at h
  | y :: r, base, 0, x, h => by
    simp only [updNews]
    rw [updNews_lt (by omega)]
    simp at h
    simp [h]
  | y :: r, base, j + 1, x, h => by
    simp only [updNews]
    simp at h
    have := updNews_at (σ := upd σ base y) (base := base + 1) h
    rwa [Nat.add_assoc, Nat.add_comm 1 j] at this

/-- Does the effect touch the object? -/
def Eff.hits (e : Eff) (base o : Nat) : Prop := (∃ x, (o, x) ∈ e.wr) ∨ (base ≤ o ∧ o < base + e.news.length)

theorem effO_not {σ : Nat → AObj} {base o : Nat} {e : Eff} (h : ¬ e.hits base o) : effO σ base e o = σ o := by
  unfold effO
  unfold Eff.hits at h
  rw [updNews_lt (by
    by_cases hb : base ≤ o
    · right
      exact Nat.le_of_not_lt fun hlt => h (.inr ⟨hb, hlt⟩)
    · left; omega), updWr_not (fun x hx => h (.inl ⟨x, hx⟩))]

theorem effO_hit {σ σ' : Nat → AObj} {base o : Nat} {e : Eff} (h : e.hits base o) : effO σ base e o = effO σ' base e o := by
  unfold effO
  by_cases hb : base ≤ o ∧ o < base + e.news.length
  · obtain ⟨j, rfl⟩ := Nat.exists_eq_add_of_le hb.1
    have hj : j < e.news.length := by omega
    rw [updNews_at (List.getElem?_eq_getElem hj), updNews_at (List.getElem?_eq_getElem hj)]
  · rw [updNews_lt (by omega), updNews_lt (by omega)]
    rcases h with h | h
    · exact updWr_congr h
    · exact absurd h hb

theorem atO_append {l news : List AObj} : atO (l ++ news) = updNews (atO l) l.length news := by
  funext o
  by_cases h : o < l.length
  · rw [updNews_lt (.inl h)]
    simp [atO, List.getElem?_append_left h]
  · by_cases h2 : o < l.length + news.length
    · obtain ⟨j, rfl⟩ := Nat.exists_eq_add_of_le (Nat.le_of_not_lt h)
      have hj : j < news.length := by omega
      rw [updNews_at (List.getElem?_eq_getElem hj)]
      simp [atO, hj]
    · rw [updNews_lt (.inr (by omega))]
      have h3 : (l ++ news)[o]? = none := List.getElem?_eq_none (by simp; omega)
      have h4 : l[o]? = none := List.getElem?_eq_none (by omega)
      simp [atO, h3, h4]

theorem putWr_length : ∀ (wr : List (Nat × AObj)) (l : List AObj), (putWr l wr).length = l.length
  | [], _ => rfl
  | (k, x) :: r, l => by simp [putWr, putWr_length r]

theorem atO_putWr : ∀ {wr : List (Nat × AObj)} {l : List AObj}, (∀ o x, (o, x) ∈ wr → o < l.length) → atO (putWr l wr) = updWr (atO l) wr
  | [], _, _ => rfl
  | (k, x) :: r, l, h => by
    simp only [putWr, updWr]
    rw [atO_putWr (fun o y hy => by simpa using h o y (List.mem_cons_of_mem _ hy)), atO_set (h k x (List.mem_cons_self ..))]

/-- A list store after an effect is the function store after it. -/
theorem atO_eff {l : List AObj} {e : Eff} (h : ∀ o x, (o, x) ∈ e.wr → o < l.length) : atO (putWr l e.wr ++ e.news) = effO (atO l) l.length e := by
  rw [atO_append, putWr_length, atO_putWr h]
  rfl

theorem toList'_length (σ : Nat → AObj) (base : Nat) : (toList' σ base).length = base := by simp [toList']

theorem atO_toList' {σ : Nat → AObj} {base : Nat} (h : ∀ o, base ≤ o → σ o = .dead) : atO (toList' σ base) = σ := by
  funext o
  by_cases ho : o < base
  · simp [atO, toList', ho]
  · rw [h o (Nat.le_of_not_lt ho)]
    simp [atO, toList', ho]

end Go.AM

namespace Go.AM

def mark (b : Nat) : Deferred := { target := .collected b, args := #[] }

/-- The deferred calls of a walk: marks alone, each block empty. -/
def DefOk (k : Nat) (w : World) (ds : List Deferred) : Prop :=
  ∃ bs : List Nat, ds = bs.map mark ∧ bs.Nodup ∧ ∀ b ∈ bs, k ≤ b ∧ w.heap[b]? = some (.deferred (some []))

/-- Where a walk stands: in a function's frame, or in a round's. -/
def Amb (F : Fence) (w : World) (R : List Nat) : Prop := F = Fence.wide ∨ ∃ l rec, F = Fence.wide.inRound l ∧ w.heap[l]? = some (.loop rec) ∧ l ∉ R

structure Pre (M : Mem) (w : World) (R : List Nat) (Φ : List Map) (Y : List Ctx) (φ : Map) (st : St) (a : Act) (F : Fence) (k : Nat) : Prop where
  good : Good M w R Φ Y φ (atO st.σ)
  fresh : ∀ o, st.σ.length ≤ o → φ o = none
  tmps : TRel φ (LOf R) M st.tmps a.tmps
  amb : Amb F w R
  pinF : st.pin ≤ reachFuel
  pinL : st.pin ≤ st.σ.length
  defs : DefOk k w a.defers
  kle : k ≤ w.heap.size

def Post (M : Mem) (w : World) (R : List Nat) (Φ : List Map) (Y : List Ctx) (φ : Map) (st : St) (a : Act) (k : Nat) (st' : St) (Y' : List Ctx) (a' : Act) (w' : World) : Prop :=
  ∃ M' φ' Φ', Step M w R Φ Y φ (atO st.σ) M' w' Φ' Y' φ' (atO st'.σ) ∧ (∀ o, st'.σ.length ≤ o → φ' o = none) ∧ TRel φ' (LOf R) M' st'.tmps a'.tmps ∧
    a'.tmps.size = a.tmps.size ∧ st'.pin = st.pin ∧ st.pin ≤ st'.σ.length ∧ (∀ o, o < st.pin → φ' o = φ o) ∧ DefOk k w' a'.defers

def CallPost (M : Mem) (w : World) (R : List Nat) (Φ : List Map) (Y : List Ctx) (φ : Map) (σ : List AObj) (r : AV) (objs : List AObj) (Y' : List Ctx) : Ending → World → Prop
  | .returned v, w' => ∃ M' φ' Φ', Step M w R Φ Y φ (atO σ) M' w' Φ' Y' φ' (atO objs) ∧ ARel φ' (LOf R) M' r v ∧ (∀ o, o < σ.length → φ' o = φ o) ∧ σ.length ≤ objs.length ∧
      (∀ o, objs.length ≤ o → φ' o = none)
  | _, _ => False

def exitOf : AExit → Exit
  | .norm => .normal
  | .exit id => .exit id
  | .ret => .ret

def CodeC (E : Env) (c : Code) (st : St) (Y : List Ctx) (e : AExit) (st' : St) (Y' : List Ctx) : Prop :=
  ∀ M w R Φ φ a F n k (Q : Exit → Act → World → Prop), Pre M w R Φ Y φ st a F k → codeOk a.tmps.size c = true →
    (∀ a' w', Post M w R Φ Y φ st a k st' Y' a' w' → Q (exitOf e) a' w') → c.wpIn F n E.P Q a w

def LoopC (E : Env) (m : Nat) (c : Code) (st : St) (Y : List Ctx) (e : AExit) (st' : St) (Y' : List Ctx) : Prop :=
  ∀ M w R Φ φ a F n k (Q : Exit → Act → World → Prop), Pre M w R Φ Y φ st a F k → codeOk a.tmps.size c = true →
    (∀ a' w', Post M w R Φ Y φ st a k st' Y' a' w' → Q (exitOf e) a' w') → Code.roundsIn F n E.P c Q m a w

structure EnvOk (E : Env) : Prop where
  fn : ∀ g f, E.fn g = some f → E.P.funcs[g]? = some f ∧ (f.name == "runtime.NumGoroutine") = false ∧ ∀ c, f.body = some c → codeOk f.ntmps c = true
  mixed : E.P.follows .mixedOrders = true

structure KnotOk (E : Env) (C : Knot) (m : Nat) : Prop where
  call : ∀ g args σ Y r objs Y', C.call g args σ Y = some (r, objs, Y') → (∀ as w, (callFunc g as).run E.P w = .ok (.enter g as) w) ∧
    ∀ M w R Φ φ (vals : Array Value) n, Good M w R Φ Y φ (atO σ) → (∀ o, σ.length ≤ o → φ o = none) → ARels φ (LOf R) M args vals.toList → vals.size = args.length →
      CallsIn Fence.wide n E.P g vals w (CallPost M w R Φ Y φ σ r objs Y')
  code : ∀ fid c st Y e st' Y', C.code fid c st Y = some (e, st', Y') → CodeC E c st Y e st' Y'
  loop : ∀ fid blk b st Y e st' Y', C.loop fid blk b st Y = some (e, st', Y') → LoopC E m b st Y e st' Y'

/-- What an operation leaves. -/
def OpPost (M : Mem) (w : World) (R : List Nat) (Φ : List Map) (Y : List Ctx) (φ : Map) (σ : Nat → AObj) (base : Nat) (e : Eff) (Y' : List Ctx) (v : Value) (w' : World) : Prop :=
  ∃ M' φ' Φ', Step M w R Φ Y φ σ M' w' Φ' Y' φ' (effO σ base e) ∧ φ.le φ' ∧ (∀ o, (o < base ∨ base + e.news.length ≤ o) → φ' o = φ o) ∧ ARel φ' (LOf R) M' e.val v

section
variable {M M' : Mem} {w w' : World} {R : List Nat} {Φ Φ' : List Map} {Y Y' : List Ctx} {φ φ1 : Map} {σ σc : Nat → AObj}

theorem posIn_none : ∀ (l : List Nat) (o i : Nat), posIn l o i = none → o ∉ l
  | [], _, _, _ => by simp
  | x :: r, o, i, h => by
    simp only [posIn] at h
    cases hx : (x == o) with
    | true => rw [hx] at h; cases h
    | false =>
      rw [hx] at h
      have h2 := posIn_none r o (i + 1) h
      intro hm
      rcases List.mem_cons.1 hm with rfl | hm
      · simp at hx
      · exact h2 hm

theorem call_join {ids : List Nat} {base : Nat} {objs : List AObj} {r : AV} {v : Value} (hG : Good M w R Φ Y φ σ) (hnd : ids.Nodup) (hb : ∀ i ∈ ids, i < base)
    (hs : Step M w R Φ Y (gcMap φ ids) σc M' w' Φ' Y' φ1 (atO objs))
    (hsub : ∀ b, owns (gcMap φ ids) σc b → ∃ o n, o ∈ ids ∧ live (σ o) = true ∧ φ o = some (.blk b n))
    (hpin : ∀ o, o < ids.length → φ1 o = gcMap φ ids o) (hlen : ids.length ≤ objs.length) (hfr1 : ∀ o, objs.length ≤ o → φ1 o = none)
    (hfr : ∀ o, base ≤ o → o < base + (objs.length - ids.length) → φ o = none) (hr : ARel φ1 (LOf R) M' r v) :
    OpPost M w R Φ Y φ σ base ⟨r.ren (backR ids base), ids.zip (objs.map fun x => x.ren (backR ids base)), (objs.map fun x => x.ren (backR ids base)).drop ids.length⟩ Y' v w' := by
  let φ' : Map := fun o => if base ≤ o ∧ o < base + (objs.length - ids.length) then φ1 (o - base + ids.length) else φ o
  let κ : Nat → Option Nat := fun o => match posIn ids o 0 with
    | some i => some i
    | none => if base ≤ o ∧ o < base + (objs.length - ids.length) then some (o - base + ids.length) else none
  have hle : φ.le φ' := by
    intro o p hp
    show (if base ≤ o ∧ o < base + (objs.length - ids.length) then φ1 (o - base + ids.length) else φ o) = some p
    rw [if_neg]
    · exact hp
    · rintro ⟨h1, h2⟩
      rw [hfr o h1 h2] at hp; cases hp
  have hβ : ∀ i o p, backR ids base i = some o → φ1 i = some p → φ' o = some p := by
    intro i o p h1 h2
    show (if base ≤ o ∧ o < base + (objs.length - ids.length) then φ1 (o - base + ids.length) else φ o) = some p
    unfold backR at h1
    by_cases hi : i < ids.length
    · rw [if_pos hi] at h1
      have hlt := hb o (List.mem_of_getElem? h1)
      rw [if_neg (by omega)]
      rw [hpin i hi] at h2
      unfold gcMap at h2
      rw [h1] at h2
      exact h2
    · rw [if_neg hi] at h1
      cases h1
      have hi2 : i < objs.length := by
        refine Nat.lt_of_not_le fun hh => ?_
        rw [hfr1 i hh] at h2; cases h2
      rw [if_pos (by omega)]
      have : base + (i - ids.length) - base + ids.length = i := by omega
      rw [this]; exact h2
  refine ⟨M', φ', Φ', ?_, hle, ?_, hr.ren hβ⟩
  · refine Step.join hG hs (fun b hb' => ?_) κ (backR ids base) ?_ ?_ hβ hle
    · obtain ⟨o, n, _, hl, hp⟩ := hsub b hb'
      exact ⟨o, n, hl, hp⟩
    · intro o i hk
      show effO σ base _ o = _ ∧ _ ∧ _
      cases hpo : posIn ids o 0 with
      | some j =>
        have hk' : κ o = some j := by show (match posIn ids o 0 with | some i => some i | none => _) = _; rw [hpo]
        rw [hk'] at hk; cases hk
        obtain ⟨_, h3⟩ := posIn_spec ids o 0 i hpo
        rw [Nat.sub_zero] at h3
        have hi : i < ids.length := (List.getElem?_eq_some_iff.1 h3).1
        have hob := hb o (List.mem_of_getElem? h3)
        have hi2 : i < objs.length := by omega
        refine ⟨?_, ?_, ?_⟩
        · unfold effO
          rw [updNews_lt (.inl hob)]
          have hmem : (o, (objs[i]).ren (backR ids base)) ∈ ids.zip (objs.map fun x => x.ren (backR ids base)) := by
            refine List.mem_of_getElem? (i := i) ?_
            rw [List.getElem?_zip_eq_some]
            exact ⟨h3, by rw [List.getElem?_map, List.getElem?_eq_getElem hi2]; rfl⟩
          have huniq : ∀ x, (o, x) ∈ ids.zip (objs.map fun x => x.ren (backR ids base)) → x = (objs[i]).ren (backR ids base) := by
            intro x hx
            obtain ⟨j, hj⟩ := List.getElem?_of_mem hx
            rw [List.getElem?_zip_eq_some] at hj
            have hji : j = i := by
              have hjl := (List.getElem?_eq_some_iff.1 hj.1).1
              exact (List.getElem_inj (h₀ := hjl) (h₁ := hi) hnd).1 (by rw [(List.getElem?_eq_some_iff.1 hj.1).2, (List.getElem?_eq_some_iff.1 h3).2])
            subst hji
            have h4 := hj.2
            rw [List.getElem?_map, List.getElem?_eq_getElem hi2] at h4
            simp at h4
            exact h4.symm
          have hat : atO objs i = objs[i] := by simp [atO, hi2]
          rw [hat]
          generalize ids.zip (objs.map fun x => x.ren (backR ids base)) = wr at hmem huniq
          clear hk' hpo
          have key : ∀ (wr : List (Nat × AObj)) (τ : Nat → AObj), (∃ x, (o, x) ∈ wr) → (∀ x, (o, x) ∈ wr → x = (objs[i]).ren (backR ids base)) → updWr τ wr o = (objs[i]).ren (backR ids base) := by
            intro wr
            induction wr with
            | nil => rintro _ ⟨x, hx⟩ _; cases hx
            | cons q rest ih =>
              obtain ⟨q1, q2⟩ := q
              intro τ _ h2
              simp only [updWr]
              by_cases hr : ∃ x, (o, x) ∈ rest
              · exact ih _ hr (fun x hx => h2 x (List.mem_cons_of_mem _ hx))
              · rename_i h1
                obtain ⟨x, hx⟩ := h1
                rcases List.mem_cons.1 hx with h5 | h5
                · cases h5
                  rw [updWr_not (fun y hy => hr ⟨y, hy⟩), upd_same]
                  exact h2 _ (List.mem_cons_self ..)
                · exact absurd ⟨x, h5⟩ hr
          exact key wr σ ⟨_, hmem⟩ huniq
        · show (if base ≤ o ∧ o < base + (objs.length - ids.length) then φ1 (o - base + ids.length) else φ o) = φ1 i
          rw [if_neg (by omega), hpin i hi]
          unfold gcMap
          rw [h3]
          rfl
        · unfold backR
          rw [if_pos hi]; exact h3
      | none =>
        have hk' : κ o = if base ≤ o ∧ o < base + (objs.length - ids.length) then some (o - base + ids.length) else none := by
          show (match posIn ids o 0 with | some i => some i | none => _) = _; rw [hpo]
        rw [hk'] at hk
        split at hk
        · rename_i hc
          cases hk
          refine ⟨?_, ?_, ?_⟩
          · unfold effO
            obtain ⟨j, rfl⟩ := Nat.exists_eq_add_of_le hc.1
            have hj : ids.length + j < objs.length := by omega
            rw [updNews_at (x := (objs[ids.length + j]).ren (backR ids base)) (by
              rw [List.getElem?_drop, List.getElem?_map, List.getElem?_eq_getElem hj]; rfl)]
            have : base + j - base + ids.length = ids.length + j := by omega
            rw [this]
            simp [atO, hj]
          · show (if base ≤ o ∧ o < base + (objs.length - ids.length) then φ1 (o - base + ids.length) else φ o) = _
            rw [if_pos hc]
          · unfold backR
            rw [if_neg (by omega)]
            congr 1
            omega
        · cases hk
    · intro o hk
      cases hpo : posIn ids o 0 with
      | some j =>
        have hk' : κ o = some j := by show (match posIn ids o 0 with | some i => some i | none => _) = _; rw [hpo]
        rw [hk'] at hk; cases hk
      | none =>
        have hk' : κ o = if base ≤ o ∧ o < base + (objs.length - ids.length) then some (o - base + ids.length) else none := by
          show (match posIn ids o 0 with | some i => some i | none => _) = _; rw [hpo]
        rw [hk'] at hk
        split at hk
        · cases hk
        · rename_i hc
          have hno := posIn_none ids o 0 hpo
          refine ⟨?_, ?_, ?_⟩
          · apply effO_not
            rintro (⟨x, hx⟩ | ⟨h1, h2⟩)
            · exact hno (List.of_mem_zip hx).1
            · simp at h2
              exact hc ⟨h1, h2⟩
          · show (if base ≤ o ∧ o < base + (objs.length - ids.length) then φ1 (o - base + ids.length) else φ o) = _
            rw [if_neg hc]
          · intro n b hl hp ho
            obtain ⟨o', n', hm, hl', hp'⟩ := hsub b ho
            have := hG.inv.inj o o' b n n' hl hl' hp hp'
            subst this
            exact hno hm
  · intro o ho
    show (if base ≤ o ∧ o < base + (objs.length - ids.length) then φ1 (o - base + ids.length) else φ o) = φ o
    rw [if_neg]
    simp at ho
    omega

end
end Go.AM

namespace Go.AM

section
variable {φ φ' : Map} {L L' : LMap} {M M' : Mem}

mutual
theorem ARel.noref : ∀ {v : AV} {x : Value}, v.refs = [] → ARel φ L M v x → ARel φ' L M v x
  | _, _, _, .f a b => .f a b
  | _, _, h, .sl a b c d e => by simp [AV.refs] at h
  | _, _, h, .slN a => by simp [AV.refs] at h
  | _, _, h, .ptr a => by simp [AV.refs] at h
  | _, _, h, .fn a b => by
    simp only [AV.refs, List.append_eq_nil_iff] at h
    exact .fn (ARels.noref h.1 a) (ARels.noref h.2 b)
  | _, _, h, .iface a => .iface (ARel.noref (by simpa [AV.refs] using h) a)
  | _, _, h, .mp a => by simp [AV.refs] at h
  | _, _, _, .yld a => .yld a
  | _, _, h, .agg a b => .agg (ARels.noref (by simpa [AV.refs] using h) a) b
  | _, _, h, .tup a => .tup (ARels.noref (by simpa [AV.refs] using h) a)
  | _, _, _, .bot => .bot
theorem ARels.noref : ∀ {l : List AV} {xs : List Value}, AV.refsL l = [] → ARels φ L M l xs → ARels φ' L M l xs
  | _, _, _, .nil => .nil
  | _, _, h, .cons a b => by
    simp only [AV.refsL, List.append_eq_nil_iff] at h
    exact .cons (ARel.noref h.1 a) (ARels.noref h.2 b)
end

theorem FRel.scalar {v : FV} {x : Value} (hs : v.scalar = true) (h : FRel M v x) : FRel M' v x := by
  cases h with
  | int k n => exact .int k n
  | bool b => exact .bool b
  | str s => exact .str s
  | nilp => exact .nilp
  | nils => exact .nils
  | nilm => exact .nilm
  | nilf => exact .nilf
  | nili => exact .nili
  | agg a b => cases hs
  | sl a b c => cases hs
  | ptr a => cases hs
  | fn a b => cases hs
  | iface a => cases hs

theorem FRels.scalar : ∀ {l : List FV} {xs : List Value}, l.all FV.scalar = true → FRels M l xs → FRels M' l xs
  | _, _, _, .nil => .nil
  | _, _, h, .cons a b => by
    simp only [List.all_cons, Bool.and_eq_true] at h
    exact .cons (a.scalar h.1) (FRels.scalar h.2 b)

mutual
theorem ARel.noMem : ∀ {v : AV} {x : Value}, v.noMem = true → ARel φ L M v x → ARel φ L' M' v x
  | _, _, h, .f a b => .f (a.scalar (by simpa [AV.noMem] using h)) b
  | _, _, _, .sl a b c d e => .sl a b c d e
  | _, _, _, .slN a => .slN a
  | _, _, _, .ptr a => .ptr a
  | _, _, h, .fn a b => by simp [AV.noMem] at h
  | _, _, h, .iface a => by simp [AV.noMem] at h
  | _, _, _, .mp a => .mp a
  | _, _, h, .yld a => by simp [AV.noMem] at h
  | _, _, h, .agg a b => .agg (ARels.noMem (by simpa [AV.noMem] using h) a) b
  | _, _, h, .tup a => .tup (ARels.noMem (by simpa [AV.noMem] using h) a)
  | _, _, _, .bot => .bot
theorem ARels.noMem : ∀ {l : List AV} {xs : List Value}, AV.noMemL l = true → ARels φ L M l xs → ARels φ L' M' l xs
  | _, _, _, .nil => .nil
  | _, _, h, .cons a b => by
    simp only [AV.noMemL, Bool.and_eq_true] at h
    exact .cons (ARel.noMem h.1 a) (ARels.noMem h.2 b)
end

theorem ORel.noMem {p : Option Blk} {x : AObj} {w : World} (hn : x.noMem = true) (h : ORel φ L M p x w) : ORel φ L' M' p x w := by
  cases x with
  | box cs =>
    obtain ⟨b, vs, el, fz, hp, hh, hf, hr, hc⟩ := h
    exact ⟨b, vs, el, fz, hp, hh, hf, hr.noMem hn, hc⟩
  | arr cs ex nl =>
    rcases h with ⟨h0, b, vs, el, fz, pre, post, hp, hh, hf, he, hr, hc, hx⟩ | h
    · exact .inl ⟨h0, b, vs, el, fz, pre, post, hp, hh, hf, he, hr.scalar hn, hc, hx⟩
    · exact .inr h
  | frz cs => cases hn
  | map es => cases hn
  | dead => trivial
end

section
variable {M M' M1 : Mem} {w w' : World} {R : List Nat} {Φ Φ' : List Map} {Y Y' : List Ctx} {φ φ1 : Map} {σ σc : Nat → AObj}

theorem gcMap_nil : gcMap φ [] = fun _ => none := by funext o; simp [gcMap]

theorem owns_none {σ : Nat → AObj} {b : Nat} (h : owns (gcMap φ []) σ b) : False := by
  obtain ⟨o, n, _, hp⟩ := h
  simp [gcMap_nil] at hp

theorem inv_nil (L : LMap) (hfr : ∀ b off v, M b off = some v → w.cell? ⟨b, off, none⟩ = some v) : Inv M (gcMap φ []) L (atO []) w := by
  refine ⟨hfr, fun o => ?_, fun o o' b n n' hl => ?_, fun o b n hl => ?_⟩
  · simp [atO, ORel]
  · simp [atO, live] at hl
  · simp [atO, live] at hl

theorem dom_nil : Dom (gcMap φ []) (atO []) := fun o => .inr (by simp [atO])

/-- A call that is handed no object. -/
theorem Good.nil (h : Good M w R Φ Y φ σ) : Good M w R Φ Y (gcMap φ []) (atO []) :=
  ⟨inv_nil _ h.inv.froz, dom_nil, h.lvs, fun _ hb => (owns_none hb).elim⟩

theorem Good.gc {l : List AObj} {ids : List Nat} (h : Good M w R Φ Y φ (atO l)) (hnd : ids.Nodup) : Good M w R Φ Y (gcMap φ ids) (atO (gcS l ids)) :=
  ⟨(gc_sound hnd h.inv h.dom).1, (gc_sound hnd h.inv h.dom).2, h.lvs, fun _ hb => h.sep _ (owns_gc hb)⟩

theorem gc_fresh {l : List AObj} {ids : List Nat} {o : Nat} (h : (gcS l ids).length ≤ o) : gcMap φ ids o = none := by
  unfold gcMap
  rw [List.getElem?_eq_none (by simpa [gcS] using h)]
  rfl

theorem gc_arels {L : LMap} {ids : List Nat} {l : List AV} {xs : List Value} (h : ARels φ L M l xs) : ARels (gcMap φ ids) L M (AV.renL (fun x => posIn ids x 0) l) xs := by
  refine h.ren fun o o' p h1 h2 => ?_
  obtain ⟨_, h3⟩ := posIn_spec ids o 0 o' h1
  rw [Nat.sub_zero] at h3
  unfold gcMap
  rw [h3]
  exact h2

theorem owns_gc_mem {l : List AObj} {ids : List Nat} {b : Nat} (h : owns (gcMap φ ids) (atO (gcS l ids)) b) : ∃ o n, o ∈ ids ∧ live (atO l o) = true ∧ φ o = some (.blk b n) := by
  obtain ⟨o, n, hl, hp⟩ := h
  have hat : atO (gcS l ids) o = (match ids[o]? with | some i => (atO l i).ren (fun x => posIn ids x 0) | none => .dead) := by
    unfold atO gcS
    rw [List.getElem?_map]
    cases ids[o]? <;> rfl
  rw [hat] at hl
  cases hi : ids[o]? with
  | none => rw [hi] at hl; cases hl
  | some i =>
    rw [hi] at hl
    unfold gcMap at hp
    rw [hi] at hp
    exact ⟨i, n, List.mem_of_getElem? hi, by rwa [live_ren] at hl, hp⟩

/-- A store of which some objects have been frozen. -/
theorem Good.mixed {l l' : List AObj} {τ : Nat → AObj} (h : Good M w R Φ Y φ (atO l)) (hF : Frz M φ (LOf R) l l' M1 w) (hτ : ∀ o, τ o = atO l' o ∨ (τ o = atO l o ∧ live (atO l o) = false)) :
    Step M w R Φ Y φ (atO l) M1 w Φ Y φ τ := by
  have hlive : ∀ o, live (τ o) = true → τ o = atO l' o := by
    intro o hl
    rcases hτ o with h1 | ⟨h1, h2⟩
    · exact h1
    · rw [h1, h2] at hl; cases hl
  refine Step.of_top h ⟨hF.inv.froz, ?_, ?_, ?_⟩ ?_ hF.frame ?_
  · intro o
    rcases hτ o with h1 | ⟨h1, h2⟩
    · rw [h1]; exact hF.inv.obj o
    · rw [h1]
      exact (h.inv.obj o).keep (fun _ _ h => h) (fun _ _ h => h) hF.le (fun _ _ _ _ => rfl)
  · intro o o' b n n' h1 h2 p1 p2
    rw [hlive o h1] at h1
    rw [hlive o' h2] at h2
    exact hF.inv.inj o o' b n n' h1 h2 p1 p2
  · intro o b n h1 p1 off
    rw [hlive o h1] at h1
    exact hF.inv.sep o b n h1 p1 off
  · intro o
    rcases hτ o with h1 | ⟨h1, h2⟩
    · rw [h1]; exact hF.dom o
    · rw [h1]; exact h.dom o
  · rintro b ⟨o, n, h1, p1⟩
    rw [hlive o h1] at h1
    exact .inl ⟨o, n, hF.live o h1, p1⟩

theorem wrOf_mem : ∀ (old new : List AObj) (i : Nat) (o : Nat) (x : AObj), (o, x) ∈ wrOf.go i old new → i ≤ o ∧ new[o - i]? = some x ∧ o - i < old.length
  | [], _, _, _, _, h => by simp [wrOf.go] at h
  | _ :: _, [], _, _, _, h => by simp [wrOf.go] at h
  | y :: r, z :: s, i, o, x, h => by
    have tail : (o, x) ∈ wrOf.go (i + 1) r s → i ≤ o ∧ (z :: s)[o - i]? = some x ∧ o - i < (y :: r).length := by
      intro h2
      obtain ⟨h3, h4, h5⟩ := wrOf_mem r s (i + 1) o x h2
      refine ⟨by omega, ?_, by simp; omega⟩
      have : o - i = (o - (i + 1)) + 1 := by omega
      rw [this]
      simpa using h4
    have head : o = i → z = x → i ≤ o ∧ (z :: s)[o - i]? = some x ∧ o - i < (y :: r).length := by
      rintro rfl rfl
      simp
    cases z <;> cases y <;> simp only [wrOf.go, List.mem_cons, Prod.mk.injEq] at h <;> first
      | exact tail h
      | (rcases h with ⟨h1, h2⟩ | h
         · exact head h1 h2.symm
         · exact tail h)

theorem wrOf_not : ∀ (old new : List AObj) (i j : Nat) (y : AObj) (cs : List FV), old[j]? = some y → new[j]? = some (.frz cs) → (∀ x, (i + j, x) ∉ wrOf.go i old new) → ∃ cs', y = .frz cs'
  | [], _, _, _, _, _, h, _, _ => by simp at h
  | _ :: _, [], _, _, _, _, _, h, _ => by simp at h
  | y :: r, z :: s, i, 0, y', cs, h1, h2, h3 => by
    simp at h1 h2
    subst h1 h2
    cases y with
    | frz cs' => exact ⟨cs', rfl⟩
    | _ => exact absurd (by simp [wrOf.go]) (h3 (.frz cs))
  | y :: r, z :: s, i, j + 1, y', cs, h1, h2, h3 => by
    simp at h1 h2
    refine wrOf_not r s (i + 1) j y' cs h1 h2 fun x hx => ?_
    refine h3 x ?_
    have e : i + (j + 1) = i + 1 + j := by omega
    rw [e]
    cases z <;> cases y <;> simp only [wrOf.go] <;> first | exact hx | exact List.mem_cons_of_mem _ hx

theorem updWr_val {σ : Nat → AObj} {o : Nat} {y : AObj} : ∀ (wr : List (Nat × AObj)) (τ : Nat → AObj), (∃ x, (o, x) ∈ wr) → (∀ x, (o, x) ∈ wr → x = y) → updWr τ wr o = y
  | [], _, ⟨_, h⟩, _ => by cases h
  | (q1, q2) :: rest, τ, ⟨x, hx⟩, h2 => by
    simp only [updWr]
    by_cases hr : ∃ x, (o, x) ∈ rest
    · exact updWr_val (σ := σ) rest _ hr (fun x hx => h2 x (List.mem_cons_of_mem _ hx))
    · rcases List.mem_cons.1 hx with h5 | h5
      · cases h5
        rw [updWr_not (fun y hy => hr ⟨y, hy⟩), upd_same]
        exact h2 _ (List.mem_cons_self ..)
      · exact absurd ⟨x, h5⟩ hr

/-- What freezing writes. -/
theorem wrOf_spec {l l' : List AObj} {L : LMap} (hF : Frz M φ L l l' M1 w) (o : Nat) :
    updWr (atO l) (wrOf l l') o = atO l' o ∨ (updWr (atO l) (wrOf l l') o = atO l o ∧ live (atO l o) = false) := by
  by_cases hm : ∃ x, (o, x) ∈ wrOf l l'
  · left
    refine updWr_val (σ := atO l) _ _ hm fun x hx => ?_
    obtain ⟨_, h2, _⟩ := wrOf_mem l l' 0 o x hx
    simp at h2
    simp [atO, h2]
  · have hno : ∀ x, (o, x) ∉ wrOf l l' := fun x hx => hm ⟨x, hx⟩
    rw [updWr_not hno]
    rcases hF.chg o with h1 | ⟨cs, h1⟩
    · exact .inl h1.symm
    · right
      refine ⟨rfl, ?_⟩
      have hlt : o < l'.length := atO_lt (by rw [h1]; simp)
      have hlt2 : o < l.length := by rw [← hF.len]; exact hlt
      have h2 : l'[o]? = some (.frz cs) := by
        rw [List.getElem?_eq_getElem hlt]
        simp [atO, hlt] at h1
        rw [h1]
      obtain ⟨cs', h3⟩ := wrOf_not l l' 0 o l[o] cs (List.getElem?_eq_getElem hlt2) h2 (by simpa [wrOf] using hno)
      simp [atO, hlt2, h3, live]

theorem backR_nil (base : Nat) : backR [] base = fun y => some (base + y) := by
  funext x
  simp [backR]

end

section
variable {E : Env} {C : Knot} {m : Nat} {M : Mem} {w : World} {R : List Nat} {Φ : List Map} {Y Y' : List Ctx} {φ : Map} {σ : Nat → AObj}

theorem join_nil {M' : Mem} {w' : World} {Φ' : List Map} {φ1 : Map} {objs : List AObj} {base : Nat} {r : AV} {v : Value} (hG : Good M w R Φ Y φ σ)
    (hs : Step M w R Φ Y (gcMap φ []) (atO []) M' w' Φ' Y' φ1 (atO objs)) (hfr1 : ∀ o, objs.length ≤ o → φ1 o = none)
    (hfr : ∀ o, base ≤ o → o < base + objs.length → φ o = none) (hr : ARel φ1 (LOf R) M' r v) :
    OpPost M w R Φ Y φ σ base ⟨shiftR base r, [], objs.map fun x => x.ren fun y => some (base + y)⟩ Y' v w' := by
  have := call_join (ids := []) (base := base) hG List.nodup_nil (by simp) hs (fun b hb => (owns_none hb).elim) (by simp) (by simp) hfr1 (by simpa using hfr) hr
  rw [backR_nil] at this
  simpa [shiftR] using this

theorem OpPost.after {M' : Mem} {w' : World} {τ : Nat → AObj} {base : Nat} {e e' : Eff} {v : Value} (h1 : Step M w R Φ Y φ σ M' w Φ Y φ τ) (h : OpPost M' w R Φ Y φ τ base e Y' v w')
    (he : effO τ base e = effO σ base e') (hn : e'.news.length = e.news.length) (hv : e'.val = e.val) : OpPost M w R Φ Y φ σ base e' Y' v w' := by
  obtain ⟨M2, φ2, Φ2, h2, h3, h4, h5⟩ := h
  exact ⟨M2, φ2, Φ2, he ▸ h1.trans h2, h3, by rw [hn]; exact h4, by rw [hv]; exact h5⟩

theorem doCall_sound (hK : KnotOk E C m) {base : Nat} {g : FuncId} {args : List AV} {e : Eff} {vals : Array Value} (h : doCall C E base σ g args Y = some (e, Y')) (hG : Good M w R Φ Y φ σ)
    (hd : ∀ o, base ≤ o → σ o = .dead) (hfr : ∀ o, base ≤ o → o < base + e.news.length → φ o = none) (ha : ARels φ (LOf R) M args vals.toList) (n : Nat) :
    (∀ as w, (callFunc g as).run E.P w = .ok (.enter g as) w) ∧
    CallsIn Fence.wide n E.P g vals w (fun | .returned v, w' => OpPost M w R Φ Y φ σ base e Y' v w' | _, _ => False) := by
  have hat := atO_toList' hd
  have hGl : Good M w R Φ Y φ (atO (toList' σ base)) := by rw [hat]; exact hG
  have hsz : vals.size = args.length := by rw [ha.length]; simp
  unfold doCall at h
  split at h
  · rename_i hnr
    split at h
    · rename_i r objs Y1 hc
      cases h
      obtain ⟨h1, h2⟩ := hK.call g args [] Y r objs Y' hc
      refine ⟨h1, (h2 M w R Φ (gcMap φ []) vals n hG.nil (fun o _ => by simp [gcMap_nil]) (ha.noref hnr) hsz).mono ?_⟩
      intro en w' hp
      cases en with
      | returned v =>
        obtain ⟨M', φ1, Φ', h3, h4, _, _, h5⟩ := hp
        exact join_nil hG h3 h5 (by simpa using hfr) h4
      | panicked c => exact hp
      | outgrown => exact hp
    · cases h
  · rename_i hnr
    split at h
    · -- borrowed
      split at h
      · rename_i fs σf hfz
        obtain ⟨M1, hF, hfs⟩ := freezeL_sound hfz hGl.inv hGl.dom ha
        split at h
        · rename_i r objs Yx hc
          split at h
          · rename_i hno
            cases h
            simp only [Bool.and_eq_true] at hno
            obtain ⟨h1, h2⟩ := hK.call g _ [] [] r objs Yx hc
            have hsz2 : vals.size = (fs.map ofFV).length := by rw [List.length_map, hfs.length]; simp
            have hg0 : Good M1 w [] [] [] (gcMap φ []) (atO []) := ⟨inv_nil _ hF.inv.froz, dom_nil,
              ⟨rfl, rfl, by simp, List.nodup_nil, by simp⟩, fun _ hb => (owns_none hb).elim⟩
            refine ⟨h1, (h2 M1 w [] [] (gcMap φ []) vals n hg0 (fun o _ => by simp [gcMap_nil]) (ARels.ofFVs hfs) hsz2).mono ?_⟩
            intro en w' hp
            cases en with
            | returned v =>
              obtain ⟨M', φ1, Φ', h3, h4, _, _, h5⟩ := hp
              have hempty : ∀ b, ¬ act [] [] [] (gcMap φ []) (atO []) b := by
                rintro b (hb | hb | ⟨i, c, φ', hb, _⟩)
                · exact owns_none hb
                · cases hb
                · simp at hb
              have hnew : ∀ b, owns φ1 (atO objs) b → w.heap.size ≤ b := fun b hb => (h3.own b (.inl hb)).resolve_left (hempty b)
              let M2 : Mem := fun b off => if b < w.heap.size then M b off else M' b off
              have hM2lt : ∀ b off, b < w.heap.size → M2 b off = M b off := fun b off hb => if_pos hb
              have hM2ge : ∀ b off, ¬ b < w.heap.size → M2 b off = M' b off := fun b off hb => if_neg hb
              have hfroz : ∀ b off v, M2 b off = some v → w'.cell? ⟨b, off, none⟩ = some v := by
                intro b off v hv
                by_cases hb : b < w.heap.size
                · rw [hM2lt b off hb] at hv
                  rw [cell_congr (h3.frame.keep b hb (hempty b))]
                  exact hG.inv.froz b off v hv
                · rw [hM2ge b off hb] at hv
                  exact h3.good.inv.froz b off v hv
              have hobj : ∀ o, (atO objs o).noMem = true := by
                intro o
                unfold atO
                cases ho : objs[o]? with
                | none => rfl
                | some x => exact List.all_eq_true.1 hno.2 x (List.mem_of_getElem? ho)
              have hinv : Inv M2 φ1 (LOf R) (atO objs) w' := by
                refine ⟨hfroz, fun o => (h3.good.inv.obj o).noMem (hobj o), h3.good.inv.inj, ?_⟩
                intro o b k hl hp' off
                rw [hM2ge b off (Nat.not_lt.2 (hnew b ⟨o, k, hl, hp'⟩))]
                exact h3.good.inv.sep o b k hl hp' off
              have hst : Step M w R Φ Y (gcMap φ []) (atO []) M2 w' Φ Y φ1 (atO objs) := by
                refine Step.of_top hG.nil hinv h3.good.dom ⟨h3.frame.size, fun b hb _ => h3.frame.keep b hb (hempty b), ?_, fun b off hb _ => hM2lt b off hb, h3.frame.tape, h3.frame.os, h3.frame.out⟩
                  (fun b hb => .inr (hnew b hb))
                intro b off v hv
                rw [hM2lt b off (hG.inv.memLt hv)]; exact hv
              exact join_nil hG hst h5 (by simpa using hfr) (h4.noMem hno.1)
            | panicked c => exact hp
            | outgrown => exact hp
          · cases h
        · cases h
      · cases h
    · -- frozen
      split at h
      · rename_i fs σf hfz
        obtain ⟨M1, hF, hfs⟩ := freezeL_sound hfz hGl.inv hGl.dom ha
        have hs0 := hGl.mixed hF (τ := updWr (atO (toList' σ base)) (wrOf (toList' σ base) σf)) (wrOf_spec hF)
        rw [hat] at hs0
        split at h
        · rename_i r objs Y1 hc
          cases h
          obtain ⟨h1, h2⟩ := hK.call g _ [] Y r objs Y' hc
          have hsz2 : vals.size = (fs.map ofFV).length := by rw [List.length_map, hfs.length]; simp
          refine ⟨h1, (h2 M1 w R Φ (gcMap φ []) vals n hs0.good.nil (fun o _ => by simp [gcMap_nil]) (ARels.ofFVs hfs) hsz2).mono ?_⟩
          intro en w' hp
          cases en with
          | returned v =>
            obtain ⟨M', φ1, Φ', h3, h4, _, _, h5⟩ := hp
            exact OpPost.after hs0 (join_nil (base := base) hs0.good h3 h5 (by simpa using hfr) h4) rfl rfl rfl
          | panicked c => exact hp
          | outgrown => exact hp
        · cases h
      · cases h
    · -- moved
      simp only at h
      split at h
      · cases h
      · rename_i hids
        split at h
        · rename_i r objs Y1 hc
          cases h
          have hnd : (reach σ reachFuel (AV.refsL args) []).Nodup := reach_nodup _ _ _ _ List.nodup_nil
          generalize reach σ reachFuel (AV.refsL args) [] = ids at hids hc hfr hnd ⊢
          have hb : ∀ i ∈ ids, i < base := by
            intro i hi
            have hall : ids.all (fun i => Nat.blt i base) = true := by simpa using hids
            have h9 := List.all_eq_true.1 hall i hi
            rwa [Nat.blt_eq] at h9
          have hgc : (ids.map fun o => (σ o).ren (fun x => posIn ids x 0)) = gcS (toList' σ base) ids := by
            unfold gcS
            rw [hat]
          rw [hgc] at hc
          obtain ⟨h1, h2⟩ := hK.call g _ _ Y r objs Y' hc
          have hrl : ∀ (f : Nat → Option Nat) (l : List AV), (AV.renL f l).length = l.length := by
            intro f l
            induction l with
            | nil => rfl
            | cons x r ih => simp [AV.renL, ih]
          refine ⟨h1, (h2 M w R Φ (gcMap φ ids) vals n (hGl.gc hnd) (fun o ho => gc_fresh ho) (gc_arels ha) (by rw [hrl]; exact hsz)).mono ?_⟩
          intro en w' hp
          cases en with
          | returned v =>
            obtain ⟨M', φ1, Φ', h3, h4, h6, h7, h5⟩ := hp
            have hl : (gcS (toList' σ base) ids).length = ids.length := by simp [gcS]
            rw [hl] at h6 h7
            refine call_join hG hnd hb h3 (fun b hb => ?_) h6 h7 h5 (by simpa using hfr) h4
            have := owns_gc_mem hb
            rwa [hat] at this
          | panicked c => exact hp
          | outgrown => exact hp
        · cases h

end
end Go.AM

namespace Go.AM

theorem splice_get {α : Type} {l1 l : List α} {x : α} {n : Nat} (hn : l1.length = n) (i : Nat) :
    (l1 ++ x :: l.drop (n + 1))[i]? = if i < n then l1[i]? else if i = n then some x else l[i]? := by
  by_cases h : i < n
  · rw [if_pos h, List.getElem?_append_left (by omega)]
  · rw [if_neg h, List.getElem?_append_right (by omega), hn]
    by_cases h2 : i = n
    · subst h2; simp
    · rw [if_neg h2]
      obtain ⟨k, rfl⟩ : ∃ k, i = n + 1 + k := ⟨i - (n + 1), by omega⟩
      have : n + 1 + k - n = k + 1 := by omega
      rw [this]
      simp [List.getElem?_drop]

theorem take_get {α : Type} {l : List α} {n i : Nat} : (l.take n)[i]? = if i < n then l[i]? else none := by
  rw [List.getElem?_take]

section
variable {M M' M3 : Mem} {w w' w4 : World} {R : List Nat} {Φ Φ' Φ3 : List Map} {Y Y' Y3 : List Ctx} {φ φ' φl φ3 : Map} {σ τ σ3 : Nat → AObj}

/-- The levels below a level. -/
theorem Lvls.take (h : Lvls M w R Φ Y) (n : Nat) : Lvls M w (R.take n) (Φ.take n) (Y.take n) where
  lenR := by simp [h.lenR]
  lenΦ := by simp [h.lenΦ]
  lv i c φ r hc hp hr := by
    rw [take_get] at hc hp hr
    by_cases hi : i < n
    · rw [if_pos hi] at hc hp hr
      have := h.lv i c φ r hc hp hr
      rwa [List.take_take, Nat.min_eq_left (Nat.le_of_lt hi)]
    · rw [if_neg hi] at hc; cases hc
  recs := (List.take_sublist n R).nodup h.recs
  sep i j c c' φ φ' b hc hp hc' hp' := by
    rw [take_get] at hc hp hc' hp'
    by_cases hi : i < n
    · by_cases hj : j < n
      · rw [if_pos hi] at hc hp
        rw [if_pos hj] at hc' hp'
        exact h.sep i j c c' φ φ' b hc hp hc' hp'
      · rw [if_neg hj] at hc'; cases hc'
    · rw [if_neg hi] at hc; cases hc

theorem lvOwn_take {n b : Nat} (h : lvOwn (Φ.take n) (Y.take n) b) : ∃ i c φ, i < n ∧ Y[i]? = some c ∧ Φ[i]? = some φ ∧ owns φ (atO c.σ) b := by
  obtain ⟨i, c, φ, hc, hp, ho⟩ := h
  rw [take_get] at hc hp
  by_cases hi : i < n
  · rw [if_pos hi] at hc hp
    exact ⟨i, c, φ, hi, hc, hp, ho⟩
  · rw [if_neg hi] at hc; cases hc

theorem Good.take (h : Good M w R Φ Y φ σ) {lvl : Nat} {c : Ctx} {r : Nat} (hc : Y[lvl]? = some c) (hp : Φ[lvl]? = some φl) (hr : R[lvl]? = some r) :
    Good M w (R.take lvl) (Φ.take lvl) (Y.take lvl) φl (atO c.σ) := by
  have hl := h.lvs.lv lvl c φl r hc hp hr
  refine ⟨hl.inv, hl.dom, h.lvs.take lvl, ?_⟩
  intro b hb hlv
  obtain ⟨i, c', φ', hi, hc', hp', ho⟩ := lvOwn_take hlv
  have := h.lvs.sep i lvl c' c φ' φl b hc' hp' hc hp ho hb
  omega

theorem nodup_take {l : List Nat} (h : l.Nodup) {n r : Nat} (hr : l[n]? = some r) : r ∉ l.take n := by
  intro hm
  obtain ⟨i, hi⟩ := List.getElem?_of_mem hm
  rw [take_get] at hi
  by_cases hlt : i < n
  · rw [if_pos hlt] at hi
    have h1 := (List.getElem?_eq_some_iff.1 hi)
    have h2 := (List.getElem?_eq_some_iff.1 hr)
    have := (List.getElem_inj (h₀ := h1.1) (h₁ := h2.1) h).1 (h1.2.trans h2.2.symm)
    omega
  · rw [if_neg hlt] at hi; cases hi

theorem nodup_ne {l : List Nat} (h : l.Nodup) {n m r r' : Nat} (hr : l[n]? = some r) (hr' : l[m]? = some r') (hn : n ≠ m) : r ≠ r' := by
  rintro rfl
  have h1 := (List.getElem?_eq_some_iff.1 hr)
  have h2 := (List.getElem?_eq_some_iff.1 hr')
  exact hn ((List.getElem_inj (h₀ := h1.1) (h₁ := h2.1) h).1 (h1.2.trans h2.2.symm))

theorem Step.splice (hG : Good M w R Φ Y φ τ) {lvl : Nat} {c c' : Ctx} {r : Nat} (hc : Y[lvl]? = some c) (hp : Φ[lvl]? = some φl) (hr : R[lvl]? = some r)
    (hN : Good M3 w4 (R.take lvl) Φ3 Y3 φ3 σ3)
    (hF : Frame (fun b => act (R.take lvl) (Φ.take lvl) (Y.take lvl) φl (atO c.σ) b ∨ b = r) M w M3 w4)
    (hown : ∀ b, act (R.take lvl) Φ3 Y3 φ3 σ3 b → act (R.take lvl) (Φ.take lvl) (Y.take lvl) φl (atO c.σ) b ∨ w.heap.size ≤ b)
    (hL : LvlsStep (Φ.take lvl) (Y.take lvl) Φ3 Y3) (hOk : LvlOk M3 w4 (R.take lvl) r φ' c') (hc' : c' = { c with σ := c'.σ, jump := c'.jump })
    (hk : ∀ o, o < c.keep → φ' o = φl o) (hsub : ∀ b, owns φ' (atO c'.σ) b → owns φ3 σ3 b) :
    Step M w R Φ Y φ τ M3 w4 (Φ3 ++ φ' :: Φ.drop (lvl + 1)) (Y3 ++ c' :: Y.drop (lvl + 1)) φ τ := by
  have hlt : lvl < Y.length := (List.getElem?_eq_some_iff.1 hc).1
  have lenY3 : Y3.length = lvl := by rw [hL.len]; simp; omega
  have lenΦ3 : Φ3.length = lvl := by rw [hN.lvs.lenΦ, lenY3]
  have gY := fun i => splice_get (l := Y) (x := c') lenY3 i
  have gΦ := fun i => splice_get (l := Φ) (x := φ') lenΦ3 i
  have hrR : r ∈ R := List.mem_of_getElem? hr
  -- what a later level holds
  have later : ∀ j cj φj b, lvl < j → Y[j]? = some cj → Φ[j]? = some φj → owns φj (atO cj.σ) b → ¬ (act (R.take lvl) (Φ.take lvl) (Y.take lvl) φl (atO c.σ) b ∨ b = r) := by
    intro j cj φj b hj hcj hpj ho
    have hlv : lvOwn Φ Y b := ⟨j, cj, φj, hcj, hpj, ho⟩
    rintro ((h1 | h1 | h1) | h1)
    · have := hG.lvs.sep lvl j c cj φl φj b hc hp hcj hpj h1 ho
      omega
    · obtain ⟨rec, hh⟩ := hG.lvs.heap (List.mem_of_mem_take h1)
      exact hG.lvs.own_not_loop hlv hh
    · obtain ⟨i, ci, φi, hi, hci, hpi, hoi⟩ := lvOwn_take h1
      have := hG.lvs.sep i j ci cj φi φj b hci hpi hcj hpj hoi ho
      omega
    · subst h1
      obtain ⟨rec, hh⟩ := hG.lvs.heap hrR
      exact hG.lvs.own_not_loop hlv hh
  have later' : ∀ j cj φj b, lvl < j → Y[j]? = some cj → Φ[j]? = some φj → owns φj (atO cj.σ) b → ¬ act (R.take lvl) Φ3 Y3 φ3 σ3 b := by
    intro j cj φj b hj hcj hpj ho h1
    rcases hown b h1 with h2 | h2
    · exact later j cj φj b hj hcj hpj ho (.inl h2)
    · have := hG.lvs.own_lt ⟨j, cj, φj, hcj, hpj, ho⟩
      omega
  have top : ∀ b, owns φ τ b → ¬ (act (R.take lvl) (Φ.take lvl) (Y.take lvl) φl (atO c.σ) b ∨ b = r) := by
    intro b ho
    rintro ((h1 | h1 | h1) | h1)
    · exact hG.sep b ho ⟨lvl, c, φl, hc, hp, h1⟩
    · obtain ⟨rec, hh⟩ := hG.lvs.heap (List.mem_of_mem_take h1)
      exact hG.inv.not_loop hh ho
    · obtain ⟨i, ci, φi, hi, hci, hpi, hoi⟩ := lvOwn_take h1
      exact hG.sep b ho ⟨i, ci, φi, hci, hpi, hoi⟩
    · subst h1
      obtain ⟨rec, hh⟩ := hG.lvs.heap hrR
      exact hG.inv.not_loop hh ho
  have top' : ∀ b, owns φ τ b → ¬ act (R.take lvl) Φ3 Y3 φ3 σ3 b := by
    intro b ho h1
    rcases hown b h1 with h2 | h2
    · exact top b ho (.inl h2)
    · obtain ⟨o, n, hl, hp'⟩ := ho
      have := hG.inv.lt hl hp'
      omega
  -- who owns what, afterwards
  have split : ∀ i ci φi b, (Y3 ++ c' :: Y.drop (lvl + 1))[i]? = some ci → (Φ3 ++ φ' :: Φ.drop (lvl + 1))[i]? = some φi → owns φi (atO ci.σ) b →
      (i < lvl ∧ Y3[i]? = some ci ∧ Φ3[i]? = some φi) ∨ (i = lvl ∧ owns φ3 σ3 b) ∨ (lvl < i ∧ Y[i]? = some ci ∧ Φ[i]? = some φi) := by
    intro i ci φi b hci hpi ho
    rw [gY i] at hci
    rw [gΦ i] at hpi
    by_cases h1 : i < lvl
    · rw [if_pos h1] at hci hpi; exact .inl ⟨h1, hci, hpi⟩
    · rw [if_neg h1] at hci hpi
      by_cases h2 : i = lvl
      · rw [if_pos h2] at hci hpi
        cases hci; cases hpi
        exact .inr (.inl ⟨h2, hsub b ho⟩)
      · rw [if_neg h2] at hci hpi
        exact .inr (.inr ⟨by omega, hci, hpi⟩)
  have hact : ∀ b, lvOwn (Φ3 ++ φ' :: Φ.drop (lvl + 1)) (Y3 ++ c' :: Y.drop (lvl + 1)) b → act (R.take lvl) Φ3 Y3 φ3 σ3 b ∨ lvOwn Φ Y b := by
    rintro b ⟨i, ci, φi, hci, hpi, ho⟩
    rcases split i ci φi b hci hpi ho with ⟨_, h2, h3⟩ | ⟨_, h2⟩ | ⟨_, h2, h3⟩
    · exact .inl (.inr (.inr ⟨i, ci, φi, h2, h3, ho⟩))
    · exact .inl (.inl h2)
    · exact .inr ⟨i, ci, φi, h2, h3, ho⟩
  have hin : ∀ b, act (R.take lvl) (Φ.take lvl) (Y.take lvl) φl (atO c.σ) b → act R Φ Y φ τ b := by
    rintro b (h1 | h1 | h1)
    · exact .inr (.inr ⟨lvl, c, φl, hc, hp, h1⟩)
    · exact .inr (.inl (List.mem_of_mem_take h1))
    · obtain ⟨i, ci, φi, hi, hci, hpi, hoi⟩ := lvOwn_take h1
      exact .inr (.inr ⟨i, ci, φi, hci, hpi, hoi⟩)
  have hlvs : Lvls M3 w4 R (Φ3 ++ φ' :: Φ.drop (lvl + 1)) (Y3 ++ c' :: Y.drop (lvl + 1)) := by
    refine ⟨?_, ?_, ?_, hG.lvs.recs, ?_⟩
    · rw [hG.lvs.lenR]; simp [lenY3]; omega
    · have := hG.lvs.lenΦ
      simp [lenY3, lenΦ3]; omega
    · intro i ci φi ri hci hpi hri
      rw [gY i] at hci
      rw [gΦ i] at hpi
      by_cases h1 : i < lvl
      · rw [if_pos h1] at hci hpi
        have := hN.lvs.lv i ci φi ri hci hpi (by rw [take_get, if_pos h1]; exact hri)
        rwa [List.take_take, Nat.min_eq_left (Nat.le_of_lt h1)] at this
      · rw [if_neg h1] at hci hpi
        by_cases h2 : i = lvl
        · rw [if_pos h2] at hci hpi
          cases hci; cases hpi
          subst h2
          rw [hr] at hri; cases hri
          exact hOk
        · rw [if_neg h2] at hci hpi
          have hi : lvl < i := by omega
          refine (hG.lvs.lv i ci φi ri hci hpi hri).keep hF hN.inv.froz (fun b hb => later i ci φi b hi hci hpi hb) ?_
          obtain ⟨rec, hh⟩ := hG.lvs.heap (List.mem_of_getElem? hri)
          rintro ((h3 | h3 | h3) | h3)
          · exact (hG.lvs.lv lvl c φl r hc hp hr).inv.not_loop hh h3
          · obtain ⟨k, hk'⟩ := List.getElem?_of_mem h3
            rw [take_get] at hk'
            by_cases hkl : k < lvl
            · rw [if_pos hkl] at hk'
              exact nodup_ne hG.lvs.recs hk' hri (by omega) rfl
            · rw [if_neg hkl] at hk'; cases hk'
          · obtain ⟨k, ck, φk, hkl, hck, hpk, hok⟩ := lvOwn_take h3
            exact hG.lvs.own_not_loop ⟨k, ck, φk, hck, hpk, hok⟩ hh
          · exact nodup_ne hG.lvs.recs hr hri (by omega) h3.symm
    · intro i j ci cj φi φj b hci hpi hcj hpj hoi hoj
      rcases split i ci φi b hci hpi hoi with ⟨a1, a2, a3⟩ | ⟨a1, a2⟩ | ⟨a1, a2, a3⟩ <;> rcases split j cj φj b hcj hpj hoj with ⟨b1, b2, b3⟩ | ⟨b1, b2⟩ | ⟨b1, b2, b3⟩
      · exact hN.lvs.sep i j ci cj φi φj b a2 a3 b2 b3 hoi hoj
      · exact absurd ⟨i, ci, φi, a2, a3, hoi⟩ (hN.sep b b2)
      · exact absurd (.inr (.inr ⟨i, ci, φi, a2, a3, hoi⟩)) (later' j cj φj b b1 b2 b3 hoj)
      · exact absurd ⟨j, cj, φj, b2, b3, hoj⟩ (hN.sep b a2)
      · omega
      · exact absurd (.inl a2) (later' j cj φj b b1 b2 b3 hoj)
      · exact absurd (.inr (.inr ⟨j, cj, φj, b2, b3, hoj⟩)) (later' i ci φi b a1 a2 a3 hoi)
      · exact absurd (.inl b2) (later' i ci φi b a1 a2 a3 hoi)
      · exact hG.lvs.sep i j ci cj φi φj b a2 a3 b2 b3 hoi hoj
  refine ⟨⟨hG.inv.keep hF hN.inv.froz (fun _ _ h => h) (fun _ _ h => h) (fun _ _ => rfl) hG.dom top, hG.dom, hlvs, ?_⟩, hF.mono ?_, ?_, ?_⟩
  · intro b hb hlv
    rcases hact b hlv with h1 | h1
    · exact top' b hb h1
    · exact hG.sep b hb h1
  · rintro b _ (h1 | h1)
    · exact hin b h1
    · subst h1; exact .inr (.inl hrR)
  · rintro b (h1 | h1 | h1)
    · exact .inl (.inl h1)
    · exact .inl (.inr (.inl h1))
    · rcases hact b h1 with h2 | h2
      · exact (hown b h2).imp (hin b) id
      · exact .inl (.inr (.inr h2))
  · refine ⟨?_, ?_, ?_⟩
    · simp [lenY3]; omega
    · intro i ci cj hci hcj
      rw [gY i] at hcj
      by_cases h1 : i < lvl
      · rw [if_pos h1] at hcj
        exact hL.same i ci cj (by rw [take_get, if_pos h1]; exact hci) hcj
      · rw [if_neg h1] at hcj
        by_cases h2 : i = lvl
        · rw [if_pos h2] at hcj
          cases hcj
          subst h2
          rw [hc] at hci; cases hci
          exact hc'
        · rw [if_neg h2] at hcj
          rw [hci] at hcj; cases hcj; rfl
    · intro i ci φi φj hci hpi hpj o ho
      rw [gΦ i] at hpj
      by_cases h1 : i < lvl
      · rw [if_pos h1] at hpj
        exact hL.keep i ci φi φj (by rw [take_get, if_pos h1]; exact hci) (by rw [take_get, if_pos h1]; exact hpi) hpj o ho
      · rw [if_neg h1] at hpj
        by_cases h2 : i = lvl
        · rw [if_pos h2] at hpj
          cases hpj
          subst h2
          rw [hc] at hci; cases hci
          rw [hp] at hpi; cases hpi
          exact hk o ho
        · rw [if_neg h2] at hpj
          rw [hpi] at hpj; cases hpj; rfl

/-- A block that holds no cells, and no record of ours, turned. -/
theorem Good.putObj (h : Good M w R Φ Y φ σ) {r : Nat} {o : Obj} (ho : w.heap[r]? = some o) (hcl : ∀ vs el fz, o ≠ .cells vs el fz) (hr : r ∉ R) (o' : Obj) :
    Good M (w.putObj r o') R Φ Y φ σ ∧ Frame (fun b => b = r) M w M (w.putObj r o') := by
  have hf : Frame (fun b => b = r) M w M (w.putObj r o') :=
    ⟨by simp, fun b _ hn => World.putObj_heap_other hn, fun _ _ _ h => h, fun _ _ _ _ => rfl, rfl, rfl, rfl⟩
  have hfr : ∀ b off v, M b off = some v → (w.putObj r o').cell? ⟨b, off, none⟩ = some v := by
    intro b off v hv
    have h1 := h.inv.froz b off v hv
    by_cases hb : b = r
    · subst hb
      simp only [World.cell?, ho] at h1
      cases o with
      | cells vs el fz => exact absurd rfl (hcl vs el fz)
      | _ => cases h1
    · rw [cell_congr (World.putObj_heap_other hb)]; exact h1
  have hno := h.not_act ho hcl hr
  refine ⟨⟨h.inv.keep hf hfr (fun _ _ h => h) (fun _ _ h => h) (fun _ _ => rfl) h.dom ?_, h.dom, h.lvs.keep hf hfr ?_ ?_, h.sep⟩, hf⟩
  · rintro b hb rfl; exact hno (.inl hb)
  · rintro b hb rfl; exact hno (.inr (.inr hb))
  · rintro b hb rfl; exact hr hb

end

/-! ### garbage, with what is pinned -/

theorem gcIds_len (σ : List AObj) (keep : Nat) (roots : List Nat) (hk : keep ≤ reachFuel) : keep ≤ (gcS σ (gcIds σ keep roots)).length := by
  cases keep with
  | zero => omega
  | succ k =>
    have := gcIds_pin σ (k + 1) roots hk (Nat.lt_succ_self k)
    have := (List.getElem?_eq_some_iff.1 this).1
    simp [gcS]; omega

theorem gcMap_pin {φ : Map} (σ : List AObj) (keep : Nat) (roots : List Nat) (hk : keep ≤ reachFuel) {o : Nat} (ho : o < keep) : gcMap φ (gcIds σ keep roots) o = φ o := by
  unfold gcMap
  rw [gcIds_pin σ keep roots hk ho]
  rfl

/-! ### the round's temporaries -/

theorem getT_setT : ∀ (l : Tmps) (t : Nat) (v : AV) (x : Nat), getT (setT l t v) x = if x = t then v else getT l x
  | [], t, v, x => by
    simp only [setT, getT]
    by_cases h : x = t
    · subst h; simp
    · rw [if_neg h]
      have : (t == x) = false := by simp; exact fun e => h e.symm
      rw [this]; rfl
  | (k, y) :: r, t, v, x => by
    simp only [setT]
    cases hkt : (k == t) with
    | true =>
      simp at hkt
      subst hkt
      simp only [cond_true, getT]
      by_cases h : x = k
      · subst h; simp
      · rw [if_neg h]
        have : (k == x) = false := by simp; exact fun e => h e.symm
        rw [this]; rfl
    | false =>
      simp only [cond_false]
      by_cases hlt : t < k
      · simp only [hlt, decide_true, cond_true, getT]
        by_cases h : x = t
        · subst h; simp
        · rw [if_neg h]
          have : (t == x) = false := by simp; exact fun e => h e.symm
          rw [this]; rfl
      · simp only [hlt, decide_false, cond_false, getT]
        rw [getT_setT r t v x]
        simp at hkt
        by_cases h : x = t
        · subst h
          have : (k == x) = false := by simpa using hkt
          rw [this]; simp
        · rw [if_neg h, if_neg h]

theorem TRel.set {φ : Map} {L : LMap} {M : Mem} {tmps : Tmps} {vals : Array Value} (h : TRel φ L M tmps vals) {t : Nat} {a : AV} {v : Value} (ht : t < vals.size) (ha : ARel φ L M a v) :
    TRel φ L M (setT tmps t a) (vals.setIfInBounds t v) := by
  intro x
  rw [getT_setT]
  by_cases hx : x = t
  · subst hx
    rw [if_pos rfl]
    simp [Array.getD, ht]
    exact ha
  · rw [if_neg hx]
    have := h x
    have e : (vals.setIfInBounds t v).getD x undef = vals.getD x undef := by
      simp only [Array.getD_eq_getD_getElem?]
      rw [Array.getElem?_setIfInBounds_ne (Ne.symm hx)]
    rw [e]; exact this

theorem setParams_rel {φ : Map} {L : LMap} {M : Mem} : ∀ {ps : List Nat} {as : List AV} {vs : List Value} {tmps : Tmps} {vals : Array Value}, TRel φ L M tmps vals → ARels φ L M as vs → (∀ p ∈ ps, p < vals.size) →
    TRel φ L M (setParams tmps ps as) ((ps.zip vs).foldl (fun t (p, v) => t.setIfInBounds p v) vals) ∧ ((ps.zip vs).foldl (fun t (p, v) => t.setIfInBounds p v) vals).size = vals.size
  | [], _, _, _, _, h, _, _ => by simp [setParams]; exact h
  | _ :: _, _, _, _, _, h, .nil, _ => by simp [setParams]; exact h
  | p :: ps, _, _, tmps, vals, h, .cons (v := a) (x := v) ha hb, hp => by
    simp only [setParams, List.zip_cons_cons, List.foldl_cons]
    have h1 := h.set (hp p (List.mem_cons_self ..)) ha
    obtain ⟨h2, h3⟩ := setParams_rel h1 hb (fun q hq => by simpa using hp q (List.mem_cons_of_mem _ hq))
    exact ⟨h2, by rw [h3]; simp⟩

end Go.AM

namespace Go.AM

section
variable {E : Env} {C : Knot} {m : Nat} {M : Mem} {w : World} {R : List Nat} {Φ : List Map} {Y Y' : List Ctx} {φ : Map} {σ : Nat → AObj}

theorem Amb.fn {F : Fence} (h : Amb F w R) (f : FuncId) : F.fn f := by
  rcases h with rfl | ⟨l, rec, rfl, _⟩ <;> trivial

theorem Amb.depth {F : Fence} (h : Amb F w R) {p : Prop} : F.depth.isSome = true → p := by
  rcases h with rfl | ⟨l, rec, rfl, _⟩ <;> intro h <;> cases h

theorem Amb.keep {F : Fence} {S : Nat → Prop} {M' : Mem} {w' : World} (h : Amb F w R) (hG : Good M w R Φ Y φ σ) (hf : Frame S M w M' w') (hs : ∀ b, S b → act R Φ Y φ σ b) : Amb F w' R := by
  rcases h with h | ⟨l, rec, h1, h2, h3⟩
  · exact .inl h
  · refine .inr ⟨l, rec, h1, ?_, h3⟩
    rw [hf.keep l (lt_of_heap h2) (fun hl => hG.not_act h2 (fun _ _ _ h => by cases h) h3 (hs l hl))]
    exact h2

theorem DefOk.keep {k : Nat} {ds : List Deferred} {S : Nat → Prop} {M' : Mem} {w' : World} (h : DefOk k w ds) (hG : Good M w R Φ Y φ σ) (hf : Frame S M w M' w') (hs : ∀ b, S b → act R Φ Y φ σ b) : DefOk k w' ds := by
  obtain ⟨bs, h1, h2, h3⟩ := h
  refine ⟨bs, h1, h2, fun b hb => ⟨(h3 b hb).1, ?_⟩⟩
  have hh := (h3 b hb).2
  rw [hf.keep b (lt_of_heap hh) (fun hl => hG.not_act hh (fun _ _ _ h => by cases h) ?_ (hs b hl))]
  · exact hh
  · intro hr
    obtain ⟨rec, hrec⟩ := hG.lvs.heap hr
    rw [hh] at hrec; cases hrec

/-- CallsIn, whatever the frame it is called from. -/
theorem Amb.calls {F : Fence} {n : Nat} {P : Program} {f : FuncId} {args : Array Value} {R' : Ending → World → Prop} (h : Amb F w R) (hc : CallsIn Fence.wide n P f args w R') : CallsIn F n P f args w R' := by
  rcases h with rfl | ⟨l, rec, rfl, _⟩
  · exact hc
  · exact hc.inRound l

theorem Amb.round {F : Fence} {n : Nat} {P : Program} {l : Nat} {f : FuncId} {tmps : Array Value} {assign body : Code} {R' : Ending → World → Prop} (h : Amb F w R)
    (hc : RoundIn Fence.wide n P l f tmps assign body w R') : RoundIn F n P l f tmps assign body w R' := by
  rcases h with rfl | ⟨l', rec, rfl, _⟩
  · exact hc
  · exact hc

theorem doYield_sound (hK : KnotOk E C m) {base lvl r : Nat} {args : List AV} {e : Eff} {vals : Array Value} (h : doYield C base σ lvl args Y = some (e, Y')) (hG : Good M w R Φ Y φ σ)
    (hd : ∀ o, base ≤ o → σ o = .dead) (hr : LOf R lvl = some r) (ha : ARels φ (LOf R) M args vals.toList) (n : Nat) :
    ∃ fn tmps assign body, (Instr.yield r vals).run E.P w = .ok (.round r fn tmps assign body) w ∧
      RoundIn Fence.wide n E.P r fn tmps assign body w (fun | .returned v, w' => OpPost M w R Φ Y φ σ base e Y' v w' | _, _ => False) := by
  have hat := atO_toList' hd
  have hGl : Good M w R Φ Y φ (atO (toList' σ base)) := by rw [hat]; exact hG
  unfold doYield at h
  split at h
  rotate_left
  · cases h
  rename_i c fs σf hc hfz
  obtain ⟨M1, hF, hfs⟩ := freezeL_sound hfz hGl.inv hGl.dom ha
  have hs0 := hGl.mixed hF (τ := updWr (atO (toList' σ base)) (wrOf (toList' σ base) σf)) (wrOf_spec hF)
  rw [hat] at hs0
  have hG1 := hs0.good
  split at h
  · cases h
  rename_i hcond
  simp only [Bool.or_eq_true, not_or, Bool.not_eq_true, bne_eq_false_iff_eq] at hcond
  obtain ⟨hj, hpl⟩ := hcond
  have hjn : c.jump = none := by
    cases hcj : c.jump with
    | none => rfl
    | some x => rw [hcj] at hj; cases hj
  have hlt : lvl < Y.length := (List.getElem?_eq_some_iff.1 hc).1
  obtain ⟨φl, hp⟩ : ∃ φl, Φ[lvl]? = some φl := ⟨_, List.getElem?_eq_getElem (by rw [hG.lvs.lenΦ]; exact hlt)⟩
  have hrl : R[lvl]? = some r := hr
  have hLv := hG1.lvs.lv lvl c φl r hc hp hrl
  obtain ⟨rec, hrec, hLR⟩ := hLv.record
  have hpsz : rec.params.size = c.params.length := by rw [← hLR.params]; simp
  have hvsz : vals.size = fs.length := by rw [hfs.length]; simp
  have hyield := run_yield (P := E.P) (args := vals) hrec (by omega)
  obtain ⟨htm, htsz⟩ := setParams_rel (φ := φl) (L := LOf (R.take lvl)) (M := M1) (ps := c.params) (as := fs.map ofFV) (vs := vals.toList) (tmps := c.tmps) (vals := rec.tmps)
    (by
      obtain ⟨φ0, h1, h2⟩ := hLR.tmps
      exact fun t => (h1 t).mono (fun o p hp => (h2 o p hp).2) (fun _ _ h => h) (fun _ _ _ h => h)) (ARels.ofFVs hfs) hLR.okP
  have hfold : (rec.params.zip vals).foldl (fun tmps (t, a) => tmps.setIfInBounds t a) rec.tmps = (c.params.zip vals.toList).foldl (fun t (p, v) => t.setIfInBounds p v) rec.tmps := by
    rw [← hLR.params, ← Array.foldl_toList, Array.toList_zip]
  have hrn : r ∉ R.take lvl := nodup_take hG.lvs.recs hrl
  split at h
  rotate_left
  · cases h
  rename_i st1 Y1 hca
  split at h
  rotate_left
  · cases h
  rename_i ex st2 Y2 hcb
  split at h
  · cases h
  rename_i hlen
  cases h
  refine ⟨rec.fn, _, rec.assign, rec.body, hyield, ?_⟩
  rw [hfold, hLR.assign, hLR.body]
  refine roundIn_of_wpIn trivial ?_
  -- the assignment
  refine hK.code _ _ _ _ _ _ _ hca M1 w (R.take lvl) (Φ.take lvl) φl _ (Fence.wide.inRound r) n 0 _ ?_ (by simp only [htsz]; exact hLR.okA) ?_
  · exact ⟨hG1.take hc hp hrl, hLv.fresh, htm, .inr ⟨r, rec, rfl, hrec, hrn⟩, hLv.keepF, hLv.keepL, ⟨[], rfl, List.nodup_nil, by simp⟩, Nat.zero_le _⟩
  intro a1 w1 hpost1
  obtain ⟨M2, φ2, Φ2, hst1, hfr2, htm2, hsz2, hpin2, hpl2, hkeep2, bs, hbs1, hbs2, hbs3⟩ := hpost1
  simp only at hst1 hpin2 hpl2 hkeep2 hsz2
  have hact1 : ¬ act (R.take lvl) (Φ.take lvl) (Y.take lvl) φl (atO c.σ) r := (hG1.take hc hp hrl).not_act hrec (fun _ _ _ h => by cases h) hrn
  have hrec1 : w1.heap[r]? = some (.loop rec) := (hst1.frame.keep r (lt_of_heap hrec) hact1).trans hrec
  show ∃ w₂, _
  refine ⟨_, run_beginRound hrec1 (by rw [hLR.state, hjn]; rfl), ?_⟩
  obtain ⟨hG2, hF2⟩ := hst1.good.putObj hrec1 (fun _ _ _ h => by cases h) hrn (.loop { rec with state := .busy })
  have hrec2 : (w1.putObj r (.loop { rec with state := .busy })).heap[r]? = some (.loop { rec with state := .busy }) := World.putObj_heap_same (lt_of_heap hrec1)
  -- the body
  refine hK.code _ _ _ _ _ _ _ hcb M2 _ (R.take lvl) Φ2 φ2 a1 (Fence.wide.inRound r) n 0 _ ?_ (by rw [hsz2, htsz]; exact hLR.okB) ?_
  · refine ⟨hG2, hfr2, htm2, .inr ⟨r, _, rfl, hrec2, hrn⟩, by rw [hpin2]; exact hLv.keepF, by rw [hpin2]; exact hpl2, ⟨bs, hbs1, hbs2, fun b hb => ⟨(hbs3 b hb).1, ?_⟩⟩, Nat.zero_le _⟩
    rw [World.putObj_heap_other]
    · exact (hbs3 b hb).2
    · rintro rfl
      have := (hbs3 b hb).2
      rw [hrec1] at this; cases this
  intro a3 w3 hpost2
  obtain ⟨M3, φ3, Φ3, hst2, hfr3, htm3, hsz3, hpin3, hpl3, hkeep3, _⟩ := hpost2
  have hact2 : ¬ act (R.take lvl) Φ2 Y1 φ2 (atO st1.σ) r := hG2.not_act hrec2 (fun _ _ _ h => by cases h) hrn
  have hrec3 : w3.heap[r]? = some (.loop { rec with state := .busy }) := (hst2.frame.keep r (lt_of_heap hrec2) hact2).trans hrec2
  rw [hpin2] at hpin3 hpl3 hkeep3
  have hlen2 : Y2.length = lvl := by simpa using hlen
  -- the end, whatever the exit
  have fin : ∀ (j : Option AExit) (jump : Option Code), j.bind exitCode = jump → (jump.isNone = j.isNone) →
      ∃ v w', (Instr.endRound r jump).run E.P w3 = .ok v w' ∧
        OpPost M w R Φ Y φ σ base ⟨.f (.bool j.isNone), wrOf (toList' σ base) σf, []⟩ (Y2 ++ { c with σ := gcS st2.σ (gcIds st2.σ c.keep []), jump := j } :: Y.drop (lvl + 1)) v w' := by
    intro j jump hjj hjn'
    refine ⟨_, _, run_endRound jump hrec3, ?_⟩
    obtain ⟨hG3, hF3⟩ := hst2.good.putObj hrec3 (fun _ _ _ h => by cases h) hrn (.loop { ({ rec with state := .busy } : Loop) with state := if jump.isNone then .ready else .done, pending := jump })
    generalize hw4 : w3.putObj r (.loop { ({ rec with state := .busy } : Loop) with state := if jump.isNone then .ready else .done, pending := jump }) = w4 at hG3 hF3
    have hrec4 : w4.heap[r]? = some (.loop { rec with state := if jump.isNone then .ready else .done, pending := jump }) := by
      rw [← hw4]; exact World.putObj_heap_same (lt_of_heap hrec3)
    have hGg := hG3.gc (gcIds_nodup st2.σ c.keep [])
    -- the frame of the whole round
    have hFa : Frame (fun b => act (R.take lvl) (Φ.take lvl) (Y.take lvl) φl (atO c.σ) b ∨ b = r) M1 w M2 (w1.putObj r (.loop { rec with state := .busy })) :=
      (hst1.frame.mono (S' := fun b => act (R.take lvl) (Φ.take lvl) (Y.take lvl) φl (atO c.σ) b ∨ b = r) (fun b _ hb => .inl hb)).trans hF2 (fun b _ hb => .inr hb)
    have hFb : Frame (fun b => act (R.take lvl) Φ2 Y1 φ2 (atO st1.σ) b ∨ b = r) M2 (w1.putObj r (.loop { rec with state := .busy })) M3 w4 :=
      (hst2.frame.mono (S' := fun b => act (R.take lvl) Φ2 Y1 φ2 (atO st1.σ) b ∨ b = r) (fun b _ hb => .inl hb)).trans hF3 (fun b _ hb => .inr hb)
    have hFF : Frame (fun b => act (R.take lvl) (Φ.take lvl) (Y.take lvl) φl (atO c.σ) b ∨ b = r) M1 w M3 w4 := by
      refine hFa.trans hFb ?_
      rintro b hb (h1 | h1)
      · rcases hst1.own b h1 with h2 | h2
        · exact .inl h2
        · omega
      · exact .inr h1
    have hsz1 : w.heap.size ≤ (w1.putObj r (.loop { rec with state := .busy })).heap.size := hFa.size
    have hsp := Step.splice (c' := { c with σ := gcS st2.σ (gcIds st2.σ c.keep []), jump := j }) (φ' := gcMap φ3 (gcIds st2.σ c.keep [])) hG1 hc hp hrl hG3 hFF
      (fun b hb => by
        rcases hst2.own b hb with h2 | h2
        · exact hst1.own b h2
        · exact .inr (Nat.le_trans hsz1 h2))
      (hst1.lvls.trans hst2.lvls hst1.good.lvs.lenΦ)
      (by
        refine ⟨hGg.inv, hGg.dom, fun o ho => gc_fresh ho, hLv.keepF, gcIds_len _ _ _ hLv.keepF, _, hrec4, hLR.params, hLR.assign, hLR.body, hLR.okA, hLR.okB, hLR.okP, ?_, ?_, ?_⟩
        · obtain ⟨φ0, h1, h2⟩ := hLR.tmps
          refine ⟨φ0, fun t => (h1 t).mono (fun _ _ h => h) (fun _ _ h => h) hFF.mem, fun o p ho => ?_⟩
          have hk := (h2 o p ho).1
          refine ⟨hk, ?_⟩
          rw [gcMap_pin st2.σ c.keep [] hLv.keepF hk, hkeep3 o hk, hkeep2 o hk]
          exact (h2 o p ho).2
        · simp only [hjn']
        · exact hjj.symm) rfl
      (fun o ho => by rw [gcMap_pin st2.σ c.keep [] hLv.keepF ho, hkeep3 o ho, hkeep2 o ho]) (fun b hb => owns_gc hb)
    exact ⟨M3, φ, _, hs0.trans hsp, fun _ _ h => h, fun _ _ => rfl, .f (by rw [hjn']; exact .bool _) rfl⟩
  cases ex with
  | norm => exact fin none none rfl rfl
  | ret => exact fin (some .ret) (some .ret) rfl rfl
  | exit id => exact fin (some (.exit id)) (some (.exit id)) rfl rfl

end
end Go.AM

namespace Go.AM

section
variable {E : Env} {C : Knot} {m : Nat} {M : Mem} {w : World} {R : List Nat} {Φ : List Map} {Y Y' : List Ctx} {φ : Map} {σ : Nat → AObj}

theorem OpOk.post {base : Nat} {e : Eff} {s : Sem Next} {P : Program} (hG : Good M w R Φ Y φ σ) (h : OpOk P M φ (LOf R) σ w base e s) :
    ∃ nx v w', s.run P w = .ok nx w' ∧ (nx = .value v ∨ (nx = .skip ∧ v = undef)) ∧ OpPost M w R Φ Y φ σ base e Y v w' := by
  obtain ⟨nx, v, w', M', φ', h1, h2, h3, h4, h5, h6, h7, h8, h9⟩ := h
  exact ⟨nx, v, w', h1, h2, M', φ', Φ, Step.of_top hG h3 h7 h4 h8, h5, h6, h9⟩

theorem step0_cases {base : Nat} {ρA : Operand → AV} {o : Oper} {e : Eff} (h : step0 C E base σ ρA o Y = some (e, Y')) :
    (opA E.P base σ ρA o = some e ∧ Y' = Y) ∨ ∃ c x, o.op = .call c ∧ c.callee = .value x ∧ callOp C E base σ ρA c Y = some (e, Y') := by
  unfold step0 at h
  split at h
  · rename_i c hop
    split at h
    · left
      cases ho : opA E.P base σ ρA o with
      | none => rw [ho] at h; cases h
      | some e' => rw [ho] at h; cases h; exact ⟨rfl, rfl⟩
    · right
      cases hc : c.callee with
      | value x => exact ⟨c, x, hop, hc, h⟩
      | builtin b => simp [callOp, hc] at h
      | invoke r nm => simp [callOp, hc] at h
  · left
    cases ho : opA E.P base σ ρA o with
    | none => rw [ho] at h; cases h
    | some e' => rw [ho] at h; cases h; exact ⟨rfl, rfl⟩

theorem stepA_cases {base : Nat} {ρA : Operand → AV} {o : Oper} {e : Eff} (h : stepA C E base σ ρA o Y = some (e, Y')) :
    step0 C E base σ ρA o Y = some (e, Y') ∧ ∀ i x, (i, x) ∈ e.wr → i < base := by
  unfold stepA at h
  split at h
  · rename_i e1 Y1 h1
    cases hb : e1.wr.all (fun q => Nat.blt q.1 base) with
    | false => rw [hb] at h; cases h
    | true =>
      rw [hb] at h
      cases h
      refine ⟨h1, fun i x hx => ?_⟩
      have := List.all_eq_true.1 hb (i, x) hx
      rwa [Nat.blt_eq] at this
  · cases h

theorem opA_no_defer {P : Program} {base : Nat} {ρA : Operand → AV} {o : Oper} {e : Eff} (h : opA P base σ ρA o = some e) : ∀ c, o.op ≠ .defer c := by
  intro c hc
  unfold opA at h
  simp [hc] at h

theorem stepA_sound (hK : KnotOk E C m) {base : Nat} {ρA : Operand → AV} {o : Oper} {e : Eff} {a : Act} {F : Fence} {n : Nat} {next : Act → World → Prop} {Q : Exit → Act → World → Prop}
    (h : stepA C E base σ ρA o Y = some (e, Y')) (hG : Good M w R Φ Y φ σ) (hd : ∀ o, base ≤ o → σ o = .dead) (hfr0 : φ base = none) (hfr : ∀ o, base ≤ o → o < base + e.news.length → φ o = none)
    (hρ : ∀ x, ARel φ (LOf R) M (ρA x) (a.eval x)) (hA : Amb F w R) (hn : ∀ v w', OpPost M w R Φ Y φ σ base e Y' v w' → next (a.put o.dst v) w') : o.wpIn F n E.P a w next Q := by
  refine ⟨fun f _ => hA.fn f, ?_⟩
  obtain ⟨h0, _⟩ := stepA_cases h
  rcases step0_cases h0 with ⟨h1, rfl⟩ | ⟨c, x, hop, hcl, h1⟩
  · rw [Oper.semAt_eq _ _ _ (opA_no_defer h1)]
    obtain ⟨nx, v, w', hrun, hnx, hp⟩ := (opA_sound hG.inv hG.dom hfr0 hρ h1).post hG
    rw [hrun]
    rcases hnx with rfl | ⟨rfl, rfl⟩
    · rw [Oper.uponIn_value]; exact hn v w' hp
    · rw [Oper.uponIn_skip]; exact hn undef w' hp
  · rw [Oper.semAt_eq _ _ _ (by intro d hd'; rw [hop] at hd'; cases hd')]
    have hargs : ARels φ (LOf R) M (c.args.toList.map ρA) (c.args.map a.eval).toList := by
      rw [Array.toList_map]; exact evals_rel hρ _
    have enter : ∀ (g : FuncId) (first cap : Array Value) (A : List AV), a.eval x = .func (.func g) first cap → ARels φ (LOf R) M A (first ++ c.args.map a.eval ++ cap).toList →
        doCall C E base σ g A Y = some (e, Y') → o.uponIn F n E.P a next Q ((execOp a.eval o).run E.P w) := by
      intro g first cap A hx hA' hdc
      obtain ⟨hcf, hci⟩ := doCall_sound hK hdc hG hd hfr hA' (n - 1)
      have hrun : (execOp a.eval o).run E.P w = .ok (.enter g (first ++ c.args.map a.eval ++ cap)) w := by
        simp only [execOp, hop, resolve, hcl, hx, Deferred.ofValue, Sem.run_bind, Sem.run_pure, Result.andThen, invoke, hcf]
      rw [hrun, Oper.uponIn_enter]
      refine ⟨hA.depth, (hA.calls hci).mono ?_⟩
      intro en w' hp
      cases en with
      | returned v => exact hn v w' hp
      | panicked ch => exact hp.elim
      | outgrown => exact hp.elim
    unfold callOp at h1
    rw [hcl] at h1
    simp only at h1
    have hxr := hρ x
    split at h1
    · rename_i g A B hv
      rw [hv] at hxr
      cases hxv : a.eval x with
      | func fv first cap =>
        rw [hxv] at hxr
        cases hxr with
        | fn hA1 hB1 =>
          refine enter g first cap _ hxv ?_ h1
          rw [Array.toList_append, Array.toList_append]
          exact (hA1.append hargs).append hB1
      | _ => rw [hxv] at hxr; cases hxr
    · rename_i g A B hv
      rw [hv] at hxr
      cases hxv : a.eval x with
      | func fv first cap =>
        rw [hxv] at hxr
        cases hxr with
        | f hr _ =>
          cases hr with
          | fn hA1 hB1 =>
            refine enter g first cap _ hxv ?_ h1
            rw [Array.toList_append, Array.toList_append]
            exact ((ARels.ofFVs hA1).append hargs).append (ARels.ofFVs hB1)
      | _ =>
        rw [hxv] at hxr
        cases hxr with
        | f hr _ => cases hr
    · rename_i lvl hv
      rw [hv] at hxr
      cases hxv : a.eval x with
      | func fv first cap =>
        rw [hxv] at hxr
        cases hxr with
        | yld hL =>
          rename_i r
          obtain ⟨fn, tmps, assign, body, hy, hround⟩ := doYield_sound hK h1 hG hd hL hargs (n - 1)
          have hrun : (execOp a.eval o).run E.P w = .ok (.round r fn tmps assign body) w := by
            simp only [execOp, hop, resolve, hcl, hxv, Deferred.ofValue, Sem.run_bind, Sem.run_pure, Result.andThen, invoke]
            simpa using hy
          rw [hrun, Oper.uponIn_round]
          refine ⟨hA.depth, (hA.round hround).mono ?_⟩
          intro en w' hp
          cases en with
          | returned v => exact hn v w' hp
          | panicked ch => exact hp.elim
          | outgrown => exact hp.elim
      | _ => rw [hxv] at hxr; cases hxr
    · cases h1

/-! ### is it wanted? -/

theorem getD_yielded {ops : Array Oper} {tmps : Array Value} {j d : Nat} (h : (ops[j]?).bind (·.dst) = some d) : yielded ops tmps j = (match tmps[d]? with | some (.bool b) => some b | _ => none) := by
  unfold yielded
  rw [h]
  rfl

/-- What the machine asks of an operation's guard. -/
theorem wantA_sound {ops : Array Oper} {tmps : Tmps} {vals : Array Value} {o : Oper} {r : Bool} (ht : TRel φ (LOf R) M tmps vals) (h : wantA ops tmps o = some r) :
    Region.wanted o (yielded ops vals) = r := by
  unfold wantA at h
  unfold Region.wanted
  split at h
  · rename_i hg
    cases h
    rw [hg]
  · rename_i j want hg
    rw [hg]
    simp only
    split at h
    · rename_i hd
      cases h
      have : yielded ops vals j = none := by unfold yielded; rw [hd]; rfl
      rw [this]; rfl
    · rename_i d hd
      rw [getD_yielded hd]
      have hr := ht d
      split at h
      · rename_i b hb
        cases h
        rw [hb] at hr
        have hv : vals.getD d undef = .bool b := by
          generalize vals.getD d undef = x at hr
          cases hr with
          | f hf _ => cases hf; rfl
        simp only [Array.getD_eq_getD_getElem?] at hv
        cases hvd : vals[d]? with
        | none => rw [hvd] at hv; cases hv
        | some x =>
          rw [hvd] at hv
          simp only [Option.getD_some] at hv
          subst hv
          simp
      · rename_i hb
        cases h
        rw [hb] at hr
        cases hvd : vals[d]? with
        | none => rfl
        | some x =>
          have hx : vals.getD d undef = x := by simp [Array.getD_eq_getD_getElem?, hvd]
          rw [hx] at hr
          cases x with
          | bool b => cases hr
          | _ => rfl
      · cases h

theorem putDst_rel {tmps : Tmps} {a : Act} {dst : Option Tmp} {x : AV} {v : Value} (ht : TRel φ (LOf R) M tmps a.tmps) (hd : ∀ d, dst = some d → d < a.tmps.size) (hx : ARel φ (LOf R) M x v) :
    TRel φ (LOf R) M (putDst tmps dst x) (a.put dst v).tmps := by
  cases dst with
  | none => exact ht
  | some d => exact ht.set (hd d rfl) hx

theorem put_size (a : Act) (dst : Option Tmp) (v : Value) : (a.put dst v).tmps.size = a.tmps.size := by
  cases dst <;> simp [Act.put]

theorem put_defers (a : Act) (dst : Option Tmp) (v : Value) : (a.put dst v).defers = a.defers := by
  cases dst <;> rfl

theorem Post.refl {st : St} {a : Act} {F : Fence} {k : Nat} (h : Pre M w R Φ Y φ st a F k) : Post M w R Φ Y φ st a k st Y a w :=
  ⟨M, φ, Φ, Step.refl h.good, h.fresh, h.tmps, rfl, rfl, h.pinL, fun _ _ => rfl, h.defs⟩

/-- On from a state. -/
theorem Post.trans {st st1 st2 : St} {a a1 a2 : Act} {Y1 Y2 : List Ctx} {k : Nat} {M1 : Mem} {w1 w2 : World} {φ1 : Map} {Φ1 : List Map}
    (h1 : Step M w R Φ Y φ (atO st.σ) M1 w1 Φ1 Y1 φ1 (atO st1.σ)) (hs : a1.tmps.size = a.tmps.size) (hp : st1.pin = st.pin) (hk : ∀ o, o < st.pin → φ1 o = φ o)
    (h : Post M1 w1 R Φ1 Y1 φ1 st1 a1 k st2 Y2 a2 w2) : Post M w R Φ Y φ st a k st2 Y2 a2 w2 := by
  obtain ⟨M2, φ2, Φ2, h2, h3, h4, h5, h6, h7, h8, h9⟩ := h
  rw [hp] at h6 h7 h8
  exact ⟨M2, φ2, Φ2, h1.trans h2, h3, h4, h5.trans hs, h6, h7, fun o ho => (h8 o ho).trans (hk o ho), h9⟩

/-- The store at hand, after an effect: as a list. -/
theorem eff_fresh {base : Nat} {φ' : Map} {e : Eff} {l : List AObj} (hl : l.length = base) (h0 : ∀ o, base ≤ o → φ o = none) (h1 : ∀ o, (o < base ∨ base + e.news.length ≤ o) → φ' o = φ o) :
    ∀ o, (putWr l e.wr ++ e.news).length ≤ o → φ' o = none := by
  intro o ho
  simp [putWr_length, hl] at ho
  rw [h1 o (.inr ho)]
  exact h0 o (by omega)

theorem regA_sound (hK : KnotOk E C m) {ops : Array Oper} {F : Fence} {n nt : Nat} {Q : Exit → Act → World → Prop} (hops : ∀ o ∈ ops.toList, ∀ d, o.dst = some d → d < nt) :
    ∀ (l : List Oper) (i : Nat), ops.toList.drop i = l → ∀ {st : St} {Y : List Ctx} {st' : St} {Y' : List Ctx}, opsA C E ops l st Y = some (st', Y') →
      ∀ {M : Mem} {w : World} {R : List Nat} {Φ : List Map} {φ : Map} {a : Act} {k : Nat}, Pre M w R Φ Y φ st a F k → a.tmps.size = nt →
        (∀ a' w', Post M w R Φ Y φ st a k st' Y' a' w' → Q .normal a' w') → wpOpsIn F n E.P ops Q (List.range' i l.length) a w
  | [], i, _, st, Y, st', Y', h, M, w, R, Φ, φ, a, k, hP, _, hQ => by
    simp only [opsA, Option.some.injEq, Prod.mk.injEq] at h
    obtain ⟨rfl, rfl⟩ := h
    simp only [List.length_nil, List.range'_zero, wpOpsIn]
    exact hQ a w (Post.refl hP)
  | o :: r, i, hl, st, Y, st', Y', h, M, w, R, Φ, φ, a, k, hP, hnt, hQ => by
    have hoi : ops[i]? = some o := by
      have : (ops.toList.drop i)[0]? = some o := by rw [hl]; rfl
      rw [List.getElem?_drop] at this
      simpa using this
    have hom : o ∈ ops.toList := by
      have : o ∈ ops.toList.drop i := by rw [hl]; exact List.mem_cons_self ..
      exact List.mem_of_mem_drop this
    have hl' : ops.toList.drop (i + 1) = r := by
      have := congrArg (List.drop 1) hl
      simpa [List.drop_drop, Nat.add_comm] using this
    rw [List.length_cons, List.range'_succ, wpOpsIn_cons]
    unfold wpOpIn
    rw [hoi]
    simp only
    simp only [opsA] at h
    split at h
    · cases h
    · rename_i hw
      have hwant := wantA_sound hP.tmps hw
      rw [hwant]
      simp only [Bool.false_eq_true, if_false]
      refine ⟨fun f _ => hP.amb.fn f, ?_⟩
      refine regA_sound hK hops r (i + 1) hl' h (M := M) (R := R) (Φ := Φ) (φ := φ) (k := k)
        ⟨hP.good, hP.fresh, putDst_rel hP.tmps (fun d hd => by rw [hnt]; exact hops o hom d hd) (.tup (vs := #[]) .nil), hP.amb, hP.pinF, hP.pinL, by rw [put_defers]; exact hP.defs, hP.kle⟩ (by rw [put_size]; exact hnt) ?_
      intro a' w' hp
      exact hQ a' w' (Post.trans (Step.refl hP.good) (put_size ..) rfl (fun _ _ => rfl) hp)
    · rename_i hw
      have hwant := wantA_sound hP.tmps hw
      rw [hwant]
      simp only [if_true]
      split at h
      · cases h
      · rename_i e Y1 hs
        have hwr := (stepA_cases hs).2
        refine stepA_sound hK hs hP.good (fun o ho => by simp [atO, ho]) (hP.fresh _ (Nat.le_refl _)) (fun o ho _ => hP.fresh o ho) (fun x => eval_rel hP.tmps x) hP.amb ?_
        intro v w1 hp
        obtain ⟨M1, φ1, Φ1, h1, h2, h3, h4⟩ := hp
        have heff := atO_eff hwr
        rw [← heff] at h1
        have hpk : ∀ o, o < st.pin → φ1 o = φ o := fun o ho => h3 o (.inl (Nat.lt_of_lt_of_le ho hP.pinL))
        refine regA_sound hK hops r (i + 1) hl' h (M := M1) (R := R) (Φ := Φ1) (φ := φ1) (k := k)
          ⟨h1.good, eff_fresh rfl hP.fresh h3, putDst_rel (fun t => (hP.tmps t).mono h2 (fun _ _ h => h) h1.frame.mem) (fun d hd => by rw [hnt]; exact hops o hom d hd) h4, hP.amb.keep hP.good h1.frame (fun _ h => h), hP.pinF, ?_, ?_, Nat.le_trans hP.kle h1.frame.size⟩ (by rw [put_size]; exact hnt) ?_
        · simp only [applyE, List.length_append, putWr_length]
          have := hP.pinL
          omega
        · rw [put_defers]; exact hP.defs.keep hP.good h1.frame (fun _ h => h)
        · intro a' w' hp'
          exact hQ a' w' (Post.trans (st1 := { st with tmps := (applyE st.tmps st.σ o.dst e).1, σ := (applyE st.tmps st.σ o.dst e).2 }) h1 (put_size ..) rfl hpk hp')

end
end Go.AM
