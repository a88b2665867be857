/-
The limit of the machine, and its equations.
-/
import Derived.Test.YtgahfnebfpmbpaaGreatMA5
import Derived.KernelRfl
import Derived.IntWalk
set_option linter.unusedVariables false
set_option linter.unusedSimpArgs false
namespace Go.AM

def Ev (p : Nat → Prop) : Prop := ∃ N, ∀ n, N ≤ n → p n

theorem Ev.of {p : Nat → Prop} (h : ∀ n, p n) : Ev p := ⟨0, fun n _ => h n⟩
theorem Ev.and {p q : Nat → Prop} (h : Ev p) (h' : Ev q) : Ev (fun n => p n ∧ q n) := by
  obtain ⟨a, ha⟩ := h
  obtain ⟨b, hb⟩ := h'
  exact ⟨a + b, fun n hn => ⟨ha n (by omega), hb n (by omega)⟩⟩
theorem Ev.mono {p q : Nat → Prop} (h : Ev p) (hpq : ∀ n, p n → q n) : Ev q := by
  obtain ⟨a, ha⟩ := h
  exact ⟨a, fun n hn => hpq n (ha n hn)⟩
theorem Ev.two {p q r : Nat → Prop} (h : Ev p) (h' : Ev q) (hr : ∀ n, p n → q n → r n) : Ev r := (h.and h').mono fun n hh => hr n hh.1 hh.2
theorem Ev.const {p : Prop} (h : Ev fun _ => p) : p := let ⟨N, hN⟩ := h; hN N (Nat.le_refl N)

/-- What K says, the knots say from some one on. -/
structure Under (K : Knot) (C : Nat → Knot) : Prop where
  call : ∀ g a s Y r, K.call g a s Y = some r → Ev fun n => (C n).call g a s Y = some r
  code : ∀ f c st Y r, K.code f c st Y = some r → Ev fun n => (C n).code f c st Y = some r
  loop : ∀ f b c st Y r, K.loop f b c st Y = some r → Ev fun n => (C n).loop f b c st Y = some r

section
variable {K : Knot} {C : Nat → Knot} (H : Under K C) {E : Env}
 include H

theorem doCall_ev {base : Nat} {σ : Nat → AObj} {g : FuncId} {args : List AV} {Y : List Ctx} {r : Eff × List Ctx} (h : doCall K E base σ g args Y = some r) :
    Ev fun n => doCall (C n) E base σ g args Y = some r := by
  unfold doCall at h ⊢
  split at h
  · rename_i h0
    simp only [if_pos h0]
    split at h
    · rename_i hc
      exact (H.call _ _ _ _ _ hc).mono fun n hn => by simp only [hn]; exact h
    · cases h
  · rename_i h0
    simp only [if_neg h0]
    split at h
    · split at h
      · rename_i hz
        split at h
        · rename_i hc
          exact (H.call _ _ _ _ _ hc).mono fun n hn => by simp only [hn]; exact h
        · cases h
      · cases h
    · split at h
      · rename_i hz
        split at h
        · rename_i hc
          exact (H.call _ _ _ _ _ hc).mono fun n hn => by simp only [hn]; exact h
        · cases h
      · cases h
    · simp only at h ⊢
      split at h
      · cases h
      · rename_i hids
        split at h
        · rename_i hc
          exact (H.call _ _ _ _ _ hc).mono fun n hn => by simp only [hn]; rw [if_neg hids]; exact h
        · cases h

theorem doYield_ev {base : Nat} {σ : Nat → AObj} {lvl : Nat} {args : List AV} {Y : List Ctx} {r : Eff × List Ctx} (h : doYield K base σ lvl args Y = some r) :
    Ev fun n => doYield (C n) base σ lvl args Y = some r := by
  unfold doYield at h ⊢
  split at h
  · rename_i hc hz
    split at h
    · cases h
    · rename_i hcond
      split at h
      · rename_i h1
        split at h
        · rename_i h2
          refine (H.code _ _ _ _ _ h1).two (H.code _ _ _ _ _ h2) fun n e1 e2 => ?_
          simp only [e1, e2]
          rw [if_neg hcond]
          exact h
        · cases h
      · cases h
  · cases h

theorem callOp_ev {base : Nat} {σ : Nat → AObj} {ρ : Operand → AV} {c : Call} {Y : List Ctx} {r : Eff × List Ctx} (h : callOp K E base σ ρ c Y = some r) :
    Ev fun n => callOp (C n) E base σ ρ c Y = some r := by
  unfold callOp at h ⊢
  split at h
  · split at h
    · exact doCall_ev H h
    · exact doCall_ev H h
    · exact doYield_ev H h
    · cases h
  · cases h

theorem stepA_ev {base : Nat} {σ : Nat → AObj} {ρ : Operand → AV} {o : Oper} {Y : List Ctx} {r : Eff × List Ctx} (h : stepA K E base σ ρ o Y = some r) :
    Ev fun n => stepA (C n) E base σ ρ o Y = some r := by
  have h0 : ∀ r, step0 K E base σ ρ o Y = some r → Ev fun n => step0 (C n) E base σ ρ o Y = some r := by
    intro r h
    unfold step0 at h ⊢
    split at h
    · split at h
      · exact .of fun _ => h
      · exact callOp_ev H h
    · exact .of fun _ => h
  unfold stepA at h ⊢
  split at h
  · rename_i hs
    exact (h0 _ hs).mono fun n hn => by simp only [hn]; exact h
  · cases h

theorem opsA_ev {all : Array Oper} : ∀ (l : List Oper) {st : St} {Y : List Ctx} {r : St × List Ctx}, opsA K E all l st Y = some r → Ev fun n => opsA (C n) E all l st Y = some r
  | [], st, Y, r, h => .of fun _ => h
  | o :: l, st, Y, r, h => by
    simp only [opsA] at h
    split at h
    · cases h
    · rename_i hw
      exact (opsA_ev l h).mono fun n hn => by simp only [opsA, hw]; exact hn
    · rename_i hw
      split at h
      · cases h
      · rename_i hs
        exact (stepA_ev H hs).two (opsA_ev l h) fun n e1 e2 => by simp only [opsA, hw, e1]; exact e2

theorem opsDrawA_ev {all : Array Oper} : ∀ (l : List Oper) {st : St} {Y : List Ctx} {fs : List Foot} {r : St × List Ctx × List Foot}, opsDrawA K E all l st Y fs = some r → Ev fun n => opsDrawA (C n) E all l st Y fs = some r
  | [], st, Y, fs, r, h => .of fun _ => h
  | o :: l, st, Y, fs, r, h => by
    simp only [opsDrawA] at h
    split at h
    · cases h
    · rename_i hw
      exact (opsDrawA_ev l h).mono fun n hn => by simp only [opsDrawA, hw]; exact hn
    · rename_i hw
      split at h
      · cases h
      · rename_i hs
        exact (stepA_ev H hs).two (opsDrawA_ev l h) fun n e1 e2 => by simp only [opsDrawA, hw, e1]; exact e2

theorem regionA_ev {ops : Array Oper} {draw : Bool} {st : St} {Y : List Ctx} {r : St × List Ctx} (h : regionA K E ops draw st Y = some r) : Ev fun n => regionA (C n) E ops draw st Y = some r := by
  unfold regionA at h ⊢
  cases draw with
  | false => exact opsA_ev H _ h
  | true =>
    simp only [cond_true] at h ⊢
    split at h
    · rename_i hd
      exact (opsDrawA_ev H _ hd).mono fun n hn => by simp only [hn]; exact h
    · cases h

theorem rangeA_ev {fid : FuncId} {h0 : AV} {ps : Array Tmp} {assign body : Code} {st : St} {Y : List Ctx} {r : AExit × St × List Ctx} (h : rangeA K fid h0 ps assign body st Y = some r) :
    Ev fun n => rangeA (C n) fid h0 ps assign body st Y = some r := by
  unfold rangeA at h ⊢
  split at h
  · split at h
    · cases h
    · rename_i hl
      simp only at h ⊢
      split at h
      · rename_i hc
        exact (H.call _ _ _ _ _ hc).mono fun n hn => by simp only [hn]; rw [if_neg hl]; exact h
      · cases h
  · cases h

theorem evA_ev {fid : FuncId} : ∀ (c : Code) (blk : Nat) {st : St} {Y : List Ctx} {r : AExit × St × List Ctx}, evA K E fid blk c st Y = some r → Ev fun n => evA (C n) E fid blk c st Y = some r := by
  intro c
  induction c with
  | region id ops draw =>
    intro blk st Y r h
    simp only [evA] at h ⊢
    cases hr : regionA K E ops draw st Y with
    | none => rw [hr] at h; cases h
    | some p =>
      rw [hr] at h
      exact (regionA_ev H hr).mono fun n hn => by rw [hn]; exact h
  | seq x y ihx ihy =>
    intro blk st Y r h
    simp only [evA] at h ⊢
    cases hx : evA K E fid blk x st Y with
    | none => rw [hx] at h; cases h
    | some p =>
      obtain ⟨e1, st1, Y1⟩ := p
      rw [hx] at h
      have h1 := ihx blk hx
      cases e1 with
      | norm => exact h1.two (ihy blk h) fun n a b => by rw [a]; exact b
      | ret => exact h1.mono fun n a => by rw [a]; exact h
      | exit id => exact h1.mono fun n a => by rw [a]; exact h
  | cond c x y ihx ihy =>
    intro blk st Y r h
    simp only [evA] at h ⊢
    split at h
    · rename_i b hb
      cases b with
      | true => exact ihx blk h
      | false => exact ihy blk h
    · cases h
  | block id b ih =>
    intro blk st Y r h
    simp only [evA] at h ⊢
    cases hb : evA K E fid id b st Y with
    | none => rw [hb] at h; cases h
    | some p =>
      rw [hb] at h
      exact (ih id hb).mono fun n a => by rw [a]; exact h
  | loop b ih => intro blk st Y r h; simp only [evA] at h ⊢; exact H.loop _ _ _ _ _ _ h
  | rangeFunc f ps a b _ _ => intro blk st Y r h; simp only [evA] at h ⊢; exact rangeA_ev H h
  | skip => intro blk st Y r h; simp only [evA] at h ⊢; exact .of fun _ => h
  | exit id => intro blk st Y r h; simp only [evA] at h ⊢; exact .of fun _ => h
  | scope b _ => intro blk st Y r h; simp [evA] at h
  | label l => intro blk st Y r h; simp only [evA] at h ⊢; exact .of fun _ => h
  | goto l => intro blk st Y r h; simp [evA] at h
  | ret => intro blk st Y r h; simp only [evA] at h ⊢; exact .of fun _ => h
  | refuse why => intro blk st Y r h; simp [evA] at h

theorem loopA_ev {fid blk : Nat} {b : Code} {st : St} {Y : List Ctx} {r : AExit × St × List Ctx} (h : loopA K E fid blk b st Y = some r) : Ev fun n => loopA (C n) E fid blk b st Y = some r := by
  unfold loopA at h ⊢
  cases hb : evA K E fid blk b (normA (E.loops fid blk) st) Y with
  | none => rw [hb] at h; cases h
  | some p =>
    obtain ⟨e1, st1, Y1⟩ := p
    rw [hb] at h
    have h1 := evA_ev H b blk hb
    cases e1 with
    | norm => exact h1.two (H.loop _ _ _ _ _ _ h) fun n a c => by rw [a]; exact c
    | ret => exact h1.mono fun n a => by rw [a]; exact h
    | exit id => exact h1.mono fun n a => by rw [a]; exact h

theorem bodyA_ev {g : FuncId} {args : List AV} {σ : List AObj} {Y : List Ctx} {r : AV × List AObj × List Ctx} (h : bodyA K E g args σ Y = some r) : Ev fun n => bodyA (C n) E g args σ Y = some r := by
  unfold bodyA at h ⊢
  split at h
  · cases h
  · split at h
    · cases h
    · split at h
      · cases h
      · rename_i c _ hcond
        cases hb : evA K E g 0 c { tmps := argT 0 args, σ, pin := σ.length } Y with
        | none => rw [hb] at h; cases h
        | some p =>
          rw [hb] at h
          exact (evA_ev H c 0 hb).mono fun n a => by rw [a, if_neg hcond]; exact h

theorem knotS_under : Under (knotS E K) (fun n => knotS E (C n)) :=
  ⟨fun _ _ _ _ _ h => bodyA_ev H h, fun _ c _ _ _ h => evA_ev H c 0 h, fun _ _ _ _ _ _ h => loopA_ev H h⟩

end

theorem knotN_succ (E : Env) : ∀ n, Under (knotN E n) (fun _ => knotN E (n + 1))
  | 0 => ⟨fun _ _ _ _ _ h => by simp [knotN, knot0] at h, fun _ _ _ _ _ h => by simp [knotN, knot0] at h, fun _ _ _ _ _ _ h => by simp [knotN, knot0] at h⟩
  | n + 1 => knotS_under (knotN_succ E n)

open Classical in
noncomputable def lim {α : Type} (f : Nat → Option α) : Option α := if h : ∃ n r, f n = some r then f (Classical.choose h) else none

theorem chain_le {α : Type} {f : Nat → Option α} (hf : ∀ n r, f n = some r → f (n + 1) = some r) {n m : Nat} (h : n ≤ m) {r : α} (hr : f n = some r) : f m = some r := by
  induction m with
  | zero =>
    have : n = 0 := by omega
    subst this; exact hr
  | succ m ih =>
    by_cases e : n = m + 1
    · subst e; exact hr
    · exact hf m r (ih (by omega))

theorem lim_iff {α : Type} {f : Nat → Option α} (hf : ∀ n r, f n = some r → f (n + 1) = some r) (r : α) : lim f = some r ↔ ∃ n, f n = some r := by
  unfold lim
  constructor
  · intro h
    split at h
    · exact ⟨_, h⟩
    · cases h
  · rintro ⟨n, hn⟩
    have hex : ∃ n r, f n = some r := ⟨n, r, hn⟩
    rw [dif_pos hex]
    obtain ⟨r', hr'⟩ := Classical.choose_spec hex
    rcases Nat.le_total n (Classical.choose hex) with h | h
    · exact chain_le hf h hn
    · have := chain_le hf h hr'
      rw [this] at hn
      rw [hr']; exact hn

theorem lim_ev {α : Type} {f : Nat → Option α} (hf : ∀ n r, f n = some r → f (n + 1) = some r) {r : α} (h : lim f = some r) : Ev fun n => f n = some r := by
  obtain ⟨n, hn⟩ := (lim_iff hf r).1 h
  exact ⟨n, fun m hm => chain_le hf hm hn⟩

/-- The limit. -/
noncomputable def limK (E : Env) : Knot :=
  { call := fun g a s Y => lim fun n => (knotN E n).call g a s Y
    code := fun f c st Y => lim fun n => (knotN E n).code f c st Y
    loop := fun f b c st Y => lim fun n => (knotN E n).loop f b c st Y }

section
variable {E : Env}

theorem call_up (g : FuncId) (a : List AV) (s : List AObj) (Y : List Ctx) (n : Nat) (r : AV × List AObj × List Ctx) (h : (knotN E n).call g a s Y = some r) : (knotN E (n + 1)).call g a s Y = some r := ((knotN_succ E n).call _ _ _ _ _ h).const
theorem code_up (f : FuncId) (c : Code) (st : St) (Y : List Ctx) (n : Nat) (r : AExit × St × List Ctx) (h : (knotN E n).code f c st Y = some r) : (knotN E (n + 1)).code f c st Y = some r := ((knotN_succ E n).code _ _ _ _ _ h).const
theorem loop_up (f b : Nat) (c : Code) (st : St) (Y : List Ctx) (n : Nat) (r : AExit × St × List Ctx) (h : (knotN E n).loop f b c st Y = some r) : (knotN E (n + 1)).loop f b c st Y = some r := ((knotN_succ E n).loop _ _ _ _ _ _ h).const

theorem limK_call {g : FuncId} {a : List AV} {s : List AObj} {Y : List Ctx} {r : AV × List AObj × List Ctx} : (limK E).call g a s Y = some r ↔ ∃ n, (knotN E n).call g a s Y = some r := lim_iff (call_up g a s Y) r

theorem limK_under : Under (limK E) (knotN E) :=
  ⟨fun g a s Y _ h => lim_ev (call_up g a s Y) h, fun f c st Y _ h => lim_ev (code_up f c st Y) h, fun f b c st Y _ h => lim_ev (loop_up f b c st Y) h⟩

theorem knotN_limK (n : Nat) : Under (knotN E n) (fun _ => limK E) :=
  ⟨fun g a s Y r h => .of fun _ => (lim_iff (call_up g a s Y) r).2 ⟨n, h⟩, fun f c st Y r h => .of fun _ => (lim_iff (code_up f c st Y) r).2 ⟨n, h⟩,
   fun f b c st Y r h => .of fun _ => (lim_iff (loop_up f b c st Y) r).2 ⟨n, h⟩⟩

theorem opt_ext {α : Type} {a b : Option α} (h : ∀ r, a = some r ↔ b = some r) : a = b := by
  cases a with
  | none => cases b with
    | none => rfl
    | some y => have := (h y).2 rfl; cases this
  | some x => exact ((h x).1 rfl).symm

theorem succ_ev {α : Type} {f : Nat → Option α} {r : α} (h : Ev fun n => f n = some r) : ∃ n, f n = some r := let ⟨N, hN⟩ := h; ⟨N, hN N (Nat.le_refl N)⟩

/-- **A call is its body.** -/
theorem limK_call_eq (g : FuncId) (a : List AV) (s : List AObj) (Y : List Ctx) : (limK E).call g a s Y = bodyA (limK E) E g a s Y := by
  refine opt_ext fun r => ⟨fun h => ?_, fun h => ?_⟩
  · obtain ⟨n, hn⟩ := limK_call.1 h
    cases n with
    | zero => simp [knotN, knot0] at hn
    | succ n => exact (bodyA_ev (knotN_limK n) hn).const
  · obtain ⟨n, hn⟩ := succ_ev (bodyA_ev limK_under h)
    exact limK_call.2 ⟨n + 1, hn⟩

theorem limK_code_eq (f : FuncId) (c : Code) (st : St) (Y : List Ctx) : (limK E).code f c st Y = evA (limK E) E f 0 c st Y := by
  refine opt_ext fun r => ⟨fun h => ?_, fun h => ?_⟩
  · obtain ⟨n, hn⟩ := (lim_iff (code_up f c st Y) r).1 h
    cases n with
    | zero => simp [knotN, knot0] at hn
    | succ n => exact (evA_ev (knotN_limK n) c 0 hn).const
  · obtain ⟨n, hn⟩ := succ_ev (evA_ev limK_under c 0 h)
    exact (lim_iff (code_up f c st Y) r).2 ⟨n + 1, hn⟩

theorem limK_loop_eq (f b : Nat) (c : Code) (st : St) (Y : List Ctx) : (limK E).loop f b c st Y = loopA (limK E) E f b c st Y := by
  refine opt_ext fun r => ⟨fun h => ?_, fun h => ?_⟩
  · obtain ⟨n, hn⟩ := (lim_iff (loop_up f b c st Y) r).1 h
    cases n with
    | zero => simp [knotN, knot0] at hn
    | succ n => exact (loopA_ev (knotN_limK n) hn).const
  · obtain ⟨n, hn⟩ := succ_ev (loopA_ev limK_under h)
    exact (lim_iff (loop_up f b c st Y) r).2 ⟨n + 1, hn⟩

end
end Go.AM

namespace Go.AM

inductive Fr where
  | code (blk : Nat) (c : Code)
  | endb (id : Nat)
  | ops (all : Array Oper) (l : List Oper)
  | drw (all : Array Oper) (l : List Oper) (fs : List Foot)

abbrev Out := Option (AExit × St × List Ctx)

def drawChk (all : Array Oper) (fs : List Foot) : Bool := fs.all (fun f => f.wr.isEmpty && !f.call) || pairsOk (befA all) fs

def outOf (i : Nat) : AExit → AExit
  | .exit j => bif j == i then .norm else .exit j
  | x => x

def runK (C : Knot) (E : Env) (f : FuncId) : List Fr → AExit → St → List Ctx → Out
  | [], e, st, Y => some (e, st, Y)
  | .code blk c :: k, .norm, st, Y => match evA C E f blk c st Y with | some (e, st', Y') => runK C E f k e st' Y' | none => none
  | .endb _ :: k, .norm, st, Y => runK C E f k .norm st Y
  | .ops all l :: k, .norm, st, Y => match opsA C E all l st Y with | some (st', Y') => runK C E f k .norm st' Y' | none => none
  | .drw all l fs :: k, .norm, st, Y =>
    match opsDrawA C E all l st Y fs with
    | some (st', Y', fs') => if drawChk all fs' then runK C E f k .norm st' Y' else none
    | none => none
  | .endb j :: k, .exit i, st, Y => runK C E f k (bif i == j then .norm else .exit i) st Y
  | _ :: k, .exit i, st, Y => runK C E f k (.exit i) st Y
  | _ :: k, .ret, st, Y => runK C E f k .ret st Y

/-- What comes behind a call. -/
def contK (C : Knot) (E : Env) (f : FuncId) (x : Out) (k : List Fr) : Out :=
  match x with | some (e, st, Y) => runK C E f k e st Y | none => none

section
variable {C : Knot} {E : Env} {f blk : Nat} {k : List Fr} {st : St} {Y : List Ctx}

theorem run_ret : ∀ {k : List Fr}, runK C E f k .ret st Y = some (.ret, st, Y)
  | [] => rfl
  | fr :: k => by cases fr <;> (simp only [runK]; exact run_ret)

theorem run_nil {e : AExit} : runK C E f [] e st Y = some (e, st, Y) := by cases e <;> rfl
theorem run_endb {i : Nat} : runK C E f (.endb i :: k) .norm st Y = runK C E f k .norm st Y := rfl
theorem run_exit_end {i j : Nat} : runK C E f (.endb j :: k) (.exit i) st Y = runK C E f k (bif i == j then .norm else .exit i) st Y := rfl
theorem run_exit_code {i b : Nat} {c : Code} : runK C E f (.code b c :: k) (.exit i) st Y = runK C E f k (.exit i) st Y := rfl
theorem evA_run {c : Code} : evA C E f blk c st Y = runK C E f [.code blk c] .norm st Y := by
  simp only [runK]
  cases evA C E f blk c st Y with
  | none => rfl
  | some p => obtain ⟨e, st', Y'⟩ := p; cases e <;> rfl

theorem cont_some {e : AExit} : contK C E f (some (e, st, Y)) k = runK C E f k e st Y := rfl
theorem cont_none : contK C E f none k = none := rfl

theorem run_skip : runK C E f (.code blk .skip :: k) .norm st Y = runK C E f k .norm st Y := rfl
theorem run_label {l : Nat} : runK C E f (.code blk (.label l) :: k) .norm st Y = runK C E f k .norm st Y := rfl
theorem run_codeRet : runK C E f (.code blk .ret :: k) .norm st Y = some (.ret, st, Y) := by simp only [runK, evA]; exact run_ret
theorem run_exit {i : Nat} : runK C E f (.code blk (.exit i) :: k) .norm st Y = runK C E f k (.exit i) st Y := rfl
theorem run_region {id : Nat} {ops : Array Oper} : runK C E f (.code blk (.region id ops false) :: k) .norm st Y = runK C E f (.ops ops ops.toList :: k) .norm st Y := by
  simp only [runK, evA, regionA, cond_false]
  cases opsA C E ops ops.toList st Y with
  | none => rfl
  | some p => rfl
theorem run_regionD {id : Nat} {ops : Array Oper} : runK C E f (.code blk (.region id ops true) :: k) .norm st Y = runK C E f (.drw ops ops.toList [] :: k) .norm st Y := by
  simp only [runK, evA, regionA, cond_true]
  cases opsDrawA C E ops ops.toList st Y [] with
  | none => rfl
  | some p =>
    obtain ⟨st', Y', fs⟩ := p
    simp only
    by_cases h : drawChk ops fs = true
    · have h' := h
      unfold drawChk at h'
      rw [if_pos h, if_pos h']; rfl
    · have h' := h
      unfold drawChk at h'
      rw [if_neg h, if_neg h']; rfl
theorem run_seq {a b : Code} : runK C E f (.code blk (.seq a b) :: k) .norm st Y = runK C E f (.code blk a :: .code blk b :: k) .norm st Y := by
  simp only [runK, evA]
  cases evA C E f blk a st Y with
  | none => rfl
  | some p =>
    obtain ⟨e, st', Y'⟩ := p
    cases e <;> simp only [runK]
theorem run_block {i : Nat} {b : Code} : runK C E f (.code blk (.block i b) :: k) .norm st Y = runK C E f (.code i b :: .endb i :: k) .norm st Y := by
  simp only [runK, evA]
  cases evA C E f i b st Y with
  | none => rfl
  | some p =>
    obtain ⟨e, st', Y'⟩ := p
    cases e <;> simp only [runK]
def ifO (c : Bool) (x y : Out) : Out := bif c then x else y
theorem ifO_true {x y : Out} : ifO true x y = x := rfl
theorem ifO_false {x y : Out} : ifO false x y = y := rfl
def condK (v : AV) (x y : Out) : Out := match v with | .f (.bool t) => bif t then x else y | _ => none
theorem condK_b {t : Bool} {x y : Out} : condK (.f (.bool t)) x y = ifO t x y := rfl
theorem run_cond {c : Operand} {a b : Code} : runK C E f (.code blk (.cond c a b) :: k) .norm st Y =
    condK (evalO st.tmps c) (runK C E f (.code blk a :: k) .norm st Y) (runK C E f (.code blk b :: k) .norm st Y) := by
  simp only [runK, evA, condK]
  cases evalO st.tmps c with
  | f v => cases v with
    | bool t => cases t <;> rfl
    | _ => rfl
  | _ => rfl
theorem run_loop {b : Code} : runK C E f (.code blk (.loop b) :: k) .norm st Y = contK C E f (C.loop f blk b st Y) k := rfl
theorem run_range {h : Operand} {ps : Array Tmp} {a b : Code} : runK C E f (.code blk (.rangeFunc h ps a b) :: k) .norm st Y = contK C E f (rangeA C f (evalO st.tmps h) ps a b st Y) k := rfl

end

/-! ### operations -/
section
variable {C : Knot} {E : Env} {f blk : Nat} {k : List Fr} {T : Tmps} {σ : List AObj} {p : Nat} {Y : List Ctx} {all : Array Oper} {r : List Oper} {dst : Option Tmp} {ty : TypeId} {pos : String} {af : Array Edge}

theorem run_ops_nil {st : St} : runK C E f (.ops all [] :: k) .norm st Y = runK C E f k .norm st Y := rfl

/-- The answer of an operation laid in. -/
def effK (C : Knot) (E : Env) (f : FuncId) (dst : Option Tmp) (x : Option Eff) (fr : List Fr) (T : Tmps) (σ : List AObj) (p : Nat) (Y : List Ctx) : Out :=
  match x with
  | some e => bif e.wr.all (fun q => Nat.blt q.1 σ.length) then runK C E f fr .norm ⟨putDst T dst e.val, putWr σ e.wr ++ e.news, p⟩ Y else none
  | none => none

def effYK (C : Knot) (E : Env) (f : FuncId) (dst : Option Tmp) (x : Option (Eff × List Ctx)) (fr : List Fr) (T : Tmps) (σ : List AObj) (p : Nat) : Out :=
  match x with
  | some (e, Y) => bif e.wr.all (fun q => Nat.blt q.1 σ.length) then runK C E f fr .norm ⟨putDst T dst e.val, putWr σ e.wr ++ e.news, p⟩ Y else none
  | none => none

theorem effK_val {v : AV} {fr : List Fr} : effK C E f dst (some ⟨v, [], []⟩) fr T σ p Y = runK C E f fr .norm ⟨putDst T dst v, σ, p⟩ Y := by
  simp [effK, putWr]
theorem effK_new {v : AV} {x : AObj} {n : List AObj} {fr : List Fr} : effK C E f dst (some ⟨v, [], x :: n⟩) fr T σ p Y = runK C E f fr .norm ⟨putDst T dst v, σ ++ x :: n, p⟩ Y := by
  simp [effK, putWr]
theorem effK_wr {v : AV} {o : Nat} {x : AObj} {w : List (Nat × AObj)} {n : List AObj} {fr : List Fr} : effK C E f dst (some ⟨v, (o, x) :: w, n⟩) fr T σ p Y =
    bif ((o, x) :: w).all (fun q => Nat.blt q.1 σ.length) then runK C E f fr .norm ⟨putDst T dst v, putWr σ ((o, x) :: w) ++ n, p⟩ Y else none := rfl
theorem effK_none {fr : List Fr} : effK C E f dst none fr T σ p Y = none := rfl
theorem effYK_some {v : AV} {w : List (Nat × AObj)} {n : List AObj} {fr : List Fr} : effYK C E f dst (some (⟨v, w, n⟩, Y)) fr T σ p =
    bif w.all (fun q => Nat.blt q.1 σ.length) then runK C E f fr .norm ⟨putDst T dst v, putWr σ w ++ n, p⟩ Y else none := rfl
theorem effYK_none {fr : List Fr} : effYK C E f dst none fr T σ p = none := rfl

theorem run_op {op : Op} (h : isCallOp op = false) : runK C E f (.ops all (⟨dst, op, ty, pos, af, none⟩ :: r) :: k) .norm ⟨T, σ, p⟩ Y =
    effK C E f dst (opA E.P σ.length (atO σ) (evalO T) ⟨dst, op, ty, pos, af, none⟩) (.ops all r :: k) T σ p Y := by
  have h0 : step0 C E σ.length (atO σ) (evalO T) ⟨dst, op, ty, pos, af, none⟩ Y = (opA E.P σ.length (atO σ) (evalO T) ⟨dst, op, ty, pos, af, none⟩).map (·, Y) := by
    unfold step0
    split
    · rename_i c hc
      simp only at hc
      subst hc
      split
      · rfl
      · rename_i hb
        cases c with
        | mk callee as ts =>
          cases callee with
          | builtin b => exact absurd rfl (hb b)
          | value _ => simp [isCallOp] at h
          | invoke _ _ => simp [isCallOp] at h
    · rfl
  simp only [runK, opsA, wantA, stepA, h0, effK]
  cases opA E.P σ.length (atO σ) (evalO T) ⟨dst, op, ty, pos, af, none⟩ with
  | none => rfl
  | some e =>
    simp only [Option.map_some]
    cases (e.wr.all fun q => Nat.blt q.1 σ.length) <;> rfl

/-- A guarded operation. -/
def wantK (v : AV) (want : Bool) (x y : Out) : Out :=
  match v with
  | .f (.bool b) => bif b == want then x else y
  | .tup [] => y
  | _ => none

theorem wantK_t {b : Bool} {x y : Out} : wantK (.f (.bool b)) true x y = ifO b x y := by cases b <;> rfl
theorem wantK_f {b : Bool} {x y : Out} : wantK (.f (.bool b)) false x y = ifO b y x := by cases b <;> rfl
theorem wantK_no {want : Bool} {x y : Out} : wantK (.tup []) want x y = y := rfl

theorem run_guard {op : Op} {j d : Nat} {want : Bool} (hj : (all[j]?).bind (·.dst) = some d) :
    runK C E f (.ops all (⟨dst, op, ty, pos, af, some (j, want)⟩ :: r) :: k) .norm ⟨T, σ, p⟩ Y =
    wantK (getT T d) want (runK C E f (.ops all (⟨dst, op, ty, pos, af, none⟩ :: r) :: k) .norm ⟨T, σ, p⟩ Y)
      (runK C E f (.ops all r :: k) .norm ⟨putDst T dst (.tup []), σ, p⟩ Y) := by
  have hs : ∀ x, stepA C E σ.length (atO σ) (evalO T) ⟨dst, op, ty, pos, af, some (j, want)⟩ Y = x → stepA C E σ.length (atO σ) (evalO T) ⟨dst, op, ty, pos, af, none⟩ Y = x := fun x hx => hx
  have hs := hs _ rfl
  simp only [runK, opsA, wantA, hj, hs]
  cases hg : getT T d with
  | f v => cases v with
    | bool b =>
      simp only [wantK]
      cases (b == want) <;> rfl
    | _ => rfl
  | tup l => cases l <;> rfl
  | _ => rfl

theorem run_call {h : Operand} {as : Array Operand} {ts : Array TypeId} : runK C E f (.ops all (⟨dst, .call ⟨.value h, as, ts⟩, ty, pos, af, none⟩ :: r) :: k) .norm ⟨T, σ, p⟩ Y =
    effYK C E f dst (callOp C E σ.length (atO σ) (evalO T) ⟨.value h, as, ts⟩ Y) (.ops all r :: k) T σ p := by
  simp only [runK, opsA, wantA, stepA, step0, effYK]
  cases callOp C E σ.length (atO σ) (evalO T) ⟨.value h, as, ts⟩ Y with
  | none => rfl
  | some q =>
    obtain ⟨e, Y'⟩ := q
    simp only
    cases (e.wr.all fun q => Nat.blt q.1 σ.length) <;> rfl

end
end Go.AM

namespace Go.AM

/-! ### temporaries and operands -/
section
variable {T : Tmps} {v : AV} {t k : Nat}
theorem getT_nil : getT [] t = .bot := rfl
theorem getT_cons : getT ((k, v) :: T) t = bif k == t then v else getT T t := rfl
theorem setT_nil : setT [] t v = [(t, v)] := rfl
theorem setT_cons {x : AV} : setT ((k, x) :: T) t v = bif k == t then (t, v) :: T else bif t < k then (t, v) :: (k, x) :: T else (k, x) :: setT T t v := rfl
theorem putDst_some : putDst T (some t) v = setT T t v := rfl
theorem putDst_none : putDst T none v = T := rfl
theorem evalO_tmp : evalO T (.tmp t) = getT T t := rfl
theorem evalO_int {k : IntKind} {n : Int} : evalO T (.const (.int k n)) = .f (.int k n) := rfl
theorem evalO_bool {b : Bool} : evalO T (.const (.bool b)) = .f (.bool b) := rfl
theorem evalO_str {b : ByteArray} : evalO T (.const (.string b)) = .f (.str b) := rfl
theorem evalO_nils : evalO T (.const (.slice none 0 0)) = .f .nils := rfl
theorem evalO_nilp : evalO T (.const (.pointer none)) = .f .nilp := rfl
theorem evalO_nilm : evalO T (.const (.map none)) = .f .nilm := rfl
theorem evalO_nilf : evalO T (.const .nilFunc) = .f .nilf := rfl
theorem evalO_nili : evalO T (.const .nilIface) = .f .nili := rfl
theorem evalO_func {g : FuncId} : evalO T (.func g) = .f (.fn g [] []) := rfl
end

theorem atO_zero {x : AObj} {σ : List AObj} : atO (x :: σ) 0 = x := rfl
theorem atO_succ {x : AObj} {σ : List AObj} {n : Nat} : atO (x :: σ) (n + 1) = atO σ n := rfl
theorem atO_lit {x : AObj} {σ : List AObj} {n : Nat} : atO (x :: σ) (OfNat.ofNat (n + 2)) = atO σ (n + 1) := rfl
theorem putWr_nil {σ : List AObj} : putWr σ [] = σ := rfl
theorem putWr_cons {σ : List AObj} {o : Nat} {x : AObj} {r : List (Nat × AObj)} : putWr σ ((o, x) :: r) = putWr (σ.set o x) r := rfl

/-! ### operations -/
section
variable {P : Program} {b : Nat} {σ : Nat → AObj} {ρ : Operand → AV} {d : Option Tmp} {ty : TypeId} {pos : String} {af : Array Edge} {g : Option (Nat × Bool)} {x y c : Operand} {t : TypeId}

def effV (v : Option AV) : Option Eff := match v with | some v => some ⟨v, [], []⟩ | none => none
theorem effV_some {v : AV} : effV (some v) = some ⟨v, [], []⟩ := rfl
theorem effV_none : effV none = none := rfl
theorem val_eff {v : Option AV} : val v = effV v := by cases v <;> rfl

theorem opA_move : opA P b σ ρ ⟨d, .move x, ty, pos, af, g⟩ = some ⟨ρ x, [], []⟩ := rfl
theorem opA_assign : opA P b σ ρ ⟨d, .assign x, ty, pos, af, g⟩ = some ⟨ρ x, [], []⟩ := rfl
def pickV (c x y : AV) : Option Eff := match c with | .f (.bool t) => some ⟨bif t then x else y, [], []⟩ | _ => none
theorem pickV_b {t : Bool} {x y : AV} : pickV (.f (.bool t)) x y = some ⟨bif t then x else y, [], []⟩ := rfl
theorem opA_pick : opA P b σ ρ ⟨d, .pick c x y, ty, pos, af, g⟩ = pickV (ρ c) (ρ x) (ρ y) := rfl
def zeroC (P : Program) (t : TypeId) : Option (List AV) := (zeroA P t).bind cellsOf
def allocV (b : Nat) (z : Option (List AV)) : Option Eff := match z with | some cs => some ⟨.ptr b 0, [], [.box cs]⟩ | none => none
theorem allocV_some {cs : List AV} : allocV b (some cs) = some ⟨.ptr b 0, [], [.box cs]⟩ := rfl
theorem opA_alloc : opA P b σ ρ ⟨d, .alloc t, ty, pos, af, g⟩ = allocV b (zeroC P t) := rfl
theorem opA_box : opA P b σ ρ ⟨d, .box t x, ty, pos, af, g⟩ = allocV b (cellsOf (ρ x)) := rfl
theorem opA_load : opA P b σ ρ ⟨d, .load t x, ty, pos, af, g⟩ = effV (loadA P σ t (ρ x)) := by
  show val _ = _; exact val_eff
def storeV (σ : Nat → AObj) (cs : Option (List AV)) (n : Option Nat) (a : AV) : Option Eff :=
  match cs, n with
  | some cs, some n => if cs.length = n then (storeCells σ a cs).map fun w => ⟨.tup [], w, []⟩ else none
  | _, _ => none
theorem opA_store : opA P b σ ρ ⟨d, .store t x y, ty, pos, af, g⟩ = storeV σ (cellsOf (ρ y)) (sizeT P t) (ρ x) := rfl
def nilChkV (v : AV) : Option Eff :=
  match v with
  | .ptr o off => some ⟨.ptr o off, [], []⟩
  | .f (.ptr c off) => some ⟨.f (.ptr c off), [], []⟩
  | .fn g a b => some ⟨.fn g a b, [], []⟩
  | .f (.fn g a b) => some ⟨.f (.fn g a b), [], []⟩
  | .yld l => some ⟨.yld l, [], []⟩
  | _ => none
theorem opA_nilCheck : opA P b σ ρ ⟨d, .nilCheck x, ty, pos, af, g⟩ = nilChkV (ρ x) := by
  show (match ρ x with | .ptr o off => val (some (.ptr o off)) | .f (.ptr c off) => val (some (.f (.ptr c off))) | .fn g a b => val (some (.fn g a b)) | .f (.fn g a b) => val (some (.f (.fn g a b))) | .yld l => val (some (.yld l)) | _ => none) = nilChkV (ρ x)
  cases ρ x with
  | f v => cases v <;> rfl
  | _ => rfl
theorem opA_binOp {op : BinOp} {t' : TypeId} : opA P b σ ρ ⟨d, .binOp op t x y t', ty, pos, af, g⟩ = effV (binA P σ op t (ρ x) (ρ y)) := by
  show val _ = _; exact val_eff
theorem opA_unOp {op : UnOp} : opA P b σ ρ ⟨d, .unOp op t x, ty, pos, af, g⟩ = effV (unA op (ρ x)) := by
  show val _ = _; exact val_eff
theorem opA_convert {s : TypeId} : opA P b σ ρ ⟨d, .convert s t x, ty, pos, af, g⟩ = effV (convA P s t (ρ x)) := by
  show val _ = _; exact val_eff
theorem opA_makeFunc {gi : FuncId} {fi ca : Array Operand} : opA P b σ ρ ⟨d, .makeFunc (.func gi) fi ca, ty, pos, af, g⟩ = some ⟨.fn gi (fi.toList.map ρ) (ca.toList.map ρ), [], []⟩ := rfl
def extV (i : Nat) (v : AV) : Option Eff := match v with | .tup l => effV (l[i]?) | _ => none
theorem extV_tup {i : Nat} {l : List AV} : extV i (.tup l) = effV (l[i]?) := rfl
theorem opA_extract {i : Nat} : opA P b σ ρ ⟨d, .extract x i, ty, pos, af, g⟩ = extV i (ρ x) := by
  show (match ρ x with | .tup l => val (l[i]?) | _ => none) = _
  unfold extV
  split
  · exact val_eff
  · rfl

/-- The offset of a field; is it an aggregate; its size. -/
def fldT (P : Program) (s : TypeId) (i : Nat) : Option (Nat × Bool × Nat) :=
  match P.underlying s with
  | some (.struct fields) =>
    match fields[i]? with
    | some fd => match isAggT P fd.type, sizeT P fd.type with | some ag, some n => some (fd.offset, ag, n) | _, _ => none
    | none => none
  | _ => none

theorem fldT_some {P : Program} {s : TypeId} {i off n : Nat} {ag : Bool} (h : fldT P s i = some (off, ag, n)) :
    ∃ fields fd, P.underlying s = some (.struct fields) ∧ fields[i]? = some fd ∧ isAggT P fd.type = some ag ∧ sizeT P fd.type = some n ∧ fd.offset = off := by
  unfold fldT at h
  split at h
  · rename_i fields hu
    split at h
    · rename_i fd hf
      split at h
      · rename_i h1 h2
        simp only [Option.some.injEq, Prod.mk.injEq] at h
        obtain ⟨rfl, rfl, rfl⟩ := h
        exact ⟨fields, fd, hu, hf, h1, h2, rfl⟩
      · cases h
    · cases h
  · cases h

def faV (off : Nat) (v : AV) : Option Eff :=
  match v with
  | .ptr o a => some ⟨.ptr o (a + off), [], []⟩
  | .f (.ptr cells a) => some ⟨.f (.ptr cells (a + off)), [], []⟩
  | _ => none
theorem faV_ptr {o a off : Nat} : faV off (.ptr o a) = some ⟨.ptr o (a + off), [], []⟩ := rfl
theorem faV_fptr {cs : List FV} {a off : Nat} : faV off (.f (.ptr cs a)) = some ⟨.f (.ptr cs (a + off)), [], []⟩ := rfl

theorem opA_fieldAddr {i off n : Nat} {ag : Bool} (h : fldT P t i = some (off, ag, n + 1)) : opA P b σ ρ ⟨d, .fieldAddr t x i, ty, pos, af, g⟩ = faV off (ρ x) := by
  obtain ⟨fields, fd, hu, hf, h1, h2, rfl⟩ := fldT_some h
  unfold opA
  simp only [hu, hf, h2]
  cases ρ x with
  | f v => cases v <;> rfl
  | _ => rfl

def fieldV (off : Nat) (ag : Bool) (n : Nat) (v : AV) : Option AV :=
  match v with
  | .agg l => bif ag then (sliceOf l off n).map .agg else l[off]?
  | _ => none
theorem fieldV_s {off n : Nat} {l : List AV} : fieldV off false n (.agg l) = l[off]? := rfl
theorem fieldV_a {off n : Nat} {l : List AV} : fieldV off true n (.agg l) = (sliceOf l off n).map .agg := rfl
theorem opA_field {i off n : Nat} {ag : Bool} (h : fldT P t i = some (off, ag, n)) : opA P b σ ρ ⟨d, .field t x i, ty, pos, af, g⟩ = effV (fieldV off ag n (ρ x)) := by
  obtain ⟨fields, fd, hu, hf, h1, h2, rfl⟩ := fldT_some h
  unfold opA
  simp only [hu]
  cases ρ x with
  | agg l =>
    simp only [hf, h1, h2, fieldV]
    cases ag
    · simp only [cond_false]; exact val_eff
    · simp only [cond_true]; exact val_eff
  | _ => rfl

/-- What an index goes through: an array's length or a slice (none); the element's size. -/
def elT (P : Program) (t : TypeId) : Option (Option Nat × Nat) :=
  match P.underlying t with
  | some (.array len elem) => (sizeT P elem).map fun n => (some len, n)
  | some (.slice elem) => (sizeT P elem).map fun n => (none, n)
  | _ => none

def iaS (n : Nat) (v : AV) (i : Int) : Option Eff :=
  match v with
  | .f (.sl cells len _) => if 0 ≤ i ∧ i < len then some ⟨.f (.ptr cells (i.toNat * n)), [], []⟩ else none
  | .sl o off len esz _ => if esz = n then if 0 ≤ i ∧ i < len then some ⟨.ptr o (off + i.toNat * n), [], []⟩ else none else none
  | _ => none
def iaA (len n : Nat) (v : AV) (i : Int) : Option Eff :=
  if 0 ≤ i ∧ i < len then
    match v with
    | .ptr o off => some ⟨.ptr o (off + i.toNat * n), [], []⟩
    | .f (.ptr cells off) => some ⟨.f (.ptr cells (off + i.toNat * n)), [], []⟩
    | _ => none
  else none
theorem iaS_f {n : Nat} {cs : List FV} {len : Nat} {cl : Bool} {i : Int} (h : 0 ≤ i ∧ i < len) : iaS n (.f (.sl cs len cl)) i = some ⟨.f (.ptr cs (i.toNat * n)), [], []⟩ := if_pos h
theorem iaS_o {n o off len : Nat} {cl : Bool} {i : Int} (h : 0 ≤ i ∧ i < len) : iaS n (.sl o off len n cl) i = some ⟨.ptr o (off + i.toNat * n), [], []⟩ := by
  simp only [iaS, if_true]; exact if_pos h
theorem iaA_o {n o off len : Nat} {i : Int} (h : 0 ≤ i ∧ i < len) : iaA len n (.ptr o off) i = some ⟨.ptr o (off + i.toNat * n), [], []⟩ := if_pos h
theorem iaA_f {n off len : Nat} {cs : List FV} {i : Int} (h : 0 ≤ i ∧ i < len) : iaA len n (.f (.ptr cs off)) i = some ⟨.f (.ptr cs (off + i.toNat * n)), [], []⟩ := if_pos h

theorem elT_arr {len n : Nat} (h : elT P t = some (some len, n)) : ∃ elem, P.underlying t = some (.array len elem) ∧ sizeT P elem = some n := by
  unfold elT at h
  split at h
  · rename_i l e hu
    cases hs : sizeT P e with
    | none => rw [hs] at h; cases h
    | some m => rw [hs] at h; simp at h; obtain ⟨rfl, rfl⟩ := h; exact ⟨e, hu, hs⟩
  · rename_i e hu
    cases hs : sizeT P e with
    | none => rw [hs] at h; cases h
    | some m => rw [hs] at h; simp at h
  · cases h
theorem elT_sl {n : Nat} (h : elT P t = some (none, n)) : ∃ elem, P.underlying t = some (.slice elem) ∧ sizeT P elem = some n := by
  unfold elT at h
  split at h
  · rename_i l e hu
    cases hs : sizeT P e with
    | none => rw [hs] at h; cases h
    | some m => rw [hs] at h; simp at h
  · rename_i e hu
    cases hs : sizeT P e with
    | none => rw [hs] at h; cases h
    | some m => rw [hs] at h; simp at h; subst h; exact ⟨e, hu, hs⟩
  · cases h

/-- An index laid in. -/
def idxV (i : AV) (k : Int → Option Eff) : Option Eff := match i with | .f (.int _ i) => k i | _ => none
theorem idxV_int {kd : IntKind} {i : Int} {k : Int → Option Eff} : idxV (.f (.int kd i)) k = k i := rfl

theorem opA_indexAddrS {n : Nat} (h : elT P t = some (none, n)) : opA P b σ ρ ⟨d, .indexAddr t x y, ty, pos, af, g⟩ = idxV (ρ y) (iaS n (ρ x)) := by
  obtain ⟨elem, hu, hs⟩ := elT_sl h
  unfold opA
  simp only [hu]
  cases ρ y with
  | f v => cases v with
    | int kd i =>
      simp only [idxA, idxV, iaS, hs]
      cases ρ x with
      | f v => cases v <;> rfl
      | sl o off len esz cl =>
        simp only
        by_cases he : esz = n
        · by_cases hi : 0 ≤ i ∧ i < (len : Int)
          · rw [if_pos ⟨he, hi⟩, if_pos he, if_pos hi]; rfl
          · rw [if_neg (fun hh => hi hh.2), if_pos he, if_neg hi]
        · rw [if_neg (fun hh => he hh.1), if_neg he]
      | _ => rfl
    | _ => rfl
  | _ => rfl
theorem opA_indexAddrA {n len : Nat} (h : elT P t = some (some len, n)) : opA P b σ ρ ⟨d, .indexAddr t x y, ty, pos, af, g⟩ = idxV (ρ y) (iaA len n (ρ x)) := by
  obtain ⟨elem, hu, hs⟩ := elT_arr h
  unfold opA
  simp only [hu]
  cases ρ y with
  | f v => cases v with
    | int kd i =>
      simp only [idxA, idxV, iaA, hs]
      by_cases hi : 0 ≤ i ∧ i < (len : Int)
      · rw [if_pos hi, if_pos hi]
        cases ρ x with
        | f v => cases v <;> rfl
        | _ => rfl
      · rw [if_neg hi, if_neg hi]
    | _ => rfl
  | _ => rfl

end

/-! ### memory -/
section
variable {P : Program} {σ : Nat → AObj} {t : TypeId}
def pick1 {α : Type} : Option (List α) → Option α
  | some [v] => some v
  | _ => none
theorem sliceOf_one {α : Type} {cells : List α} {off : Nat} : pick1 (sliceOf cells off 1) = cells[off]? := by
  unfold sliceOf
  cases h : cells[off]? with
  | none =>
    have hl : cells.length ≤ off := List.getElem?_eq_none_iff.1 h
    simp [List.drop_eq_nil_of_le hl, pick1]
  | some v =>
    obtain ⟨hl, hv⟩ := List.getElem?_eq_some_iff.1 h
    rw [List.drop_eq_getElem_cons hl, hv]
    simp [pick1]
theorem one_map {α β : Type} (f : α → β) (x : Option (List α)) : pick1 (x.map (fun l => l.map f)) = (pick1 x).map f := by
  cases x with
  | none => rfl
  | some l =>
    cases l with
    | nil => rfl
    | cons a l => cases l <;> rfl

def ldV (σ : Nat → AObj) (a : AV) : Option AV :=
  match a with
  | .f (.ptr cells off) => (cells[off]?).map .f
  | .ptr o off => match σ o with | .box cells => cells[off]? | .arr cells _ _ => (cells[off]?).map .f | .frz cells => (cells[off]?).map .f | _ => none
  | _ => none
def ldO (x : AObj) (off : Nat) : Option AV := match x with | .box cells => cells[off]? | .arr cells _ _ => (cells[off]?).map .f | .frz cells => (cells[off]?).map .f | _ => none
theorem ldO_box {cs : List AV} {off : Nat} : ldO (.box cs) off = cs[off]? := rfl
theorem ldO_arr {cs : List FV} {ex nl : Bool} {off : Nat} : ldO (.arr cs ex nl) off = (cs[off]?).map .f := rfl
theorem ldO_frz {cs : List FV} {off : Nat} : ldO (.frz cs) off = (cs[off]?).map .f := rfl
theorem ldV_f {cs : List FV} {off : Nat} : ldV σ (.f (.ptr cs off)) = (cs[off]?).map .f := rfl
theorem ldV_o {o off : Nat} : ldV σ (.ptr o off) = ldO (σ o) off := rfl

theorem loadA_s (h : isAggT P t = some false) (a : AV) : loadA P σ t a = ldV σ a := by
  have h1 : loadA P σ t a = pick1 (loadCells σ a 1) := by
    unfold loadA
    simp only [h]
    cases loadCells σ a 1 with
    | none => rfl
    | some l => cases l with
      | nil => rfl
      | cons x l => cases l <;> rfl
  rw [h1]
  cases a with
  | f v =>
    cases v with
    | ptr cells off => show pick1 ((sliceOf cells off 1).map fun l => l.map AV.f) = (cells[off]?).map AV.f; rw [one_map, sliceOf_one]
    | _ => rfl
  | ptr o off =>
    cases ho : σ o with
    | box cells => simp only [loadCells, ldV, ho]; exact sliceOf_one
    | arr cells _ _ => simp only [loadCells, ldV, ho]; rw [one_map, sliceOf_one]
    | frz cells => simp only [loadCells, ldV, ho]; rw [one_map, sliceOf_one]
    | _ => simp only [loadCells, ldV, ho]; rfl
  | _ => rfl

def ldN (n : Nat) (x : AObj) (off : Nat) : Option AV :=
  match x with
  | .box cells => (sliceOf cells off n).map .agg
  | .arr cells _ _ => (sliceOf cells off n).map fun l => .agg (l.map .f)
  | .frz cells => (sliceOf cells off n).map fun l => .agg (l.map .f)
  | _ => none
theorem ldN_box {n off : Nat} {cs : List AV} : ldN n (.box cs) off = (sliceOf cs off n).map .agg := rfl
theorem ldN_arr {n off : Nat} {cs : List FV} {ex nl : Bool} : ldN n (.arr cs ex nl) off = (sliceOf cs off n).map fun l => .agg (l.map .f) := rfl
theorem ldN_frz {n off : Nat} {cs : List FV} : ldN n (.frz cs) off = (sliceOf cs off n).map fun l => .agg (l.map .f) := rfl
theorem loadA_o {n o off : Nat} (h : isAggT P t = some true) (hn : sizeT P t = some n) : loadA P σ t (.ptr o off) = ldN n (σ o) off := by
  unfold loadA
  simp only [h, hn]
  cases ho : σ o with
  | box cells => simp only [loadCells, ldN, ho]
  | arr cells _ _ => simp only [loadCells, ldN, ho]; cases sliceOf cells off n <;> rfl
  | frz cells => simp only [loadCells, ldN, ho]; cases sliceOf cells off n <;> rfl
  | _ => simp only [loadCells, ldN, ho]; rfl
theorem loadA_f {n off : Nat} {cs : List FV} (h : isAggT P t = some true) (hn : sizeT P t = some n) : loadA P σ t (.f (.ptr cs off)) = (sliceOf cs off n).map fun l => .agg (l.map .f) := by
  unfold loadA
  simp only [h, hn, loadCells]
  cases sliceOf cs off n <;> rfl
end
end Go.AM

namespace Go.AM

section
variable {P : Program} {b : Nat} {σ : Nat → AObj} {ρ : Operand → AV} {d : Option Tmp} {ty : TypeId} {pos : String} {af : Array Edge} {g : Option (Nat × Bool)} {x y c : Operand} {t : TypeId}

/-! ### stores -/
def stO (x : AObj) (off : Nat) (l : List AV) : Option AObj :=
  match x with
  | .box cells => if off + l.length ≤ cells.length then some (.box (setCells cells off l)) else none
  | .arr cells ex nl => match unF l with | some l' => if off + l'.length ≤ cells.length then some (.arr (setCells cells off l') ex nl) else none | none => none
  | _ => none
def wrV (o : Nat) (x : Option AObj) : Option Eff := match x with | some x => some ⟨.tup [], [(o, x)], []⟩ | none => none
theorem wrV_some {o : Nat} {x : AObj} : wrV o (some x) = some ⟨.tup [], [(o, x)], []⟩ := rfl
theorem storeV_o {cs : List AV} {n o off : Nat} (h : cs.length = n) : storeV σ (some cs) (some n) (.ptr o off) = wrV o (stO (σ o) off cs) := by
  simp only [storeV, h, if_true]
  simp only [storeCells, stO]
  cases σ o with
  | box cells => simp only; split <;> rfl
  | arr cells ex nl =>
    simp only
    cases unF cs with
    | none => rfl
    | some l' => simp only; split <;> rfl
  | _ => rfl
theorem stO_box {cs l : List AV} {off : Nat} (h : off + l.length ≤ cs.length) : stO (.box cs) off l = some (.box (setCells cs off l)) := if_pos h
theorem stO_arr1 {cs : List FV} {v : FV} {ex nl : Bool} {off : Nat} (h : off < cs.length) : stO (.arr cs ex nl) off [.f v] = some (.arr (cs.set off v) ex nl) := by
  show (if off + 1 ≤ cs.length then _ else none) = _
  rw [if_pos (by omega)]; rfl
theorem setCells_nil {α : Type} {cs : List α} {off : Nat} : setCells cs off [] = cs := rfl
theorem setCells_cons {α : Type} {cs l : List α} {off : Nat} {v : α} : setCells cs off (v :: l) = setCells (cs.set off v) (off + 1) l := rfl

theorem cellsOf_f {v : FV} : cellsOf (.f v) = some [.f v] := rfl
theorem cellsOf_agg {l : List AV} : cellsOf (.agg l) = some l := rfl
theorem cellsOf_sl {o off len esz : Nat} {cl : Bool} : cellsOf (.sl o off len esz cl) = some [.sl o off len esz cl] := rfl
theorem cellsOf_ptr {o off : Nat} : cellsOf (.ptr o off) = some [.ptr o off] := rfl
theorem cellsOf_fn {g : FuncId} {a b : List AV} : cellsOf (.fn g a b) = some [.fn g a b] := rfl
theorem cellsOf_yld {l : Nat} : cellsOf (.yld l) = some [.yld l] := rfl

/-! ### builtins -/
theorem opA_builtin {bi : Builtin} {as : Array Operand} {ts : Array TypeId} : opA P b σ ρ ⟨d, .call ⟨.builtin bi, as, ts⟩, ty, pos, af, g⟩ = builtinA P σ b bi ts (as.toList.map ρ) := rfl
theorem blt_len {v : AV} : builtinA P σ b .len #[t] [v] = effV (lenA P σ t v) := by show val _ = _; exact val_eff
def lenS (v : AV) : Option AV :=
  match v with
  | .f .nils => some (.f (.int .i64 0))
  | .f (.sl _ len _) => some (.f (.int .i64 len))
  | .sl _ _ len _ _ => some (.f (.int .i64 len))
  | _ => none
theorem lenS_nils : lenS (.f .nils) = some (.f (.int .i64 0)) := rfl
theorem lenS_f {cs : List FV} {n : Nat} {cl : Bool} : lenS (.f (.sl cs n cl)) = some (.f (.int .i64 n)) := rfl
theorem lenS_o {o off n esz : Nat} {cl : Bool} : lenS (.sl o off n esz cl) = some (.f (.int .i64 n)) := rfl
theorem lenA_s {n : Nat} (h : elT P t = some (none, n)) {v : AV} : lenA P σ t v = lenS v := by
  obtain ⟨elem, hu, hs⟩ := elT_sl h
  unfold lenA
  simp only [hu]
  cases v with
  | f v => cases v <;> rfl
  | _ => rfl
theorem blt_max {ts : Array TypeId} {as : List AV} : builtinA P σ b .max ts as = effV (mmA true as) := by
  show builtinA P σ b .max ts as = _
  unfold builtinA
  split <;> first | contradiction | (rw [val_eff]) | skip
  all_goals (try (rename_i h; cases h))
  all_goals simp_all
theorem blt_min {ts : Array TypeId} {as : List AV} : builtinA P σ b .min ts as = effV (mmA false as) := by
  show builtinA P σ b .min ts as = _
  unfold builtinA
  split <;> first | contradiction | (rw [val_eff]) | skip
  all_goals (try (rename_i h; cases h))
  all_goals simp_all
theorem mm_max {k k' : IntKind} {m n : Int} : mmA true [.f (.int k m), .f (.int k' n)] = some (.f (.int k (max m n))) := by
  simp only [mmA, List.foldl, mm2]
  congr 3
  by_cases h : n > m
  · simp [h]; omega
  · simp [h]; omega
theorem mm_min {k k' : IntKind} {m n : Int} : mmA false [.f (.int k m), .f (.int k' n)] = some (.f (.int k (min m n))) := by
  simp only [mmA, List.foldl, mm2]
  congr 3
  by_cases h : n < m
  · simp [h]; omega
  · simp [h]; omega

/-! ### binary operations on integers -/
theorem bin_lss {k : IntKind} {m n : Int} : binA P σ .lss t (.f (.int k m)) (.f (.int k n)) = some (.f (.bool (decide (m < n)))) := by cases k <;> rfl
theorem bin_leq {k : IntKind} {m n : Int} : binA P σ .leq t (.f (.int k m)) (.f (.int k n)) = some (.f (.bool (decide (m ≤ n)))) := by cases k <;> rfl
theorem bin_gtr {k : IntKind} {m n : Int} : binA P σ .gtr t (.f (.int k m)) (.f (.int k n)) = some (.f (.bool (decide (m > n)))) := by cases k <;> rfl
theorem bin_geq {k : IntKind} {m n : Int} : binA P σ .geq t (.f (.int k m)) (.f (.int k n)) = some (.f (.bool (decide (m ≥ n)))) := by cases k <;> rfl
theorem bin_eql {k : IntKind} {m n : Int} : binA P σ .eql t (.f (.int k m)) (.f (.int k n)) = some (.f (.bool (m == n))) := by cases k <;> rfl
theorem bin_neq {k : IntKind} {m n : Int} : binA P σ .neq t (.f (.int k m)) (.f (.int k n)) = some (.f (.bool (!(m == n)))) := by cases k <;> rfl
theorem bin_add {k : IntKind} {m n : Int} : binA P σ .add t (.f (.int k m)) (.f (.int k n)) = some (.f (.int k (k.wrap (m + n)))) := by cases k <;> rfl
theorem bin_sub {k : IntKind} {m n : Int} : binA P σ .sub t (.f (.int k m)) (.f (.int k n)) = some (.f (.int k (k.wrap (m - n)))) := by cases k <;> rfl
theorem bin_mul {k : IntKind} {m n : Int} : binA P σ .mul t (.f (.int k m)) (.f (.int k n)) = some (.f (.int k (k.wrap (m * n)))) := by cases k <;> rfl
theorem un_not {bb : Bool} : unA .not (.f (.bool bb)) = some (.f (.bool (!bb))) := rfl

end
end Go.AM

namespace Go.AM

theorem unF_nil : unF [] = some [] := rfl
theorem unF_cons {v : FV} {l : List AV} : unF (.f v :: l) = (unF l).map (v :: ·) := rfl

theorem unF_inv : ∀ {l : List AV} {l' : List FV}, unF l = some l' → l = l'.map .f
  | [], _, h => by cases h; rfl
  | .f v :: r, l', h => by
    simp only [unF] at h
    cases hr : unF r with
    | none => rw [hr] at h; cases h
    | some r' => rw [hr] at h; cases h; rw [unF_inv hr]; rfl
  | .sl .. :: _, _, h => by cases h
  | .ptr .. :: _, _, h => by cases h
  | .fn .. :: _, _, h => by cases h
  | .iface .. :: _, _, h => by cases h
  | .mp .. :: _, _, h => by cases h
  | .yld .. :: _, _, h => by cases h
  | .agg .. :: _, _, h => by cases h
  | .tup .. :: _, _, h => by cases h
  | .bot :: _, _, h => by cases h

section
variable {P : Program} {b : Nat} {σ : Nat → AObj} {ρ : Operand → AV} {d : Option Tmp} {ty : TypeId} {pos : String} {af : Array Edge} {g : Option (Nat × Bool)} {x y c : Operand} {t : TypeId}

/-- What is made of a slice type: the element's size and its zero cells (those without addresses), fit for make and append. -/
def mkT (P : Program) (t : TypeId) : Option (Nat × List FV) :=
  match P.underlying t with
  | some (.slice elem) =>
    match P.info? elem, (zeroA P elem).bind cellsOf with
    | some i, some z => match unF z with
      | some z' => if i.bytes ≤ 1024 ∧ 0 < i.bytes ∧ z.length = i.size ∧ 0 < i.size ∧ i.size ≤ 1024 ∧ (i.zero.map (·.cells.size)) = some i.size then some (i.size, z') else none
      | none => none
    | _, _ => none
  | _ => none

theorem mkT_some {n : Nat} {z : List FV} (h : mkT P t = some (n, z)) : ∃ elem i z0, P.underlying t = some (.slice elem) ∧ P.info? elem = some i ∧ (zeroA P elem).bind cellsOf = some z0 ∧ unF z0 = some z ∧
    i.bytes ≤ 1024 ∧ 0 < i.bytes ∧ z0.length = n ∧ 0 < n ∧ n ≤ 1024 ∧ (i.zero.map (·.cells.size)) = some n ∧ i.size = n ∧ sizeT P elem = some n := by
  unfold mkT at h
  split at h
  · rename_i elem hu
    split at h
    · rename_i i z0 hi hz
      split at h
      · rename_i z' hz'
        split at h
        · rename_i hc
          simp only [Option.some.injEq, Prod.mk.injEq] at h
          obtain ⟨rfl, rfl⟩ := h
          obtain ⟨h1, h2, h3, h4, h5, h6⟩ := hc
          exact ⟨elem, i, z0, hu, hi, hz, hz', h1, h2, h3, h4, h5, h6, rfl, by simp [sizeT, hi]⟩
        · cases h
      · cases h
    · cases h
  · cases h

def mkslV (b n : Nat) (z : List FV) (l c : AV) : Option Eff :=
  match l, c with
  | .f (.int _ l), .f (.int _ c) => if l = c ∧ 0 ≤ l ∧ l ≤ 65536 then some ⟨.sl b 0 l.toNat n false, [], [.arr (List.replicate l.toNat z).flatten true false]⟩ else none
  | _, _ => none
theorem mkslV_nat {n : Nat} {z : List FV} {k k' : IntKind} {l : Int} (h : 0 ≤ l ∧ l ≤ 65536) : mkslV b n z (.f (.int k l)) (.f (.int k' l)) = some ⟨.sl b 0 l.toNat n false, [], [.arr (List.replicate l.toNat z).flatten true false]⟩ := if_pos ⟨rfl, h⟩
theorem opA_makeSlice {n : Nat} {z : List FV} (h : mkT P t = some (n, z)) : opA P b σ ρ ⟨d, .makeSlice t x y, ty, pos, af, g⟩ = mkslV b n z (ρ x) (ρ y) := by
  obtain ⟨elem, i, z0, hu, hi, hz, hz', h1, h2, h3, h4, h5, h6, h7, h8⟩ := mkT_some h
  unfold opA
  simp only [hu]
  cases ρ x with
  | f v =>
    cases v with
    | int k l =>
      cases ρ y with
      | f v' =>
        cases v' with
        | int k' l' =>
          simp only [hi, hz, mkslV, h7, h3, h1, h4, hz', Option.bind_some, and_true]
        | _ => rfl
      | _ => rfl
    | _ => rfl
  | _ => rfl

/-- buildSlice of scalars. -/
def bslV (b n len : Nat) (cs : Option (List AV)) : Option Eff := match cs with | some cs => some ⟨.sl b 0 len n false, [], [mkObj cs]⟩ | none => none
theorem bslV_some {n len : Nat} {cs : List AV} : bslV b n len (some cs) = some ⟨.sl b 0 len n false, [], [mkObj cs]⟩ := rfl
theorem mkObj_map {l : List FV} : mkObj (l.map .f) = .arr l true false := by simp [mkObj, unF_map]
theorem mkObj_cons {v : FV} {l : List FV} : mkObj (.f v :: l.map .f) = .arr (v :: l) true false := mkObj_map (l := v :: l)
theorem opA_buildSlice {n : Nat} {z : List FV} {len : Nat} {ps : Array (Nat × Operand)} (h : mkT P t = some (n, z)) (hl : len * n ≤ 1024) : opA P b σ ρ ⟨d, .buildSlice t len ps, ty, pos, af, g⟩ =
    bslV b n len (fillA (fun i => some (i * n, n)) (repCells len (z.map .f)) (ps.toList.map fun (i, x) => (i, ρ x))) := by
  obtain ⟨elem, i, z0, hu, hi, hz, hz', h1, h2, h3, h4, h5, h6, h7, h8⟩ := mkT_some h
  have hz0 : z0 = z.map .f := unF_inv hz'
  unfold opA
  simp only [hu, h8, hz]
  rw [if_neg (fun hh => hh ⟨h3, h4, hl⟩)]
  rw [hz0]
  unfold bslV
  cases fillA (fun i => some (i * n, n)) (repCells len (z.map .f)) (ps.toList.map fun (i, x) => (i, ρ x)) <;> rfl
end
end Go.AM

namespace Go.AM

section
variable {P : Program} {b : Nat} {σ : Nat → AObj} {t : TypeId}

/-! ### append -/
/-- The elements that come at the end, out of a slice. -/
def comesS (σ : Nat → AObj) (x : AV) : Option (List FV × Nat) :=
  match x with
  | .f (.str s) => some (s.data.toList.map fun b => .int .u8 b.toNat, s.size)
  | x =>
    match viewS σ x with
    | some (_, new, n) => (unF new).map (·, n)
    | none => none
def appE (σ : Nat → AObj) (b n : Nat) (s : AV) (c : Option (List FV × Nat)) : Option Eff :=
  match c with
  | some (new, k) => appendA σ b n s new k
  | none => none
theorem appE_some {n k : Nat} {s : AV} {new : List FV} : appE σ b n s (some (new, k)) = appendA σ b n s new k := rfl
theorem blt_append {n : Nat} {z : List FV} {u : TypeId} {s x : AV} (h : mkT P t = some (n, z)) (hu : P.underlying u = P.underlying t) : builtinA P σ b .append #[t, u] [s, x] = appE σ b n s (comesS σ x) := by
  obtain ⟨elem, i, z0, hut, hi, hz, hz', h1, h2, h3, h4, h5, h6, h7, h8⟩ := mkT_some h
  have hc : comesA P σ elem u x = comesS σ x := by
    unfold comesA isIntT
    rw [hu, hut]
    simp only
    cases x with
    | f v => cases v <;> rfl
    | _ => rfl
  show (match P.underlying t with
    | some (.slice elem) =>
      match P.info? elem, comesA P σ elem u x with
      | some i, some (new, n) => if i.bytes ≤ 1024 ∧ 0 < i.bytes ∧ (i.zero.map fun (v : Value) => v.cells.size) = some i.size then appendA σ b i.size s new n else none
      | _, _ => none
    | _ => none) = _
  rw [hut]
  simp only [hi, hc]
  unfold appE
  cases comesS σ x with
  | none => rfl
  | some q =>
    obtain ⟨new, k⟩ := q
    simp only
    rw [h7, if_pos ⟨h1, h2, h6⟩]

theorem comesS_nils : comesS σ (.f .nils) = some ([], 0) := rfl
theorem comesS_f {cs : List FV} {n : Nat} {cl : Bool} : comesS σ (.f (.sl cs n cl)) = some (cs, n) := by
  simp [comesS, viewS, unF_map]
/-- What a slice of an object shows. -/
def cutS (cs : List FV) (off k : Nat) : List FV := (cs.drop off).take k
theorem cutS_all {cs : List FV} {k : Nat} (h : cs.length = k) : cutS cs 0 k = cs := by simp [cutS, ← h]
def comesO (x : AObj) (off len esz : Nat) : Option (List FV × Nat) :=
  match x with
  | .arr cs _ _ => some (cutS cs off (len * esz), len)
  | .frz cs => some (cutS cs off (len * esz), len)
  | .box cs => (unF ((cs.drop off).take (len * esz))).map (·, len)
  | _ => none
theorem comesS_o {o off n esz : Nat} {cl : Bool} : comesS σ (.sl o off n esz cl) = comesO (σ o) off n esz := by
  simp only [comesS, viewS, comesO, cutS]
  cases σ o with
  | arr cs _ _ => simp only [unF_map]; rfl
  | frz cs => simp only [unF_map]; rfl
  | box cs => rfl
  | _ => rfl
theorem comesO_arr {cs : List FV} {ex nl : Bool} {off len esz : Nat} : comesO (.arr cs ex nl) off len esz = some (cutS cs off (len * esz), len) := rfl
theorem comesO_frz {cs : List FV} {off len esz : Nat} : comesO (.frz cs) off len esz = some (cutS cs off (len * esz), len) := rfl

/-- Room for what comes. -/
structure AppOk (len n size : Nat) (cs new : List FV) : Prop where
  le : len + n ≤ 16777216
  old : cs.length = len * size
  new : new.length = n * size
  pos : 0 < size
  small : size ≤ 1024

theorem app_nils {size n : Nat} {new : List FV} (h : AppOk 0 n size [] new) : appendA σ b size (.f .nils) new n = some ⟨.sl b 0 n size false, [], [.arr new false (n == 0)]⟩ := by
  unfold appendA
  simp only [viewS, unF, fullF]
  rw [if_neg (fun hh => hh ⟨h.le, h.old, h.new, h.pos, h.small⟩)]
  simp
theorem app_grow {o len size n : Nat} {cs new : List FV} {nl : Bool} (ho : σ o = .arr cs false nl) (h : AppOk len n size cs new) (hn : 0 < n) :
    appendA σ b size (.sl o 0 len size false) new n = some ⟨.sl b 0 (len + n) size false, [(o, .dead)], [.arr (cs ++ new) false false]⟩ := by
  have hc : ((cs.drop 0).take (len * size)) = cs := by simp [← h.old]
  unfold appendA
  simp only [viewS, ho, hc, List.length_map, unF_map]
  rw [if_neg (fun hh => hh ⟨h.le, h.old, h.new, h.pos, h.small⟩)]
  have hn0 : (n == 0) = false := by simp; omega
  simp only [ne_eq, not_true_eq_false, if_false, Bool.false_eq_true, Bool.false_and]
  rw [if_neg (by rintro ⟨_, h2⟩; exact h2 ⟨trivial, h.old.symm⟩)]
  simp [hn0]
/-- The same where the capacity is known to be the length (a literal, make): the old one lives on. -/
theorem app_grow_ex {o len size n : Nat} {cs new : List FV} {nl : Bool} (ho : σ o = .arr cs true nl) (h : AppOk len n size cs new) (hn : 0 < n) :
    appendA σ b size (.sl o 0 len size false) new n = some ⟨.sl b 0 (len + n) size false, [], [.arr (cs ++ new) false false]⟩ := by
  have hc : ((cs.drop 0).take (len * size)) = cs := by simp [← h.old]
  unfold appendA
  simp only [viewS, ho, hc, List.length_map, unF_map]
  rw [if_neg (fun hh => hh ⟨h.le, h.old, h.new, h.pos, h.small⟩)]
  have hlt : cs.length < (len + n) * size := by
    rw [h.old]; exact Nat.mul_lt_mul_of_pos_right (by omega) h.pos
  simp only [ne_eq, not_true_eq_false, if_false, Bool.false_eq_true, Bool.true_and]
  rw [if_neg (by rintro ⟨_, h2⟩; exact h2 ⟨trivial, h.old.symm⟩)]
  simp [hlt]
theorem app_clip {o off len size n : Nat} {cs cs' new : List FV} {ex nl : Bool} (ho : σ o = .arr cs ex nl) (hc : cutS cs off (len * size) = cs') (h : AppOk len n size cs' new) (hn : 0 < n) :
    appendA σ b size (.sl o off len size true) new n = some ⟨.sl b 0 (len + n) size false, [], [.arr (cs' ++ new) false false]⟩ := by
  unfold cutS at hc
  unfold appendA
  simp only [viewS, ho, hc, List.length_map, unF_map]
  rw [if_neg (fun hh => hh ⟨h.le, h.old, h.new, h.pos, h.small⟩)]
  simp [Nat.pos_iff_ne_zero.1 hn]
theorem app_fclip {len size n : Nat} {cs new : List FV} (h : AppOk len n size cs new) (hl : 0 < len) (hn : 0 < n) :
    appendA σ b size (.f (.sl cs len true)) new n = some ⟨.sl b 0 (len + n) size false, [], [.arr (cs ++ new) false false]⟩ := by
  unfold appendA
  simp only [viewS, List.length_map, unF_map, fullF]
  rw [if_neg (fun hh => hh ⟨h.le, h.old, h.new, h.pos, h.small⟩)]
  simp [Nat.pos_iff_ne_zero.1 hn, Nat.pos_iff_ne_zero.1 hl]
theorem app_none {o off len size : Nat} {cs : List FV} {ex nl : Bool} (ho : σ o = .arr cs ex nl) (hc : (cutS cs off (len * size)).length = len * size) (hl : len ≤ 16777216) (hs : 0 < size) (hs2 : size ≤ 1024) :
    appendA σ b size (.sl o off len size true) [] 0 = some ⟨.sl o off len size true, [], []⟩ := by
  unfold cutS at hc
  unfold appendA
  simp only [viewS, ho, List.length_map, unF_map]
  rw [if_neg (fun hh => hh ⟨by simpa [appMax] using hl, hc, by simp, hs, hs2⟩)]
  simp
theorem app_empty_f {size n : Nat} {new : List FV} (h : AppOk 0 n size [] new) : appendA σ b size (.f (.sl [] 0 true)) new n = some ⟨.sl b 0 n size false, [], [.arr new false false]⟩ := by
  unfold appendA
  simp only [viewS, List.map_nil, unF, fullF]
  rw [if_neg (fun hh => hh ⟨h.le, h.old, h.new, h.pos, h.small⟩)]
  simp
end

/-! ### slicing -/
section
variable {P : Program} {b : Nat} {σ : Nat → AObj} {ρ : Operand → AV} {d : Option Tmp} {ty : TypeId} {pos : String} {af : Array Edge} {g : Option (Nat × Bool)} {x : Operand} {t : TypeId}
theorem opA_slice {n : Nat} {lo hi mx : Option Operand} (h : elT P t = some (none, n)) : opA P b σ ρ ⟨d, .slice t x lo hi mx, ty, pos, af, g⟩ = effV (sliceA σ n (ρ x) (lo.map ρ) (hi.map ρ) (mx.map ρ)) := by
  obtain ⟨elem, hu, hs⟩ := elT_sl h
  unfold opA
  simp only [hu, hs]
  exact val_eff
end

/-! ### build -/
section
variable {P : Program} {b : Nat} {σ : Nat → AObj} {ρ : Operand → AV} {d : Option Tmp} {ty : TypeId} {pos : String} {af : Array Edge} {g : Option (Nat × Bool)} {t : TypeId}
def fldP (P : Program) (t : TypeId) (i : Nat) : Option (Nat × Nat) :=
  match P.underlying t with
  | some (.struct fields) => (fields[i]?).bind fun fd => (sizeT P fd.type).map fun n => (fd.offset, n)
  | _ => none
def bldOk (P : Program) (t : TypeId) : Bool :=
  match P.underlying t with
  | some (.struct fields) => fields.all fun fd => (sizeT P fd.type).isSome
  | _ => false
def bldV (x : Option (List AV)) : Option Eff := match x with | some cs => some ⟨.agg cs, [], []⟩ | none => none
theorem bldV_some {cs : List AV} : bldV (some cs) = some ⟨.agg cs, [], []⟩ := rfl
theorem opA_build {z : List AV} {ps : Array (Nat × Operand)} (hz : zeroC P t = some z) (ho : bldOk P t = true) :
    opA P b σ ρ ⟨d, .build t ps, ty, pos, af, g⟩ = bldV (fillA (fldP P t) z (ps.toList.map fun (i, x) => (i, ρ x))) := by
  unfold bldOk at ho
  unfold zeroC at hz
  split at ho
  · rename_i fields hu
    have hp : fldP P t = fun i => (fields[i]?).bind fun fd => (sizeT P fd.type).map fun n => (fd.offset, n) := by
      funext i; simp only [fldP, hu]
    unfold opA
    simp only [hz, hu, ho, if_true, hp]
    cases fillA (fun i => (fields[i]?).bind fun fd => (sizeT P fd.type).map fun n => (fd.offset, n)) z (ps.toList.map fun (i, x) => (i, ρ x)) <;> rfl
  · cases ho
theorem opA_buildA {z : List AV} {n len : Nat} {ps : Array (Nat × Operand)} (hz : zeroC P t = some z) (h : elT P t = some (some len, n)) :
    opA P b σ ρ ⟨d, .build t ps, ty, pos, af, g⟩ = bldV (fillA (fun i => some (i * n, n)) z (ps.toList.map fun (i, x) => (i, ρ x))) := by
  obtain ⟨elem, hu, hs⟩ := elT_arr h
  unfold zeroC at hz
  unfold opA
  simp only [hz, hu, hs]
  cases fillA (fun i => some (i * n, n)) z (ps.toList.map fun (i, x) => (i, ρ x)) <;> rfl
end
end Go.AM

namespace Go.AM

section
variable {C : Knot} {E : Env} {b : Nat} {σ : Nat → AObj} {ρ : Operand → AV} {Y : List Ctx} {h : Operand} {as : Array Operand} {ts : Array TypeId}

/-- What is called, by value. -/
def dispV (C : Knot) (E : Env) (b : Nat) (σ : Nat → AObj) (v : AV) (args : List AV) (Y : List Ctx) : Option (Eff × List Ctx) :=
  match v with
  | .fn g x y => doCall C E b σ g (x ++ args ++ y) Y
  | .f (.fn g x y) => doCall C E b σ g (x.map ofFV ++ args ++ y.map ofFV) Y
  | .yld lvl => doYield C b σ lvl args Y
  | _ => none
theorem callOp_disp : callOp C E b σ ρ ⟨.value h, as, ts⟩ Y = dispV C E b σ (ρ h) (as.toList.map ρ) Y := rfl
theorem disp_f {g : FuncId} {args : List AV} : dispV C E b σ (.f (.fn g [] [])) args Y = doCall C E b σ g args Y := by
  show doCall C E b σ g ([].map ofFV ++ args ++ [].map ofFV) Y = _; simp
theorem disp_ff {g : FuncId} {x y : List FV} {args : List AV} : dispV C E b σ (.f (.fn g x y)) args Y = doCall C E b σ g (x.map ofFV ++ args ++ y.map ofFV) Y := rfl
theorem disp_fn {g : FuncId} {x y : List AV} {args : List AV} : dispV C E b σ (.fn g x y) args Y = doCall C E b σ g (x ++ args ++ y) Y := rfl
theorem disp_yld {l : Nat} {args : List AV} : dispV C E b σ (.yld l) args Y = doYield C b σ l args Y := rfl

/-- The answer of a call without references. -/
def retP (b : Nat) (x : Option (AV × List AObj × List Ctx)) : Option (Eff × List Ctx) :=
  match x with
  | some (r, objs, Y') => some (⟨shiftR b r, [], objs.map fun x => x.ren fun y => some (b + y)⟩, Y')
  | none => none
theorem retP_some {r : AV} {objs : List AObj} : retP b (some (r, objs, Y)) = some (⟨shiftR b r, [], objs.map fun x => x.ren fun y => some (b + y)⟩, Y) := rfl
theorem doCall_p {g : FuncId} {args : List AV} (hr : AV.refsL args = []) : doCall C E b σ g args Y = retP b (C.call g args [] Y) := by
  unfold doCall
  rw [if_pos hr]
  rfl
def brK (C : Knot) (b : Nat) (g : FuncId) (z : Option (List FV × List AObj)) (Y : List Ctx) : Option (Eff × List Ctx) :=
  match z with
  | some (fs, _) =>
    match C.call g (fs.map ofFV) [] [] with
    | some (r, objs, _) => if r.noMem && objs.all AObj.noMem then some (⟨shiftR b r, [], objs.map fun x => x.ren fun y => some (b + y)⟩, Y) else none
    | none => none
  | none => none
def brR (b : Nat) (x : Option (AV × List AObj × List Ctx)) (Y : List Ctx) : Option (Eff × List Ctx) :=
  match x with
  | some (r, objs, _) => if r.noMem && objs.all AObj.noMem then some (⟨shiftR b r, [], objs.map fun x => x.ren fun y => some (b + y)⟩, Y) else none
  | none => none
theorem brK_some {g : FuncId} {fs : List FV} {σ1 : List AObj} : brK C b g (some (fs, σ1)) Y = brR b (C.call g (fs.map ofFV) [] []) Y := rfl
theorem brR_some {r : AV} {objs : List AObj} {Y' : List Ctx} (hm : (r.noMem && objs.all AObj.noMem) = true) : brR b (some (r, objs, Y')) Y = some (⟨shiftR b r, [], objs.map fun x => x.ren fun y => some (b + y)⟩, Y) := if_pos hm
theorem doCall_br {g : FuncId} {args : List AV} {m : Bool} (hr : (AV.refsL args).isEmpty = false) (hm : E.cfg g = ⟨.br, m⟩) : doCall C E b σ g args Y = brK C b g (freezeL args (toList' σ b)) Y := by
  unfold doCall
  rw [if_neg (by intro h; rw [h] at hr; cases hr)]
  simp only [hm]
  rfl
def fzK (C : Knot) (b : Nat) (σ : Nat → AObj) (g : FuncId) (z : Option (List FV × List AObj)) (Y : List Ctx) : Option (Eff × List Ctx) :=
  match z with
  | some (fs, σ1) =>
    match C.call g (fs.map ofFV) [] Y with
    | some (r, objs, Y') => some (⟨shiftR b r, wrOf (toList' σ b) σ1, objs.map fun x => x.ren fun y => some (b + y)⟩, Y')
    | none => none
  | none => none
def fzR (b : Nat) (w : List (Nat × AObj)) (x : Option (AV × List AObj × List Ctx)) : Option (Eff × List Ctx) :=
  match x with
  | some (r, objs, Y') => some (⟨shiftR b r, w, objs.map fun x => x.ren fun y => some (b + y)⟩, Y')
  | none => none
theorem fzK_some {g : FuncId} {fs : List FV} {σ1 : List AObj} : fzK C b σ g (some (fs, σ1)) Y = fzR b (wrOf (toList' σ b) σ1) (C.call g (fs.map ofFV) [] Y) := rfl
theorem fzR_some {r : AV} {objs : List AObj} {w : List (Nat × AObj)} : fzR b w (some (r, objs, Y)) = some (⟨shiftR b r, w, objs.map fun x => x.ren fun y => some (b + y)⟩, Y) := rfl
theorem doCall_fz {g : FuncId} {args : List AV} {m : Bool} (hr : (AV.refsL args).isEmpty = false) (hm : E.cfg g = ⟨.fz, m⟩) : doCall C E b σ g args Y = fzK C b σ g (freezeL args (toList' σ b)) Y := by
  unfold doCall
  rw [if_neg (by intro h; rw [h] at hr; cases hr)]
  simp only [hm]
  rfl
def mvK (C : Knot) (b : Nat) (σ : Nat → AObj) (g : FuncId) (args : List AV) (ids : List Nat) (Y : List Ctx) : Option (Eff × List Ctx) :=
  if ids.all (fun i => Nat.blt i b) = false then none else
    match C.call g (AV.renL (fun x => posIn ids x 0) args) (ids.map fun o => (σ o).ren (fun x => posIn ids x 0)) Y with
    | some (r, objs, Y') =>
      let back := objs.map fun x => x.ren (backR ids b)
      some (⟨r.ren (backR ids b), ids.zip back, back.drop ids.length⟩, Y')
    | none => none
def mvR (b : Nat) (ids : List Nat) (x : Option (AV × List AObj × List Ctx)) : Option (Eff × List Ctx) :=
  match x with
  | some (r, objs, Y') => some (⟨r.ren (backR ids b), ids.zip (objs.map fun x => x.ren (backR ids b)), (objs.map fun x => x.ren (backR ids b)).drop ids.length⟩, Y')
  | none => none
theorem mvR_some {ids : List Nat} {r : AV} {objs : List AObj} : mvR b ids (some (r, objs, Y)) = some (⟨r.ren (backR ids b), ids.zip (objs.map fun x => x.ren (backR ids b)), (objs.map fun x => x.ren (backR ids b)).drop ids.length⟩, Y) := rfl
theorem mvK_ok {g : FuncId} {args : List AV} {ids : List Nat} (hi : (ids.all fun i => Nat.blt i b) = true) :
    mvK C b σ g args ids Y = mvR b ids (C.call g (AV.renL (fun x => posIn ids x 0) args) (ids.map fun o => (σ o).ren (fun x => posIn ids x 0)) Y) := by
  unfold mvK
  rw [hi]
  rfl
theorem doCall_mv {g : FuncId} {args : List AV} {m : Bool} (hr : (AV.refsL args).isEmpty = false) (hm : E.cfg g = ⟨.mv, m⟩) : doCall C E b σ g args Y = mvK C b σ g args (reach σ reachFuel (AV.refsL args) []) Y := by
  unfold doCall
  rw [if_neg (by intro h; rw [h] at hr; cases hr)]
  simp only [hm]
  rfl
end

/-! ### functions -/
section
variable {E : Env} {g : FuncId} {fn : Func} {c : Code} {args : List AV} {σ : List AObj} {Y : List Ctx}

/-- A function's results. -/
def resL (P : Program) (T : Tmps) (σ : List AObj) : List ResultVar → Option (List AV)
  | [] => some []
  | .tmp t :: r => (resL P T σ r).map (getT T t :: ·)
  | .cell a t :: r => match loadA P (atO σ) t (getT T a) with | some v => (resL P T σ r).map (v :: ·) | none => none
theorem resA_L {st : St} : resA E.P fn st = resL E.P st.tmps st.σ fn.results.toList := by
  unfold resA
  generalize fn.results.toList = l
  induction l with
  | nil => rfl
  | cons a l ih =>
    cases a with
    | tmp t =>
      simp only [List.mapM_cons, resL, ← ih]
      cases (List.mapM (m := Option) _ l) <;> rfl
    | cell a t =>
      simp only [List.mapM_cons, resL, ← ih]
      cases loadA E.P (atO st.σ) t (getT st.tmps a) with
      | none => rfl
      | some v =>
        simp only
        cases (List.mapM (m := Option) _ l) <;> rfl

/-- What is left to a function's end. -/
def gcR (n : Nat) (Y : List Ctx) (x : Option (List AV × List AObj)) : Option (AV × List AObj × List Ctx) :=
  match x with
  | some (vs, σ1) => some ((one vs).ren (fun x => posIn (gcIds σ1 n (AV.refsL vs)) x 0), gcS σ1 (gcIds σ1 n (AV.refsL vs)), Y)
  | none => none
def fzRes (fz : Bool) (σ : List AObj) (x : Option (List AV)) : Option (List AV × List AObj) :=
  match x with
  | some vs => bif fz then freezeRes vs σ else some (vs, σ)
  | none => none
def finK (E : Env) (g : FuncId) (res : List ResultVar) (n : Nat) (x : Out) : Option (AV × List AObj × List Ctx) :=
  match x with
  | some (.exit _, _, _) => none
  | none => none
  | some (_, st, Y) => gcR n Y (fzRes (E.cfg g).retFz st.σ (resL E.P st.tmps st.σ res))
theorem finK_norm {res : List ResultVar} {n p : Nat} {T : Tmps} : finK E g res n (some (.norm, ⟨T, σ, p⟩, Y)) = gcR n Y (fzRes (E.cfg g).retFz σ (resL E.P T σ res)) := rfl
theorem finK_ret {res : List ResultVar} {n p : Nat} {T : Tmps} : finK E g res n (some (.ret, ⟨T, σ, p⟩, Y)) = gcR n Y (fzRes (E.cfg g).retFz σ (resL E.P T σ res)) := rfl
theorem finK_none {res : List ResultVar} {n : Nat} : finK E g res n none = none := rfl
theorem fzRes_no {vs : List AV} : fzRes false σ (some vs) = some (vs, σ) := rfl
theorem fzRes_fz {vs : List AV} : fzRes true σ (some vs) = freezeRes vs σ := rfl
theorem gcR_some {n : Nat} {vs : List AV} {σ1 : List AObj} : gcR n Y (some (vs, σ1)) = some ((one vs).ren (fun x => posIn (gcIds σ1 n (AV.refsL vs)) x 0), gcS σ1 (gcIds σ1 n (AV.refsL vs)), Y) := rfl

theorem body_run (C : Knot) (hf : E.fn g = some fn) (hb : fn.body = some c) (hs : σ.length ≤ 400) (ha : args.length ≤ fn.ntmps) :
    bodyA C E g args σ Y = finK E g fn.results.toList σ.length (runK C E g [.code 0 c] .norm ⟨argT 0 args, σ, σ.length⟩ Y) := by
  unfold bodyA
  simp only [hf, hb]
  rw [if_neg (by unfold reachFuel; omega), evA_run]
  cases runK C E g [.code 0 c] .norm ⟨argT 0 args, σ, σ.length⟩ Y with
  | none => rfl
  | some q =>
    obtain ⟨e, st, Y'⟩ := q
    have key : (match resA E.P fn st with
        | none => none
        | some vs =>
          match (bif (E.cfg g).retFz then freezeRes vs st.σ else some (vs, st.σ)) with
          | none => none
          | some (vs, σ1) => some ((one vs).ren (fun x => posIn (gcIds σ1 σ.length (AV.refsL vs)) x 0), gcS σ1 (gcIds σ1 σ.length (AV.refsL vs)), Y')) =
        gcR σ.length Y' (fzRes (E.cfg g).retFz st.σ (resL E.P st.tmps st.σ fn.results.toList)) := by
      rw [resA_L]
      cases resL E.P st.tmps st.σ fn.results.toList with
      | none => rfl
      | some vs =>
        simp only [fzRes]
        cases (bif (E.cfg g).retFz then freezeRes vs st.σ else some (vs, st.σ)) <;> rfl
    cases e with
    | norm => exact key
    | ret => exact key
    | exit id => rfl

theorem call_run {res : List ResultVar} (hf : E.fn g = some fn) (hb : fn.body = some c) (hr : fn.results.toList = res) (hs : σ.length ≤ 400) (ha : args.length ≤ fn.ntmps) :
    (limK E).call g args σ Y = finK E g res σ.length (runK (limK E) E g [.code 0 c] .norm ⟨argT 0 args, σ, σ.length⟩ Y) := by
  subst hr; rw [limK_call_eq]; exact body_run _ hf hb hs ha

/-- A round of a loop, and what is behind it. -/
def backK (C : Knot) (f blk : Nat) (b : Code) (x : Out) : Out :=
  match x with
  | some (.norm, st, Y) => C.loop f blk b st Y
  | r => r
theorem backK_norm {C : Knot} {f blk : Nat} {b : Code} {st : St} : backK C f blk b (some (.norm, st, Y)) = C.loop f blk b st Y := rfl
theorem backK_exit {C : Knot} {f blk i : Nat} {b : Code} {st : St} : backK C f blk b (some (.exit i, st, Y)) = some (.exit i, st, Y) := rfl
theorem backK_ret {C : Knot} {f blk : Nat} {b : Code} {st : St} : backK C f blk b (some (.ret, st, Y)) = some (.ret, st, Y) := rfl
theorem backK_none {C : Knot} {f blk : Nat} {b : Code} : backK C f blk b none = none := rfl
theorem loop_run {f blk : Nat} {b : Code} {st : St} : (limK E).loop f blk b st Y = backK (limK E) f blk b (runK (limK E) E f [.code blk b] .norm (normA (E.loops f blk) st) Y) := by
  rw [limK_loop_eq]
  unfold loopA backK
  rw [evA_run]
  cases runK (limK E) E f [.code blk b] .norm (normA (E.loops f blk) st) Y with
  | none => rfl
  | some q => obtain ⟨e, st', Y'⟩ := q; cases e <;> rfl
end
end Go.AM
