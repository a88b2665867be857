/-
Equations of drawn regions, calls, generators; the set of rewriting rules.
-/
import Derived.Test.YtgahfnebfpmbpaaGreatMA6
set_option linter.unusedVariables false
set_option linter.unusedSimpArgs false
namespace Go.AM

def wrOk : List (Nat × AObj) → Nat → Bool
  | [], _ => true
  | (o, _) :: r, n => Nat.blt o n && wrOk r n
theorem wrOk_all (w : List (Nat × AObj)) (n : Nat) : (w.all fun q => Nat.blt q.1 n) = wrOk w n := by
  induction w with
  | nil => rfl
  | cons a w ih => obtain ⟨o, x⟩ := a; simp [wrOk, ih]
theorem wrOk_nil {n : Nat} : wrOk [] n = true := rfl
theorem wrOk_cons {o n : Nat} {x : AObj} {r : List (Nat × AObj)} (h : o < n) : wrOk ((o, x) :: r) n = wrOk r n := by
  have : Nat.blt o n = true := by simpa using h
  simp [wrOk, this]

def newIds : Nat → List AObj → List Nat
  | _, [] => []
  | b, _ :: r => b :: newIds (b + 1) r
theorem newIds_eq (l : List AObj) : ∀ b, (List.range l.length).map (b + ·) = newIds b l := by
  induction l with
  | nil => intro b; rfl
  | cons a l ih =>
    intro b
    simp only [List.length_cons, newIds, ← ih, List.range_succ_eq_map, List.map_cons, List.map_map]
    congr 1
    apply List.map_congr_left
    intro x _
    simp; omega

def padN : List AObj → List AObj
  | [] => [.dead]
  | l => l
def fsts : List (Nat × AObj) → List Nat
  | [] => []
  | (o, _) :: r => o :: fsts r
theorem fsts_eq (w : List (Nat × AObj)) : w.map (·.1) = fsts w := by
  induction w with
  | nil => rfl
  | cons a w ih => obtain ⟨o, x⟩ := a; simp [fsts, ih]

def drwEnd (c : Bool) (x : Out) : Out := bif c then x else none
theorem drwEnd_ok {c : Bool} {x : Out} (h : c = true) : drwEnd c x = x := by subst h; rfl

def opT : List Operand → List Nat
  | [] => []
  | .tmp t :: r => t :: opT r
  | _ :: r => opT r
theorem opTmps_eq {o : Oper} : opTmps o = opT o.op.operands.toList := by
  unfold opTmps
  generalize o.op.operands.toList = l
  induction l with
  | nil => rfl
  | cons a l ih => cases a <;> simp [opT, ← ih]

section
variable {C : Knot} {E : Env} {f : Nat} {k : List Fr} {T : Tmps} {σ : List AObj} {p : Nat} {Y : List Ctx} {all : Array Oper} {r : List Oper} {fs : List Foot} {dst : Option Tmp} {ty : TypeId} {pos : String} {af : Array Edge}

theorem run_drw_nil {st : St} : runK C E f (.drw all [] fs :: k) .norm st Y = drwEnd (drawChk all fs.reverse) (runK C E f k .norm st Y) := by
  simp only [runK, opsDrawA, drwEnd]
  cases drawChk all fs.reverse <;> rfl

def dEff (C : Knot) (E : Env) (f : FuncId) (dst : Option Tmp) (x : Option Eff) (see : List Nat) (call : Bool) (all : Array Oper) (r : List Oper) (fs : List Foot) (k : List Fr) (T : Tmps) (σ : List AObj) (p : Nat) (Y : List Ctx) : Out :=
  match x with
  | some ⟨v, w, n⟩ => bif wrOk w σ.length then runK C E f (.drw all r (⟨see, fsts w ++ newIds σ.length n, call⟩ :: fs) :: k) .norm ⟨putDst T dst v, putWr σ w ++ padN n, p⟩ Y else none
  | none => none
theorem dEff_val {v : AV} {see : List Nat} {call : Bool} : dEff C E f dst (some ⟨v, [], []⟩) see call all r fs k T σ p Y = runK C E f (.drw all r (⟨see, [], call⟩ :: fs) :: k) .norm ⟨putDst T dst v, σ ++ [.dead], p⟩ Y := by
  simp [dEff, wrOk, putWr, padN, fsts, newIds]
theorem dEff_new {v : AV} {see : List Nat} {call : Bool} {x : AObj} {n : List AObj} : dEff C E f dst (some ⟨v, [], x :: n⟩) see call all r fs k T σ p Y = runK C E f (.drw all r (⟨see, σ.length :: newIds (σ.length + 1) n, call⟩ :: fs) :: k) .norm ⟨putDst T dst v, σ ++ (x :: n), p⟩ Y := by
  simp [dEff, wrOk, putWr, padN, fsts, newIds]
theorem dEff_wr {v : AV} {see : List Nat} {call : Bool} {o : Nat} {x : AObj} {w : List (Nat × AObj)} {n : List AObj} (h : wrOk ((o, x) :: w) σ.length = true) : dEff C E f dst (some ⟨v, (o, x) :: w, n⟩) see call all r fs k T σ p Y =
    runK C E f (.drw all r (⟨see, (o :: fsts w) ++ newIds σ.length n, call⟩ :: fs) :: k) .norm ⟨putDst T dst v, putWr σ ((o, x) :: w) ++ padN n, p⟩ Y := by
  simp [dEff, h, fsts]
theorem dEff_none {see : List Nat} {call : Bool} : dEff C E f dst none see call all r fs k T σ p Y = none := rfl

theorem stepA_op {op : Op} {b : Nat} {s : Nat → AObj} {ρ : Operand → AV} {g : Option (Nat × Bool)} (h : isCallOp op = false) : stepA C E b s ρ ⟨dst, op, ty, pos, af, g⟩ Y =
    match opA E.P b s ρ ⟨dst, op, ty, pos, af, g⟩ with
    | some e => bif wrOk e.wr b then some (e, Y) else none
    | none => none := by
  have h0 : step0 C E b s ρ ⟨dst, op, ty, pos, af, g⟩ Y = (opA E.P b s ρ ⟨dst, op, ty, pos, af, g⟩).map (·, Y) := by
    unfold step0
    split
    · rename_i c hc
      simp only at hc
      subst hc
      split
      · rfl
      · rename_i hb
        cases c with
        | mk callee as ts =>
          cases callee with
          | builtin b => exact absurd rfl (hb b)
          | value _ => simp [isCallOp] at h
          | invoke _ _ => simp [isCallOp] at h
    · rfl
  simp only [stepA, h0]
  cases opA E.P b s ρ ⟨dst, op, ty, pos, af, g⟩ with
  | none => rfl
  | some e => simp only [Option.map_some, wrOk_all]

theorem pad_apply {T : Tmps} {σ : List AObj} {v : AV} {w : List (Nat × AObj)} {n : List AObj} : applyE T σ dst (padE ⟨v, w, n⟩) = (putDst T dst v, putWr σ w ++ padN n) := by
  cases n <;> rfl

theorem run_drw_op {op : Op} (h : isCallOp op = false) : runK C E f (.drw all (⟨dst, op, ty, pos, af, none⟩ :: r) fs :: k) .norm ⟨T, σ, p⟩ Y =
    dEff C E f dst (opA E.P σ.length (maskO (atO σ) (reach (atO σ) reachFuel (operRefs (evalR T (opT op.operands.toList)) ⟨dst, op, ty, pos, af, none⟩) [])) (evalR T (opT op.operands.toList)) ⟨dst, op, ty, pos, af, none⟩)
      (reach (atO σ) reachFuel (operRefs (evalR T (opT op.operands.toList)) ⟨dst, op, ty, pos, af, none⟩) []) false all r fs k T σ p Y := by
  simp only [runK, opsDrawA, wantA, opTmps_eq, stepA_op h, dEff, h]
  cases opA E.P σ.length (maskO (atO σ) (reach (atO σ) reachFuel (operRefs (evalR T (opT op.operands.toList)) ⟨dst, op, ty, pos, af, none⟩) [])) (evalR T (opT op.operands.toList)) ⟨dst, op, ty, pos, af, none⟩ with
  | none => rfl
  | some e =>
    obtain ⟨v, w, n⟩ := e
    simp only
    cases wrOk w σ.length with
    | false => rfl
    | true => simp only [cond_true, pad_apply, fsts_eq, newIds_eq]

def dEffY (C : Knot) (E : Env) (f : FuncId) (dst : Option Tmp) (x : Option (Eff × List Ctx)) (see : List Nat) (all : Array Oper) (r : List Oper) (fs : List Foot) (k : List Fr) (T : Tmps) (σ : List AObj) (p : Nat) : Out :=
  match x with
  | some (e, Y) => dEff C E f dst (some e) see true all r fs k T σ p Y
  | none => none
theorem dEffY_some {e : Eff} {see : List Nat} : dEffY C E f dst (some (e, Y)) see all r fs k T σ p = dEff C E f dst (some e) see true all r fs k T σ p Y := rfl
theorem dEffY_none {see : List Nat} : dEffY C E f dst none see all r fs k T σ p = none := rfl

theorem run_drw_call {h : Operand} {as : Array Operand} {ts : Array TypeId} : runK C E f (.drw all (⟨dst, .call ⟨.value h, as, ts⟩, ty, pos, af, none⟩ :: r) fs :: k) .norm ⟨T, σ, p⟩ Y =
    dEffY C E f dst (callOp C E σ.length (maskO (atO σ) (reach (atO σ) reachFuel (AV.refsL ((h :: as.toList).map (evalR T (opT (h :: as.toList))))) [])) (evalR T (opT (h :: as.toList))) ⟨.value h, as, ts⟩ Y)
      (reach (atO σ) reachFuel (AV.refsL ((h :: as.toList).map (evalR T (opT (h :: as.toList))))) []) all r fs k T σ p := by
  have ho : (Op.call ⟨.value h, as, ts⟩).operands.toList = h :: as.toList := by show (#[h] ++ as).toList = _; simp
  have hr : ∀ ρ, operRefs ρ ⟨dst, .call ⟨.value h, as, ts⟩, ty, pos, af, none⟩ = AV.refsL ((h :: as.toList).map ρ) := fun ρ => by
    show AV.refsL ((#[h] ++ as).toList.map ρ) = _; simp
  simp only [runK, opsDrawA, wantA, opTmps_eq, ho, hr, stepA, step0, dEffY]
  cases callOp C E σ.length (maskO (atO σ) (reach (atO σ) reachFuel (AV.refsL ((h :: as.toList).map (evalR T (opT (h :: as.toList))))) [])) (evalR T (opT (h :: as.toList))) ⟨.value h, as, ts⟩ Y with
  | none => rfl
  | some q =>
    obtain ⟨⟨v, w, n⟩, Y'⟩ := q
    simp only [dEff, wrOk_all]
    cases wrOk w σ.length with
    | false => rfl
    | true => simp only [cond_true, pad_apply, fsts_eq, newIds_eq]; rfl

theorem run_drw_guard {op : Op} {j d : Nat} {want : Bool} (hj : (all[j]?).bind (·.dst) = some d) :
    runK C E f (.drw all (⟨dst, op, ty, pos, af, some (j, want)⟩ :: r) fs :: k) .norm ⟨T, σ, p⟩ Y =
    wantK (getT T d) want (runK C E f (.drw all (⟨dst, op, ty, pos, af, none⟩ :: r) fs :: k) .norm ⟨T, σ, p⟩ Y)
      (runK C E f (.drw all r (⟨[], [], false⟩ :: fs) :: k) .norm ⟨putDst T dst (.tup []), σ, p⟩ Y) := by
  simp only [runK, opsDrawA, wantA, hj]
  cases hg : getT T d with
  | f v => cases v with
    | bool b =>
      simp only [wantK]
      cases (b == want) <;> rfl
    | _ => rfl
  | tup l => cases l <;> rfl
  | _ => rfl

/-- The answer that a guard looks at. -/
def guardL : List Oper → Nat → Option Nat
  | [], _ => none
  | o :: _, 0 => o.dst
  | _ :: r, n + 1 => guardL r n
theorem guardL_eq (l : List Oper) : ∀ j, (l[j]?).bind (·.dst) = guardL l j := by
  induction l with
  | nil => intro j; rfl
  | cons a l ih => intro j; cases j with
    | zero => rfl
    | succ j => simpa [guardL] using ih j
theorem guardL_zero {d : Option Tmp} {op : Op} {g : Option (Nat × Bool)} {l : List Oper} : guardL (⟨d, op, ty, pos, af, g⟩ :: l) 0 = d := rfl
theorem guardL_succ {o : Oper} {l : List Oper} {n : Nat} : guardL (o :: l) (n + 1) = guardL l n := rfl
def wantG (d : Option Nat) (T : Tmps) (want : Bool) (x y : Out) : Out :=
  match d with
  | some d => wantK (getT T d) want x y
  | none => y
theorem wantG_some {d : Nat} {want : Bool} {x y : Out} : wantG (some d) T want x y = wantK (getT T d) want x y := rfl
theorem run_drw_g {op : Op} {j : Nat} {want : Bool} :
    runK C E f (.drw all (⟨dst, op, ty, pos, af, some (j, want)⟩ :: r) fs :: k) .norm ⟨T, σ, p⟩ Y =
    wantG (guardL all.toList j) T want (runK C E f (.drw all (⟨dst, op, ty, pos, af, none⟩ :: r) fs :: k) .norm ⟨T, σ, p⟩ Y)
      (runK C E f (.drw all r (⟨[], [], false⟩ :: fs) :: k) .norm ⟨putDst T dst (.tup []), σ, p⟩ Y) := by
  have he : (all[j]?).bind (·.dst) = guardL all.toList j := by rw [← guardL_eq]; simp
  cases hd : guardL all.toList j with
  | some d => rw [wantG_some]; exact run_drw_guard (he.trans hd)
  | none =>
    have he' := he.trans hd
    simp only [runK, opsDrawA, wantA, he', wantG]
theorem run_g {op : Op} {j : Nat} {want : Bool} :
    runK C E f (.ops all (⟨dst, op, ty, pos, af, some (j, want)⟩ :: r) :: k) .norm ⟨T, σ, p⟩ Y =
    wantG (guardL all.toList j) T want (runK C E f (.ops all (⟨dst, op, ty, pos, af, none⟩ :: r) :: k) .norm ⟨T, σ, p⟩ Y)
      (runK C E f (.ops all r :: k) .norm ⟨putDst T dst (.tup []), σ, p⟩ Y) := by
  have he : (all[j]?).bind (·.dst) = guardL all.toList j := by rw [← guardL_eq]; simp
  cases hd : guardL all.toList j with
  | some d => rw [wantG_some]; exact run_guard (he.trans hd)
  | none =>
    have he' := he.trans hd
    simp only [runK, opsA, wantA, he', wantG]
theorem effK_w {v : AV} {o : Nat} {x : AObj} {w : List (Nat × AObj)} {n : List AObj} {fr : List Fr} (h : wrOk ((o, x) :: w) σ.length = true) : effK C E f dst (some ⟨v, (o, x) :: w, n⟩) fr T σ p Y =
    runK C E f fr .norm ⟨putDst T dst v, putWr σ ((o, x) :: w) ++ n, p⟩ Y := by
  simp only [effK, wrOk_all, h, cond_true]
theorem effYK_w {v : AV} {w : List (Nat × AObj)} {n : List AObj} {fr : List Fr} (h : wrOk w σ.length = true) : effYK C E f dst (some (⟨v, w, n⟩, Y)) fr T σ p =
    runK C E f fr .norm ⟨putDst T dst v, putWr σ w ++ n, p⟩ Y := by
  simp only [effYK, wrOk_all, h, cond_true]
theorem maskO_in {s : Nat → AObj} {ids : List Nat} {o : Nat} : maskO s ids o = bif ids.contains o then s o else .dead := rfl
theorem evalR_tmp {l : List Nat} {t : Nat} : evalR T l (.tmp t) = bif l.contains t then getT T t else .bot := rfl
theorem evalR_const {l : List Nat} {v : Value} : evalR T l (.const v) = evalO [] (.const v) := rfl
theorem evalR_func {l : List Nat} {g : FuncId} : evalR T l (.func g) = .f (.fn g [] []) := rfl
theorem opT_nil : opT [] = [] := rfl
theorem opT_tmp {t : Nat} {l : List Operand} : opT (.tmp t :: l) = t :: opT l := rfl
theorem opT_const {v : Value} {l : List Operand} : opT (.const v :: l) = opT l := rfl
theorem opT_func {g : FuncId} {l : List Operand} : opT (.func g :: l) = opT l := rfl
theorem newIds_nil {b : Nat} : newIds b [] = [] := rfl
theorem newIds_cons {b : Nat} {x : AObj} {l : List AObj} : newIds b (x :: l) = b :: newIds (b + 1) l := rfl
theorem padN_nil : padN [] = [.dead] := rfl
theorem padN_cons {x : AObj} {l : List AObj} : padN (x :: l) = x :: l := rfl
theorem fsts_nil : fsts [] = [] := rfl
theorem fsts_cons {o : Nat} {x : AObj} {l : List (Nat × AObj)} : fsts ((o, x) :: l) = o :: fsts l := rfl
theorem backK_drw {C : Knot} {f blk : Nat} {b : Code} {c : Bool} {x : Out} : backK C f blk b (drwEnd c x) = drwEnd c (backK C f blk b x) := by cases c <;> rfl
theorem contK_drw {c : Bool} {x : Out} : contK C E f (drwEnd c x) k = drwEnd c (contK C E f x k) := by cases c <;> rfl
theorem drw_drw {c d : Bool} {x : Out} : drwEnd c (drwEnd d x) = drwEnd (d && c) x := by cases c <;> cases d <;> rfl
theorem ifO_drw {c d e : Bool} {x y : Out} : ifO c (drwEnd d x) (drwEnd e y) = drwEnd (bif c then d else e) (ifO c x y) := by cases c <;> rfl
end

section
variable {ρ : Operand → AV} {d : Option Tmp} {ty : TypeId} {pos : String} {af : Array Edge} {g : Option (Nat × Bool)}
theorem refs_load {t : TypeId} {a : Operand} : operRefs ρ ⟨d, .load t a, ty, pos, af, g⟩ = (ρ a).refs := rfl
theorem refs_store {t : TypeId} {a x : Operand} : operRefs ρ ⟨d, .store t a x, ty, pos, af, g⟩ = (ρ a).refs ++ (ρ x).refs := rfl
theorem refs_binOp {o : BinOp} {t u : TypeId} {x y : Operand} : operRefs ρ ⟨d, .binOp o t x y u, ty, pos, af, g⟩ = (ρ x).refs ++ (ρ y).refs := rfl
theorem refs_move {x : Operand} : operRefs ρ ⟨d, .move x, ty, pos, af, g⟩ = [] := rfl
theorem refs_assign {x : Operand} : operRefs ρ ⟨d, .assign x, ty, pos, af, g⟩ = [] := rfl
theorem refs_pick {a b c : Operand} : operRefs ρ ⟨d, .pick a b c, ty, pos, af, g⟩ = [] := rfl
theorem refs_alloc {t : TypeId} : operRefs ρ ⟨d, .alloc t, ty, pos, af, g⟩ = [] := rfl
theorem refs_boxo {t : TypeId} {x : Operand} : operRefs ρ ⟨d, .box t x, ty, pos, af, g⟩ = [] := rfl
theorem refs_build {t : TypeId} {ps : Array (Nat × Operand)} : operRefs ρ ⟨d, .build t ps, ty, pos, af, g⟩ = [] := rfl
theorem refs_buildSlice {t : TypeId} {n : Nat} {ps : Array (Nat × Operand)} : operRefs ρ ⟨d, .buildSlice t n ps, ty, pos, af, g⟩ = [] := rfl
theorem refs_nilCheck {x : Operand} : operRefs ρ ⟨d, .nilCheck x, ty, pos, af, g⟩ = [] := rfl
theorem refs_unOp {o : UnOp} {t : TypeId} {x : Operand} : operRefs ρ ⟨d, .unOp o t x, ty, pos, af, g⟩ = [] := rfl
theorem refs_convert {t u : TypeId} {x : Operand} : operRefs ρ ⟨d, .convert t u x, ty, pos, af, g⟩ = [] := rfl
theorem refs_makeFunc {f : Fn} {a b : Array Operand} : operRefs ρ ⟨d, .makeFunc f a b, ty, pos, af, g⟩ = [] := rfl
theorem refs_makeSlice {t : TypeId} {x y : Operand} : operRefs ρ ⟨d, .makeSlice t x y, ty, pos, af, g⟩ = [] := rfl
theorem refs_slice {t : TypeId} {x : Operand} {l h m : Option Operand} : operRefs ρ ⟨d, .slice t x l h m, ty, pos, af, g⟩ = [] := rfl
theorem refs_fieldAddr {t : TypeId} {x : Operand} {i : Nat} : operRefs ρ ⟨d, .fieldAddr t x i, ty, pos, af, g⟩ = [] := rfl
theorem refs_field {t : TypeId} {x : Operand} {i : Nat} : operRefs ρ ⟨d, .field t x i, ty, pos, af, g⟩ = [] := rfl
theorem refs_indexAddr {t : TypeId} {x y : Operand} : operRefs ρ ⟨d, .indexAddr t x y, ty, pos, af, g⟩ = [] := rfl
theorem refs_index {t : TypeId} {x y : Operand} : operRefs ρ ⟨d, .index t x y, ty, pos, af, g⟩ = [] := rfl
theorem refs_extract {x : Operand} {i : Nat} : operRefs ρ ⟨d, .extract x i, ty, pos, af, g⟩ = [] := rfl
theorem refs_len {as : Array Operand} {ts : Array TypeId} : operRefs ρ ⟨d, .call ⟨.builtin .len, as, ts⟩, ty, pos, af, g⟩ = (as.toList.map ρ).flatMap fun | .mp m => [m] | _ => [] := rfl
theorem refs_append {as : Array Operand} {ts : Array TypeId} : operRefs ρ ⟨d, .call ⟨.builtin .append, as, ts⟩, ty, pos, af, g⟩ = AV.refsL (as.toList.map ρ) := by
  show AV.refsL ((#[] ++ as).toList.map ρ) = _; simp
theorem refs_max {as : Array Operand} {ts : Array TypeId} : operRefs ρ ⟨d, .call ⟨.builtin .max, as, ts⟩, ty, pos, af, g⟩ = AV.refsL (as.toList.map ρ) := by
  show AV.refsL ((#[] ++ as).toList.map ρ) = _; simp
theorem refs_min {as : Array Operand} {ts : Array TypeId} : operRefs ρ ⟨d, .call ⟨.builtin .min, as, ts⟩, ty, pos, af, g⟩ = AV.refsL (as.toList.map ρ) := by
  show AV.refsL ((#[] ++ as).toList.map ρ) = _; simp
theorem refs_copy {as : Array Operand} {ts : Array TypeId} : operRefs ρ ⟨d, .call ⟨.builtin .copy, as, ts⟩, ty, pos, af, g⟩ = AV.refsL (as.toList.map ρ) := by
  show AV.refsL ((#[] ++ as).toList.map ρ) = _; simp
theorem refs_cap {as : Array Operand} {ts : Array TypeId} : operRefs ρ ⟨d, .call ⟨.builtin .cap, as, ts⟩, ty, pos, af, g⟩ = AV.refsL (as.toList.map ρ) := by
  show AV.refsL ((#[] ++ as).toList.map ρ) = _; simp
end

theorem ops_move {x : Operand} : (Op.move x).operands = #[x] := rfl
theorem ops_assign {x : Operand} : (Op.assign x).operands = #[x] := rfl
theorem ops_box {t : TypeId} {x : Operand} : (Op.box t x).operands = #[x] := rfl
theorem ops_load {t : TypeId} {x : Operand} : (Op.load t x).operands = #[x] := rfl
theorem ops_nilCheck {x : Operand} : (Op.nilCheck x).operands = #[x] := rfl
theorem ops_unOp {o : UnOp} {t : TypeId} {x : Operand} : (Op.unOp o t x).operands = #[x] := rfl
theorem ops_convert {t u : TypeId} {x : Operand} : (Op.convert t u x).operands = #[x] := rfl
theorem ops_fieldAddr {t : TypeId} {x : Operand} {i : Nat} : (Op.fieldAddr t x i).operands = #[x] := rfl
theorem ops_field {t : TypeId} {x : Operand} {i : Nat} : (Op.field t x i).operands = #[x] := rfl
theorem ops_extract {x : Operand} {i : Nat} : (Op.extract x i).operands = #[x] := rfl
theorem ops_pick {a b c : Operand} : (Op.pick a b c).operands = #[a, b, c] := rfl
theorem ops_alloc {t : TypeId} : (Op.alloc t).operands = #[] := rfl
theorem ops_store {t : TypeId} {x y : Operand} : (Op.store t x y).operands = #[x, y] := rfl
theorem ops_binOp {o : BinOp} {t u : TypeId} {x y : Operand} : (Op.binOp o t x y u).operands = #[x, y] := rfl
theorem ops_makeSlice {t : TypeId} {x y : Operand} : (Op.makeSlice t x y).operands = #[x, y] := rfl
theorem ops_indexAddr {t : TypeId} {x y : Operand} : (Op.indexAddr t x y).operands = #[x, y] := rfl
theorem ops_index {t : TypeId} {x y : Operand} : (Op.index t x y).operands = #[x, y] := rfl
def sndO : List (Nat × Operand) → List Operand
  | [] => []
  | (_, x) :: r => x :: sndO r
theorem sndO_nil : sndO [] = [] := rfl
theorem sndO_cons {i : Nat} {x : Operand} {r : List (Nat × Operand)} : sndO ((i, x) :: r) = x :: sndO r := rfl
theorem sndO_eq (l : List (Nat × Operand)) : l.map (·.2) = sndO l := by
  induction l with
  | nil => rfl
  | cons a l ih => obtain ⟨i, x⟩ := a; simp [sndO, ih]
theorem ops_build {t : TypeId} {ps : Array (Nat × Operand)} : (Op.build t ps).operands.toList = sndO ps.toList := by
  show ((ps.toList.map (·.2)).toArray).toList = _; rw [sndO_eq]
theorem ops_buildSlice {t : TypeId} {n : Nat} {ps : Array (Nat × Operand)} : (Op.buildSlice t n ps).operands.toList = sndO ps.toList := by
  show ((ps.toList.map (·.2)).toArray).toList = _; rw [sndO_eq]
theorem ops_makeFunc {f : Fn} {a b : Array Operand} : (Op.makeFunc f a b).operands.toList = a.toList ++ b.toList := by simp [Op.operands]
def optO : Option Operand → List Operand
  | none => []
  | some x => [x]
theorem optO_none : optO none = [] := rfl
theorem optO_some {x : Operand} : optO (some x) = [x] := rfl
theorem ops_slice {t : TypeId} {x : Operand} {l h m : Option Operand} : (Op.slice t x l h m).operands.toList = x :: (optO l ++ optO h ++ optO m) := by
  cases l <;> cases h <;> cases m <;> rfl
theorem ops_builtin {b : Builtin} {as : Array Operand} {ts : Array TypeId} : (Op.call ⟨.builtin b, as, ts⟩).operands.toList = as.toList := by
  show ((#[] : Array Operand) ++ as).toList = _; simp
end Go.AM

namespace Go.AM

section
variable {C : Knot} {E : Env} {b : Nat} {σ : Nat → AObj} {Y : List Ctx} {g : FuncId} {args : List AV}

def callM (C : Knot) (c : Cfg) (b : Nat) (σ : Nat → AObj) (g : FuncId) (args : List AV) (Y : List Ctx) : Option (Eff × List Ctx) :=
  match c.mode with
  | .br => brK C b g (freezeL args (toList' σ b)) Y
  | .fz => fzK C b σ g (freezeL args (toList' σ b)) Y
  | .mv => mvK C b σ g args (reach σ reachFuel (AV.refsL args) []) Y
theorem callM_br {m : Bool} : callM C ⟨.br, m⟩ b σ g args Y = brK C b g (freezeL args (toList' σ b)) Y := rfl
theorem callM_fz {m : Bool} : callM C ⟨.fz, m⟩ b σ g args Y = fzK C b σ g (freezeL args (toList' σ b)) Y := rfl
theorem callM_mv {m : Bool} : callM C ⟨.mv, m⟩ b σ g args Y = mvK C b σ g args (reach σ reachFuel (AV.refsL args) []) Y := rfl
theorem doCall_eq : doCall C E b σ g args Y = bif (AV.refsL args).isEmpty then retP b (C.call g args [] Y) else callM C (E.cfg g) b σ g args Y := by
  cases hr : (AV.refsL args) with
  | nil => exact doCall_p hr
  | cons x l =>
    have hr' : (AV.refsL args).isEmpty = false := by rw [hr]; rfl
    simp only [List.isEmpty_cons, cond_false]
    rcases hc : E.cfg g with ⟨m, f⟩
    cases m with
    | br => exact doCall_br hr' hc
    | fz => exact doCall_fz hr' hc
    | mv => exact doCall_mv hr' hc

def idsOk : List Nat → Nat → Bool
  | [], _ => true
  | i :: r, n => Nat.blt i n && idsOk r n
theorem idsOk_all (l : List Nat) (n : Nat) : (l.all fun i => Nat.blt i n) = idsOk l n := by
  induction l with
  | nil => rfl
  | cons a l ih => simp [idsOk, ih]
theorem idsOk_nil {n : Nat} : idsOk [] n = true := rfl
theorem idsOk_cons {o n : Nat} {r : List Nat} (h : o < n) : idsOk (o :: r) n = idsOk r n := by
  have : Nat.blt o n = true := by simpa using h
  simp [idsOk, this]
theorem mvK_ids {ids : List Nat} (hi : idsOk ids b = true) :
    mvK C b σ g args ids Y = mvR b ids (C.call g (AV.renL (fun x => posIn ids x 0) args) (ids.map fun o => (σ o).ren (fun x => posIn ids x 0)) Y) :=
  mvK_ok (by rw [idsOk_all]; exact hi)

/-! ### freezing -/
def mf2 (x : FV) (y : Option (List FV × List AObj)) : Option (List FV × List AObj) := match y with | some (xs, σ) => some (x :: xs, σ) | none => none
theorem mf2_some {x : FV} {xs : List FV} {s : List AObj} : mf2 x (some (xs, s)) = some (x :: xs, s) := rfl
def mf1 (n : Nat) (r : List AV) (x : Option (FV × List AObj)) : Option (List FV × List AObj) := match x with | some (x, σ) => mf2 x (mapMF (freeze n) r σ) | none => none
theorem mf1_some {n : Nat} {r : List AV} {x : FV} {s : List AObj} : mf1 n r (some (x, s)) = mf2 x (mapMF (freeze n) r s) := rfl
theorem mapMF_nil {n : Nat} {s : List AObj} : mapMF (freeze n) [] s = some ([], s) := rfl
theorem mapMF_cons {n : Nat} {v : AV} {r : List AV} {s : List AObj} : mapMF (freeze n) (v :: r) s = mf1 n r (freeze n v s) := by
  simp only [mapMF, mf1]
  cases freeze n v s with
  | none => rfl
  | some q => obtain ⟨x, s1⟩ := q; simp only [mf2]; cases mapMF (freeze n) r s1 <;> rfl
theorem freezeL_eq {l : List AV} {s : List AObj} : freezeL l s = mapMF (freeze 12) l s := rfl
theorem frz_f {n : Nat} {v : FV} {s : List AObj} : freeze (n + 1) (.f v) s = some (v, s) := rfl
def fzSl (off len esz : Nat) (clip : Bool) (x : Option (Bool × List FV × List AObj)) : Option (FV × List AObj) :=
  match x with | some (nl, cs, s) => some (mkSl nl (cutS cs off (len * esz)) len clip, s) | none => none
theorem fzSl_some {off len esz : Nat} {clip nl : Bool} {cs : List FV} {s : List AObj} : fzSl off len esz clip (some (nl, cs, s)) = some (mkSl nl (cutS cs off (len * esz)) len clip, s) := rfl
theorem frz_sl {n o off len esz : Nat} {clip : Bool} {s : List AObj} : freeze (n + 1) (.sl o off len esz clip) s = fzSl off len esz clip (frzObj n s o) := by
  rw [freeze_eq]; simp only [fzSl]; cases frzObj n s o <;> rfl
def fzPtr (off : Nat) (x : Option (Bool × List FV × List AObj)) : Option (FV × List AObj) :=
  match x with | some (false, cs, s) => some (.ptr cs off, s) | _ => none
theorem fzPtr_some {off : Nat} {cs : List FV} {s : List AObj} : fzPtr off (some (false, cs, s)) = some (.ptr cs off, s) := rfl
theorem frz_ptr {n o off : Nat} {s : List AObj} : freeze (n + 1) (.ptr o off) s = fzPtr off (frzObj n s o) := by
  rw [freeze_eq]; simp only [fzPtr]
  cases frzObj n s o with
  | none => rfl
  | some q => obtain ⟨nl, cs, s1⟩ := q; cases nl <;> rfl
def fzFn2 (g : FuncId) (a : List FV) (x : Option (List FV × List AObj)) : Option (FV × List AObj) := match x with | some (b, s) => some (.fn g a b, s) | none => none
theorem fzFn2_some {a b : List FV} {s : List AObj} : fzFn2 g a (some (b, s)) = some (.fn g a b, s) := rfl
def fzFn1 (n : Nat) (g : FuncId) (b : List AV) (x : Option (List FV × List AObj)) : Option (FV × List AObj) := match x with | some (a, s) => fzFn2 g a (mapMF (freeze n) b s) | none => none
theorem fzFn1_some {n : Nat} {a : List FV} {b : List AV} {s : List AObj} : fzFn1 n g b (some (a, s)) = fzFn2 g a (mapMF (freeze n) b s) := rfl
theorem frz_fn {n : Nat} {x y : List AV} {s : List AObj} : freeze (n + 1) (.fn g x y) s = fzFn1 n g y (mapMF (freeze n) x s) := by
  rw [freeze_eq]; simp only [fzFn1]
  cases mapMF (freeze n) x s with
  | none => rfl
  | some q => obtain ⟨a, s1⟩ := q; simp only [fzFn2]; cases mapMF (freeze n) y s1 <;> rfl
def fzAgg (x : Option (List FV × List AObj)) : Option (FV × List AObj) := match x with | some (a, s) => some (.agg a, s) | none => none
theorem fzAgg_some {a : List FV} {s : List AObj} : fzAgg (some (a, s)) = some (.agg a, s) := rfl
theorem frz_agg {n : Nat} {x : List AV} {s : List AObj} : freeze (n + 1) (.agg x) s = fzAgg (mapMF (freeze n) x s) := by
  rw [freeze_eq]; simp only [fzAgg]; cases mapMF (freeze n) x s <;> rfl
def fzB2 (o : Nat) (cs : List FV) (s : List AObj) (x : AObj) : Option (Bool × List FV × List AObj) := match x with | .box _ => some (false, cs, s.set o (.frz cs)) | _ => none
theorem fzB2_box {o : Nat} {cs : List FV} {s : List AObj} {c : List AV} : fzB2 o cs s (.box c) = some (false, cs, s.set o (.frz cs)) := rfl
def fzB (o : Nat) (x : Option (List FV × List AObj)) : Option (Bool × List FV × List AObj) := match x with | some (cs, s) => fzB2 o cs s (atO s o) | none => none
theorem fzB_some {o : Nat} {cs : List FV} {s : List AObj} : fzB o (some (cs, s)) = fzB2 o cs s (atO s o) := rfl
def fzO (n : Nat) (s : List AObj) (o : Nat) (x : AObj) : Option (Bool × List FV × List AObj) :=
  match x with
  | .arr cells _ isNil => some (isNil, cells, bif isNil then s else s.set o (.frz cells))
  | .frz cells => some (false, cells, s)
  | .box cells => fzB o (mapMF (freeze n) cells s)
  | _ => none
theorem fzO_arr {n o : Nat} {s : List AObj} {cs : List FV} {ex nl : Bool} : fzO n s o (.arr cs ex nl) = some (nl, cs, bif nl then s else s.set o (.frz cs)) := rfl
theorem fzO_frz {n o : Nat} {s : List AObj} {cs : List FV} : fzO n s o (.frz cs) = some (false, cs, s) := rfl
theorem fzO_box {n o : Nat} {s : List AObj} {cs : List AV} : fzO n s o (.box cs) = fzB o (mapMF (freeze n) cs s) := rfl
theorem frzObj_eq {n o : Nat} {s : List AObj} : frzObj n s o = fzO n s o (atO s o) := by
  simp only [frzObj, fzO]
  cases atO s o with
  | box cells =>
    simp only [fzB]
    cases mapMF (freeze n) cells s with
    | none => rfl
    | some q => obtain ⟨cs, s1⟩ := q; simp only [fzB2]; cases atO s1 o <;> rfl
  | _ => rfl
theorem mkSl_f {cs : List FV} {n : Nat} {c : Bool} : mkSl false cs n c = .sl cs n c := rfl
theorem mkSl_t {cs : List FV} {n : Nat} {c : Bool} : mkSl true cs n c = .nils := rfl
theorem ofFV_agg {l : List FV} : ofFV (.agg l) = .agg (l.map .f) := rfl
theorem ofFV_int {k : IntKind} {n : Int} : ofFV (.int k n) = .f (.int k n) := rfl
theorem ofFV_bool {n : Bool} : ofFV (.bool n) = .f (.bool n) := rfl
theorem ofFV_sl {cs : List FV} {n : Nat} {c : Bool} : ofFV (.sl cs n c) = .f (.sl cs n c) := rfl
theorem ofFV_ptr {cs : List FV} {n : Nat} : ofFV (.ptr cs n) = .f (.ptr cs n) := rfl
theorem ofFV_nils : ofFV .nils = .f .nils := rfl
theorem ofFV_fn {a b : List FV} : ofFV (.fn g a b) = .f (.fn g a b) := rfl
theorem ofFV_mkSl {cs : List FV} {n : Nat} {c nl : Bool} : ofFV (mkSl nl cs n c) = .f (mkSl nl cs n c) := by cases nl <;> rfl
theorem toL_zero {s : Nat → AObj} : toList' s 0 = [] := rfl
theorem toL_succ {s : Nat → AObj} {n : Nat} : toList' s (n + 1) = toList' s n ++ [s n] := by simp [toList', List.range_succ]
theorem wrOf_eq {x y : List AObj} : wrOf x y = wrOf.go 0 x y := rfl
theorem wrG_nil {i : Nat} {y : List AObj} : wrOf.go i [] y = [] := by cases y <;> rfl
theorem wrG_ff {i : Nat} {a c : List FV} {x y : List AObj} : wrOf.go i (.frz a :: x) (.frz c :: y) = wrOf.go (i + 1) x y := rfl
theorem wrG_af {i : Nat} {a c : List FV} {e nl : Bool} {x y : List AObj} : wrOf.go i (.arr a e nl :: x) (.frz c :: y) = (i, .frz c) :: wrOf.go (i + 1) x y := rfl
theorem wrG_bf {i : Nat} {a : List AV} {c : List FV} {x y : List AObj} : wrOf.go i (.box a :: x) (.frz c :: y) = (i, .frz c) :: wrOf.go (i + 1) x y := rfl
theorem wrG_aa {i : Nat} {a c : List FV} {e nl e' nl' : Bool} {x y : List AObj} : wrOf.go i (.arr a e nl :: x) (.arr c e' nl' :: y) = wrOf.go (i + 1) x y := rfl
theorem wrG_bb {i : Nat} {a c : List AV} {x y : List AObj} : wrOf.go i (.box a :: x) (.box c :: y) = wrOf.go (i + 1) x y := rfl
theorem wrG_dd {i : Nat} {x y : List AObj} : wrOf.go i (.dead :: x) (.dead :: y) = wrOf.go (i + 1) x y := rfl
theorem backR_lt {ids : List Nat} {x : Nat} (h : x < ids.length) : backR ids b x = ids[x]? := if_pos h
theorem backR_ge {ids : List Nat} {x : Nat} (h : ¬ x < ids.length) : backR ids b x = some (b + (x - ids.length)) := if_neg h
end
theorem noMem_int {k : IntKind} {n : Int} : (AV.f (.int k n)).noMem = true := by simp [AV.noMem, FV.scalar]
theorem noMem_bool {n : Bool} : (AV.f (.bool n)).noMem = true := by simp [AV.noMem, FV.scalar]
theorem noMem_nils : (AV.f .nils).noMem = true := by simp [AV.noMem, FV.scalar]
theorem noMem_sl {o off len esz : Nat} {c : Bool} : (AV.sl o off len esz c).noMem = true := by simp [AV.noMem]
theorem noMem_ptr {o off : Nat} : (AV.ptr o off).noMem = true := by simp [AV.noMem]
theorem noMem_tup {l : List AV} : (AV.tup l).noMem = AV.noMemL l := by simp [AV.noMem]
theorem noMem_agg {l : List AV} : (AV.agg l).noMem = AV.noMemL l := by simp [AV.noMem]
theorem noMemL_nil : AV.noMemL [] = true := by simp [AV.noMemL]
theorem noMemL_cons {v : AV} {l : List AV} : AV.noMemL (v :: l) = (v.noMem && AV.noMemL l) := by simp [AV.noMemL]
theorem noMemO_arr {cs : List FV} {e nl : Bool} : (AObj.arr cs e nl).noMem = cs.all FV.scalar := rfl
theorem noMemO_box {cs : List AV} : (AObj.box cs).noMem = AV.noMemL cs := rfl
theorem noMemO_dead : AObj.dead.noMem = true := rfl
end Go.AM

namespace Go.AM

def jumpOf : AExit → Option AExit
  | .norm => none
  | x => some x

/-- One yield of values without references. -/
def yieldV (C : Knot) (lvl : Nat) (fs : List FV) (Y : List Ctx) : Option (Bool × List Ctx) :=
  match Y[lvl]? with
  | some c =>
    if c.jump.isSome || c.params.length != fs.length then none else
    match C.code c.fn c.assign { tmps := setParams c.tmps c.params (fs.map ofFV), σ := c.σ, pin := c.keep } (Y.take lvl) with
    | some (.norm, st1, Y1) =>
      match C.code c.fn c.body st1 Y1 with
      | some (e, st2, Y2) =>
        if Y2.length != lvl then none else
        let σ2 := gcS st2.σ (gcIds st2.σ c.keep [])
        some ((jumpOf e).isNone, Y2 ++ { c with σ := σ2, jump := jumpOf e } :: Y.drop (lvl + 1))
      | none => none
    | _ => none
  | none => none

theorem freezeL_ofFV (s : List AObj) : ∀ (fs : List FV), freezeL (fs.map ofFV) s = some (fs, s) := by
  have h1 : ∀ (n : Nat) (l : List FV), mapMF (freeze (n + 1)) (l.map .f) s = some (l, s) := by
    intro n l
    induction l with
    | nil => rfl
    | cons a l ih => simp only [List.map_cons, mapMF_cons, frz_f, mf1_some, ih, mf2_some]
  have h2 : ∀ v : FV, freeze 12 (ofFV v) s = some (v, s) := by
    intro v
    cases v with
    | agg l => simp only [ofFV_agg, frz_agg, h1, fzAgg_some]
    | _ => exact frz_f
  intro fs
  rw [freezeL_eq]
  induction fs with
  | nil => rfl
  | cons a l ih => simp only [List.map_cons, mapMF_cons, h2, mf1_some, ih, mf2_some]

theorem wrGo_self (l : List AObj) : ∀ i, wrOf.go i l l = [] := by
  induction l with
  | nil => intro i; rfl
  | cons a l ih =>
    intro i
    cases a with
    | frz c => exact ih (i + 1)
    | _ => exact ih (i + 1)

def yldE (x : Option (Bool × List Ctx)) : Option (Eff × List Ctx) := match x with | some (t, Y) => some (⟨.f (.bool t), [], []⟩, Y) | none => none
theorem yldE_some {t : Bool} {Y : List Ctx} : yldE (some (t, Y)) = some (⟨.f (.bool t), [], []⟩, Y) := rfl
theorem doYield_v {C : Knot} {b : Nat} {σ : Nat → AObj} {lvl : Nat} {fs : List FV} {Y : List Ctx} : doYield C b σ lvl (fs.map ofFV) Y = yldE (yieldV C lvl fs Y) := by
  unfold doYield yieldV
  rw [freezeL_ofFV]
  cases Y[lvl]? with
  | none => rfl
  | some c =>
    simp only
    by_cases h : (c.jump.isSome || c.params.length != fs.length) = true
    · rw [if_pos h, if_pos h]; rfl
    · rw [if_neg h, if_neg h]
      cases C.code c.fn c.assign { tmps := setParams c.tmps c.params (fs.map ofFV), σ := c.σ, pin := c.keep } (Y.take lvl) with
      | none => rfl
      | some q =>
        obtain ⟨e1, st1, Y1⟩ := q
        cases e1 with
        | norm =>
          simp only
          cases C.code c.fn c.body st1 Y1 with
          | none => rfl
          | some q2 =>
            obtain ⟨e2, st2, Y2⟩ := q2
            simp only
            by_cases h2 : (Y2.length != lvl) = true
            · rw [if_pos h2, if_pos h2]; rfl
            · rw [if_neg h2, if_neg h2]
              simp only [yldE, wrOf_eq, wrGo_self]
              cases e2 <;> rfl
        | ret => rfl
        | exit i => rfl

/-- Yields, one after another, till one says stop. -/
def yieldsV (C : Knot) (lvl : Nat) : List (List FV) → List Ctx → Option (Bool × List Ctx)
  | [], Y => some (true, Y)
  | fs :: r, Y =>
    match yieldV C lvl fs Y with
    | some (true, Y') => yieldsV C lvl r Y'
    | some (false, Y') => some (false, Y')
    | none => none
theorem yieldsV_nil {C : Knot} {lvl : Nat} {Y : List Ctx} : yieldsV C lvl [] Y = some (true, Y) := rfl
def yieldsK (C : Knot) (lvl : Nat) (r : List (List FV)) (x : Option (Bool × List Ctx)) : Option (Bool × List Ctx) :=
  match x with
  | some (true, Y') => yieldsV C lvl r Y'
  | some (false, Y') => some (false, Y')
  | none => none
theorem yieldsV_cons {C : Knot} {lvl : Nat} {fs : List FV} {r : List (List FV)} {Y : List Ctx} : yieldsV C lvl (fs :: r) Y = yieldsK C lvl r (yieldV C lvl fs Y) := by
  simp only [yieldsV, yieldsK]

/-- A generator: called with a yield it yields this sequence. -/
def Gen (C : Knot) (g : FuncId) (a b : List FV) (seq : List (List FV)) : Prop :=
  ∀ lvl Y t Y', yieldsV C lvl seq Y = some (t, Y') → C.call g (a.map ofFV ++ .yld lvl :: b.map ofFV) [] Y = some (.tup [], [], Y')

theorem yieldV_len {C : Knot} {lvl : Nat} {fs : List FV} {Y Y' : List Ctx} {t : Bool} (h : yieldV C lvl fs Y = some (t, Y')) : Y'.length = Y.length := by
  unfold yieldV at h
  cases hc : Y[lvl]? with
  | none => rw [hc] at h; cases h
  | some c =>
    have hl : lvl < Y.length := (List.getElem?_eq_some_iff.1 hc).1
    rw [hc] at h
    simp only at h
    split at h
    · cases h
    · split at h
      · split at h
        · split at h
          · cases h
          · rename_i h2
            simp only [Option.some.injEq, Prod.mk.injEq] at h
            obtain ⟨_, rfl⟩ := h
            simp at h2
            simp [h2]; omega
        · cases h
      · cases h

/-- The rounds of a range over a sequence. -/
def rngGo (C : Knot) (f : FuncId) (ps : List Nat) (assign body : Code) (keep : Nat) (T : Tmps) : List (List FV) → List AObj → List Ctx → Option (Option AExit × List AObj × List Ctx)
  | [], σ, Y => some (none, σ, Y)
  | fs :: r, σ, Y =>
    if ps.length != fs.length then none else
    match C.code f assign ⟨setParams T ps (fs.map ofFV), σ, keep⟩ Y with
    | some (.norm, st1, Y1) =>
      match C.code f body st1 Y1 with
      | some (e, st2, Y2) =>
        if Y2.length != Y.length then none else
        match e with
        | .norm => rngGo C f ps assign body keep T r (gcS st2.σ (gcIds st2.σ keep [])) Y2
        | e => some (some e, gcS st2.σ (gcIds st2.σ keep []), Y2)
      | none => none
    | _ => none

theorem rngGo_yields {C : Knot} {f : FuncId} {ps : List Nat} {assign body : Code} {keep : Nat} {T : Tmps} : ∀ (seq : List (List FV)) (σ : List AObj) (Y : List Ctx) (n : Nat), n = Y.length →
    ∀ j σ' Y', rngGo C f ps assign body keep T seq σ Y = some (j, σ', Y') →
      yieldsV C n seq (Y ++ [{ tmps := T, σ, keep, fn := f, params := ps, assign, body, jump := none }]) =
        some (j.isNone, Y' ++ [{ tmps := T, σ := σ', keep, fn := f, params := ps, assign, body, jump := j }]) ∧ Y'.length = Y.length := by
  intro seq
  induction seq with
  | nil =>
    intro σ Y n hn j σ' Y' h
    simp only [rngGo, Option.some.injEq, Prod.mk.injEq] at h
    obtain ⟨rfl, rfl, rfl⟩ := h
    exact ⟨rfl, rfl⟩
  | cons fs r ih =>
    intro σ Y n hn j σ' Y' h
    subst hn
    simp only [rngGo] at h
    split at h
    · cases h
    · rename_i hl
      split at h
      · rename_i st1 Y1 h1
        split at h
        · rename_i e st2 Y2 h2
          split at h
          · cases h
          · rename_i hY2
            have hY : Y2.length = Y.length := by simpa using hY2
            have hy : yieldV C Y.length fs (Y ++ [{ tmps := T, σ, keep, fn := f, params := ps, assign, body, jump := none }]) =
                some ((jumpOf e).isNone, Y2 ++ [{ tmps := T, σ := gcS st2.σ (gcIds st2.σ keep []), keep, fn := f, params := ps, assign, body, jump := jumpOf e }]) := by
              unfold yieldV
              simp only [List.getElem?_append_right (Nat.le_refl Y.length), Nat.sub_self, List.getElem?_cons_zero, Option.isSome_none, Bool.false_or]
              rw [if_neg hl, List.take_left', h1]
              · simp only [h2]
                rw [if_neg hY2]
                simp
              · rfl
            rw [yieldsV_cons, hy]
            cases e with
            | norm =>
              simp only [jumpOf, Option.isNone_none, yieldsK]
              obtain ⟨h3, h4⟩ := ih _ Y2 Y.length hY.symm j σ' Y' h
              exact ⟨h3, h4.trans hY⟩
            | ret =>
              simp only [Option.some.injEq, Prod.mk.injEq] at h
              obtain ⟨rfl, rfl, rfl⟩ := h
              exact ⟨rfl, hY⟩
            | exit i =>
              simp only [Option.some.injEq, Prod.mk.injEq] at h
              obtain ⟨rfl, rfl, rfl⟩ := h
              exact ⟨rfl, hY⟩
        · cases h
      · cases h

def rngOut (T : Tmps) (p : Nat) (x : Option (Option AExit × List AObj × List Ctx)) : Out := match x with | some (j, σ, Y) => some (j.getD .norm, ⟨T, σ, p⟩, Y) | none => none
theorem rngOut_some {T : Tmps} {p : Nat} {j : Option AExit} {σ : List AObj} {Y : List Ctx} : rngOut T p (some (j, σ, Y)) = some (j.getD .norm, ⟨T, σ, p⟩, Y) := rfl

/-- **A range over a generator is its rounds**, where they come to an end. -/
theorem rangeA_gen {C : Knot} {f : FuncId} {h : AV} {ps : Array Tmp} {assign body : Code} {T : Tmps} {σ σ1 : List AObj} {p : Nat} {Y : List Ctx} {g : FuncId} {a b : List FV} {seq : List (List FV)}
    (hz : freezeL [h] σ = some ([.fn g a b], σ1)) (hg : Gen C g a b seq) (hl : σ1.length ≤ 400) {r : Option AExit × List AObj × List Ctx}
    (hr : rngGo C f ps.toList assign body σ1.length T seq σ1 Y = some r) :
    rangeA C f h ps assign body ⟨T, σ, p⟩ Y = some (r.1.getD .norm, ⟨T, r.2.1, p⟩, r.2.2) := by
  obtain ⟨j, σ', Y'⟩ := r
  obtain ⟨h1, h2⟩ := rngGo_yields seq σ1 Y Y.length rfl j σ' Y' hr
  unfold rangeA
  simp only [hz]
  rw [if_neg (by unfold reachFuel; omega), hg _ _ _ _ h1]
  simp only
  rw [List.getElem?_append_right (by omega), h2]
  simp [h2]
end Go.AM

namespace Go.AM
theorem cfg_fz {m : Mode} {b : Bool} : (Cfg.mk m b).retFz = b := rfl
theorem gcIds_nil {σ : List AObj} : gcIds σ 0 [] = [] := rfl
theorem gcS_nil {σ : List AObj} : gcS σ [] = [] := rfl
theorem one_one {v : AV} : one [v] = v := rfl
theorem one_two {v w : AV} {r : List AV} : one (v :: w :: r) = .tup (v :: w :: r) := rfl
theorem one_nil : one [] = .tup [] := rfl
theorem isSorted_nil : (List.nil : List Nat).isEmpty = true := rfl
def ascB : List Nat → Bool
  | a :: b :: r => Nat.blt a b && ascB (b :: r)
  | _ => true
theorem ascB_2 {a b : Nat} {r : List Nat} (h : a < b) : ascB (a :: b :: r) = ascB (b :: r) := by
  have : Nat.blt a b = true := by simpa using h
  simp [ascB, this]
theorem ascB_1 {a : Nat} : ascB [a] = true := rfl
theorem ascB_0 : ascB [] = true := rfl
theorem setT_asc {t : Nat} {v : AV} : ∀ {l : List Nat} {g : Nat → AV}, ascB (t :: l) = true → setT (l.map fun x => (x, g x)) t v = (t, v) :: l.map fun x => (x, g x)
  | [], _, _ => rfl
  | a :: l, g, h => by
    have hlt : t < a := by
      simp only [ascB, Bool.and_eq_true] at h
      simpa using h.1
    simp only [List.map_cons, setT]
    have h1 : (a == t) = false := by simp; omega
    rw [h1]
    simp [hlt]
theorem asc_tail {a : Nat} {l : List Nat} (h : ascB (a :: l) = true) : ascB l = true := by
  cases l with
  | nil => rfl
  | cons b l => simp only [ascB, Bool.and_eq_true] at h; exact h.2
theorem liveT_asc {T : Tmps} : ∀ {l : List Nat}, ascB l = true → liveT T l = l.map fun x => (x, getT T x)
  | [], _ => rfl
  | a :: l, h => by
    simp only [liveT, liveT_asc (asc_tail h)]
    rw [setT_asc h]
    rfl

/-- A state to be reckoned out ahead of the next step. -/
def runN (C : Knot) (E : Env) (f : FuncId) (k : List Fr) (st : St) (Y : List Ctx) : Out := runK C E f k .norm st Y

/-! what is looked at first -/
section
variable {C : Knot} {E : Env} {f blk : Nat} {b : Code} {k : List Fr} {e e' : AExit} {st st' : St} {Y Y' : List Ctx} {dst : Option Tmp} {fr : List Fr} {T : Tmps} {σ : List AObj} {p n : Nat} {x x' y : Out} {call : Bool} {all : Array Oper} {r : List Oper} {fs : List Foot}
@[congr] theorem ifO_congr {c c' : Bool} (h : c = c') : ifO c x y = ifO c' x y := by rw [h]
@[congr] theorem condK_congr {v v' : AV} (h : v = v') : condK v x y = condK v' x y := by rw [h]
@[congr] theorem wantK_congr {v v' : AV} {w : Bool} (h : v = v') : wantK v w x y = wantK v' w x y := by rw [h]
@[congr] theorem wantG_congr {d d' : Option Nat} {w : Bool} (h : d = d') : wantG d T w x y = wantG d' T w x y := by rw [h]
@[congr] theorem drwEnd_congr {c : Bool} (h : x = x') : drwEnd c x = drwEnd c x' := by rw [h]
@[congr] theorem contK_congr (h : x = x') : contK C E f x k = contK C E f x' k := by rw [h]
@[congr] theorem backK_congr (h : x = x') : backK C f blk b x = backK C f blk b x' := by rw [h]
@[congr] theorem finK_congr {res : List ResultVar} {g : FuncId} (h : x = x') : finK E g res n x = finK E g res n x' := by rw [h]
@[congr] theorem effK_congr {v v' : Option Eff} (h : v = v') : effK C E f dst v fr T σ p Y = effK C E f dst v' fr T σ p Y := by rw [h]
@[congr] theorem effYK_congr {v v' : Option (Eff × List Ctx)} (h : v = v') : effYK C E f dst v fr T σ p = effYK C E f dst v' fr T σ p := by rw [h]
@[congr] theorem dEff_congr {v v' : Option Eff} {see : List Nat} (h : v = v') : dEff C E f dst v see call all r fs k T σ p Y = dEff C E f dst v' see call all r fs k T σ p Y := by rw [h]
@[congr] theorem dEffY_congr {v v' : Option (Eff × List Ctx)} {see : List Nat} (h : v = v') : dEffY C E f dst v see all r fs k T σ p = dEffY C E f dst v' see all r fs k T σ p := by rw [h]
@[congr] theorem runN_congr (h2 : st = st') (h3 : Y = Y') : runN C E f k st Y = runN C E f k st' Y' := by rw [h2, h3]
@[congr] theorem runK_congr (h1 : e = e') (h2 : st = st') (h3 : Y = Y') : runK C E f k e st Y = runK C E f k e' st' Y' := by rw [h1, h2, h3]
end

section
variable {C : Knot} {E : Env} {f : Nat} {k fr : List Fr} {T : Tmps} {σ : List AObj} {p : Nat} {Y : List Ctx} {all : Array Oper} {r : List Oper} {fs : List Foot} {dst : Option Tmp} {v : AV} {see : List Nat} {call : Bool} {o : Nat} {x : AObj} {w : List (Nat × AObj)} {n : List AObj}
theorem runN_run : runN C E f k ⟨T, σ, p⟩ Y = runK C E f k .norm ⟨T, σ, p⟩ Y := rfl
theorem effK_valN : effK C E f dst (some ⟨v, [], []⟩) fr T σ p Y = runN C E f fr ⟨putDst T dst v, σ, p⟩ Y := effK_val
theorem effK_newN : effK C E f dst (some ⟨v, [], x :: n⟩) fr T σ p Y = runN C E f fr ⟨putDst T dst v, σ ++ x :: n, p⟩ Y := effK_new
theorem effK_wN (h : wrOk ((o, x) :: w) σ.length = true) : effK C E f dst (some ⟨v, (o, x) :: w, n⟩) fr T σ p Y = runN C E f fr ⟨putDst T dst v, putWr σ ((o, x) :: w) ++ n, p⟩ Y := effK_w h
theorem effYK_wN (h : wrOk w σ.length = true) : effYK C E f dst (some (⟨v, w, n⟩, Y)) fr T σ p = runN C E f fr ⟨putDst T dst v, putWr σ w ++ n, p⟩ Y := effYK_w h
theorem dEff_valN : dEff C E f dst (some ⟨v, [], []⟩) see call all r fs k T σ p Y = runN C E f (.drw all r (⟨see, [], call⟩ :: fs) :: k) ⟨putDst T dst v, σ ++ [.dead], p⟩ Y := dEff_val
theorem dEff_newN : dEff C E f dst (some ⟨v, [], x :: n⟩) see call all r fs k T σ p Y = runN C E f (.drw all r (⟨see, σ.length :: newIds (σ.length + 1) n, call⟩ :: fs) :: k) ⟨putDst T dst v, σ ++ (x :: n), p⟩ Y := dEff_new
theorem dEff_wrN (h : wrOk ((o, x) :: w) σ.length = true) : dEff C E f dst (some ⟨v, (o, x) :: w, n⟩) see call all r fs k T σ p Y =
    runN C E f (.drw all r (⟨see, (o :: fsts w) ++ newIds σ.length n, call⟩ :: fs) :: k) ⟨putDst T dst v, putWr σ ((o, x) :: w) ++ padN n, p⟩ Y := dEff_wr h
end

theorem backK_ifO {C : Knot} {f blk : Nat} {b : Code} {c : Bool} {x y : Out} : backK C f blk b (ifO c x y) = ifO c (backK C f blk b x) (backK C f blk b y) := by cases c <;> rfl
theorem contK_ifO {C : Knot} {E : Env} {f : Nat} {k : List Fr} {c : Bool} {x y : Out} : contK C E f (ifO c x y) k = ifO c (contK C E f x k) (contK C E f y k) := by cases c <;> rfl
theorem backK_none' {C : Knot} {f blk : Nat} {b : Code} : backK C f blk b none = none := rfl

/-- A proof that is not seen to be by computing. -/
theorem nr {α : Type} {a b : α} (h : a = b) : a = b := h
theorem isCall_move (x : Operand) : isCallOp (.move x) = false := nr rfl
theorem isCall_assign (x : Operand) : isCallOp (.assign x) = false := nr rfl
theorem isCall_pick (a b c : Operand) : isCallOp (.pick a b c) = false := nr rfl
theorem isCall_alloc (t : TypeId) : isCallOp (.alloc t) = false := nr rfl
theorem isCall_box (t : TypeId) (x : Operand) : isCallOp (.box t x) = false := nr rfl
theorem isCall_build (t : TypeId) (p : Array (Nat × Operand)) : isCallOp (.build t p) = false := nr rfl
theorem isCall_buildSlice (t : TypeId) (n : Nat) (p : Array (Nat × Operand)) : isCallOp (.buildSlice t n p) = false := nr rfl
theorem isCall_load (t : TypeId) (x : Operand) : isCallOp (.load t x) = false := nr rfl
theorem isCall_store (t : TypeId) (x y : Operand) : isCallOp (.store t x y) = false := nr rfl
theorem isCall_nilCheck (x : Operand) : isCallOp (.nilCheck x) = false := nr rfl
theorem isCall_binOp (o : BinOp) (t : TypeId) (x y : Operand) (u : TypeId) : isCallOp (.binOp o t x y u) = false := nr rfl
theorem isCall_unOp (o : UnOp) (t : TypeId) (x : Operand) : isCallOp (.unOp o t x) = false := nr rfl
theorem isCall_convert (t u : TypeId) (x : Operand) : isCallOp (.convert t u x) = false := nr rfl
theorem isCall_makeFunc (f : Fn) (a b : Array Operand) : isCallOp (.makeFunc f a b) = false := nr rfl
theorem isCall_makeSlice (t : TypeId) (x y : Operand) : isCallOp (.makeSlice t x y) = false := nr rfl
theorem isCall_slice (t : TypeId) (x : Operand) (l h m : Option Operand) : isCallOp (.slice t x l h m) = false := nr rfl
theorem isCall_fieldAddr (t : TypeId) (x : Operand) (i : Nat) : isCallOp (.fieldAddr t x i) = false := nr rfl
theorem isCall_field (t : TypeId) (x : Operand) (i : Nat) : isCallOp (.field t x i) = false := nr rfl
theorem isCall_indexAddr (t : TypeId) (x y : Operand) : isCallOp (.indexAddr t x y) = false := nr rfl
theorem isCall_index (t : TypeId) (x y : Operand) : isCallOp (.index t x y) = false := nr rfl
theorem isCall_extract (x : Operand) (i : Nat) : isCallOp (.extract x i) = false := nr rfl
theorem isCall_makeInterface (t : TypeId) (x : Operand) : isCallOp (.makeInterface t x) = false := nr rfl
theorem isCall_builtin (b : Builtin) (a : Array Operand) (t : Array TypeId) : isCallOp (.call ⟨.builtin b, a, t⟩) = false := nr rfl
theorem sliceOf_all {α : Type} {off n : Nat} {cs : List α} (h0 : off = 0) (h : cs.length = n) : sliceOf cs off n = some cs := by
  subst h0; simp [sliceOf, ← h]
theorem map_some' {α β : Type} {f : α → β} {a : α} : (some a).map f = some (f a) := rfl

theorem rep_zero {z : List AV} : repCells 0 z = [] := rfl
theorem rep_one {z : List AV} : repCells 1 z = z := by simp [repCells]
theorem rep_two {z : List AV} : repCells 2 z = z ++ z := by simp [repCells, List.replicate_succ]
theorem rep_three {z : List AV} : repCells 3 z = z ++ (z ++ z) := by simp [repCells, List.replicate_succ]
theorem rep_four {z : List AV} : repCells 4 z = z ++ (z ++ (z ++ z)) := by simp [repCells, List.replicate_succ]
def fillK (pl : Option (Nat × Nat)) (v : Option (List AV)) (place : Nat → Option (Nat × Nat)) (cells : List AV) (rest : List (Nat × AV)) : Option (List AV) :=
  match pl, v with
  | some (off, size), some cs => if cs.length = size ∧ off + size ≤ cells.length then fillA place (setCells cells off cs) rest else none
  | _, _ => none
theorem fillA_nil {place : Nat → Option (Nat × Nat)} {cells : List AV} : fillA place cells [] = some cells := rfl
theorem fillA_cons {place : Nat → Option (Nat × Nat)} {cells : List AV} {i : Nat} {v : AV} {rest : List (Nat × AV)} : fillA place cells ((i, v) :: rest) = fillK (place i) (cellsOf v) place cells rest := by
  simp only [fillA]
  cases place i with
  | none => rfl
  | some q => cases cellsOf v <;> rfl
theorem fillK_some {place : Nat → Option (Nat × Nat)} {cells cs : List AV} {off size : Nat} {rest : List (Nat × AV)} (h : cs.length = size) (h2 : off + size ≤ cells.length) :
    fillK (some (off, size)) (some cs) place cells rest = fillA place (setCells cells off cs) rest := if_pos ⟨h, h2⟩
theorem mkObj_1 {v : FV} : mkObj [.f v] = .arr [v] true false := rfl
theorem mkObj_0 : mkObj [] = .arr [] true false := rfl
theorem mkObj_2 {v w : FV} : mkObj [.f v, .f w] = .arr [v, w] true false := rfl
theorem mkObj_3 {v w x : FV} : mkObj [.f v, .f w, .f x] = .arr [v, w, x] true false := rfl
theorem mkObj_4 {v w x y : FV} : mkObj [.f v, .f w, .f x, .f y] = .arr [v, w, x, y] true false := rfl
/-- append to an object -/
def appO (b o : Nat) (x : AObj) (off len esz : Nat) (clip : Bool) (size : Nat) (new : List FV) (n : Nat) : Option Eff := appendA (fun _ => x) b size (.sl o off len esz clip) new n
theorem appendA_o {σ : Nat → AObj} {b o off len esz size n : Nat} {clip : Bool} {new : List FV} : appendA σ b size (.sl o off len esz clip) new n = appO b o (σ o) off len esz clip size new n := rfl
theorem appO_grow {b o len size n : Nat} {cs new : List FV} {nl : Bool} (h : AppOk len n size cs new) (hn : 0 < n) :
    appO b o (.arr cs false nl) 0 len size false size new n = some ⟨.sl b 0 (len + n) size false, [(o, .dead)], [.arr (cs ++ new) false false]⟩ := app_grow rfl h hn
theorem appO_grow_ex {b o len size n : Nat} {cs new : List FV} {nl : Bool} (h : AppOk len n size cs new) (hn : 0 < n) :
    appO b o (.arr cs true nl) 0 len size false size new n = some ⟨.sl b 0 (len + n) size false, [], [.arr (cs ++ new) false false]⟩ := app_grow_ex rfl h hn
theorem appO_clip {b o off len size n : Nat} {cs new : List FV} {ex nl : Bool} (h : AppOk len n size (cutS cs off (len * size)) new) (hn : 0 < n) :
    appO b o (.arr cs ex nl) off len size true size new n = some ⟨.sl b 0 (len + n) size false, [], [.arr (cutS cs off (len * size) ++ new) false false]⟩ := app_clip rfl rfl h hn
/-- lists of int -/
def ints (l : List Int) : List FV := l.map (.int .i64)
theorem ints_len (l : List Int) : (ints l).length = l.length := by simp [ints]
theorem ints_app (l m : List Int) : ints l ++ ints m = ints (l ++ m) := by simp [ints]
theorem ints_one (n : Int) : [FV.int .i64 n] = ints [n] := rfl
theorem app_ints1 {b o k : Nat} {l : List Int} {v : Int} {nl : Bool} (hl : l.length = k) (hb : k ≤ 16777215) :
   appO b o (.arr (ints l) false nl) 0 k 1 false 1 [.int .i64 v] 1 = some ⟨.sl b 0 (k + 1) 1 false, [(o, .dead)], [.arr (ints (l ++ [v])) false false]⟩ := by
  rw [appO_grow ⟨by omega, by simp [ints, hl], by simp, by omega, by omega⟩ (by omega), ints_one, ints_app]
theorem cutS_1 {v : FV} : cutS [v] 0 1 = [v] := rfl
theorem cutS_ints {l : List Int} {k : Nat} (h : l.length = k) : cutS (ints l) 0 k = ints l := cutS_all (by simp [ints, h])
theorem wrap_succ {k : Nat} (h : k ≤ 1000000000) : IntKind.i64.wrap ((k : Int) + 1) = ((k + 1 : Nat) : Int) := by
  rw [IntWalk.i64_in _ (by omega)]; omega
theorem dec_lt_t {a b : Nat} (h : a < b) : decide ((a : Int) < (b : Int)) = true := by simp; exact h
theorem dec_lt_f {a b : Nat} (h : ¬ a < b) : decide ((a : Int) < (b : Int)) = false := by simp; omega
/-- A loop from its head. -/
def loopH (C : Knot) (E : Env) (f blk : Nat) (b : Code) (st : St) (Y : List Ctx) : Out := backK C f blk b (runK C E f [.code blk b] .norm st Y)
theorem loop_H {E : Env} {f blk : Nat} {b : Code} {st : St} {Y : List Ctx} : (limK E).loop f blk b st Y = loopH (limK E) E f blk b (normA (E.loops f blk) st) Y := loop_run
/-- 'b' is the loop's body in block 'id' -/
def loopIn (id : Nat) (inside : Bool) : Code → Option Code
  | .seq a b => match loopIn id inside a with | some c => some c | none => loopIn id inside b
  | .cond _ a b => match loopIn id inside a with | some c => some c | none => loopIn id inside b
  | .block i b => loopIn id (i == id) b
  | .loop b => if inside then some b else loopIn id false b
  | .rangeFunc _ _ a b => match loopIn id inside a with | some c => some c | none => loopIn id inside b
  | _ => none
def lp (f : Func) (id : Nat) : Code := ((f.body.bind (loopIn id (id == 0))).getD .skip)
attribute [go_sem] appendA_o cutS_1 loop_H Option.bind_some Option.getD_some app_ints1
/-! the heads of loops -/
def normB (st : St) : St := { st with tmps := renT (fun x => posIn (gcIds st.σ st.pin (refsT st.tmps)) x 0) st.tmps, σ := gcS st.σ (gcIds st.σ st.pin (refsT st.tmps)) }
theorem normA_none {st : St} : normA none st = st := rfl
theorem normA_some {a : LoopAnn} {st : St} : normA (some a) st = normB (adoptA a.adopt ⟨liveT st.tmps a.live, st.σ, st.pin⟩) := rfl
theorem adoptA_nil {st : St} : adoptA [] st = st := rfl
def adT (v : AV) (T : Tmps) (σ : List AObj) (p t esz : Nat) : St :=
  match v with
  | .f .nils => ⟨setT T t (.sl σ.length 0 0 esz false), σ ++ [.arr [] false true], p⟩
  | _ => ⟨T, σ, p⟩
def setL (T : Tmps) (t : Nat) (v : AV) : Tmps := setT T t v
theorem setL_nil {t : Nat} {v : AV} : setL [] t v = [(t, v)] := rfl
theorem setL_cons {T : Tmps} {k t : Nat} {x v : AV} : setL ((k, x) :: T) t v = bif k == t then (t, v) :: T else bif decide (t < k) then (t, v) :: (k, x) :: T else (k, x) :: setL T t v := rfl
theorem adT_nils {T : Tmps} {σ : List AObj} {p t esz : Nat} : adT (.f .nils) T σ p t esz = ⟨setL T t (.sl σ.length 0 0 esz false), σ ++ [.arr [] false true], p⟩ := rfl
theorem adT_sl {T : Tmps} {σ : List AObj} {p t esz o off n e : Nat} {c : Bool} : adT (.sl o off n e c) T σ p t esz = ⟨T, σ, p⟩ := rfl
theorem adT_fsl {T : Tmps} {σ : List AObj} {p t esz n : Nat} {cs : List FV} {c : Bool} : adT (.f (.sl cs n c)) T σ p t esz = ⟨T, σ, p⟩ := rfl
theorem adoptA_t {t esz p : Nat} {r : List (Nat × Option Nat × Nat)} {T : Tmps} {σ : List AObj} : adoptA ((t, none, esz) :: r) ⟨T, σ, p⟩ = adoptA r (adT (getT T t) T σ p t esz) := by
  simp only [adoptA, adT]
  cases getT T t with
  | f v => cases v <;> rfl
  | _ => rfl
theorem normB_eq {T : Tmps} {σ : List AObj} {p : Nat} {ids : List Nat} (h : gcIds σ p (refsT T) = ids) : normB ⟨T, σ, p⟩ = ⟨renT (fun x => posIn ids x 0) T, gcS σ ids, p⟩ := by
  subst h; rfl
theorem reach_nil {σ : Nat → AObj} {n : Nat} {seen : List Nat} : reach σ (n + 1) [] seen = seen := rfl
theorem reach_cons {σ : Nat → AObj} {n o : Nat} {todo seen : List Nat} : reach σ (n + 1) (o :: todo) seen = bif seen.contains o then reach σ n todo seen else reach σ n (todo ++ (σ o).refs) (seen ++ [o]) := rfl
theorem fuel_eq : reachFuel = 400 := rfl
theorem gcS_cons {σ : List AObj} {o : Nat} {r ids : List Nat} : List.map (fun o => (atO σ o).ren (fun x => posIn ids x 0)) (o :: r) = (atO σ o).ren (fun x => posIn ids x 0) :: List.map (fun o => (atO σ o).ren (fun x => posIn ids x 0)) r := rfl
theorem refs_box {cs : List AV} : (AObj.box cs).refs = AV.refsL cs := rfl
theorem refs_arr {cs : List FV} {a b : Bool} : (AObj.arr cs a b).refs = [] := rfl
theorem refs_frz {cs : List FV} : (AObj.frz cs).refs = [] := rfl
theorem refs_dead : AObj.dead.refs = [] := rfl
theorem renO_box {cs : List AV} {m : Nat → Option Nat} : (AObj.box cs).ren m = .box (AV.renL m cs) := rfl
theorem renO_arr {cs : List FV} {a b : Bool} {m : Nat → Option Nat} : (AObj.arr cs a b).ren m = .arr cs a b := rfl
theorem renO_frz {cs : List FV} {m : Nat → Option Nat} : (AObj.frz cs).ren m = .frz cs := rfl
theorem renO_dead {m : Nat → Option Nat} : AObj.dead.ren m = .dead := rfl
def renS (x : Option Nat) (k : Nat → AV) : AV := match x with | some o => k o | none => .bot
theorem ren_sl {m : Nat → Option Nat} {o off len esz : Nat} {c : Bool} : (AV.sl o off len esz c).ren m = renS (m o) fun o' => .sl o' off len esz c := by
  simp only [AV.ren, renS]; cases m o <;> rfl
theorem ren_ptr {m : Nat → Option Nat} {o off : Nat} : (AV.ptr o off).ren m = renS (m o) fun o' => .ptr o' off := by
  simp only [AV.ren, renS]; cases m o <;> rfl
theorem renS_some {o : Nat} {k : Nat → AV} : renS (some o) k = k o := rfl
theorem ren_f {m : Nat → Option Nat} {v : FV} : (AV.f v).ren m = .f v := by simp [AV.ren]
theorem ren_yld {m : Nat → Option Nat} {l : Nat} : (AV.yld l).ren m = .yld l := by simp [AV.ren]
theorem ren_fn {m : Nat → Option Nat} {g : FuncId} {a b : List AV} : (AV.fn g a b).ren m = .fn g (AV.renL m a) (AV.renL m b) := by simp [AV.ren]
theorem ren_agg {m : Nat → Option Nat} {a : List AV} : (AV.agg a).ren m = .agg (AV.renL m a) := by simp [AV.ren]
theorem ren_tup {m : Nat → Option Nat} {a : List AV} : (AV.tup a).ren m = .tup (AV.renL m a) := by simp [AV.ren]
theorem renL_nil {m : Nat → Option Nat} : AV.renL m [] = [] := rfl
theorem renL_cons {m : Nat → Option Nat} {v : AV} {r : List AV} : AV.renL m (v :: r) = v.ren m :: AV.renL m r := rfl
theorem posIn_nil {o i : Nat} : posIn [] o i = none := rfl
theorem posIn_cons {x o i : Nat} {r : List Nat} : posIn (x :: r) o i = bif x == o then some i else posIn r o (i + 1) := rfl
attribute [go_sem] rep_zero rep_one rep_two rep_three rep_four fillA_nil fillA_cons fillK_some mkObj_0 mkObj_1 mkObj_2 mkObj_3 mkObj_4
theorem getT_put {T : Tmps} {t k : Nat} {v : AV} : getT (setT T t v) k = bif t == k then v else getT T k := by
  rw [getT_setT]
  by_cases h : k = t
  · subst h; simp
  · have : (t == k) = false := by simp; exact fun e => h e.symm
    rw [if_neg h, this]; rfl
theorem ints_get {l : List Int} {i : Nat} : (ints l)[i]? = (l[i]?).map (FV.int .i64) := by simp [ints]
theorem ints_set {l : List Int} {i : Nat} {v : Int} : (ints l).set i (.int .i64 v) = ints (l.set i v) := by simp [ints, List.map_set]
/-- the element -/
def nth (l : List Int) (i : Nat) : Int := l.getD i 0
theorem get_nth {l : List Int} {i : Nat} (h : i < l.length) : l[i]? = some (nth l i) := by
  rw [nth, List.getD_eq_getElem?_getD, List.getElem?_eq_getElem h]; rfl
theorem toNat_cast {i : Nat} : ((i : Nat) : Int).toNat = i := Int.toNat_natCast i
theorem ints_scalar {l : List Int} : (ints l).all FV.scalar = true := by simp [ints, FV.scalar]
theorem wrap_pred {k : Nat} (h : k ≤ 1000000000) : IntKind.i64.wrap (((k + 1 : Nat) : Int) - 1) = (k : Int) := by
  rw [IntWalk.i64_in _ (by omega)]; omega
theorem stO_ints {l : List Int} {v : Int} {ex nl : Bool} {off : Nat} (h : off < l.length) : stO (.arr (ints l) ex nl) off [.f (.int .i64 v)] = some (.arr (ints (l.set off v)) ex nl) := by
  rw [stO_arr1 (by rw [ints_len]; exact h), ints_set]
theorem inb {i n : Nat} (h : i < n) : ((0 : Int) ≤ ((i : Nat) : Int) ∧ ((i : Nat) : Int) < ((n : Nat) : Int)) = True := by simp; omega
theorem pos_t {j : Nat} : decide (((j + 1 : Nat) : Int) > 0) = true := by simp
theorem pos_f : decide (((0 : Nat) : Int) > 0) = false := rfl
theorem refs_ofFV (v : FV) : (ofFV v).refs = [] := by
  cases v with
  | agg l =>
    simp only [ofFV_agg, AV.refs]
    induction l with
    | nil => rfl
    | cons a l ih => simp only [List.map_cons, AV.refsL, AV.refs, ih]; rfl
  | _ => rfl
theorem refsL_ofFV (l : List FV) : AV.refsL (l.map ofFV) = [] := by
  induction l with
  | nil => rfl
  | cons a l ih => simp only [List.map_cons, AV.refsL, refs_ofFV, ih]; rfl
/-- nil, or not -/
def NilOk (nl : Bool) (n : Nat) : Prop := nl = true → n = 0
theorem lenS_mk {nl : Bool} {cs : List FV} {n : Nat} {c : Bool} (h : NilOk nl n) : lenS (.f (mkSl nl cs n c)) = some (.f (.int .i64 n)) := by
  cases nl with
  | false => rfl
  | true => rw [h rfl]; rfl
theorem iaS_mk {k : Nat} {nl : Bool} {cs : List FV} {n : Nat} {c : Bool} {i : Int} (h : NilOk nl n) (hi : 0 ≤ i ∧ i < n) : iaS k (.f (mkSl nl cs n c)) i = some ⟨.f (.ptr cs (i.toNat * k)), [], []⟩ := by
  cases nl with
  | false => exact iaS_f hi
  | true => have := h rfl; omega
theorem refs_f {v : FV} : (AV.f v).refs = [] := rfl
theorem wrap_lit0 : IntKind.i64.wrap (0 + 1) = ((1 : Nat) : Int) := rfl
theorem doYield_eq {C : Knot} {b : Nat} {σ : Nat → AObj} {lvl : Nat} {args : List AV} {Y : List Ctx} : doYield C b σ lvl args Y =
    match freezeL args (toList' σ b) with
    | some (fs, σ1) => (match yieldV C lvl fs Y with | some (t, Y') => some (⟨.f (.bool t), wrOf (toList' σ b) σ1, []⟩, Y') | none => none)
    | none => none := by
  unfold doYield yieldV
  cases Y[lvl]? with
  | none => cases freezeL args (toList' σ b) <;> rfl
  | some c =>
    cases freezeL args (toList' σ b) with
    | none => rfl
    | some q =>
      obtain ⟨fs, σ1⟩ := q
      simp only
      by_cases h : (c.jump.isSome || c.params.length != fs.length) = true
      · rw [if_pos h, if_pos h]
      · rw [if_neg h, if_neg h]
        cases C.code c.fn c.assign { tmps := setParams c.tmps c.params (fs.map ofFV), σ := c.σ, pin := c.keep } (Y.take lvl) with
        | none => rfl
        | some q =>
          obtain ⟨e1, st1, Y1⟩ := q
          cases e1 with
          | norm =>
            simp only
            cases C.code c.fn c.body st1 Y1 with
            | none => rfl
            | some q2 =>
              obtain ⟨e2, st2, Y2⟩ := q2
              simp only
              by_cases h2 : (Y2.length != lvl) = true
              · rw [if_pos h2, if_pos h2]
              · rw [if_neg h2, if_neg h2]; cases e2 <;> rfl
          | ret => rfl
          | exit i => rfl
def yldF (C : Knot) (lvl : Nat) (s0 : List AObj) (z : Option (List FV × List AObj)) (Y : List Ctx) : Option (Eff × List Ctx) :=
  match z with
  | some (fs, σ1) => (match yieldV C lvl fs Y with | some (t, Y') => some (⟨.f (.bool t), wrOf s0 σ1, []⟩, Y') | none => none)
  | none => none
def yldW (w : List (Nat × AObj)) (x : Option (Bool × List Ctx)) : Option (Eff × List Ctx) := match x with | some (t, Y') => some (⟨.f (.bool t), w, []⟩, Y') | none => none
theorem yldW_some {w : List (Nat × AObj)} {t : Bool} {Y : List Ctx} : yldW w (some (t, Y)) = some (⟨.f (.bool t), w, []⟩, Y) := rfl
theorem yldW_none {w : List (Nat × AObj)} : yldW w none = none := rfl
theorem doYield_F {C : Knot} {b : Nat} {σ : Nat → AObj} {lvl : Nat} {args : List AV} {Y : List Ctx} : doYield C b σ lvl args Y = yldF C lvl (toList' σ b) (freezeL args (toList' σ b)) Y := doYield_eq
theorem yldF_some {C : Knot} {lvl : Nat} {s0 s1 : List AObj} {fs : List FV} {Y : List Ctx} : yldF C lvl s0 (some (fs, s1)) Y = yldW (wrOf s0 s1) (yieldV C lvl fs Y) := rfl
theorem wrOf_self {s : List AObj} : wrOf s s = [] := wrGo_self s 0
theorem setP_cons {T : Tmps} {p : Nat} {ps : List Nat} {v : AV} {vs : List AV} : setParams T (p :: ps) (v :: vs) = setParams (setT T p v) ps vs := rfl
theorem setP_nil {T : Tmps} {ps : List Nat} : setParams T ps [] = T := by cases ps <;> rfl
theorem convA_int {P : Program} {s d : TypeId} {ks kd k : IntKind} {n : Int} (hs : P.underlying s = some (.int ks)) (hd : P.underlying d = some (.int kd)) : convA P s d (.f (.int k n)) = some (.f (.int kd (kd.wrap n))) := by
  unfold convA; rw [hs, hd]
theorem zero_cast : ((0 : Nat) : Int) = 0 := rfl
theorem pos_f' : decide ((0 : Int) > 0) = false := rfl
/-! rounds of a range over a sequence -/
def rngB (C : Knot) (f : FuncId) (ps : List Nat) (assign body : Code) (keep : Nat) (T : Tmps) (r : List (List FV)) (n : Nat) (x : Out) : Option (Option AExit × List AObj × List Ctx) :=
  match x with
  | some (e, st2, Y2) =>
    if Y2.length != n then none else
    match e with
    | .norm => rngGo C f ps assign body keep T r (gcS st2.σ (gcIds st2.σ keep [])) Y2
    | e => some (some e, gcS st2.σ (gcIds st2.σ keep []), Y2)
  | none => none
def rngA (C : Knot) (E : Env) (f : FuncId) (ps : List Nat) (assign body : Code) (keep : Nat) (T : Tmps) (r : List (List FV)) (n : Nat) (x : Out) : Option (Option AExit × List AObj × List Ctx) :=
  match x with
  | some (.norm, st1, Y1) => rngB C f ps assign body keep T r n (runK C E f [.code 0 body] .norm st1 Y1)
  | _ => none
section
variable {E : Env} {f : FuncId} {ps : List Nat} {assign body : Code} {keep n p : Nat} {T T2 : Tmps} {r : List (List FV)} {fs : List FV} {σ : List AObj} {Y : List Ctx} {C : Knot}
theorem rngGo_nil : rngGo C f ps assign body keep T [] σ Y = some (none, σ, Y) := rfl
theorem rngGo_cons (h : ps.length = fs.length) : rngGo (limK E) f ps assign body keep T (fs :: r) σ Y =
    rngA (limK E) E f ps assign body keep T r Y.length (runK (limK E) E f [.code 0 assign] .norm ⟨setParams T ps (fs.map ofFV), σ, keep⟩ Y) := by
  simp only [rngGo, rngA, rngB, limK_code_eq, evA_run]
  rw [if_neg (by simp [h])]
  cases runK (limK E) E f [.code 0 assign] .norm ⟨setParams T ps (fs.map ofFV), σ, keep⟩ Y with
  | none => rfl
  | some q => obtain ⟨e, st, Y'⟩ := q; cases e <;> rfl
theorem rngA_norm {st1 : St} : rngA C E f ps assign body keep T r n (some (.norm, st1, Y)) = rngB C f ps assign body keep T r n (runK C E f [.code 0 body] .norm st1 Y) := rfl
theorem rngB_norm (h : Y.length = n) : rngB C f ps assign body keep T r n (some (.norm, ⟨T2, σ, p⟩, Y)) = rngGo C f ps assign body keep T r (gcS σ (gcIds σ keep [])) Y := by
  simp [rngB, h]
theorem rngB_ret (h : Y.length = n) : rngB C f ps assign body keep T r n (some (.ret, ⟨T2, σ, p⟩, Y)) = some (some .ret, gcS σ (gcIds σ keep []), Y) := by
  simp [rngB, h]
theorem rngB_exit {i : Nat} (h : Y.length = n) : rngB C f ps assign body keep T r n (some (.exit i, ⟨T2, σ, p⟩, Y)) = some (some (.exit i), gcS σ (gcIds σ keep []), Y) := by
  simp [rngB, h]
theorem rngB_none : rngB C f ps assign body keep T r n none = none := rfl
@[congr] theorem rngA_congr {x x' : Out} (h : x = x') : rngA C E f ps assign body keep T r n x = rngA C E f ps assign body keep T r n x' := by rw [h]
@[congr] theorem rngB_congr {x x' : Out} (h : x = x') : rngB C f ps assign body keep T r n x = rngB C f ps assign body keep T r n x' := by rw [h]
def drwR (c : Bool) (x : Option (Option AExit × List AObj × List Ctx)) : Option (Option AExit × List AObj × List Ctx) := bif c then x else none
theorem drwR_ok {c : Bool} {x : Option (Option AExit × List AObj × List Ctx)} (h : c = true) : drwR c x = x := by subst h; rfl
theorem rngB_drw {c : Bool} {x : Out} : rngB C f ps assign body keep T r n (drwEnd c x) = drwR c (rngB C f ps assign body keep T r n x) := by cases c <;> rfl
@[congr] theorem drwR_congr {c : Bool} {x x' : Option (Option AExit × List AObj × List Ctx)} (h : x = x') : drwR c x = drwR c x' := by rw [h]
end
/-- the codes of a range over a function in block 'id' -/
def rngIn (id : Nat) (inside : Bool) : Code → Option (Code × Code)
  | .seq a b => match rngIn id inside a with | some c => some c | none => rngIn id inside b
  | .cond _ a b => match rngIn id inside a with | some c => some c | none => rngIn id inside b
  | .block i b => rngIn id (i == id) b
  | .loop b => rngIn id false b
  | .rangeFunc _ _ a b => if inside then some (a, b) else match rngIn id false a with | some c => some c | none => rngIn id false b
  | _ => none
def rp (f : Func) (id : Nat) : Code × Code := ((f.body.bind (rngIn id (id == 0))).getD (.skip, .skip))
theorem app_nils1 {σ : Nat → AObj} {b : Nat} {v : Int} : appendA σ b 1 (.f .nils) [.int .i64 v] 1 = some ⟨.sl b 0 1 1 false, [], [.arr (ints [v]) false false]⟩ :=
  app_nils ⟨by omega, rfl, rfl, by omega, by omega⟩
def frzR (x : Option (List FV × List AObj)) : Option (List AV × List AObj) := match x with | some (fs, s) => some (fs.map ofFV, s) | none => none
theorem freezeRes_eq {l : List AV} {s : List AObj} : freezeRes l s = frzR (freezeL l s) := by
  unfold freezeRes frzR
  cases freezeL l s <;> rfl
theorem frzR_some {fs : List FV} {s : List AObj} : frzR (some (fs, s)) = some (fs.map ofFV, s) := rfl
def iota (n : Nat) : List Int := (List.range n).map Int.ofNat
theorem iota_succ (n : Nat) : iota n ++ [(n : Int)] = iota (n + 1) := by simp [iota, List.range_succ]
theorem iota_len (n : Nat) : (iota n).length = n := by simp [iota]
theorem sliceA_to {σ : Nat → AObj} {size n k : Nat} {cs : List FV} {nl c : Bool} (hk : k ≤ n) (hn : NilOk nl n) (hl : cs.length = n * size) :
    sliceA σ size (.f (mkSl nl cs n c)) none (some (.f (.int .i64 (k : Int)))) none = some (.f (mkSl nl (cs.take (k * size)) k (c && (k == n)))) := by
  cases nl with
  | true =>
    have := hn rfl
    subst this
    have : k = 0 := by omega
    subst this
    rfl
  | false =>
    have hb : (((k : Int)) == ((n : Nat) : Int)) = (k == n) := by
      by_cases e : k = n
      · subst e; rw [beq_self_eq_true, beq_self_eq_true]
      · rw [beq_eq_false_iff_ne.2 e, beq_eq_false_iff_ne.2 (by omega)]
    simp only [mkSl_f, sliceA, bndA, idxA, Option.isSome_none, Bool.false_and, Bool.false_eq_true, if_false, Option.isNone_none, if_true]
    rw [if_pos ⟨Int.le_refl 0, by omega, by omega, Int.le_refl _, hl⟩]
    simp [hb]
theorem optMap_none {α β : Type} {f : α → β} : (none : Option α).map f = none := rfl
theorem sliceOf_succ {α : Type} {x : α} {l : List α} {o n : Nat} : sliceOf (x :: l) (o + 1) n = sliceOf l o n := rfl
theorem sliceOf_00 {α : Type} {l : List α} : sliceOf l 0 0 = some [] := by simp [sliceOf]
def cons1 {α : Type} (x : α) (y : Option (List α)) : Option (List α) := match y with | some l => some (x :: l) | none => none
theorem cons1_some {α : Type} {x : α} {l : List α} : cons1 x (some l) = some (x :: l) := rfl
theorem sliceOf_0 {α : Type} {x : α} {l : List α} {n : Nat} : sliceOf (x :: l) 0 (n + 1) = cons1 x (sliceOf l 0 n) := by
  unfold sliceOf cons1
  simp only [List.drop_zero, List.take_succ_cons, List.length_cons]
  by_cases h : (l.take n).length = n
  · rw [if_pos (by omega), if_pos h]
  · rw [if_neg (by omega), if_neg h]
theorem mul_one' {n : Nat} : n * 1 = n := Nat.mul_one n
attribute [go_sem] rngB_drw sliceOf_succ sliceOf_00 cons1_some sliceOf_0 setL_nil setL_cons optMap_none bldV_some freezeRes_eq frzR_some app_nils1 rngGo_nil rngGo_cons rngA_norm rngB_drw rngB_norm rngB_ret rngB_exit rngB_none zero_cast pos_f' refsL_ofFV lenS_mk iaS_mk refs_f wrap_lit0 yldW_some yldW_none doYield_F yldF_some wrOf_self setP_cons setP_nil limK_code_eq evA_run stO_ints Int.ofNat_lt Int.ofNat_le true_and and_true pos_t pos_f List.length_set getT_put ints_get ints_set toNat_cast ints_scalar mul_one' ints_len Int.ofNat_nonneg
attribute [go_sem] beq_self_eq_true decide_true decide_false List.cons_append List.nil_append List.length_cons List.length_nil List.map_cons List.map_nil List.append_nil List.getElem?_cons_zero List.getElem?_cons_succ
 sliceOf_all map_some' normA_none normA_some adoptA_nil adT_nils adT_sl adT_fsl adoptA_t normB_eq reach_nil reach_cons fuel_eq gcS gcIds refs_box refs_arr refs_frz refs_dead renO_box renO_arr renO_frz renO_dead ren_sl ren_ptr renS_some ren_f ren_yld ren_fn ren_agg ren_tup renL_nil renL_cons posIn_nil posIn_cons
 List.contains_cons List.contains_nil Bool.or_false Bool.false_or Bool.true_or Bool.or_true List.range_zero renT refsT List.set_cons_zero List.set_cons_succ Bool.not_true Bool.not_false shiftR
attribute [go_sem] wrOk_nil wrOk_cons maskO_in evalR_tmp evalR_const evalR_func opT_nil opT_tmp opT_const opT_func newIds_nil newIds_cons padN_nil padN_cons fsts_nil fsts_cons guardL_zero guardL_succ backK_drw contK_drw drw_drw refs_load refs_store refs_binOp refs_move refs_assign refs_pick refs_alloc refs_boxo refs_build refs_buildSlice refs_nilCheck refs_unOp refs_convert refs_makeFunc refs_makeSlice refs_slice refs_fieldAddr refs_field refs_indexAddr refs_index refs_extract refs_append refs_max refs_min refs_copy refs_cap ops_move ops_assign ops_box ops_load ops_nilCheck ops_unOp ops_convert ops_fieldAddr ops_field ops_extract ops_pick ops_alloc ops_store ops_binOp ops_makeSlice ops_indexAddr ops_index sndO_nil sndO_cons ops_build ops_buildSlice ops_makeFunc optO_none optO_some ops_slice ops_builtin
attribute [go_sem] callM_br callM_fz callM_mv doCall_eq List.isEmpty_nil List.isEmpty_cons idsOk_nil idsOk_cons mvK_ids mf2_some mf1_some mapMF_nil mapMF_cons freezeL_eq frz_f fzSl_some frz_sl fzPtr_some frz_ptr fzFn2_some fzFn1_some frz_fn fzAgg_some frz_agg fzB2_box fzB_some fzO_arr fzO_frz fzO_box frzObj_eq mkSl_f mkSl_t ofFV_agg ofFV_int ofFV_bool ofFV_sl ofFV_ptr ofFV_nils ofFV_fn ofFV_mkSl toL_zero toL_succ wrOf_eq wrG_nil wrG_ff wrG_af wrG_bf wrG_aa wrG_bb wrG_dd backR_lt backR_ge noMem_int noMem_bool noMem_nils noMem_sl noMem_ptr noMem_tup noMem_agg noMemL_nil noMemL_cons noMemO_arr noMemO_box noMemO_dead List.all_nil List.all_cons Bool.and_true Bool.true_and List.zip_cons_cons List.zip_nil_right List.zip_nil_left List.drop_succ_cons List.drop_zero List.drop_nil Nat.add_zero Nat.zero_add
attribute [go_sem] isCall_move isCall_assign isCall_pick isCall_alloc isCall_box isCall_build isCall_buildSlice isCall_load isCall_store isCall_nilCheck isCall_binOp isCall_unOp isCall_convert isCall_makeFunc isCall_makeSlice isCall_slice isCall_fieldAddr isCall_field isCall_indexAddr isCall_index isCall_extract isCall_makeInterface isCall_builtin 
 effK_val 
 getT_nil getT_cons putDst_some putDst_none evalO_tmp evalO_int evalO_bool evalO_str evalO_nils evalO_nilp evalO_nilm evalO_nilf evalO_nili evalO_func atO_zero atO_succ putWr_nil putWr_cons
 effV_some effV_none opA_move opA_assign pickV_b opA_pick allocV_some opA_alloc opA_box opA_load opA_store opA_nilCheck opA_binOp opA_unOp opA_convert opA_makeFunc extV_tup opA_extract faV_ptr faV_fptr fieldV_s fieldV_a opA_field
 iaS_f iaS_o iaA_o iaA_f idxV_int ldO_box ldO_arr ldO_frz ldV_f ldV_o ldN_box ldN_arr ldN_frz loadA_f
 wrV_some storeV_o stO_box stO_arr1 setCells_nil setCells_cons cellsOf_f cellsOf_agg cellsOf_sl cellsOf_ptr cellsOf_fn cellsOf_yld opA_builtin blt_len lenS_nils lenS_f lenS_o blt_max blt_min mm_max mm_min
 bin_lss bin_leq bin_gtr bin_geq bin_eql bin_neq bin_add bin_sub bin_mul un_not
 mkslV_nat bslV_some appE_some comesS_nils comesS_f comesS_o comesO_arr comesO_frz
 callOp_disp disp_f disp_ff disp_fn disp_yld retP_some brK_some brR_some fzK_some fzR_some mvR_some 
 resL finK_norm finK_ret finK_none fzRes_no fzRes_fz gcR_some cfg_fz gcIds_nil gcS_nil one_one one_two one_nil 
 AV.refsL AV.refs argT
attribute [go_sem ↓] run_ret run_nil run_endb run_exit_end run_exit_code cont_some cont_none run_skip run_label run_codeRet run_exit run_region run_regionD run_seq run_block condK_b run_cond run_loop run_range run_ops_nil wantK_t wantK_f wantK_no wantG_some ifO_true ifO_false run_call run_op run_drw_nil run_drw_op run_drw_call run_drw_g run_g effK_valN effK_newN effK_wN effYK_wN dEff_valN dEff_newN dEff_wrN backK_norm backK_exit backK_ret backK_none effK_none effYK_none dEff_none dEffY_some dEffY_none cond_true cond_false
attribute [go_sem] runN_run liveT_asc ascB_0 ascB_1 ascB_2
end Go.AM
