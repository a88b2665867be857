/-
The abstract machine: values, stores, operations; the relation to the model.
-/
import Derived.RangeFuncCalls
import Derived.RangeFuncIn
import Derived.OrdersIn
import Derived.Laws.Cells
set_option linter.unusedVariables false
set_option linter.unusedSimpArgs false
namespace Go.AM

inductive FV where
  | int (k : IntKind) (n : Int)
  | bool (b : Bool)
  | str (s : ByteArray)
  | nilp | nils | nilm | nilf | nili
  | agg (l : List FV)
  | sl (cells : List FV) (len : Nat) (clip : Bool)
  | ptr (cells : List FV) (off : Nat)
  | fn (f : FuncId) (first cap : List FV)
  | iface (t : TypeId) (v : FV)
  deriving Inhabited

inductive AV where
  | f (v : FV)
  | sl (o off len esz : Nat) (clip : Bool)
  | ptr (o off : Nat)
  | fn (f : FuncId) (first cap : List AV)
  | iface (t : TypeId) (v : AV)
  | mp (o : Nat)
  | yld (lvl : Nat)
  | agg (l : List AV)
  | tup (l : List AV)
  | bot
  deriving Inhabited

inductive AObj where
  | box (cells : List AV)
  | arr (cells : List FV) (exact isNil : Bool)
  | frz (cells : List FV)
  | map (es : List (FV × FV))
  | dead
  deriving Inhabited

abbrev Tmps := List (Nat × AV)

def getT : Tmps → Nat → AV
  | [], _ => .bot
  | (k, v) :: r, t => bif k == t then v else getT r t

def setT : Tmps → Nat → AV → Tmps
  | [], t, v => [(t, v)]
  | (k, x) :: r, t, v => bif k == t then (t, v) :: r else bif t < k then (t, v) :: (k, x) :: r else (k, x) :: setT r t v

structure St where
  tmps : Tmps
  σ : List AObj
  pin : Nat
  deriving Inhabited

inductive AExit where
  | norm
  | exit (id : Nat)
  | ret
  deriving Inhabited

structure Ctx where
  tmps : Tmps
  σ : List AObj
  keep : Nat
  fn : FuncId
  params : List Nat
  assign : Code
  body : Code
  jump : Option AExit
  deriving Inhabited

inductive Mode where
  | br | fz | mv
  deriving DecidableEq, Inhabited

structure Cfg where
  mode : Mode := .br
  retFz : Bool := false
  deriving Inhabited

structure LoopAnn where
  live : List Nat
  /-- nil slices made objects at the loop's head: (tmp, cell of the box that it points to, or none; the element's size) -/
  adopt : List (Nat × Option Nat × Nat) := []
  deriving Inhabited

structure Env where
  P : Program
  fn : FuncId → Option Func
  cfg : FuncId → Cfg
  loops : FuncId → Nat → Option LoopAnn

structure Eff where
  val : AV
  wr : List (Nat × AObj)
  news : List AObj
  deriving Inhabited

structure Knot where
  call : FuncId → List AV → List AObj → List Ctx → Option (AV × List AObj × List Ctx)
  code : FuncId → Code → St → List Ctx → Option (AExit × St × List Ctx)
  loop : FuncId → Nat → Code → St → List Ctx → Option (AExit × St × List Ctx)

/-! ### values -/

def FV.scalar : FV → Bool
  | .int .. | .bool _ | .str _ | .nilp | .nils | .nilm | .nilf | .nili => true
  | _ => false

def ofFV : FV → AV
  | .agg l => .agg (l.map .f)
  | v => .f v

mutual
def cellOfV : Value → Option FV
  | .int k n => some (.int k n)
  | .bool b => some (.bool b)
  | .string s => some (.str s)
  | .pointer none => some .nilp
  | .slice none 0 0 => some .nils
  | .map none => some .nilm
  | .nilFunc => some .nilf
  | .nilIface => some .nili
  | _ => none
end

def ofV : Value → Option AV
  | .agg cs => (cs.toList.mapM cellOfV).map fun l => .agg (l.map .f)
  | v => (cellOfV v).map .f

/-- The cells of a value that may be stored. -/
def cellsOf : AV → Option (List AV)
  | .agg l => some l
  | .tup _ | .bot => none
  | v => some [v]

def unF : List AV → Option (List FV)
  | [] => some []
  | .f v :: r => (unF r).map (v :: ·)
  | _ => none

def atO (σ : List AObj) (o : Nat) : AObj := (σ[o]?).getD .dead

def mkSl (isNil : Bool) (cells : List FV) (len : Nat) (clip : Bool) : FV := bif isNil then .nils else .sl cells len clip

mutual
def AV.refs : AV → List Nat
  | .sl o .. => [o]
  | .ptr o _ => [o]
  | .mp o => [o]
  | .fn _ a b => AV.refsL a ++ AV.refsL b
  | .iface _ v => v.refs
  | .agg l => AV.refsL l
  | .tup l => AV.refsL l
  | .f _ | .yld _ | .bot => []
def AV.refsL : List AV → List Nat
  | [] => []
  | v :: r => v.refs ++ AV.refsL r
end

mutual
def AV.ren (m : Nat → Option Nat) : AV → AV
  | .sl o off len esz clip => match m o with | some o' => .sl o' off len esz clip | none => .bot
  | .ptr o off => match m o with | some o' => .ptr o' off | none => .bot
  | .mp o => match m o with | some o' => .mp o' | none => .bot
  | .fn g a b => .fn g (AV.renL m a) (AV.renL m b)
  | .iface t v => .iface t (v.ren m)
  | .agg l => .agg (AV.renL m l)
  | .tup l => .tup (AV.renL m l)
  | .f v => .f v
  | .yld l => .yld l
  | .bot => .bot
def AV.renL (m : Nat → Option Nat) : List AV → List AV
  | [] => []
  | v :: r => v.ren m :: AV.renL m r
end

def AObj.ren (m : Nat → Option Nat) : AObj → AObj
  | .box cells => .box (AV.renL m cells)
  | x => x

def AObj.refs : AObj → List Nat
  | .box cells => AV.refsL cells
  | _ => []

/-- What can be reached, in the order in which it is found. -/
def reach (σ : Nat → AObj) : Nat → List Nat → List Nat → List Nat
  | 0, _, seen => seen
  | _ + 1, [], seen => seen
  | n + 1, o :: todo, seen => bif seen.contains o then reach σ n todo seen else reach σ n (todo ++ (σ o).refs) (seen ++ [o])

def reachFuel : Nat := 400

def posIn : List Nat → Nat → Nat → Option Nat
  | [], _, _ => none
  | x :: r, o, i => bif x == o then some i else posIn r o (i + 1)

/-- The store with the first 'keep' objects as they are, then what is reached from them and the roots; the renaming. -/
def gcIds (σ : List AObj) (keep : Nat) (roots : List Nat) : List Nat :=
  reach (atO σ) reachFuel (List.range keep ++ roots) []

def gcS (σ : List AObj) (ids : List Nat) : List AObj := ids.map fun o => (atO σ o).ren (fun x => posIn ids x 0)

/-! ### frozen copies -/

def mapMF (g : AV → List AObj → Option (FV × List AObj)) : List AV → List AObj → Option (List FV × List AObj)
  | [], σ => some ([], σ)
  | v :: r, σ =>
    match g v σ with
    | some (x, σ1) =>
      match mapMF g r σ1 with
      | some (xs, σ2) => some (x :: xs, σ2)
      | none => none
    | none => none

/-- The value frozen, with the store in which all that it reaches is frozen. -/
def freeze : Nat → AV → List AObj → Option (FV × List AObj)
  | 0, _, _ => none
  | n + 1, v, σ =>
    let obj (o : Nat) : Option (Bool × List FV × List AObj) :=
      match atO σ o with
      | .arr cells _ isNil => some (isNil, cells, bif isNil then σ else σ.set o (.frz cells))
      | .frz cells => some (false, cells, σ)
      | .box cells =>
        match mapMF (freeze n) cells σ with
        | some (cs, σ1) => match atO σ1 o with | .box _ => some (false, cs, σ1.set o (.frz cs)) | _ => none
        | none => none
      | _ => none
    match v with
    | .f x => some (x, σ)
    | .sl o off len esz clip =>
      match obj o with
      | some (isNil, cells, σ1) => some (mkSl isNil ((cells.drop off).take (len * esz)) len clip, σ1)
      | none => none
    | .ptr o off =>
      match obj o with
      | some (false, cells, σ1) => some (.ptr cells off, σ1)
      | _ => none
    | .fn g a b =>
      match mapMF (freeze n) a σ with
      | some (a', σ1) =>
        match mapMF (freeze n) b σ1 with
        | some (b', σ2) => some (.fn g a' b', σ2)
        | none => none
      | none => none
    | .iface t x => match freeze n x σ with | some (x', σ1) => some (.iface t x', σ1) | none => none
    | .agg l => match mapMF (freeze n) l σ with | some (l', σ1) => some (.agg l', σ1) | none => none
    | _ => none

def freezeFuel : Nat := 12

def freezeL (l : List AV) (σ : List AObj) : Option (List FV × List AObj) := mapMF (freeze freezeFuel) l σ

mutual
def AV.noMem : AV → Bool
  | .f v => v.scalar
  | .sl .. | .ptr .. | .mp .. => true
  | .agg l => AV.noMemL l
  | .tup l => AV.noMemL l
  | _ => false
def AV.noMemL : List AV → Bool
  | [] => true
  | v :: r => v.noMem && AV.noMemL r
end

def AObj.noMem : AObj → Bool
  | .box cells => AV.noMemL cells
  | .arr cells _ _ => cells.all FV.scalar
  | .dead => true
  | _ => false

/-! ### memory -/

def sliceOf {α : Type} (cells : List α) (off n : Nat) : Option (List α) :=
  let l := (cells.drop off).take n
  if l.length = n then some l else none

def loadCells (σ : Nat → AObj) (a : AV) (n : Nat) : Option (List AV) :=
  match a with
  | .f (.ptr cells off) => (sliceOf cells off n).map fun l => l.map .f
  | .ptr o off =>
    match σ o with
    | .box cells => sliceOf cells off n
    | .arr cells _ _ => (sliceOf cells off n).map fun l => l.map .f
    | .frz cells => (sliceOf cells off n).map fun l => l.map .f
    | _ => none
  | _ => none

def setCells {α : Type} : List α → Nat → List α → List α
  | cells, _, [] => cells
  | cells, off, v :: r => setCells (cells.set off v) (off + 1) r

def storeCells (σ : Nat → AObj) (a : AV) (l : List AV) : Option (List (Nat × AObj)) :=
  match a with
  | .ptr o off =>
    match σ o with
    | .box cells => if off + l.length ≤ cells.length then some [(o, .box (setCells cells off l))] else none
    | .arr cells ex isNil =>
      match unF l with
      | some l' => if off + l'.length ≤ cells.length then some [(o, .arr (setCells cells off l') ex isNil)] else none
      | none => none
    | _ => none
  | _ => none

def isAggT (P : Program) (t : TypeId) : Option Bool :=
  match P.underlying t with
  | some (.struct _) | some (.array _ _) => some true
  | some _ => some false
  | none => none

def sizeT (P : Program) (t : TypeId) : Option Nat := (P.info? t).map (·.size)

def loadA (P : Program) (σ : Nat → AObj) (t : TypeId) (a : AV) : Option AV :=
  match isAggT P t with
  | some true => match sizeT P t with | some n => (loadCells σ a n).map .agg | none => none
  | some false => match loadCells σ a 1 with | some [v] => some v | _ => none
  | none => none

def zeroA (P : Program) (t : TypeId) : Option AV := ((P.info? t).bind (·.zero)).bind ofV

/-- Parts laid into cells. -/
def fillA (place : Nat → Option (Nat × Nat)) (cells : List AV) : List (Nat × AV) → Option (List AV)
  | [] => some cells
  | (i, v) :: rest =>
    match place i, cellsOf v with
    | some (off, size), some cs => if cs.length = size ∧ off + size ≤ cells.length then fillA place (setCells cells off cs) rest else none
    | _, _ => none

def repCells (n : Nat) (z : List AV) : List AV := (List.replicate n z).flatten

def mkObj (cells : List AV) : AObj :=
  match unF cells with
  | some l => .arr l true false
  | none => .box cells

/-! ### arithmetic -/

def nowS {α : Type} : Sem α → Option α
  | .pure a => some a
  | _ => none

def scalV : FV → Option Value
  | .int k n => some (.int k n)
  | .bool b => some (.bool b)
  | .str s => some (.string s)
  | _ => none

def allEq : List Bool → Bool
  | [] => true
  | b :: r => b && allEq r

/-- Two values of a comparable type without addresses. -/
def eqA (P : Program) : Nat → TypeId → List AV → List AV → Option Bool
  | 0, _, _, _ => none
  | n + 1, t, xs, ys =>
    match P.underlying t with
    | some .bool => match xs, ys with | [.f (.bool a)], [.f (.bool b)] => some (a == b) | _, _ => none
    | some (.int _) => match xs, ys with | [.f (.int k a)], [.f (.int k' b)] => if k = k' then some (a == b) else none | _, _ => none
    | some .string => match xs, ys with | [.f (.str a)], [.f (.str b)] => some (a == b) | _, _ => none
    | some (.struct fields) =>
      if P.stoodInHeld t then none else
      fields.toList.foldr (fun fd acc =>
        match acc with
        | none => none
        | some r =>
          if fd.name = "_" then some r else
          match sizeT P fd.type with
          | none => none
          | some m =>
            match sliceOf xs fd.offset m, sliceOf ys fd.offset m with
            | some x, some y => (eqA P n fd.type x y).map (· && r)
            | _, _ => none) (some true)
    | some (.array len elem) =>
      match sizeT P elem with
      | none => none
      | some m =>
        (List.range len).foldr (fun i acc =>
          match acc with
          | none => none
          | some r =>
            match sliceOf xs (i * m) m, sliceOf ys (i * m) m with
            | some x, some y => (eqA P n elem x y).map (· && r)
            | _, _ => none) (some true)
    | _ => none

def eqFuel : Nat := 20

def isNilS (σ : Nat → AObj) : AV → Option Bool
  | .f .nils => some true
  | .f (.sl ..) => some false
  | .sl o .. => match σ o with | .arr _ _ isNil => some isNil | .box _ | .frz _ => some false | _ => none
  | _ => none

def isNilF : AV → Option Bool
  | .f .nilf => some true
  | .f (.fn ..) | .fn .. | .yld _ => some false
  | _ => none

def binA (P : Program) (σ : Nat → AObj) (op : BinOp) (t : TypeId) (x y : AV) : Option AV :=
  match x, y with
  | .f (.int k a), .f (.int k' b) => ((nowS (binOp op t (.int k a) (.int k' b))).bind cellOfV).map .f
  | .f (.str a), .f (.str b) => ((nowS (Op.stringOp op a b)).bind cellOfV).map .f
  | .f (.bool a), .f (.bool b) =>
    match op, P.underlying t with
    | .eql, some .bool => some (.f (.bool (a == b)))
    | .neq, some .bool => some (.f (.bool (!(a == b))))
    | _, _ => none
  | .agg xs, .agg ys =>
    if P.eqGuardType P.depth t || isAggT P t != some true then none else
    match op with
    | .eql => (eqA P eqFuel t xs ys).map fun b => .f (.bool b)
    | .neq => (eqA P eqFuel t xs ys).map fun b => .f (.bool !b)
    | _ => none
  | x, .f .nils =>
    match op, P.underlying t with
    | .eql, some (.slice _) => (isNilS σ x).map fun b => .f (.bool b)
    | .neq, some (.slice _) => (isNilS σ x).map fun b => .f (.bool !b)
    | _, _ => none
  | x, .f .nilf =>
    match op, P.underlying t with
    | .eql, some (.func ..) => (isNilF x).map fun b => .f (.bool b)
    | .neq, some (.func ..) => (isNilF x).map fun b => .f (.bool !b)
    | _, _ => none
  | _, _ => none

def unA (op : UnOp) (x : AV) : Option AV :=
  match x with
  | .f (.int k n) => ((nowS (Op.unary op (.int k n))).bind cellOfV).map .f
  | .f (.bool b) => ((nowS (Op.unary op (.bool b))).bind cellOfV).map .f
  | _ => none

def convA (P : Program) (src dst : TypeId) (x : AV) : Option AV :=
  match P.underlying src, P.underlying dst, x with
  | some (.int _), some (.int k), .f (.int _ n) => some (.f (.int k (k.wrap n)))
  | some .string, some .string, .f (.str s) => some (.f (.str s))
  | _, _, _ => none

/-! ### slices -/

def idxA (x : AV) : Option Int := match x with | .f (.int _ i) => some i | _ => none

def bndA (x : Option AV) (d : Nat) : Option Int :=
  match x with
  | none => some d
  | some v => idxA v

/-- How many elements a slice of an object surely can show. -/
def knownLen (σ : Nat → AObj) (o off len esz : Nat) (clip : Bool) : Nat :=
  if clip || esz = 0 then len else
  match σ o with
  | .arr cells _ false => (cells.length - off) / esz
  | .box cells => (cells.length - off) / esz
  | _ => len

/-- x[l:h] within what is known; where a third index is not h only the bounds are looked at. -/
def sliceA (σ : Nat → AObj) (size : Nat) (x : AV) (lo hi mx : Option AV) : Option AV :=
  if mx.isSome && hi.isNone then none else
  match x with
  | .f .nils =>
    match bndA lo 0, bndA hi 0, bndA mx 0 with
    | some l, some h, some m => if l = 0 ∧ h = 0 ∧ m = 0 then some (.f .nils) else none
    | _, _, _ => none
  | .f (.sl cells len clip) =>
    match bndA lo 0, bndA hi len, bndA mx len with
    | some l, some h, some m =>
      if 0 ≤ l ∧ l ≤ h ∧ h ≤ m ∧ m ≤ len ∧ cells.length = len * size then
        if mx.isNone then some (.f (.sl ((cells.drop (l.toNat * size)).take ((h - l).toNat * size)) (h - l).toNat (clip && h == len)))
        else if m = h then some (.f (.sl ((cells.drop (l.toNat * size)).take ((h - l).toNat * size)) (h - l).toNat true))
        else some .bot
      else none
    | _, _, _ => none
  | .sl o off len esz clip =>
    if esz ≠ size then none else
    match bndA lo 0, bndA hi len, bndA mx len with
    | some l, some h, some m =>
      if mx.isNone then
        if 0 ≤ l ∧ l ≤ h ∧ (h ≤ len ∨ h ≤ knownLen σ o off len esz clip) ∧ (clip = true → h = len) then
          if l = h ∧ 0 < l then some (.f (.sl [] 0 false)) else some (.sl o (off + l.toNat * size) (h - l).toNat esz clip)
        else none
      else if 0 ≤ l ∧ l ≤ h ∧ h ≤ m ∧ m ≤ len then
        if m = h then
          if l = h ∧ 0 < l then some (.f (.sl [] 0 true)) else some (.sl o (off + l.toNat * size) (h - l).toNat esz true)
        else some .bot
      else none
    | _, _, _ => none
  | _ => none

/-- What is behind a slice: is it nil, its cells, its length. -/
def viewS (σ : Nat → AObj) : AV → Option (Bool × List AV × Nat)
  | .f .nils => some (true, [], 0)
  | .f (.sl cells len _) => some (false, cells.map .f, len)
  | .sl o off len esz _ =>
    match σ o with
    | .arr cells _ isNil => some (isNil, ((cells.drop off).take (len * esz)).map .f, len)
    | .frz cells => some (false, ((cells.drop off).take (len * esz)).map .f, len)
    | .box cells => some (false, (cells.drop off).take (len * esz), len)
    | _ => none
  | _ => none

def appMax : Nat := 2 ^ 24

/-- Is there surely no room behind it? -/
def fullF : FV → Bool
  | .nils => true
  | .sl _ _ clip => clip
  | _ => false

/-- append(s, new...), what comes being cells without addresses: a new object in each case but where nothing comes to what cannot grow in place, or where there surely is room. -/
def appendA (σ : Nat → AObj) (base size : Nat) (s : AV) (new : List FV) (n : Nat) : Option Eff :=
  match viewS σ s with
  | some (isNil, old, len) =>
    if ¬ (len + n ≤ appMax ∧ old.length = len * size ∧ new.length = n * size ∧ 0 < size ∧ size ≤ 1024) then none else
    match unF old with
    | none => none
    | some old' =>
      match s with
      | .f fv =>
        if !fullF fv then none else
        if len = 0 then some ⟨.sl base 0 n size false, [], [.arr new false (isNil && n == 0)]⟩
        else if n = 0 then some ⟨s, [], []⟩
        else some ⟨.sl base 0 (len + n) size false, [], [.arr (old' ++ new) false false]⟩
      | .sl o off _ esz clip =>
        if esz ≠ size then none else
        if clip then (if n = 0 then some ⟨s, [], []⟩ else some ⟨.sl base 0 (len + n) size false, [], [.arr (old' ++ new) false false]⟩)
        else
          match σ o with
          | .arr cells ex _ =>
            if off + (len + n) * size ≤ cells.length ∧ ¬ (off = 0 ∧ len * size = cells.length) then
              -- in place, surely
              some ⟨.sl o off (len + n) size false, [(o, .arr (setCells cells (off + len * size) new) ex false)], []⟩
            else if ex && decide (cells.length < off + (len + n) * size) then
              some ⟨.sl base 0 (len + n) size false, [], [.arr (old' ++ new) false false]⟩
            else if off ≠ 0 then none
            else some ⟨.sl base 0 (len + n) size false, [(o, .dead)], [.arr (old' ++ new) false (isNil && n == 0)]⟩
          | _ => none
      | _ => none
  | none => none

def isIntT (P : Program) (u : TypeId) : Option Bool :=
  match P.underlying u with
  | some (.int _) => some true
  | some _ => some false
  | none => none

/-- What comes at the end of an append. -/
def comesA (P : Program) (σ : Nat → AObj) (elem u : TypeId) (x : AV) : Option (List FV × Nat) :=
  match isIntT P u with
  | some true =>
    match x with
    | .f (.int _ l) =>
      if 0 ≤ l ∧ l ≤ appMax then
        match (zeroA P elem).bind cellsOf with
        | some z => (unF z).map fun z' => ((List.replicate l.toNat z').flatten, l.toNat)
        | none => none
      else none
    | _ => none
  | some false =>
    match x with
    | .f (.str s) => some (s.data.toList.map fun b => .int .u8 b.toNat, s.size)
    | x =>
      match viewS σ x with
      | some (_, new, n) => (unF new).map (·, n)
      | none => none
  | none => none

/-- copy(dst, src). -/
def copyA (σ : Nat → AObj) (size : Nat) (d s : AV) : Option Eff :=
  match viewS σ s with
  | some (_, src, n) =>
    if src.length ≠ n * size then none else
    match d with
    | .f .nils => some ⟨.f (.int .i64 0), [], []⟩
    | .f (.sl _ dl _) => if min n dl = 0 then some ⟨.f (.int .i64 0), [], []⟩ else none
    | .sl o off dl esz _ =>
      if esz ≠ size then none else
      if min n dl = 0 then some ⟨.f (.int .i64 0), [], []⟩
      else (storeCells σ (.ptr o off) (src.take (min n dl * size))).map fun w => ⟨.f (.int .i64 (min n dl : Nat)), w, []⟩
    | _ => none
  | none => none

def clearA (P : Program) (σ : Nat → AObj) (elem : TypeId) (d : AV) : Option Eff :=
  match sizeT P elem, (zeroA P elem).bind cellsOf with
  | some size, some zs =>
    match d with
    | .f .nils => some ⟨.tup [], [], []⟩
    | .f (.sl _ n _) => if n = 0 then some ⟨.tup [], [], []⟩ else none
    | .sl o off n esz _ =>
      if esz ≠ size ∨ zs.length ≠ size ∨ size = 0 then none else
      if n = 0 then some ⟨.tup [], [], []⟩ else
      (storeCells σ (.ptr o off) (repCells n zs)).map fun w => ⟨.tup [], w, []⟩
    | _ => none
  | _, _ => none

/-! ### operations without calls of Go functions -/

def val (v : Option AV) : Option Eff := v.map fun x => ⟨x, [], []⟩

def mm2 (isMax : Bool) (a b : AV) : Option AV :=
  match a, b with
  | .f (.int k x), .f (.int _ y) => some (.f (.int k (bif isMax then (if y > x then y else x) else (if y < x then y else x))))
  | _, _ => none

def mmA (isMax : Bool) : List AV → Option AV
  | .f (.int k x) :: r => r.foldl (fun a b => match a with | some a => mm2 isMax a b | none => none) (some (.f (.int k x)))
  | _ => none

def lenA (P : Program) (σ : Nat → AObj) (t : TypeId) (x : AV) : Option AV :=
  match P.underlying t with
  | some .string => (match x with | .f (.str s) => some (.f (.int .i64 s.size)) | _ => none)
  | some (.array n _) => some (.f (.int .i64 n))
  | some (.pointer arr) => (match P.underlying arr with | some (.array n _) => some (.f (.int .i64 n)) | _ => none)
  | some (.slice _) =>
    match x with
    | .f .nils => some (.f (.int .i64 0))
    | .f (.sl _ len _) => some (.f (.int .i64 len))
    | .sl _ _ len _ _ => some (.f (.int .i64 len))
    | _ => none
  | some (.map _ _) =>
    match x with
    | .f .nilm => some (.f (.int .i64 0))
    | .mp o => match σ o with | .map es => some (.f (.int .i64 es.length)) | _ => none
    | _ => none
  | _ => none

def capA (P : Program) (σ : Nat → AObj) (t : TypeId) (x : AV) : Option AV :=
  match P.underlying t with
  | some (.slice _) =>
    match x with
    | .f .nils => some (.f (.int .i64 0))
    | .f (.sl _ len true) => some (.f (.int .i64 len))
    | .sl _ _ len _ true => some (.f (.int .i64 len))
    | .sl o off _ esz false =>
      match σ o with
      | .arr cells true _ => if esz = 0 then none else some (.f (.int .i64 ((cells.length - off) / esz : Nat)))
      | _ => none
    | _ => none
  | _ => none

def builtinA (P : Program) (σ : Nat → AObj) (base : Nat) (b : Builtin) (ts : Array TypeId) (args : List AV) : Option Eff :=
  match b, ts.toList, args with
  | .len, [t], [x] => val (lenA P σ t x)
  | .cap, [t], [x] => val (capA P σ t x)
  | .append, [t, u], [s, x] =>
    match P.underlying t with
    | some (.slice elem) =>
      match P.info? elem, comesA P σ elem u x with
      | some i, some (new, n) => if i.bytes ≤ 1024 ∧ 0 < i.bytes ∧ (i.zero.map (·.cells.size)) = some i.size then appendA σ base i.size s new n else none
      | _, _ => none
    | _ => none
  | .copy, [t, _], [d, s] =>
    match P.underlying t with
    | some (.slice elem) => match sizeT P elem with | some n => copyA σ n d s | none => none
    | _ => none
  | .clear, [t], [d] =>
    match P.underlying t with
    | some (.slice elem) => clearA P σ elem d
    | _ => none
  | .max, _, args => val (mmA true args)
  | .min, _, args => val (mmA false args)
  | _, _, _ => none

def opA (P : Program) (base : Nat) (σ : Nat → AObj) (ρ : Operand → AV) (o : Oper) : Option Eff :=
  match o.op with
  | .move x | .assign x => val (some (ρ x))
  | .pick c a b => match ρ c with | .f (.bool t) => val (some (bif t then ρ a else ρ b)) | _ => none
  | .alloc t => match (zeroA P t).bind cellsOf with | some cs => some ⟨.ptr base 0, [], [.box cs]⟩ | none => none
  | .box _ x => match cellsOf (ρ x) with | some cs => some ⟨.ptr base 0, [], [.box cs]⟩ | none => none
  | .build t parts =>
    match (zeroA P t).bind cellsOf, P.underlying t with
    | some z, some (.struct fields) =>
      (fillA (fun i => (fields[i]?).bind fun fd => (sizeT P fd.type).map fun n => (fd.offset, n)) z (parts.toList.map fun (i, x) => (i, ρ x))).bind fun cs =>
        if fields.all fun fd => (sizeT P fd.type).isSome then val (some (.agg cs)) else none
    | some z, some (.array _ elem) =>
      match sizeT P elem with
      | some n => (fillA (fun i => some (i * n, n)) z (parts.toList.map fun (i, x) => (i, ρ x))).bind fun cs => val (some (.agg cs))
      | none => none
    | _, _ => none
  | .buildSlice t len parts =>
    match P.underlying t with
    | some (.slice elem) =>
      match sizeT P elem, (zeroA P elem).bind cellsOf with
      | some n, some z =>
        if ¬ (z.length = n ∧ 0 < n ∧ len * n ≤ 1024) then none else
        (fillA (fun i => some (i * n, n)) (repCells len z) (parts.toList.map fun (i, x) => (i, ρ x))).bind fun cs =>
          some ⟨.sl base 0 len n false, [], [mkObj cs]⟩
      | _, _ => none
    | _ => none
  | .load t a => val (loadA P σ t (ρ a))
  | .store t a x =>
    match cellsOf (ρ x), sizeT P t with
    | some cs, some n => if cs.length = n then (storeCells σ (ρ a) cs).map fun w => ⟨.tup [], w, []⟩ else none
    | _, _ => none
  | .nilCheck x =>
    match ρ x with
    | .ptr o off => val (some (.ptr o off))
    | .f (.ptr c off) => val (some (.f (.ptr c off)))
    | .fn g a b => val (some (.fn g a b))
    | .f (.fn g a b) => val (some (.f (.fn g a b)))
    | .yld l => val (some (.yld l))
    | _ => none
  | .binOp op t x y _ => val (binA P σ op t (ρ x) (ρ y))
  | .unOp op _ x => val (unA op (ρ x))
  | .convert s d x => val (convA P s d (ρ x))
  | .makeInterface t x =>
    match P.underlying t with
    | some (.interface _) | none => none
    | _ => match cellsOf (ρ x) with | some _ => val (some (.iface t (ρ x))) | none => none
  | .makeFunc fn first cap =>
    match fn with
    | .func g => val (some (.fn g (first.toList.map ρ) (cap.toList.map ρ)))
    | _ => none
  | .makeSlice t l c =>
    match P.underlying t, ρ l, ρ c with
    | some (.slice elem), .f (.int _ l), .f (.int _ c) =>
      match P.info? elem, (zeroA P elem).bind cellsOf with
      | some i, some z =>
        if l = c ∧ 0 ≤ l ∧ l ≤ 65536 ∧ i.bytes ≤ 1024 ∧ z.length = i.size ∧ 0 < i.size then
          (unF z).bind fun z' => some ⟨.sl base 0 l.toNat i.size false, [], [.arr (List.replicate l.toNat z').flatten true false]⟩
        else none
      | _, _ => none
    | _, _, _ => none
  | .slice t x lo hi mx =>
    match P.underlying t with
    | some .string =>
      match ρ x, mx with
      | .f (.str s), none =>
        match bndA (lo.map ρ) 0, bndA (hi.map ρ) s.size with
        | some l, some h => if 0 ≤ l ∧ l ≤ h ∧ h ≤ s.size then val (some (.f (.str (s.extract l.toNat h.toNat)))) else none
        | _, _ => none
      | _, _ => none
    | some (.slice elem) => match sizeT P elem with | some n => val (sliceA σ n (ρ x) (lo.map ρ) (hi.map ρ) (mx.map ρ)) | none => none
    | _ => none
  | .fieldAddr s x i =>
    match P.underlying s with
    | some (.struct fields) =>
      match fields[i]? with
      | some fd =>
        match sizeT P fd.type with
        | some (_ + 1) =>
          match ρ x with
          | .ptr o off => val (some (.ptr o (off + fd.offset)))
          | .f (.ptr cells off) => val (some (.f (.ptr cells (off + fd.offset))))
          | _ => none
        | _ => none
      | none => none
    | _ => none
  | .field t x i =>
    match P.underlying t, ρ x with
    | some (.struct fields), .agg l =>
      match fields[i]? with
      | some fd =>
        match isAggT P fd.type, sizeT P fd.type with
        | some true, some n => val ((sliceOf l fd.offset n).map .agg)
        | some false, _ => val (l[fd.offset]?)
        | _, _ => none
      | none => none
    | _, _ => none
  | .indexAddr t x i =>
    match P.underlying t, idxA (ρ i) with
    | some (.array len elem), some i =>
      match sizeT P elem with
      | some n =>
        if 0 ≤ i ∧ i < len then
          match ρ x with
          | .ptr o off => val (some (.ptr o (off + i.toNat * n)))
          | .f (.ptr cells off) => val (some (.f (.ptr cells (off + i.toNat * n))))
          | _ => none
        else none
      | none => none
    | some (.slice elem), some i =>
      match sizeT P elem, ρ x with
      | some n, .f (.sl cells len _) => if 0 ≤ i ∧ i < len then val (some (.f (.ptr cells (i.toNat * n)))) else none
      | some n, .sl o off len esz _ => if esz = n ∧ 0 ≤ i ∧ i < len then val (some (.ptr o (off + i.toNat * n))) else none
      | _, _ => none
    | _, _ => none
  | .index t x i =>
    match P.underlying t, ρ x, idxA (ρ i) with
    | some (.array len elem), .agg l, some i =>
      match isAggT P elem, sizeT P elem with
      | some true, some n => if 0 ≤ i ∧ i < len then val ((sliceOf l (i.toNat * n) n).map .agg) else none
      | some false, some n => if 0 ≤ i ∧ i < len then val (l[i.toNat * n]?) else none
      | _, _ => none
    | some .string, .f (.str s), some i =>
      if 0 ≤ i then (match s[i.toNat]? with | some b => val (some (.f (.int .u8 b.toNat))) | none => none) else none
    | _, _, _ => none
  | .extract t i => match ρ t with | .tup l => val (l[i]?) | _ => none
  | .call { callee := .builtin b, args, argTypes } => builtinA P σ base b argTypes (args.toList.map ρ)
  | _ => none

/-! ### calls -/

def evalO (tmps : Tmps) : Operand → AV
  | .tmp t => getT tmps t
  | .const v => (ofV v).getD .bot
  | .global _ => .bot
  | .func g => .f (.fn g [] [])

def shiftR (base : Nat) (v : AV) : AV := v.ren fun x => some (base + x)

def wrOf (old new : List AObj) : List (Nat × AObj) := go 0 old new
 where
  go (i : Nat) : List AObj → List AObj → List (Nat × AObj)
    | .frz _ :: r, .frz _ :: s => go (i + 1) r s
    | _ :: r, .frz c :: s => (i, .frz c) :: go (i + 1) r s
    | _ :: r, _ :: s => go (i + 1) r s
    | _, _ => []

def backR (ids : List Nat) (base x : Nat) : Option Nat := if x < ids.length then ids[x]? else some (base + (x - ids.length))

def toList' (σ : Nat → AObj) (base : Nat) : List AObj := (List.range base).map σ

/-- The arguments' references are of the caller's store; the store's length is 'base'. -/
def doCall (C : Knot) (E : Env) (base : Nat) (σ : Nat → AObj) (g : FuncId) (args : List AV) (Y : List Ctx) : Option (Eff × List Ctx) :=
  if AV.refsL args = [] then
    match C.call g args [] Y with
    | some (r, objs, Y') => some (⟨shiftR base r, [], objs.map fun x => x.ren fun y => some (base + y)⟩, Y')
    | none => none
  else
  match (E.cfg g).mode with
  | .br =>
    match freezeL args (toList' σ base) with
    | some (fs, _) =>
      match C.call g (fs.map ofFV) [] [] with
      | some (r, objs, _) =>
        if r.noMem && objs.all AObj.noMem then some (⟨shiftR base r, [], objs.map fun x => x.ren fun y => some (base + y)⟩, Y) else none
      | none => none
    | none => none
  | .fz =>
    match freezeL args (toList' σ base) with
    | some (fs, σ1) =>
      match C.call g (fs.map ofFV) [] Y with
      | some (r, objs, Y') => some (⟨shiftR base r, wrOf (toList' σ base) σ1, objs.map fun x => x.ren fun y => some (base + y)⟩, Y')
      | none => none
    | none => none
  | .mv =>
    let ids := reach σ reachFuel (AV.refsL args) []
    if ids.all (fun i => Nat.blt i base) = false then none else
    match C.call g (AV.renL (fun x => posIn ids x 0) args) (ids.map fun o => (σ o).ren (fun x => posIn ids x 0)) Y with
    | some (r, objs, Y') =>
      let back := objs.map fun x => x.ren (backR ids base)
      some (⟨r.ren (backR ids base), ids.zip back, back.drop ids.length⟩, Y')
    | none => none

def setParams (tmps : Tmps) : List Nat → List AV → Tmps
  | p :: ps, v :: vs => setParams (setT tmps p v) ps vs
  | _, _ => tmps

def doYield (C : Knot) (base : Nat) (σ : Nat → AObj) (lvl : Nat) (args : List AV) (Y : List Ctx) : Option (Eff × List Ctx) :=
  match Y[lvl]?, freezeL args (toList' σ base) with
  | some c, some (fs, σ1) =>
    if c.jump.isSome || c.params.length != fs.length then none else
    match C.code c.fn c.assign { tmps := setParams c.tmps c.params (fs.map ofFV), σ := c.σ, pin := c.keep } (Y.take lvl) with
    | some (.norm, st1, Y1) =>
      match C.code c.fn c.body st1 Y1 with
      | some (e, st2, Y2) =>
        if Y2.length != lvl then none else
        let σ2 := gcS st2.σ (gcIds st2.σ c.keep [])
        let j : Option AExit := match e with | .norm => none | x => some x
        some (⟨.f (.bool j.isNone), wrOf (toList' σ base) σ1, []⟩, Y2 ++ { c with σ := σ2, jump := j } :: Y.drop (lvl + 1))
      | none => none
    | _ => none
  | _, _ => none

def callOp (C : Knot) (E : Env) (base : Nat) (σ : Nat → AObj) (ρ : Operand → AV) (c : Call) (Y : List Ctx) : Option (Eff × List Ctx) :=
  match c.callee with
  | .value h =>
    match ρ h with
    | .fn g a b => doCall C E base σ g (a ++ c.args.toList.map ρ ++ b) Y
    | .f (.fn g a b) => doCall C E base σ g (a.map ofFV ++ c.args.toList.map ρ ++ b.map ofFV) Y
    | .yld lvl => doYield C base σ lvl (c.args.toList.map ρ) Y
    | _ => none
  | _ => none

def isCallOp : Op → Bool
  | .call { callee := .builtin _, .. } => false
  | .call _ => true
  | _ => false

/-- One operation: what it does, on a store of length 'base'. -/
def step0 (C : Knot) (E : Env) (base : Nat) (σ : Nat → AObj) (ρ : Operand → AV) (o : Oper) (Y : List Ctx) : Option (Eff × List Ctx) :=
  match o.op with
  | .call c =>
    match c.callee with
    | .builtin _ => (opA E.P base σ ρ o).map (·, Y)
    | _ => callOp C E base σ ρ c Y
  | _ => (opA E.P base σ ρ o).map (·, Y)

/-- It writes nothing beyond the store. -/
def stepA (C : Knot) (E : Env) (base : Nat) (σ : Nat → AObj) (ρ : Operand → AV) (o : Oper) (Y : List Ctx) : Option (Eff × List Ctx) :=
  match step0 C E base σ ρ o Y with
  | some (e, Y') => bif e.wr.all (fun q => Nat.blt q.1 base) then some (e, Y') else none
  | none => none

/-- Is the operation wanted? -/
def wantA (ops : Array Oper) (tmps : Tmps) (o : Oper) : Option Bool :=
  match o.guard with
  | none => some true
  | some (j, want) =>
    match (ops[j]?).bind (·.dst) with
    | none => some false
    | some d =>
      match getT tmps d with
      | .f (.bool b) => some (b == want)
      | .tup [] => some false
      | _ => none

def putDst (tmps : Tmps) : Option Tmp → AV → Tmps
  | some d, v => setT tmps d v
  | none, _ => tmps

def putWr : List AObj → List (Nat × AObj) → List AObj
  | σ, [] => σ
  | σ, (o, x) :: r => putWr (σ.set o x) r

def applyE (tmps : Tmps) (σ : List AObj) (dst : Option Tmp) (e : Eff) : Tmps × List AObj :=
  (putDst tmps dst e.val, putWr σ e.wr ++ e.news)

/-- The operations of a region that draws no order. -/
def opsA (C : Knot) (E : Env) (all : Array Oper) : List Oper → St → List Ctx → Option (St × List Ctx)
  | [], st, Y => some (st, Y)
  | o :: r, st, Y =>
    match wantA all st.tmps o with
    | none => none
    | some false => opsA C E all r { st with tmps := putDst st.tmps o.dst (.tup []) } Y
    | some true =>
      match stepA C E st.σ.length (atO st.σ) (evalO st.tmps) o Y with
      | none => none
      | some (e, Y') =>
        let p := applyE st.tmps st.σ o.dst e
        opsA C E all r { st with tmps := p.1, σ := p.2 } Y'

/-! ### regions that draw their order -/

def maskO (σ : Nat → AObj) (ids : List Nat) (o : Nat) : AObj := bif ids.contains o then σ o else .dead

structure Foot where
  see : List Nat
  wr : List Nat
  call : Bool
  deriving Inhabited

/-- What an operation may look at, or change, in the store: all that can be reached from these. -/
def operRefs (ρ : Operand → AV) (o : Oper) : List Nat :=
  match o.op with
  | .call { callee := .builtin .len, args, .. } => (args.toList.map ρ).flatMap fun | .mp m => [m] | _ => []
  | .call c => AV.refsL (c.operands.toList.map ρ)
  | .load _ a => (ρ a).refs
  | .store _ a x => (ρ a).refs ++ (ρ x).refs
  | .binOp _ _ x y _ => (ρ x).refs ++ (ρ y).refs
  | .lookup _ x i _ => (ρ x).refs ++ (ρ i).refs
  | .mapUpdate _ m k v => (ρ m).refs ++ (ρ k).refs ++ (ρ v).refs
  | _ => []

/-- The temporaries that an operation looks at; what it is told of them, and of no other. -/
def opTmps (o : Oper) : List Nat := o.op.operands.toList.filterMap fun | .tmp t => some t | _ => none

def evalR (tmps : Tmps) (l : List Nat) : Operand → AV
  | .tmp t => bif l.contains t then getT tmps t else .bot
  | x => evalO tmps x

/-- What surely comes before an operation. -/
def befGo : List Oper → Array Nat → Array Nat
  | [], acc => acc
  | o :: r, acc => befGo r (acc.push (o.after.toList.foldl (fun s e => bif Region.binds .any e then s ||| 2 ^ e.on ||| acc.getD e.on 0 else s) 0))

def befA (ops : Array Oper) : Array Nat := befGo ops.toList #[]

/-- An operation of such a region takes one number at least. -/
def padE (e : Eff) : Eff := match e.news with | [] => { e with news := [.dead] } | _ => e

def opsDrawA (C : Knot) (E : Env) (all : Array Oper) : List Oper → St → List Ctx → List Foot → Option (St × List Ctx × List Foot)
  | [], st, Y, fs => some (st, Y, fs.reverse)
  | o :: r, st, Y, fs =>
    match wantA all st.tmps o with
    | none => none
    | some false => opsDrawA C E all r { st with tmps := putDst st.tmps o.dst (.tup []) } Y ({ see := [], wr := [], call := false } :: fs)
    | some true =>
      let ρ := evalR st.tmps (opTmps o)
      let see := reach (atO st.σ) reachFuel (operRefs ρ o) []
      match stepA C E st.σ.length (maskO (atO st.σ) see) ρ o Y with
      | none => none
      | some (e, Y') =>
        let p := applyE st.tmps st.σ o.dst (padE e)
        let f : Foot := { see, wr := e.wr.map (·.1) ++ (List.range e.news.length).map (st.σ.length + ·), call := isCallOp o.op }
        opsDrawA C E all r { st with tmps := p.1, σ := p.2 } Y' (f :: fs)

def disj (a b : List Nat) : Bool := a.all fun x => !b.contains x

/-- Two operations whose order is open do not meet. -/
def apartF (a b : Foot) : Bool := disj a.wr b.see && disj b.wr a.see && disj a.wr b.wr && !(a.call && b.call)

def pairsOk (before : Array Nat) (fs : List Foot) : Bool :=
  let z := fs.zipIdx
  z.all fun (fj, j) => (fj.wr.isEmpty && !fj.call) || z.all fun (fi, i) =>
    i == j || (before.getD j 0).testBit i || (before.getD i 0).testBit j || apartF fi fj

def regionA (C : Knot) (E : Env) (ops : Array Oper) (draw : Bool) (st : St) (Y : List Ctx) : Option (St × List Ctx) :=
  bif draw then
    match opsDrawA C E ops ops.toList st Y [] with
    | some (st', Y', fs) =>
      if fs.all (fun f => f.wr.isEmpty && !f.call) || pairsOk (befA ops) fs then some (st', Y') else none
    | none => none
  else opsA C E ops ops.toList st Y

/-! ### code -/

def adoptA : List (Nat × Option Nat × Nat) → St → St
  | [], st => st
  | (t, none, esz) :: r, st =>
    adoptA r (match getT st.tmps t with
      | .f .nils => { st with tmps := setT st.tmps t (.sl st.σ.length 0 0 esz false), σ := st.σ ++ [.arr [] false true] }
      | _ => st)
  | (t, some k, esz) :: r, st =>
    adoptA r (match getT st.tmps t with
      | .ptr o 0 =>
        match atO st.σ o with
        | .box cells => match cells[k]? with
          | some (.f .nils) => { st with σ := st.σ.set o (.box (cells.set k (.sl st.σ.length 0 0 esz false))) ++ [.arr [] false true] }
          | _ => st
        | _ => st
      | _ => st)

def liveT (tmps : Tmps) : List Nat → Tmps
  | [] => []
  | t :: r => setT (liveT tmps r) t (getT tmps t)

def renT (m : Nat → Option Nat) : Tmps → Tmps
  | [] => []
  | (t, v) :: r => (t, v.ren m) :: renT m r

def refsT : Tmps → List Nat
  | [] => []
  | (_, v) :: r => v.refs ++ refsT r

def normA (ann : Option LoopAnn) (st : St) : St :=
  match ann with
  | none => st
  | some a =>
    let st1 := adoptA a.adopt { st with tmps := liveT st.tmps a.live }
    let ids := gcIds st1.σ st1.pin (refsT st1.tmps)
    { st1 with tmps := renT (fun x => posIn ids x 0) st1.tmps, σ := gcS st1.σ ids }

def rangeA (C : Knot) (fid : FuncId) (h : AV) (params : Array Tmp) (assign body : Code) (st : St) (Y : List Ctx) : Option (AExit × St × List Ctx) :=
  match freezeL [h] st.σ with
  | some ([.fn g a b], σ1) =>
    if reachFuel < σ1.length then none else
    let c : Ctx := { tmps := st.tmps, σ := σ1, keep := σ1.length, fn := fid, params := params.toList, assign, body, jump := none }
    match C.call g (a.map ofFV ++ .yld Y.length :: b.map ofFV) [] (Y ++ [c]) with
    | some (_, _, Y') =>
      match Y'[Y.length]? with
      | some c' => if Y'.length != Y.length + 1 then none else some (c'.jump.getD .norm, { st with σ := c'.σ }, Y'.take Y.length)
      | none => none
    | none => none
  | _ => none

/-- The code of function 'fid', in block 'blk'. -/
def evA (C : Knot) (E : Env) (fid : FuncId) : Nat → Code → St → List Ctx → Option (AExit × St × List Ctx)
  | _, .skip, st, Y => some (.norm, st, Y)
  | _, .label _, st, Y => some (.norm, st, Y)
  | _, .ret, st, Y => some (.ret, st, Y)
  | _, .exit id, st, Y => some (.exit id, st, Y)
  | _, .region _ ops draw, st, Y => (regionA C E ops draw st Y).map fun (st', Y') => (.norm, st', Y')
  | blk, .seq a b, st, Y =>
    match evA C E fid blk a st Y with
    | some (.norm, st1, Y1) => evA C E fid blk b st1 Y1
    | r => r
  | blk, .cond c a b, st, Y =>
    match evalO st.tmps c with
    | .f (.bool t) => bif t then evA C E fid blk a st Y else evA C E fid blk b st Y
    | _ => none
  | _, .block id b, st, Y =>
    match evA C E fid id b st Y with
    | some (.exit i, st1, Y1) => some (bif i == id then .norm else .exit i, st1, Y1)
    | r => r
  | blk, .loop b, st, Y => C.loop fid blk b st Y
  | _, .rangeFunc h params assign body, st, Y => rangeA C fid (evalO st.tmps h) params assign body st Y
  | _, _, _, _ => none

def loopA (C : Knot) (E : Env) (fid blk : Nat) (b : Code) (st : St) (Y : List Ctx) : Option (AExit × St × List Ctx) :=
  match evA C E fid blk b (normA (E.loops fid blk) st) Y with
  | some (.norm, st1, Y1) => C.loop fid blk b st1 Y1
  | r => r

def argT : Nat → List AV → Tmps
  | _, [] => []
  | i, v :: r => (i, v) :: argT (i + 1) r

def resA (P : Program) (fn : Func) (st : St) : Option (List AV) :=
  fn.results.toList.mapM fun
    | .tmp t => some (getT st.tmps t)
    | .cell a t => loadA P (atO st.σ) t (getT st.tmps a)

def one : List AV → AV
  | [v] => v
  | l => .tup l

def freezeRes (l : List AV) (σ : List AObj) : Option (List AV × List AObj) := (freezeL l σ).map fun (fs, σ') => (fs.map ofFV, σ')

def bodyA (C : Knot) (E : Env) (g : FuncId) (args : List AV) (σ : List AObj) (Y : List Ctx) : Option (AV × List AObj × List Ctx) :=
  match E.fn g with
  | none => none
  | some fn =>
    match fn.body with
    | none => none
    | some c =>
      if reachFuel < σ.length ∨ fn.ntmps < args.length then none else
      match evA C E g 0 c { tmps := argT 0 args, σ, pin := σ.length } Y with
      | some (.exit _, _, _) | none => none
      | some (_, st, Y') =>
        match resA E.P fn st with
        | none => none
        | some vs =>
          match (bif (E.cfg g).retFz then freezeRes vs st.σ else some (vs, st.σ)) with
          | none => none
          | some (vs, σ1) =>
            let ids := gcIds σ1 σ.length (AV.refsL vs)
            some ((one vs).ren (fun x => posIn ids x 0), gcS σ1 ids, Y')

def knot0 : Knot := { call := fun _ _ _ _ => none, code := fun _ _ _ _ => none, loop := fun _ _ _ _ _ => none }

def knotS (E : Env) (C : Knot) : Knot :=
  { call := bodyA C E, code := fun fid c st Y => evA C E fid 0 c st Y, loop := loopA C E }

def knotN (E : Env) : Nat → Knot
  | 0 => knot0
  | n + 1 => knotS E (knotN E n)

end Go.AM

namespace Go.AM

/-- A value that lies in one cell. -/
abbrev cell1 (v : Value) : Bool := v.oneCell'

/-- Memory that stays as it is. -/
abbrev Mem := Nat → Nat → Option Value

def Mem.le (M M' : Mem) : Prop := ∀ b off v, M b off = some v → M' b off = some v

mutual
inductive FRel (M : Mem) : FV → Value → Prop
  | int (k : IntKind) (n : Int) : FRel M (.int k n) (.int k n)
  | bool (b : Bool) : FRel M (.bool b) (.bool b)
  | str (s : ByteArray) : FRel M (.str s) (.string s)
  | nilp : FRel M .nilp (.pointer none)
  | nils : FRel M .nils (.slice none 0 0)
  | nilm : FRel M .nilm (.map none)
  | nilf : FRel M .nilf .nilFunc
  | nili : FRel M .nili .nilIface
  | agg {l : List FV} {vs : Array Value} : FRels M l vs.toList → (∀ v ∈ vs.toList, cell1 v = true) → FRel M (.agg l) (.agg vs)
  | sl {cells : List FV} {len : Nat} {clip : Bool} {b off cap : Nat} : FCells M b off cells → len ≤ cap → (clip = true → cap = len) →
      FRel M (.sl cells len clip) (.slice (some ⟨b, off, none⟩) len cap)
  | ptr {cells : List FV} {off b base : Nat} : FCells M b base cells → FRel M (.ptr cells off) (.pointer (some ⟨b, base + off, none⟩))
  | fn {f : FuncId} {x y : List FV} {x' y' : Array Value} : FRels M x x'.toList → FRels M y y'.toList → FRel M (.fn f x y) (.func (.func f) x' y')
  | iface {t : TypeId} {v : FV} {x : Value} : FRel M v x → FRel M (.iface t v) (.iface t x)
inductive FRels (M : Mem) : List FV → List Value → Prop
  | nil : FRels M [] []
  | cons {v : FV} {x : Value} {l : List FV} {vs : List Value} : FRel M v x → FRels M l vs → FRels M (v :: l) (x :: vs)
inductive FCells (M : Mem) : Nat → Nat → List FV → Prop
  | nil (b off : Nat) : FCells M b off []
  | cons {b off : Nat} {c : FV} {cs : List FV} {v : Value} : M b off = some v → cell1 v = true → FRel M c v → FCells M b (off + 1) cs → FCells M b off (c :: cs)
end

mutual
theorem FRel.mono {M M' : Mem} (h : M.le M') : ∀ {v : FV} {x : Value}, FRel M v x → FRel M' v x
  | _, _, .int k n => .int k n
  | _, _, .bool b => .bool b
  | _, _, .str s => .str s
  | _, _, .nilp => .nilp
  | _, _, .nils => .nils
  | _, _, .nilm => .nilm
  | _, _, .nilf => .nilf
  | _, _, .nili => .nili
  | _, _, .agg a b => .agg (a.mono h) b
  | _, _, .sl a b c => .sl (a.mono h) b c
  | _, _, .ptr a => .ptr (a.mono h)
  | _, _, .fn a b => .fn (a.mono h) (b.mono h)
  | _, _, .iface a => .iface (a.mono h)
theorem FRels.mono {M M' : Mem} (h : M.le M') : ∀ {l : List FV} {xs : List Value}, FRels M l xs → FRels M' l xs
  | _, _, .nil => .nil
  | _, _, .cons a b => .cons (a.mono h) (b.mono h)
theorem FCells.mono {M M' : Mem} (h : M.le M') : ∀ {b off : Nat} {l : List FV}, FCells M b off l → FCells M' b off l
  | _, _, _, .nil b off => .nil b off
  | _, _, _, .cons a b c d => .cons (h _ _ _ a) b (c.mono h) (d.mono h)
end

theorem FRel.oneCell {M : Mem} {v : FV} {x : Value} (h : FRel M v x) : (∃ l, v = .agg l) ∨ cell1 x = true := by
  cases h <;> first | exact .inl ⟨_, rfl⟩ | exact .inr rfl

theorem FRels.length {M : Mem} : ∀ {l : List FV} {xs : List Value}, FRels M l xs → l.length = xs.length
  | _, _, .nil => rfl
  | _, _, .cons _ b => by simp [b.length]

theorem FRels.append {M : Mem} : ∀ {l l' : List FV} {xs xs' : List Value}, FRels M l xs → FRels M l' xs' → FRels M (l ++ l') (xs ++ xs')
  | _, _, _, _, .nil, h => h
  | _, _, _, _, .cons a b, h => .cons a (b.append h)

theorem FRels.split {M : Mem} : ∀ {l l' : List FV} {xs : List Value}, FRels M (l ++ l') xs → ∃ ys zs, xs = ys ++ zs ∧ FRels M l ys ∧ FRels M l' zs
  | [], _, xs, h => ⟨[], xs, rfl, .nil, h⟩
  | _ :: l, l', _, .cons a b =>
    let ⟨ys, zs, e, h1, h2⟩ := FRels.split (l := l) (l' := l') b
    ⟨_ :: ys, zs, by rw [e]; rfl, .cons a h1, h2⟩

theorem FRels.get {M : Mem} : ∀ {l : List FV} {xs : List Value} {i : Nat} {v : FV}, FRels M l xs → l[i]? = some v → ∃ x, xs[i]? = some x ∧ FRel M v x
  | _, _, 0, _, .cons a _, h => by simp at h; subst h; exact ⟨_, rfl, a⟩
  | _, _, i + 1, _, .cons _ b, h => by simp at h; simpa using b.get h
  | _, _, _, _, .nil, h => by simp at h

theorem FRels.drop {M : Mem} : ∀ {l : List FV} {xs : List Value} (n : Nat), FRels M l xs → FRels M (l.drop n) (xs.drop n)
  | _, _, 0, h => by simpa using h
  | _, _, _ + 1, .nil => by simp; exact .nil
  | _, _, n + 1, .cons _ b => by simpa using b.drop n

theorem FRels.take {M : Mem} : ∀ {l : List FV} {xs : List Value} (n : Nat), FRels M l xs → FRels M (l.take n) (xs.take n)
  | _, _, 0, _ => by simp; exact .nil
  | _, _, _ + 1, .nil => by simp; exact .nil
  | _, _, n + 1, .cons a b => by simpa using FRels.cons a (b.take n)

theorem FRels.set {M : Mem} : ∀ {l : List FV} {xs : List Value} (i : Nat) {v : FV} {x : Value}, FRels M l xs → FRel M v x → FRels M (l.set i v) (xs.set i x)
  | _, _, _, _, _, .nil, _ => by simp; exact .nil
  | _, _, 0, _, _, .cons _ b, h => by simpa using FRels.cons h b
  | _, _, i + 1, _, _, .cons a b, h => by simpa using FRels.cons a (b.set i h)

theorem FRels.replicate {M : Mem} {v : FV} {x : Value} (h : FRel M v x) : ∀ n, FRels M (List.replicate n v) (List.replicate n x)
  | 0 => .nil
  | n + 1 => by simpa [List.replicate_succ] using FRels.cons h (FRels.replicate h n)

theorem FRels.flatRep {M : Mem} {l : List FV} {xs : List Value} (h : FRels M l xs) : ∀ n, FRels M (List.replicate n l).flatten (List.replicate n xs).flatten
  | 0 => .nil
  | n + 1 => by simpa [List.replicate_succ] using h.append (FRels.flatRep h n)

theorem FRels.reverse {M : Mem} : ∀ {l : List FV} {xs : List Value}, FRels M l xs → FRels M l.reverse xs.reverse
  | _, _, .nil => .nil
  | _, _, .cons a b => by simpa using b.reverse.append (.cons a .nil)

theorem FCells.append {M : Mem} {b : Nat} : ∀ {off : Nat} {l l' : List FV}, FCells M b off l → FCells M b (off + l.length) l' → FCells M b off (l ++ l')
  | _, _, _, .nil _ _, h => by simpa using h
  | off, c :: cs, l', .cons a o r t, h => .cons a o r (t.append (by simpa [Nat.add_comm, Nat.add_left_comm] using h))

theorem FCells.drop {M : Mem} {b : Nat} : ∀ {off : Nat} {l : List FV} (n : Nat), FCells M b off l → FCells M b (off + n) (l.drop n)
  | _, _, 0, h => by simpa using h
  | _, _, n + 1, .nil _ _ => by simp; exact .nil _ _
  | off, _, n + 1, .cons _ _ _ t => by
    have := t.drop n
    simpa [Nat.add_comm, Nat.add_left_comm] using this

theorem FCells.take {M : Mem} {b : Nat} : ∀ {off : Nat} {l : List FV} (n : Nat), FCells M b off l → FCells M b off (l.take n)
  | _, _, 0, _ => by simp; exact .nil _ _
  | _, _, _ + 1, .nil _ _ => by simp; exact .nil _ _
  | _, _, n + 1, .cons a o r t => by simpa using FCells.cons a o r (t.take n)

/-- The cells read one after another. -/
theorem FCells.read {M : Mem} {b : Nat} : ∀ {off : Nat} {l : List FV}, FCells M b off l →
    ∃ xs, FRels M l xs ∧ (∀ x ∈ xs, cell1 x = true) ∧ ∀ i x, xs[i]? = some x → M b (off + i) = some x
  | off, _, .nil _ _ => ⟨[], .nil, by simp, by simp⟩
  | off, _, .cons (v := v) a o r t => by
    obtain ⟨xs, h1, h2, h3⟩ := t.read
    refine ⟨v :: xs, .cons r h1, ?_, ?_⟩
    · intro x hx
      rcases List.mem_cons.1 hx with rfl | hx
      · exact o
      · exact h2 x hx
    · intro i x hx
      cases i with
      | zero => simp at hx; subst hx; simpa using a
      | succ i =>
        simp at hx
        have := h3 i x hx
        rw [show off + (i + 1) = off + 1 + i by omega]; exact this

theorem FCells.of_rels {M : Mem} {b : Nat} : ∀ {off : Nat} {l : List FV} {xs : List Value}, FRels M l xs → (∀ x ∈ xs, cell1 x = true) →
    (∀ i x, xs[i]? = some x → M b (off + i) = some x) → FCells M b off l
  | off, _, _, .nil, _, _ => .nil _ _
  | off, _, _, .cons (x := x) (vs := vs) a t, ho, hm => by
    refine .cons (v := x) (by simpa using hm 0 x (by simp)) (ho x (by simp)) a (FCells.of_rels t (fun y hy => ho y (by simp [hy])) ?_)
    intro i y hy
    have := hm (i + 1) y (by simpa using hy)
    rw [show off + 1 + i = off + (i + 1) by omega]; exact this

/-! ### values with references -/

/-- What an object is in memory: a block and how many cells it has; or an empty slice without a block of its own. -/
inductive Blk where
  | blk (b n : Nat)
  | ghost (a : Option Addr)

abbrev Map := Nat → Option Blk
abbrev LMap := Nat → Option Nat

mutual
inductive ARel (φ : Map) (L : LMap) (M : Mem) : AV → Value → Prop
  | f {v : FV} {x : Value} : FRel M v x → cell1 x = true → ARel φ L M (.f v) x
  | sl {o off len esz : Nat} {clip : Bool} {b n cap : Nat} : φ o = some (.blk b n) → len ≤ cap → off + cap * esz ≤ n → (clip = true → cap = len) →
      (clip = false → off + cap * esz = n) → ARel φ L M (.sl o off len esz clip) (.slice (some ⟨b, off, none⟩) len cap)
  | slN {o esz : Nat} {clip : Bool} {a : Option Addr} : φ o = some (.ghost a) → ARel φ L M (.sl o 0 0 esz clip) (.slice a 0 0)
  | ptr {o off b n : Nat} : φ o = some (.blk b n) → ARel φ L M (.ptr o off) (.pointer (some ⟨b, off, none⟩))
  | fn {f : FuncId} {x y : List AV} {x' y' : Array Value} : ARels φ L M x x'.toList → ARels φ L M y y'.toList → ARel φ L M (.fn f x y) (.func (.func f) x' y')
  | iface {t : TypeId} {v : AV} {x : Value} : ARel φ L M v x → ARel φ L M (.iface t v) (.iface t x)
  | mp {o b n : Nat} : φ o = some (.blk b n) → ARel φ L M (.mp o) (.map (some b))
  | yld {lvl r : Nat} : L lvl = some r → ARel φ L M (.yld lvl) (.func (.yield r) #[] #[])
  | agg {l : List AV} {vs : Array Value} : ARels φ L M l vs.toList → (∀ v ∈ vs.toList, cell1 v = true) → ARel φ L M (.agg l) (.agg vs)
  | tup {l : List AV} {vs : Array Value} : ARels φ L M l vs.toList → ARel φ L M (.tup l) (.tuple vs)
  | bot {x : Value} : ARel φ L M .bot x
inductive ARels (φ : Map) (L : LMap) (M : Mem) : List AV → List Value → Prop
  | nil : ARels φ L M [] []
  | cons {v : AV} {x : Value} {l : List AV} {vs : List Value} : ARel φ L M v x → ARels φ L M l vs → ARels φ L M (v :: l) (x :: vs)
end

def Map.le (φ φ' : Map) : Prop := ∀ o p, φ o = some p → φ' o = some p
def LMap.le (L L' : LMap) : Prop := ∀ o p, L o = some p → L' o = some p

section
variable {φ φ' : Map} {L L' : LMap} {M M' : Mem}

mutual
theorem ARel.mono (hφ : φ.le φ') (hL : L.le L') (hM : M.le M') : ∀ {v : AV} {x : Value}, ARel φ L M v x → ARel φ' L' M' v x
  | _, _, .f a b => .f (a.mono hM) b
  | _, _, .sl a b c d e => .sl (hφ _ _ a) b c d e
  | _, _, .slN a => .slN (hφ _ _ a)
  | _, _, .ptr a => .ptr (hφ _ _ a)
  | _, _, .fn a b => .fn (a.mono hφ hL hM) (b.mono hφ hL hM)
  | _, _, .iface a => .iface (a.mono hφ hL hM)
  | _, _, .mp a => .mp (hφ _ _ a)
  | _, _, .yld a => .yld (hL _ _ a)
  | _, _, .agg a b => .agg (a.mono hφ hL hM) b
  | _, _, .tup a => .tup (a.mono hφ hL hM)
  | _, _, .bot => .bot
theorem ARels.mono (hφ : φ.le φ') (hL : L.le L') (hM : M.le M') : ∀ {l : List AV} {xs : List Value}, ARels φ L M l xs → ARels φ' L' M' l xs
  | _, _, .nil => .nil
  | _, _, .cons a b => .cons (a.mono hφ hL hM) (b.mono hφ hL hM)
end

theorem ARels.length : ∀ {l : List AV} {xs : List Value}, ARels φ L M l xs → l.length = xs.length
  | _, _, .nil => rfl
  | _, _, .cons _ b => by simp [b.length]

theorem ARels.append : ∀ {l l' : List AV} {xs xs' : List Value}, ARels φ L M l xs → ARels φ L M l' xs' → ARels φ L M (l ++ l') (xs ++ xs')
  | _, _, _, _, .nil, h => h
  | _, _, _, _, .cons a b, h => .cons a (b.append h)

theorem ARels.get : ∀ {l : List AV} {xs : List Value} {i : Nat} {v : AV}, ARels φ L M l xs → l[i]? = some v → ∃ x, xs[i]? = some x ∧ ARel φ L M v x
  | _, _, 0, _, .cons a _, h => by simp at h; subst h; exact ⟨_, rfl, a⟩
  | _, _, i + 1, _, .cons _ b, h => by simp at h; simpa using b.get h
  | _, _, _, _, .nil, h => by simp at h

theorem ARels.drop : ∀ {l : List AV} {xs : List Value} (n : Nat), ARels φ L M l xs → ARels φ L M (l.drop n) (xs.drop n)
  | _, _, 0, h => by simpa using h
  | _, _, _ + 1, .nil => by simp; exact .nil
  | _, _, n + 1, .cons _ b => by simpa using b.drop n

theorem ARels.take : ∀ {l : List AV} {xs : List Value} (n : Nat), ARels φ L M l xs → ARels φ L M (l.take n) (xs.take n)
  | _, _, 0, _ => by simp; exact .nil
  | _, _, _ + 1, .nil => by simp; exact .nil
  | _, _, n + 1, .cons a b => by simpa using ARels.cons a (b.take n)

theorem ARels.set : ∀ {l : List AV} {xs : List Value} (i : Nat) {v : AV} {x : Value}, ARels φ L M l xs → ARel φ L M v x → ARels φ L M (l.set i v) (xs.set i x)
  | _, _, _, _, _, .nil, _ => by simp; exact .nil
  | _, _, 0, _, _, .cons _ b, h => by simpa using ARels.cons h b
  | _, _, i + 1, _, _, .cons a b, h => by simpa using ARels.cons a (b.set i h)

theorem ARels.flatRep {l : List AV} {xs : List Value} (h : ARels φ L M l xs) : ∀ n, ARels φ L M (List.replicate n l).flatten (List.replicate n xs).flatten
  | 0 => .nil
  | n + 1 => by simpa [List.replicate_succ] using h.append (ARels.flatRep h n)

/-- Frozen cells as values. -/
theorem ARels.of_frels : ∀ {l : List FV} {xs : List Value}, FRels M l xs → (∀ x ∈ xs, cell1 x = true) → ARels φ L M (l.map .f) xs
  | _, _, .nil, _ => .nil
  | _, _, .cons a b, h => .cons (.f a (h _ (by simp))) (ARels.of_frels b fun x hx => h x (by simp [hx]))

theorem ARels.unF : ∀ {l : List AV} {l' : List FV} {xs : List Value}, ARels φ L M l xs → unF l = some l' → FRels M l' xs ∧ ∀ x ∈ xs, cell1 x = true
  | [], l', _, .nil, h => by simp [AM.unF] at h; subst h; exact ⟨.nil, by simp⟩
  | .f v :: r, l', _, .cons (.f a o) b, h => by
    simp only [AM.unF] at h
    cases hr : AM.unF r with
    | none => simp [hr] at h
    | some r' =>
      simp [hr] at h
      subst h
      obtain ⟨h1, h2⟩ := b.unF hr
      refine ⟨.cons a h1, ?_⟩
      intro x hx
      rcases List.mem_cons.1 hx with rfl | hx
      · exact o
      · exact h2 x hx
  | .sl .. :: _, _, _, _, h => by simp [AM.unF] at h
  | .ptr .. :: _, _, _, _, h => by simp [AM.unF] at h
  | .fn .. :: _, _, _, _, h => by simp [AM.unF] at h
  | .iface .. :: _, _, _, _, h => by simp [AM.unF] at h
  | .mp .. :: _, _, _, _, h => by simp [AM.unF] at h
  | .yld .. :: _, _, _, _, h => by simp [AM.unF] at h
  | .agg .. :: _, _, _, _, h => by simp [AM.unF] at h
  | .tup .. :: _, _, _, _, h => by simp [AM.unF] at h
  | .bot :: _, _, _, _, h => by simp [AM.unF] at h

theorem ARel.ofFV {v : FV} {x : Value} (h : FRel M v x) : ARel φ L M (ofFV v) x := by
  cases h with
  | agg a b => exact .agg (ARels.of_frels a b) b
  | int k n => exact .f (.int k n) rfl
  | bool b => exact .f (.bool b) rfl
  | str s => exact .f (.str s) rfl
  | nilp => exact .f .nilp rfl
  | nils => exact .f .nils rfl
  | nilm => exact .f .nilm rfl
  | nilf => exact .f .nilf rfl
  | nili => exact .f .nili rfl
  | sl a b c => exact .f (.sl a b c) rfl
  | ptr a => exact .f (.ptr a) rfl
  | fn a b => exact .f (.fn a b) rfl
  | iface a => exact .f (.iface a) rfl

theorem ARels.ofFVs : ∀ {l : List FV} {xs : List Value}, FRels M l xs → ARels φ L M (l.map AM.ofFV) xs
  | _, _, .nil => .nil
  | _, _, .cons a b => .cons (.ofFV a) (ARels.ofFVs b)

/-- The cells of what may be stored. -/
theorem ARel.cells {v : AV} {x : Value} {l : List AV} (h : ARel φ L M v x) (hl : cellsOf v = some l) :
    ARels φ L M l x.cells.toList ∧ ∀ y ∈ x.cells.toList, cell1 y = true := by
  cases h with
  | agg a b => simp [cellsOf] at hl; subst hl; exact ⟨a, b⟩
  | tup a => simp [cellsOf] at hl
  | bot => simp [cellsOf] at hl
  | f a o =>
    simp [cellsOf] at hl; subst hl
    have hx : x.cells = #[x] := by cases x <;> simp_all [Value.cells, Value.oneCell']
    rw [hx]; exact ⟨.cons (.f a o) .nil, by simpa using o⟩
  | sl a b c d e => simp [cellsOf] at hl; subst hl; exact ⟨.cons (.sl a b c d e) .nil, by simp [Value.cells, Value.oneCell']⟩
  | slN a => simp [cellsOf] at hl; subst hl; exact ⟨.cons (.slN a) .nil, by simp [Value.cells, Value.oneCell']⟩
  | ptr a => simp [cellsOf] at hl; subst hl; exact ⟨.cons (.ptr a) .nil, by simp [Value.cells, Value.oneCell']⟩
  | fn a b => simp [cellsOf] at hl; subst hl; exact ⟨.cons (.fn a b) .nil, by simp [Value.cells, Value.oneCell']⟩
  | iface a => simp [cellsOf] at hl; subst hl; exact ⟨.cons (.iface a) .nil, by simp [Value.cells, Value.oneCell']⟩
  | mp a => simp [cellsOf] at hl; subst hl; exact ⟨.cons (.mp a) .nil, by simp [Value.cells, Value.oneCell']⟩
  | yld a => simp [cellsOf] at hl; subst hl; exact ⟨.cons (.yld a) .nil, by simp [Value.cells, Value.oneCell']⟩

mutual
/-- References renamed: what has no new name says nothing. -/
theorem ARel.ren {m : Nat → Option Nat} (hm : ∀ o o' p, m o = some o' → φ o = some p → φ' o' = some p) :
    ∀ {v : AV} {x : Value}, ARel φ L M v x → ARel φ' L M (v.ren m) x
  | _, _, .f a b => by simp only [AV.ren]; exact .f a b
  | _, _, .sl (o := o) a b c d e => by
    simp only [AV.ren]
    cases h : m o with
    | none => exact .bot
    | some o' => exact .sl (hm _ _ _ h a) b c d e
  | _, _, .slN (o := o) a => by
    simp only [AV.ren]
    cases h : m o with
    | none => exact .bot
    | some o' => exact .slN (hm _ _ _ h a)
  | _, _, .ptr (o := o) a => by
    simp only [AV.ren]
    cases h : m o with
    | none => exact .bot
    | some o' => exact .ptr (hm _ _ _ h a)
  | _, _, .fn a b => by simp only [AV.ren]; exact .fn (a.ren hm) (b.ren hm)
  | _, _, .iface a => by simp only [AV.ren]; exact .iface (a.ren hm)
  | _, _, .mp (o := o) a => by
    simp only [AV.ren]
    cases h : m o with
    | none => exact .bot
    | some o' => exact .mp (hm _ _ _ h a)
  | _, _, .yld a => by simp only [AV.ren]; exact .yld a
  | _, _, .agg a b => by simp only [AV.ren]; exact .agg (a.ren hm) b
  | _, _, .tup a => by simp only [AV.ren]; exact .tup (a.ren hm)
  | _, _, .bot => by simp only [AV.ren]; exact .bot
theorem ARels.ren {m : Nat → Option Nat} (hm : ∀ o o' p, m o = some o' → φ o = some p → φ' o' = some p) :
    ∀ {l : List AV} {xs : List Value}, ARels φ L M l xs → ARels φ' L M (AV.renL m l) xs
  | _, _, .nil => by simp only [AV.renL]; exact .nil
  | _, _, .cons a b => by simp only [AV.renL]; exact .cons (a.ren hm) (b.ren hm)
end
end

end Go.AM

namespace Go.AM

def live : AObj → Bool
  | .box _ | .arr .. | .map _ => true
  | _ => false

def okFz (fz : Nat × Nat) (n : Nat) : Prop := ∀ i, i < n → ¬ (fz.1 ≤ i ∧ i < fz.2)

def ORel (φ : Map) (L : LMap) (M : Mem) (p : Option Blk) (x : AObj) (w : World) : Prop :=
  match x with
  | .box cs => ∃ (b : Nat) (vs : Array Value) (el : TypeId) (fz : Nat × Nat), p = some (.blk b vs.size) ∧ w.heap[b]? = some (.cells vs el fz) ∧ okFz fz vs.size ∧
      ARels φ L M cs vs.toList ∧ ∀ v ∈ vs.toList, cell1 v = true
  | .arr cs ex isNil =>
      (isNil = false ∧ ∃ (b : Nat) (vs : Array Value) (el : TypeId) (fz : Nat × Nat) (pre post : List Value), p = some (.blk b vs.size) ∧ w.heap[b]? = some (.cells vs el fz) ∧ okFz fz vs.size ∧
        vs.toList = pre ++ post ∧ FRels M cs pre ∧ (∀ v ∈ pre, cell1 v = true) ∧ (ex = true → post = [])) ∨
      (cs = [] ∧ ∃ a, p = some (.ghost a) ∧ (isNil = true ↔ a = none) ∧ ∀ x, a = some x → x.spot = none)
  | .frz cs => (∃ b n, p = some (.blk b n) ∧ FCells M b 0 cs) ∨ (cs = [] ∧ ∃ a, p = some (.ghost (some a)) ∧ a.spot = none)
  | .map _ => False
  | .dead => True

structure Inv (M : Mem) (φ : Map) (L : LMap) (σ : Nat → AObj) (w : World) : Prop where
  froz : ∀ b off v, M b off = some v → w.cell? ⟨b, off, none⟩ = some v
  obj : ∀ o, ORel φ L M (φ o) (σ o) w
  inj : ∀ o o' b n n', live (σ o) = true → live (σ o') = true → φ o = some (.blk b n) → φ o' = some (.blk b n') → o = o'
  sep : ∀ o b n, live (σ o) = true → φ o = some (.blk b n) → ∀ off, M b off = none

/-- The blocks that a store owns. -/
def owns (φ : Map) (σ : Nat → AObj) (b : Nat) : Prop := ∃ o n, live (σ o) = true ∧ φ o = some (.blk b n)

/-- What a step may have changed: blocks in S, and new ones. -/
structure Frame (S : Nat → Prop) (M : Mem) (w : World) (M' : Mem) (w' : World) : Prop where
  size : w.heap.size ≤ w'.heap.size
  keep : ∀ b, b < w.heap.size → ¬ S b → w'.heap[b]? = w.heap[b]?
  mem : M.le M'
  memN : ∀ b off, b < w.heap.size → ¬ S b → M' b off = M b off
  tape : w'.tape = w.tape
  os : w'.os = w.os
  out : w'.output = w.output

theorem Frame.refl (S : Nat → Prop) (M : Mem) (w : World) : Frame S M w M w :=
  ⟨Nat.le_refl _, fun _ _ _ => rfl, fun _ _ _ h => h, fun _ _ _ _ => rfl, rfl, rfl, rfl⟩

theorem Frame.mono {S S' : Nat → Prop} {M M' : Mem} {w w' : World} (h : Frame S M w M' w') (hs : ∀ b, b < w.heap.size → S b → S' b) : Frame S' M w M' w' :=
  ⟨h.size, fun b hb hn => h.keep b hb fun hh => hn (hs b hb hh), h.mem, fun b off hb hn => h.memN b off hb fun hh => hn (hs b hb hh), h.tape, h.os, h.out⟩

theorem Frame.trans {S S' : Nat → Prop} {M M' M'' : Mem} {w w' w'' : World} (h : Frame S M w M' w') (h' : Frame S' M' w' M'' w'')
    (hs : ∀ b, b < w.heap.size → S' b → S b) : Frame S M w M'' w'' :=
  ⟨Nat.le_trans h.size h'.size,
   fun b hb hn => (h'.keep b (Nat.lt_of_lt_of_le hb h.size) fun hh => hn (hs b hb hh)).trans (h.keep b hb hn),
   fun _ _ _ hv => h'.mem _ _ _ (h.mem _ _ _ hv),
   fun b off hb hn => (h'.memN b off (Nat.lt_of_lt_of_le hb h.size) fun hh => hn (hs b hb hh)).trans (h.memN b off hb hn),
   h'.tape.trans h.tape, h'.os.trans h.os, h'.out.trans h.out⟩

theorem Frame.drew {S : Nat → Prop} {M : Mem} {w : World} (n : Nat) : Frame S M w M { w with drawn := n } :=
  ⟨Nat.le_refl _, fun _ _ _ => rfl, fun _ _ _ h => h, fun _ _ _ _ => rfl, rfl, rfl, rfl⟩

theorem lt_of_heap {w : World} {b : Nat} {o : Obj} (h : w.heap[b]? = some o) : b < w.heap.size := (Array.getElem?_eq_some_iff.1 h).1

theorem cell_of_heap {w : World} {b i : Nat} {vs : Array Value} {el : TypeId} {fz : Nat × Nat} (h : w.heap[b]? = some (.cells vs el fz)) :
    w.cell? ⟨b, i, none⟩ = vs[i]? := by
  simp [World.cell?, h]

theorem cell_congr {w w' : World} {b i : Nat} (h : w'.heap[b]? = w.heap[b]?) : w'.cell? ⟨b, i, none⟩ = w.cell? ⟨b, i, none⟩ := by
  simp [World.cell?, h]

theorem Inv.lt {M : Mem} {φ : Map} {L : LMap} {σ : Nat → AObj} {w : World} (h : Inv M φ L σ w) {o b n : Nat} (hl : live (σ o) = true) (hp : φ o = some (.blk b n)) :
    b < w.heap.size := by
  have := h.obj o
  cases hx : σ o with
  | box cs =>
    rw [hx] at this
    obtain ⟨b', vs, el, fz, hp', hh, _⟩ := this
    rw [hp] at hp'; cases hp'; exact lt_of_heap hh
  | arr cs ex isNil =>
    rw [hx] at this
    rcases this with ⟨_, b', vs, el, fz, pre, post, hp', hh, _⟩ | ⟨_, a, hp', _⟩
    · rw [hp] at hp'; cases hp'; exact lt_of_heap hh
    · rw [hp] at hp'; cases hp'
  | frz cs => rw [hx] at hl; cases hl
  | map es => rw [hx] at this; exact this.elim
  | dead => rw [hx] at hl; cases hl

theorem Inv.memLt {M : Mem} {φ : Map} {L : LMap} {σ : Nat → AObj} {w : World} (h : Inv M φ L σ w) {b off : Nat} {v : Value} (hm : M b off = some v) : b < w.heap.size := by
  have := h.froz b off v hm
  simp only [World.cell?] at this
  split at this
  · rename_i hh; exact lt_of_heap hh
  · cases this

/-- An object lasts where its block, and what is frozen, lasts. -/
theorem ORel.keep {φ φ' : Map} {L L' : LMap} {M M' : Mem} {p : Option Blk} {x : AObj} {w w' : World} (h : ORel φ L M p x w) (hφ : φ.le φ') (hL : L.le L') (hM : M.le M')
    (hk : ∀ b n, live x = true → p = some (.blk b n) → w'.heap[b]? = w.heap[b]?) : ORel φ' L' M' p x w' := by
  cases x with
  | box cs =>
    obtain ⟨b, vs, el, fz, hp, hh, hf, hr, hc⟩ := h
    exact ⟨b, vs, el, fz, hp, (hk b _ rfl hp).trans hh, hf, hr.mono hφ hL hM, hc⟩
  | arr cs ex isNil =>
    rcases h with ⟨hn, b, vs, el, fz, pre, post, hp, hh, hf, he, hr, hc, hx⟩ | ⟨hc, a, hp, hn⟩
    · exact .inl ⟨hn, b, vs, el, fz, pre, post, hp, (hk b _ rfl hp).trans hh, hf, he, hr.mono hM, hc, hx⟩
    · exact .inr ⟨hc, a, hp, hn⟩
  | frz cs =>
    rcases h with ⟨b, n, hp, hr⟩ | ⟨hc, a, hp, hs⟩
    · exact .inl ⟨b, n, hp, hr.mono hM⟩
    · exact .inr ⟨hc, a, hp, hs⟩
  | map es => exact h.elim
  | dead => trivial

/-- A store lasts where a step touches none of its blocks. -/
theorem Inv.keep {M M' : Mem} {φ φ' : Map} {L L' : LMap} {σ : Nat → AObj} {w w' : World} {S : Nat → Prop} (h : Inv M φ L σ w) (hf : Frame S M w M' w')
    (hfr : ∀ b off v, M' b off = some v → w'.cell? ⟨b, off, none⟩ = some v) (hL : L.le L') (hφ : φ.le φ') (hφ' : ∀ o, live (σ o) = true → φ' o = φ o)
    (hd : ∀ o, (∃ p, φ o = some p) ∨ σ o = .dead)
    (hs : ∀ b, owns φ σ b → ¬ S b) : Inv M' φ' L' σ w' where
  froz := hfr
  obj o := by
    have hk := (h.obj o).keep (φ' := φ') (L' := L') (M' := M') (w' := w') hφ hL hf.mem (fun b n hl hp => hf.keep b (h.lt hl hp) (hs b ⟨o, n, hl, hp⟩))
    rcases hd o with ⟨p, hp⟩ | hx
    · rw [hφ o p hp]; rw [hp] at hk; exact hk
    · rw [hx]; trivial
  inj o o' b n n' hl hl' hp hp' := by rw [hφ' o hl] at hp; rw [hφ' o' hl'] at hp'; exact h.inj o o' b n n' hl hl' hp hp'
  sep o b n hl hp off := by
    rw [hφ' o hl] at hp
    rw [hf.memN b off (h.lt hl hp) (hs b ⟨o, n, hl, hp⟩)]
    exact h.sep o b n hl hp off

def upd {α : Type} (f : Nat → α) (o : Nat) (x : α) : Nat → α := fun i => if i = o then x else f i

@[simp] theorem upd_same {α : Type} (f : Nat → α) (o : Nat) (x : α) : upd f o x o = x := by simp [upd]
theorem upd_ne {α : Type} (f : Nat → α) {o i : Nat} (x : α) (h : i ≠ o) : upd f o x i = f i := by simp [upd, h]

theorem Map.le_upd {φ : Map} {k : Nat} (h : φ k = none) (p : Option Blk) : φ.le (upd φ k p) := by
  intro o q hq
  by_cases ho : o = k
  · subst ho; rw [h] at hq; cases hq
  · rw [upd_ne _ _ ho]; exact hq

def World.push (w : World) (o : Obj) : World := { w with heap := w.heap.push o }

theorem heap_push_lt {w : World} {o : Obj} {b : Nat} (h : b < w.heap.size) : (World.push w o).heap[b]? = w.heap[b]? := by
  show (w.heap.push o)[b]? = _
  rw [Array.getElem?_push, if_neg (Nat.ne_of_lt h)]

theorem heap_push_new {w : World} {o : Obj} : (World.push w o).heap[w.heap.size]? = some o := by
  show (w.heap.push o)[w.heap.size]? = _
  rw [Array.getElem?_push, if_pos rfl]

theorem size_push {w : World} {o : Obj} : (World.push w o).heap.size = w.heap.size + 1 := by
  show (w.heap.push o).size = _
  exact Array.size_push _

theorem Frame.push {S : Nat → Prop} {M : Mem} {w : World} (o : Obj) : Frame S M w M (World.push w o) :=
  ⟨by rw [size_push]; omega, fun _ hb _ => heap_push_lt hb, fun _ _ _ h => h, fun _ _ _ _ => rfl, rfl, rfl, rfl⟩

/-- A new object. -/
theorem Inv.new {M : Mem} {φ : Map} {L : LMap} {σ : Nat → AObj} {w : World} (h : Inv M φ L σ w) {k : Nat} (hk : φ k = none) (hd : ∀ o, (∃ p, φ o = some p) ∨ σ o = .dead)
    {x : AObj} {vs : Array Value} (el : TypeId) (hx : ORel (upd φ k (some (.blk w.heap.size vs.size))) L M (some (.blk w.heap.size vs.size)) x (World.push w (.cells vs el))) :
    Inv M (upd φ k (some (.blk w.heap.size vs.size))) L (upd σ k x) (World.push w (.cells vs el)) where
  froz b off v hm := by
    rw [cell_congr (heap_push_lt (h.memLt hm))]; exact h.froz b off v hm
  obj o := by
    by_cases ho : o = k
    · subst ho; simpa using hx
    · rw [upd_ne _ _ ho, upd_ne _ _ ho]
      rcases hd o with ⟨p, hp⟩ | hxd
      · exact (h.obj o).keep (Map.le_upd hk _) (fun _ _ h => h) (fun _ _ _ h => h) (fun b n hl hp => heap_push_lt (h.lt hl hp))
      · rw [hxd]; trivial
  inj o o' b n n' hl hl' hp hp' := by
    by_cases ho : o = k <;> by_cases ho' : o' = k
    · omega
    · subst ho
      simp at hp
      rw [upd_ne _ _ ho'] at hl' hp'
      have := h.lt hl' hp'
      omega
    · subst ho'
      simp at hp'
      rw [upd_ne _ _ ho] at hl hp
      have := h.lt hl hp
      omega
    · rw [upd_ne _ _ ho] at hl hp
      rw [upd_ne _ _ ho'] at hl' hp'
      exact h.inj o o' b n n' hl hl' hp hp'
  sep o b n hl hp off := by
    by_cases ho : o = k
    · subst ho
      simp at hp
      cases hm : M b off with
      | none => rfl
      | some v => have := h.memLt hm; omega
    · rw [upd_ne _ _ ho] at hl hp
      exact h.sep o b n hl hp off

/-- A new empty slice without a block. -/
theorem Inv.newGhost {M : Mem} {φ : Map} {L : LMap} {σ : Nat → AObj} {w : World} (h : Inv M φ L σ w) {k : Nat} (hk : φ k = none) (a : Option Addr) (ex isNil : Bool) (hn : isNil = true ↔ a = none) (hsp : ∀ x, a = some x → x.spot = none) :
    Inv M (upd φ k (some (.ghost a))) L (upd σ k (.arr [] ex isNil)) w where
  froz := h.froz
  obj o := by
    by_cases ho : o = k
    · subst ho; rw [upd_same, upd_same]; exact Or.inr ⟨rfl, a, rfl, hn, hsp⟩
    · rw [upd_ne _ _ ho, upd_ne _ _ ho]
      exact (h.obj o).keep (Map.le_upd hk _) (fun _ _ h => h) (fun _ _ _ h => h) (fun b n hl hp => rfl)
  inj o o' b n n' hl hl' hp hp' := by
    by_cases ho : o = k
    · subst ho; simp at hp
    · by_cases ho' : o' = k
      · subst ho'; simp at hp'
      · rw [upd_ne _ _ ho] at hl hp
        rw [upd_ne _ _ ho'] at hl' hp'
        exact h.inj o o' b n n' hl hl' hp hp'
  sep o b n hl hp off := by
    by_cases ho : o = k
    · subst ho; simp at hp
    · rw [upd_ne _ _ ho] at hl hp
      exact h.sep o b n hl hp off

/-- A block's cells replaced. -/
def putBlk (w : World) (b : Nat) (vs : Array Value) (el : TypeId) (fz : Nat × Nat) : World := { w with heap := w.heap.setIfInBounds b (.cells vs el fz) }

theorem putBlk_same {w : World} {b : Nat} {vs vs' : Array Value} {el : TypeId} {fz : Nat × Nat} (h : w.heap[b]? = some (.cells vs el fz)) :
    (putBlk w b vs' el fz).heap[b]? = some (.cells vs' el fz) := by
  have := lt_of_heap h
  simp [putBlk, this]

theorem putBlk_ne {w : World} {b b' : Nat} {vs' : Array Value} {el : TypeId} {fz : Nat × Nat} (h : b' ≠ b) :
    (putBlk w b vs' el fz).heap[b']? = w.heap[b']? := by
  simp [putBlk, Ne.symm h]

theorem Frame.put {S : Nat → Prop} {M : Mem} {w : World} {b : Nat} {vs' : Array Value} {el : TypeId} {fz : Nat × Nat} (hb : S b) : Frame S M w M (putBlk w b vs' el fz) :=
  ⟨by simp [putBlk], fun b' _ hn => putBlk_ne (fun e => hn (e ▸ hb)), fun _ _ _ h => h, fun _ _ _ _ => rfl, rfl, rfl, rfl⟩

/-- An object's cells replaced. -/
theorem Inv.put {M : Mem} {φ : Map} {L : LMap} {σ : Nat → AObj} {w : World} (h : Inv M φ L σ w) {o b : Nat} {vs vs' : Array Value} {el : TypeId} {fz : Nat × Nat} {x : AObj}
    (hl : live (σ o) = true) (hp : φ o = some (.blk b vs.size)) (hh : w.heap[b]? = some (.cells vs el fz))
    (hx : ORel φ L M (φ o) x (putBlk w b vs' el fz)) :
    Inv M φ L (upd σ o x) (putBlk w b vs' el fz) where
  froz b' off v hm := by
    have hne : b' ≠ b := by
      rintro rfl
      rw [h.sep o b' _ hl hp off] at hm; cases hm
    rw [cell_congr (putBlk_ne hne)]; exact h.froz b' off v hm
  obj o' := by
    by_cases ho : o' = o
    · subst ho; simpa using hx
    · rw [upd_ne _ _ ho]
      refine (h.obj o').keep (fun _ _ h => h) (fun _ _ h => h) (fun _ _ _ h => h) (fun b' n hl' hp' => putBlk_ne ?_)
      rintro rfl
      exact ho (h.inj _ _ _ _ _ hl' hl hp' hp)
  inj o1 o2 b' n n' hl1 hl2 hp1 hp2 := by
    have aux : ∀ i, live (upd σ o x i) = true → live (σ i) = true := by
      intro i hi
      by_cases e : i = o
      · subst e; exact hl
      · rwa [upd_ne _ _ e] at hi
    exact h.inj o1 o2 b' n n' (aux _ hl1) (aux _ hl2) hp1 hp2
  sep o1 b' n hl1 hp1 off := by
    have : live (σ o1) = true := by
      by_cases e : o1 = o
      · subst e; exact hl
      · rwa [upd_ne _ _ e] at hl1
    exact h.sep o1 b' n this hp1 off

theorem Inv.drew {M : Mem} {φ : Map} {L : LMap} {σ : Nat → AObj} {w : World} (h : Inv M φ L σ w) (n : Nat) : Inv M φ L σ { w with drawn := n } where
  froz := h.froz
  obj o := (h.obj o).keep (fun _ _ h => h) (fun _ _ h => h) (fun _ _ _ h => h) (fun _ _ _ _ => rfl)
  inj := h.inj
  sep := h.sep

/-- An object given up. -/
theorem Inv.kill {M : Mem} {φ : Map} {L : LMap} {σ : Nat → AObj} {w : World} (h : Inv M φ L σ w) (o : Nat) : Inv M φ L (upd σ o .dead) w where
  froz := h.froz
  obj o' := by
    by_cases ho : o' = o
    · subst ho; simp [ORel]
    · rw [upd_ne _ _ ho]; exact h.obj o'
  inj o1 o2 b' n n' hl1 hl2 hp1 hp2 := by
    have aux : ∀ i, live (upd σ o .dead i) = true → live (σ i) = true := by
      intro i hi
      by_cases e : i = o
      · subst e; simp [live] at hi
      · rwa [upd_ne _ _ e] at hi
    exact h.inj o1 o2 b' n n' (aux _ hl1) (aux _ hl2) hp1 hp2
  sep o1 b' n hl1 hp1 off := by
    have : live (σ o1) = true := by
      by_cases e : o1 = o
      · subst e; simp [live] at hl1
      · rwa [upd_ne _ _ e] at hl1
    exact h.sep o1 b' n this hp1 off

end Go.AM

namespace Go.AM

variable {P : Program} {M : Mem} {φ : Map} {L : LMap} {σ : Nat → AObj} {w : World}

theorem add_eq (b off j : Nat) : (⟨b, off, none⟩ : Addr).add j = ⟨b, off + j, none⟩ := by
  unfold Addr.add
  split
  · rename_i h; subst h; rfl
  · rfl

theorem run_isAgg {t : TypeId} {r : Bool} (h : isAggT P t = some r) (w : World) : (isAgg t).run P w = .ok r w := by
  unfold isAggT at h
  unfold isAgg
  simp only [Sem.run_bind]
  cases hu : P.underlying t with
  | none => rw [hu] at h; cases h
  | some d =>
    rw [hu] at h
    rw [run_underlying hu]
    cases d <;> simp only [Option.some.injEq] at h <;> subst h <;> simp

theorem run_sizeT {t : TypeId} {n : Nat} (h : sizeT P t = some n) (w : World) : (sizeOf t).run P w = .ok n w := by
  unfold sizeT at h
  cases hi : P.info? t with
  | none => rw [hi] at h; cases h
  | some i =>
    rw [hi] at h
    simp only [Option.map_some, Option.some.injEq] at h
    simp [sizeOf, typeInfo, hi, h]

theorem run_info {t : TypeId} {i : TypeInfo} (h : P.info? t = some i) (w : World) : (typeInfo t).run P w = .ok i w := by
  simp [typeInfo, h]

theorem run_zero {t : TypeId} {v : Value} (h : (P.info? t).bind (·.zero) = some v) (w : World) : (zeroValue t).run P w = .ok v w := by
  cases hi : P.info? t with
  | none => rw [hi] at h; cases h
  | some i =>
    rw [hi] at h
    simp only [Option.bind_some] at h
    simp [zeroValue, typeInfo, hi, h]

theorem sliceOf_some {α : Type} {l : List α} {off n : Nat} {r : List α} (h : sliceOf l off n = some r) : r = (l.drop off).take n ∧ r.length = n := by
  unfold sliceOf at h
  simp only [] at h
  split at h
  · rename_i hl; cases h; exact ⟨rfl, hl⟩
  · cases h

theorem slice_get {α : Type} {l : List α} {off n j : Nat} {v : α} (h : ((l.drop off).take n)[j]? = some v) : l[off + j]? = some v := by
  have hj : j < n := by
    rcases Nat.lt_or_ge j n with h' | h'
    · exact h'
    · rw [List.getElem?_eq_none (by rw [List.length_take]; omega)] at h; cases h
  rw [List.getElem?_take_of_lt hj, List.getElem?_drop] at h
  exact h

/-- What is read is there. -/
theorem loadCells_sound {a : AV} {n : Nat} {l : List AV} {v : Value} (hI : Inv M φ L σ w) (h : loadCells σ a n = some l) (ha : ARel φ L M a v) :
    ∃ (b off : Nat) (xs : List Value), v = .pointer (some ⟨b, off, none⟩) ∧ xs.length = n ∧ ARels φ L M l xs ∧ (∀ x ∈ xs, cell1 x = true) ∧
      ∀ j x, xs[j]? = some x → w.cell? ⟨b, off + j, none⟩ = some x := by
  unfold loadCells at h
  split at h
  · -- frozen
    rename_i cells off
    cases ha with
    | f hr ho =>
      cases hr with
      | ptr hc =>
        rename_i b base
        cases hs : sliceOf cells off n with
        | none => rw [hs] at h; cases h
        | some r =>
          rw [hs] at h
          simp only [Option.map_some, Option.some.injEq] at h
          subst h
          obtain ⟨rfl, hl⟩ := sliceOf_some hs
          have hcc := (hc.drop off).take n
          obtain ⟨xs, h1, h2, h3⟩ := hcc.read
          refine ⟨b, base + off, xs, rfl, by rw [← h1.length]; exact hl, ARels.of_frels h1 h2, h2, ?_⟩
          intro j x hx
          exact hI.froz _ _ _ (h3 j x hx)
  · -- own
    rename_i o off
    cases ha with
    | ptr hp =>
      rename_i b bn
      have hob := hI.obj o
      split at h
      · rename_i cells hx
        rw [hx] at hob
        obtain ⟨b', vs, el, fz, hp', hh, hf, hr, hc⟩ := hob
        rw [hp] at hp'; cases hp'
        obtain ⟨rfl, hl⟩ := sliceOf_some h
        refine ⟨b, off, (vs.toList.drop off).take n, rfl, ?_, (hr.drop off).take n, ?_, ?_⟩
        · rw [← ((hr.drop off).take n).length]; exact hl
        · intro x hx'; exact hc x (List.mem_of_mem_drop (List.mem_of_mem_take hx'))
        · intro j x hx'
          rw [cell_of_heap hh]
          have := slice_get hx'
          simpa using this
      · rename_i cells ex isNil hx
        rw [hx] at hob
        rcases hob with ⟨hn, b', vs, el, fz, pre, post, hp', hh, hf, he, hr, hc, hex⟩ | ⟨hc, a', hp', hn⟩
        · rw [hp] at hp'; cases hp'
          cases hs : sliceOf cells off n with
          | none => rw [hs] at h; cases h
          | some r =>
            rw [hs] at h
            simp only [Option.map_some, Option.some.injEq] at h
            subst h
            obtain ⟨rfl, hl⟩ := sliceOf_some hs
            have hrr := (hr.drop off).take n
            have hcc : ∀ x ∈ (pre.drop off).take n, cell1 x = true := fun x hx' => hc x (List.mem_of_mem_drop (List.mem_of_mem_take hx'))
            refine ⟨b, off, (pre.drop off).take n, rfl, by rw [← hrr.length]; exact hl, ARels.of_frels hrr hcc, hcc, ?_⟩
            intro j x hx'
            rw [cell_of_heap hh]
            have h1 := slice_get hx'
            have h2 : vs.toList[off + j]? = some x := by
              rw [he, List.getElem?_append_left (List.getElem?_eq_some_iff.1 h1).1]; exact h1
            simpa using h2
        · rw [hp] at hp'; cases hp'
      · rename_i cells hx
        rw [hx] at hob
        rcases hob with ⟨b', bn', hp', hc⟩ | ⟨_, _, hp', _⟩
        case inr => rw [hp] at hp'; cases hp'
        rw [hp] at hp'; cases hp'
        cases hs : sliceOf cells off n with
        | none => rw [hs] at h; cases h
        | some r =>
          rw [hs] at h
          simp only [Option.map_some, Option.some.injEq] at h
          subst h
          obtain ⟨rfl, hl⟩ := sliceOf_some hs
          have hcc := (hc.drop off).take n
          obtain ⟨xs, h1, h2, h3⟩ := hcc.read
          refine ⟨b, off, xs, rfl, by rw [← h1.length]; exact hl, ARels.of_frels h1 h2, h2, ?_⟩
          intro j x hx
          have := hI.froz _ _ _ (h3 j x hx)
          simpa using this
      · cases h
  · cases h

theorem load_sound {t : TypeId} {a r : AV} {v : Value} (hI : Inv M φ L σ w) (h : loadA P σ t a = some r) (ha : ARel φ L M a v) :
    ∃ x, (Instr.loadAt t v).run P w = .ok x w ∧ ARel φ L M r x := by
  unfold loadA at h
  split at h
  · rename_i hag
    split at h
    · rename_i n hn
      cases hl : loadCells σ a n with
      | none => rw [hl] at h; cases h
      | some l =>
        rw [hl] at h
        simp only [Option.map_some, Option.some.injEq] at h
        subst h
        obtain ⟨b, off, xs, rfl, hlen, hr, hc, hx⟩ := loadCells_sound hI hl ha
        refine ⟨.agg xs.toArray, ?_, .agg (by simpa using hr) (by simpa using hc)⟩
        have hrun := run_loadCells_list (P := P) w ⟨b, off, none⟩ xs (fun j x hj => by rw [add_eq]; exact hx j x hj)
        simp only [Instr.loadAt, Instr.sureAddr, loadVar, pure_bind, Sem.run_bind, run_isAgg hag, Result.andThen_ok, if_true, run_sizeT hn, Sem.run_pure]
        rw [← hlen, hrun]; rfl
    · cases h
  · rename_i hag
    split at h
    · rename_i x hl
      cases h
      obtain ⟨b, off, xs, rfl, hlen, hr, hc, hx⟩ := loadCells_sound hI hl ha
      cases hr with
      | cons h1 h2 =>
        rename_i y ys
        refine ⟨y, ?_, h1⟩
        have h0 := hx 0 y rfl
        simp only [Nat.add_zero] at h0
        simp only [Instr.loadAt, Instr.sureAddr, loadVar, pure_bind, Sem.run_bind, run_isAgg hag, Result.andThen_ok, Bool.false_eq_true, if_false, run_load, h0]
    · cases h
  · cases h

theorem setCells_length {α : Type} : ∀ (l : List α) (cells : List α) (off : Nat), (setCells cells off l).length = cells.length
  | [], _, _ => rfl
  | v :: r, cells, off => by simp only [setCells]; rw [setCells_length r]; simp

theorem setCell_put {w : World} {b i : Nat} {cur : Array Value} {el : TypeId} {fz : Nat × Nat} (h : w.heap[b]? = some (.cells cur el fz)) (v : Value) :
    w.setCell ⟨b, i, none⟩ v = putBlk w b (cur.setIfInBounds i v) el fz := by
  unfold World.setCell putBlk
  congr 1
  apply Array.ext_getElem?
  intro k
  by_cases hk : k = b
  · subst hk
    have hlt := lt_of_heap h
    rw [Array.getElem?_modify, if_pos rfl, h, Array.getElem?_setIfInBounds, if_pos rfl, if_pos hlt]
    rfl
  · rw [Array.getElem?_modify, if_neg (Ne.symm hk), Array.getElem?_setIfInBounds, if_neg (Ne.symm hk)]

theorem putBlk_put {w : World} {b : Nat} {v1 v2 : Array Value} {el : TypeId} {fz : Nat × Nat} : putBlk (putBlk w b v1 el fz) b v2 el fz = putBlk w b v2 el fz := by
  unfold putBlk
  simp

theorem putBlk_id {w : World} {b : Nat} {vs : Array Value} {el : TypeId} {fz : Nat × Nat} (h : w.heap[b]? = some (.cells vs el fz)) : putBlk w b vs el fz = w := by
  unfold putBlk
  have : w.heap.setIfInBounds b (.cells vs el fz) = w.heap := by
    apply Array.ext_getElem?
    intro k
    by_cases hk : k = b
    · subst hk
      have hlt := lt_of_heap h
      rw [Array.getElem?_setIfInBounds, if_pos rfl, if_pos hlt, h]
    · rw [Array.getElem?_setIfInBounds, if_neg (Ne.symm hk)]
  rw [this]

theorem run_storeCells_blk {b off : Nat} {el : TypeId} {fz : Nat × Nat} : ∀ (l : List Value) (i : Nat) (cur : Array Value) (w : World),
    w.heap[b]? = some (.cells cur el fz) → okFz fz cur.size → off + i + l.length ≤ cur.size → (∀ v ∈ l, cell1 v = true) →
    (Go.storeCells ⟨b, off, none⟩ l i).run P w = .ok () (putBlk w b (setCells cur.toList (off + i) l).toArray el fz)
  | [], i, cur, w, h, _, _, _ => by
    simp only [Go.storeCells, Sem.run_pure, setCells]
    rw [Array.toArray_toList, putBlk_id h]
  | v :: r, i, cur, w, h, hf, hle, hc => by
    simp only [List.length_cons] at hle
    have hcell : w.cell? ⟨b, off + i, none⟩ = cur[off + i]? := cell_of_heap h
    have hlt : off + i < cur.size := by omega
    rw [Array.getElem?_eq_getElem hlt] at hcell
    have hfr : w.frozen? ⟨b, off + i, none⟩ = false := by
      unfold World.frozen?
      rw [h]
      have := hf (off + i) hlt
      obtain ⟨lo, hi⟩ := fz
      simp only [Bool.and_eq_false_iff, decide_eq_false_iff_not]
      simp only [] at this
      omega
    simp only [Go.storeCells, Sem.run_bind]
    rw [add_eq, run_store P w _ v .plain (hc v (by simp)), hcell, hfr]
    simp only [Bool.false_eq_true, if_false, Result.andThen_ok]
    rw [setCell_put h]
    rw [run_storeCells_blk r (i + 1) (cur.setIfInBounds (off + i) v) _ (putBlk_same h) (by simpa using hf) (by simp; omega) (fun x hx => hc x (by simp [hx]))]
    rw [putBlk_put]
    simp only [setCells, Array.toList_setIfInBounds]
    rfl

def updWr (σ : Nat → AObj) : List (Nat × AObj) → Nat → AObj
  | [] => σ
  | (o, x) :: r => updWr (upd σ o x) r

def updNews (σ : Nat → AObj) : Nat → List AObj → Nat → AObj
  | _, [] => σ
  | base, x :: r => updNews (upd σ base x) (base + 1) r

def effO (σ : Nat → AObj) (base : Nat) (e : Eff) : Nat → AObj := updNews (updWr σ e.wr) base e.news

theorem setCells_take {α : Type} : ∀ (l : List α) (cells : List α) (off : Nat), (setCells cells off l).take off = cells.take off
  | [], _, _ => rfl
  | v :: r, cells, off => by
    simp only [setCells]
    have := setCells_take r (cells.set off v) (off + 1)
    have h2 : ((setCells (cells.set off v) (off + 1) r).take (off + 1)).take off = ((cells.set off v).take (off + 1)).take off := by rw [this]
    simp only [List.take_take, Nat.min_eq_left (Nat.le_succ off)] at h2
    rw [h2, List.take_set_of_le (Nat.le_refl _)]

theorem ARels.setCells : ∀ {l cells : List AV} {xs ys : List Value} (off : Nat), ARels φ L M cells ys → ARels φ L M l xs → ARels φ L M (AM.setCells cells off l) (AM.setCells ys off xs)
  | [], _, _, _, _, h, .nil => h
  | _ :: _, _, _, _, off, h, .cons a b => ARels.setCells (off + 1) (h.set off a) b

theorem FRels.setCells : ∀ {l cells : List FV} {xs ys : List Value} (off : Nat), FRels M cells ys → FRels M l xs → FRels M (AM.setCells cells off l) (AM.setCells ys off xs)
  | [], _, _, _, _, h, .nil => h
  | _ :: _, _, _, _, off, h, .cons a b => FRels.setCells (off + 1) (h.set off a) b

theorem cell1_setCells : ∀ {xs ys : List Value} (off : Nat), (∀ v ∈ ys, cell1 v = true) → (∀ v ∈ xs, cell1 v = true) → ∀ v ∈ setCells ys off xs, cell1 v = true
  | [], _, _, h, _ => h
  | x :: r, ys, off, h, hx => by
    simp only [setCells]
    refine cell1_setCells (off + 1) ?_ (fun v hv => hx v (by simp [hv]))
    intro v hv
    rcases List.mem_or_eq_of_mem_set hv with hv | rfl
    · exact h v hv
    · exact hx v (by simp)

theorem setCells_append {α : Type} : ∀ (l pre post : List α) (off : Nat), off + l.length ≤ pre.length → setCells (pre ++ post) off l = setCells pre off l ++ post
  | [], _, _, _, _ => rfl
  | v :: r, pre, post, off, h => by
    simp only [List.length_cons] at h
    simp only [setCells]
    rw [List.set_append_left _ _ (by omega), setCells_append r _ post (off + 1) (by simp; omega)]

/-- What is written. -/
theorem storeCells_sound {a : AV} {l : List AV} {wr : List (Nat × AObj)} {v : Value} {xs : List Value} (hI : Inv M φ L σ w) (h : storeCells σ a l = some wr) (ha : ARel φ L M a v)
    (hl : ARels φ L M l xs) (hc1 : ∀ x ∈ xs, cell1 x = true) :
    ∃ (b off : Nat) (w' : World), v = .pointer (some ⟨b, off, none⟩) ∧ (Go.storeCells ⟨b, off, none⟩ xs).run P w = .ok () w' ∧
      Inv M φ L (updWr σ wr) w' ∧ Frame (owns φ σ) M w M w' ∧ (∀ o, live (updWr σ wr o) = true → live (σ o) = true) ∧ (∀ o, σ o = .dead → updWr σ wr o = .dead) := by
  unfold storeCells at h
  split at h
  · rename_i o off
    cases ha with
    | ptr hp =>
      rename_i b bn
      have hob := hI.obj o
      split at h
      · rename_i cells hx
        split at h
        · rename_i hle
          cases h
          rw [hx] at hob
          obtain ⟨b', vs, el, fz, hp', hh, hf, hr, hc⟩ := hob
          rw [hp] at hp'; cases hp'
          have hlen := hr.length
          have hlen2 := hl.length
          refine ⟨b, off, putBlk w b (setCells vs.toList off xs).toArray el fz, rfl, ?_, ?_, Frame.put ⟨o, _, by rw [hx]; rfl, hp⟩, ?_, ?_⟩
          · have := run_storeCells_blk (P := P) (b := b) (off := off) (el := el) (fz := fz) xs 0 vs w hh hf (by simp at hlen; omega) hc1
            simpa using this
          · have hlx : live (σ o) = true := by rw [hx]; rfl
            refine hI.put (x := .box (setCells cells off l)) hlx hp hh ?_
            refine ⟨b, (setCells vs.toList off xs).toArray, el, fz, ?_, putBlk_same hh, ?_, ?_, ?_⟩
            · rw [hp]; simp [setCells_length]
            · simpa [setCells_length] using hf
            · simpa using hr.setCells off hl
            · simpa using cell1_setCells off hc hc1
          · intro o' ho'
            by_cases e : o' = o
            · subst e; rw [hx]; rfl
            · simpa [updWr, upd_ne _ _ e] using ho'
          · intro o' ho'
            have e : o' ≠ o := by rintro rfl; rw [hx] at ho'; cases ho'
            simpa [updWr, upd_ne _ _ e] using ho'
        · cases h
      · rename_i cells ex isNil hx
        split at h
        · rename_i l' hl'
          split at h
          · rename_i hle
            cases h
            rw [hx] at hob
            obtain ⟨hfl, hfc⟩ := hl.unF hl'
            rcases hob with ⟨hn, b', vs, el, fz, pre, post, hp', hh, hf, he, hr, hc, hex⟩ | ⟨hc, a', hp', hn⟩
            · rw [hp] at hp'; cases hp'
              have hlen := hr.length
              have hlen2 := hfl.length
              have hsz : vs.size = pre.length + post.length := by rw [← Array.length_toList, he]; simp
              refine ⟨b, off, putBlk w b (setCells vs.toList off xs).toArray el fz, rfl, ?_, ?_, Frame.put ⟨o, _, by rw [hx]; rfl, hp⟩, ?_, ?_⟩
              · have := run_storeCells_blk (P := P) (b := b) (off := off) (el := el) (fz := fz) xs 0 vs w hh hf (by omega) hc1
                simpa using this
              · have hlx : live (σ o) = true := by rw [hx]; rfl
                refine hI.put (x := .arr (setCells cells off l') ex isNil) hlx hp hh ?_
                refine .inl ⟨hn, b, (setCells vs.toList off xs).toArray, el, fz, setCells pre off xs, post, ?_, putBlk_same hh, ?_, ?_, ?_, ?_, hex⟩
                · rw [hp]; simp [setCells_length]
                · simpa [setCells_length] using hf
                · rw [he, setCells_append _ _ _ _ (by omega)]
                · exact hr.setCells off hfl
                · exact cell1_setCells off hc hc1
              · intro o' ho'
                by_cases e : o' = o
                · subst e; rw [hx]; rfl
                · simpa [updWr, upd_ne _ _ e] using ho'
              · intro o' ho'
                have e : o' ≠ o := by rintro rfl; rw [hx] at ho'; cases ho'
                simpa [updWr, upd_ne _ _ e] using ho'
            · rw [hp] at hp'; cases hp'
          · cases h
        · cases h
      · cases h
  · cases h

end Go.AM
