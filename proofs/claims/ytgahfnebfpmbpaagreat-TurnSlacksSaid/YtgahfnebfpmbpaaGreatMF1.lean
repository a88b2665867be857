/-
The bridge to the row, and the claim.
-/
import Derived.Test.YtgahfnebfpmbpaaGreatMC4
import Derived.OpenShut
import Derived.WalkKit
import Derived.ProofKit
import Derived.Test.YtgahfnebfpmbpaaGreatMB2
import Derived.Test.YtgahfnebfpmbpaaGreatMA5
import Derived.ReadAgain
import Derived.Test.YtgahfnebfpmbpaaGreatRows
import Derived.Test.YtgahfnebfpmbpaaGreatME3
set_option linter.unusedVariables false
set_option linter.unusedSimpArgs false
namespace Go.AM
open Go.Proofs Go.ChangeShapes Go.WideShapes Go.ChangeAt Go.RowKit
set_option maxRecDepth 100000
/-- What lies in a world's cells. -/
def memW (W : World) : Mem := fun b off => W.cell? ⟨b, off, none⟩
theorem fcells_ints {M : Mem} {b : Nat} : ∀ (zs : List Int) (off : Nat), (∀ i, i < zs.length → M b (off + i) = some (.int .i64 (zs.getD i 0))) → FCells M b off (ints zs)
  | [], _, _ => .nil _ _
  | z :: zs, off, h => by
    have h0 := h 0 (by simp)
    refine FCells.cons (by simpa using h0) rfl (.int _ _) (fcells_ints zs (off + 1) fun i hi => ?_)
    have := h (i + 1) (by simpa using hi)
    simpa [Nat.add_comm, Nat.add_left_comm, Nat.add_assoc] using this
/-- what lies in a cloth's cells -/
def ClAt (M : Mem) (b off : Nat) (x : Cl) : Prop :=
  M b off = some (.int .i64 x.w) ∧ M b (off + 1) = some (.int .i64 x.c) ∧ M b (off + 2) = some (.int .i64 x.lo) ∧ M b (off + 3) = some (.int .i64 x.hi)
theorem fcells_cls {M : Mem} {b : Nat} : ∀ (cl : List Cl) (off : Nat), (∀ i, i < cl.length → ClAt M b (off + i * 4) (cAt cl i)) → FCells M b off (cls cl)
  | [], _, _ => .nil _ _
  | x :: cl, off, h => by
    have h0 := h 0 (by simp)
    simp only [Nat.zero_mul, Nat.add_zero] at h0
    obtain ⟨h1, h2, h3, h4⟩ := h0
    rw [cls_cons]
    refine FCells.cons h1 rfl (.int _ _) (FCells.cons h2 rfl (.int _ _) (FCells.cons h3 rfl (.int _ _) (FCells.cons h4 rfl (.int _ _) (fcells_cls cl (off + 4) fun i hi => ?_))))
    have := h (i + 1) (by simpa using hi)
    have e : off + (i + 1) * 4 = off + 4 + i * 4 := by omega
    rw [e] at this
    exact this
theorem cell_slice {P : Program} {w : World} {r : Reach} {base : Nat} {t e : TypeId} {v : Value} (ht : P.underlying t = some (.slice e)) (h : Cell.okWide P w r base t v) :
    v = .slice none 0 0 ∨ ∃ b off len cap, v = .slice (some ⟨b, off, none⟩) len cap ∧ len ≤ cap := by
  cases v with
  | slice a len cap =>
    cases a with
    | none =>
      cases len with
      | zero =>
        cases cap with
        | zero => exact .inl rfl
        | succ n => simp only [Cell.okWide, Cell.ok, ht] at h
      | succ n => simp only [Cell.okWide, Cell.ok, ht] at h
    | some a =>
      simp only [Cell.okWide, Cell.ok, ht] at h
      obtain ⟨hl, _, _, hs, _⟩ := h
      obtain ⟨b, off, s⟩ := a
      simp only at hs
      subst hs
      exact .inr ⟨b, off, len, cap, rfl, hl⟩
  | _ => simp only [Cell.okWide, Cell.ok, ht] at h
theorem choose_list {α : Type} (d : α) (p : Nat → α → Prop) : ∀ n, (∀ i, i < n → ∃ x, p i x) → ∃ l : List α, l.length = n ∧ ∀ i, i < n → p i (l.getD i d)
  | 0, _ => ⟨[], rfl, fun i hi => by omega⟩
  | n + 1, h => by
    obtain ⟨l, hl, hp⟩ := choose_list d p n fun i hi => h i (by omega)
    obtain ⟨x, hx⟩ := h n (by omega)
    refine ⟨l ++ [x], by simp [hl], fun i hi => ?_⟩
    by_cases hin : i < n
    · have := hp i hin
      rw [List.getD_eq_getElem?_getD, List.getElem?_append_left (by omega), ← List.getD_eq_getElem?_getD]
      exact this
    · have e : i = n := by omega
      subst e
      have : (l ++ [x]).getD i d = x := by
        rw [List.getD_eq_getElem?_getD, List.getElem?_append_right (by omega), hl]
        simp
      rw [this]
      exact hx
section
variable {H : Type} {enc : TypeId × Value → H} {W : World} {base base' : Nat} {sp : Nat → Bool} {held : Bool} {fuel : Nat} {v : Value} {x : DataW H × List MemPlace}
theorem read_ints (hc : Cell.okWide Tryz.prog W .any base' 23 v) (h : DataW.trod enc Tryz.prog W base sp held fuel 23 [v] = some x) :
    ∃ nl c zs, FRel (memW W) (mkSl nl (ints zs) zs.length c) v ∧ NilOk nl zs.length := by
  rcases open_ints Tryz.underlying23 Tryz.underlying3 (by kernel_rfl) h with ⟨hv, _⟩ | ⟨a, len, cap, zs, hv, _, hl, _, hz, _, hcell, _⟩
  · simp only [List.cons.injEq, and_true] at hv
    subst hv
    exact ⟨true, false, [], .nils, fun _ => rfl⟩
  · simp only [List.cons.injEq, and_true] at hv
    rcases cell_slice Tryz.underlying23 hc with e | ⟨b, off, len', cap', e, _⟩
    · rw [hv] at e; cases e
    · rw [hv] at e
      cases e
      have hlz : len ≤ zs.length := by rw [hz]; split <;> omega
      refine ⟨false, false, zs.take len, ?_, fun h => by cases h⟩
      rw [hv, List.length_take, Nat.min_eq_left hlz]
      refine FRel.sl (fcells_ints _ _ fun i hi => ?_) hl (by simp)
      rw [List.length_take, Nat.min_eq_left hlz] at hi
      have := hcell i (by omega)
      rw [add_plain] at this
      rw [memW, this]
      simp [List.getD_eq_getElem?_getD, hi]
theorem read_int {t : TypeId} (ht : Tryz.prog.underlying t = some (.int .i64)) {cs : List Value} (h : DataW.trod enc Tryz.prog W base sp held fuel t cs = some x) : ∃ n, cs = [.int .i64 n] :=
  let ⟨n, h1, _⟩ := DataW.trod_int ht h; ⟨n, h1⟩
theorem read_span {cs : List Value} (h : DataW.trod enc Tryz.prog W base sp held fuel 56 cs = some x) : ∃ a b, cs = [.int .i64 a, .int .i64 b] := by
  obtain ⟨xs, n, _, _, hl, hn, hf⟩ := DataW.trod_struct Tryz.underlying56 h
  have hl2 : cs.length = 2 := hl.trans (by kernel_rfl)
  have h3 : Tryz.prog.cellsOf 3 = 1 := by kernel_rfl
  have g0 := hf 0 ⟨ "Low", 3, 0, false, "", "", 0⟩ rfl
  have g1 := hf 1 ⟨ "High", 3, 1, false, "", "", 8⟩ rfl
  simp only [h3] at g0 g1
  have hn : xs.length = 2 := hn
  rw [List.getElem?_eq_getElem (by omega)] at g0 g1
  obtain ⟨a, ha⟩ := read_int Tryz.underlying3 g0
  obtain ⟨b, hb⟩ := read_int Tryz.underlying3 g1
  match cs, hl2 with
  | [p, q], _ =>
    simp at ha hb
    exact ⟨a, b, by rw [ha, hb]⟩
theorem read_cloth {cs : List Value} (h : DataW.trod enc Tryz.prog W base sp held fuel 66 cs = some x) : ∃ y : Cl, cs = [.int .i64 y.w, .int .i64 y.c, .int .i64 y.lo, .int .i64 y.hi] := by
  obtain ⟨xs, n, _, _, hl, hn, hf⟩ := DataW.trod_struct Tryz.underlying66 h
  have hl2 : cs.length = 4 := hl.trans (by kernel_rfl)
  have h3 : Tryz.prog.cellsOf 3 = 1 := by kernel_rfl
  have h56 : Tryz.prog.cellsOf 56 = 2 := by kernel_rfl
  have g0 := hf 0 ⟨ "Weaver", 3, 0, false, "", "", 0⟩ rfl
  have g1 := hf 1 ⟨ "Comes", 3, 1, false, "", "", 8⟩ rfl
  have g2 := hf 2 ⟨ "Hours", 56, 2, false, "", "", 16⟩ rfl
  simp only [h3, h56] at g0 g1 g2
  have hn : xs.length = 3 := hn
  rw [List.getElem?_eq_getElem (by omega)] at g0 g1 g2
  obtain ⟨a, ha⟩ := read_int Tryz.underlying3 g0
  obtain ⟨b, hb⟩ := read_int Tryz.underlying3 g1
  obtain ⟨c, d, hd⟩ := read_span g2
  match cs, hl2 with
  | [p, q, r, s], _ =>
    simp at ha hb hd
    exact ⟨⟨a, b, c, d⟩, by rw [ha, hb, hd.1, hd.2]⟩
theorem read_cloths (hc : Cell.okWide Tryz.prog W .any base' 22 v) (h : DataW.trod enc Tryz.prog W base sp held fuel 22 [v] = some x) :
    ∃ nl c cl, FRel (memW W) (mkSl nl (cls cl) cl.length c) v ∧ NilOk nl cl.length := by
  rcases DataW.trod_slice Tryz.underlying22 h with ⟨hv, _⟩ | ⟨a, len, cap, elems, rest, n, _, hv, _, _, hl, _, hel, hE, _, _⟩
  · simp only [List.cons.injEq, and_true] at hv
    subst hv
    exact ⟨true, false, [], .nils, fun _ => rfl⟩
  · simp only [List.cons.injEq, and_true] at hv
    rcases cell_slice Tryz.underlying22 hc with e | ⟨b, off, len', cap', e, _⟩
    · rw [hv] at e; cases e
    · rw [hv] at e
      cases e
      have h66 : Tryz.prog.cellsOf 66 = 4 := by kernel_rfl
      have one : ∀ i, i < len → ∃ y : Cl, ClAt (memW W) b (off + i * 4) y := by
        intro i hi
        have g := hE i hi
        rw [List.getElem?_eq_getElem (by omega), h66] at g
        simp only [Option.bind_eq_some_iff] at g
        obtain ⟨cs, hcs, hd⟩ := g
        obtain ⟨y, rfl⟩ := read_cloth hd
        obtain ⟨_, _, hget⟩ := World.cells?_some hcs
        refine ⟨y, ?_⟩
        have k0 := hget 0 (by omega)
        have k1 := hget 1 (by omega)
        have k2 := hget 2 (by omega)
        have k3 := hget 3 (by omega)
        rw [add_plain, add_plain] at k0 k1 k2 k3
        exact ⟨k0, k1, k2, k3⟩
      obtain ⟨cl, hcl, hp⟩ := choose_list (⟨0, 0, 0, 0⟩ : Cl) _ len one
      refine ⟨false, false, cl, ?_, fun h => by cases h⟩
      rw [hv, hcl]
      exact FRel.sl (fcells_cls _ _ fun i hi => hp i (by omega)) hl (by simp)
end
end Go.AM

namespace Go.AM
open Go.Proofs
set_option maxRecDepth 100000
theorem fnsOk : (Tryz.prog.funcs.toList.all fun f => !(f.name == "runtime.NumGoroutine") && (match f.body with | none => true | some c => codeOk f.ntmps c)) = true := by kernel_rfl
theorem envOk4 : EnvOk E4 where
  fn g f h := by
    have h' : Tryz.prog.funcs[g]? = some f := h
    have hm : f ∈ Tryz.prog.funcs.toList := by
      rw [← Array.getElem?_toList] at h'
      exact List.mem_of_getElem? h'
    have := List.all_eq_true.1 fnsOk f hm
    simp only [Bool.and_eq_true, Bool.not_eq_true'] at this
    refine ⟨h', this.1, fun c hc => ?_⟩
    have h2 := this.2
    rw [hc] at h2
    exact h2
  mixed := by show Tryz.prog.follows .mixedOrders = true; kernel_rfl
theorem kids4 : Kids Tryz.prog (· < Tryz.prog.types.size) := kids_rows (by kernel_rfl) (by kernel_rfl)
theorem full4 : ∀ t e, t < Tryz.prog.types.size → Tryz.prog.underlying t = some (.slice e) → 0 < Tryz.prog.cellsOf e := slices_full_of _ (by kernel_rfl)
end Go.AM

namespace Go.AM
open Go.Proofs Go.ChangeShapes Go.WideShapes Go.ChangeAt Go.RowKit
set_option maxRecDepth 100000
theorem good0 (W : World) : Good (memW W) W [] [] [] (fun _ => none) (atO []) where
  inv := ⟨fun _ _ _ h => h, fun _ => trivial, fun _ _ _ _ _ _ _ h => (by cases h), fun _ _ _ _ h => (by cases h)⟩
  dom := fun _ => .inr rfl
  lvs := ⟨rfl, rfl, fun _ _ _ _ h => by simp at h, List.nodup_nil, fun _ _ _ _ _ _ _ h => by simp at h⟩
  sep := fun _ h => by obtain ⟨_, _, h, _⟩ := h; cases h
/-- What a call leaves that hands no owned thing in. -/
def Kept (W : World) (r : AV) (e : Ending) (W' : World) : Prop :=
  ∃ v, e = .returned v ∧ W.heap.size ≤ W'.heap.size ∧ (∀ b, b < W.heap.size → W'.heap[b]? = W.heap[b]?) ∧ W'.os = W.os ∧ W'.output = W.output ∧ ∃ φ' M', ARel φ' (LOf []) M' r v
theorem callE {g : FuncId} {args : List AV} {r : AV} (h : K4.call g args [] [] = some (r, [], [])) (W : World) (vals : Array Value)
    (hr : ARels (fun _ => none) (LOf []) (memW W) args vals.toList) : Calls Tryz.prog g vals W (Kept W r) := by
  obtain ⟨n, hn⟩ := limK_call.1 h
  have hk := (knotN_ok envOk4 n).call g args [] [] r [] [] hn
  have hc := callsIn_wide.1 (hk.2 (memW W) W [] [] (fun _ => none) vals n (good0 W) (fun _ _ => rfl) hr (by have := hr.length; simpa using this.symm))
  refine hc.mono fun e W' he => ?_
  cases e with
  | returned v =>
    obtain ⟨M', φ', Φ', hs, hv, _⟩ := he
    refine ⟨v, rfl, hs.frame.size, fun b hb => hs.frame.keep b hb ?_, hs.frame.os, hs.frame.out, φ', M', hv⟩
    rintro (⟨o, _, hl, _⟩ | hb | ⟨i, c, _, hc, _⟩)
    · cases hl
    · simp at hb
    · simp at hc
  | _ => cases he
/-- a law's ending: true, and each argument reads as it did -/
theorem post_true {H : Type} {enc : TypeId × Value → H} {f : Func} {s : ChangeSpec} {apart fresh handsOn again : Bool} {W W' : World} {args : Array Value} {e : Ending} {ds gs : List (DataW H)} {before : List MemPlace}
    (hW : DataW.Whole enc Tryz.prog f.params.toList s.vars apart W args.toList ds gs before) (hvar : s.vars = []) (hrt : f.resultTypes = #[4])
    (hts : ∀ t ∈ f.params.toList, t < Tryz.prog.types.size)
    (hfn : (s.fn H (ds ++ gs)).results = [.lit (.bool true)] ∧ (s.fn H (ds ++ gs)).args = ds ∧ (s.fn H (ds ++ gs)).vars = [])
    (hk : Kept W (.f (.bool true)) e W') : ∃ v, e = .returned v ∧ s.post enc Tryz.prog f apart fresh handsOn again W args v W' := by
  obtain ⟨v, he, hsz, hkeep, hos, hout, φ', M', hv⟩ := hk
  have hv' : v = .bool true := by
    cases hv with
    | f h1 _ => cases h1; rfl
  subst hv'
  refine ⟨_, he, ?_⟩
  have hlt := hW.lt
  obtain ⟨p, q, hA, hV, hpq, hz, hn⟩ := hW
  rw [hvar] at hV
  obtain ⟨hg, hq⟩ := trodVars_none hV
  subst hg hq
  rw [List.append_nil] at hpq hfn
  subst hpq
  have hsame : ∀ x ∈ before, W.sameAt W' x := by
    intro x hx
    have hb := hkeep x.block (hlt x hx)
    cases x with
    | cell b off => show W'.cell? ⟨b, off, none⟩ = W.cell? ⟨b, off, none⟩; unfold World.cell?; rw [show W'.heap[b]? = W.heap[b]? from hb]
    | map b => exact hb
  have hcarry : ∀ {ts : List TypeId} {vs : List Value} {ds : List (DataW H)} {ps : List MemPlace} {sp : Nat → Bool}, (∀ t ∈ ts, t < Tryz.prog.types.size) → DataW.TrodAll enc Tryz.prog W 0 (fun _ => true) true ts vs ds ps → (∀ x ∈ ps, W.sameAt W' x) → (∀ x ∈ ps, sp x.block = true) →
      DataW.TrodAll enc Tryz.prog W' 0 sp true ts vs ds ps := by
    intro ts
    induction ts with
    | nil =>
      intro vs ds ps sp _ h _ _
      cases vs <;> cases ds <;> first | exact h | exact h.elim
    | cons t ts ih =>
      intro vs ds ps sp ht h h1 h2
      obtain ⟨v0, vs0, d0, ds0, p0, q0, rfl, rfl, rfl, ⟨n, hn⟩, r0⟩ := trodAll_cons h
      refine ⟨p0, q0, ⟨n, ?_⟩, ih (fun t ht' => ht t (List.mem_cons_of_mem _ ht')) r0 (fun x hx => h1 x (List.mem_append_right _ hx)) (fun x hx => h2 x (List.mem_append_right _ hx)), rfl⟩
      exact DataW.trod_respare kids4 full4 n t _ _ (ht t List.mem_cons_self) (DataW.trod_carry n t _ _ hn (fun x hx => h1 x (List.mem_append_left _ hx))) (fun x hx => h2 x (List.mem_append_left _ hx))
  have hargs : ∀ sp : Nat → Bool, (∀ x ∈ before, sp x.block = true) → DataW.TrodAll enc Tryz.prog W' 0 sp true f.params.toList args.toList (s.fn H ds).args before := by
    intro sp hsp
    rw [hfn.2.1]
    exact hcarry hts hA hsame hsp
  have hres : ∀ (b : Nat) (sp : Nat → Bool) (hd : Bool), DataW.TrodAll enc Tryz.prog W' b sp hd f.resultTypes.toList ((Value.bool true).resultList f.resultTypes.size) (s.fn H ds).results [] := by
    intro b sp hd
    rw [hfn.1, hrt]
    exact trodAll_cons_mk (shut_bool Tryz.underlying4 _) trodAll_mk0
  have hkb : W.keptBut W' (· ∈ before) := by
    refine ⟨hos, hout, fun i hi => ?_⟩
    rw [hkeep i hi]
    cases hh : W.heap[i]? with
    | none => trivial
    | some o => cases o <;> simp
  have hold : ∀ x ∈ before, (fun b => decide (b < W.heap.size)) x.block = true := fun x hx => by simpa using hlt x hx
  have hvars : ∀ sp : Nat → Bool, DataW.TrodVars enc Tryz.prog W' sp s.vars (s.fn H ds).vars [] := by
    intro sp
    rw [hvar, hfn.2.2]
    exact (rfl : ([] : List MemPlace) = [])
  have hnn : DataW.Whole enc Tryz.prog f.params.toList s.vars apart W args.toList ds [] before := ⟨before, [], hA, by rw [hvar]; exact (rfl : ([] : List MemPlace) = []), by simp, hz, hn⟩
  refine ⟨ds, [], before, [], before, [], hnn, by simpa using hres _ _ _, by simpa using hargs _ hold, by simpa using hvars _, World.keptBut_mono (fun x hx => ⟨hx, Or.inr (by simpa using hx)⟩) hkb, fun _ => ?_⟩
  refine ⟨?_, _, _, ([] ++ before) ++ [], ⟨[] ++ before, [], trodAll_append (hargs _ (fun _ _ => rfl)) (hres _ _ _), hvars _, rfl, ?_, ?_⟩, ?_⟩
  · rw [hrt]; exact fun j t r ht hr => by
      match j with
      | 0 =>
        simp [Value.resultList] at ht hr
        subst ht hr
        exact okWide_bool_mk Tryz.underlying4 _
      | j + 1 => simp at ht
  · intro b off hp
    have hp' : MemPlace.cell b off ∈ before := by simpa using hp
    have := hz b off hp'
    unfold World.frozen? at this ⊢
    rw [show W'.heap[b]? = W.heap[b]? from hkeep b (hlt _ hp')]
    exact this
  · intro ha
    simpa using hn ha
  · intro x hx _
    simpa using hx
end Go.AM

namespace Go.Proofs.YtgahfnebfpmbpaaGreat.turnSlacks
open Go Go.AM Go.ChangeShapes Go.WideShapes Go.ChangeAt Go.RowKit
set_option linter.unusedVariables false
set_option maxRecDepth 100000
theorem own : ownKnob Tryz.prog.godebug = none := by kernel_rfl
theorem cells25 : Tryz.prog.cellTypes Tryz.prog.depth 25 = some [22, 23] := by kernel_rfl
theorem cells26 : Tryz.prog.cellTypes Tryz.prog.depth 26 = some [3, 3] := by kernel_rfl
section
variable {H : Type} {enc : TypeId × Value → H} {W : World} {base base' : Nat} {sp : Nat → Bool} {held : Bool} {v : Value} {d : DataW H} {p : List MemPlace}
theorem read_day (hc : Value.okWide Tryz.prog W .any base' 25 v) (h : DataW.Trod enc Tryz.prog W base sp held 25 v d p) :
    ∃ n1 c1 n2 c2 cl rk, NilOk n1 (List.length cl) ∧ NilOk n2 (List.length rk) ∧ ARel (fun _ => none) (LOf []) (memW W) (.agg [.f (mkSl n1 (cls cl) cl.length c1), .f (mkSl n2 (ints rk) rk.length c2)]) v := by
  unfold Value.okWide at hc
  rw [Tryz.underlying25] at hc
  obtain ⟨cs, rfl, hsz, ts, hts, _, hcell⟩ := hc
  rw [cells25] at hts
  cases hts
  have hsz2 : cs.size = 2 := hsz.trans (by kernel_rfl)
  obtain ⟨fuel, hf⟩ := h
  obtain ⟨xs, n, _, _, hl, hn, hfs⟩ := DataW.trod_struct Tryz.underlying25 hf
  have g0 := hfs 0 ⟨ "Cloths", 22, 0, false, "", "", 0⟩ rfl
  have g1 := hfs 1 ⟨ "Ranks", 23, 1, false, "", "", 24⟩ rfl
  have h22 : Tryz.prog.cellsOf 22 = 1 := by kernel_rfl
  have h23 : Tryz.prog.cellsOf 23 = 1 := by kernel_rfl
  have hn : xs.length = 2 := hn
  simp only [h22, h23] at g0 g1
  rw [List.getElem?_eq_getElem (by omega)] at g0 g1
  obtain ⟨l, rfl⟩ : ∃ l : List Value, cs = l.toArray := ⟨cs.toList, by simp⟩
  match l, hsz2 with
  | [a, b], _ =>
    have c0 := hcell 0 a rfl
    have c1 := hcell 1 b rfl
    obtain ⟨u0, hu0, k0⟩ := c0
    obtain ⟨u1, hu1, k1⟩ := c1
    cases hu0
    cases hu1
    obtain ⟨n1, c1', cl, r1, hn1⟩ := read_cloths k0 g0
    obtain ⟨n2, c2', rk, r2, hn2⟩ := read_ints k1 g1
    refine ⟨n1, c1', n2, c2', cl, rk, hn1, hn2, ?_⟩
    have o1 : cell1 a = true := by
      rcases r1.oneCell with ⟨l, h⟩ | h
      · cases n1 <;> cases h
      · exact h
    have o2 : cell1 b = true := by
      rcases r2.oneCell with ⟨l, h⟩ | h
      · cases n2 <;> cases h
      · exact h
    exact .agg (.cons (.f r1 o1) (.cons (.f r2 o2) .nil)) (by
      intro v hv
      simp at hv
      rcases hv with rfl | rfl
      · exact o1
      · exact o2)
theorem read_pair (hc : Value.okWide Tryz.prog W .any base' 26 v) : ∃ a b, ARel (fun _ => none) (LOf []) (memW W) (.agg [.f (.int .i64 a), .f (.int .i64 b)]) v := by
  unfold Value.okWide at hc
  rw [Tryz.underlying26] at hc
  obtain ⟨cs, rfl, hsz, ts, hts, _, hcell⟩ := hc
  rw [cells26] at hts
  cases hts
  have hsz2 : cs.size = 2 := hsz.trans (by kernel_rfl)
  obtain ⟨l, rfl⟩ : ∃ l : List Value, cs = l.toArray := ⟨cs.toList, by simp⟩
  have ic : ∀ v, Cell.okWide Tryz.prog W .any base' 3 v → ∃ n, v = .int .i64 n := by
    intro v h
    have : Value.okWide Tryz.prog W .any base' 3 v := by unfold Value.okWide; rw [Tryz.underlying3]; exact h
    exact okWide_int Tryz.underlying3 this
  match l, hsz2 with
  | [a, b], _ =>
    have c0 := hcell 0 a rfl
    have c1 := hcell 1 b rfl
    obtain ⟨u0, hu0, k0⟩ := c0
    obtain ⟨u1, hu1, k1⟩ := c1
    cases hu0
    cases hu1
    obtain ⟨x, rfl⟩ := ic a k0
    obtain ⟨y, rfl⟩ := ic b k1
    refine ⟨x, y, .agg (.cons (.f (.int _ _) rfl) (.cons (.f (.int _ _) rfl) .nil)) ?_⟩
    intro v hv
    simp at hv
    rcases hv with rfl | rfl <;> rfl
end
theorem contract (H : Type) (enc : TypeId × Value → H) (W : World) (base : Nat) (args : Array Value) (ds gs : List (DataW H)) (before : List MemPlace)
    (hval : ∀ (j : Nat) t v, Tryz.f3.params[j]? = some t → args[j]? = some v → Value.okWide Tryz.prog W .any base t v)
    (hW : DataW.Whole enc Tryz.prog Tryz.f3.params.toList Rows.turnSlacksSpec.vars false W args.toList ds gs before) :
    Calls Tryz.prog 3 args W fun e W' => ∃ v, e = .returned v ∧ Rows.turnSlacksSpec.post enc Tryz.prog Tryz.f3 false true false false W args v W' := by
  have hW' := hW
  obtain ⟨p, q, hA0, hV, rfl, hfz, hnd⟩ := hW
  have hA : DataW.TrodAll enc Tryz.prog W 0 (fun _ => true) true Tryz.f3.params.toList args.toList ds p := hA0
  rw [Tryz.params3] at hA hval
  obtain ⟨v0, vs0, d0, ds0, p0, q0, hargs, rfl, rfl, h0, r0⟩ := trodAll_cons hA
  obtain ⟨v1, vs1, d1, ds1, p1, q1, rfl, rfl, rfl, h1, r1⟩ := trodAll_cons r0
  obtain ⟨v2, vs2, d2, ds2, p2, q2, rfl, rfl, rfl, h2, r2⟩ := trodAll_cons r1
  obtain ⟨rfl, rfl, rfl⟩ := trodAll_nil r2
  obtain rfl : args = #[v0, v1, v2] := by cases args; simp_all
  obtain ⟨rfl, rfl⟩ := trodVars_none hV
  obtain ⟨n1, c1, n2, c2, cl, rk, hn1, hn2, hd⟩ := read_day (hval 0 25 v0 rfl rfl) h0
  obtain ⟨st, rfl, rfl, rfl, w1⟩ := open_int Tryz.underlying3 (hval 1 3 v1 rfl rfl) h1
  obtain ⟨lim, cloth, hp⟩ := read_pair (hval 2 26 v2 rfl rfl)
  have hc := c3 n1 c1 n2 c2 cl rk hn1 hn2 st lim cloth (fun _ => pureS) k12
  refine (callE hc W _ (.cons hd (.cons (.f (.int _ _) rfl) (.cons hp .nil)))).mono fun e W' he => ?_
  exact post_true hW' rfl rfl (by rw [Tryz.params3]; decide +kernel) ⟨rfl, rfl, rfl⟩ he
theorem lifted (os : Os) (started : os.Started) (H : Type) (enc : TypeId × Value → H) :
    ReturnsInHanded {} Tryz.checked os 3 .any (Rows.turnSlacksSpec.pre6 enc Tryz.prog Tryz.f3 Rows.turnSlacksRow.domain false) (Rows.turnSlacksSpec.post enc Tryz.prog Tryz.f3 false true false false) := by
  refine returnsInHanded_of_change (C := Tryz.checked) (s := Rows.turnSlacksSpec) own started (by kernel_rfl) Tryz.func3
    (ChangeSpec.witness6 (enc := enc) (C := Tryz.checked) (s := Rows.turnSlacksSpec) false ⟨#[], #[.agg #[.slice none 0 0, .slice none 0 0], .int .i64 0, .agg #[.int .i64 0, .int .i64 0]], []⟩ 8 (by kernel_rfl) (by kernel_rfl) (by kernel_rfl) (by kernel_rfl)) ?_
  intro W base args ds gs before hval hW _ _
  exact contract H enc W base args ds gs before hval hW
theorem over : Rows.turnSlacksRow.holds Tryz.pinned (OpenSpec.ofChange Rows.turnSlacksSpec) :=
  OpenClaim.holds_of_wide 3 Tryz.f3 rfl rfl rfl rfl rfl rfl rfl ⟨rfl, rfl, rfl, rfl, rfl⟩ rfl rfl rfl rfl rfl (by kernel_rfl) Tryz.func3 (by kernel_rfl)
    (of_decide_eq_true (by kernel_rfl)) (by unfold Func.isWrapper; first | (rw [if_pos (by decide +kernel)]; kernel_rfl) | (rw [if_neg (by decide +kernel)]; exact ⟨rfl, rfl⟩))
    (fun os started H enc _ => lifted os started H enc)
theorem proved : Rows.TurnSlacksSaid := over
end Go.Proofs.YtgahfnebfpmbpaaGreat.turnSlacks
