/-
Soundness of operations, 2; freezing.
-/
import Derived.Test.YtgahfnebfpmbpaaGreatMA2
set_option linter.unusedVariables false
set_option linter.unusedSimpArgs false
namespace Go.AM

variable {P : Program} {M : Mem} {φ : Map} {L : LMap} {σ : Nat → AObj} {w : World}

theorem View.drewRead {isNil : Bool} {cells : List AV} {n size : Nat} {v : Value} {base : Option Addr} {cap : Nat} {xs : List Value} (h : View P M φ L w isNil cells n size v base cap xs) (d : Nat) :
    (Builtin.firstCells size n v).run P { w with drawn := d } = .ok xs.toArray { w with drawn := d } := by
  have h' : View P M φ L { w with drawn := d } isNil cells n size v base cap xs := ⟨h.eq, h.le, h.rel, h.one, h.len, h.nil, h.noCap, h.spot, fun a ha j x hx => h.cell a ha j x hx⟩
  exact h'.read

theorem zeroCells_eq {z : Array Value} {n : Nat} (hz : 0 < z.size) : (Builtin.zeroCells z n).toList = (List.replicate n z.toList).flatten := rows_eq z z.size n rfl hz

theorem isIntT_true {u : TypeId} (h : isIntT P u = some true) : ∃ k, P.underlying u = some (.int k) := by
  unfold isIntT at h
  split at h
  · exact ⟨_, ‹_›⟩
  · cases h
  · cases h

theorem isIntT_false {u : TypeId} (h : isIntT P u = some false) : ∃ d, P.underlying u = some d ∧ (d matches .int _) = false := by
  unfold isIntT at h
  split at h
  · cases h
  · rename_i d hn hd
    refine ⟨d, hd, ?_⟩
    cases d <;> first | rfl | exact absurd rfl (hn _)
  · cases h

/-- What the abstract machine says comes at the end of an append. -/
theorem comes_sound {elem u : TypeId} {a : AV} {i : TypeInfo} {z v : Value} {new : List FV} {n : Nat} (hI : Inv M φ L σ w) (hi : P.info? elem = some i) (hz : i.zero = some z) (hzs : z.cells.size = i.size) (hs : 0 < i.size)
    (h : comesA P σ elem u a = some (new, n)) (ha : ARel φ L M a v) (hl : new.length = n * i.size) :
    ∃ xs, Comes P w elem u i.size v n xs ∧ FRels M new xs ∧ ∀ x ∈ xs, cell1 x = true := by
  have hzz : (P.info? elem).bind (·.zero) = some z := by simp [hi, hz]
  unfold comesA at h
  split at h
  · rename_i hu
    obtain ⟨kk, hu⟩ := isIntT_true hu
    split at h
    · rename_i k l
      split at h
      · rename_i hb
        split at h
        · rename_i zc hzc
          obtain ⟨za, hz1, hz2⟩ := bind_some hzc
          obtain ⟨zv, hzv, hzr⟩ := zeroA_rel (φ := φ) (L := L) (M := M) hz1
          rw [hzz] at hzv; cases hzv
          obtain ⟨hc1, hc2⟩ := hzr.cells hz2
          cases hf : unF zc with
          | none => rw [hf] at h; cases h
          | some z' =>
            rw [hf] at h
            simp only [Option.map_some, Option.some.injEq, Prod.mk.injEq] at h
            obtain ⟨rfl, rfl⟩ := h
            obtain ⟨g1, g2⟩ := hc1.unF hf
            have hzc' := zeroCells_eq (z := z.cells) (n := l.toNat) (by omega)
            refine ⟨(Builtin.zeroCells z.cells l.toNat).toList, ⟨.inl ⟨k, kk, l, z, hu, ha.int_inv, hb.1, by have := hb.2; unfold appMax at this; omega, rfl, hzz, hzs, rfl⟩, ?_⟩, ?_, ?_⟩
            · rw [hzc']; simp [hzs]
            · rw [hzc']; exact g1.flatRep _
            · rw [hzc']
              intro x hx
              obtain ⟨l', hl', hx'⟩ := List.mem_flatten.1 hx
              rw [List.eq_of_mem_replicate hl'] at hx'
              exact g2 x hx'
        · cases h
      · cases h
    · cases h
  · rename_i hu
    obtain ⟨d, hd, hm⟩ := isIntT_false hu
    split at h
    · rename_i s
      simp only [Option.some.injEq, Prod.mk.injEq] at h
      obtain ⟨rfl, rfl⟩ := h
      rw [ha.str_inv]
      have hlen : (s.data.toList.map fun b => Value.int .u8 b.toNat).length = s.size := by simp
      refine ⟨s.data.toList.map fun b => .int .u8 b.toNat, ⟨.inr ⟨d, hd, hm, fun _ => rfl, fun _ => ?_⟩, ?_⟩, ?_, ?_⟩
      · have he : s.extract 0 s.size = s := by
          apply ByteArray.ext
          rw [ByteArray.data_extract]
          apply Array.ext'
          simp
          apply List.take_of_length_le
          simp
        simp only [Builtin.firstCells, Sem.run_pure, he]
        congr 1
        apply Array.ext'
        simp
      · rw [hlen]; rw [List.length_map] at hl; rw [← hl]; rfl
      · generalize s.data.toList = bs
        clear hl hlen
        induction bs with
        | nil => exact .nil
        | cons b r ih => exact .cons (.int _ _) ih
      · intro x hx
        obtain ⟨b, _, rfl⟩ := List.mem_map.1 hx
        rfl
    · split at h
      · rename_i nl cs m hv
        cases hf : unF cs with
        | none => rw [hf] at h; cases h
        | some new' =>
          rw [hf] at h
          simp only [Option.map_some, Option.some.injEq, Prod.mk.injEq] at h
          obtain ⟨rfl, rfl⟩ := h
          have hcl : cs.length = new'.length := by
            clear hv hl
            induction cs generalizing new' with
            | nil => simp [unF] at hf; subst hf; rfl
            | cons c r ih =>
              cases c <;> simp only [unF] at hf <;> first
                | (cases hr : unF r with
                   | none => rw [hr] at hf; cases hf
                   | some r' => rw [hr] at hf; simp at hf; subst hf; simp [ih _ hr])
                | cases hf
          obtain ⟨base, cap, xs, hV⟩ := view_sound (P := P) (size := i.size) hI hv ha (by rw [hcl]; exact hl)
          obtain ⟨g1, g2⟩ := hV.rel.unF hf
          refine ⟨xs, ⟨.inr ⟨d, hd, hm, fun e => ?_, fun e => hV.drewRead e⟩, hV.len⟩, g1, g2⟩
          rw [hV.eq]; rfl
      · cases h
  · cases h

theorem unF_rels {l : List AV} {l' : List FV} {xs : List Value} (h : ARels φ L M l xs) (hu : unF l = some l') : FRels M l' xs := (h.unF hu).1

theorem upd_upd {α : Type} (f : Nat → α) (o : Nat) (x y : α) : upd (upd f o x) o y = upd f o y := by
  funext i
  by_cases e : i = o
  · subst e; simp
  · simp [upd_ne _ _ e]

/-- An append that makes a new array. -/
theorem grow_ok {base size len n : Nat} {t u ty elem : TypeId} {i : TypeInfo} {z : Value} {isNil : Bool} {old : List AV} {old' new : List FV} {vs vx : Value} {b0 : Option Addr} {cap : Nat} {ys xs : List Value} {s : Sem Next}
    {wr : List (Nat × AObj)} {σ' : Nat → AObj}
    (hk : φ base = none) (hu : P.underlying t = some (.slice elem)) (hi : P.info? elem = some i) (hz : i.zero = some z) (hzs : z.cells.size = i.size) (hsz : i.size = size)
    (hb : i.bytes ≤ 1024) (hV : View P M φ L w isNil old len size vs b0 cap ys) (ho : unF old = some old') (hC : Comes P w elem u i.size vx n xs) (hn : FRels M new xs) (hx1 : ∀ x ∈ xs, cell1 x = true)
    (hmax : len + n ≤ appMax) (hgt : cap < len + n) (hs : s = (do pure (.value (← Builtin.append_ #[t, u] ty #[vs, vx]))))
    (hσ : updWr σ wr = σ') (hI' : Inv M φ L σ' w) (hD' : Dom φ σ') (how : ∀ b, owns φ σ' b → owns φ σ b) :
    OpOk P M φ L σ w base ⟨.sl base 0 (len + n) size false, wr, [.arr (old' ++ new) false false]⟩ s := by
  subst hsz
  obtain ⟨newCap, hcap, hrun⟩ := run_append_grow (ty := ty) hu hi hz hb hC (base := b0) (sLen := len) (sCap := cap) (by omega) (by unfold appMax at hmax; omega) (ys := ys) (fun d => by
    have := hV.drewRead d
    rwa [hV.eq] at this)
  rw [hV.eq] at hs
  have hzc : (Builtin.zeroCells z.cells (newCap - (len + n))).size = (newCap - (len + n)) * i.size := by simp [Builtin.zeroCells, hzs]
  have hsize : (ys.toArray ++ xs.toArray ++ Builtin.zeroCells z.cells (newCap - (len + n))).size = newCap * i.size := by
    have h1 := hV.len
    have h2 := hC.len
    simp only [Array.size_append, List.size_toArray, hzc, h1, h2]
    rw [← Nat.add_mul, ← Nat.add_mul]
    congr 1
    omega
  have hnew := (hI'.drew (w.drawn + 1)).new (k := base) (x := .arr (old' ++ new) false false) (vs := ys.toArray ++ xs.toArray ++ Builtin.zeroCells z.cells (newCap - (len + n))) hk hD' elem
    (orel_arr (w := { w with drawn := w.drawn + 1 }) (pre := ys ++ xs) (post := (Builtin.zeroCells z.cells (newCap - (len + n))).toList) (by simp) ((unF_rels hV.rel ho).append hn)
      (by intro v hv; rcases List.mem_append.1 hv with hv | hv
          · exact hV.one v hv
          · exact hx1 v hv) (by simp))
  refine ⟨_, .slice (some ⟨w.heap.size, 0, none⟩) (len + n) newCap, World.push { w with drawn := w.drawn + 1 } (.cells (ys.toArray ++ xs.toArray ++ Builtin.zeroCells z.cells (newCap - (len + n))) elem), M, upd φ base (some (.blk w.heap.size (ys.toArray ++ xs.toArray ++ Builtin.zeroCells z.cells (newCap - (len + n))).size)), ?_, .inl rfl, ?_, ?_, Map.le_upd hk _, ?_, ?_, ?_, ?_⟩
  · rw [hs]
    simp only [Sem.run_bind, hrun, Result.andThen_ok, Sem.run_pure]
  · show Inv M _ L (upd (updWr σ wr) base _) _
    rw [hσ]
    exact hnew
  · exact (Frame.drew (w.drawn + 1)).trans (Frame.push _) (fun _ _ h => h)
  · intro o ho'
    rw [upd_ne]
    simp only [List.length_singleton] at ho'
    omega
  · show Dom _ (upd (updWr σ wr) base _)
    rw [hσ]
    exact hD'.upd ⟨_, rfl⟩
  · intro b hb'
    have hb2 : owns (upd φ base (some (.blk w.heap.size (ys.toArray ++ xs.toArray ++ Builtin.zeroCells z.cells (newCap - (len + n))).size))) (upd σ' base (.arr (old' ++ new) false false)) b := by
      rw [← hσ]; exact hb'
    rcases owns_new hb2 with h | h
    · exact .inl (how b h)
    · exact .inr h
  · refine .sl (upd_same _ _ _) hcap ?_ (fun h => by cases h) (fun _ => ?_)
    · rw [hsize]; omega
    · rw [hsize]; omega

end Go.AM

namespace Go.AM

variable {P : Program} {M : Mem} {φ : Map} {L : LMap} {σ : Nat → AObj} {w : World}

theorem unF_map : ∀ (l : List FV), unF (l.map .f) = some l
  | [] => rfl
  | v :: r => by simp [unF, unF_map r]

theorem setCells_eq {α : Type} : ∀ (xs l : List α) (k : Nat), k + xs.length ≤ l.length → setCells l k xs = l.take k ++ xs ++ l.drop (k + xs.length)
  | [], l, k, _ => by simp [setCells]
  | x :: r, l, k, h => by
    simp only [List.length_cons] at h
    simp only [setCells]
    rw [setCells_eq r _ (k + 1) (by simp; omega)]
    have h1 : (l.set k x).take (k + 1) = l.take k ++ [x] := by
      rw [List.take_succ_eq_append_getElem (by simp; omega)]
      simp [List.take_set_of_le]
    have h2 : (l.set k x).drop (k + 1 + r.length) = l.drop (k + (x :: r).length) := by
      rw [List.drop_set_of_lt (by omega)]
      simp only [List.length_cons]
      congr 1
      omega
    rw [h1, h2]
    simp

theorem noStore {a : Addr} : (Go.storeCells a []).run P w = .ok () w := by simp [Go.storeCells]

theorem append_sound {base size n : Nat} {t u ty elem : TypeId} {i : TypeInfo} {z : Value} {s : AV} {vs vx : Value} {new : List FV} {xs : List Value} {e : Eff}
    (hI : Inv M φ L σ w) (hD : Dom φ σ) (hk : φ base = none) (hu : P.underlying t = some (.slice elem)) (hi : P.info? elem = some i) (hz : i.zero = some z) (hzs : z.cells.size = i.size) (hsz : i.size = size)
    (hb : i.bytes ≤ 1024) (hs : ARel φ L M s vs) (hC : Comes P w elem u i.size vx n xs) (hn : FRels M new xs) (hx1 : ∀ x ∈ xs, cell1 x = true) (h : appendA σ base size s new n = some e) :
    OpOk P M φ L σ w base e (do pure (.value (← Builtin.append_ #[t, u] ty #[vs, vx]))) := by
  unfold appendA at h
  split at h
  case h_2 => cases h
  rename_i isNil old len hv
  split at h
  · cases h
  rename_i hcond
  simp only [Decidable.not_not] at hcond
  obtain ⟨hmax, hol, hnl, hs0, hs1⟩ := hcond
  split at h
  · cases h
  rename_i old' ho
  obtain ⟨b0, cap, ys, hV⟩ := view_sound (P := P) (size := size) hI hv hs hol
  have hxl : xs.length = n * size := by rw [← hn.length]; exact hnl
  -- in place, nothing coming
  have stay : n = 0 → ∀ (e : Eff), e = ⟨s, [], []⟩ → OpOk P M φ L σ w base e (do pure (.value (← Builtin.append_ #[t, u] ty #[vs, vx]))) := by
    rintro h0 e rfl
    refine OpOk.val hI hD ?_ hs
    have hin := run_append_in (ty := ty) (base := b0) (sLen := len) (sCap := cap) hu hi hb hC (by have := hV.le; omega)
    have hxs : xs = [] := by rw [h0, Nat.zero_mul] at hxl; exact List.length_eq_zero_iff.1 hxl
    subst hxs; subst h0
    rw [hV.eq]
    simp only [Sem.run_bind]
    rw [hin]
    cases b0 <;> simp [noStore]
  have grow : cap < len + n → OpOk P M φ L σ w base ⟨.sl base 0 (len + n) size false, [], [.arr (old' ++ new) false false]⟩ (do pure (.value (← Builtin.append_ #[t, u] ty #[vs, vx]))) :=
    fun hgt => grow_ok hk hu hi hz hzs hsz hb hV ho hC hn hx1 hmax hgt rfl rfl hI hD (fun _ h => h)
  -- an empty slice to which nothing comes
  have ghost : ∀ (nl : Bool), len = 0 → n = 0 → cap = 0 → (nl = true ↔ b0 = none) → new = [] → OpOk P M φ L σ w base ⟨.sl base 0 n size false, [], [.arr new false nl]⟩ (do pure (.value (← Builtin.append_ #[t, u] ty #[vs, vx]))) := by
    intro nl hl0 h0 hc0 hnl' hnew
    subst hl0; subst h0; subst hc0; subst hnew
    have hin := run_append_in (ty := ty) (base := b0) (sLen := 0) (sCap := 0) hu hi hb hC (Nat.le_refl _)
    have hxs : xs = [] := by rw [Nat.zero_mul] at hxl; exact List.length_eq_zero_iff.1 hxl
    subst hxs
    refine ⟨_, .slice b0 0 0, w, M, upd φ base (some (.ghost b0)), ?_, .inl rfl, hI.newGhost hk b0 false nl hnl' hV.spot, Frame.refl _ _ _, Map.le_upd hk _, ?_, hD.upd ⟨_, rfl⟩, ?_, .slN (upd_same _ _ _)⟩
    · rw [hV.eq]
      simp only [Sem.run_bind]
      rw [hin]
      cases b0 <;> simp [noStore]
    · intro o ho'
      rw [upd_ne]
      simp only [List.length_singleton] at ho'
      omega
    · rintro b ⟨o, m, hl, hp⟩
      have hl' : live (upd σ base (.arr [] false nl) o) = true := hl
      by_cases e : o = base
      · subst e; simp at hp
      · rw [upd_ne _ _ e] at hl' hp; exact .inl ⟨o, m, hl', hp⟩
  have old0 : len = 0 → old' = [] := by
    intro hl0
    have h1 := (hV.rel.unF ho).1.length
    have h2 := hV.len
    rw [hl0, Nat.zero_mul] at h2
    rw [h2] at h1
    exact List.length_eq_zero_iff.1 h1
  have new0 : n = 0 → new = [] := by
    intro h0
    rw [h0, Nat.zero_mul] at hnl
    exact List.length_eq_zero_iff.1 hnl
  split at h
  · -- frozen
    rename_i fv
    split at h
    · cases h
    rename_i hfree
    have hcap : cap = len := by
      cases hs with
      | f hr ho' =>
        cases hr with
        | nils => have := hV.eq; simp only [Value.slice.injEq] at this; omega
        | @sl cs ln clip b off cp hc h1 h2 =>
          have := hV.eq
          simp only [Value.slice.injEq] at this
          simp only [fullF, Bool.not_eq_true, Bool.not_eq_false'] at hfree
          have := h2 (by simpa using hfree)
          omega
        | _ => simp [fullF] at hfree
    split at h
    · rename_i hl0
      cases h
      by_cases hn0 : n = 0
      · refine ghost _ hl0 hn0 (by omega) ?_ (new0 hn0)
        subst hn0
        simpa using hV.nil
      · have := grow (by omega)
        have hne : (n == 0) = false := by simpa using hn0
        rw [old0 hl0, hl0, Nat.zero_add, List.nil_append] at this
        rw [hne, Bool.and_false]
        exact this
    · split at h
      · rename_i hn0
        cases h
        exact stay hn0 _ rfl
      · cases h
        exact grow (by omega)
  · rename_i o off ln esz clip
    split at h
    · cases h
    rename_i hesz
    simp only [ne_eq, Decidable.not_not] at hesz
    subst hesz
    split at h
    · rename_i hclip
      subst hclip
      split at h
      · rename_i hn0
        cases h
        exact stay hn0 _ rfl
      · cases h
        refine grow ?_
        cases hs with
        | sl _ _ _ h3 _ => have := hV.eq; simp only [Value.slice.injEq] at this; have := h3 rfl; omega
        | slN _ => have := hV.eq; simp only [Value.slice.injEq] at this; omega
    · rename_i hclip
      have hclip' : clip = false := by simpa using hclip
      subst hclip'
      split at h
      case h_2 => cases h
      rename_i cells ex nl hx
      have hob := hI.obj o
      rw [hx] at hob
      have hlo : live (σ o) = true := by rw [hx]; rfl
      have hold' : old' = (cells.drop off).take (ln * esz) ∧ isNil = nl ∧ len = ln := by
        simp only [viewS, hx, Option.some.injEq, Prod.mk.injEq] at hv
        obtain ⟨rfl, rfl, rfl⟩ := hv
        rw [unF_map] at ho
        cases ho
        exact ⟨rfl, rfl, rfl⟩
      obtain ⟨hold, rfl, rfl⟩ := hold'
      split at h
      · -- in place, surely
        rename_i hin
        cases h
        cases hs with
        | slN hp =>
          rcases hob with ⟨_, b', vs', el, fz, pre, post, hp', _⟩ | ⟨hc, a', hp', _⟩
          · rw [hp] at hp'; cases hp'
          · subst hc
            exfalso
            apply hin.2
            refine ⟨rfl, ?_⟩
            simp
        | @sl _ _ _ _ _ b bn cap' hp h1 h2 h3 h4 =>
          have hcc := hV.eq
          simp only [Value.slice.injEq] at hcc
          obtain ⟨rfl, _, hcp⟩ := hcc
          rw [hcp] at h1 h2 h3 h4
          rcases hob with ⟨hnn, b', vs', el, fz, pre, post, hp', hh, hf, he, hr, hc, hex⟩ | ⟨_, a', hp', _⟩
          · rw [hp] at hp'; cases hp'
            have hst : storeCells σ (.ptr o (off + len * esz)) (new.map .f) = some [(o, .arr (setCells cells (off + len * esz) new) ex isNil)] := by
              simp only [storeCells, hx, unF_map]
              rw [if_pos]
              rw [hnl]
              have := hin.1
              rw [Nat.add_mul] at this
              omega
            obtain ⟨b2, off2, w', he2, hrun, hI', hF, hl1, hl2⟩ := storeCells_sound (P := P) (v := .pointer (some ⟨b, off + len * esz, none⟩)) hI hst (.ptr hp) (ARels.of_frels hn hx1) hx1
            simp only [Value.pointer.injEq, Option.some.injEq, Addr.mk.injEq, and_true] at he2
            obtain ⟨rfl, rfl⟩ := he2
            have hpl := hr.length
            have hvs : vs'.size = pre.length + post.length := by rw [← Array.length_toList, he]; simp
            have hfull := h4 rfl
            have hfit : len + n ≤ cap := by
              have := hin.1
              have h7 : (len + n) * esz ≤ cap * esz := by omega
              exact Nat.le_of_mul_le_mul_right h7 hs0
            have hrun2 := run_append_in (ty := ty) (base := some ⟨b, off, none⟩) (sLen := len) (sCap := cap) hu hi hb hC hfit
            rw [hsz] at hrun2
            simp only [add_eq, hrun, Result.andThen_ok] at hrun2
            have hnilf : isNil = false := hnn
            subst hnilf
            refine ⟨_, .slice (some ⟨b, off, none⟩) (len + n) cap, w', M, φ, ?_, .inl rfl, hI', hF, fun _ _ h => h, fun _ _ => rfl, ?_, ?_, ?_⟩
            · rw [hcp]; simp only [Sem.run_bind, hrun2, Result.andThen_ok, Sem.run_pure]
            · intro i'
              rcases hD i' with hp2 | hd
              · exact .inl hp2
              · exact .inr (hl2 i' hd)
            · rintro b2 ⟨i', m, hlv, hp2⟩
              exact .inl ⟨i', m, hl1 i' hlv, hp2⟩
            · exact .sl hp hfit h2 (fun h => by cases h) h4
          · rw [hp] at hp'; cases hp'
      · rename_i hin
        split at h
        · -- no room, surely
          rename_i hexact
          cases h
          simp only [Bool.and_eq_true, decide_eq_true_eq] at hexact
          refine grow ?_
          cases hs with
          | slN hp => have := hV.eq; simp only [Value.slice.injEq] at this; have hc0 : cap = 0 := this.2.2.symm
                      rcases hob with ⟨_, b', vs', el, fz, pre, post, hp', _⟩ | ⟨hc, a', hp', _⟩
                      · rw [hp] at hp'; cases hp'
                      · subst hc
                        have h8 := hexact.2
                        simp only [List.length_nil, Nat.zero_add] at h8
                        rcases Nat.eq_zero_or_pos n with h9 | h9
                        · subst h9; simp at h8
                        · omega
          | @sl _ _ _ _ _ b bn cap' hp h1 h2 h3 h4 =>
            have hcc := hV.eq
            simp only [Value.slice.injEq] at hcc
            obtain ⟨rfl, _, hcp⟩ := hcc
            rw [hcp] at h1 h2 h3 h4
            rcases hob with ⟨hnn, b', vs', el, fz, pre, post, hp', hh, hf, he, hr, hc, hex⟩ | ⟨_, a', hp', _⟩
            · rw [hp] at hp'; cases hp'
              have hpl := hr.length
              have hvs : vs'.size = pre.length + post.length := by rw [← Array.length_toList, he]; simp
              have hpost := hex hexact.1
              subst hpost
              simp only [List.length_nil, Nat.add_zero] at hvs
              have hfull := h4 rfl
              have h8 := hexact.2
              rcases Nat.lt_or_ge cap (len + n) with h9 | h9
              · exact h9
              · exfalso
                have : (len + n) * esz ≤ cap * esz := Nat.mul_le_mul_right _ h9
                omega
            · rw [hp] at hp'; cases hp'
        · split at h
          · cases h
          · -- it may grow in place or not
            rename_i hoff
            simp only [ne_eq, Decidable.not_not] at hoff
            subst hoff
            cases h
            have hkill := hI.kill o
            have hDk : Dom φ (upd σ o .dead) := by
              intro i'
              by_cases e : i' = o
              · subst e; rw [upd_same]; exact .inr rfl
              · rw [upd_ne _ _ e]; exact hD i'
            have hok : ∀ b, owns φ (upd σ o .dead) b → owns φ σ b := by
              rintro b ⟨i', m, hl, hp⟩
              by_cases e : i' = o
              · subst e; simp [live] at hl
              · rw [upd_ne _ _ e] at hl; exact ⟨i', m, hl, hp⟩
            rcases Nat.lt_or_ge cap (len + n) with hgt | hle
            · -- a new array
              have hg := grow_ok (s := do pure (.value (← Builtin.append_ #[t, u] ty #[vs, vx]))) hk hu hi hz hzs hsz hb hV ho hC hn hx1 hmax hgt rfl (wr := [(o, .dead)]) rfl hkill hDk hok
              have hf : (isNil && n == 0) = false := by
                rcases Nat.eq_zero_or_pos n with h0 | h0
                · subst h0
                  have := hV.le
                  omega
                · have : (n == 0) = false := by simp; omega
                  rw [this, Bool.and_false]
              rw [hf]
              exact hg
            · -- in the room that there is
              cases hs with
              | @slN _ _ _ a hp =>
                have hcc := hV.eq
                simp only [Value.slice.injEq] at hcc
                obtain ⟨hb0, _, hc0⟩ := hcc
                subst hb0; subst hc0
                have hn0 : n = 0 := by omega
                have hnew := new0 hn0
                have hold0 := old0 rfl
                have hin2 := run_append_in (ty := ty) (base := a) (sLen := 0) (sCap := 0) hu hi hb hC hle
                have hxs : xs = [] := by rw [hn0, Nat.zero_mul] at hxl; exact List.length_eq_zero_iff.1 hxl
                rcases hob with ⟨_, b', vs', el, fz, pre, post, hp', _⟩ | ⟨hc, a', hp', hnl', hsp⟩
                · rw [hp] at hp'; cases hp'
                · rw [hp] at hp'; cases hp'
                  have hmv := hI.move (o := o) (k := base) (x := .arr (old' ++ new) false (isNil && n == 0)) hk (by rintro rfl; rw [hk] at hp; cases hp) hlo (by
                    rw [hp, hold0, hnew]
                    refine .inr ⟨rfl, _, rfl, ?_, hsp⟩
                    subst hn0
                    simpa using hnl')
                  subst hn0
                  refine ⟨_, .slice a 0 0, w, M, upd φ base (φ o), ?_, .inl rfl, hmv, Frame.refl _ _ _, Map.le_upd hk _, ?_, hD.move ⟨_, hp⟩, fun b hb' => .inl (owns_move hlo hb'), .slN (by rw [upd_same, hp])⟩
                  · simp only [Sem.run_bind]
                    rw [hin2, hxs]
                    cases a <;> simp [noStore]
                  · intro o' ho'
                    rw [upd_ne]
                    simp only [List.length_singleton] at ho'
                    omega
              | @sl _ _ _ _ _ b bn cap' hp h1 h2 h3 h4 =>
                have hcc := hV.eq
                simp only [Value.slice.injEq] at hcc
                obtain ⟨hb0, _, hcp⟩ := hcc
                rw [hcp] at h1 h2 h3 h4
                rcases hob with ⟨hnn, b', vs', el, fz, pre, post, hp', hh, hf, he, hr, hc, hex⟩ | ⟨_, a', hp', _⟩
                · rw [hp] at hp'; cases hp'
                  have hpl := hr.length
                  have hvs : vs'.size = pre.length + post.length := by rw [← Array.length_toList, he]; simp
                  have hfull := h4 rfl
                  have hlen : len * esz ≤ pre.length := by
                    have h7 := (hV.rel.unF ho).1.length
                    have h8 := hV.len
                    rw [hold] at h7
                    simp only [List.drop_zero, List.length_take] at h7
                    omega
                  have hfit : len * esz + xs.length ≤ vs'.size := by
                    rw [hxl, ← Nat.add_mul]
                    have : (len + n) * esz ≤ cap * esz := Nat.mul_le_mul_right _ hle
                    omega
                  have hrun := run_storeCells_blk (P := P) (b := b) (off := len * esz) (el := el) (fz := fz) xs 0 vs' w hh hf (by omega) hx1
                  have hrun2 := run_append_in (ty := ty) (base := some ⟨b, 0, none⟩) (sLen := len) (sCap := cap) hu hi hb hC hle
                  rw [hsz] at hrun2
                  simp only [add_eq, Nat.zero_add, hrun, Result.andThen_ok] at hrun2
                  have hnilf : isNil = false := hnn
                  have hsc := setCells_eq xs vs'.toList (len * esz) (by simpa using hfit)
                  have hcells : (setCells vs'.toList (len * esz + 0) xs).toArray.size = vs'.size := by simp [setCells_length]
                  have hrels : FRels M (old' ++ new) (pre.take (len * esz) ++ xs) := by
                    rw [hold, List.drop_zero]
                    exact (hr.take _).append hn
                  have hones : ∀ v ∈ pre.take (len * esz) ++ xs, cell1 v = true := by
                    intro v hv'
                    rcases List.mem_append.1 hv' with hv' | hv'
                    · exact hc v (List.mem_of_mem_take hv')
                    · exact hx1 v hv'
                  have horel : ∀ φ', ORel φ' L M (φ o) (.arr (old' ++ new) false false) (putBlk w b (setCells vs'.toList (len * esz + 0) xs).toArray el fz) := by
                    intro φ'
                    refine .inl ⟨rfl, b, (setCells vs'.toList (len * esz + 0) xs).toArray, el, fz, pre.take (len * esz) ++ xs, vs'.toList.drop (len * esz + xs.length), ?_, putBlk_same hh, ?_, ?_, hrels, hones, by simp⟩
                    · rw [hp, hcells]
                    · rw [hcells]; exact hf
                    · rw [Nat.add_zero, List.toList_toArray, hsc, he, List.take_append_of_le_length hlen]
                  have hput := hI.put (x := .arr (old' ++ new) false false) hlo hp hh (horel φ)
                  have hmv := hput.move (o := o) (k := base) (x := .arr (old' ++ new) false false) hk (by rintro rfl; rw [hk] at hp; cases hp) (by rw [upd_same]; rfl) (horel _)
                  rw [upd_upd] at hmv
                  subst hnilf
                  rw [Bool.false_and]
                  refine ⟨_, .slice (some ⟨b, 0, none⟩) (len + n) cap, _, M, upd φ base (φ o), ?_, .inl rfl, hmv, Frame.put ⟨o, _, hlo, hp⟩, Map.le_upd hk _, ?_, hD.move ⟨_, hp⟩, fun b hb' => .inl (owns_move hlo hb'), ?_⟩
                  · rw [hcp]; simp only [Sem.run_bind, hrun2, Result.andThen_ok, Sem.run_pure]
                  · intro o' ho'
                    rw [upd_ne]
                    simp only [List.length_singleton] at ho'
                    omega
                  · exact .sl (by rw [upd_same]; exact hp) hle h2 (fun h => by cases h) h4
                · rw [hp] at hp'; cases hp'
  · cases h

end Go.AM

namespace Go.AM

variable {P : Program} {M : Mem} {φ : Map} {L : LMap} {σ : Nat → AObj} {w : World}

/-- A store as an operation with a value. -/
theorem OpOk.stored {base : Nat} {a : AV} {v : Value} {wr : List (Nat × AObj)} {w' : World} {s : Sem Next} (hD : Dom φ σ) (hs : s.run P w = .ok (.value v) w') (hI' : Inv M φ L (updWr σ wr) w') (hF : Frame (owns φ σ) M w M w')
    (hl1 : ∀ o, live (updWr σ wr o) = true → live (σ o) = true) (hl2 : ∀ o, σ o = .dead → updWr σ wr o = .dead) (ha : ARel φ L M a v) : OpOk P M φ L σ w base ⟨a, wr, []⟩ s :=
  ⟨_, v, w', M, φ, hs, .inl rfl, hI', hF, fun _ _ h => h, fun _ _ => rfl, fun o => (hD o).imp id (hl2 o), fun _ ⟨o, m, hlv, hp⟩ => .inl ⟨o, m, hl1 o hlv, hp⟩, ha⟩

theorem copy_sound {base : Nat} {t u ty elem : TypeId} {size : Nat} {d s : AV} {vd vs : Value} {e : Eff} (hI : Inv M φ L σ w) (hD : Dom φ σ) (hu : P.underlying t = some (.slice elem)) (hn : sizeT P elem = some size)
    (hd : ARel φ L M d vd) (hs : ARel φ L M s vs) (h : copyA σ size d s = some e) : OpOk P M φ L σ w base e (do pure (.value (← Builtin.copy_ #[t, u] ty #[vd, vs]))) := by
  unfold copyA at h
  split at h
  case h_2 => cases h
  rename_i nl src n hv
  split at h
  · cases h
  rename_i hl
  simp only [ne_eq, Decidable.not_not] at hl
  obtain ⟨b0, cap, xs, hV⟩ := view_sound (P := P) (size := size) hI hv hs hl
  have hlen : (Builtin.lenOf vs).run P w = .ok n w := by rw [hV.eq]; rfl
  have zero : ∀ (bd : Option Addr) (dl dc : Nat), vd = .slice bd dl dc → min n dl = 0 → OpOk P M φ L σ w base ⟨.f (.int .i64 0), [], []⟩ (do pure (.value (← Builtin.copy_ #[t, u] ty #[vd, vs]))) := by
    intro bd dl dc hvd hm
    refine OpOk.val hI hD ?_ (.f (.int .i64 0) rfl)
    have h0 := hV.readSome (m := Nat.min n dl) (Nat.min_le_left _ _)
    have hm' : Nat.min n dl = 0 := hm
    rw [hm', Nat.zero_mul, List.take_zero] at h0
    rw [hvd]
    simp only [Builtin.copy_, List.getElem?_toArray, List.getElem?_cons_zero, List.getElem?_cons_succ, Sem.run_bind, run_underlying hu, Result.andThen_ok, hlen, run_sizeT hn, hm', h0]
    cases bd <;> simp [noStore, goInt]
  split at h
  · cases h
    exact zero none 0 0 hd.nils_inv (by simp)
  · rename_i cs dl clip
    split at h
    · rename_i hm
      cases h
      cases hd with
      | f hr _ => cases hr with | sl _ _ _ => exact zero _ _ _ rfl hm
    · cases h
  · rename_i o off dl esz clip
    split at h
    · cases h
    rename_i hesz
    simp only [ne_eq, Decidable.not_not] at hesz
    subst hesz
    split at h
    · rename_i hm
      cases h
      cases hd with
      | sl _ _ _ _ _ => exact zero _ _ _ rfl hm
      | slN _ => exact zero _ _ _ rfl hm
    · rename_i hm
      cases hst : storeCells σ (.ptr o off) (src.take (min n dl * esz)) with
      | none => rw [hst] at h; cases h
      | some wr =>
        rw [hst] at h
        simp only [Option.map_some, Option.some.injEq] at h
        subst h
        cases hd with
        | slN _ => exact absurd (Nat.min_zero n) hm
        | @sl _ _ _ _ _ b bn dc hp h1 h2 h3 h4 =>
          have hrel := hV.rel.take (min n dl * esz)
          obtain ⟨b2, off2, w', he2, hrun, hI', hF, hl1, hl2⟩ := storeCells_sound (P := P) (v := .pointer (some ⟨b, off, none⟩)) hI hst (.ptr hp) hrel (fun x hx => hV.one x (List.mem_of_mem_take hx))
          simp only [Value.pointer.injEq, Option.some.injEq, Addr.mk.injEq, and_true] at he2
          obtain ⟨rfl, rfl⟩ := he2
          have h0 := hV.readSome (m := Nat.min n dl) (Nat.min_le_left _ _)
          refine OpOk.stored (v := .int .i64 (min n dl : Nat)) hD ?_ hI' hF hl1 hl2 (.f (.int _ _) rfl)
          have hrun' : (Go.storeCells ⟨b, off, none⟩ (xs.take (Nat.min n dl * esz))).run P w = .ok () w' := hrun
          simp only [Builtin.copy_, List.getElem?_toArray, List.getElem?_cons_zero, List.getElem?_cons_succ, Sem.run_bind, run_underlying hu, Result.andThen_ok, hlen, run_sizeT hn, h0, hrun', Sem.run_pure, goInt]
  · cases h

theorem clear_sound {base : Nat} {t ty elem : TypeId} {d : AV} {vd : Value} {e : Eff} (hI : Inv M φ L σ w) (hD : Dom φ σ) (hu : P.underlying t = some (.slice elem))
    (hd : ARel φ L M d vd) (h : clearA P σ elem d = some e) : OpOk P M φ L σ w base e (do pure (.value (← Builtin.clear_ #[t] ty #[vd]))) := by
  unfold clearA at h
  split at h
  case h_2 => cases h
  rename_i size zs hn hz
  obtain ⟨zz, hz1, hz2⟩ := bind_some hz
  obtain ⟨zv, hzv, hzr⟩ := zeroA_rel (φ := φ) (L := L) (M := M) hz1
  obtain ⟨hc1, hc2⟩ := hzr.cells hz2
  split at h
  · cases h
    refine OpOk.val hI hD ?_ (.tup (vs := #[]) .nil)
    rw [hd.nils_inv]
    simp [Builtin.clear_, run_underlying hu]
  · split at h
    · rename_i hm
      cases h
      subst hm
      refine OpOk.val hI hD ?_ (.tup (vs := #[]) .nil)
      cases hd with
      | f hr _ => cases hr with | sl _ _ _ => simp [Builtin.clear_, run_underlying hu]
    · cases h
  · rename_i o off n esz clip
    split at h
    · cases h
    rename_i hcond
    simp only [ne_eq, not_or, Decidable.not_not] at hcond
    obtain ⟨rfl, hzl, hs0⟩ := hcond
    split at h
    · rename_i hm
      cases h
      subst hm
      refine OpOk.val hI hD ?_ (.tup (vs := #[]) .nil)
      cases hd with
      | sl _ _ _ _ _ => simp [Builtin.clear_, run_underlying hu]
      | slN _ => rename_i a _; cases a <;> simp [Builtin.clear_, run_underlying hu]
    · rename_i hm
      cases hst : storeCells σ (.ptr o off) (repCells n zs) with
      | none => rw [hst] at h; cases h
      | some wr =>
        rw [hst] at h
        simp only [Option.map_some, Option.some.injEq] at h
        subst h
        cases hd with
        | slN _ => exact absurd rfl hm
        | @sl _ _ _ _ _ b bn dc hp h1 h2 h3 h4 =>
          have hzc := zeroCells_eq (z := zv.cells) (n := n) (by rw [← Array.length_toList, ← hc1.length, hzl]; omega)
          have hone : ∀ x ∈ (List.replicate n zv.cells.toList).flatten, cell1 x = true := by
            intro x hx
            obtain ⟨l', hl', hx'⟩ := List.mem_flatten.1 hx
            rw [List.eq_of_mem_replicate hl'] at hx'
            exact hc2 x hx'
          obtain ⟨b2, off2, w', he2, hrun, hI', hF, hl1, hl2⟩ := storeCells_sound (P := P) (v := .pointer (some ⟨b, off, none⟩)) hI hst (.ptr hp) (hc1.flatRep n) hone
          simp only [Value.pointer.injEq, Option.some.injEq, Addr.mk.injEq, and_true] at he2
          obtain ⟨rfl, rfl⟩ := he2
          refine OpOk.stored (v := .tuple #[]) hD ?_ hI' hF hl1 hl2 (.tup .nil)
          obtain ⟨m, rfl⟩ : ∃ m, n = m + 1 := ⟨n - 1, by omega⟩
          simp only [Builtin.clear_, List.getElem?_toArray, List.getElem?_cons_zero, Sem.run_bind, run_underlying hu, Result.andThen_ok, run_zero hzv, hzc, hrun, Sem.run_pure]
  · cases h

theorem len_sound {t ty : TypeId} {a r : AV} {v : Value} (hI : Inv M φ L σ w) (ha : ARel φ L M a v) (h : lenA P σ t a = some r) : ∃ x, (Builtin.len_ #[t] ty #[v]).run P w = .ok x w ∧ ARel φ L M r x := by
  unfold lenA at h
  split at h
  · rename_i hu
    split at h
    · cases h
      rw [ha.str_inv]
      exact ⟨_, by simp [Builtin.len_, run_underlying hu, goInt], .f (.int _ _) rfl⟩
    · cases h
  · rename_i n e hu
    cases h
    exact ⟨_, by simp [Builtin.len_, run_underlying hu, goInt], .f (.int _ _) rfl⟩
  · rename_i arr hu
    split at h
    · rename_i n e hu2
      cases h
      exact ⟨_, by simp [Builtin.len_, run_underlying hu, run_underlying hu2, goInt], .f (.int _ _) rfl⟩
    · cases h
  · rename_i e hu
    split at h
    · cases h
      rw [ha.nils_inv]
      exact ⟨_, by simp [Builtin.len_, run_underlying hu, goInt], .f (.int _ _) rfl⟩
    · cases h
      cases ha with
      | f hr _ => cases hr with | sl _ _ _ => exact ⟨_, by simp [Builtin.len_, run_underlying hu, goInt], .f (.int _ _) rfl⟩
    · cases h
      cases ha with
      | sl _ _ _ _ _ => exact ⟨_, by simp [Builtin.len_, run_underlying hu, goInt], .f (.int _ _) rfl⟩
      | slN _ => exact ⟨_, by simp [Builtin.len_, run_underlying hu, goInt], .f (.int _ _) rfl⟩
    · cases h
  · rename_i k e hu
    split at h
    · cases h
      cases ha with
      | f hr _ => cases hr with | nilm => exact ⟨_, by simp [Builtin.len_, run_underlying hu, goInt], .f (.int _ _) rfl⟩
    · rename_i o
      split at h
      · rename_i es hx
        have := hI.obj o
        rw [hx] at this
        exact this.elim
      · cases h
    · cases h
  · cases h

theorem cap_sound {t ty : TypeId} {a r : AV} {v : Value} (hI : Inv M φ L σ w) (ha : ARel φ L M a v) (h : capA P σ t a = some r) : ∃ x, (Builtin.cap_ #[t] ty #[v]).run P w = .ok x w ∧ ARel φ L M r x := by
  unfold capA at h
  split at h
  · rename_i e hu
    have key : ∀ b n c, v = .slice b n c → (Builtin.cap_ #[t] ty #[v]).run P w = .ok (.int .i64 c) w := by
      rintro b n c rfl
      simp [Builtin.cap_, run_underlying hu, goInt]
    split at h
    · cases h
      exact ⟨_, key _ _ _ ha.nils_inv, .f (.int _ _) rfl⟩
    · cases h
      cases ha with
      | f hr _ => cases hr with | sl _ _ h3 => exact ⟨_, key _ _ _ rfl, by rw [h3 rfl]; exact .f (.int _ _) rfl⟩
    · cases h
      cases ha with
      | sl _ _ _ h3 _ => exact ⟨_, key _ _ _ rfl, by rw [h3 rfl]; exact .f (.int _ _) rfl⟩
      | slN _ => exact ⟨_, key _ _ _ rfl, .f (.int _ _) rfl⟩
    · rename_i o off ln esz
      split at h
      · rename_i cells nl hx
        split at h
        · cases h
        rename_i hez
        cases h
        have hob := hI.obj o
        rw [hx] at hob
        cases ha with
        | @sl _ _ _ _ _ b bn c hp h1 h2 h3 h4 =>
          rcases hob with ⟨hnn, b', vs', el, fz, pre, post, hp', hh, hf, he, hr, hc, hex⟩ | ⟨_, a', hp', _⟩
          · rw [hp] at hp'; cases hp'
            have hpost := hex rfl
            subst hpost
            have hpl := hr.length
            have hvs : vs'.size = pre.length := by rw [← Array.length_toList, he]; simp
            have hfull := h4 rfl
            have : (cells.length - off) / esz = c := by
              rw [hpl, ← hvs, ← hfull, Nat.add_sub_cancel_left]
              exact Nat.mul_div_cancel _ (by omega)
            exact ⟨_, key _ _ _ rfl, by rw [this]; exact .f (.int _ _) rfl⟩
          · rw [hp] at hp'; cases hp'
        | slN hp =>
          rcases hob with ⟨_, b', vs', el, fz, pre, post, hp', _⟩ | ⟨hc, a', hp', _⟩
          · rw [hp] at hp'; cases hp'
          · subst hc
            exact ⟨_, key _ _ _ rfl, by simp; exact .f (.int _ _) rfl⟩
      · cases h
    · cases h
  · cases h

theorem mm_fold {isMax : Bool} : ∀ (l : List AV) (vs : List Value) (k : IntKind) (x : Int) (r : AV), ARels φ L M l vs →
    l.foldl (fun a b => match a with | some a => mm2 isMax a b | none => none) (some (.f (.int k x))) = some r →
    ∃ y, (vs.foldlM (if isMax then Builtin.max2 else Builtin.min2) (.int k x)).run P w = .ok y w ∧ ARel φ L M r y
  | [], _, k, x, r, .nil, h => by
    simp at h; subst h
    exact ⟨.int k x, by simp, .f (.int _ _) rfl⟩
  | a :: l, _, k, x, r, .cons (x := va) (vs := vs) ha hr, h => by
    simp only [List.foldl_cons] at h
    have hnone : ∀ l : List AV, l.foldl (fun a b => match a with | some a => mm2 isMax a b | none => none) none = none := by
      intro l
      induction l with
      | nil => rfl
      | cons _ _ ih => simpa using ih
    cases hm : mm2 isMax (.f (.int k x)) a with
    | none => rw [hm, hnone] at h; cases h
    | some m =>
      rw [hm] at h
      cases ha with
      | f hr' ho =>
        cases hr' with
        | int k2 y2 =>
          simp only [mm2, Option.some.injEq] at hm
          subst hm
          obtain ⟨y, hy, hry⟩ := mm_fold l vs k _ r hr h
          refine ⟨y, ?_, hry⟩
          cases isMax <;> simp only [List.foldlM_cons, Sem.run_bind, if_true, Bool.false_eq_true, if_false, Builtin.max2, Builtin.min2, Sem.run_pure, Result.andThen_ok, cond_true, cond_false] at hy ⊢ <;> exact hy
        | _ => simp [mm2] at hm
      | _ => simp [mm2] at hm

theorem mm_sound {isMax : Bool} {l : List AV} {vs : Array Value} {r : AV} (hr : ARels φ L M l vs.toList) (h : mmA isMax l = some r) :
    ∃ y, (match vs.toList with | [] => stuck "x" | x :: rest => rest.foldlM (if isMax then Builtin.max2 else Builtin.min2) x : Sem Value).run P w = .ok y w ∧ ARel φ L M r y := by
  unfold mmA at h
  split at h
  · rename_i k x rest
    generalize vs.toList = vl at hr
    cases hr with
    | cons ha hb =>
      rw [ha.int_inv]
      exact mm_fold _ _ _ _ _ hb h
  · cases h

end Go.AM

namespace Go.AM

variable {P : Program} {M : Mem} {φ : Map} {L : LMap} {σ : Nat → AObj} {w : World}

theorem bnd_run {x : AV} {z : Value} {d y : Nat} {i : Int} (h : bndA (some x) d = some i) (hr : ARel φ L M x z) (h0 : 0 ≤ i) (h1 : i ≤ y) (code : BoundsCode) : (Instr.sliceBound z y code).run P w = .ok i.toNat w := by
  simp only [bndA] at h
  obtain ⟨k, rfl⟩ := idx_inv h hr
  simp only [Instr.sliceBound, asIntOf, Sem.run_bind, Sem.run_pure, Result.andThen_ok]
  rw [if_pos ⟨h0, h1⟩]
  rfl

theorem bnd_def {d : Nat} {i : Int} (h : bndA none d = some i) : i.toNat = d := by
  simp only [bndA, Option.some.injEq] at h
  omega

abbrev ORelO (φ : Map) (L : LMap) (M : Mem) (a : Option AV) (v : Option Value) : Prop := (a = none ∧ v = none) ∨ ∃ x z, a = some x ∧ v = some z ∧ ARel φ L M x z

theorem bounds_run {isS : Bool} {len cap : Nat} {lo hi mx : Option AV} {vlo vhi vmx : Option Value} {l h m : Int} (hlo : ORelO φ L M lo vlo) (hhi : ORelO φ L M hi vhi) (hmx : ORelO φ L M mx vmx)
    (hl : bndA lo 0 = some l) (hh : bndA hi len = some h) (hm : bndA mx cap = some m) (hmh : (mx.isSome && hi.isNone) = false) (h0 : 0 ≤ l) (h1 : l ≤ h) (h2 : h ≤ m) (h3 : m ≤ cap) :
    (Instr.sliceBounds isS len cap vlo vhi vmx).run P w = .ok (l.toNat, h.toNat, m.toNat) w := by
  unfold Instr.sliceBounds
  rcases hmx with ⟨rfl, rfl⟩ | ⟨xm, zm, rfl, rfl, rm⟩
  · have em := bnd_def hm
    rcases hhi with ⟨rfl, rfl⟩ | ⟨xh, zh, rfl, rfl, rh⟩
    · have eh := bnd_def hh
      rcases hlo with ⟨rfl, rfl⟩ | ⟨xl, zl, rfl, rfl, rl⟩
      · have el := bnd_def hl
        simp [em, eh, el]
      · have el := bnd_run (P := P) (w := w) (y := len) hl rl h0 (by omega)
        simp [em, eh, el]
    · have eh := bnd_run (P := P) (w := w) (y := cap) hh rh (by omega) (by omega)
      rcases hlo with ⟨rfl, rfl⟩ | ⟨xl, zl, rfl, rfl, rl⟩
      · have el := bnd_def hl
        simp [em, eh, el]
      · have el := bnd_run (P := P) (w := w) (y := h.toNat) hl rl h0 (by omega)
        simp [em, eh, el]
  · have em := bnd_run (P := P) (w := w) (y := cap) hm rm (by omega) (by omega)
    rcases hhi with ⟨rfl, rfl⟩ | ⟨xh, zh, rfl, rfl, rh⟩
    · simp at hmh
    · have eh := bnd_run (P := P) (w := w) (y := m.toNat) hh rh (by omega) (by omega)
      rcases hlo with ⟨rfl, rfl⟩ | ⟨xl, zl, rfl, rfl, rl⟩
      · have el := bnd_def hl
        simp [em, eh, el]
      · have el := bnd_run (P := P) (w := w) (y := h.toNat) hl rl h0 (by omega)
        simp [em, eh, el]

theorem bnd_none {a : Option AV} {d e : Nat} {i : Int} (h : bndA a d = some i) (hn : a.isNone = true) : i = d ∧ bndA a e = some (e : Int) := by
  cases a with
  | none => simp only [bndA, Option.some.injEq] at h; exact ⟨h.symm, rfl⟩
  | some _ => simp at hn

theorem bnd_some {a : Option AV} {d e : Nat} {i : Int} (h : bndA a d = some i) (hn : a.isNone = false) : bndA a e = some i := by
  cases a with
  | none => simp at hn
  | some x => exact h

theorem knownLen_le {o off len esz cap : Nat} {clip : Bool} {b bn : Nat} (hI : Inv M φ L σ w) (hp : φ o = some (.blk b bn)) (h1 : len ≤ cap) (h4 : clip = false → off + cap * esz = bn) : knownLen σ o off len esz clip ≤ cap := by
  unfold knownLen
  split
  · exact h1
  · rename_i hc
    simp only [Bool.or_eq_true, decide_eq_true_eq, not_or, Bool.not_eq_true] at hc
    have hfull := h4 hc.1
    have hob := hI.obj o
    split
    · rename_i cells ex hx
      rw [hx] at hob
      rcases hob with ⟨hnn, b', vs', el, fz, pre, post, hp', hh, hf, he, hr, hc', hex⟩ | ⟨_, a', hp', _⟩
      · rw [hp] at hp'; cases hp'
        have hpl := hr.length
        have hvs : vs'.size = pre.length + post.length := by rw [← Array.length_toList, he]; simp
        rw [Nat.div_le_iff_le_mul_add_pred (by omega)]
        have : esz * cap = cap * esz := Nat.mul_comm _ _
        omega
      · rw [hp] at hp'; cases hp'
    · rename_i cells hx
      rw [hx] at hob
      obtain ⟨b', vs', el, fz, hp', hh, hf, hr, hc'⟩ := hob
      rw [hp] at hp'; cases hp'
      have hpl := hr.length
      have : cells.length = vs'.size := by rw [hpl]; simp
      rw [Nat.div_le_iff_le_mul_add_pred (by omega)]
      have : esz * cap = cap * esz := Nat.mul_comm _ _
      omega
    · exact h1

theorem slice_sound {t elem : TypeId} {size : Nat} {x r : AV} {lo hi mx : Option AV} {v : Value} {vlo vhi vmx : Option Value} (hI : Inv M φ L σ w) (hu : P.underlying t = some (.slice elem)) (hn : sizeT P elem = some size)
    (hx : ARel φ L M x v) (hlo : ORelO φ L M lo vlo) (hhi : ORelO φ L M hi vhi) (hmx : ORelO φ L M mx vmx) (h : sliceA σ size x lo hi mx = some r) :
    ∃ y, (Instr.sliceAt t v vlo vhi vmx).run P w = .ok y w ∧ ARel φ L M r y := by
  have hat : ∀ (a : Option Addr) (len cap : Nat) (l h m : Int), v = .slice a len cap → (Instr.sliceBounds true len cap vlo vhi vmx).run P w = .ok (l.toNat, h.toNat, m.toNat) w →
      (Instr.sliceAt t v vlo vhi vmx).run P w = .ok (.slice (if m.toNat = l.toNat then a else a.map (·.add (l.toNat * size))) (h.toNat - l.toNat) (m.toNat - l.toNat)) w := by
    rintro a len cap l h m rfl hb
    simp only [Instr.sliceAt, Sem.run_bind, run_underlying hu, Result.andThen_ok, Instr.slice, hb, run_sizeT hn, Sem.run_pure]
  unfold sliceA at h
  split at h
  · cases h
  rename_i hmh
  simp only [Bool.not_eq_true] at hmh
  split at h
  · -- nil
    split at h
    · rename_i l hh m e1 e2 e3
      split at h
      · rename_i hz
        cases h
        obtain ⟨rfl, rfl, rfl⟩ := hz
        have hb := bounds_run (P := P) (w := w) (isS := true) (len := 0) (cap := 0) hlo hhi hmx e1 e2 e3 hmh (Int.le_refl _) (Int.le_refl _) (Int.le_refl _) (Int.le_refl _)
        refine ⟨_, hat none 0 0 0 0 0 hx.nils_inv hb, ?_⟩
        simpa using ARel.f (φ := φ) (L := L) (M := M) FRel.nils rfl
      · cases h
    · cases h
  · -- frozen
    rename_i cells len clip
    split at h
    · rename_i l hh m e1 e2 e3
      split at h
      · rename_i hc
        obtain ⟨c1, c2, c3, c4, c5⟩ := hc
        cases hx with
        | f hr ho =>
          cases hr with
          | @sl _ _ _ b off cap g1 g2 g3 =>
            have hcells : ∀ (k : Nat) (e : Nat), FCells M b (off + k) ((cells.drop k).take e) := fun k e => (g1.drop k).take e
            split at h
            · -- no third index
              rename_i hnm
              cases h
              obtain ⟨hm1, hm2⟩ := bnd_none (e := cap) e3 hnm
              have hb := bounds_run (P := P) (w := w) (isS := true) (len := len) (cap := cap) hlo hhi hmx e1 e2 hm2 hmh c1 c2 (by omega) (Int.le_refl _)
              refine ⟨_, hat _ len cap l hh cap rfl hb, .f ?_ rfl⟩
              have hlen : hh.toNat - l.toNat = (hh - l).toNat := by omega
              rw [hlen]
              by_cases hcl : cap = l.toNat
              · have hz : (hh - l).toNat = 0 := by omega
                rw [if_pos (by simpa using hcl), hz, Nat.zero_mul, List.take_zero]
                refine .sl (.nil _ _) (Nat.zero_le _) ?_
                intro _
                simp [hcl]
              · rw [if_neg (by simpa using hcl)]
                simp only [Option.map_some, add_eq]
                refine .sl (hcells _ _) (by simp; omega) ?_
                intro hcp
                simp only [Bool.and_eq_true, beq_iff_eq] at hcp
                have := g3 hcp.1
                simp
                omega
            · rename_i hnm
              have hnm' : mx.isNone = false := by cases mx <;> simp_all
              have hm2 := bnd_some (e := cap) e3 hnm'
              have hb := bounds_run (P := P) (w := w) (isS := true) (len := len) (cap := cap) hlo hhi hmx e1 e2 hm2 hmh c1 c2 c3 (by omega)
              split at h
              · rename_i hmh2
                cases h
                subst hmh2
                refine ⟨_, hat _ len cap l m m rfl hb, .f ?_ rfl⟩
                have hlen : m.toNat - l.toNat = (m - l).toNat := by omega
                rw [hlen]
                by_cases hcl : m.toNat = l.toNat
                · have hz : (m - l).toNat = 0 := by omega
                  rw [if_pos hcl, hz, Nat.zero_mul, List.take_zero]
                  exact .sl (.nil _ _) (Nat.zero_le _) (fun _ => rfl)
                · rw [if_neg hcl]
                  simp only [Option.map_some, add_eq]
                  exact .sl (hcells _ _) (Nat.le_refl _) (fun _ => rfl)
              · cases h
                exact ⟨_, hat _ len cap l hh m rfl hb, .bot⟩
      · cases h
    · cases h
  · -- own
    rename_i o off len esz clip
    split at h
    · cases h
    rename_i hesz
    simp only [ne_eq, Decidable.not_not] at hesz
    subst hesz
    split at h
    · rename_i l hh m e1 e2 e3
      cases hx with
      | @sl _ _ _ _ _ b bn cap hp h1 h2 h3 h4 =>
        have hkl := knownLen_le (len := len) hI hp h1 h4
        split at h
        · rename_i hnm
          split at h
          · rename_i hc
            obtain ⟨c1, c2, c3, c4⟩ := hc
            obtain ⟨hm1, hm2⟩ := bnd_none (e := cap) e3 hnm
            have hhc : hh ≤ cap := by rcases c3 with c3 | c3 <;> omega
            have hb := bounds_run (P := P) (w := w) (isS := true) (len := len) (cap := cap) hlo hhi hmx e1 e2 hm2 hmh c1 c2 hhc (Int.le_refl _)
            split at h
            · rename_i hz
              cases h
              refine ⟨_, hat _ len cap l hh cap rfl hb, .f ?_ rfl⟩
              have hlen : hh.toNat - l.toNat = 0 := by omega
              rw [hlen]
              by_cases hcl : (cap : Int).toNat = l.toNat
              · rw [if_pos hcl]; exact .sl (.nil _ _) (Nat.zero_le _) (by simp)
              · rw [if_neg hcl]; simp only [Option.map_some, add_eq]; exact .sl (.nil _ _) (Nat.zero_le _) (by simp)
            · rename_i hz
              cases h
              refine ⟨_, hat _ len cap l hh cap rfl hb, ?_⟩
              have hlen : hh.toNat - l.toNat = (hh - l).toNat := by omega
              have hbase : (if (cap : Int).toNat = l.toNat then some (⟨b, off, none⟩ : Addr) else (some (⟨b, off, none⟩ : Addr)).map (·.add (l.toNat * esz))) = some ⟨b, off + l.toNat * esz, none⟩ := by
                by_cases hcl : (cap : Int).toNat = l.toNat
                · have : l = 0 := by omega
                  subst this
                  simp [add_eq]
                · rw [if_neg hcl]; simp [add_eq]
              rw [hbase, hlen]
              have hsub : ((cap : Int).toNat - l.toNat) * esz = cap * esz - l.toNat * esz := by
                rw [Nat.sub_mul]; simp
              have hle2 : l.toNat * esz ≤ cap * esz := Nat.mul_le_mul_right _ (by omega)
              refine .sl hp (by simp; omega) (by rw [hsub]; omega) ?_ ?_
              · intro hcp
                have := h3 hcp
                have := c4 hcp
                simp
                omega
              · intro hcp
                have := h4 hcp
                rw [hsub]
                omega
          · cases h
        · rename_i hnm
          have hnm' : mx.isNone = false := by cases mx <;> simp_all
          have hm2 := bnd_some (e := cap) e3 hnm'
          split at h
          · rename_i hc
            obtain ⟨c1, c2, c3, c4⟩ := hc
            have hb := bounds_run (P := P) (w := w) (isS := true) (len := len) (cap := cap) hlo hhi hmx e1 e2 hm2 hmh c1 c2 c3 (by omega)
            split at h
            · rename_i hmh2
              subst hmh2
              split at h
              · rename_i hz
                cases h
                refine ⟨_, hat _ len cap l m m rfl hb, .f ?_ rfl⟩
                have hlen : m.toNat - l.toNat = 0 := by omega
                rw [hlen, if_pos (by omega)]
                exact .sl (.nil _ _) (Nat.zero_le _) (fun _ => rfl)
              · rename_i hz
                cases h
                refine ⟨_, hat _ len cap l m m rfl hb, ?_⟩
                have hlen : m.toNat - l.toNat = (m - l).toNat := by omega
                have hbase : (if m.toNat = l.toNat then some (⟨b, off, none⟩ : Addr) else (some (⟨b, off, none⟩ : Addr)).map (·.add (l.toNat * esz))) = some ⟨b, off + l.toNat * esz, none⟩ := by
                  by_cases hcl : m.toNat = l.toNat
                  · have : l = 0 := by omega
                    subst this
                    simp [add_eq]
                  · rw [if_neg hcl]; simp [add_eq]
                rw [hbase, hlen]
                refine .sl hp (Nat.le_refl _) ?_ (fun _ => rfl) (fun h => by cases h)
                have : (m - l).toNat * esz + l.toNat * esz ≤ cap * esz := by
                  rw [← Nat.add_mul]
                  exact Nat.mul_le_mul_right _ (by omega)
                omega
            · cases h
              exact ⟨_, hat _ len cap l hh m rfl hb, .bot⟩
          · cases h
      | @slN _ _ _ a hp =>
        have hob := hI.obj o
        have hkl : knownLen σ o 0 0 esz clip = 0 := by
          unfold knownLen
          split
          · rfl
          · split
            · rename_i cells ex hx
              rw [hx] at hob
              rcases hob with ⟨_, b', vs', el, fz, pre, post, hp', _⟩ | ⟨hc, a', hp', _⟩
              · rw [hp] at hp'; cases hp'
              · subst hc; simp
            · rename_i cells hx
              rw [hx] at hob
              obtain ⟨b', vs', el, fz, hp', _⟩ := hob
              rw [hp] at hp'; cases hp'
            · rfl
        split at h
        · rename_i hnm
          split at h
          · rename_i hc
            obtain ⟨c1, c2, c3, c4⟩ := hc
            obtain ⟨hm1, hm2⟩ := bnd_none (e := 0) e3 hnm
            rw [hkl] at c3
            have hhc : hh ≤ 0 := by rcases c3 with c3 | c3 <;> simpa using c3
            have hb := bounds_run (P := P) (w := w) (isS := true) (len := 0) (cap := 0) hlo hhi hmx e1 e2 hm2 hmh c1 c2 hhc (Int.le_refl _)
            have hl0 : l = 0 := by omega
            have hh0 : hh = 0 := by omega
            subst hl0; subst hh0
            simp only [Int.lt_irrefl, and_false, if_false, Option.some.injEq] at h
            subst h
            refine ⟨_, hat _ 0 0 0 0 0 rfl hb, ?_⟩
            simpa using ARel.slN (φ := φ) (L := L) (M := M) (esz := esz) (clip := clip) hp
          · cases h
        · rename_i hnm
          have hnm' : mx.isNone = false := by cases mx <;> simp_all
          have hm2 := bnd_some (e := 0) e3 hnm'
          split at h
          · rename_i hc
            obtain ⟨c1, c2, c3, c4⟩ := hc
            have hb := bounds_run (P := P) (w := w) (isS := true) (len := 0) (cap := 0) hlo hhi hmx e1 e2 hm2 hmh c1 c2 c3 c4
            have hl0 : l = 0 := by simp only [Int.natCast_zero] at c4; omega
            have hh0 : hh = 0 := by simp only [Int.natCast_zero] at c4; omega
            have hm0 : m = 0 := by simp only [Int.natCast_zero] at c4; omega
            subst hl0; subst hh0; subst hm0
            simp only [if_true, Int.lt_irrefl, and_false, if_false, Option.some.injEq] at h
            subst h
            refine ⟨_, hat _ 0 0 0 0 0 rfl hb, ?_⟩
            simpa using ARel.slN (φ := φ) (L := L) (M := M) (esz := esz) (clip := true) hp
          · cases h
    · cases h
  · cases h

theorem sliceStr_sound {t : TypeId} {s : ByteArray} {lo hi : Option AV} {vlo vhi : Option Value} {l h : Int} (hu : P.underlying t = some .string) (hlo : ORelO φ L M lo vlo) (hhi : ORelO φ L M hi vhi)
    (hl : bndA lo 0 = some l) (hh : bndA hi s.size = some h) (h0 : 0 ≤ l) (h1 : l ≤ h) (h2 : h ≤ s.size) :
    (Instr.sliceAt t (.string s) vlo vhi none).run P w = .ok (.string (s.extract l.toNat h.toNat)) w := by
  have hb := bounds_run (P := P) (w := w) (isS := false) (len := s.size) (cap := s.size) (mx := none) (vmx := none) hlo hhi (.inl ⟨rfl, rfl⟩) hl hh rfl (by simp) h0 h1 h2 (Int.le_refl _)
  simp only [Instr.sliceAt, Sem.run_bind, run_underlying hu, Result.andThen_ok, Instr.slice, Option.isSome_none, Bool.false_eq_true, if_false, hb, Sem.run_pure]

end Go.AM

namespace Go.AM

variable {P : Program} {M : Mem} {φ : Map} {L : LMap} {σ : Nat → AObj} {w : World}

theorem val_some {v : Option AV} {e : Eff} (h : val v = some e) : ∃ a, v = some a ∧ e = ⟨a, [], []⟩ := by
  unfold val at h
  cases v with
  | none => cases h
  | some a => simp at h; exact ⟨a, rfl, h.symm⟩

theorem OpOk.congr {base : Nat} {e : Eff} {s s' : Sem Next} (h : OpOk P M φ L σ w base e s) (hs : s'.run P w = s.run P w) : OpOk P M φ L σ w base e s' := by
  obtain ⟨nx, v, w', M', φ', h1, rest⟩ := h
  exact ⟨nx, v, w', M', φ', hs.trans h1, rest⟩

theorem okVal {base : Nat} {a : AV} {s : Sem Value} (hI : Inv M φ L σ w) (hD : Dom φ σ) (h : ∃ x, s.run P w = .ok x w ∧ ARel φ L M a x) :
    OpOk P M φ L σ w base ⟨a, [], []⟩ (do pure (.value (← s))) := by
  obtain ⟨x, hx, ha⟩ := h
  refine OpOk.val hI hD ?_ ha
  simp only [Sem.run_bind, hx, Result.andThen_ok, Sem.run_pure]

theorem list1 {α β : Type} {l : List α} {f : α → β} {b : β} (h : l.map f = [b]) : ∃ a, l = [a] ∧ f a = b := by
  match l, h with
  | [a], h => exact ⟨a, rfl, by simpa using h⟩

theorem list2 {α β : Type} {l : List α} {f : α → β} {b c : β} (h : l.map f = [b, c]) : ∃ a d, l = [a, d] ∧ f a = b ∧ f d = c := by
  match l, h with
  | [a, d], h => simp at h; exact ⟨a, d, rfl, h.1, h.2⟩

theorem arr_eq {α : Type} {a : Array α} {l : List α} (h : a.toList = l) : a = l.toArray := by
  rw [← h]

theorem builtin_sound {base : Nat} {b : Builtin} {ts : Array TypeId} {args : Array Operand} {ty : TypeId} {cs : Array Bool} {ρA : Operand → AV} {ρ : Operand → Value} {e : Eff} (hI : Inv M φ L σ w) (hD : Dom φ σ) (hk : φ base = none)
    (hρ : ∀ x, ARel φ L M (ρA x) (ρ x)) (h : builtinA P σ base b ts (args.toList.map ρA) = some e) : OpOk P M φ L σ w base e (builtin b ts ty cs (args.map ρ)) := by
  unfold builtinA at h
  split at h
  · rename_i t x h1 h2
    obtain ⟨a, ha, rfl⟩ := list1 h2
    have hm : args.map ρ = #[ρ a] := by rw [arr_eq ha]; simp
    obtain ⟨r, hr, rfl⟩ := val_some h
    rw [arr_eq h1, hm]
    exact okVal hI hD (len_sound (ty := ty) hI (hρ a) hr)
  · rename_i t x h1 h2
    obtain ⟨a, ha, rfl⟩ := list1 h2
    have hm : args.map ρ = #[ρ a] := by rw [arr_eq ha]; simp
    obtain ⟨r, hr, rfl⟩ := val_some h
    rw [arr_eq h1, hm]
    exact okVal hI hD (cap_sound (ty := ty) hI (hρ a) hr)
  · rename_i t u s x h1 h2
    obtain ⟨a, c, ha, rfl, rfl⟩ := list2 h2
    have hm : args.map ρ = #[ρ a, ρ c] := by rw [arr_eq ha]; simp
    split at h
    · rename_i elem hu
      split at h
      · rename_i i new n hi hcm
        split at h
        · rename_i hc
          obtain ⟨hb, hb0, hz⟩ := hc
          obtain ⟨z, hz1, hz2⟩ := Option.map_eq_some_iff.1 hz
          rw [arr_eq h1, hm]
          have hlen : new.length = n * i.size ∧ 0 < i.size := by
            unfold appendA at h
            split at h
            · split at h
              · cases h
              · rename_i hcond
                simp only [Decidable.not_not] at hcond
                exact ⟨hcond.2.2.1, hcond.2.2.2.1⟩
            · cases h
          obtain ⟨xs, hC, hn, hx1⟩ := comes_sound (P := P) hI hi hz1 hz2 hlen.2 hcm (hρ c) hlen.1
          exact append_sound (ty := ty) hI hD hk hu hi hz1 hz2 rfl hb (hρ a) hC hn hx1 h
        · cases h
      · cases h
    · cases h
  · rename_i t u d s h1 h2
    obtain ⟨a, c, ha, rfl, rfl⟩ := list2 h2
    have hm : args.map ρ = #[ρ a, ρ c] := by rw [arr_eq ha]; simp
    split at h
    · rename_i elem hu
      split at h
      · rename_i n hn
        rw [arr_eq h1, hm]
        exact copy_sound (ty := ty) hI hD hu hn (hρ a) (hρ c) h
      · cases h
    · cases h
  · rename_i t d h1 h2
    obtain ⟨a, ha, rfl⟩ := list1 h2
    have hm : args.map ρ = #[ρ a] := by rw [arr_eq ha]; simp
    split at h
    · rename_i elem hu
      rw [arr_eq h1, hm]
      exact clear_sound (ty := ty) hI hD hu (hρ a) h
    · cases h
  · obtain ⟨r, hr, rfl⟩ := val_some h
    obtain ⟨y, hy, hry⟩ := mm_sound (P := P) (w := w) (vs := args.map ρ) (by rw [Array.toList_map]; exact evals_rel hρ _) hr
    refine (okVal (s := Builtin.max_ ts ty (args.map ρ)) hI hD ⟨y, ?_, hry⟩)
    unfold Builtin.max_
    generalize (args.map ρ).toList = vl at hy ⊢
    cases vl with
    | nil => simp at hy
    | cons v r => simpa using hy
  · obtain ⟨r, hr, rfl⟩ := val_some h
    obtain ⟨y, hy, hry⟩ := mm_sound (P := P) (w := w) (vs := args.map ρ) (by rw [Array.toList_map]; exact evals_rel hρ _) hr
    refine (okVal (s := Builtin.min_ ts ty (args.map ρ)) hI hD ⟨y, ?_, hry⟩)
    unfold Builtin.min_
    generalize (args.map ρ).toList = vl at hy ⊢
    cases vl with
    | nil => simp at hy
    | cons v r => simpa using hy
  · cases h

theorem optRel {ρA : Operand → AV} {ρ : Operand → Value} (hρ : ∀ x, ARel φ L M (ρA x) (ρ x)) (x : Option Operand) : ORelO φ L M (x.map ρA) (x.map ρ) := by
  cases x with
  | none => exact .inl ⟨rfl, rfl⟩
  | some x => exact .inr ⟨_, _, rfl, rfl, hρ x⟩

theorem ARel.congrA {a a' : AV} {v : Value} (h : ARel φ L M a v) (e : a = a') : ARel φ L M a' v := e ▸ h

set_option maxHeartbeats 1000000 in
theorem opA_sound {base : Nat} {ρA : Operand → AV} {ρ : Operand → Value} {o : Oper} {e : Eff} (hI : Inv M φ L σ w) (hD : Dom φ σ) (hk : φ base = none)
    (hρ : ∀ x, ARel φ L M (ρA x) (ρ x)) (h : opA P base σ ρA o = some e) : OpOk P M φ L σ w base e (execOp ρ o) := by
  unfold opA at h
  split at h
  · rename_i x hop
    obtain ⟨a, ha, rfl⟩ := val_some h
    cases ha
    exact OpOk.val hI hD (by simp only [execOp, hop, Sem.run_pure]) (hρ x)
  · rename_i x hop
    obtain ⟨a, ha, rfl⟩ := val_some h
    cases ha
    exact OpOk.val hI hD (by simp only [execOp, hop, Sem.run_pure]) (hρ x)
  · rename_i c a b hop
    split at h
    · rename_i t ht
      obtain ⟨r, hr, rfl⟩ := val_some h
      cases hr
      have hc := ((hρ c).congrA ht).bool_inv
      cases t
      · exact OpOk.val hI hD (by simp [execOp, hop, hc, asBool]) (hρ b)
      · exact OpOk.val hI hD (by simp [execOp, hop, hc, asBool]) (hρ a)
    · cases h
  · rename_i t hop
    split at h
    · rename_i cs hcs
      cases h
      exact (alloc_sound hI hD hk hcs).congr (by simp only [execOp, hop])
    · cases h
  · rename_i t x hop
    split at h
    · rename_i cs hcs
      cases h
      exact (box_sound (t := t) hI hD hk (hρ x) hcs).congr (by simp only [execOp, hop])
    · cases h
  · rename_i t parts hop
    split at h
    · rename_i z fields hz hu
      obtain ⟨cs, hcs, h2⟩ := bind_some h
      split at h2
      · rename_i hall
        obtain ⟨r, hr, rfl⟩ := val_some h2
        cases hr
        obtain ⟨zz, hz1, hz2⟩ := bind_some hz
        obtain ⟨zv, hzv, hzr⟩ := zeroA_rel (φ := φ) (L := L) (M := M) hz1
        obtain ⟨hc1, hc2⟩ := hzr.cells hz2
        have hp : PRel φ L M (parts.toList.map fun x => (x.1, ρA x.2)) (parts.map fun x => (x.1, ρ x.2)).toList := by rw [Array.toList_map]; exact forall2_parts hρ _
        exact (okVal (s := Instr.build t (parts.map fun x => (x.1, ρ x.2))) hI hD (build_struct (P := P) hu hzv hc1 hc2 hp hall hcs)).congr (by simp only [execOp, hop])
      · cases h2
    · rename_i z len elem hz hu
      split at h
      · rename_i n hn
        obtain ⟨cs, hcs, h2⟩ := bind_some h
        obtain ⟨r, hr, rfl⟩ := val_some h2
        cases hr
        obtain ⟨zz, hz1, hz2⟩ := bind_some hz
        obtain ⟨zv, hzv, hzr⟩ := zeroA_rel (φ := φ) (L := L) (M := M) hz1
        obtain ⟨hc1, hc2⟩ := hzr.cells hz2
        have hp : PRel φ L M (parts.toList.map fun x => (x.1, ρA x.2)) (parts.map fun x => (x.1, ρ x.2)).toList := by rw [Array.toList_map]; exact forall2_parts hρ _
        exact (okVal (s := Instr.build t (parts.map fun x => (x.1, ρ x.2))) hI hD (build_array (P := P) hu hzv hc1 hc2 hp hn hcs)).congr (by simp only [execOp, hop])
      · cases h
    · cases h
  · rename_i t len parts hop
    split at h
    · rename_i elem hu
      split at h
      · rename_i n z hn hz
        split at h
        · cases h
        · rename_i hc
          simp only [Decidable.not_not] at hc
          obtain ⟨cs, hcs, h2⟩ := bind_some h
          cases h2
          have hp : PRel φ L M (parts.toList.map fun x => (x.1, ρA x.2)) (parts.map fun x => (x.1, ρ x.2)).toList := by rw [Array.toList_map]; exact forall2_parts hρ _
          exact (buildSlice_sound (t := t) hI hD hk hu hn hz hc.1 hc.2.1 hc.2.2 hp hcs).congr (by simp only [execOp, hop])
      · cases h
    · cases h
  · rename_i t a hop
    obtain ⟨r, hr, rfl⟩ := val_some h
    exact (okVal (s := Instr.loadAt t (ρ a)) hI hD (load_sound hI hr (hρ a))).congr (by simp only [execOp, hop])
  · rename_i t a x hop
    split at h
    · rename_i cs n hc hn
      split at h
      · rename_i hl
        cases hst : storeCells σ (ρA a) cs with
        | none => rw [hst] at h; cases h
        | some wr =>
          rw [hst] at h
          simp only [Option.map_some, Option.some.injEq] at h
          subst h
          exact (store_sound (t := t) hI hD (hρ a) (hρ x) hc hn hl hst).congr (by simp only [execOp, hop])
      · cases h
    · cases h
  · rename_i x hop
    split at h
    · rename_i p off hp
      obtain ⟨r, hr, rfl⟩ := val_some h
      cases hr
      have hr := (hρ x).congrA hp
      obtain ⟨b, n, _, hv⟩ := ptr_inv hr rfl
      exact OpOk.val hI hD (by simp only [execOp, hop, hv, Sem.run_pure]) (hv ▸ hr)
    · rename_i p off hp
      obtain ⟨r, hr, rfl⟩ := val_some h
      cases hr
      have hr := (hρ x).congrA hp
      obtain ⟨b, n, _, hv⟩ := fptr_inv hr
      exact OpOk.val hI hD (by simp only [execOp, hop, hv, Sem.run_pure]) (hv ▸ hr)
    · rename_i g a b hp
      obtain ⟨r, hr, rfl⟩ := val_some h
      cases hr
      have hr := (hρ x).congrA hp
      have hv : ∃ p q, ρ x = .func (.func g) p q := by
        generalize ρ x = v at hr
        cases hr with | fn _ _ => exact ⟨_, _, rfl⟩
      obtain ⟨p, q, hv⟩ := hv
      exact OpOk.val hI hD (by simp only [execOp, hop, hv, Sem.run_pure]) (hv ▸ hr)
    · rename_i g a b hp
      obtain ⟨r, hr, rfl⟩ := val_some h
      cases hr
      have hr := (hρ x).congrA hp
      have hv : ∃ p q, ρ x = .func (.func g) p q := by
        generalize ρ x = v at hr
        cases hr with | f hf _ => cases hf with | fn _ _ => exact ⟨_, _, rfl⟩
      obtain ⟨p, q, hv⟩ := hv
      exact OpOk.val hI hD (by simp only [execOp, hop, hv, Sem.run_pure]) (hv ▸ hr)
    · rename_i l hp
      obtain ⟨r, hr, rfl⟩ := val_some h
      cases hr
      have hr := (hρ x).congrA hp
      have hv : ∃ k, ρ x = .func (.yield k) #[] #[] := by
        generalize ρ x = v at hr
        cases hr with | yld _ => exact ⟨_, rfl⟩
      obtain ⟨k, hv⟩ := hv
      exact OpOk.val hI hD (by simp only [execOp, hop, hv, Sem.run_pure]) (hv ▸ hr)
    · cases h
  · rename_i op t x y yt hop
    obtain ⟨r, hr, rfl⟩ := val_some h
    exact (okVal (s := do eqGuard op t x y (ρ x) (ρ y); binOp op t (ρ x) (ρ y)) hI hD (bin_sound hI hr (hρ x) (hρ y))).congr (by simp only [execOp, hop])
  · rename_i op t x hop
    obtain ⟨r, hr, rfl⟩ := val_some h
    exact (okVal (s := Op.unary op (ρ x)) hI hD (un_sound hr (hρ x))).congr (by simp only [execOp, hop])
  · rename_i s d x hop
    obtain ⟨r, hr, rfl⟩ := val_some h
    exact (okVal (s := convert s d (ρ x)) hI hD (conv_sound hr (hρ x))).congr (by simp only [execOp, hop])
  · rename_i t x hop
    split at h
    · cases h
    · cases h
    · rename_i hu1 hu2
      split at h
      · rename_i cs hcs
        obtain ⟨r, hr, rfl⟩ := val_some h
        cases hr
        refine OpOk.val (x := .iface t (ρ x)) hI hD ?_ (.iface (hρ x))
        cases hu : P.underlying t with
        | none => exact absurd hu (by intro h; exact hu2 h)
        | some d =>
          simp only [execOp, hop, Instr.makeInterface, Sem.run_bind, run_underlying hu, Result.andThen_ok]
          cases d <;> first
            | (exact absurd hu (hu1 _))
            | (simp only [Sem.run_pure, Result.andThen_ok])
      · cases h
  · rename_i fn first cap hop
    split at h
    · rename_i g
      obtain ⟨r, hr, rfl⟩ := val_some h
      cases hr
      refine OpOk.val (x := .func (.func g) (first.map ρ) (cap.map ρ)) hI hD ?_ (.fn ?_ ?_)
      · simp only [execOp, hop, Instr.makeFunc, Sem.run_bind, Sem.run_pure, Result.andThen_ok]
      · rw [Array.toList_map]; exact evals_rel hρ _
      · rw [Array.toList_map]; exact evals_rel hρ _
    · cases h
  · rename_i t l c hop
    split at h
    · rename_i elem k1 l1 k2 c1 hu e1 e2
      split at h
      · rename_i i z hi hz
        split at h
        · rename_i hc
          obtain ⟨rfl, g1, g2, g3, g4, g5⟩ := hc
          obtain ⟨z', hz', h2⟩ := bind_some h
          cases h2
          have hv1 := ((hρ l).congrA e1).int_inv
          have hv2 := ((hρ c).congrA e2).int_inv
          exact (makeSlice_sound (t := t) (k := k1) (k' := k2) hI hD hk hu hi hz g1 g2 g3 g4 g5 hz').congr (by simp only [execOp, hop, hv1, hv2])
        · cases h
      · cases h
    · cases h
  · rename_i t x lo hi mx hop
    split at h
    · rename_i hu
      split at h
      · rename_i s e1
        split at h
        · rename_i l hh e2 e3
          split at h
          · rename_i hc
            obtain ⟨r, hr, rfl⟩ := val_some h
            cases hr
            have hv := ((hρ x).congrA e1).str_inv
            have := sliceStr_sound (P := P) (w := w) hu (optRel hρ lo) (optRel hρ hi) e2 e3 hc.1 hc.2.1 hc.2.2
            exact (okVal (s := Instr.sliceAt t (ρ x) (lo.map ρ) (hi.map ρ) none) hI hD ⟨_, by rw [hv]; exact this, .f (.str _) rfl⟩).congr (by simp only [execOp, hop, Option.map_none])
          · cases h
        · cases h
      · cases h
    · rename_i elem hu
      split at h
      · rename_i n hn
        obtain ⟨r, hr, rfl⟩ := val_some h
        exact (okVal (s := Instr.sliceAt t (ρ x) (lo.map ρ) (hi.map ρ) (mx.map ρ)) hI hD (slice_sound hI hu hn (hρ x) (optRel hρ lo) (optRel hρ hi) (optRel hρ mx) hr)).congr (by simp only [execOp, hop])
      · cases h
    · cases h
  · rename_i s x i hop
    split at h
    · rename_i fields hu
      split at h
      · rename_i fd hfd
        split at h
        · rename_i m hm
          split at h
          · rename_i p off e1
            obtain ⟨r, hr, rfl⟩ := val_some h
            cases hr
            obtain ⟨b, n, hp, hv⟩ := ptr_inv ((hρ x).congrA e1) rfl
            exact (okVal (s := Instr.fieldAt s (ρ x) i) hI hD ⟨_, by rw [hv]; exact fieldAddr_sound hu hfd hm, .ptr hp⟩).congr (by simp only [execOp, hop])
          · rename_i cells off e1
            obtain ⟨r, hr, rfl⟩ := val_some h
            cases hr
            obtain ⟨b, bs, hp, hv⟩ := fptr_inv ((hρ x).congrA e1)
            refine (okVal (s := Instr.fieldAt s (ρ x) i) hI hD ⟨_, by rw [hv]; exact fieldAddr_sound hu hfd hm, ?_⟩).congr (by simp only [execOp, hop])
            rw [Nat.add_assoc]; exact .fptr hp
          · cases h
        · cases h
      · cases h
    · cases h
  · rename_i t x i hop
    split at h
    · rename_i fields l hu e1
      split at h
      · rename_i fd hfd
        split at h
        · rename_i n hag hn
          obtain ⟨r, hr, rfl⟩ := val_some h
          exact (okVal (s := Instr.field t (ρ x) i) hI hD (field_sound (n := n) hu hfd ((hρ x).congrA e1) (.inl ⟨hag, hn, hr⟩))).congr (by simp only [execOp, hop])
        · rename_i hag
          obtain ⟨r, hr, rfl⟩ := val_some h
          exact (okVal (s := Instr.field t (ρ x) i) hI hD (field_sound (n := 0) hu hfd ((hρ x).congrA e1) (.inr ⟨hag, hr⟩))).congr (by simp only [execOp, hop])
        · cases h
      · cases h
    · cases h
  · rename_i t x i hop
    split at h
    · rename_i len elem i1 hu e2
      split at h
      · rename_i n hn
        split at h
        · rename_i hc
          obtain ⟨k, hk2⟩ := idx_inv e2 (hρ i)
          split at h
          · rename_i p off e1
            obtain ⟨r, hr, rfl⟩ := val_some h
            cases hr
            obtain ⟨b, bn, hp, hv⟩ := ptr_inv ((hρ x).congrA e1) rfl
            exact (okVal (s := Instr.indexAt t (ρ x) (ρ i)) hI hD ⟨_, by rw [hv, hk2]; exact indexArr_sound hu hn hc.1 hc.2, .ptr hp⟩).congr (by simp only [execOp, hop])
          · rename_i cells off e1
            obtain ⟨r, hr, rfl⟩ := val_some h
            cases hr
            obtain ⟨b, bs, hp, hv⟩ := fptr_inv ((hρ x).congrA e1)
            refine (okVal (s := Instr.indexAt t (ρ x) (ρ i)) hI hD ⟨_, by rw [hv, hk2]; exact indexArr_sound hu hn hc.1 hc.2, ?_⟩).congr (by simp only [execOp, hop])
            rw [Nat.add_assoc]; exact .fptr hp
          · cases h
        · cases h
      · cases h
    · rename_i elem i1 hu e2
      obtain ⟨k, hk2⟩ := idx_inv e2 (hρ i)
      split at h
      · rename_i n cells len clip hn e1
        split at h
        · rename_i hc
          obtain ⟨r, hr, rfl⟩ := val_some h
          cases hr
          have hr := (hρ x).congrA e1
          generalize hv : ρ x = v at hr
          cases hr with
          | f hf _ =>
            cases hf with
            | @sl _ _ _ b off cap g1 g2 g3 =>
              exact (okVal (s := Instr.indexAt t (ρ x) (ρ i)) hI hD ⟨_, by rw [hv, hk2]; exact indexSl_sound hu hn hc.1 hc.2, .fptr g1⟩).congr (by simp only [execOp, hop])
        · cases h
      · rename_i n o off len esz clip hn e1
        split at h
        · rename_i hc
          obtain ⟨rfl, c1, c2⟩ := hc
          obtain ⟨r, hr, rfl⟩ := val_some h
          cases hr
          have hr := (hρ x).congrA e1
          generalize hv : ρ x = v at hr
          cases hr with
          | @sl _ _ _ _ _ b bn cap hp _ _ _ _ =>
            exact (okVal (s := Instr.indexAt t (ρ x) (ρ i)) hI hD ⟨_, by rw [hv, hk2]; exact indexSl_sound hu hn c1 c2, .ptr hp⟩).congr (by simp only [execOp, hop])
          | slN _ => simp at c2; omega
        · cases h
      · cases h
    · cases h
  · rename_i t x i hop
    split at h
    · rename_i len elem l i1 hu e1 e2
      obtain ⟨k, hk2⟩ := idx_inv e2 (hρ i)
      split at h
      · rename_i n hag hn
        split at h
        · rename_i hc
          obtain ⟨r, hr, rfl⟩ := val_some h
          exact (okVal (s := Instr.index t (ρ x) (ρ i)) hI hD (by rw [hk2]; exact indexV_sound (n := n) hu hn hc.1 hc.2 ((hρ x).congrA e1) (.inl ⟨hag, hr⟩))).congr (by simp only [execOp, hop])
        · cases h
      · rename_i n hag hn
        split at h
        · rename_i hc
          obtain ⟨r, hr, rfl⟩ := val_some h
          exact (okVal (s := Instr.index t (ρ x) (ρ i)) hI hD (by rw [hk2]; exact indexV_sound (n := n) hu hn hc.1 hc.2 ((hρ x).congrA e1) (.inr ⟨hag, hr⟩))).congr (by simp only [execOp, hop])
        · cases h
      · cases h
    · rename_i s i1 hu e1 e2
      obtain ⟨k, hk2⟩ := idx_inv e2 (hρ i)
      split at h
      · rename_i hc
        split at h
        · rename_i b hb
          obtain ⟨r, hr, rfl⟩ := val_some h
          cases hr
          have hv := ((hρ x).congrA e1).str_inv
          exact (okVal (s := Instr.index t (ρ x) (ρ i)) hI hD ⟨_, by rw [hv, hk2]; exact indexStr_sound hu hc hb, .f (.int _ _) rfl⟩).congr (by simp only [execOp, hop])
        · cases h
      · cases h
    · cases h
  · rename_i t i hop
    split at h
    · rename_i l e1
      obtain ⟨r, hr, rfl⟩ := val_some h
      exact (okVal (s := Instr.extract (ρ t) i) hI hD (extract_sound ((hρ t).congrA e1) hr)).congr (by simp only [execOp, hop])
    · cases h
  · rename_i b args ts hop
    exact (builtin_sound (ty := o.type) (cs := args.map fun | .const _ => true | _ => false) hI hD hk hρ h).congr (by simp only [execOp, hop, resolve, pure_bind, invoke]; rfl)
  · cases h

end Go.AM

namespace Go.AM

variable {P : Program} {M : Mem} {φ : Map} {L : LMap} {σ : Nat → AObj} {w : World}

theorem atO_set {l : List AObj} {o : Nat} {x : AObj} (h : o < l.length) : atO (l.set o x) = upd (atO l) o x := by
  funext i
  by_cases e : i = o
  · subst e; simp [atO, h]
  · rw [upd_ne _ _ e]
    simp [atO, List.getElem?_set_ne (Ne.symm e)]

theorem atO_lt {l : List AObj} {o : Nat} (h : atO l o ≠ .dead) : o < l.length := by
  rcases Nat.lt_or_ge o l.length with h1 | h1
  · exact h1
  · exact absurd (by simp [atO, List.getElem?_eq_none h1]) h

def addM (M : Mem) (b : Nat) (pre : List Value) : Mem := fun b' off => if b' = b then pre[off]? else M b' off

theorem addM_le {b : Nat} {pre : List Value} (h : ∀ off, M b off = none) : M.le (addM M b pre) := by
  intro b' off v hv
  unfold addM
  split
  · rename_i e; subst e; rw [h] at hv; cases hv
  · exact hv

/-- An object frozen. -/
theorem Inv.freeze {o b n : Nat} {cs : List FV} {vs : Array Value} {el : TypeId} {fz : Nat × Nat} {pre post : List Value} (hI : Inv M φ L σ w) (hl : live (σ o) = true) (hp : φ o = some (.blk b n))
    (hh : w.heap[b]? = some (.cells vs el fz)) (he : vs.toList = pre ++ post) (hr : FRels M cs pre) (hc : ∀ v ∈ pre, cell1 v = true) :
    Inv (addM M b pre) φ L (upd σ o (.frz cs)) w ∧ FCells (addM M b pre) b 0 cs := by
  have hle : M.le (addM M b pre) := addM_le (hI.sep o b n hl hp)
  have hcells : FCells (addM M b pre) b 0 cs := by
    refine FCells.of_rels (hr.mono hle) hc ?_
    intro i x hx
    simpa [addM] using hx
  refine ⟨⟨?_, ?_, ?_, ?_⟩, hcells⟩
  · intro b' off v hv
    unfold addM at hv
    split at hv
    · rename_i e
      subst e
      rw [cell_of_heap hh]
      have : vs.toList[off]? = some v := by rw [he, List.getElem?_append_left (List.getElem?_eq_some_iff.1 hv).1]; exact hv
      simpa using this
    · exact hI.froz _ _ _ hv
  · intro o'
    by_cases e : o' = o
    · subst e
      rw [upd_same]
      exact .inl ⟨b, n, hp, hcells⟩
    · rw [upd_ne _ _ e]
      exact (hI.obj o').keep (fun _ _ h => h) (fun _ _ h => h) hle (fun _ _ _ _ => rfl)
  · intro o1 o2 b' m m' h1 h2 p1 p2
    have aux : ∀ i, live (upd σ o (.frz cs) i) = true → live (σ i) = true := by
      intro i hi
      by_cases e : i = o
      · subst e; simp [live] at hi
      · rwa [upd_ne _ _ e] at hi
    exact hI.inj o1 o2 b' m m' (aux _ h1) (aux _ h2) p1 p2
  · intro o1 b' m h1 p1 off
    by_cases e : o1 = o
    · subst e; simp [live] at h1
    · rw [upd_ne _ _ e] at h1
      have hne : b' ≠ b := by
        rintro rfl
        exact e (hI.inj _ _ _ _ _ h1 hl p1 hp)
      unfold addM
      rw [if_neg hne]
      exact hI.sep o1 b' m h1 p1 off

structure Frz (M : Mem) (φ : Map) (L : LMap) (σ σ' : List AObj) (M' : Mem) (w : World) : Prop where
  le : M.le M'
  inv : Inv M' φ L (atO σ') w
  dom : Dom φ (atO σ')
  len : σ'.length = σ.length
  live : ∀ o, live (atO σ' o) = true → live (atO σ o) = true
  memN : ∀ b off, ¬ owns φ (atO σ) b → M' b off = M b off
  chg : ∀ o, atO σ' o = atO σ o ∨ ∃ cs, atO σ' o = .frz cs

theorem Frz.refl {σ : List AObj} (hI : Inv M φ L (atO σ) w) (hD : Dom φ (atO σ)) : Frz M φ L σ σ M w :=
  ⟨fun _ _ _ h => h, hI, hD, rfl, fun _ h => h, fun _ _ _ => rfl, fun _ => .inl rfl⟩

theorem Frz.trans {σ1 σ2 σ3 : List AObj} {M1 M2 M3 : Mem} (h : Frz M1 φ L σ1 σ2 M2 w) (h' : Frz M2 φ L σ2 σ3 M3 w) : Frz M1 φ L σ1 σ3 M3 w :=
  ⟨fun _ _ _ x => h'.le _ _ _ (h.le _ _ _ x), h'.inv, h'.dom, h'.len.trans h.len, fun o x => h.live o (h'.live o x),
   fun b off hn => (h'.memN b off (fun ⟨o, n, hl, hp⟩ => hn ⟨o, n, h.live o hl, hp⟩)).trans (h.memN b off hn),
   fun o => (h'.chg o).elim (fun e => (h.chg o).elim (fun e' => .inl (e.trans e')) (fun ⟨cs, e'⟩ => .inr ⟨cs, e.trans e'⟩)) .inr⟩

theorem Frz.frame {σ1 σ2 : List AObj} {M1 M2 : Mem} (h : Frz M1 φ L σ1 σ2 M2 w) : Frame (owns φ (atO σ1)) M1 w M2 w :=
  ⟨Nat.le_refl _, fun _ _ _ => rfl, h.le, fun b off _ hn => h.memN b off hn, rfl, rfl, rfl⟩

theorem Frz.set {l : List AObj} {o b n : Nat} {cs : List FV} {pre : List Value} (hD : Dom φ (atO l)) (hl : AM.live (atO l o) = true) (hp : φ o = some (.blk b n))
    (h : Inv (addM M b pre) φ L (upd (atO l) o (.frz cs)) w) (hle : M.le (addM M b pre)) : Frz M φ L l (l.set o (.frz cs)) (addM M b pre) w := by
  have hlt : o < l.length := atO_lt (by intro e; rw [e] at hl; cases hl)
  have hat := atO_set (x := .frz cs) hlt
  refine ⟨hle, by rw [hat]; exact h, ?_, by simp, ?_, ?_, ?_⟩
  · rw [hat]
    intro i
    by_cases e : i = o
    · subst e; exact .inl ⟨_, hp⟩
    · rw [upd_ne _ _ e]; exact hD i
  · intro i hi
    rw [hat] at hi
    by_cases e : i = o
    · subst e; exact hl
    · rwa [upd_ne _ _ e] at hi
  · intro b' off hn
    unfold addM
    rw [if_neg]
    rintro rfl
    exact hn ⟨o, n, hl, hp⟩
  · intro i
    rw [hat]
    by_cases e : i = o
    · subst e; exact .inr ⟨cs, upd_same _ _ _⟩
    · exact .inl (upd_ne _ _ e)

/-- Statement: one value frozen. -/
def FreezeOk (φ : Map) (L : LMap) (w : World) (g : AV → List AObj → Option (FV × List AObj)) : Prop :=
  ∀ (v : AV) (σ : List AObj) (x : FV) (σ' : List AObj) (M : Mem) (val : Value), g v σ = some (x, σ') → Inv M φ L (atO σ) w → Dom φ (atO σ) → ARel φ L M v val →
    ∃ M', Frz M φ L σ σ' M' w ∧ FRel M' x val

theorem mapMF_sound {g : AV → List AObj → Option (FV × List AObj)} (hg : FreezeOk φ L w g) : ∀ (l : List AV) (σ : List AObj) (xs : List FV) (σ' : List AObj) (M : Mem) (vals : List Value),
    mapMF g l σ = some (xs, σ') → Inv M φ L (atO σ) w → Dom φ (atO σ) → ARels φ L M l vals → ∃ M', Frz M φ L σ σ' M' w ∧ FRels M' xs vals
  | [], σ, xs, σ', M, _, h, hI, hD, .nil => by
    simp only [mapMF, Option.some.injEq, Prod.mk.injEq] at h
    obtain ⟨rfl, rfl⟩ := h
    exact ⟨M, Frz.refl hI hD, .nil⟩
  | v :: r, σ, xs, σ', M, _, h, hI, hD, .cons ha hb => by
    simp only [mapMF] at h
    split at h
    · rename_i x σ1 h1
      obtain ⟨M1, hF1, hx1⟩ := hg v σ x σ1 M _ h1 hI hD ha
      split at h
      · rename_i xs2 σ2 h2
        simp only [Option.some.injEq, Prod.mk.injEq] at h
        obtain ⟨rfl, rfl⟩ := h
        obtain ⟨M2, hF2, hx2⟩ := mapMF_sound hg r σ1 xs2 σ2 M1 _ h2 hF1.inv hF1.dom (hb.mono (fun _ _ h => h) (fun _ _ h => h) hF1.le)
        exact ⟨M2, hF1.trans hF2, .cons (hx1.mono hF2.le) hx2⟩
      · cases h
    · cases h

/-- An object frozen, as 'freeze' does it. -/
def frzObj (n : Nat) (σ : List AObj) (o : Nat) : Option (Bool × List FV × List AObj) :=
  match atO σ o with
  | .arr cells _ isNil => some (isNil, cells, bif isNil then σ else σ.set o (.frz cells))
  | .frz cells => some (false, cells, σ)
  | .box cells =>
    match mapMF (freeze n) cells σ with
    | some (cs, σ1) => match atO σ1 o with | .box _ => some (false, cs, σ1.set o (.frz cs)) | _ => none
    | none => none
  | _ => none

theorem frzObj_sound {n : Nat} (hg : FreezeOk φ L w (freeze n)) {σ σ' : List AObj} {o : Nat} {isNil : Bool} {cells : List FV} (h : frzObj n σ o = some (isNil, cells, σ')) (hI : Inv M φ L (atO σ) w) (hD : Dom φ (atO σ)) :
    ∃ M', Frz M φ L σ σ' M' w ∧ ((∃ b bn, φ o = some (.blk b bn) ∧ isNil = false ∧ FCells M' b 0 cells) ∨ (cells = [] ∧ ∃ a, φ o = some (.ghost a) ∧ (isNil = true ↔ a = none) ∧ ∀ x, a = some x → x.spot = none)) := by
  unfold frzObj at h
  have hob := hI.obj o
  split at h
  · rename_i cs ex nl hx
    simp only [Option.some.injEq, Prod.mk.injEq] at h
    obtain ⟨rfl, rfl, rfl⟩ := h
    have hl : live (atO σ o) = true := by rw [hx]; rfl
    rw [hx] at hob
    rcases hob with ⟨hn, b, vs, el, fz, pre, post, hp, hh, hf, he, hr, hc, hex⟩ | ⟨hc, a, hp, hn, hsp⟩
    · subst hn
      obtain ⟨h1, h2⟩ := hI.freeze hl hp hh he hr hc
      exact ⟨_, Frz.set hD hl hp h1 (addM_le (hI.sep o b _ hl hp)), .inl ⟨b, _, hp, rfl, h2⟩⟩
    · subst hc
      have hlt : o < σ.length := atO_lt (by intro e; rw [e] at hl; cases hl)
      cases nl
      · refine ⟨M, ⟨fun _ _ _ h => h, ?_, ?_, by simp, ?_, fun _ _ _ => rfl, ?_⟩, .inr ⟨rfl, a, hp, hn, hsp⟩⟩
        · simp only [cond_false]
          rw [atO_set hlt]
          refine ⟨hI.froz, ?_, ?_, ?_⟩
          · intro i
            by_cases e : i = o
            · subst e
              rw [upd_same]
              cases a with
              | none => simp at hn
              | some a => exact .inr ⟨rfl, a, hp, hsp a rfl⟩
            · rw [upd_ne _ _ e]; exact hI.obj i
          · intro o1 o2 b' m m' h1 h2 p1 p2
            have aux : ∀ i, live (upd (atO σ) o (.frz []) i) = true → live (atO σ i) = true := by
              intro i hi
              by_cases e : i = o
              · subst e; simp [live] at hi
              · rwa [upd_ne _ _ e] at hi
            exact hI.inj o1 o2 b' m m' (aux _ h1) (aux _ h2) p1 p2
          · intro o1 b' m h1 p1 off
            by_cases e : o1 = o
            · subst e; simp [live] at h1
            · rw [upd_ne _ _ e] at h1; exact hI.sep o1 b' m h1 p1 off
        · simp only [cond_false]
          rw [atO_set hlt]
          intro i
          by_cases e : i = o
          · subst e; exact .inl ⟨_, hp⟩
          · rw [upd_ne _ _ e]; exact hD i
        · intro i hi
          simp only [cond_false] at hi
          rw [atO_set hlt] at hi
          by_cases e : i = o
          · subst e; exact hl
          · rwa [upd_ne _ _ e] at hi
        · intro i
          simp only [cond_false]
          rw [atO_set hlt]
          by_cases e : i = o
          · subst e; exact .inr ⟨[], upd_same _ _ _⟩
          · exact .inl (upd_ne _ _ e)
      · exact ⟨M, Frz.refl hI hD, .inr ⟨rfl, a, hp, hn, hsp⟩⟩
  · rename_i cs hx
    simp only [Option.some.injEq, Prod.mk.injEq] at h
    obtain ⟨rfl, rfl, rfl⟩ := h
    rw [hx] at hob
    rcases hob with ⟨b, n', hp, hr⟩ | ⟨hc, a, hp, hs⟩
    · exact ⟨M, Frz.refl hI hD, .inl ⟨b, n', hp, rfl, hr⟩⟩
    · exact ⟨M, Frz.refl hI hD, .inr ⟨hc, _, hp, by simp, by rintro _ ⟨rfl⟩; exact hs⟩⟩
  · rename_i bcells hx
    split at h
    · rename_i cs σ1 h1
      split at h
      · rename_i bc2 hx2
        simp only [Option.some.injEq, Prod.mk.injEq] at h
        obtain ⟨rfl, rfl, rfl⟩ := h
        rw [hx] at hob
        obtain ⟨b, vs, el, fz, hp, hh, hf, hr, hc⟩ := hob
        obtain ⟨M1, hF1, hx1⟩ := mapMF_sound hg bcells σ cs σ1 M vs.toList h1 hI hD hr
        have hl : live (atO σ1 o) = true := by rw [hx2]; rfl
        obtain ⟨g1, g2⟩ := hF1.inv.freeze (pre := vs.toList) (post := []) hl hp hh (by simp) hx1 hc
        exact ⟨_, hF1.trans (Frz.set hF1.dom hl hp g1 (addM_le (hF1.inv.sep o b _ hl hp))), .inl ⟨b, _, hp, rfl, g2⟩⟩
      · cases h
    · cases h
  · cases h

theorem freeze_eq (n : Nat) (v : AV) (σ : List AObj) : freeze (n + 1) v σ =
    match v with
    | .f x => some (x, σ)
    | .sl o off len esz clip =>
      match frzObj n σ o with
      | some (isNil, cells, σ1) => some (mkSl isNil ((cells.drop off).take (len * esz)) len clip, σ1)
      | none => none
    | .ptr o off =>
      match frzObj n σ o with
      | some (false, cells, σ1) => some (.ptr cells off, σ1)
      | _ => none
    | .fn g a b =>
      match mapMF (freeze n) a σ with
      | some (a', σ1) =>
        match mapMF (freeze n) b σ1 with
        | some (b', σ2) => some (.fn g a' b', σ2)
        | none => none
      | none => none
    | .iface t x => match freeze n x σ with | some (x', σ1) => some (.iface t x', σ1) | none => none
    | .agg l => match mapMF (freeze n) l σ with | some (l', σ1) => some (.agg l', σ1) | none => none
    | _ => none := by
  cases v <;> rfl

theorem freeze_sound : ∀ n, FreezeOk φ L w (freeze n)
  | 0 => by intro v σ x σ' M val h; simp [freeze] at h
  | n + 1 => by
    have ih := freeze_sound n
    intro v σ x σ' M val h hI hD ha
    rw [freeze_eq] at h
    cases ha with
    | f hr ho =>
      simp only [Option.some.injEq, Prod.mk.injEq] at h
      obtain ⟨rfl, rfl⟩ := h
      exact ⟨M, Frz.refl hI hD, hr⟩
    | @sl o off len esz clip b bn cap hp h1 h2 h3 h4 =>
      simp only at h
      split at h
      · rename_i isNil cells σ1 ho
        simp only [Option.some.injEq, Prod.mk.injEq] at h
        obtain ⟨rfl, rfl⟩ := h
        obtain ⟨M', hF, hc⟩ := frzObj_sound ih ho hI hD
        rcases hc with ⟨b', bn', hp', rfl, hc⟩ | ⟨_, a, hp', _⟩
        · rw [hp] at hp'; cases hp'
          refine ⟨M', hF, ?_⟩
          have := (hc.drop off).take (len * esz)
          rw [Nat.zero_add] at this
          exact .sl this h1 h3
        · rw [hp] at hp'; cases hp'
      · cases h
    | @slN o esz clip a hp =>
      simp only at h
      split at h
      · rename_i isNil cells σ1 ho
        simp only [Option.some.injEq, Prod.mk.injEq] at h
        obtain ⟨rfl, rfl⟩ := h
        obtain ⟨M', hF, hc⟩ := frzObj_sound ih ho hI hD
        rcases hc with ⟨b', bn', hp', _⟩ | ⟨hc, a', hp', hn, hs⟩
        · rw [hp] at hp'; cases hp'
        · rw [hp] at hp'; cases hp'
          subst hc
          refine ⟨M', hF, ?_⟩
          cases a with
          | none =>
            have : isNil = true := hn.2 rfl
            subst this
            exact .nils
          | some a =>
            have : isNil = false := by
              cases isNil
              · rfl
              · simp at hn
            subst this
            obtain ⟨b, off, sp⟩ := a
            have hsp : sp = none := hs _ rfl
            subst hsp
            simp only [mkSl, cond_false, List.drop_nil, List.take_nil]
            exact .sl (.nil _ _) (Nat.le_refl _) (fun _ => rfl)
      · cases h
    | @ptr o off b bn hp =>
      simp only at h
      split at h
      · rename_i cells σ1 ho
        simp only [Option.some.injEq, Prod.mk.injEq] at h
        obtain ⟨rfl, rfl⟩ := h
        obtain ⟨M', hF, hc⟩ := frzObj_sound ih ho hI hD
        rcases hc with ⟨b', bn', hp', _, hc⟩ | ⟨_, a, hp', _⟩
        · rw [hp] at hp'; cases hp'
          refine ⟨M', hF, ?_⟩
          have := FRel.ptr (M := M') (off := off) hc
          rwa [Nat.zero_add] at this
        · rw [hp] at hp'; cases hp'
      · cases h
    | fn ha hb =>
      simp only at h
      split at h
      · rename_i a' σ1 e1
        split at h
        · rename_i b' σ2 e2
          simp only [Option.some.injEq, Prod.mk.injEq] at h
          obtain ⟨rfl, rfl⟩ := h
          obtain ⟨M1, hF1, hx1⟩ := mapMF_sound ih _ _ _ _ M _ e1 hI hD ha
          obtain ⟨M2, hF2, hx2⟩ := mapMF_sound ih _ _ _ _ M1 _ e2 hF1.inv hF1.dom (hb.mono (fun _ _ h => h) (fun _ _ h => h) hF1.le)
          exact ⟨M2, hF1.trans hF2, .fn (hx1.mono hF2.le) hx2⟩
        · cases h
      · cases h
    | iface ha =>
      simp only at h
      split at h
      · rename_i x' σ1 e1
        simp only [Option.some.injEq, Prod.mk.injEq] at h
        obtain ⟨rfl, rfl⟩ := h
        obtain ⟨M1, hF1, hx1⟩ := ih _ _ _ _ M _ e1 hI hD ha
        exact ⟨M1, hF1, .iface hx1⟩
      · cases h
    | agg ha hone =>
      simp only at h
      split at h
      · rename_i l' σ1 e1
        simp only [Option.some.injEq, Prod.mk.injEq] at h
        obtain ⟨rfl, rfl⟩ := h
        obtain ⟨M1, hF1, hx1⟩ := mapMF_sound ih _ _ _ _ M _ e1 hI hD ha
        exact ⟨M1, hF1, .agg hx1 hone⟩
      · cases h
    | mp _ => simp at h
    | yld _ => simp at h
    | tup _ => simp at h
    | bot => simp at h

theorem freezeL_sound {l : List AV} {σ σ' : List AObj} {xs : List FV} {vals : List Value} (h : freezeL l σ = some (xs, σ')) (hI : Inv M φ L (atO σ) w) (hD : Dom φ (atO σ)) (ha : ARels φ L M l vals) :
    ∃ M', Frz M φ L σ σ' M' w ∧ FRels M' xs vals := mapMF_sound (freeze_sound freezeFuel) l σ xs σ' M vals h hI hD ha

/-! ### garbage -/

theorem posIn_spec : ∀ (l : List Nat) (o i j : Nat), posIn l o i = some j → i ≤ j ∧ l[j - i]? = some o
  | [], o, i, j, h => by simp [posIn] at h
  | x :: r, o, i, j, h => by
    simp only [posIn] at h
    cases hx : (x == o) with
    | true =>
      rw [hx] at h
      simp only [cond_true, Option.some.injEq] at h
      subst h
      simp at hx
      simp [hx]
    | false =>
      rw [hx] at h
      simp only [cond_false] at h
      obtain ⟨h1, h2⟩ := posIn_spec r o (i + 1) j h
      refine ⟨by omega, ?_⟩
      rw [show j - i = (j - (i + 1)) + 1 by omega]
      simpa using h2

theorem reach_nodup (σ : Nat → AObj) : ∀ (n : Nat) (todo seen : List Nat), seen.Nodup → (reach σ n todo seen).Nodup
  | 0, _, _, h => h
  | _ + 1, [], _, h => h
  | n + 1, o :: todo, seen, h => by
    simp only [reach]
    cases hc : seen.contains o with
    | true => simp only [cond_true]; exact reach_nodup σ n _ _ h
    | false =>
      simp only [cond_false]
      refine reach_nodup σ n _ _ ?_
      rw [List.nodup_append]
      refine ⟨h, by simp, ?_⟩
      intro a ha b hb
      simp at hb
      subst hb
      rintro rfl
      simp at hc
      exact hc ha

theorem reach_prefix (σ : Nat → AObj) : ∀ (n : Nat) (todo seen : List Nat), seen <+: reach σ n todo seen
  | 0, _, seen => List.prefix_refl seen
  | _ + 1, [], seen => List.prefix_refl seen
  | n + 1, o :: todo, seen => by
    simp only [reach]
    cases seen.contains o with
    | true => simp only [cond_true]; exact reach_prefix σ n _ _
    | false => simp only [cond_false]; exact (List.prefix_append _ _).trans (reach_prefix σ n _ _)

theorem reach_range (σ : Nat → AObj) : ∀ (m n i : Nat) (rest : List Nat), m ≤ n → (List.range (i + m)) <+: reach σ n ((List.range' i m) ++ rest) (List.range i)
  | 0, n, i, rest, _ => by simpa using reach_prefix σ n rest (List.range i)
  | m + 1, 0, i, rest, h => by omega
  | m + 1, n + 1, i, rest, h => by
    simp only [List.range'_succ, List.cons_append, reach]
    have : (List.range i).contains i = false := by simp
    rw [this]
    simp only [cond_false]
    have h2 := reach_range σ m n (i + 1) (rest ++ (σ i).refs) (by omega)
    rw [List.range_succ] at h2
    rw [show i + (m + 1) = i + 1 + m by omega, List.append_assoc]
    exact h2

/-- The blocks of a renumbered store. -/
def gcMap (φ : Map) (ids : List Nat) : Map := fun o => (ids[o]?).bind φ

theorem gc_sound {σ : List AObj} {ids : List Nat} (hnd : ids.Nodup) (hI : Inv M φ L (atO σ) w) (hD : Dom φ (atO σ)) :
    Inv M (gcMap φ ids) L (atO (gcS σ ids)) w ∧ Dom (gcMap φ ids) (atO (gcS σ ids)) := by
  have hat : ∀ o, atO (gcS σ ids) o = (match ids[o]? with | some i => (atO σ i).ren (fun x => posIn ids x 0) | none => .dead) := by
    intro o
    unfold atO gcS
    rw [List.getElem?_map]
    cases ids[o]? <;> rfl
  have hm : ∀ o o' p, posIn ids o 0 = some o' → φ o = some p → gcMap φ ids o' = some p := by
    intro o o' p h1 h2
    obtain ⟨_, h3⟩ := posIn_spec ids o 0 o' h1
    rw [Nat.sub_zero] at h3
    unfold gcMap
    rw [h3]
    exact h2
  have hlive : ∀ o, live (atO (gcS σ ids) o) = true → ∃ i, ids[o]? = some i ∧ live (atO σ i) = true := by
    intro o h
    rw [hat] at h
    cases hi : ids[o]? with
    | none => rw [hi] at h; cases h
    | some i =>
      rw [hi] at h
      refine ⟨i, rfl, ?_⟩
      simp only at h
      cases hx : atO σ i <;> rw [hx] at h <;> first | rfl | exact h
  refine ⟨⟨hI.froz, ?_, ?_, ?_⟩, ?_⟩
  · intro o
    rw [hat]
    cases hi : ids[o]? with
    | none => trivial
    | some i =>
      have hob := hI.obj i
      have hg : gcMap φ ids o = φ i := by unfold gcMap; rw [hi]; rfl
      rw [hg]
      simp only
      cases hx : atO σ i with
      | box cs =>
        rw [hx] at hob
        obtain ⟨b, vs, el, fz, hp, hh, hf, hr, hc⟩ := hob
        exact ⟨b, vs, el, fz, hp, hh, hf, hr.ren hm, hc⟩
      | arr cs ex nl => rw [hx] at hob; exact hob
      | frz cs => rw [hx] at hob; exact hob
      | map es => rw [hx] at hob; exact hob
      | dead => trivial
  · intro o o' b n n' h1 h2 p1 p2
    obtain ⟨i, hi, li⟩ := hlive o h1
    obtain ⟨i', hi', li'⟩ := hlive o' h2
    unfold gcMap at p1 p2
    rw [hi] at p1
    rw [hi'] at p2
    have := hI.inj i i' b n n' li li' p1 p2
    subst this
    have hlt := (List.getElem?_eq_some_iff.1 hi).1
    have hlt' := (List.getElem?_eq_some_iff.1 hi').1
    exact (List.getElem_inj (h₀ := hlt) (h₁ := hlt') hnd).1 (by rw [(List.getElem?_eq_some_iff.1 hi).2, (List.getElem?_eq_some_iff.1 hi').2])
  · intro o b n h1 p1 off
    obtain ⟨i, hi, li⟩ := hlive o h1
    unfold gcMap at p1
    rw [hi] at p1
    exact hI.sep i b n li p1 off
  · intro o
    rw [hat]
    cases hi : ids[o]? with
    | none => exact .inr rfl
    | some i =>
      rcases hD i with ⟨p, hp⟩ | hd
      · exact .inl ⟨p, by unfold gcMap; rw [hi]; exact hp⟩
      · right; simp only; rw [hd]; rfl

theorem owns_gc {σ : List AObj} {ids : List Nat} {b : Nat} (h : owns (gcMap φ ids) (atO (gcS σ ids)) b) : owns φ (atO σ) b := by
  obtain ⟨o, n, hl, hp⟩ := h
  have hat : atO (gcS σ ids) o = (match ids[o]? with | some i => (atO σ i).ren (fun x => posIn ids x 0) | none => .dead) := by
    unfold atO gcS
    rw [List.getElem?_map]
    cases ids[o]? <;> rfl
  rw [hat] at hl
  cases hi : ids[o]? with
  | none => rw [hi] at hl; cases hl
  | some i =>
    rw [hi] at hl
    unfold gcMap at hp
    rw [hi] at hp
    refine ⟨i, n, ?_, hp⟩
    simp only at hl
    cases hx : atO σ i <;> rw [hx] at hl <;> first | rfl | exact hl

theorem gcIds_nodup (σ : List AObj) (keep : Nat) (roots : List Nat) : (gcIds σ keep roots).Nodup := reach_nodup _ _ _ _ List.nodup_nil

/-- What is pinned keeps its number. -/
theorem gcIds_pin (σ : List AObj) (keep : Nat) (roots : List Nat) (hk : keep ≤ reachFuel) {o : Nat} (ho : o < keep) : (gcIds σ keep roots)[o]? = some o := by
  have h := reach_range (atO σ) keep reachFuel 0 roots hk
  unfold gcIds
  rw [List.range_eq_range']
  simp only [Nat.zero_add, List.range_zero] at h
  obtain ⟨t, ht⟩ := h
  rw [← ht, List.getElem?_append_left (by simpa using ho)]
  simp [ho]

end Go.AM
