/-
What is shown of numbers and lists.
-/
import Derived.Test.YtgahfnebfpmbpaaGreatMC4
set_option linter.unusedVariables false
set_option linter.unusedSimpArgs false
namespace Go.AM
open List
theorem nth_get {l : List Int} {i : Nat} (h : i < l.length) : nth l i = l[i] := (nth_eq h).symm
theorem set_perm : ∀ (l : List Int) (f : Nat) (x : Int), f < l.length → (l.set f x) ~ (x :: l.eraseIdx f)
  | a :: t, 0, x, _ => Perm.refl _
  | a :: t, f + 1, x, h => ((set_perm t f x (by simpa using h)).cons a).trans (Perm.swap x a _)
  | [], _, _, h => by simp at h
theorem get_perm {l : List Int} {f : Nat} (h : f < l.length) : l ~ (nth l f :: l.eraseIdx f) := by
  have := set_perm l f (nth l f) h
  rwa [nth_get h, List.set_getElem_self, ← nth_get h] at this
theorem swap_perm : ∀ (l : List Int) (j : Nat), j + 1 < l.length → ((l.set (j + 1) (nth l j)).set j (nth l (j + 1))) ~ l
  | a :: b :: t, 0, _ => Perm.swap a b t
  | a :: t, j + 1, h => (swap_perm t j (by simpa using h)).cons a
  | [], _, h => by simp at h
  | [_], 0, h => by simp at h
theorem sink_perm (lt : Int → Int → Bool) : ∀ j (l : List Int), j < l.length → sink lt j l ~ l
  | 0, l, _ => Perm.refl _
  | j + 1, l, h => by
    simp only [sink]; split
    · exact (sink_perm lt j _ (by simp; omega)).trans (swap_perm l j h)
    · exact Perm.refl _
theorem isortGo_perm (lt : Int → Int → Bool) : ∀ d i (l : List Int), i + d ≤ l.length → isortGo lt d i l ~ l
  | 0, _, _, _ => Perm.refl _
  | d + 1, i, l, h => by
    simp only [isortGo]
    exact (isortGo_perm lt d (i + 1) _ (by rw [sink_len]; omega)).trans (sink_perm lt i l (by omega))
theorem isort_perm (lt : Int → Int → Bool) (l : List Int) : isort lt l ~ l := by
  cases l with
  | nil => exact Perm.refl _
  | cons a t => exact isortGo_perm lt _ _ _ (by simp; omega)
theorem nth_set {l : List Int} {i j : Nat} {x : Int} (h : i < l.length) : nth (l.set i x) j = if i = j then x else nth l j := by
  simp only [nth, List.getD_eq_getElem?_getD, List.getElem?_set]
  split
  · subst_vars; simp [h]
  · rfl
section
variable {lt : Int → Int → Bool} {S : Int → Prop} (tr : ∀ a b c, S a → S b → S c → lt b a = false → lt c b = false → lt c a = false) (asy : ∀ a b, S a → S b → lt a b = true → lt b a = false)
 include tr asy
theorem sink_sorted : ∀ (j : Nat) (l : List Int) (i : Nat), j ≤ i → i < l.length → (∀ x ∈ l, S x) → (∀ a b, a < b → b ≤ i → a ≠ j → b ≠ j → lt (nth l b) (nth l a) = false) →
    (∀ b, j < b → b ≤ i → lt (nth l b) (nth l j) = false) → ∀ a b, a < b → b ≤ i → lt (nth (sink lt j l) b) (nth (sink lt j l) a) = false
  | 0, l, i, hj, hi, hS, h1, h2, a, b, hab, hb => by
    simp only [sink]
    by_cases ha : a = 0
    · subst ha; exact h2 b hab hb
    · exact h1 a b hab hb ha (by omega)
  | j + 1, l, i, hj, hi, hS, h1, h2, a, b, hab, hb => by
    simp only [sink]
    split
    · rename_i hlt
      have e : ∀ k, nth ((l.set (j + 1) (nth l j)).set j (nth l (j + 1))) k = if j = k then nth l (j + 1) else if j + 1 = k then nth l j else nth l k := by
        intro k
        rw [nth_set (by simp; omega), nth_set (by omega)]
      refine sink_sorted j _ i (by omega) (by simpa using hi) (fun x hx => hS x ((swap_perm l j (by omega)).subset hx)) ?_ ?_ a b hab hb
      · intro a b hab hb ha hb'
        rw [e, e, if_neg (Ne.symm hb'), if_neg (Ne.symm ha)]
        by_cases e1 : j + 1 = a
        · rw [if_pos e1, if_neg (by omega)]
          exact h1 j b (by omega) hb (by omega) (by omega)
        · by_cases e2 : j + 1 = b
          · rw [if_pos e2, if_neg e1]
            exact h1 a j (by omega) (by omega) (by omega) (by omega)
          · rw [if_neg e1, if_neg e2]
            exact h1 a b hab hb (Ne.symm e1) (Ne.symm e2)
      · intro b hb hbi
        rw [e, e, if_pos rfl, if_neg (by omega)]
        by_cases e2 : j + 1 = b
        · rw [if_pos e2]
          exact asy _ _ (hS _ (nth_mem (by omega))) (hS _ (nth_mem (by omega))) hlt
        · rw [if_neg e2]
          exact h2 b (by omega) hbi
    · rename_i hlt
      have hlt : lt (nth l (j + 1)) (nth l j) = false := by simpa using hlt
      by_cases e1 : a = j + 1
      · subst e1; exact h2 b hab hb
      · by_cases e2 : b = j + 1
        · subst e2
          by_cases e3 : a = j
          · subst e3; exact hlt
          · exact tr _ _ _ (hS _ (nth_mem (by omega))) (hS _ (nth_mem (by omega))) (hS _ (nth_mem (by omega))) (h1 a j (by omega) (by omega) e1 (by omega)) hlt
        · exact h1 a b hab hb e1 e2
theorem isortGo_sorted : ∀ (d i : Nat) (l : List Int), i + d = l.length → (∀ x ∈ l, S x) → (∀ a b, a < b → b < i → lt (nth l b) (nth l a) = false) → ∀ a b, a < b → b < l.length → lt (nth (isortGo lt d i l) b) (nth (isortGo lt d i l) a) = false
  | 0, i, l, h, _, h1, a, b, hab, hb => h1 a b hab (by omega)
  | d + 1, i, l, h, hS, h1, a, b, hab, hb => by
    simp only [isortGo]
    refine isortGo_sorted d (i + 1) (sink lt i l) (by rw [sink_len]; omega) (fun x hx => hS x ((sink_perm lt i l (by omega)).subset hx)) (fun a b hab hb => ?_) a b hab (by rw [sink_len]; exact hb)
    exact sink_sorted tr asy i l i (Nat.le_refl _) (by omega) hS (fun a b hab hb _ _ => h1 a b hab (by omega)) (fun b h1 h2 => by omega) a b hab (by omega)
theorem isort_sorted (l : List Int) (hS : ∀ x ∈ l, S x) : (isort lt l).Pairwise (fun a b => lt b a = false) := by
  rw [List.pairwise_iff_getElem]
  intro i j hi hj hij
  rw [← nth_get hi, ← nth_get hj]
  rw [isort_len] at hj
  cases l with
  | nil => simp at hj
  | cons a t => exact isortGo_sorted tr asy _ 1 (a :: t) (by simp; omega) hS (fun a b h1 h2 => by omega) i j hij hj
end
theorem isortI_sorted (l : List Int) : (isort ltI l).Pairwise (fun a b => a ≤ b) := by
  refine (isort_sorted (lt := ltI) (S := fun _ => True) ?_ ?_ l (fun _ _ => trivial)).imp ?_
  · intro a b c _ _ _ h1 h2
    simp [ltI] at *; omega
  · intro a b _ _ h1
    simp [ltI] at *; omega
  · intro a b h; simp [ltI] at h; exact h
theorem perm_of_sub : ∀ (a b : List Int), a.Nodup → (∀ x ∈ a, x ∈ b) → b.length ≤ a.length → a ~ b
  | [], b, _, _, hl => by
    have : b = [] := List.eq_nil_of_length_eq_zero (by simpa using hl)
    rw [this]
  | x :: t, b, hn, hs, hl => by
    obtain ⟨b1, b2, rfl⟩ := List.append_of_mem (hs x List.mem_cons_self)
    have hn' := List.nodup_cons.1 hn
    refine ((perm_of_sub t (b1 ++ b2) hn'.2 (fun y hy => ?_) (by simp at hl ⊢; omega)).cons x).trans List.perm_middle.symm
    have := hs y (List.mem_cons_of_mem _ hy)
    simp only [List.mem_append, List.mem_cons] at this ⊢
    rcases this with h | h | h
    · exact .inl h
    · subst h; exact absurd hy hn'.1
    · exact .inr h
theorem iota_nodup (n : Nat) : (iota n).Nodup := by
  unfold iota
  rw [List.Nodup, List.pairwise_map]
  exact List.nodup_range.imp fun h e => h (Int.ofNat.inj e)
theorem iota_sorted (n : Nat) : (iota n).Pairwise (fun a b => a ≤ b) := by
  unfold iota
  rw [List.pairwise_map]
  exact List.pairwise_lt_range.imp fun h => by simp; omega
theorem once_iff (rk : List Int) : (isort ltI rk == iota rk.length) = onceB rk := by
  rw [Bool.eq_iff_iff, beq_iff_eq]
  unfold onceB
  simp only [List.all_eq_true, List.any_eq_true, beq_iff_eq]
  constructor
  · intro h v hv
    have hp := (isort_perm ltI rk).symm
    rw [h] at hp
    exact ⟨v, hp.symm.subset hv, rfl⟩
  · intro h
    have hp : iota rk.length ~ rk := perm_of_sub _ _ (iota_nodup _) (fun x hx => by obtain ⟨y, hy, e⟩ := h x hx; rw [← e]; exact hy) (by rw [iota_len]; exact Nat.le_refl _)
    exact Perm.eq_of_pairwise (fun a b _ _ h1 h2 => by omega) (isortI_sorted rk) (iota_sorted _) ((isort_perm ltI rk).trans hp.symm)
theorem once_perm {rk : List Int} (h : onceB rk = true) : iota rk.length ~ rk := by
  rw [← once_iff, beq_iff_eq] at h
  rw [← h]; exact isort_perm ltI rk
theorem bad_eq (m : Nat) (x : Cl) : clBad m x = badR m x := by
  rw [Bool.eq_iff_iff]
  simp only [clBad, badR, inI, Bool.or_eq_true, Bool.and_eq_true, Bool.not_eq_true', Bool.and_eq_false_iff, decide_eq_true_eq, decide_eq_false_iff_not]
  omega
theorem chk_eq (cl : List Cl) (rk : List Int) : chk cl rk = chkR cl rk := by
  unfold chk chkR
  rw [once_iff, show clBad rk.length = badR rk.length from funext (bad_eq _)]
theorem opn_eq (cl : List Cl) (rk : List Int) (st lim : Int) : opn cl rk st lim = opnR cl rk st lim := by
  unfold opn opnR
  rw [chk_eq]
  cases h : (chkR cl rk == 0) <;> simp
end Go.AM

namespace Go.AM
open List
structure Valid (cl : List Cl) (rk : List Int) (st lim : Int) : Prop where
  v : VD cl rk
  h : ∀ k, k < cl.length → 1 ≤ (cAt cl k).hi ∧ (cAt cl k).hi ≤ 20
  o : onceB rk = true
  s : 1 ≤ st ∧ st ≤ 5
  l : 0 ≤ lim ∧ lim ≤ 500
theorem cAt_mem {cl : List Cl} {k : Nat} (h : k < cl.length) : cAt cl k ∈ cl := by rw [← cAt_eq h]; exact List.getElem_mem h
theorem valid_of {cl : List Cl} {rk : List Int} {st lim : Int} (h : opn cl rk st lim = 0) : Valid cl rk st lim := by
  have h' : opnR cl rk st lim = 0 := by rw [← opn_eq]; exact h
  unfold opnR at h'
  split at h'
  · rename_i hc; simp at hc; exact absurd h' hc
  · rename_i hc
    have hc : chkR cl rk = 0 := by simpa using hc
    split at h'
    · simp at h'
    · rename_i hs
      split at h'
      · simp at h'
      · rename_i hl
        unfold chkR at hc
        split at hc
        · simp at hc
        · rename_i h1
          split at hc
          · simp at hc
          · rename_i h2
            split at hc
            · simp at hc
            · rename_i h3
              split at hc
              · simp at hc
              · rename_i h4
                have h4' : ∀ k, k < cl.length → badR rk.length (cAt cl k) = false := fun k hk => by
                  have := mt List.any_eq_true.2 h4
                  cases hb : badR rk.length (cAt cl k) with
                  | false => rfl
                  | true => exact absurd ⟨_, cAt_mem hk, hb⟩ this
                have bd : ∀ k, k < cl.length → (0 ≤ (cAt cl k).w ∧ (cAt cl k).w < rk.length) ∧ (0 ≤ (cAt cl k).c ∧ (cAt cl k).c ≤ 200) ∧ 1 ≤ (cAt cl k).hi ∧ (cAt cl k).hi ≤ 20 := fun k hk => by
                  have := h4' k hk
                  simp only [badR, inI, Bool.or_eq_false_iff, Bool.not_eq_false', Bool.and_eq_true, decide_eq_true_eq, decide_eq_false_iff_not] at this
                  omega
                simp only [inI, Bool.not_eq_true', Bool.not_eq_false, Bool.and_eq_true, decide_eq_true_eq] at h1 h2 h3 hs hl
                have ho : onceB rk = true := by simpa using h2
                refine ⟨⟨by omega, by omega, by omega, fun k hk => (bd k hk).1, fun k hk => (bd k hk).2.1, fun j hj => ?_⟩, fun k hk => (bd k hk).2.2, ho, by omega, by omega⟩
                obtain ⟨i, hi, e⟩ := iota_mem ((once_perm ho).symm.subset (nth_mem hj))
                omega
/-- the order, as a lexicographic one -/
def LX (cl : List Cl) (rk : List Int) (a b : Nat) : Prop :=
  (cAt cl a).c < (cAt cl b).c ∨ ((cAt cl a).c = (cAt cl b).c ∧ (earl cl a < earl cl b ∨ (earl cl a = earl cl b ∧ (rkAt cl rk a < rkAt cl rk b ∨ (rkAt cl rk a = rkAt cl rk b ∧ a < b)))))
theorem cmp_lx (cl : List Cl) (rk : List Int) (a b : Nat) : cmpC cl rk a b < 0 ↔ LX cl rk a b := by
  unfold LX cmpC
  simp only [orI]
  split
  · split
    · split
      · split <;> omega
      · omega
    · omega
  · omega
theorem LX.tr {cl : List Cl} {rk : List Int} {a b c : Nat} (h1 : ¬ LX cl rk b a) (h2 : ¬ LX cl rk c b) : ¬ LX cl rk c a := by
  unfold LX at *; omega
theorem LX.asy {cl : List Cl} {rk : List Int} {a b : Nat} (h1 : LX cl rk a b) : ¬ LX cl rk b a := by
  unfold LX at *; omega
theorem LX.tot {cl : List Cl} {rk : List Int} {a b : Nat} (h1 : ¬ LX cl rk a b) (h : a ≠ b) : LX cl rk b a := by
  unfold LX at *; omega
theorem earl_lt {cl : List Cl} {a b : Nat} (hab : a < b) (hb : b < cl.length) (hw : (cAt cl a).w = (cAt cl b).w) (hc : (cAt cl a).c = (cAt cl b).c) : earl cl a < earl cl b := by
  unfold earl
  have e : alike (cAt cl a) = alike (cAt cl b) := by funext y; simp only [alike, hw, hc]
  rw [e]
  have h1 : cl.take (a + 1) = cl.take a ++ [cAt cl a] := by rw [List.take_add_one, List.getElem?_eq_getElem (by omega), cAt_eq (by omega)]; rfl
  have h2 : (cl.take (a + 1)).countP (alike (cAt cl b)) ≤ (cl.take b).countP (alike (cAt cl b)) := (List.take_sublist_take_left (by omega)).countP_le
  rw [h1, List.countP_append] at h2
  have h3 : [cAt cl a].countP (alike (cAt cl b)) = 1 := by simp [alike, hw, hc]
  omega
theorem nodup_nth {l : List Int} (h : l.Nodup) {i j : Nat} (hi : i < l.length) (hj : j < l.length) (e : nth l i = nth l j) : i = j := by
  rw [nth_get hi, nth_get hj] at e
  have hp := List.pairwise_iff_getElem.1 h
  rcases Nat.lt_trichotomy i j with h' | h' | h'
  · exact absurd e (hp i j hi hj h')
  · exact h'
  · exact absurd e.symm (hp j i hj hi h')
theorem bef_lx {cl : List Cl} {rk : List Int} (hv : VD cl rk) (ho : onceB rk = true) {a b : Nat} (ha : a < cl.length) (hb : b < cl.length) (hab : a ≠ b) : befR cl rk a b = true ↔ LX cl rk a b := by
  have hnd : rk.Nodup := (once_perm ho).nodup_iff.1 (iota_nodup _)
  have key : (cAt cl a).c = (cAt cl b).c → earl cl a = earl cl b → rkAt cl rk a ≠ rkAt cl rk b := by
    intro hc he hr
    have wa := hv.w a ha
    have wb := hv.w b hb
    have := nodup_nth hnd (i := (cAt cl a).w.toNat) (j := (cAt cl b).w.toNat) (by omega) (by omega) hr
    have hw : (cAt cl a).w = (cAt cl b).w := by omega
    rcases Nat.lt_or_gt_of_ne hab with h | h
    · have := earl_lt h hb hw hc; omega
    · have := earl_lt h ha hw.symm hc.symm; omega
  unfold befR LX
  split
  · rename_i h; simp at h ⊢; omega
  · rename_i h
    have h : (cAt cl a).c = (cAt cl b).c := by simpa using h
    have key := key h
    split
    · rename_i h2; simp at h2 ⊢; omega
    · rename_i h2
      have h2 : (earl cl a : Int) = (earl cl b : Int) := by simpa using h2
      have key := key (by omega)
      simp; omega
def SI (n : Nat) (x : Int) : Prop := ∃ k, k < n ∧ x = ((k : Nat) : Int)
theorem ord_sorted (cl : List Cl) (rk : List Int) : (ord cl rk).Pairwise (fun a b => ¬ LX cl rk b.toNat a.toNat) := by
  refine (isort_sorted (lt := fun x y => decide (cmpI cl rk x y < 0)) (S := fun _ => True) ?_ ?_ (iota cl.length) (fun _ _ => trivial)).imp ?_
  · intro a b c _ _ _ h1 h2
    exact decide_eq_false (mt (cmp_lx _ _ _ _).1 (LX.tr (mt (cmp_lx _ _ _ _).2 (of_decide_eq_false h1)) (mt (cmp_lx _ _ _ _).2 (of_decide_eq_false h2))))
  · intro a b _ _ h
    exact decide_eq_false (mt (cmp_lx _ _ _ _).1 (LX.asy ((cmp_lx _ _ _ _).1 (of_decide_eq_true h))))
  · intro a b h
    exact mt (cmp_lx _ _ _ _).2 (of_decide_eq_false h)
theorem ord_perm (cl : List Cl) (rk : List Int) : ord cl rk ~ iota cl.length := isort_perm _ _
/-- the order, as a list of numbers -/
def ordN (cl : List Cl) (rk : List Int) : List Nat := (ord cl rk).map Int.toNat
theorem ordN_perm (cl : List Cl) (rk : List Int) : ordN cl rk ~ List.range cl.length := by
  have := (ord_perm cl rk).map Int.toNat
  have e : (iota cl.length).map Int.toNat = List.range cl.length := by
    unfold iota; rw [List.map_map]; exact (List.map_congr_left fun x _ => rfl).trans (List.map_id _)
  rwa [e] at this
theorem ordN_len (cl : List Cl) (rk : List Int) : (ordN cl rk).length = cl.length := by rw [(ordN_perm cl rk).length_eq, List.length_range]
theorem ordN_sorted (cl : List Cl) (rk : List Int) : (ordN cl rk).Pairwise (fun a b => LX cl rk a b) := by
  have h1 : (ordN cl rk).Pairwise (fun a b => ¬ LX cl rk b a) := by unfold ordN; rw [List.pairwise_map]; exact ord_sorted cl rk
  have h2 : (ordN cl rk).Nodup := (ordN_perm cl rk).nodup_iff.2 List.nodup_range
  exact (h1.and h2).imp fun h => LX.tot h.1 (Ne.symm h.2)
theorem posR_at {cl : List Cl} {rk : List Int} (hv : VD cl rk) (ho : onceB rk = true) {k : Nat} (hk : k < (ordN cl rk).length) : posR cl rk ((ordN cl rk)[k]) = k := by
  have hlt : ∀ x ∈ ordN cl rk, x < cl.length := fun x hx => by simpa using (ordN_perm cl rk).subset hx
  have hp := List.pairwise_iff_getElem.1 (ordN_sorted cl rk)
  unfold posR
  rw [← (ordN_perm cl rk).countP_eq]
  generalize ha : (ordN cl rk)[k] = a
  have hal : a < cl.length := by rw [← ha]; exact hlt _ (List.getElem_mem hk)
  have e : ordN cl rk = (ordN cl rk).take k ++ (ordN cl rk).drop k := (List.take_append_drop k _).symm
  rw [e, List.countP_append]
  have h1 : ((ordN cl rk).take k).countP (before1 cl rk a) = ((ordN cl rk).take k).length := by
    rw [List.countP_eq_length]
    intro x hx
    obtain ⟨i, hi, e⟩ := List.mem_iff_getElem.1 hx
    rw [List.length_take] at hi
    rw [List.getElem_take] at e
    have hi' : i < (ordN cl rk).length := by omega
    have := hp i k hi' hk (by omega)
    rw [e, ha] at this
    have hne : x ≠ a := fun h => by rw [h] at this; exact LX.asy this this
    have hx' : x < cl.length := by rw [← e]; exact hlt _ (List.getElem_mem hi')
    simp only [before1, Bool.and_eq_true, Bool.not_eq_true', beq_eq_false_iff_ne, ne_eq]
    exact ⟨by omega, (bef_lx hv ho hx' hal hne).2 this⟩
  have h2 : ((ordN cl rk).drop k).countP (before1 cl rk a) = 0 := by
    rw [List.countP_eq_zero]
    intro x hx hb
    obtain ⟨i, hi, e⟩ := List.mem_iff_getElem.1 hx
    rw [List.length_drop] at hi
    rw [List.getElem_drop] at e
    simp only [before1, Bool.and_eq_true, Bool.not_eq_true', beq_eq_false_iff_ne, ne_eq] at hb
    have hne : x ≠ a := fun h => hb.1 (by rw [h])
    have hi' : k + i < (ordN cl rk).length := by omega
    have hx' : x < cl.length := by rw [← e]; exact hlt _ (List.getElem_mem hi')
    have hb2 := (bef_lx hv ho hx' hal hne).1 hb.2
    have hi0 : i ≠ 0 := fun h => hne (by subst h; rw [← e, ← ha]; rfl)
    have := hp k (k + i) hk hi' (by omega)
    rw [e, ha] at this
    exact LX.asy this hb2
  rw [h1, h2, List.length_take]; omega
theorem ordGo_other {cl : List Cl} {rk : List Int} {p : Nat} : ∀ (l : List Nat) (out : List Int), (∀ x ∈ l, posR cl rk x ≠ p) → nth (ordGo cl rk l out) p = nth out p
  | [], _, _ => rfl
  | a :: r, out, h => by
    rw [ordGo, ordGo_other r _ (fun x hx => h x (List.mem_cons_of_mem _ hx))]
    have := h a List.mem_cons_self
    simp only [nth, List.getD_eq_getElem?_getD, List.getElem?_set, if_neg this]
theorem ordGo_at {cl : List Cl} {rk : List Int} {a : Nat} : ∀ (l : List Nat) (out : List Int), a ∈ l → l.Nodup → (∀ x ∈ l, posR cl rk x = posR cl rk a → x = a) → posR cl rk a < out.length → nth (ordGo cl rk l out) (posR cl rk a) = a
  | [], _, h, _, _, _ => by cases h
  | x :: r, out, h, hn, hi, hl => by
    have hn' := List.nodup_cons.1 hn
    rw [ordGo]
    by_cases hx : x = a
    · subst hx
      rw [ordGo_other r _ (fun y hy e => by have := hi y (List.mem_cons_of_mem _ hy) e; subst this; exact hn'.1 hy)]
      rw [nth_set hl, if_pos rfl]
    · have har : a ∈ r := by rcases List.mem_cons.1 h with h | h; exact absurd h.symm hx; exact h
      exact ordGo_at r _ har hn'.2 (fun y hy => hi y (List.mem_cons_of_mem _ hy)) (by simpa using hl)
theorem ord_eq {cl : List Cl} {rk : List Int} (hv : VD cl rk) (ho : onceB rk = true) : ord cl rk = ordR cl rk := by
  have hl : (ord cl rk).length = cl.length := by rw [(ord_perm cl rk).length_eq, iota_len]
  have hN := ordN_len cl rk
  refine List.ext_getElem (by rw [hl, ordR_len]) fun k h1 h2 => ?_
  have hk : k < (ordN cl rk).length := by rw [hN, ← hl]; exact h1
  have hp := posR_at hv ho hk
  have hmem : ∀ x, x < cl.length → ∃ i, ∃ h : i < (ordN cl rk).length, (ordN cl rk)[i] = x := fun x hx => List.mem_iff_getElem.1 ((ordN_perm cl rk).symm.subset (by simpa using hx))
  have hr := ordGo_at (cl := cl) (rk := rk) (a := (ordN cl rk)[k]) (List.range cl.length) (List.replicate cl.length 0) ((ordN_perm cl rk).subset (List.getElem_mem hk)) List.nodup_range (by
    intro x hx e
    obtain ⟨i, hi, rfl⟩ := hmem x (by simpa using hx)
    rw [posR_at hv ho hi, hp] at e
    subst e; rfl) (by rw [hp]; simp; omega)
  rw [hp] at hr
  rw [← nth_get h2]
  show _ = nth (ordGo cl rk (List.range cl.length) (List.replicate cl.length 0)) k
  rw [hr]
  obtain ⟨j, _, e⟩ := iota_mem ((ord_perm cl rk).subset (List.getElem_mem h1))
  have : (ordN cl rk)[k] = (ord cl rk)[k].toNat := by simp only [ordN, List.getElem_map]
  rw [this]; omega
end Go.AM

namespace Go.AM
open List
theorem minGo_le (l : List Int) : ∀ d s f, f < l.length → (∀ i, i < s → nth l f ≤ nth l i) → ∀ i, i < s + d → nth l (minGo l d s f) ≤ nth l i
  | 0, s, f, _, h, i, hi => h i (by omega)
  | d + 1, s, f, hf, h, i, hi => by
    simp only [minGo]
    by_cases hc : nth l s < nth l f
    · rw [if_pos hc]
      by_cases hs : s < l.length
      · refine minGo_le l d (s + 1) s hs (fun j hj => ?_) i (by omega)
        by_cases e : j = s
        · subst e; omega
        · have := h j (by omega); omega
      · refine minGo_le2 l d (s + 1) s (fun j hj => ?_) i (by omega)
        by_cases e : j = s
        · subst e; omega
        · have := h j (by omega); omega
    · rw [if_neg hc]
      refine minGo_le l d (s + 1) f hf (fun j hj => ?_) i (by omega)
      by_cases e : j = s
      · subst e; omega
      · exact h j (by omega)
 where
  minGo_le2 (l : List Int) : ∀ d s f, (∀ i, i < s → nth l f ≤ nth l i) → ∀ i, i < s + d → nth l (minGo l d s f) ≤ nth l i
  | 0, s, f, h, i, hi => h i (by omega)
  | d + 1, s, f, h, i, hi => by
    simp only [minGo]
    by_cases hc : nth l s < nth l f
    · rw [if_pos hc]
      refine minGo_le2 l d (s + 1) s (fun j hj => ?_) i (by omega)
      by_cases e : j = s
      · subst e; omega
      · have := h j (by omega); omega
    · rw [if_neg hc]
      refine minGo_le2 l d (s + 1) f (fun j hj => ?_) i (by omega)
      by_cases e : j = s
      · subst e; omega
      · exact h j (by omega)
theorem head_le {F : List Int} (hs : F.Pairwise (fun a b => a ≤ b)) {x : Int} (hx : x ∈ F) : nth F 0 ≤ x := by
  cases F with
  | nil => cases hx
  | cons a t =>
    show a ≤ x
    rcases List.mem_cons.1 hx with h | h
    · omega
    · exact (List.pairwise_cons.1 hs).1 x h
theorem min_eq {F G : List Int} (hp : F ~ G) (hs : F.Pairwise (fun a b => a ≤ b)) {st : Nat} (hst : 0 < st) (hl : G.length = st) : nth F 0 = nth G (minGo G st 0 0) := by
  have hlt : minGo G st 0 0 < G.length := minGo_lt G st 0 0 (by omega) (by omega)
  have h1 : nth F 0 ≤ nth G (minGo G st 0 0) := head_le hs (hp.symm.subset (nth_mem hlt))
  have hF : 0 < F.length := by rw [hp.length_eq]; omega
  obtain ⟨i, hi, e⟩ := List.mem_iff_getElem.1 (hp.subset (nth_mem hF))
  have h2 := minGo_le G st 0 0 (by omega) (fun i hi => by omega) i (by omega)
  rw [nth_get hi, e] at h2
  omega
theorem his_at (cl : List Cl) (k : Nat) : nth (his cl) k = (cAt cl k).hi := by
  simp only [nth, his, cAt, List.getD_eq_getElem?_getD, List.getElem?_map]
  cases cl[k]? <;> rfl
theorem trn_tkn (cl : List Cl) (st : Nat) (hst : 0 < st) : ∀ (l : List Int) (F G : List Int), F ~ G → F.Pairwise (fun a b => a ≤ b) → G.length = st →
    (trn (fun x => x.hi) cl l F).map (fun q => (q.1, q.2.1)) = l.zip (tkn (his cl) cl st l G)
  | [], _, _, _, _, _ => rfl
  | k :: r, F, G, hp, hs, hl => by
    have hm := min_eq hp hs hst hl
    have hlt : minGo G st 0 0 < G.length := minGo_lt G st 0 0 (by omega) (by omega)
    have hF : 0 < F.length := by rw [hp.length_eq]; omega
    simp only [trn, tkn, List.map_cons, List.zip_cons_cons, his_at]
    rw [Int.max_comm (cAt cl k.toNat).c, hm]
    congr 1
    refine trn_tkn cl st hst r _ _ ?_ (isortI_sorted _) (by simpa using hl)
    refine (isort_perm _ _).trans ?_
    refine (set_perm F 0 _ hF).trans (Perm.trans ?_ (set_perm G _ _ hlt).symm)
    refine Perm.cons _ ?_
    have h1 := (get_perm hF).symm.trans (hp.trans (get_perm hlt))
    rw [hm] at h1
    exact (List.perm_cons _).1 h1
theorem wst_any (cl : List Cl) (lim : Int) : ∀ (l tk : List Int) (q : Int × Int), l.length = tk.length →
    decide ((wst cl l tk q).2 > lim) = (decide (q.2 > lim) || (l.zip tk).any fun p => decide (p.2 - (cAt cl p.1.toNat).c > lim))
  | [], [], q, _ => by simp [wst]
  | k :: r, t :: ts, q, h => by
    rw [wst, wst_any cl lim r ts _ (by simpa using h), List.zip_cons_cons, List.any_cons]
    by_cases hc : t - (cAt cl k.toNat).c > q.2
    · rw [if_pos hc]
      rw [Bool.eq_iff_iff]
      simp only [Bool.or_eq_true, decide_eq_true_eq]
      constructor
      · rintro (h1 | h1)
        · exact .inr (.inl h1)
        · exact .inr (.inr h1)
      · rintro (h1 | h1 | h1)
        · exact .inl (by omega)
        · exact .inl h1
        · exact .inr h1
    · rw [if_neg hc]
      rw [Bool.eq_iff_iff]
      simp only [Bool.or_eq_true, decide_eq_true_eq]
      constructor
      · rintro (h1 | h1)
        · exact .inl h1
        · exact .inr (.inr h1)
      · rintro (h1 | h1 | h1)
        · exact .inl h1
        · exact .inl (by omega)
        · exact .inr h1
  | [], _ :: _, _, h => by simp at h
  | _ :: _, [], _, h => by simp at h
theorem rep_sorted (n : Nat) : (List.replicate n (0 : Int)).Pairwise (fun a b => a ≤ b) := by
  rw [List.pairwise_replicate]; omega
theorem late_eq (cl : List Cl) (l : List Int) (st : Nat) (hst : 0 < st) (lim : Int) (hlim : 0 ≤ lim) : lateB cl l st lim = lateR cl l st lim := by
  have h := trn_tkn cl st hst l (List.replicate st 0) (List.replicate st 0) (Perm.refl _) (rep_sorted st) (by simp)
  unfold lateB lateR
  rw [wst_any cl lim l _ _ (by rw [tkn_len]), ← h, List.any_map]
  have : decide (((-1, -1) : Int × Int).2 > lim) = false := by simp; omega
  rw [this, Bool.false_or]
  rfl
/-! later with longer hours -/
/-- how many are free by then -/
def cle (l : List Int) (v : Int) : Nat := l.countP fun x => decide (x ≤ v)
theorem cle_perm {a b : List Int} (h : a ~ b) (v : Int) : cle a v = cle b v := h.countP_eq _
theorem cle_cons (a : Int) (t : List Int) (v : Int) : cle (a :: t) v = cle t v + if a ≤ v then 1 else 0 := by simp [cle, List.countP_cons]
theorem cle_pos {l : List Int} {v x : Int} (h : x ∈ l) (hx : x ≤ v) : 0 < cle l v := by
  unfold cle; rw [List.countP_pos_iff]; exact ⟨x, h, by simpa using hx⟩
theorem cle_ex {l : List Int} {v : Int} (h : 0 < cle l v) : ∃ x ∈ l, x ≤ v := by
  unfold cle at h; rw [List.countP_pos_iff] at h; obtain ⟨x, h1, h2⟩ := h; exact ⟨x, h1, by simpa using h2⟩
theorem trn_mono {cl cl' : List Cl} (hc : ∀ k, (cAt cl' k).c = (cAt cl k).c) (hh : ∀ k, (cAt cl k).hi ≤ (cAt cl' k).hi) : ∀ (l : List Int) (F F' : List Int), F.Pairwise (fun a b => a ≤ b) → F'.Pairwise (fun a b => a ≤ b) →
    0 < F.length → 0 < F'.length → (∀ v, cle F' v ≤ cle F v) → ∀ lim, (trn (fun x => x.hi) cl l F).any (fun q => decide (waitOf cl q > lim)) = true → (trn (fun x => x.hi) cl' l F').any (fun q => decide (waitOf cl' q > lim)) = true
  | [], _, _, _, _, _, _, _, _, h => by simp [trn] at h
  | k :: r, F, F', hs, hs', hl, hl', hle, lim, h => by
    have hm : nth F 0 ≤ nth F' 0 := by
      obtain ⟨x, hx, hx2⟩ := cle_ex (Nat.lt_of_lt_of_le (cle_pos (nth_mem hl') (Int.le_refl _)) (hle (nth F' 0)))
      have := head_le hs hx
      omega
    have hck := hc k.toNat
    have hhk := hh k.toNat
    simp only [trn, List.any_cons, Bool.or_eq_true] at h ⊢
    rcases h with h | h
    · have h : max (cAt cl k.toNat).c (nth F 0) - (cAt cl k.toNat).c > lim := of_decide_eq_true h
      exact .inl (decide_eq_true (show max (cAt cl' k.toNat).c (nth F' 0) - (cAt cl' k.toNat).c > lim by omega))
    · refine .inr ?_
      refine trn_mono hc hh r _ _ (isortI_sorted _) (isortI_sorted _) (by rw [isort_len]; simpa using hl) (by rw [isort_len]; simpa using hl') (fun v => ?_) lim h
      rw [cle_perm (isort_perm _ _), cle_perm (isort_perm _ _), cle_perm (set_perm F 0 _ hl), cle_perm (set_perm F' 0 _ hl'), cle_cons, cle_cons]
      have e1 := cle_perm (get_perm hl) v
      have e2 := cle_perm (get_perm hl') v
      rw [cle_cons] at e1 e2
      have hv := hle v
      rw [hck]
      by_cases g : nth F' 0 ≤ v
      · rw [if_pos g] at e2
        rw [if_pos (by omega)] at e1
        split <;> split <;> omega
      · rw [if_neg g] at e2
        have z : cle F' v = 0 := by
          refine Nat.eq_zero_of_not_pos fun hp => ?_
          obtain ⟨x, hx, hx2⟩ := cle_ex hp
          have := head_le hs' hx
          omega
        split <;> split <;> omega
end Go.AM

namespace Go.AM
open List
structure First (p : Nat → Bool) (N r : Nat) : Prop where
  le : r ≤ N
  no : ∀ k, k < r → p k = false
  yes : r = N ∨ p r = true
theorem First.uniq {p : Nat → Bool} {N r s : Nat} (h : First p N r) (h' : First p N s) : r = s := by
  rcases Nat.lt_trichotomy r s with g | g | g
  · rcases h.yes with e | e
    · have := h'.le; omega
    · rw [h'.no r g] at e; cases e
  · exact g
  · rcases h'.yes with e | e
    · have := h.le; omega
    · rw [h.no s g] at e; cases e
theorem slk_first (p : Nat → Bool) (N : Nat) : ∀ d n, n + d = N → (∀ k, k < n → p k = false) → First p N (slk p d n)
  | 0, n, h, hk => ⟨by simp only [slk]; omega, hk, .inl (by simp only [slk]; omega)⟩
  | d + 1, n, h, hk => by
    simp only [slk]
    by_cases hp : p n = true
    · rw [if_pos hp]
      exact ⟨by omega, hk, .inr hp⟩
    · rw [if_neg hp]
      refine slk_first p N d (n + 1) (by omega) fun k h' => ?_
      by_cases e : k = n
      · subst e; simpa using hp
      · exact hk k (by omega)
theorem bs_first (p : Nat → Bool) (N : Nat) (mono : ∀ i, i + 1 < N → p i = true → p (i + 1) = true) : ∀ f i j, j - i ≤ f → i ≤ j → j ≤ N → (∀ k, k < i → p k = false) → (j = N ∨ p j = true) → First p N (bs p f i j)
  | 0, i, j, hf, hij, hj, hk, hp => by
    have e : i = j := by omega
    subst e
    exact ⟨hj, hk, hp⟩
  | f + 1, i, j, hf, hij, hj, hk, hp => by
    simp only [bs]
    by_cases h : i < j
    · rw [if_pos h]
      by_cases hm : p ((i + j) / 2) = true
      · rw [if_pos hm]
        exact bs_first p N mono f i _ (by omega) (by omega) (by omega) hk (.inr hm)
      · rw [if_neg hm]
        have up : ∀ d k, k + d < N → p k = true → p (k + d) = true := by
          intro d
          induction d with
          | zero => intro k _ h; exact h
          | succ d ih => intro k hkd h; exact mono (k + d) (by omega) (ih k (by omega) h)
        refine bs_first p N mono f _ j (by omega) (by omega) hj (fun k hk' => ?_) hp
        cases hpk : p k with
        | false => rfl
        | true =>
          have := up ((i + j) / 2 - k) k (by omega) hpk
          rw [show k + ((i + j) / 2 - k) = (i + j) / 2 by omega] at this
          exact absurd this hm
    · rw [if_neg h]
      have e : i = j := by omega
      subst e
      exact ⟨hj, hk, hp⟩
section
variable {cl : List Cl} {rk : List Int} {j : Nat} (hj : j < cl.length) (b : Int)
 include hj
theorem lw (k : Nat) : (cAt (longer cl j b) k).w = (cAt cl k).w := by
  rw [longer, cAt_set hj]; split
  · subst_vars; rfl
  · rfl
theorem lc (k : Nat) : (cAt (longer cl j b) k).c = (cAt cl k).c := by
  rw [longer, cAt_set hj]; split
  · subst_vars; rfl
  · rfl
theorem lmap : (longer cl j b).map (fun x => (x.w, x.c)) = cl.map (fun x => (x.w, x.c)) := by
  refine List.ext_getElem (by simp [longer_len]) fun k h1 h2 => ?_
  rw [List.getElem_map, List.getElem_map, cAt_eq, cAt_eq, lw hj, lc hj]
theorem learl (k : Nat) : earl (longer cl j b) k = earl cl k := by
  unfold earl
  have e : ∀ l : List Cl, l.countP (alike (cAt cl k)) = (l.map (fun x => (x.w, x.c))).countP (fun y => y.1 == (cAt cl k).w && y.2 == (cAt cl k).c) := by
    intro l; rw [List.countP_map]; rfl
  have e1 : alike (cAt (longer cl j b) k) = alike (cAt cl k) := by funext y; simp only [alike, lw hj, lc hj]
  rw [e1, e, e, List.map_take, List.map_take, lmap hj]
theorem lord : ord (longer cl j b) rk = ord cl rk := by
  unfold ord
  rw [longer_len]
  have : (fun x y => decide (cmpI (longer cl j b) rk x y < 0)) = (fun x y => decide (cmpI cl rk x y < 0)) := by
    have hc : ∀ x y, cmpI (longer cl j b) rk x y = cmpI cl rk x y := by
      intro x y
      simp only [cmpI, cmpC, rkAt, learl hj, lc hj, lw hj]
    funext x y
    exact decide_eq_decide.2 (by rw [hc])
  rw [this]
end
theorem pureS {cl : List Cl} {rk : List Int} {st lim : Int} : PureS cl rk st lim := by
  refine ⟨opn_eq .., fun h => ?_, fun s hs h => ?_, fun s hs h j hj _ => ?_⟩
  · have hv := valid_of h
    have h1 := hv.h
    have h2 := hv.s
    refine ⟨hv.v, ⟨fun k hk => (hv.v.c k hk).symm, fun k hk => by have := h1 k hk; omega⟩, fun k hk => (h1 k hk).2, st.toNat, by omega, by omega, by omega⟩
  · have hv := valid_of h
    have h2 := hv.s
    rw [ord_eq hv.v hv.o]
    exact late_eq _ _ _ (by omega) _ hv.l.1
  · have hv := valid_of h
    have h2 := hv.s
    have e : (fun n : Nat => lateR (longer cl j ((n + 1 : Nat) : Int)) (ordR (longer cl j ((n + 1 : Nat) : Int)) rk) s lim) = (fun n : Nat => lateB (longer cl j ((n + 1 : Nat) : Int)) (ord cl rk) s lim) := by
      funext n
      rw [← ord_eq (longer_vd hj hv.v) hv.o, lord hj, late_eq _ _ _ (by omega) _ hv.l.1]
    unfold slackR slackQ
    rw [e]
    refine First.uniq (bs_first _ 500 (fun i _ hp => ?_) 500 0 500 (by omega) (by omega) (by omega) (fun k hk => by omega) (.inl rfl)) (slk_first _ 500 500 0 rfl (fun k hk => by omega))
    unfold lateB at hp ⊢
    refine trn_mono (fun k => ?_) (fun k => ?_) _ _ _ (rep_sorted s) (rep_sorted s) (by simp; omega) (by simp; omega) (fun v => Nat.le_refl _) lim hp
    · rw [lc hj, lc hj]
    · simp only [longer, cAt_set hj]
      split <;> simp <;> omega
end Go.AM
