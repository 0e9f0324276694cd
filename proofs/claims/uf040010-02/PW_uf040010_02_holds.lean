import PyProof.Rows.All
import OpenK.KMake
import OpenK.KWalk
import OpenK.KMore
import OpenK.KOwn
import KE.KDictSum
import KE.KDictList
import KE.KItem
import KE.KEqDict
import KE.KSortTup
import PySem.Challenge.RW_uf040010_02
set_option Elab.async false
set_option linter.unusedVariables false
set_option linter.unusedSimpArgs false
set_option linter.unusedSectionVars false
set_option maxRecDepth 100000

section
open PySem PyProof.Rows
namespace Mine.Ts
/-! ## the whole sort: galloping -/
noncomputable def gallop' : Bool → Keyed → Array Keyed → Nat → Nat → Nat → StateT SortSt Sem (Option Nat) := sortPriv% PySem.Builtin.gallop
section
variable {prog : Program} {w : World} {A : Around} {E : Value → Shared → Prop} {s : Shared}
/-- a question that leaves all as it is -/
noncomputable def Says (prog : Program) (w : World) (A : Around) (E : Value → Shared → Prop) (s : Shared) (m : StateT SortSt Sem (Option Bool)) (st : SortSt) (b : Bool) : Prop :=
  ∀ Q : Option Bool → SortSt → Prop, Q (some b) st → wpS (model prog w) A E s m Q st
/-- up to a place true, from there on false -/
structure Cut (b : Nat → Bool) (n k : Nat) : Prop where
  le : k ≤ n
  yes : ∀ i < k, b i = true
  no : ∀ i, k ≤ i → i < n → b i = false
noncomputable abbrev BinSt := Option (Option Nat) × Nat × Nat
theorem bin_go {n : Nat} {b : Nat → Bool} {st : SortSt} {f : Nat → BinSt → StateT SortSt Sem (ForInStep BinSt)} {R : BinSt → SortSt → Prop}
    (h0 : ∀ x lo hi, lo ≥ hi → ∀ Q : ForInStep BinSt → SortSt → Prop, Q (.done (none, lo, hi)) st → wpS (model prog w) A E s (f x (none, lo, hi)) Q st)
    (h1 : ∀ x lo hi, lo < hi → hi ≤ n → ∀ Q : ForInStep BinSt → SortSt → Prop, Q (.yield (if b (lo + (hi - lo) / 2) = true then (none, lo + (hi - lo) / 2 + 1, hi) else (none, lo, lo + (hi - lo) / 2))) st → wpS (model prog w) A E s (f x (none, lo, hi)) Q st)
    (hm : ∀ i j, i ≤ j → j < n → b j = true → b i = true) {lo hi : Nat} (hl : lo ≤ hi) (hi2 : hi ≤ n) (y : ∀ i < lo, b i = true) (z : ∀ i, hi ≤ i → i < n → b i = false) (hR : ∀ k, Cut b n k → R (none, k, k) st) : wpS (model prog w) A E s (forIn [:n] (none, lo, hi) f) R st := by
  have hn : ∀ i j, i ≤ j → j < n → b i = false → b j = false := fun i j hij hj e => by
    cases ej : b j with
    | false => rfl
    | true => rw [hm i j hij hj ej] at e; cases e
  refine wpS_mono (wpS_forRange (I := fun x c st' => st' = st ∧ ∃ lo hi, c = (none, lo, hi) ∧ lo ≤ hi ∧ hi ≤ n ∧ hi - lo ≤ n - x ∧ (∀ i < lo, b i = true) ∧ ∀ i, hi ≤ i → i < n → b i = false) (Q := fun c st' => st' = st ∧ ∃ k, c = (none, k, k) ∧ Cut b n k) ?_ ?_ ⟨rfl, lo, hi, rfl, hl, hi2, by omega, y, z⟩) ?_
  · rintro x c st' _ hx ⟨rfl, lo, hi, rfl, a1, a2, a3, a4, a5⟩
    rcases Nat.lt_or_ge lo hi with q | q
    · refine h1 x lo hi q a2 _ ?_
      have hmid : lo + (hi - lo) / 2 < hi := by omega
      cases e : b (lo + (hi - lo) / 2) with
      | true => exact ⟨rfl, _, hi, rfl, by omega, a2, by omega, fun i hi' => hm i _ (by omega) (by omega) e, a5⟩
      | false => exact ⟨rfl, lo, _, rfl, by omega, by omega, by omega, a4, fun i h1 h2 => hn _ i h1 h2 e⟩
    · obtain rfl : lo = hi := by omega
      exact h0 x lo lo q _ ⟨rfl, lo, rfl, a2, a4, a5⟩
  · rintro c st' ⟨rfl, lo, hi, rfl, a1, a2, a3, a4, a5⟩
    obtain rfl : lo = hi := by omega
    exact ⟨rfl, lo, rfl, a2, a4, a5⟩
  · rintro c st' ⟨rfl, k, rfl, hk⟩
    exact hR k hk
theorem gallop_go {left : Bool} {key : Keyed} {arr : Array Keyed} {base n hint : Nat} {st : SortSt} {b : Nat → Bool} (hh : hint < n) (hm : ∀ i j, i ≤ j → j < n → b j = true → b i = true)
    (hb : ∀ i < n, Says prog w A E s (do let x ← elem' arr (base + i); if left = true then lt' x key else do let r ← lt' key x; pure (Option.map (fun x => !x) r)) st (b i))
    {Q : Option Nat → SortSt → Prop} (h : ∀ k, Cut b n k → Q (some k) st) : wpS (model prog w) A E s (gallop' left key arr base n hint) Q st := by
  have hn : ∀ i j, i ≤ j → j < n → b i = false → b j = false := fun i j hij hj e => by
    cases ej : b j with
    | false => rfl
    | true => rw [hm i j hij hj ej] at e; cases e
  refine wpS_bind (hb hint hh _ ?_)
  cases e0 : b hint with
  | true =>
    dsimp only
    rw [if_pos rfl]
    refine wpS_bind (wpS_mono (wpS_forRange (I := fun x c st' => st' = st ∧ ∃ l o, c = (none, l, o) ∧ l < o ∧ x + 1 ≤ o ∧ hint + l < n ∧ b (hint + l) = true)
      (Q := fun c st' => st' = st ∧ ∃ l o, c = (none, l, o) ∧ l < o ∧ hint + l < n ∧ b (hint + l) = true ∧ (n - hint ≤ o ∨ (hint + o < n ∧ b (hint + o) = false))) ?_ ?_ ?_) ?_)
    · rintro x c st' _ hx ⟨rfl, l, o, rfl, h1, h2, h3, h4⟩
      dsimp only
      by_cases ho : o ≥ n - hint
      · rw [if_pos ho]
        exact wpS_pure ⟨rfl, l, o, rfl, h1, h3, h4, .inl ho⟩
      · rw [if_neg ho]
        have ho2 : hint + o < n := by omega
        refine wpS_bind (hb (hint + o) ho2 _ ?_)
        dsimp only
        cases e : b (hint + o) with
        | false => exact wpS_pure ⟨rfl, l, o, rfl, h1, h3, h4, .inr ⟨ho2, e⟩⟩
        | true => exact wpS_pure ⟨rfl, o, 2 * o + 1, rfl, by omega, by omega, ho2, e⟩
    · rintro c st' ⟨rfl, l, o, rfl, h1, h2, h3, h4⟩
      exact ⟨rfl, l, o, rfl, h1, h3, h4, .inl (by omega)⟩
    · exact ⟨rfl, 0, 1, rfl, by omega, by omega, hh, e0⟩
    · rintro c st' ⟨rfl, l, o, rfl, h1, h3, h4, h5⟩
      dsimp only
      refine wpS_bind (bin_go (b := b) (fun x lo hi q Q hq => ?_) (fun x lo hi q q2 Q hq => ?_) hm ?_ ?_ ?_ ?_ fun k hk => wpS_pure (h k hk))
      · dsimp only
        rw [if_pos q]
        exact wpS_pure hq
      · dsimp only
        rw [if_neg (by omega)]
        refine wpS_bind (hb _ (by omega) _ ?_)
        dsimp only
        cases e : b (lo + (hi - lo) / 2) with
        | true => rw [e] at hq; exact wpS_pure hq
        | false => rw [e] at hq; exact wpS_pure hq
      · rcases h5 with q | ⟨q, _⟩ <;> omega
      · omega
      · exact fun i hi => hm i _ (by omega) h3 h4
      · intro i h6 h7
        rcases h5 with q | ⟨q, e⟩
        · omega
        · exact hn _ i (by omega) h7 e
  | false =>
    dsimp only
    rw [if_neg (by simp)]
    refine wpS_bind (wpS_mono (wpS_forRange (I := fun x c st' => st' = st ∧ ∃ l o, c = (none, l, o) ∧ l < o ∧ x + 1 ≤ o ∧ l ≤ hint ∧ b (hint - l) = false)
      (Q := fun c st' => st' = st ∧ ∃ l o, c = (none, l, o) ∧ l < o ∧ l ≤ hint ∧ b (hint - l) = false ∧ (hint + 1 ≤ o ∨ (o ≤ hint ∧ b (hint - o) = true))) ?_ ?_ ?_) ?_)
    · rintro x c st' _ hx ⟨rfl, l, o, rfl, h1, h2, h3, h4⟩
      dsimp only
      by_cases ho : o ≥ hint + 1
      · rw [if_pos ho]
        exact wpS_pure ⟨rfl, l, o, rfl, h1, h3, h4, .inl ho⟩
      · rw [if_neg ho]
        refine wpS_bind (hb (hint - o) (by omega) _ ?_)
        dsimp only
        cases e : b (hint - o) with
        | true => exact wpS_pure ⟨rfl, l, o, rfl, h1, h3, h4, .inr ⟨by omega, e⟩⟩
        | false => exact wpS_pure ⟨rfl, o, 2 * o + 1, rfl, by omega, by omega, by omega, e⟩
    · rintro c st' ⟨rfl, l, o, rfl, h1, h2, h3, h4⟩
      exact ⟨rfl, l, o, rfl, h1, h3, h4, .inl (by omega)⟩
    · exact ⟨rfl, 0, 1, rfl, by omega, by omega, by omega, e0⟩
    · rintro c st' ⟨rfl, l, o, rfl, h1, h3, h4, h5⟩
      dsimp only
      refine wpS_bind (bin_go (b := b) (fun x lo hi q Q hq => ?_) (fun x lo hi q q2 Q hq => ?_) hm ?_ ?_ ?_ ?_ fun k hk => wpS_pure (h k hk))
      · dsimp only
        rw [if_pos q]
        exact wpS_pure hq
      · dsimp only
        rw [if_neg (by omega)]
        refine wpS_bind (hb _ (by omega) _ ?_)
        dsimp only
        cases e : b (lo + (hi - lo) / 2) with
        | true => rw [e] at hq; exact wpS_pure hq
        | false => rw [e] at hq; exact wpS_pure hq
      · omega
      · omega
      · intro i hi
        rcases h5 with q | ⟨q, e⟩
        · omega
        · exact hm i _ (by omega) (by omega) e
      · exact fun i h6 h7 => hn _ i h6 h7 h4
end
end Mine.Ts
end

section
open PySem PyProof.Rows
namespace Mine.Ts
/-! ## the whole sort: two runs made one, in plain lists -/
section
variable {α : Type} {le : α → α → Prop}
/-- out so far, what is left of the first, what is left of the second -/
structure Mg (le : α → α → Prop) (all O La Lb : List α) : Prop where
  perm : (O ++ (La ++ Lb)).Perm all
  so : O.Pairwise le
  sa : La.Pairwise le
  sb : Lb.Pairwise le
  oa : ∀ x ∈ O, ∀ y ∈ La, le x y
  ob : ∀ x ∈ O, ∀ y ∈ Lb, le x y
variable {all O P La Lb : List α}
/-- some of the first go out -/
theorem Mg.a (h : Mg le all O (P ++ La) Lb) (hp : ∀ x ∈ P, ∀ y ∈ Lb, le x y) : Mg le all (O ++ P) La Lb where
  perm := by
    have := h.perm
    rw [List.append_assoc] at this ⊢
    exact this
  so := List.pairwise_append.2 ⟨h.so, (List.pairwise_append.1 h.sa).1, fun x hx y hy => h.oa x hx y (List.mem_append_left _ hy)⟩
  sa := (List.pairwise_append.1 h.sa).2.1
  sb := h.sb
  oa := fun x hx y hy => (List.mem_append.1 hx).elim (fun q => h.oa x q y (List.mem_append_right _ hy)) fun q => (List.pairwise_append.1 h.sa).2.2 x q y hy
  ob := fun x hx y hy => (List.mem_append.1 hx).elim (fun q => h.ob x q y hy) fun q => hp x q y hy
/-- some of the second go out -/
theorem Mg.b (h : Mg le all O La (P ++ Lb)) (hp : ∀ x ∈ P, ∀ y ∈ La, le x y) : Mg le all (O ++ P) La Lb where
  perm := by
    refine List.Perm.trans ?_ h.perm
    rw [List.append_assoc]
    refine List.Perm.append_left O ?_
    rw [← List.append_assoc, ← List.append_assoc]
    exact List.Perm.append_right Lb List.perm_append_comm
  so := List.pairwise_append.2 ⟨h.so, (List.pairwise_append.1 h.sb).1, fun x hx y hy => h.ob x hx y (List.mem_append_left _ hy)⟩
  sa := h.sa
  sb := (List.pairwise_append.1 h.sb).2.1
  oa := fun x hx y hy => (List.mem_append.1 hx).elim (fun q => h.oa x q y hy) fun q => hp x q y hy
  ob := fun x hx y hy => (List.mem_append.1 hx).elim (fun q => h.ob x q y (List.mem_append_right _ hy)) fun q => (List.pairwise_append.1 h.sb).2.2 x q y hy
/-- a list in order, of the same things -/
structure Srt (le : α → α → Prop) (all R : List α) : Prop where
  perm : R.Perm all
  srt : R.Pairwise le
theorem Mg.endB (h : Mg le all O La []) : Srt le all (O ++ La) where
  perm := by have := h.perm; rw [List.append_nil] at this; exact this
  srt := List.pairwise_append.2 ⟨h.so, h.sa, h.oa⟩
theorem Mg.endA (h : Mg le all O La Lb) (hp : ∀ x ∈ Lb, ∀ y ∈ La, le x y) : Srt le all (O ++ (Lb ++ La)) where
  perm := List.Perm.trans (List.Perm.append_left O List.perm_append_comm) h.perm
  srt := List.pairwise_append.2 ⟨h.so, List.pairwise_append.2 ⟨h.sb, h.sa, hp⟩, fun x hx y hy => (List.mem_append.1 hy).elim (h.ob x hx y) (h.oa x hx y)⟩
end
end Mine.Ts
end

section
open PySem PyProof.Rows
namespace Mine.Ts
section
variable {O : KeyOrd} {key : Keyed → O.α} {a b out : Array Keyed} {ia ib : Nat} {all : List Keyed}
noncomputable abbrev leK (O : KeyOrd) (key : Keyed → O.α) (x y : Keyed) : Prop := O.kle (key x) (key y)
noncomputable abbrev ltK (O : KeyOrd) (key : Keyed → O.α) (x y : Keyed) : Bool := O.blt (key x) (key y)
noncomputable abbrev MgA (O : KeyOrd) (key : Keyed → O.α) (all : List Keyed) (a b out : Array Keyed) (ia ib : Nat) : Prop := Mg (leK O key) all out.toList (a.toList.drop ia) (b.toList.drop ib)
theorem drop_at (a : Array Keyed) {i : Nat} (h : i < a.size) : a.toList.drop i = a[i] :: a.toList.drop (i + 1) := by
  rw [List.drop_eq_getElem_cons (by rw [Array.length_toList]; exact h)]; rfl
theorem drop_part (a : Array Keyed) {i k : Nat} : a.toList.drop i = (a.extract i (i + k)).toList ++ a.toList.drop (i + k) := by
  rw [Array.toList_extract, List.extract_eq_take_drop, Nat.add_sub_cancel_left, ← List.drop_drop, List.take_append_drop]
theorem ext_all (a : Array Keyed) (i : Nat) : (a.extract i).toList = a.toList.drop i := by
  rw [Array.toList_extract, List.extract_eq_take_drop, List.take_of_length_le]
  rw [List.length_drop, Array.length_toList]; exact Nat.le_refl _
/-- the head is at most all -/
theorem head_le {x z : Keyed} {l : List Keyed} (h : (z :: l).Pairwise (leK O key)) (hz : leK O key x z) : ∀ y ∈ z :: l, leK O key x y := fun y hy => by
  rcases List.mem_cons.1 hy with rfl | hy
  · exact hz
  · exact KeyOrd.kle_trans hz ((List.pairwise_cons.1 h).1 y hy)
theorem MgA.push_b (h : MgA O key all a b out ia ib) (hi : ia < a.size) (hj : ib < b.size) (e : ltK O key b[ib] a[ia] = true) : MgA O key all a b (out.push b[ib]) ia (ib + 1) := by
  unfold MgA at h ⊢
  rw [drop_at b hj] at h
  rw [Array.toList_push]
  refine Mg.b (P := [b[ib]]) h fun x hx y hy => ?_
  rw [List.mem_singleton.1 hx]
  have hs := h.sa
  rw [drop_at a hi] at hs hy
  exact head_le hs (KeyOrd.kle_of_klt e) y hy
theorem MgA.push_a (h : MgA O key all a b out ia ib) (hi : ia < a.size) (hj : ib < b.size) (e : ltK O key b[ib] a[ia] = false) : MgA O key all a b (out.push a[ia]) (ia + 1) ib := by
  unfold MgA at h ⊢
  rw [drop_at a hi] at h
  rw [Array.toList_push]
  refine Mg.a (P := [a[ia]]) h fun x hx y hy => ?_
  rw [List.mem_singleton.1 hx]
  have hs := h.sb
  rw [drop_at b hj] at hs hy
  exact head_le hs e y hy
/-- many of the first -/
theorem MgA.more_a {k : Nat} (h : MgA O key all a b out ia ib) (hj : ib < b.size) (hk : ia + k ≤ a.size) (e : ∀ i < k, ∀ (hi : ia + i < a.size), ltK O key b[ib] a[ia + i] = false) : MgA O key all a b (out ++ a.extract ia (ia + k)) (ia + k) ib := by
  unfold MgA at h ⊢
  rw [drop_part a (i := ia) (k := k)] at h
  rw [Array.toList_append]
  refine Mg.a h fun x hx y hy => ?_
  have hs := h.sb
  rw [drop_at b hj] at hs hy
  obtain ⟨i, hi, rfl⟩ := List.getElem_of_mem hx
  rw [Array.length_toList, Array.size_extract] at hi
  have h1 : i < k := by omega
  have h2 : ia + i < a.size := by omega
  refine head_le hs ?_ y hy
  have := e i h1 h2
  rw [Array.getElem_toList, Array.getElem_extract]
  exact this
theorem MgA.more_b {k : Nat} (h : MgA O key all a b out ia ib) (hi : ia < a.size) (hk : ib + k ≤ b.size) (e : ∀ i < k, ∀ (hi' : ib + i < b.size), ltK O key b[ib + i] a[ia] = true) : MgA O key all a b (out ++ b.extract ib (ib + k)) ia (ib + k) := by
  unfold MgA at h ⊢
  rw [drop_part b (i := ib) (k := k)] at h
  rw [Array.toList_append]
  refine Mg.b h fun x hx y hy => ?_
  have hs := h.sa
  rw [drop_at a hi] at hs hy
  obtain ⟨i, hi', rfl⟩ := List.getElem_of_mem hx
  rw [Array.length_toList, Array.size_extract] at hi'
  have h1 : i < k := by omega
  have h2 : ib + i < b.size := by omega
  refine head_le hs ?_ y hy
  have := e i h1 h2
  rw [Array.getElem_toList, Array.getElem_extract]
  exact KeyOrd.kle_of_klt this
theorem MgA.done (h : MgA O key all a b out ia ib) (hj : b.size ≤ ib) : Srt (leK O key) all (out ++ a.extract ia ++ b.extract ib).toList := by
  unfold MgA at h
  have e : b.toList.drop ib = [] := List.drop_eq_nil_of_le (by rw [Array.length_toList]; exact hj)
  rw [e] at h
  rw [Array.toList_append, Array.toList_append, ext_all, ext_all, e, List.append_nil]
  exact h.endB
theorem MgA.doneA (h : MgA O key all a b out ia ib) (hj : a.size ≤ ia) : Srt (leK O key) all (out ++ a.extract ia ++ b.extract ib).toList := by
  unfold MgA at h
  have e : a.toList.drop ia = [] := List.drop_eq_nil_of_le (by rw [Array.length_toList]; exact hj)
  rw [e] at h
  rw [Array.toList_append, Array.toList_append, ext_all, ext_all, e, List.append_nil]
  have := h.endA fun _ _ y hy => absurd hy List.not_mem_nil
  rw [List.append_nil] at this; exact this
theorem MgA.last (h : MgA O key all a b out ia ib) (hi : ia + 1 = a.size) (hl : ∀ y ∈ b.toList, ∀ (h0 : a.size - 1 < a.size), ltK O key y a[a.size - 1] = true) : Srt (leK O key) all (out ++ b.extract ib ++ a.extract ia).toList := by
  unfold MgA at h
  rw [Array.toList_append, Array.toList_append, ext_all, ext_all, List.append_assoc]
  refine h.endA fun x hx y hy => ?_
  have h1 : ia < a.size := by omega
  rw [drop_at a h1, List.drop_eq_nil_of_le (by rw [Array.length_toList]; omega)] at hy
  rw [List.mem_singleton.1 hy]
  have := hl x (List.mem_of_mem_drop hx) (by omega)
  have e : a[a.size - 1]'(by omega) = a[ia] := by congr 1; omega
  rw [← e]
  exact KeyOrd.kle_of_klt this
end
end Mine.Ts
end

section
open PySem PyProof.Rows
namespace Mine.Ts
noncomputable def setGal' : Nat → StateT SortSt Sem Unit := sortPriv% PySem.Builtin.setMinGallop
section
variable {prog : Program} {w : World} {A : Around} {E : Value → Shared → Prop} {s : Shared}
/-- a thing of an array, or none -/
noncomputable def atK (a : Array Keyed) (i : Nat) : Keyed := (a[i]?).getD (.none, .none)
theorem atK_eq {a : Array Keyed} {i : Nat} (h : i < a.size) : atK a i = a[i] := by
  unfold atK; rw [getElem?_pos a i h]; rfl
theorem sorted_at {O : KeyOrd} {key : Keyed → O.α} {a : Array Keyed} (h : a.toList.Pairwise (leK O key)) {i j : Nat} (hij : i ≤ j) (hj : j < a.size) : leK O key (atK a i) (atK a j) := by
  rw [atK_eq hj, atK_eq (Nat.lt_of_le_of_lt hij hj)]
  rcases Nat.lt_or_eq_of_le hij with q | rfl
  · have := List.pairwise_iff_getElem.1 h i j (by rw [Array.length_toList]; omega) (by rw [Array.length_toList]; omega) q
    exact this
  · exact KeyOrd.kle_refl _
/-- how many of the first are at most the key -/
theorem cut_right {O : KeyOrd} {key : Keyed → O.α} {a : Array Keyed} (h : a.toList.Pairwise (leK O key)) (x : Keyed) (base n : Nat) (hn : base + n ≤ a.size) :
    ∀ i j, i ≤ j → j < n → (!ltK O key x (atK a (base + j))) = true → (!ltK O key x (atK a (base + i))) = true := fun i j hij hj e => by
  have h1 := sorted_at h (i := base + i) (j := base + j) (by omega) (by omega)
  have h2 : ltK O key x (atK a (base + j)) = false := by simpa using e
  have h2 : O.kle (key (atK a (base + j))) (key x) := h2
  have h3 := KeyOrd.kle_trans h1 h2
  show (!O.blt (key x) (key (atK a (base + i)))) = true
  rw [show O.blt (key x) (key (atK a (base + i))) = false from h3]; rfl
theorem cut_left {O : KeyOrd} {key : Keyed → O.α} {a : Array Keyed} (h : a.toList.Pairwise (leK O key)) (x : Keyed) (base n : Nat) (hn : base + n ≤ a.size) :
    ∀ i j, i ≤ j → j < n → ltK O key (atK a (base + j)) x = true → ltK O key (atK a (base + i)) x = true := fun i j hij hj e =>
  KeyOrd.klt_of_kle_of_klt (sorted_at h (i := base + i) (j := base + j) (by omega) (by omega)) e
theorem elem_go {arr : Array Keyed} {i : Nat} (h : i < arr.size) {st : SortSt} {Q : Keyed → SortSt → Prop} (q : Q arr[i] st) : wpS (model prog w) A E s (elem' arr i) Q st := by
  rw [elem'_eq, getElem?_pos arr i h]
  exact wpS_pure q
/-- the same but for the measure of galloping -/
structure Like (st st' : SortSt) : Prop where
  k : kindOf st' = kindOf st
  a : arrOf st' = arrOf st
  p : pendingOf st' = pendingOf st
  f : failedOf st' = failedOf st
theorem Like.refl (st : SortSt) : Like st st := ⟨rfl, rfl, rfl, rfl⟩
theorem Like.trans {a b c : SortSt} (h : Like a b) (h2 : Like b c) : Like a c := ⟨h2.k.trans h.k, h2.a.trans h.a, h2.p.trans h.p, h2.f.trans h.f⟩
theorem setGal_go {g : Nat} {st : SortSt} {Q : Unit → SortSt → Prop} (q : ∀ st', Like st st' → Q () st') : wpS (model prog w) A E s (setGal' g) Q st := wpS_modify (q _ ⟨rfl, rfl, rfl, rfl⟩)
/-- what the comparison of two keys says -/
structure Ask (prog : Program) (w : World) (A : Around) (E : Value → Shared → Prop) (s : Shared) (kd : SortKind) (O : KeyOrd) (key : Keyed → O.α) (ok : Keyed → Prop) : Prop where
  run : ∀ x y st, ok x → ok y → kindOf st = kd → Says prog w A E s (lt' x y) st (ltK O key x y)
section
variable {kd : SortKind} {O : KeyOrd} {key : Keyed → O.α} {ok : Keyed → Prop} {a : Array Keyed} {x : Keyed} {base n hint : Nat} {st : SortSt} {Q : Option Nat → SortSt → Prop}
theorem gal_right (C : Ask prog w A E s kd O key ok) (sa : a.toList.Pairwise (leK O key)) (oka : ∀ i (h : i < a.size), ok a[i]) (okx : ok x) (hn : base + n ≤ a.size) (hh : hint < n) (hk : kindOf st = kd)
    (h : ∀ k, k ≤ n → (∀ i < k, ltK O key x (atK a (base + i)) = false) → (∀ i, k ≤ i → i < n → ltK O key x (atK a (base + i)) = true) → Q (some k) st) : wpS (model prog w) A E s (gallop' false x a base n hint) Q st := by
  refine gallop_go (b := fun i => !ltK O key x (atK a (base + i))) hh (cut_right sa x base n hn) (fun i hi Q hq => ?_) fun k c => h k c.le (fun i hi => by simpa using c.yes i hi) fun i h1 h2 => by simpa using c.no i h1 h2
  have hi' : base + i < a.size := by omega
  refine wpS_bind (elem_go hi' ?_)
  rw [if_neg (by simp)]
  refine wpS_bind (C.run _ _ _ okx (oka _ hi') hk _ (wpS_pure ?_))
  rw [atK_eq hi'] at hq
  exact hq
theorem gal_left (C : Ask prog w A E s kd O key ok) (sa : a.toList.Pairwise (leK O key)) (oka : ∀ i (h : i < a.size), ok a[i]) (okx : ok x) (hn : base + n ≤ a.size) (hh : hint < n) (hk : kindOf st = kd)
    (h : ∀ k, k ≤ n → (∀ i < k, ltK O key (atK a (base + i)) x = true) → (∀ i, k ≤ i → i < n → ltK O key (atK a (base + i)) x = false) → Q (some k) st) : wpS (model prog w) A E s (gallop' true x a base n hint) Q st := by
  refine gallop_go (b := fun i => ltK O key (atK a (base + i)) x) hh (cut_left sa x base n hn) (fun i hi Q hq => ?_) fun k c => h k c.le c.yes c.no
  have hi' : base + i < a.size := by omega
  refine wpS_bind (elem_go hi' ?_)
  rw [if_pos rfl]
  rw [atK_eq hi'] at hq
  exact C.run _ _ _ (oka _ hi') okx hk _ hq
end
end
end Mine.Ts
end

section
open PySem PyProof.Rows
namespace Mine.Ts
section
variable {prog : Program} {w : World} {A : Around} {E : Value → Shared → Prop} {s : Shared} {O : KeyOrd} {key : Keyed → O.α} {all : List Keyed} {a b : Array Keyed}
noncomputable abbrev GalSt := Option (Array Keyed) × Array Keyed × Nat × Nat × Nat × Nat × Nat
/-- behind one turn of galloping: done, or something was taken -/
noncomputable def Turn (O : KeyOrd) (key : Keyed → O.α) (all : List Keyed) (a b : Array Keyed) (r : Nat) : ForInStep GalSt → Prop
  | .done c => (∃ R rest, c = (some R, rest) ∧ Srt (leK O key) all R.toList) ∨ ∃ o i j g ac bc, c = (none, o, i, j, g, ac, bc) ∧ MgA O key all a b o i j ∧ i + 1 < a.size ∧ j < b.size ∧ (a.size - i) + (b.size - j) ≤ r
  | .yield c => ∃ o i j g ac bc, c = (none, o, i, j, g, ac, bc) ∧ MgA O key all a b o i j ∧ i + 1 < a.size ∧ j < b.size ∧ (a.size - i) + (b.size - j) + 1 ≤ r
theorem lo_tail {o : Array Keyed} {i j r : Nat} (mg : MgA O key all a b o i j) (hi : i + 1 < a.size) (hj : j < b.size) (e : ltK O key (atK b j) (atK a i) = false) (hl : ∀ y ∈ b.toList, ∀ (h0 : a.size - 1 < a.size), ltK O key y a[a.size - 1] = true)
    (hr : (a.size - i) + (b.size - j) ≤ r) {c : Bool} {rest : Keyed → Array Keyed × Nat × Nat × Nat × Nat × Nat} {u v : Keyed → Nat × Nat × Nat} {st : SortSt} {Q : ForInStep GalSt → SortSt → Prop} (h : ∀ t, Turn O key all a b r t → Q t st) :
    wpS (model prog w) A E s (elem' a i >>= fun x => if (i + 1 + 1 == a.size) = true then pure (.done (some (o.push x ++ b.extract j ++ a.extract (i + 1)), rest x)) else if c = true then pure (.done (none, o.push x, i + 1, j, u x)) else pure (.yield (none, o.push x, i + 1, j, v x))) Q st := by
  have hi0 : i < a.size := by omega
  rw [atK_eq hj, atK_eq hi0] at e
  have m := mg.push_a hi0 hj e
  refine wpS_bind (elem_go hi0 ?_)
  by_cases q : (i + 1 + 1 == a.size) = true
  · rw [if_pos q]
    exact wpS_pure (h _ (.inl ⟨_, _, rfl, m.last (eq_of_beq q) hl⟩))
  · rw [if_neg q]
    have h2 : i + 1 + 1 < a.size := by have : a.size ≠ i + 1 + 1 := fun z => q (by rw [z]; exact beq_self_eq_true _); omega
    cases c with
    | true => exact wpS_pure (h _ (.inr ⟨_, _, _, _, _, _, rfl, m, h2, hj, by omega⟩))
    | false => exact wpS_pure (h _ ⟨_, _, _, _, _, _, rfl, m, h2, hj, by omega⟩)
end
end Mine.Ts
end

section
open PySem PyProof.Rows
namespace Mine.Ts
section
variable {prog : Program} {w : World} {A : Around} {E : Value → Shared → Prop} {s : Shared} {kd : SortKind} {O : KeyOrd} {key : Keyed → O.α} {ok : Keyed → Prop} {all : List Keyed} {a b : Array Keyed}
noncomputable abbrev GM := StateT SortSt Sem (ForInStep GalSt)
theorem ne_lt {n m : Nat} (h : n ≤ m) (q : ¬(n == m) = true) : n < m := Nat.lt_of_le_of_ne h fun z => q (by rw [z]; exact beq_self_eq_true _)
/-- the shape of the middle of a galloping turn -/
inductive LoMid (a b o : Array Keyed) (i j : Nat) (F : Keyed → GM) : Prop where
  | mk {G : Keyed → Keyed → Option Nat → GM} {T T' : Keyed → Keyed → Nat → Keyed → GM} {r1 : Keyed → Array Keyed × Nat × Nat × Nat × Nat × Nat} {r2 : Keyed → Keyed → Nat → Array Keyed × Nat × Nat × Nat × Nat × Nat} {r3 r4 : Keyed → Keyed → Nat → Keyed → Array Keyed × Nat × Nat × Nat × Nat × Nat} {c : Nat → Bool} {u v u' v' : Keyed → Keyed → Nat → Keyed → Nat × Nat × Nat}
    (hF : ∀ y, F y = if (j + 1 == b.size) = true then pure (.done (some (o.push y ++ a.extract i ++ b.extract (j + 1)), r1 y)) else elem' a i >>= fun x => gallop' true x b (j + 1) (b.size - (j + 1)) 0 >>= G y x)
    (hG : ∀ y x k, G y x (some k) = if k > 0 then (if (j + 1 + k == b.size) = true then pure (.done (some (o.push y ++ b.extract (j + 1) (j + 1 + k) ++ a.extract i ++ b.extract (j + 1 + k)), r2 y x k)) else elem' a i >>= T y x k) else elem' a i >>= T' y x k)
    (hT : ∀ y x k z, T y x k z = if (i + 1 + 1 == a.size) = true then pure (.done (some ((o.push y ++ b.extract (j + 1) (j + 1 + k)).push z ++ b.extract (j + 1 + k) ++ a.extract (i + 1)), r3 y x k z)) else if c k = true then pure (.done (none, (o.push y ++ b.extract (j + 1) (j + 1 + k)).push z, i + 1, j + 1 + k, u y x k z)) else pure (.yield (none, (o.push y ++ b.extract (j + 1) (j + 1 + k)).push z, i + 1, j + 1 + k, v y x k z)))
    (hT' : ∀ y x k z, T' y x k z = if (i + 1 + 1 == a.size) = true then pure (.done (some ((o.push y).push z ++ b.extract (j + 1) ++ a.extract (i + 1)), r4 y x k z)) else if c k = true then pure (.done (none, (o.push y).push z, i + 1, j + 1, u' y x k z)) else pure (.yield (none, (o.push y).push z, i + 1, j + 1, v' y x k z))) : LoMid a b o i j F
/-- the middle of a galloping turn -/
theorem lo_mid (C : Ask prog w A E s kd O key ok) (oka : ∀ i (h : i < a.size), ok a[i]) (okb : ∀ i (h : i < b.size), ok b[i]) (sb : b.toList.Pairwise (leK O key)) (hl : ∀ y ∈ b.toList, ∀ (h0 : a.size - 1 < a.size), ltK O key y a[a.size - 1] = true)
    {o : Array Keyed} {i j r : Nat} (mg : MgA O key all a b o i j) (hi : i + 1 < a.size) (hj : j < b.size) (e : ltK O key (atK b j) (atK a i) = true) (hr : (a.size - i) + (b.size - j) ≤ r) {st : SortSt} (hk : kindOf st = kd) {Q : ForInStep GalSt → SortSt → Prop} (h : ∀ t, Turn O key all a b r t → Q t st)
    {F : Keyed → GM} (M : LoMid a b o i j F) :
    wpS (model prog w) A E s (elem' b j >>= F) Q st := by
  obtain ⟨hF, hG, hT, hT'⟩ := M
  have hi0 : i < a.size := by omega
  rw [atK_eq hj, atK_eq hi0] at e
  have m := mg.push_b hi0 hj e
  refine wpS_bind (elem_go hj ?_)
  rw [hF]
  by_cases q : (j + 1 == b.size) = true
  · rw [if_pos q]
    exact wpS_pure (h _ (.inl ⟨_, _, rfl, m.done (Nat.le_of_eq (eq_of_beq q).symm)⟩))
  · rw [if_neg q]
    have hj1 : j + 1 < b.size := ne_lt (by omega) q
    refine wpS_bind (elem_go hi0 (wpS_bind (gal_left C sb okb (oka i hi0) (by omega) (by omega) hk fun k hk1 y1 y2 => ?_)))
    rw [hG]
    rw [← atK_eq hi0] at y1 y2
    by_cases q1 : k > 0
    · rw [if_pos q1]
      have m2 := m.more_b (k := k) hi0 (by omega) fun i' hi' h' => by rw [← atK_eq h', ← atK_eq hi0]; exact y1 i' hi'
      by_cases q2 : (j + 1 + k == b.size) = true
      · rw [if_pos q2]
        exact wpS_pure (h _ (.inl ⟨_, _, rfl, m2.done (Nat.le_of_eq (eq_of_beq q2).symm)⟩))
      · rw [if_neg q2]
        have hj2 : j + 1 + k < b.size := ne_lt (by omega) q2
        rw [funext (hT _ _ _)]
        exact lo_tail m2 hi hj2 (y2 k (Nat.le_refl _) (by omega)) hl (by omega) h
    · rw [if_neg q1, funext (hT' _ _ _)]
      obtain rfl : k = 0 := by omega
      exact lo_tail m hi hj1 (y2 0 (Nat.le_refl _) (by omega)) hl (by omega) h
/-- the shape of a galloping turn -/
inductive LoFr (a b o : Array Keyed) (i j : Nat) (F0 : Unit → GM) : Prop where
  | mk {F1 : Keyed → GM} {F2 : Keyed → Option Nat → GM} {F3 F4 : Keyed → Nat → Keyed → GM} {r1 r2 : Keyed → Nat → Array Keyed × Nat × Nat × Nat × Nat × Nat}
    (h0 : F0 () = elem' b j >>= F1) (h1 : ∀ y, F1 y = gallop' false y a i (a.size - i) 0 >>= F2 y)
    (h2 : ∀ y k, F2 y (some k) = if k > 0 then (if (i + k + 1 == a.size) = true then pure (.done (some (o ++ a.extract i (i + k) ++ b.extract j ++ a.extract (i + k)), r1 y k)) else if (i + k == a.size) = true then pure (.done (some (o ++ a.extract i (i + k) ++ a.extract (i + k) ++ b.extract j), r2 y k)) else elem' b j >>= F3 y k) else elem' b j >>= F4 y k)
    (h3 : ∀ y k, LoMid a b (o ++ a.extract i (i + k)) (i + k) j (F3 y k)) (h4 : ∀ y k, LoMid a b o i j (F4 y k)) : LoFr a b o i j F0
/-- one galloping turn -/
theorem lo_front (C : Ask prog w A E s kd O key ok) (oka : ∀ i (h : i < a.size), ok a[i]) (okb : ∀ i (h : i < b.size), ok b[i]) (sa : a.toList.Pairwise (leK O key)) (sb : b.toList.Pairwise (leK O key)) (hl : ∀ y ∈ b.toList, ∀ (h0 : a.size - 1 < a.size), ltK O key y a[a.size - 1] = true)
    {o : Array Keyed} {i j : Nat} (mg : MgA O key all a b o i j) (hi : i + 1 < a.size) (hj : j < b.size) {st : SortSt} (hk : kindOf st = kd) {Q : ForInStep GalSt → SortSt → Prop} (h : ∀ t st', Like st st' → Turn O key all a b ((a.size - i) + (b.size - j)) t → Q t st')
    {g : Nat} {F0 : Unit → GM} (M : LoFr a b o i j F0) :
    wpS (model prog w) A E s (setGal' g >>= F0) Q st := by
  obtain ⟨h0, h1, h2, h3, h4⟩ := M
  refine wpS_bind (setGal_go fun st4 lk4 => ?_)
  have k5 : kindOf st4 = kd := lk4.k.trans hk
  have fin : ∀ t, Turn O key all a b ((a.size - i) + (b.size - j)) t → Q t st4 := fun t => h t st4 lk4
  have hi0 : i < a.size := by omega
  rw [h0]
  refine wpS_bind (elem_go hj ?_)
  rw [h1]
  refine wpS_bind (gal_right C sa oka (okb _ hj) (by omega) (by omega) k5 fun k hk1 y1 y2 => ?_)
  rw [← atK_eq hj] at y1 y2
  have one := mg.more_a (k := k) hj (by omega) fun i' hi' h' => by rw [← atK_eq h', ← atK_eq hj]; exact y1 i' hi'
  rw [h2]
  by_cases q1 : k > 0
  · rw [if_pos q1]
    by_cases q2 : (i + k + 1 == a.size) = true
    · rw [if_pos q2]
      exact wpS_pure (fin _ (.inl ⟨_, _, rfl, one.last (eq_of_beq q2) hl⟩))
    · rw [if_neg q2]
      by_cases q3 : (i + k == a.size) = true
      · rw [if_pos q3]
        exact wpS_pure (fin _ (.inl ⟨_, _, rfl, one.doneA (Nat.le_of_eq (eq_of_beq q3).symm)⟩))
      · rw [if_neg q3]
        have hk3 : i + k < a.size := ne_lt (by omega) q3
        exact lo_mid C oka okb sb hl one (ne_lt (by omega) q2) hj (y2 k (Nat.le_refl _) (by omega)) (by omega) k5 fin (h3 _ _)
  · rw [if_neg q1]
    obtain rfl : k = 0 := by omega
    exact lo_mid C oka okb sb hl mg hi hj (y2 0 (Nat.le_refl _) (by omega)) (by omega) k5 fin (h4 _ _)
end
end Mine.Ts
end

section
open PySem PyProof.Rows
namespace Mine.Ts
noncomputable def mergeLo' : Array Keyed → Array Keyed → StateT SortSt Sem (Array Keyed) := sortPriv% PySem.Builtin.mergeLo
noncomputable abbrev InSt := Option (Array Keyed) × Array Keyed × Nat × Nat × Nat × Nat
noncomputable abbrev IM := StateT SortSt Sem (ForInStep InSt)
noncomputable abbrev OutSt := Option (Array Keyed) × Array Keyed × Nat × Nat × Nat
noncomputable abbrev OM := StateT SortSt Sem (ForInStep OutSt)
section
variable {prog : Program} {w : World} {A : Around} {E : Value → Shared → Prop} {s : Shared} {kd : SortKind} {O : KeyOrd} {key : Keyed → O.α} {ok : Keyed → Prop} {all : List Keyed} {a b : Array Keyed}
theorem wpS_iff_pos {α : Type} {c : Prop} {_ : Decidable c} {m n : StateT SortSt Sem α} {Q : α → SortSt → Prop} {st : SortSt} (h : c) (q : wpS (model prog w) A E s m Q st) : wpS (model prog w) A E s (if c then m else n) Q st := by rw [if_pos h]; exact q
theorem wpS_iff_neg {α : Type} {c : Prop} {_ : Decidable c} {m n : StateT SortSt Sem α} {Q : α → SortSt → Prop} {st : SortSt} (h : ¬c) (q : wpS (model prog w) A E s n Q st) : wpS (model prog w) A E s (if c then m else n) Q st := by rw [if_neg h]; exact q
/-- how much is left -/
noncomputable abbrev left (a b : Array Keyed) (i j : Nat) : Nat := (a.size - i) + (b.size - j)
/-- both have something left, the first two at least -/
structure LoOk (O : KeyOrd) (key : Keyed → O.α) (all : List Keyed) (a b o : Array Keyed) (i j : Nat) : Prop where
  mg : MgA O key all a b o i j
  i : i + 1 < a.size
  j : j < b.size
/-- what both merges are told -/
structure LoIn (prog : Program) (w : World) (A : Around) (E : Value → Shared → Prop) (s : Shared) (kd : SortKind) (O : KeyOrd) (key : Keyed → O.α) (ok : Keyed → Prop) (a b : Array Keyed) : Prop where
  C : Ask prog w A E s kd O key ok
  oka : ∀ i (h : i < a.size), ok a[i]
  okb : ∀ i (h : i < b.size), ok b[i]
  sa : a.toList.Pairwise (leK O key)
  sb : b.toList.Pairwise (leK O key)
  hl : ∀ y ∈ b.toList, ∀ (h0 : a.size - 1 < a.size), ltK O key y a[a.size - 1] = true
/-! the galloping loop -/
inductive LoG (a b : Array Keyed) (F : Nat → GalSt → GM) : Prop where
  | mk {g1 : Array Keyed → Nat → Nat → Nat → Nat → Nat → Nat} {F0 F0' : Array Keyed → Nat → Nat → Nat → Nat → Nat → Unit → GM}
    (hF : ∀ x o i j g ac bc, F x (none, o, i, j, g, ac, bc) = if g > 1 then setGal' (g1 o i j g ac bc) >>= F0 o i j g ac bc else setGal' g >>= F0' o i j g ac bc)
    (h1 : ∀ o i j g ac bc, LoFr a b o i j (F0 o i j g ac bc)) (h2 : ∀ o i j g ac bc, LoFr a b o i j (F0' o i j g ac bc)) : LoG a b F
structure GI (st : SortSt) (O : KeyOrd) (key : Keyed → O.α) (all : List Keyed) (a b : Array Keyed) (r : Nat) (c : GalSt) (st' : SortSt) (o : Array Keyed) (i j g ac bc : Nat) : Prop where
  e : c = (none, o, i, j, g, ac, bc)
  lk : Like st st'
  ok : LoOk O key all a b o i j
  r : left a b i j ≤ r
theorem lo_gal (I : LoIn prog w A E s kd O key ok a b) {F : Nat → GalSt → GM} (S : LoG a b F) {o : Array Keyed} {i j g ac bc N r : Nat} {st : SortSt} (hk : kindOf st = kd) (ho : LoOk O key all a b o i j) (hr : left a b i j ≤ r) {Q : GalSt → SortSt → Prop}
    (q1 : ∀ R rest st', Like st st' → Srt (leK O key) all R.toList → Q (some R, rest) st') (q2 : ∀ o i j g ac bc st', Like st st' → LoOk O key all a b o i j → left a b i j ≤ r → Q (none, o, i, j, g, ac, bc) st') :
    wpS (model prog w) A E s (forIn [:N] ((none, o, i, j, g, ac, bc) : GalSt) F) Q st := by
  refine wpS_forRange (I := fun _ c st' => ∃ o i j g ac bc, GI st O key all a b r c st' o i j g ac bc) ?_ ?_ ⟨o, i, j, g, ac, bc, rfl, Like.refl _, ho, hr⟩
  · rintro y c st3 _ _ ⟨o, i, j, g, ac, bc, rfl, lk, ho, hr⟩
    obtain ⟨hF, h1, h2⟩ := S
    have pick : ∃ g' F0, LoFr a b o i j F0 ∧ F y (none, o, i, j, g, ac, bc) = setGal' g' >>= F0 := by
      rw [hF]
      by_cases gg : g > 1
      · rw [if_pos gg]; exact ⟨_, _, h1 o i j g ac bc, rfl⟩
      · rw [if_neg gg]; exact ⟨_, _, h2 o i j g ac bc, rfl⟩
    obtain ⟨g', F0, M, e⟩ := pick
    rw [e]
    refine lo_front I.C I.oka I.okb I.sa I.sb I.hl ho.mg ho.i ho.j (lk.k.trans hk) (fun t st4 lk4 ht => ?_) M
    cases t with
    | done c =>
      rcases ht with ⟨R, rest, rfl, hR⟩ | ⟨o, i', j', g, ac, bc, rfl, m, t1, t2, t3⟩
      · exact q1 R rest st4 (lk.trans lk4) hR
      · exact q2 o i' j' g ac bc st4 (lk.trans lk4) ⟨m, t1, t2⟩ (Nat.le_trans t3 hr)
    | yield c =>
      obtain ⟨o, i', j', g, ac, bc, rfl, m, t1, t2, t3⟩ := ht
      exact ⟨o, i', j', g, ac, bc, rfl, lk.trans lk4, ⟨m, t1, t2⟩, Nat.le_trans (Nat.le_of_succ_le t3) hr⟩
  · rintro c st3 ⟨o, i, j, g, ac, bc, rfl, lk, ho, hr⟩
    exact q2 o i j g ac bc st3 lk ho hr
/-! one by one -/
inductive LoC (a b : Array Keyed) (F : Nat → InSt → IM) : Prop where
  | mk {G : Array Keyed → Nat → Nat → Nat → Nat → Option Bool → IM} {T1 T2 : Array Keyed → Nat → Nat → Nat → Nat → Keyed → IM} {r1 r2 : Array Keyed → Nat → Nat → Nat → Nat → Keyed → Array Keyed × Nat × Nat × Nat × Nat} {u1 v1 u2 v2 : Array Keyed → Nat → Nat → Nat → Nat → Keyed → Nat × Nat} {p1 p2 : Array Keyed → Nat → Nat → Nat → Nat → Keyed → Prop} {d1 : ∀ o i j ac bc y, Decidable (p1 o i j ac bc y)} {d2 : ∀ o i j ac bc y, Decidable (p2 o i j ac bc y)}
    (hF : ∀ x o i j ac bc, F x (none, o, i, j, ac, bc) = elem' b j >>= fun y => elem' a i >>= fun z => lt' y z >>= G o i j ac bc)
    (h1 : ∀ o i j ac bc c, G o i j ac bc (some c) = if c = true then elem' b j >>= T1 o i j ac bc else elem' a i >>= T2 o i j ac bc)
    (h3 : ∀ o i j ac bc y, T1 o i j ac bc y = if (j + 1 == b.size) = true then pure (.done (some (o.push y ++ a.extract i ++ b.extract (j + 1)), r1 o i j ac bc y)) else if p1 o i j ac bc y then pure (.done (none, o.push y, i, j + 1, u1 o i j ac bc y)) else pure (.yield (none, o.push y, i, j + 1, v1 o i j ac bc y)))
    (h4 : ∀ o i j ac bc y, T2 o i j ac bc y = if (i + 1 + 1 == a.size) = true then pure (.done (some (o.push y ++ b.extract j ++ a.extract (i + 1)), r2 o i j ac bc y)) else if p2 o i j ac bc y then pure (.done (none, o.push y, i + 1, j, u2 o i j ac bc y)) else pure (.yield (none, o.push y, i + 1, j, v2 o i j ac bc y))) : LoC a b F
structure CI (O : KeyOrd) (key : Keyed → O.α) (all : List Keyed) (a b : Array Keyed) (r y : Nat) (c : InSt) (o : Array Keyed) (i j ac bc : Nat) : Prop where
  e : c = (none, o, i, j, ac, bc)
  ok : LoOk O key all a b o i j
  r : left a b i j + y ≤ r
theorem left_b {i j : Nat} (h : j < b.size) : left a b i (j + 1) + 1 = left a b i j := by unfold left; omega
theorem left_a {i j : Nat} (h : i + 1 < a.size) : left a b (i + 1) j + 1 = left a b i j := by unfold left; omega
theorem left_le {i j : Nat} : left a b i j ≤ a.size + b.size := by unfold left; omega
theorem left_pos {i j : Nat} (h : j < b.size) : 1 ≤ left a b i j := by unfold left; omega
theorem step_le {l l' y r : Nat} (e : l' + 1 = l) (h : l + y ≤ r) : l' + (y + 1) ≤ r := by omega
theorem lt_left {l l' y r : Nat} (e : l' + 1 = l) (h : l + y ≤ r) : l' + 1 ≤ r := by omega
theorem out_of {l n r : Nat} (h1 : 1 ≤ l) (h2 : l + max 0 n ≤ r) (h3 : r ≤ n) : False := by omega
theorem lo_cmp (I : LoIn prog w A E s kd O key ok a b) {F : Nat → InSt → IM} (S : LoC a b F) {o : Array Keyed} {i j ac bc : Nat} {st : SortSt} (hk : kindOf st = kd) (ho : LoOk O key all a b o i j) {Q : InSt → SortSt → Prop}
    (q1 : ∀ R rest, Srt (leK O key) all R.toList → Q (some R, rest) st) (q2 : ∀ o' i' j' ac bc, LoOk O key all a b o' i' j' → left a b i' j' + 1 ≤ left a b i j → Q (none, o', i', j', ac, bc) st) :
    wpS (model prog w) A E s (forIn [:a.size + b.size] ((none, o, i, j, ac, bc) : InSt) F) Q st := by
  refine wpS_forRange (I := fun y c st' => st' = st ∧ ∃ o' i' j' ac bc, CI O key all a b (left a b i j) y c o' i' j' ac bc) ?_ ?_ ⟨rfl, o, i, j, ac, bc, rfl, ho, Nat.le_refl _⟩
  · rintro y c st2 _ _ ⟨rfl, o', i', j', ac, bc, rfl, ho', hr⟩
    obtain ⟨hF, h1, h3, h4⟩ := S
    rw [hF]
    have hi0 : i' < a.size := Nat.lt_of_succ_lt ho'.i
    refine wpS_bind (elem_go ho'.j (wpS_bind (elem_go hi0 (wpS_bind (I.C.run _ _ _ (I.okb _ _) (I.oka _ _) hk _ ?_)))))
    cases e : ltK O key (b[j']'ho'.j) (a[i']'hi0) with
    | true =>
      rw [h1, if_pos rfl]
      have mb := ho'.mg.push_b hi0 ho'.j e
      have el := left_b (a := a) (i := i') ho'.j
      refine wpS_bind (elem_go ho'.j ?_)
      rw [h3]
      by_cases q : (j' + 1 == b.size) = true
      · rw [if_pos q]
        exact wpS_pure (q1 _ _ (mb.done (Nat.le_of_eq (eq_of_beq q).symm)))
      · rw [if_neg q]
        have hj2 : j' + 1 < b.size := ne_lt ho'.j q
        split
        · exact wpS_pure (q2 _ _ _ _ _ ⟨mb, ho'.i, hj2⟩ (lt_left el hr))
        · exact wpS_pure ⟨rfl, _, _, _, _, _, rfl, ⟨mb, ho'.i, hj2⟩, step_le el hr⟩
    | false =>
      rw [h1, if_neg Bool.false_ne_true]
      have mb := ho'.mg.push_a hi0 ho'.j e
      have el := left_a (b := b) (j := j') ho'.i
      refine wpS_bind (elem_go hi0 ?_)
      rw [h4]
      by_cases q : (i' + 1 + 1 == a.size) = true
      · rw [if_pos q]
        exact wpS_pure (q1 _ _ (mb.last (eq_of_beq q) I.hl))
      · rw [if_neg q]
        have hi2 : i' + 1 + 1 < a.size := ne_lt ho'.i q
        split
        · exact wpS_pure (q2 _ _ _ _ _ ⟨mb, hi2, ho'.j⟩ (lt_left el hr))
        · exact wpS_pure ⟨rfl, _, _, _, _, _, rfl, ⟨mb, hi2, ho'.j⟩, step_le el hr⟩
  · rintro c st2 ⟨rfl, o', i', j', ac, bc, rfl, ho', hr⟩
    exact (out_of (left_pos ho'.j) hr left_le).elim
/-! the outer loop -/
inductive LoO (a b : Array Keyed) (F : Nat → OutSt → OM) : Prop where
  | mk {F1 : Array Keyed → Nat → Nat → Nat → Nat → InSt → IM} {K : Array Keyed → Nat → Nat → Nat → InSt → OM} {F2 : Array Keyed → Nat → Nat → Nat → Nat → GalSt → GM} {K2 : Array Keyed → Nat → Nat → Nat → GalSt → OM} {r1 : Array Keyed → Nat → Nat → Nat → Array Keyed → Array Keyed × Nat × Nat × Nat × Nat → Array Keyed × Nat × Nat × Nat} {r2 : Array Keyed → Nat → Nat → Nat → Array Keyed → Array Keyed × Nat × Nat × Nat × Nat × Nat → Array Keyed × Nat × Nat × Nat} {g1 : Array Keyed → Nat → Nat → Nat → Array Keyed → Nat → Nat → Nat → Nat → Nat} {g2 g3 : Array Keyed → Nat → Nat → Nat → Array Keyed → Nat → Nat → Nat → Nat → Nat → Nat}
    (hF : ∀ x o i j g, F x (none, o, i, j, g) = forIn [:a.size + b.size] ((none, o, i, j, 0, 0) : InSt) (F1 o i j g) >>= K o i j g) (h1 : ∀ o i j g, LoC a b (F1 o i j g))
    (h2 : ∀ o i j g R rest, K o i j g (some R, rest) = pure (.done (some R, r1 o i j g R rest)))
    (h3 : ∀ o i j g o' i' j' ac bc, K o i j g (none, o', i', j', ac, bc) = (liftM (rule "list.sort.gallop") : StateT SortSt Sem Unit) >>= fun _ => forIn [:a.size + b.size] ((none, o', i', j', g1 o i j g o' i' j' ac bc, ac, bc) : GalSt) (F2 o i j g) >>= K2 o i j g) (h4 : ∀ o i j g, LoG a b (F2 o i j g))
    (h5 : ∀ o i j g R rest, K2 o i j g (some R, rest) = pure (.done (some R, r2 o i j g R rest)))
    (h6 : ∀ o i j g o' i' j' g' ac bc, K2 o i j g (none, o', i', j', g', ac, bc) = setGal' (g2 o i j g o' i' j' g' ac bc) >>= fun _ => pure (.yield (none, o', i', j', g3 o i j g o' i' j' g' ac bc))) : LoO a b F
structure OI (st : SortSt) (O : KeyOrd) (key : Keyed → O.α) (all : List Keyed) (a b : Array Keyed) (x : Nat) (c : OutSt) (st' : SortSt) (o : Array Keyed) (i j g : Nat) : Prop where
  e : c = (none, o, i, j, g)
  lk : Like st st'
  ok : LoOk O key all a b o i j
  r : left a b i j + x ≤ a.size + b.size
theorem turn_le {l l1 l2 x r : Nat} (h1 : l1 + 1 ≤ l) (h2 : l2 ≤ l1) (h : l + x ≤ r) : l2 + (x + 1) ≤ r := by omega
theorem lo_out (I : LoIn prog w A E s kd O key ok a b) {F : Nat → OutSt → OM} (S : LoO a b F) {o : Array Keyed} {i j g : Nat} {st : SortSt} (hk : kindOf st = kd) (ho : LoOk O key all a b o i j) {Q : OutSt → SortSt → Prop} (q : ∀ R rest st', Like st st' → Srt (leK O key) all R.toList → Q (some R, rest) st') :
    wpS (model prog w) A E s (forIn [:a.size + b.size] ((none, o, i, j, g) : OutSt) F) Q st := by
  refine wpS_forRange (I := fun x c st' => ∃ o i j g, OI st O key all a b x c st' o i j g) ?_ ?_ ⟨o, i, j, g, rfl, Like.refl _, ho, left_le⟩
  · rintro x c st1 _ _ ⟨o, i, j, g, rfl, lk, ho, hr⟩
    obtain ⟨hF, h1, h2, h3, h4, h5, h6⟩ := S
    rw [hF]
    have k1 : kindOf st1 = kd := lk.k.trans hk
    refine wpS_bind (lo_cmp I (h1 ..) k1 ho (fun R rest hR => ?_) fun o' i' j' ac bc ho' hr' => ?_)
    · rw [h2]; exact wpS_pure (q R _ st1 lk hR)
    · rw [h3]
      refine wpS_bind (wpS_lift (wpAny_rule ⟨rfl, wpS_bind (lo_gal I (h4 ..) k1 ho' (Nat.le_refl _) (fun R rest st3 lk3 hR => ?_) fun o3 i3 j3 g3 ac3 bc3 st3 lk3 ho3 hr3 => ?_)⟩))
      · rw [h5]; exact wpS_pure (q R _ st3 (lk.trans lk3) hR)
      · rw [h6]
        exact wpS_bind (setGal_go fun st4 lk4 => wpS_pure ⟨o3, i3, j3, _, rfl, (lk.trans lk3).trans lk4, ho3, turn_le hr' hr3 hr⟩)
  · rintro c st1 ⟨o, i, j, g, rfl, lk, ho, hr⟩
    exact (out_of (left_pos ho.j) hr (Nat.le_refl _)).elim
/-! all of it -/
inductive LoA (a b : Array Keyed) (M : StateT SortSt Sem (Array Keyed)) : Prop where
  | mk {F : Keyed → StateT SortSt Sem (Array Keyed)} {g : Keyed → SortSt → Nat} {F1 : Keyed → SortSt → Nat → OutSt → OM} {K : Keyed → SortSt → OutSt → StateT SortSt Sem (Array Keyed)}
    (hM : M = (liftM (rule "list.sort.merge-lo") : StateT SortSt Sem Unit) >>= fun _ => elem' b 0 >>= F)
    (hF : ∀ y, F y = if (1 == b.size) = true then pure (#[y] ++ a.extract 0 ++ b.extract 1) else if (0 + 1 == a.size) = true then pure (#[y] ++ b.extract 1 ++ a.extract 0) else (get : StateT SortSt Sem SortSt) >>= fun s => forIn [:a.size + b.size] ((none, #[y], 0, 1, g y s) : OutSt) (F1 y s) >>= K y s)
    (h1 : ∀ y s, LoO a b (F1 y s)) (h2 : ∀ y s R rest, K y s (some R, rest) = pure R) : LoA a b M
theorem lo_all (I : LoIn prog w A E s kd O key ok a b) {M : StateT SortSt Sem (Array Keyed)} (S : LoA a b M) (ha : 0 < a.size) (hb : 0 < b.size) (h0 : ltK O key b[0] a[0] = true) {st : SortSt} (hk : kindOf st = kd) {Q : Array Keyed → SortSt → Prop}
    (h : ∀ R st', Like st st' → Srt (leK O key) (a.toList ++ b.toList) R.toList → Q R st') : wpS (model prog w) A E s M Q st := by
  obtain ⟨hM, hF, h1, h2⟩ := S
  have m0 : MgA O key (a.toList ++ b.toList) a b #[] 0 0 := ⟨by rw [List.drop_zero, List.drop_zero]; exact List.Perm.refl _, List.Pairwise.nil, by rw [List.drop_zero]; exact I.sa, by rw [List.drop_zero]; exact I.sb, fun _ h => absurd h List.not_mem_nil, fun _ h => absurd h List.not_mem_nil⟩
  have m1 := m0.push_b ha hb h0
  rw [hM]
  refine wpS_bind (wpS_lift (wpAny_rule ⟨rfl, wpS_bind (elem_go hb ?_)⟩))
  rw [hF]
  by_cases e1 : (1 == b.size) = true
  · rw [if_pos e1]
    exact wpS_pure (h _ st (Like.refl _) (m1.done (Nat.le_of_eq (eq_of_beq e1).symm)))
  rw [if_neg e1]
  by_cases e2 : (0 + 1 == a.size) = true
  · rw [if_pos e2]
    exact wpS_pure (h _ st (Like.refl _) (m1.last (eq_of_beq e2) I.hl))
  rw [if_neg e2]
  refine wpS_bind (wpS_get (wpS_bind (lo_out I (h1 ..) hk ⟨m1, ne_lt ha e2, ne_lt hb e1⟩ fun R rest st' lk hR => ?_)))
  rw [h2]
  exact wpS_pure (h R st' lk hR)
theorem mergeLo_go (I : LoIn prog w A E s kd O key ok a b) (ha : 0 < a.size) (hb : 0 < b.size) (h0 : ltK O key b[0] a[0] = true) {st : SortSt} (hk : kindOf st = kd) {Q : Array Keyed → SortSt → Prop}
    (h : ∀ R st', Like st st' → Srt (leK O key) (a.toList ++ b.toList) R.toList → Q R st') : wpS (model prog w) A E s (mergeLo' a b) Q st := by
  refine lo_all I ?_ ha hb h0 hk h
  apply LoA.mk
  · rfl
  · exact fun _ => rfl
  · intro _ _
    apply LoO.mk
    · exact fun _ _ _ _ _ => rfl
    · intro _ _ _ _
      apply LoC.mk
      · exact fun _ _ _ _ _ _ => rfl
      · exact fun _ _ _ _ _ _ => rfl
      · exact fun _ _ _ _ _ _ => rfl
      · exact fun _ _ _ _ _ _ => rfl
    · exact fun _ _ _ _ _ _ => rfl
    · exact fun _ _ _ _ _ _ _ _ _ => rfl
    · intro _ _ _ _
      apply LoG.mk
      · exact fun _ _ _ _ _ _ _ => rfl
      · intro _ _ _ _ _ _
        apply LoFr.mk
        · rfl
        · exact fun _ => rfl
        · exact fun _ _ => rfl
        · intro _ _
          apply LoMid.mk
          · exact fun _ => rfl
          · exact fun _ _ _ => rfl
          · exact fun _ _ _ _ => rfl
          · exact fun _ _ _ _ => rfl
        · intro _ _
          apply LoMid.mk
          · exact fun _ => rfl
          · exact fun _ _ _ => rfl
          · exact fun _ _ _ _ => rfl
          · exact fun _ _ _ _ => rfl
      · intro _ _ _ _ _ _
        apply LoFr.mk
        · rfl
        · exact fun _ => rfl
        · exact fun _ _ => rfl
        · intro _ _
          apply LoMid.mk
          · exact fun _ => rfl
          · exact fun _ _ _ => rfl
          · exact fun _ _ _ _ => rfl
          · exact fun _ _ _ _ => rfl
        · intro _ _
          apply LoMid.mk
          · exact fun _ => rfl
          · exact fun _ _ _ => rfl
          · exact fun _ _ _ _ => rfl
          · exact fun _ _ _ _ => rfl
    · exact fun _ _ _ _ _ _ => rfl
    · exact fun _ _ _ _ _ _ _ _ _ _ => rfl
  · exact fun _ _ _ _ => rfl
end
end Mine.Ts
end

section
open PySem PyProof.Rows
namespace Mine.Ts
/-! ## merging from behind -/
section
variable {O : KeyOrd} {key : Keyed → O.α} {a b out : Array Keyed} {na nb : Nat} {all : List Keyed}
noncomputable abbrev leR (O : KeyOrd) (key : Keyed → O.α) (x y : Keyed) : Prop := leK O key y x
noncomputable abbrev MgB (O : KeyOrd) (key : Keyed → O.α) (all : List Keyed) (a b out : Array Keyed) (na nb : Nat) : Prop := Mg (leR O key) all out.toList (a.toList.take na).reverse (b.toList.take nb).reverse
theorem take_at (a : Array Keyed) {n : Nat} (h0 : 0 < n) (h : n ≤ a.size) : (a.toList.take n).reverse = atK a (n - 1) :: (a.toList.take (n - 1)).reverse := by
  obtain ⟨m, rfl⟩ : ∃ m, n = m + 1 := ⟨n - 1, by omega⟩
  have hm : m < a.size := by omega
  rw [Nat.add_sub_cancel, List.take_succ_eq_append_getElem (by rw [Array.length_toList]; exact hm), List.reverse_append, atK_eq hm]; rfl
theorem take_part (a : Array Keyed) {k n : Nat} (h : k ≤ n) : (a.toList.take n).reverse = (a.extract k n).reverse.toList ++ (a.toList.take k).reverse := by
  rw [Array.toList_reverse, ← List.reverse_append, Array.toList_extract, List.extract_eq_take_drop]
  congr 1
  have := List.take_append_drop k (a.toList.take n)
  rw [List.take_take, Nat.min_eq_left h, List.drop_take] at this
  exact this.symm
theorem head_leR {x z : Keyed} {l : List Keyed} (h : (z :: l).Pairwise (leR O key)) (hz : leK O key z x) : ∀ y ∈ z :: l, leK O key y x := fun y hy => by
  rcases List.mem_cons.1 hy with rfl | hy
  · exact hz
  · exact KeyOrd.kle_trans ((List.pairwise_cons.1 h).1 y hy) hz
theorem MgB.push_a (h : MgB O key all a b out na nb) (ha : 0 < na) (ha' : na ≤ a.size) (hb : 0 < nb) (hb' : nb ≤ b.size) (e : ltK O key (atK b (nb - 1)) (atK a (na - 1)) = true) : MgB O key all a b (out.push (atK a (na - 1))) (na - 1) nb := by
  unfold MgB at h ⊢
  rw [take_at a ha ha'] at h
  rw [Array.toList_push]
  refine Mg.a (P := [atK a (na - 1)]) h fun x hx y hy => ?_
  rw [List.mem_singleton.1 hx]
  have hs := h.sb
  rw [take_at b hb hb'] at hs hy
  exact head_leR hs (KeyOrd.kle_of_klt e) y hy
theorem MgB.push_b (h : MgB O key all a b out na nb) (ha : 0 < na) (ha' : na ≤ a.size) (hb : 0 < nb) (hb' : nb ≤ b.size) (e : ltK O key (atK b (nb - 1)) (atK a (na - 1)) = false) : MgB O key all a b (out.push (atK b (nb - 1))) na (nb - 1) := by
  unfold MgB at h ⊢
  rw [take_at b hb hb'] at h
  rw [Array.toList_push]
  refine Mg.b (P := [atK b (nb - 1)]) h fun x hx y hy => ?_
  rw [List.mem_singleton.1 hx]
  have hs := h.sa
  rw [take_at a ha ha'] at hs hy
  exact head_leR hs e y hy
theorem mem_part {a : Array Keyed} {k n : Nat} {x : Keyed} (h : x ∈ (a.extract k n).reverse.toList) : ∃ i, k ≤ i ∧ i < n ∧ i < a.size ∧ x = atK a i := by
  rw [Array.toList_reverse, List.mem_reverse] at h
  obtain ⟨i, hi, rfl⟩ := List.getElem_of_mem h
  rw [Array.length_toList, Array.size_extract] at hi
  refine ⟨k + i, by omega, by omega, by omega, ?_⟩
  rw [Array.getElem_toList, Array.getElem_extract, atK_eq]
theorem MgB.more_a {k : Nat} (h : MgB O key all a b out na nb) (hk : k ≤ na) (hb : 0 < nb) (hb' : nb ≤ b.size) (e : ∀ i, k ≤ i → i < na → ltK O key (atK b (nb - 1)) (atK a i) = true) : MgB O key all a b (out ++ (a.extract k na).reverse) k nb := by
  unfold MgB at h ⊢
  rw [take_part a hk] at h
  rw [Array.toList_append]
  refine Mg.a h fun x hx y hy => ?_
  have hs := h.sb
  rw [take_at b hb hb'] at hs hy
  obtain ⟨i, h1, h2, _, rfl⟩ := mem_part hx
  exact head_leR hs (KeyOrd.kle_of_klt (e i h1 h2)) y hy
theorem MgB.more_b {k : Nat} (h : MgB O key all a b out na nb) (hk : k ≤ nb) (ha : 0 < na) (ha' : na ≤ a.size) (e : ∀ i, k ≤ i → i < nb → ltK O key (atK b i) (atK a (na - 1)) = false) : MgB O key all a b (out ++ (b.extract k nb).reverse) na k := by
  unfold MgB at h ⊢
  rw [take_part b hk] at h
  rw [Array.toList_append]
  refine Mg.b h fun x hx y hy => ?_
  have hs := h.sa
  rw [take_at a ha ha'] at hs hy
  obtain ⟨i, h1, h2, _, rfl⟩ := mem_part hx
  exact head_leR hs (e i h1 h2) y hy
theorem Srt.rev {l : List Keyed} (h : Srt (leR O key) all l) : Srt (leK O key) all l.reverse := ⟨(List.reverse_perm l).trans h.perm, List.pairwise_reverse.2 h.srt⟩
theorem ext_take (a : Array Keyed) (n : Nat) : (a.extract 0 n).toList = a.toList.take n := by
  rw [Array.toList_extract, List.extract_eq_take_drop, List.drop_zero, Nat.sub_zero]
theorem MgB.done (h : MgB O key all a b out 0 nb) : Srt (leK O key) all (a.extract 0 0 ++ b.extract 0 nb ++ out.reverse).toList := by
  unfold MgB at h
  rw [List.take_zero] at h
  rw [Array.toList_append, Array.toList_append, ext_take, ext_take, Array.toList_reverse, List.take_zero, List.nil_append]
  have := (h.endA fun _ _ y hy => absurd hy List.not_mem_nil).rev
  rw [List.reverse_nil, List.append_nil, List.reverse_append, List.reverse_reverse] at this
  exact this
theorem MgB.done0 (h : MgB O key all a b out na 0) : Srt (leK O key) all (a.extract 0 na ++ b.extract 0 0 ++ out.reverse).toList := by
  unfold MgB at h
  rw [List.take_zero] at h
  rw [Array.toList_append, Array.toList_append, ext_take, ext_take, Array.toList_reverse, List.take_zero, List.append_nil]
  have := h.endB.rev
  rw [List.reverse_append, List.reverse_reverse] at this
  exact this
theorem MgB.last (h : MgB O key all a b out na 1) (hb : 0 < b.size) (hl : ∀ x ∈ a.toList, ltK O key (atK b 0) x = true) : Srt (leK O key) all (b.extract 0 1 ++ a.extract 0 na ++ out.reverse).toList := by
  unfold MgB at h
  rw [Array.toList_append, Array.toList_append, ext_take, ext_take, Array.toList_reverse]
  have h2 : Mg (leR O key) all out.toList (b.toList.take 1).reverse (a.toList.take na).reverse := ⟨(List.Perm.append_left _ List.perm_append_comm).trans h.perm, h.so, h.sb, h.sa, h.ob, h.oa⟩
  have := (h2.endA fun x hx y hy => ?_).rev
  · rw [List.reverse_append, List.reverse_append, List.reverse_reverse, List.reverse_reverse] at this
    exact this
  · rw [take_at b Nat.one_pos hb] at hy
    rw [List.mem_singleton.1 hy]
    exact KeyOrd.kle_of_klt (hl x (List.mem_of_mem_take (List.mem_reverse.1 hx)))
end
end Mine.Ts
end

section
open PySem PyProof.Rows
namespace Mine.Ts
section
variable {prog : Program} {w : World} {A : Around} {E : Value → Shared → Prop} {s : Shared} {kd : SortKind} {O : KeyOrd} {key : Keyed → O.α} {ok : Keyed → Prop} {all : List Keyed} {a b : Array Keyed}
theorem elem_at {arr : Array Keyed} {i : Nat} (h : i < arr.size) {st : SortSt} {Q : Keyed → SortSt → Prop} (q : Q (atK arr i) st) : wpS (model prog w) A E s (elem' arr i) Q st := by
  rw [atK_eq h] at q; exact elem_go h q
/-- both have something left, the second two at least -/
structure HiOk (O : KeyOrd) (key : Keyed → O.α) (all : List Keyed) (a b o : Array Keyed) (na nb : Nat) : Prop where
  mg : MgB O key all a b o na nb
  a0 : 0 < na
  al : na ≤ a.size
  b0 : 1 < nb
  bl : nb ≤ b.size
noncomputable abbrev HalSt := Option (Array Keyed) × Nat × Nat × Array Keyed × Nat × Nat × Nat
noncomputable abbrev HM := StateT SortSt Sem (ForInStep HalSt)
noncomputable def TurnH (O : KeyOrd) (key : Keyed → O.α) (all : List Keyed) (a b : Array Keyed) (r : Nat) : ForInStep HalSt → Prop
  | .done c => (∃ R rest, c = (some R, rest) ∧ Srt (leK O key) all R.toList) ∨ ∃ na nb o g ac bc, c = (none, na, nb, o, g, ac, bc) ∧ HiOk O key all a b o na nb ∧ na + nb ≤ r
  | .yield c => ∃ na nb o g ac bc, c = (none, na, nb, o, g, ac, bc) ∧ HiOk O key all a b o na nb ∧ na + nb + 1 ≤ r
theorem eq0_cases {n : Nat} {m : Nat} : (n == m) = true ∧ n = m ∨ ¬(n == m) = true ∧ n ≠ m := by
  rcases Nat.decEq n m with q | q
  · exact .inr ⟨fun z => q (eq_of_beq z), q⟩
  · exact .inl ⟨by rw [q]; exact beq_self_eq_true _, q⟩
theorem hi_tail {o : Array Keyed} {na nb r : Nat} (mg : HiOk O key all a b o na nb) (e : ltK O key (atK b (nb - 1)) (atK a (na - 1)) = true) (hr : na + nb ≤ r)
    {c : Bool} {rest : Keyed → Nat × Nat × Array Keyed × Nat × Nat × Nat} {u v : Keyed → Nat × Nat × Nat} {st : SortSt} {Q : ForInStep HalSt → SortSt → Prop} (h : ∀ t, TurnH O key all a b r t → Q t st) :
    wpS (model prog w) A E s (elem' a (na - 1) >>= fun x => if (na - 1 == 0) = true then pure (.done (some (a.extract 0 (na - 1) ++ b.extract 0 nb ++ (o.push x).reverse), rest x)) else if c = true then pure (.done (none, na - 1, nb, o.push x, u x)) else pure (.yield (none, na - 1, nb, o.push x, v x))) Q st := by
  obtain ⟨mg, a0, al, b0, bl⟩ := mg
  have m := mg.push_a a0 al (by omega) bl e
  refine wpS_bind (elem_at (by omega) ?_)
  rcases eq0_cases (n := na - 1) (m := 0) with ⟨q, q'⟩ | ⟨q, q'⟩
  · rw [if_pos q]
    rw [q'] at m ⊢
    exact wpS_pure (h _ (.inl ⟨_, _, rfl, m.done⟩))
  · rw [if_neg q]
    have m2 : HiOk O key all a b (o.push (atK a (na - 1))) (na - 1) nb := ⟨m, by omega, by omega, b0, bl⟩
    cases c with
    | true => exact wpS_pure (h _ (.inr ⟨_, _, _, _, _, _, rfl, m2, by omega⟩))
    | false => exact wpS_pure (h _ ⟨_, _, _, _, _, _, rfl, m2, by omega⟩)
/-- the shape of the middle of a galloping turn -/
inductive HiMid (a b o : Array Keyed) (na nb : Nat) (F : Keyed → HM) : Prop where
  | mk {G : Keyed → Keyed → Option Nat → HM} {T T' : Keyed → Keyed → Nat → Keyed → HM} {r1 : Keyed → Nat × Nat × Array Keyed × Nat × Nat × Nat} {r2 r5 : Keyed → Keyed → Nat → Nat × Nat × Array Keyed × Nat × Nat × Nat} {r3 r4 : Keyed → Keyed → Nat → Keyed → Nat × Nat × Array Keyed × Nat × Nat × Nat} {c : Nat → Bool} {u v u' v' : Keyed → Keyed → Nat → Keyed → Nat × Nat × Nat}
    (hF : ∀ y, F y = if (nb - 1 == 1) = true then pure (.done (some (b.extract 0 (nb - 1) ++ a.extract 0 na ++ (o.push y).reverse), r1 y)) else elem' a (na - 1) >>= fun x => gallop' true x b 0 (nb - 1) (nb - 1 - 1) >>= G y x)
    (hG : ∀ y x k, G y x (some k) = if nb - 1 - k > 0 then (if (k == 1) = true then pure (.done (some (b.extract 0 k ++ a.extract 0 na ++ (o.push y ++ (b.extract k (nb - 1)).reverse).reverse), r2 y x k)) else if (k == 0) = true then pure (.done (some (a.extract 0 na ++ b.extract 0 k ++ (o.push y ++ (b.extract k (nb - 1)).reverse).reverse), r5 y x k)) else elem' a (na - 1) >>= T y x k) else elem' a (na - 1) >>= T' y x k)
    (hT : ∀ y x k z, T y x k z = if (na - 1 == 0) = true then pure (.done (some (a.extract 0 (na - 1) ++ b.extract 0 k ++ ((o.push y ++ (b.extract k (nb - 1)).reverse).push z).reverse), r3 y x k z)) else if c k = true then pure (.done (none, na - 1, k, (o.push y ++ (b.extract k (nb - 1)).reverse).push z, u y x k z)) else pure (.yield (none, na - 1, k, (o.push y ++ (b.extract k (nb - 1)).reverse).push z, v y x k z)))
    (hT' : ∀ y x k z, T' y x k z = if (na - 1 == 0) = true then pure (.done (some (a.extract 0 (na - 1) ++ b.extract 0 (nb - 1) ++ ((o.push y).push z).reverse), r4 y x k z)) else if c k = true then pure (.done (none, na - 1, nb - 1, (o.push y).push z, u' y x k z)) else pure (.yield (none, na - 1, nb - 1, (o.push y).push z, v' y x k z))) : HiMid a b o na nb F
theorem hi_mid (C : Ask prog w A E s kd O key ok) (oka : ∀ i (h : i < a.size), ok a[i]) (okb : ∀ i (h : i < b.size), ok b[i]) (sb : b.toList.Pairwise (leK O key)) (hl : ∀ x ∈ a.toList, ltK O key (atK b 0) x = true)
    {o : Array Keyed} {na nb r : Nat} (mg : HiOk O key all a b o na nb) (e : ltK O key (atK b (nb - 1)) (atK a (na - 1)) = false) (hr : na + nb ≤ r) {st : SortSt} (hk : kindOf st = kd) {Q : ForInStep HalSt → SortSt → Prop} (h : ∀ t, TurnH O key all a b r t → Q t st)
    {F : Keyed → HM} (M : HiMid a b o na nb F) :
    wpS (model prog w) A E s (elem' b (nb - 1) >>= F) Q st := by
  obtain ⟨hF, hG, hT, hT'⟩ := M
  obtain ⟨mg, a0, al, b0, bl⟩ := mg
  have m := mg.push_b a0 al (by omega) bl e
  have hb0 : 0 < b.size := by omega
  refine wpS_bind (elem_at (by omega) ?_)
  rw [hF]
  rcases eq0_cases (n := nb - 1) (m := 1) with ⟨q, q'⟩ | ⟨q, q'⟩
  · rw [if_pos q]
    rw [q'] at m ⊢
    exact wpS_pure (h _ (.inl ⟨_, _, rfl, m.last hb0 hl⟩))
  · rw [if_neg q]
    have ha1 : na - 1 < a.size := by omega
    refine wpS_bind (elem_at ha1 (wpS_bind (gal_left C sb okb (by rw [atK_eq ha1]; exact oka _ ha1) (by omega) (by omega) hk fun k hk1 y1 y2 => ?_)))
    rw [hG]
    simp only [Nat.zero_add] at y1 y2
    by_cases q1 : nb - 1 - k > 0
    · rw [if_pos q1]
      have m2 := m.more_b (k := k) hk1 a0 al y2
      rcases eq0_cases (n := k) (m := 1) with ⟨q, q'⟩ | ⟨q, q'⟩
      · rw [if_pos q]
        subst q'
        exact wpS_pure (h _ (.inl ⟨_, _, rfl, m2.last hb0 hl⟩))
      · rw [if_neg q]
        rcases eq0_cases (n := k) (m := 0) with ⟨p, p'⟩ | ⟨p, p'⟩
        · rw [if_pos p]
          subst p'
          exact wpS_pure (h _ (.inl ⟨_, _, rfl, m2.done0⟩))
        · rw [if_neg p, funext (hT _ _ _)]
          exact hi_tail ⟨m2, a0, al, by omega, by omega⟩ (y1 _ (by omega)) (by omega) h
    · rw [if_neg q1, funext (hT' _ _ _)]
      exact hi_tail ⟨m, a0, al, by omega, by omega⟩ (y1 _ (by omega)) (by omega) h
/-- the shape of a galloping turn -/
inductive HiFr (a b o : Array Keyed) (na nb : Nat) (F0 : Unit → HM) : Prop where
  | mk {F1 : Keyed → HM} {F2 : Keyed → Option Nat → HM} {F3 F4 : Keyed → Nat → Keyed → HM} {r1 : Keyed → Nat → Nat × Nat × Array Keyed × Nat × Nat × Nat}
    (h0 : F0 () = elem' b (nb - 1) >>= F1) (h1 : ∀ y, F1 y = gallop' false y a 0 na (na - 1) >>= F2 y)
    (h2 : ∀ y k, F2 y (some k) = if na - k > 0 then (if (k == 0) = true then pure (.done (some (a.extract 0 k ++ b.extract 0 nb ++ (o ++ (a.extract k na).reverse).reverse), r1 y k)) else elem' b (nb - 1) >>= F3 y k) else elem' b (nb - 1) >>= F4 y k)
    (h3 : ∀ y k, HiMid a b (o ++ (a.extract k na).reverse) k nb (F3 y k)) (h4 : ∀ y k, HiMid a b o na nb (F4 y k)) : HiFr a b o na nb F0
theorem hi_front (C : Ask prog w A E s kd O key ok) (oka : ∀ i (h : i < a.size), ok a[i]) (okb : ∀ i (h : i < b.size), ok b[i]) (sa : a.toList.Pairwise (leK O key)) (sb : b.toList.Pairwise (leK O key)) (hl : ∀ x ∈ a.toList, ltK O key (atK b 0) x = true)
    {o : Array Keyed} {na nb : Nat} (mg : HiOk O key all a b o na nb) {st : SortSt} (hk : kindOf st = kd) {Q : ForInStep HalSt → SortSt → Prop} (h : ∀ t st', Like st st' → TurnH O key all a b (na + nb) t → Q t st')
    {g : Nat} {F0 : Unit → HM} (M : HiFr a b o na nb F0) : wpS (model prog w) A E s (setGal' g >>= F0) Q st := by
  obtain ⟨h0, h1, h2, h3, h4⟩ := M
  refine wpS_bind (setGal_go fun st4 lk4 => ?_)
  have k5 : kindOf st4 = kd := lk4.k.trans hk
  have fin : ∀ t, TurnH O key all a b (na + nb) t → Q t st4 := fun t => h t st4 lk4
  obtain ⟨mg, a0, al, b0, bl⟩ := mg
  have hb1 : nb - 1 < b.size := by omega
  rw [h0]
  refine wpS_bind (elem_at hb1 ?_)
  rw [h1]
  refine wpS_bind (gal_right C sa oka (by rw [atK_eq hb1]; exact okb _ hb1) (by rw [Nat.zero_add]; exact al) (Nat.sub_lt a0 Nat.one_pos) k5 fun k hk1 y1 y2 => ?_)
  simp only [Nat.zero_add] at y1 y2
  rw [h2]
  by_cases q1 : na - k > 0
  · rw [if_pos q1]
    have one := mg.more_a (k := k) hk1 (Nat.lt_of_succ_lt b0) bl y2
    rcases eq0_cases (n := k) (m := 0) with ⟨q, q'⟩ | ⟨q, q'⟩
    · rw [if_pos q]
      subst q'
      exact wpS_pure (fin _ (.inl ⟨_, _, rfl, one.done⟩))
    · rw [if_neg q]
      have k0 : 0 < k := Nat.pos_of_ne_zero q'
      exact hi_mid C oka okb sb hl ⟨one, k0, Nat.le_trans hk1 al, b0, bl⟩ (y1 _ (Nat.sub_lt k0 Nat.one_pos)) (Nat.add_le_add_right hk1 nb) k5 fin (h3 _ _)
  · rw [if_neg q1]
    have hkn : k = na := Nat.le_antisymm hk1 (Nat.le_of_sub_eq_zero (Nat.eq_zero_of_not_pos q1))
    exact hi_mid C oka okb sb hl ⟨mg, a0, al, b0, bl⟩ (y1 _ (by rw [hkn]; exact Nat.sub_lt a0 Nat.one_pos)) (Nat.le_refl _) k5 fin (h4 _ _)
end
end Mine.Ts
end

section
open PySem PyProof.Rows
namespace Mine.Ts
noncomputable def mergeHi' : Array Keyed → Array Keyed → StateT SortSt Sem (Array Keyed) := sortPriv% PySem.Builtin.mergeHi
noncomputable abbrev HiSt := Option (Array Keyed) × Nat × Nat × Array Keyed × Nat × Nat
noncomputable abbrev HIM := StateT SortSt Sem (ForInStep HiSt)
noncomputable abbrev HoSt := Option (Array Keyed) × Nat × Nat × Array Keyed × Nat
noncomputable abbrev HOM := StateT SortSt Sem (ForInStep HoSt)
section
variable {prog : Program} {w : World} {A : Around} {E : Value → Shared → Prop} {s : Shared} {kd : SortKind} {O : KeyOrd} {key : Keyed → O.α} {ok : Keyed → Prop} {all : List Keyed} {a b : Array Keyed}
structure HiIn (prog : Program) (w : World) (A : Around) (E : Value → Shared → Prop) (s : Shared) (kd : SortKind) (O : KeyOrd) (key : Keyed → O.α) (ok : Keyed → Prop) (a b : Array Keyed) : Prop where
  C : Ask prog w A E s kd O key ok
  oka : ∀ i (h : i < a.size), ok a[i]
  okb : ∀ i (h : i < b.size), ok b[i]
  sa : a.toList.Pairwise (leK O key)
  sb : b.toList.Pairwise (leK O key)
  hl : ∀ x ∈ a.toList, ltK O key (atK b 0) x = true
/-! the galloping loop -/
inductive HiG (a b : Array Keyed) (F : Nat → HalSt → HM) : Prop where
  | mk {g1 : Nat → Nat → Array Keyed → Nat → Nat → Nat → Nat} {F0 F0' : Nat → Nat → Array Keyed → Nat → Nat → Nat → Unit → HM}
    (hF : ∀ x i j o g ac bc, F x (none, i, j, o, g, ac, bc) = if g > 1 then setGal' (g1 i j o g ac bc) >>= F0 i j o g ac bc else setGal' g >>= F0' i j o g ac bc)
    (h1 : ∀ i j o g ac bc, HiFr a b o i j (F0 i j o g ac bc)) (h2 : ∀ i j o g ac bc, HiFr a b o i j (F0' i j o g ac bc)) : HiG a b F
structure HGI (st : SortSt) (O : KeyOrd) (key : Keyed → O.α) (all : List Keyed) (a b : Array Keyed) (r : Nat) (c : HalSt) (st' : SortSt) (i j : Nat) (o : Array Keyed) (g ac bc : Nat) : Prop where
  e : c = (none, i, j, o, g, ac, bc)
  lk : Like st st'
  ok : HiOk O key all a b o i j
  r : i + j ≤ r
theorem hi_gal (I : HiIn prog w A E s kd O key ok a b) {F : Nat → HalSt → HM} (S : HiG a b F) {o : Array Keyed} {i j g ac bc N r : Nat} {st : SortSt} (hk : kindOf st = kd) (ho : HiOk O key all a b o i j) (hr : i + j ≤ r) {Q : HalSt → SortSt → Prop}
    (q1 : ∀ R rest st', Like st st' → Srt (leK O key) all R.toList → Q (some R, rest) st') (q2 : ∀ i j o g ac bc st', Like st st' → HiOk O key all a b o i j → i + j ≤ r → Q (none, i, j, o, g, ac, bc) st') :
    wpS (model prog w) A E s (forIn [:N] ((none, i, j, o, g, ac, bc) : HalSt) F) Q st := by
  refine wpS_forRange (I := fun _ c st' => ∃ i j o g ac bc, HGI st O key all a b r c st' i j o g ac bc) ?_ ?_ ⟨i, j, o, g, ac, bc, rfl, Like.refl _, ho, hr⟩
  · rintro y c st3 _ _ ⟨i, j, o, g, ac, bc, rfl, lk, ho, hr⟩
    obtain ⟨hF, h1, h2⟩ := S
    have pick : ∃ g' F0, HiFr a b o i j F0 ∧ F y (none, i, j, o, g, ac, bc) = setGal' g' >>= F0 := by
      rw [hF]
      by_cases gg : g > 1
      · rw [if_pos gg]; exact ⟨_, _, h1 i j o g ac bc, rfl⟩
      · rw [if_neg gg]; exact ⟨_, _, h2 i j o g ac bc, rfl⟩
    obtain ⟨g', F0, M, e⟩ := pick
    rw [e]
    refine hi_front I.C I.oka I.okb I.sa I.sb I.hl ho (lk.k.trans hk) (fun t st4 lk4 ht => ?_) M
    cases t with
    | done c =>
      rcases ht with ⟨R, rest, rfl, hR⟩ | ⟨i', j', o, g, ac, bc, rfl, m, t3⟩
      · exact q1 R rest st4 (lk.trans lk4) hR
      · exact q2 i' j' o g ac bc st4 (lk.trans lk4) m (Nat.le_trans t3 hr)
    | yield c =>
      obtain ⟨i', j', o, g, ac, bc, rfl, m, t3⟩ := ht
      exact ⟨i', j', o, g, ac, bc, rfl, lk.trans lk4, m, Nat.le_trans (Nat.le_of_succ_le t3) hr⟩
  · rintro c st3 ⟨i, j, o, g, ac, bc, rfl, lk, ho, hr⟩
    exact q2 i j o g ac bc st3 lk ho hr
/-! one by one -/
inductive HiC (a b : Array Keyed) (F : Nat → HiSt → HIM) : Prop where
  | mk {G : Nat → Nat → Array Keyed → Nat → Nat → Option Bool → HIM} {T1 T2 : Nat → Nat → Array Keyed → Nat → Nat → Keyed → HIM} {r1 r2 : Nat → Nat → Array Keyed → Nat → Nat → Keyed → Nat × Nat × Array Keyed × Nat × Nat} {u1 v1 u2 v2 : Nat → Nat → Array Keyed → Nat → Nat → Keyed → Nat × Nat} {p1 p2 : Nat → Nat → Array Keyed → Nat → Nat → Keyed → Prop} {d1 : ∀ i j o ac bc y, Decidable (p1 i j o ac bc y)} {d2 : ∀ i j o ac bc y, Decidable (p2 i j o ac bc y)}
    (hF : ∀ x i j o ac bc, F x (none, i, j, o, ac, bc) = elem' b (j - 1) >>= fun y => elem' a (i - 1) >>= fun z => lt' y z >>= G i j o ac bc)
    (h1 : ∀ i j o ac bc c, G i j o ac bc (some c) = if c = true then elem' a (i - 1) >>= T1 i j o ac bc else elem' b (j - 1) >>= T2 i j o ac bc)
    (h3 : ∀ i j o ac bc y, T1 i j o ac bc y = if (i - 1 == 0) = true then pure (.done (some (a.extract 0 (i - 1) ++ b.extract 0 j ++ (o.push y).reverse), r1 i j o ac bc y)) else if p1 i j o ac bc y then pure (.done (none, i - 1, j, o.push y, u1 i j o ac bc y)) else pure (.yield (none, i - 1, j, o.push y, v1 i j o ac bc y)))
    (h4 : ∀ i j o ac bc y, T2 i j o ac bc y = if (j - 1 == 1) = true then pure (.done (some (b.extract 0 (j - 1) ++ a.extract 0 i ++ (o.push y).reverse), r2 i j o ac bc y)) else if p2 i j o ac bc y then pure (.done (none, i, j - 1, o.push y, u2 i j o ac bc y)) else pure (.yield (none, i, j - 1, o.push y, v2 i j o ac bc y))) : HiC a b F
structure HCI (O : KeyOrd) (key : Keyed → O.α) (all : List Keyed) (a b : Array Keyed) (r y : Nat) (c : HiSt) (i j : Nat) (o : Array Keyed) (ac bc : Nat) : Prop where
  e : c = (none, i, j, o, ac, bc)
  ok : HiOk O key all a b o i j
  r : i + j + y ≤ r
theorem sub_a {i j : Nat} (h : 0 < i) : i - 1 + j + 1 = i + j := by omega
theorem sub_b {i j : Nat} (h : 1 < j) : i + (j - 1) + 1 = i + j := by omega
theorem HiOk.left {o : Array Keyed} {i j : Nat} (h : HiOk O key all a b o i j) : i + j ≤ a.size + b.size := Nat.add_le_add h.al h.bl
theorem HiOk.pos {o : Array Keyed} {i j : Nat} (h : HiOk O key all a b o i j) : 1 ≤ i + j := Nat.le_trans h.a0 (Nat.le_add_right _ _)
theorem HiOk.ia {o : Array Keyed} {i j : Nat} (h : HiOk O key all a b o i j) : i - 1 < a.size := Nat.lt_of_lt_of_le (Nat.sub_lt h.a0 Nat.one_pos) h.al
theorem HiOk.jb {o : Array Keyed} {i j : Nat} (h : HiOk O key all a b o i j) : j - 1 < b.size := Nat.lt_of_lt_of_le (Nat.sub_lt (Nat.lt_of_succ_lt h.b0) Nat.one_pos) h.bl
theorem hi_cmp (I : HiIn prog w A E s kd O key ok a b) (hb : 0 < b.size) {F : Nat → HiSt → HIM} (S : HiC a b F) {o : Array Keyed} {i j ac bc : Nat} {st : SortSt} (hk : kindOf st = kd) (ho : HiOk O key all a b o i j) {Q : HiSt → SortSt → Prop}
    (q1 : ∀ R rest, Srt (leK O key) all R.toList → Q (some R, rest) st) (q2 : ∀ i' j' o' ac bc, HiOk O key all a b o' i' j' → i' + j' + 1 ≤ i + j → Q (none, i', j', o', ac, bc) st) :
    wpS (model prog w) A E s (forIn [:a.size + b.size] ((none, i, j, o, ac, bc) : HiSt) F) Q st := by
  refine wpS_forRange (I := fun y c st' => st' = st ∧ ∃ i' j' o' ac bc, HCI O key all a b (i + j) y c i' j' o' ac bc) ?_ ?_ ⟨rfl, i, j, o, ac, bc, rfl, ho, Nat.le_refl _⟩
  · rintro y c st2 _ _ ⟨rfl, i', j', o', ac, bc, rfl, ho', hr⟩
    obtain ⟨hF, h1, h3, h4⟩ := S
    rw [hF]
    have hi0 := ho'.ia
    have hj0 := ho'.jb
    refine wpS_bind (elem_at hj0 (wpS_bind (elem_at hi0 (wpS_bind (I.C.run _ _ _ (by rw [atK_eq hj0]; exact I.okb _ _) (by rw [atK_eq hi0]; exact I.oka _ _) hk _ ?_)))))
    cases e : ltK O key (atK b (j' - 1)) (atK a (i' - 1)) with
    | true =>
      rw [h1, if_pos rfl]
      have mb := ho'.mg.push_a ho'.a0 ho'.al (Nat.lt_of_succ_lt ho'.b0) ho'.bl e
      have el := sub_a (j := j') ho'.a0
      refine wpS_bind (elem_at hi0 ?_)
      rw [h3]
      rcases eq0_cases (n := i' - 1) (m := 0) with ⟨q, q'⟩ | ⟨q, q'⟩
      · rw [if_pos q]
        rw [q'] at mb ⊢
        exact wpS_pure (q1 _ _ mb.done)
      · rw [if_neg q]
        have ho2 : HiOk O key all a b (o'.push (atK a (i' - 1))) (i' - 1) j' := ⟨mb, Nat.pos_of_ne_zero q', Nat.le_of_lt hi0, ho'.b0, ho'.bl⟩
        split
        · exact wpS_pure (q2 _ _ _ _ _ ho2 (lt_left el hr))
        · exact wpS_pure ⟨rfl, _, _, _, _, _, rfl, ho2, step_le el hr⟩
    | false =>
      rw [h1, if_neg Bool.false_ne_true]
      have mb := ho'.mg.push_b ho'.a0 ho'.al (Nat.lt_of_succ_lt ho'.b0) ho'.bl e
      have el := sub_b (i := i') ho'.b0
      refine wpS_bind (elem_at hj0 ?_)
      rw [h4]
      rcases eq0_cases (n := j' - 1) (m := 1) with ⟨q, q'⟩ | ⟨q, q'⟩
      · rw [if_pos q]
        rw [q'] at mb ⊢
        exact wpS_pure (q1 _ _ (mb.last hb I.hl))
      · rw [if_neg q]
        have ho2 : HiOk O key all a b (o'.push (atK b (j' - 1))) i' (j' - 1) := ⟨mb, ho'.a0, ho'.al, Nat.lt_of_le_of_ne (Nat.le_sub_one_of_lt ho'.b0) (Ne.symm q'), Nat.le_of_lt hj0⟩
        split
        · exact wpS_pure (q2 _ _ _ _ _ ho2 (lt_left el hr))
        · exact wpS_pure ⟨rfl, _, _, _, _, _, rfl, ho2, step_le el hr⟩
  · rintro c st2 ⟨rfl, i', j', o', ac, bc, rfl, ho', hr⟩
    exact (out_of ho'.pos hr ho.left).elim
/-! the outer loop -/
inductive HiO (a b : Array Keyed) (F : Nat → HoSt → HOM) : Prop where
  | mk {F1 : Nat → Nat → Array Keyed → Nat → Nat → HiSt → HIM} {K : Nat → Nat → Array Keyed → Nat → HiSt → HOM} {F2 : Nat → Nat → Array Keyed → Nat → Nat → HalSt → HM} {K2 : Nat → Nat → Array Keyed → Nat → HalSt → HOM} {r1 : Nat → Nat → Array Keyed → Nat → Array Keyed → Nat × Nat × Array Keyed × Nat × Nat → Nat × Nat × Array Keyed × Nat} {r2 : Nat → Nat → Array Keyed → Nat → Array Keyed → Nat × Nat × Array Keyed × Nat × Nat × Nat → Nat × Nat × Array Keyed × Nat} {g1 : Nat → Nat → Array Keyed → Nat → Nat → Nat → Array Keyed → Nat → Nat → Nat} {g2 g3 : Nat → Nat → Array Keyed → Nat → Nat → Nat → Array Keyed → Nat → Nat → Nat → Nat}
    (hF : ∀ x i j o g, F x (none, i, j, o, g) = forIn [:a.size + b.size] ((none, i, j, o, 0, 0) : HiSt) (F1 i j o g) >>= K i j o g) (h1 : ∀ i j o g, HiC a b (F1 i j o g))
    (h2 : ∀ i j o g R rest, K i j o g (some R, rest) = pure (.done (some R, r1 i j o g R rest)))
    (h3 : ∀ i j o g i' j' o' ac bc, K i j o g (none, i', j', o', ac, bc) = (liftM (rule "list.sort.gallop") : StateT SortSt Sem Unit) >>= fun _ => forIn [:a.size + b.size] ((none, i', j', o', g1 i j o g i' j' o' ac bc, ac, bc) : HalSt) (F2 i j o g) >>= K2 i j o g) (h4 : ∀ i j o g, HiG a b (F2 i j o g))
    (h5 : ∀ i j o g R rest, K2 i j o g (some R, rest) = pure (.done (some R, r2 i j o g R rest)))
    (h6 : ∀ i j o g i' j' o' g' ac bc, K2 i j o g (none, i', j', o', g', ac, bc) = setGal' (g2 i j o g i' j' o' g' ac bc) >>= fun _ => pure (.yield (none, i', j', o', g3 i j o g i' j' o' g' ac bc))) : HiO a b F
structure HOI (st : SortSt) (O : KeyOrd) (key : Keyed → O.α) (all : List Keyed) (a b : Array Keyed) (x : Nat) (c : HoSt) (st' : SortSt) (i j : Nat) (o : Array Keyed) (g : Nat) : Prop where
  e : c = (none, i, j, o, g)
  lk : Like st st'
  ok : HiOk O key all a b o i j
  r : i + j + x ≤ a.size + b.size
theorem hi_out (I : HiIn prog w A E s kd O key ok a b) (hb : 0 < b.size) {F : Nat → HoSt → HOM} (S : HiO a b F) {o : Array Keyed} {i j g : Nat} {st : SortSt} (hk : kindOf st = kd) (ho : HiOk O key all a b o i j) {Q : HoSt → SortSt → Prop} (q : ∀ R rest st', Like st st' → Srt (leK O key) all R.toList → Q (some R, rest) st') :
    wpS (model prog w) A E s (forIn [:a.size + b.size] ((none, i, j, o, g) : HoSt) F) Q st := by
  refine wpS_forRange (I := fun x c st' => ∃ i j o g, HOI st O key all a b x c st' i j o g) ?_ ?_ ⟨i, j, o, g, rfl, Like.refl _, ho, ho.left⟩
  · rintro x c st1 _ _ ⟨i, j, o, g, rfl, lk, ho, hr⟩
    obtain ⟨hF, h1, h2, h3, h4, h5, h6⟩ := S
    rw [hF]
    have k1 : kindOf st1 = kd := lk.k.trans hk
    refine wpS_bind (hi_cmp I hb (h1 ..) k1 ho (fun R rest hR => ?_) fun i' j' o' ac bc ho' hr' => ?_)
    · rw [h2]; exact wpS_pure (q R _ st1 lk hR)
    · rw [h3]
      refine wpS_bind (wpS_lift (wpAny_rule ⟨rfl, wpS_bind (hi_gal I (h4 ..) k1 ho' (Nat.le_refl _) (fun R rest st3 lk3 hR => ?_) fun i3 j3 o3 g3 ac3 bc3 st3 lk3 ho3 hr3 => ?_)⟩))
      · rw [h5]; exact wpS_pure (q R _ st3 (lk.trans lk3) hR)
      · rw [h6]
        exact wpS_bind (setGal_go fun st4 lk4 => wpS_pure ⟨i3, j3, o3, _, rfl, (lk.trans lk3).trans lk4, ho3, turn_le hr' hr3 hr⟩)
  · rintro c st1 ⟨i, j, o, g, rfl, lk, ho, hr⟩
    exact (out_of ho.pos hr (Nat.le_refl _)).elim
/-! all of it -/
inductive HiA (a b : Array Keyed) (M : StateT SortSt Sem (Array Keyed)) : Prop where
  | mk {F : Keyed → StateT SortSt Sem (Array Keyed)} {g : Keyed → SortSt → Nat} {F1 : Keyed → SortSt → Nat → HoSt → HOM} {K : Keyed → SortSt → HoSt → StateT SortSt Sem (Array Keyed)}
    (hM : M = (liftM (rule "list.sort.merge-hi") : StateT SortSt Sem Unit) >>= fun _ => elem' a (a.size - 1) >>= F)
    (hF : ∀ y, F y = if (a.size - 1 == 0) = true then pure (a.extract 0 (a.size - 1) ++ b.extract 0 b.size ++ #[y].reverse) else if (b.size == 1) = true then pure (b.extract 0 b.size ++ a.extract 0 (a.size - 1) ++ #[y].reverse) else (get : StateT SortSt Sem SortSt) >>= fun s => forIn [:a.size + b.size] ((none, a.size - 1, b.size, #[y], g y s) : HoSt) (F1 y s) >>= K y s)
    (h1 : ∀ y s, HiO a b (F1 y s)) (h2 : ∀ y s R rest, K y s (some R, rest) = pure R) : HiA a b M
theorem hi_all (I : HiIn prog w A E s kd O key ok a b) {M : StateT SortSt Sem (Array Keyed)} (S : HiA a b M) (ha : 0 < a.size) (hb : 0 < b.size) (h0 : ltK O key (atK b (b.size - 1)) (atK a (a.size - 1)) = true) {st : SortSt} (hk : kindOf st = kd) {Q : Array Keyed → SortSt → Prop}
    (h : ∀ R st', Like st st' → Srt (leK O key) (a.toList ++ b.toList) R.toList → Q R st') : wpS (model prog w) A E s M Q st := by
  obtain ⟨hM, hF, h1, h2⟩ := S
  have m0 : MgB O key (a.toList ++ b.toList) a b #[] a.size b.size := by
    have ea : a.toList.take a.size = a.toList := List.take_of_length_le (by rw [Array.length_toList]; exact Nat.le_refl _)
    have eb : b.toList.take b.size = b.toList := List.take_of_length_le (by rw [Array.length_toList]; exact Nat.le_refl _)
    refine ⟨?_, List.Pairwise.nil, ?_, ?_, fun _ h => absurd h List.not_mem_nil, fun _ h => absurd h List.not_mem_nil⟩
    · rw [ea, eb]; exact List.Perm.append (l₁ := a.toList.reverse) (List.reverse_perm _) (List.reverse_perm _)
    · rw [ea]; exact List.pairwise_reverse.2 I.sa
    · rw [eb]; exact List.pairwise_reverse.2 I.sb
  have m1 := m0.push_a ha (Nat.le_refl _) hb (Nat.le_refl _) h0
  rw [hM]
  refine wpS_bind (wpS_lift (wpAny_rule ⟨rfl, wpS_bind (elem_at (Nat.sub_lt ha Nat.one_pos) ?_)⟩))
  rw [hF]
  rcases eq0_cases (n := a.size - 1) (m := 0) with ⟨q, q'⟩ | ⟨q, q'⟩
  · rw [if_pos q]
    rw [q'] at m1 ⊢
    exact wpS_pure (h _ st (Like.refl _) m1.done)
  rw [if_neg q]
  rcases eq0_cases (n := b.size) (m := 1) with ⟨p, p'⟩ | ⟨p, p'⟩
  · rw [if_pos p]
    rw [p'] at m1 ⊢
    exact wpS_pure (h _ st (Like.refl _) (m1.last hb I.hl))
  rw [if_neg p]
  refine wpS_bind (wpS_get (wpS_bind (hi_out I hb (h1 ..) hk ⟨m1, Nat.pos_of_ne_zero q', Nat.sub_le _ _, Nat.lt_of_le_of_ne hb (Ne.symm p'), Nat.le_refl _⟩ fun R rest st' lk hR => ?_)))
  rw [h2]
  exact wpS_pure (h R st' lk hR)
theorem mergeHi_go (I : HiIn prog w A E s kd O key ok a b) (ha : 0 < a.size) (hb : 0 < b.size) (h0 : ltK O key (atK b (b.size - 1)) (atK a (a.size - 1)) = true) {st : SortSt} (hk : kindOf st = kd) {Q : Array Keyed → SortSt → Prop}
    (h : ∀ R st', Like st st' → Srt (leK O key) (a.toList ++ b.toList) R.toList → Q R st') : wpS (model prog w) A E s (mergeHi' a b) Q st := by
  refine hi_all I ?_ ha hb h0 hk h
  apply HiA.mk
  · rfl
  · exact fun _ => rfl
  · intro _ _
    apply HiO.mk
    · exact fun _ _ _ _ _ => rfl
    · intro _ _ _ _
      apply HiC.mk
      · exact fun _ _ _ _ _ _ => rfl
      · exact fun _ _ _ _ _ _ => rfl
      · exact fun _ _ _ _ _ _ => rfl
      · exact fun _ _ _ _ _ _ => rfl
    · exact fun _ _ _ _ _ _ => rfl
    · exact fun _ _ _ _ _ _ _ _ _ => rfl
    · intro _ _ _ _
      apply HiG.mk
      · exact fun _ _ _ _ _ _ _ => rfl
      · intro _ _ _ _ _ _
        apply HiFr.mk
        · rfl
        · exact fun _ => rfl
        · exact fun _ _ => rfl
        · intro _ _
          apply HiMid.mk
          · exact fun _ => rfl
          · exact fun _ _ _ => rfl
          · exact fun _ _ _ _ => rfl
          · exact fun _ _ _ _ => rfl
        · intro _ _
          apply HiMid.mk
          · exact fun _ => rfl
          · exact fun _ _ _ => rfl
          · exact fun _ _ _ _ => rfl
          · exact fun _ _ _ _ => rfl
      · intro _ _ _ _ _ _
        apply HiFr.mk
        · rfl
        · exact fun _ => rfl
        · exact fun _ _ => rfl
        · intro _ _
          apply HiMid.mk
          · exact fun _ => rfl
          · exact fun _ _ _ => rfl
          · exact fun _ _ _ _ => rfl
          · exact fun _ _ _ _ => rfl
        · intro _ _
          apply HiMid.mk
          · exact fun _ => rfl
          · exact fun _ _ _ => rfl
          · exact fun _ _ _ _ => rfl
          · exact fun _ _ _ _ => rfl
    · exact fun _ _ _ _ _ _ => rfl
    · exact fun _ _ _ _ _ _ _ _ _ _ => rfl
  · exact fun _ _ _ _ => rfl
end
end Mine.Ts
end

section
open PySem PyProof.Rows
namespace Mine.Ts
/-! ## runs that begin at any place -/
noncomputable def kk {O : KeyOrd} (key : Keyed → O.α) (xs : Array Keyed) (i : Nat) : O.α := key (atK xs i)
section
variable {O : KeyOrd} {key : Keyed → O.α}
theorem kk_congr {xs ys : Array Keyed} {i j : Nat} (h : xs[i]? = ys[j]?) : kk key xs i = kk key ys j := by unfold kk atK; rw [h]
theorem kk_bubble {xs : Array Keyed} {src d : Nat} (hs : src < xs.size) (hd : d ≤ src) (k : Nat) :
    kk key (bubble xs src d) k = if k = src - d then kk key xs src else if src - d < k ∧ k ≤ src then kk key xs (k - 1) else kk key xs k := by
  have e := getElem?_bubble hs d hd k
  by_cases h1 : k = src - d
  · rw [if_pos h1] at e ⊢; exact kk_congr e
  · rw [if_neg h1] at e ⊢
    by_cases h2 : src - d < k ∧ k ≤ src
    · rw [if_pos h2] at e ⊢; exact kk_congr e
    · rw [if_neg h2] at e ⊢; exact kk_congr e
theorem kk_mirror {xs : Array Keyed} {i j : Nat} (hj : j ≤ xs.size) (k : Nat) :
    kk key (mirror xs i j ((j - i) / 2)) k = if i ≤ k ∧ k < j then kk key xs (i + j - 1 - k) else kk key xs k := by
  have e := getElem?_mirror_all (i := i) hj k
  by_cases h1 : i ≤ k ∧ k < j
  · rw [if_pos h1] at e ⊢; exact kk_congr e
  · rw [if_neg h1] at e ⊢; exact kk_congr e
theorem kk_mirror_equal {xs : Array Keyed} {i j : Nat} (hj : j ≤ xs.size) (heq : ∀ k, i ≤ k → k < j → kk key xs k = kk key xs (j - 1)) (k : Nat) :
    kk key (mirror xs i j ((j - i) / 2)) k = kk key xs k := by
  rw [kk_mirror hj]
  by_cases q : i ≤ k ∧ k < j
  · rw [if_pos q, heq _ (by omega) (by omega), heq k (by omega) (by omega)]
  · rw [if_neg q]
/-- in order from a place to another -/
noncomputable def SrtIn (key : Keyed → O.α) (xs : Array Keyed) (lo hi : Nat) : Prop := ∀ i j, lo ≤ i → i ≤ j → j < hi → O.kle (kk key xs i) (kk key xs j)
noncomputable def FallIn (key : Keyed → O.α) (xs : Array Keyed) (lo hi : Nat) : Prop := ∀ i j, lo ≤ i → i ≤ j → j < hi → O.kle (kk key xs j) (kk key xs i)
theorem SrtIn.more {xs : Array Keyed} {lo hi : Nat} (h : SrtIn key xs lo hi) (hl : lo < hi) (e : O.kle (kk key xs (hi - 1)) (kk key xs hi)) : SrtIn key xs lo (hi + 1) := fun i j h1 h2 h3 => by
  rcases Nat.lt_or_ge j hi with q | q
  · exact h i j h1 h2 q
  · obtain rfl : j = hi := by omega
    rcases Nat.lt_or_ge i j with p | p
    · exact KeyOrd.kle_trans (h i (j - 1) h1 (by omega) (by omega)) e
    · obtain rfl : i = j := by omega
      exact KeyOrd.kle_refl _
theorem FallIn.more {xs : Array Keyed} {lo hi : Nat} (h : FallIn key xs lo hi) (hl : lo < hi) (e : O.kle (kk key xs hi) (kk key xs (hi - 1))) : FallIn key xs lo (hi + 1) := fun i j h1 h2 h3 => by
  rcases Nat.lt_or_ge j hi with q | q
  · exact h i j h1 h2 q
  · obtain rfl : j = hi := by omega
    rcases Nat.lt_or_ge i j with p | p
    · exact KeyOrd.kle_trans e (h i (j - 1) h1 (by omega) (by omega))
    · obtain rfl : i = j := by omega
      exact KeyOrd.kle_refl _
theorem SrtIn.one (xs : Array Keyed) (lo : Nat) : SrtIn key xs lo (lo + 1) := fun i j h1 h2 h3 => by
  obtain rfl : i = j := by omega
  exact KeyOrd.kle_refl _
theorem FallIn.one (xs : Array Keyed) (lo : Nat) : FallIn key xs lo (lo + 1) := fun i j h1 h2 h3 => by
  obtain rfl : i = j := by omega
  exact KeyOrd.kle_refl _
end
/-- the same but for what lies at or behind a place -/
structure Keep (lo : Nat) (st st' : SortSt) : Prop where
  k : kindOf st' = kindOf st
  p : pendingOf st' = pendingOf st
  f : failedOf st' = failedOf st
  perm : (arrOf st').Perm (arrOf st)
  low : ∀ i < lo, (arrOf st')[i]? = (arrOf st)[i]?
theorem Keep.refl (lo : Nat) (st : SortSt) : Keep lo st st := ⟨rfl, rfl, rfl, Array.Perm.refl _, fun _ _ => rfl⟩
theorem Keep.trans {lo : Nat} {a b c : SortSt} (h : Keep lo a b) (h2 : Keep lo b c) : Keep lo a c := ⟨h2.k.trans h.k, h2.p.trans h.p, h2.f.trans h.f, h2.perm.trans h.perm, fun i hi => (h2.low i hi).trans (h.low i hi)⟩
theorem Keep.size {lo : Nat} {a b : SortSt} (h : Keep lo a b) : (arrOf b).size = (arrOf a).size := h.perm.size_eq
theorem Keep.bub {lo src d : Nat} (st : SortSt) (hs : src < (arrOf st).size) (hd : lo + d ≤ src) : Keep lo st (setArr st (bubble (arrOf st) src d)) :=
  ⟨rfl, rfl, rfl, bubble_perm _ _ _, fun i hi => by
    show (bubble (arrOf st) src d)[i]? = _
    rw [getElem?_bubble hs d (by omega), if_neg (by omega), if_neg (by omega)]⟩
theorem Keep.mir {lo i j : Nat} (st : SortSt) (hj : j ≤ (arrOf st).size) (hi : lo ≤ i) : Keep lo st (setArr st (mirror (arrOf st) i j ((j - i) / 2))) :=
  ⟨rfl, rfl, rfl, mirror_perm _ _ _ _, fun k hk => by
    show (mirror (arrOf st) i j ((j - i) / 2))[k]? = _
    rw [getElem?_mirror_all hj, if_neg (by omega)]⟩
section
variable {prog : Program} {w : World} {A : Around} {E : Value → Shared → Prop} {s : Shared} {kd : SortKind} {O : KeyOrd} {key : Keyed → O.α} {ok : Keyed → Prop}
/-- a state whose keys can be compared -/
structure Fit (kd : SortKind) (ok : Keyed → Prop) (st : SortSt) : Prop where
  k : kindOf st = kd
  ok : ∀ x ∈ (arrOf st).toList, ok x
theorem Fit.keep {lo : Nat} {st st' : SortSt} (h : Fit kd ok st) (q : Keep lo st st') : Fit kd ok st' := ⟨q.k.trans h.k, fun x hx => h.ok x ((Array.perm_iff_toList_perm.mp q.perm).mem_iff.mp hx)⟩
theorem Fit.at {st : SortSt} (h : Fit kd ok st) {i : Nat} (hi : i < (arrOf st).size) : ok (atK (arrOf st) i) := by
  rw [atK_eq hi]; exact h.ok _ (by simp)
theorem ltAt_go (C : Ask prog w A E s kd O key ok) {st : SortSt} (F : Fit kd ok st) {i j : Nat} (hi : i < (arrOf st).size) (hj : j < (arrOf st).size) {Q : Option Bool → SortSt → Prop}
    (h : Q (some (O.blt (kk key (arrOf st) i) (kk key (arrOf st) j))) st) : wpS (model prog w) A E s (ltAt' i j) Q st := by
  rw [ltAt'_eq]
  refine wpS_bind (wpS_get ?_)
  exact wpS_bind (elem_at hi (wpS_bind (elem_at hj (C.run _ _ _ (F.at hi) (F.at hj) F.k _ h))))
theorem binarySort_go (C : Ask prog w A E s kd O key ok) {st : SortSt} (F : Fit kd ok st) {lo n m : Nat} (hn : lo + n ≤ (arrOf st).size) (hm : m ≤ n) (hs : SrtIn key (arrOf st) lo (lo + m)) {Q : Bool → SortSt → Prop}
    (h : ∀ st', Keep lo st st' → SrtIn key (arrOf st') lo (lo + n) → Q true st') : wpS (model prog w) A E s (binarySort' lo n m) Q st := by
  rw [binarySort'_eq]
  refine wpS_bind (wpS_mono (wpS_forRange (I := fun k c st' => c = (none, ()) ∧ Keep lo st st' ∧ SrtIn key (arrOf st') lo (lo + min k n))
    (Q := fun c st' => c = (none, ()) ∧ Keep lo st st' ∧ SrtIn key (arrOf st') lo (lo + n)) ?step ?fin ?init) ?post)
  case post =>
    rintro c st' ⟨rfl, hB', hs'⟩
    exact wpS_pure (h st' hB' hs')
  case init =>
    refine ⟨rfl, Keep.refl _ _, ?_⟩
    rcases Nat.eq_zero_or_pos m with rfl | q
    · exact fun i j h1 h2 h3 => by
        obtain rfl : i = j := by omega
        exact KeyOrd.kle_refl _
    · exact fun i j h1 h2 h3 => hs i j h1 h2 (by omega)
  case fin =>
    rintro c st' ⟨hc, hB', hs'⟩
    exact ⟨hc, hB', by rwa [show min (max (max m 1) n) n = n by omega] at hs'⟩
  case step =>
    rintro k c st' hak hkn ⟨rfl, hB', hs'⟩
    rw [show min k n = k by omega] at hs'
    have F' := F.keep hB'
    have hsz := hB'.size
    have hk : lo + k < (arrOf st').size := by omega
    refine wpS_bind (wpS_mono (wpS_forRange (I := fun x c st'' => st'' = st' ∧ ∃ l r, c = (none, l, r) ∧ l ≤ r ∧ r ≤ k ∧ r - l ≤ k - x ∧
        (∀ i, lo ≤ i → i < lo + l → O.kle (kk key (arrOf st') i) (kk key (arrOf st') (lo + k))) ∧ (∀ i, lo + r ≤ i → i < lo + k → O.klt (kk key (arrOf st') (lo + k)) (kk key (arrOf st') i)))
      (Q := fun c st'' => st'' = st' ∧ ∃ l r, c = (none, l, r) ∧ l ≤ k ∧
        (∀ i, lo ≤ i → i < lo + l → O.kle (kk key (arrOf st') i) (kk key (arrOf st') (lo + k))) ∧ (∀ i, lo + l ≤ i → i < lo + k → O.klt (kk key (arrOf st') (lo + k)) (kk key (arrOf st') i))) ?istep ?ifin ?iinit) ?ipost)
    case iinit => exact ⟨rfl, 0, k, rfl, by omega, by omega, by omega, fun i h1 h2 => by omega, fun i h1 h2 => by omega⟩
    case ifin =>
      rintro c st'' ⟨rfl, l, r, rfl, hlr, hrk, hm, hlo, hhi⟩
      obtain rfl : l = r := by omega
      exact ⟨rfl, l, l, rfl, hrk, hlo, hhi⟩
    case istep =>
      rintro x c st'' _ hxk ⟨rfl, l, r, rfl, hlr, hrk, hm, hlo, hhi⟩
      dsimp only
      by_cases hge : l ≥ r
      · rw [if_pos hge]
        obtain rfl : l = r := by omega
        exact wpS_pure ⟨rfl, l, l, rfl, hrk, hlo, hhi⟩
      · rw [if_neg hge]
        refine wpS_bind (ltAt_go C F' hk (by omega) ?_)
        dsimp only
        cases hless : O.blt (kk key (arrOf st'') (lo + k)) (kk key (arrOf st'') (lo + (l + r) / 2)) with
        | true =>
          rw [if_pos rfl]
          exact wpS_pure ⟨rfl, l, (l + r) / 2, rfl, by omega, by omega, by omega, hlo, fun i h1 h2 => KeyOrd.klt_of_klt_of_kle hless (hs' _ _ (by omega) h1 h2)⟩
        | false =>
          rw [if_neg (by simp)]
          exact wpS_pure ⟨rfl, (l + r) / 2 + 1, r, rfl, by omega, by omega, by omega, fun i h0 h1 => KeyOrd.kle_trans (hs' i (lo + (l + r) / 2) h0 (by omega) (by omega)) hless, hhi⟩
    case ipost =>
      rintro c st'' ⟨rfl, l, r, rfl, hlk, hlo, hhi⟩
      show wpS _ _ _ _ (do moveDown' (lo + k) (lo + l); pure (ForInStep.yield (none, ()))) _ _
      rw [moveDown'_eq]
      have hd : lo + k - (lo + l) = k - l := by omega
      rw [hd]
      refine wpS_bind (wpS_modify (wpS_pure ⟨rfl, hB'.trans (Keep.bub _ hk (by omega)), ?_⟩))
      rw [show min (k + 1) n = k + 1 by omega]
      intro i j h1 hij hj
      show O.kle (kk key (bubble (arrOf st'') (lo + k) (k - l)) i) (kk key (bubble (arrOf st'') (lo + k) (k - l)) j)
      rw [kk_bubble hk (by omega), kk_bubble hk (by omega), show lo + k - (k - l) = lo + l by omega]
      repeat' split
      all_goals first
        | (exfalso; omega)
        | exact KeyOrd.kle_refl _
        | exact hlo _ (by omega) (by omega)
        | exact KeyOrd.kle_of_klt (hhi _ (by omega) (by omega))
        | exact hs' _ _ (by omega) (by omega) (by omega)
end
end Mine.Ts
end

section
open PySem PyProof.Rows
namespace Mine.Ts
section
variable {prog : Program} {w : World} {A : Around} {E : Value → Shared → Prop} {s : Shared} {kd : SortKind} {O : KeyOrd} {key : Keyed → O.α} {ok : Keyed → Prop}
theorem asc_go (C : Ask prog w A E s kd O key ok) {st : SortSt} (F : Fit kd ok st) {lo a nrem : Nat} (hn : lo + nrem ≤ (arrOf st).size) (ha : 1 ≤ a) (han : a ≤ nrem) (hs : SrtIn key (arrOf st) lo (lo + a))
    {f : Nat → AscSt → StateT SortSt Sem (ForInStep AscSt)} {g : Nat → Nat → Option Bool → StateT SortSt Sem (ForInStep AscSt)} (hf : ∀ x n, f x (none, n) = ltAt' (lo + n) (lo + n - 1) >>= g x n) (g1 : ∀ x n, g x n (some true) = pure (.done (none, n))) (g2 : ∀ x n, g x n (some false) = pure (.yield (none, n + 1)))
    {Q : AscSt → SortSt → Prop} (h : ∀ n, a ≤ n → n ≤ nrem → SrtIn key (arrOf st) lo (lo + n) → (n = nrem ∨ O.klt (kk key (arrOf st) (lo + n)) (kk key (arrOf st) (lo + n - 1))) → Q (none, n) st) :
    wpS (model prog w) A E s (forIn [a:nrem] ((none, a) : AscSt) f) Q st := by
  refine wpS_forRange (I := fun x c st' => st' = st ∧ c = (none, x) ∧ SrtIn key (arrOf st) lo (lo + x)) ?step ?fin ⟨rfl, rfl, hs⟩
  case fin =>
    rintro c st' ⟨rfl, rfl, hs'⟩
    rw [show max a nrem = nrem by omega] at hs' ⊢
    exact h nrem han (Nat.le_refl _) hs' (.inl rfl)
  case step =>
    rintro x c st' hax hxn ⟨rfl, rfl, hs'⟩
    rw [hf]
    refine wpS_bind (ltAt_go C F (by omega) (by omega) ?_)
    cases hless : O.blt (kk key (arrOf st') (lo + x)) (kk key (arrOf st') (lo + x - 1)) with
    | true => rw [g1]; exact wpS_pure (h x hax (by omega) hs' (.inr hless))
    | false => rw [g2]; exact wpS_pure ⟨rfl, rfl, hs'.more (by omega) hless⟩
theorem tail_go (C : Ask prog w A E s kd O key ok) {st : SortSt} (F : Fit kd ok st) {lo n nrem : Nat} (hn : lo + nrem ≤ (arrOf st).size) (h1 : 1 ≤ n) (hnn : n ≤ nrem) (hs : FallIn key (arrOf st) lo (lo + n))
    {f : Nat → AscSt → StateT SortSt Sem (ForInStep AscSt)} {g : Nat → Nat → Option Bool → StateT SortSt Sem (ForInStep AscSt)} {T : Unit → StateT SortSt Sem (Option Nat)} {k : AscSt → StateT SortSt Sem (Option Nat)}
    (hT : T () = forIn [n:nrem] ((none, n) : AscSt) f >>= k) (hf : ∀ x n, f x (none, n) = ltAt' (lo + n) (lo + n - 1) >>= g x n) (g1 : ∀ x n, g x n (some true) = pure (.done (none, n))) (g2 : ∀ x n, g x n (some false) = pure (.yield (none, n + 1)))
    (hk : ∀ m, k (none, m) = pure (some m)) {Q : Option Nat → SortSt → Prop} (h : ∀ m st', Keep lo st st' → 1 ≤ m → m ≤ nrem → SrtIn key (arrOf st') lo (lo + m) → Q (some m) st') :
    wpS (model prog w) A E s (reverseSlice' lo (lo + n) >>= T) Q st := by
  have hsz : lo + n ≤ (arrOf st).size := by omega
  refine wpS_bind (wpS_reverse ?_)
  have K := Keep.mir (lo := lo) (i := lo) st hsz (Nat.le_refl _)
  rw [hT]
  refine wpS_bind (asc_go C (F.keep K) (by rw [K.size]; exact hn) h1 hnn ?_ hf g1 g2 fun m hm1 hm2 hsm _ => ?_)
  · intro i j h0 hij hj
    show O.kle (kk key (mirror (arrOf st) lo (lo + n) ((lo + n - lo) / 2)) i) (kk key (mirror (arrOf st) lo (lo + n) ((lo + n - lo) / 2)) j)
    rw [kk_mirror hsz, kk_mirror hsz, if_pos (by omega), if_pos (by omega)]
    exact hs _ _ (by omega) (by omega) (by omega)
  · rw [hk]; exact wpS_pure (h m _ K (by omega) hm2 hsm)
/-- the last ones are all the same -/
noncomputable def Flat (key : Keyed → O.α) (xs : Array Keyed) (m q : Nat) : Prop := ∀ i, m - (q + 1) ≤ i → i < m → kk key xs i = kk key xs (m - 1)
theorem FallIn.mir {xs : Array Keyed} {lo m i j : Nat} (hj : j ≤ xs.size) (hs : FallIn key xs lo m) (he : ∀ k, i ≤ k → k < j → kk key xs k = kk key xs (j - 1)) : FallIn key (mirror xs i j ((j - i) / 2)) lo m := fun x y h1 h2 h3 => by
  rw [kk_mirror_equal hj he, kk_mirror_equal hj he]; exact hs x y h1 h2 h3
theorem desc_go (C : Ask prog w A E s kd O key ok) {st : SortSt} (F : Fit kd ok st) {lo n nrem : Nat} (hn : lo + nrem ≤ (arrOf st).size) (h1 : 1 ≤ n) (hnn : n ≤ nrem) (hs : FallIn key (arrOf st) lo (lo + n))
    {f : Nat → DescSt → StateT SortSt Sem (ForInStep DescSt)} {g g' : Nat → Nat → Nat → Option Bool → StateT SortSt Sem (ForInStep DescSt)} (hf : ∀ x n q, f x (none, n, q) = ltAt' (lo + n) (lo + n - 1) >>= g x n q)
    (g1 : ∀ x n q, g x n q (some true) = if q > 0 then (reverseSlice' (lo + n - (q + 1)) (lo + n) >>= fun _ => pure (.yield (none, n + 1, 0))) else pure (.yield (none, n + 1, 0))) (g2 : ∀ x n q, g x n q (some false) = ltAt' (lo + n - 1) (lo + n) >>= g' x n q)
    (g3 : ∀ x n q, g' x n q (some true) = pure (.done (none, n, q))) (g4 : ∀ x n q, g' x n q (some false) = pure (.yield (none, n + 1, q + 1)))
    {k : DescSt → StateT SortSt Sem (Option Nat)} {T : Nat → Nat → Unit → StateT SortSt Sem (Option Nat)} {T' : Nat → Nat → StateT SortSt Sem (Option Nat)} (hk : ∀ m q, k (none, m, q) = if q > 0 then reverseSlice' (lo + m - (q + 1)) (lo + m) >>= T m q else T' m q)
    {Q : Option Nat → SortSt → Prop} (h : ∀ m q st', Keep lo st st' → 1 ≤ m → m ≤ nrem → FallIn key (arrOf st') lo (lo + m) → wpS (model prog w) A E s (T m q ()) Q st' ∧ wpS (model prog w) A E s (T' m q) Q st') :
    wpS (model prog w) A E s (forIn [n:nrem] ((none, n, 0) : DescSt) f >>= k) Q st := by
  refine wpS_bind (wpS_mono (wpS_forRange (I := fun x c st' => ∃ q, c = (none, x, q) ∧ Keep lo st st' ∧ FallIn key (arrOf st') lo (lo + x) ∧ q + 1 ≤ x ∧ Flat key (arrOf st') (lo + x) q)
    (Q := fun c st' => ∃ m q, c = (none, m, q) ∧ Keep lo st st' ∧ FallIn key (arrOf st') lo (lo + m) ∧ q + 1 ≤ m ∧ m ≤ nrem ∧ Flat key (arrOf st') (lo + m) q) ?step ?fin ⟨0, rfl, Keep.refl _ _, hs, by omega, fun i h1 h2 => by congr 1; omega⟩) ?post)
  case fin =>
    rintro c st' ⟨q, rfl, K, hs', hq, he⟩
    rw [show max n nrem = nrem by omega] at hs' he hq ⊢
    exact ⟨nrem, q, rfl, K, hs', hq, Nat.le_refl _, he⟩
  case post =>
    rintro c st' ⟨m, q, rfl, K, hs', hq, hm, he⟩
    rw [hk]
    have hsz : lo + m ≤ (arrOf st').size := by rw [K.size]; omega
    by_cases q0 : q > 0
    · rw [if_pos q0]
      exact wpS_bind (wpS_reverse (h m q _ (K.trans (Keep.mir _ hsz (by omega))) (by omega) hm (hs'.mir hsz he)).1)
    · rw [if_neg q0]
      exact (h m q _ K (by omega) hm hs').2
  case step =>
    rintro x c st' hax hxn ⟨q, rfl, K, hs', hq, he⟩
    rw [hf]
    have hsz : lo + x < (arrOf st').size := by rw [K.size]; omega
    have F' := F.keep K
    refine wpS_bind (ltAt_go C F' hsz (by omega) ?_)
    cases hless : O.blt (kk key (arrOf st') (lo + x)) (kk key (arrOf st') (lo + x - 1)) with
    | true =>
      rw [g1]
      have hs2 : FallIn key (arrOf st') lo (lo + x + 1) := hs'.more (by omega) (KeyOrd.kle_of_klt hless)
      by_cases q0 : q > 0
      · rw [if_pos q0]
        refine wpS_bind (wpS_reverse (wpS_pure ⟨0, rfl, K.trans (Keep.mir _ (by omega) (by omega)), ?_, by omega, fun i h1 h2 => by congr 1; omega⟩))
        exact hs2.mir (by omega) he
      · rw [if_neg q0]
        exact wpS_pure ⟨0, rfl, K, hs2, by omega, fun i h1 h2 => by congr 1; omega⟩
    | false =>
      rw [g2]
      refine wpS_bind (ltAt_go C F' (by omega) hsz ?_)
      cases hl2 : O.blt (kk key (arrOf st') (lo + x - 1)) (kk key (arrOf st') (lo + x)) with
      | true => rw [g3]; exact wpS_pure ⟨x, q, rfl, K, hs', hq, by omega, he⟩
      | false =>
        rw [g4]
        have e : kk key (arrOf st') (lo + x) = kk key (arrOf st') (lo + x - 1) := O.total _ _ hless hl2
        refine wpS_pure ⟨q + 1, rfl, K, hs'.more (by omega) (by rw [e]; exact KeyOrd.kle_refl _), by omega, fun i h1 h2 => ?_⟩
        show _ = kk key (arrOf st') (lo + x + 1 - 1)
        rw [Nat.add_sub_cancel]
        rcases Nat.lt_or_ge i (lo + x) with p | p
        · rw [he i (by omega) p, e]
        · rw [show i = lo + x by omega]
theorem countRun_go (C : Ask prog w A E s kd O key ok) {st : SortSt} (F : Fit kd ok st) {lo nrem : Nat} (hn : lo + nrem ≤ (arrOf st).size) (h1 : 1 ≤ nrem) {Q : Option Nat → SortSt → Prop}
    (h : ∀ m st', Keep lo st st' → 1 ≤ m → m ≤ nrem → SrtIn key (arrOf st') lo (lo + m) → Q (some m) st') : wpS (model prog w) A E s (countRun' lo nrem) Q st := by
  refine wpS_bind (asc_go C F hn (Nat.le_refl 1) h1 (SrtIn.one _ _) (fun _ _ => rfl) (fun _ _ => rfl) (fun _ _ => rfl) fun n hn1 hn2 hsn hor => ?_)
  dsimp only
  rcases eq0_cases (n := n) (m := nrem) with ⟨q, q'⟩ | ⟨q, q'⟩
  · exact wpS_iff_pos q (wpS_pure (h n st (Keep.refl _ _) hn1 hn2 hsn))
  · refine wpS_iff_neg q ?_
    have hlt := hor.resolve_left q'
    by_cases hgt : n > 1
    · refine wpS_iff_pos hgt (wpS_bind (ltAt_go C F (by omega) (by omega) ?_))
      dsimp only
      cases hrose : O.blt (kk key (arrOf st) lo) (kk key (arrOf st) (lo + n - 1)) with
      | true => exact wpS_iff_pos rfl (wpS_pure (h n st (Keep.refl _ _) hn1 hn2 hsn))
      | false =>
        refine wpS_iff_neg (by simp) ?_
        have hsz : lo + n ≤ (arrOf st).size := by omega
        have hall : ∀ k, lo ≤ k → k < lo + n → kk key (arrOf st) k = kk key (arrOf st) (lo + n - 1) := fun k h1 h2 =>
          KeyOrd.kle_antisymm (hsn k (lo + n - 1) h1 (by omega) (by omega)) (KeyOrd.kle_trans hrose (hsn lo k (Nat.le_refl _) h1 h2))
        have hfall : FallIn key (arrOf st) lo (lo + n + 1) := by
          refine FallIn.more (fun i j h1 h2 h3 => ?_) (by omega) (KeyOrd.kle_of_klt hlt)
          rw [hall i h1 (by omega), hall j (by omega) h3]; exact KeyOrd.kle_refl _
        have K := Keep.mir (lo := lo) (i := lo) st hsz (Nat.le_refl _)
        refine wpS_bind (wpS_reverse (wpS_bind (wpS_lift (wpAny_rule ⟨rfl, ?_⟩))))
        refine desc_go C (F.keep K) (n := n + 1) (by rw [K.size]; exact hn) (by omega) (by omega) (hfall.mir hsz hall) (fun _ _ _ => rfl) (fun _ _ _ => rfl) (fun _ _ _ => rfl) (fun _ _ _ => rfl) (fun _ _ _ => rfl) (fun _ _ => rfl) fun m q st' K' hm1 hm2 hf => ⟨?_, ?_⟩
        · exact tail_go C ((F.keep K).keep K') (by rw [K'.size, K.size]; exact hn) hm1 hm2 hf rfl (fun _ _ => rfl) (fun _ _ => rfl) (fun _ _ => rfl) (fun _ => rfl) fun m' st3 K3 => h m' st3 ((K.trans K').trans K3)
        · exact tail_go C ((F.keep K).keep K') (by rw [K'.size, K.size]; exact hn) hm1 hm2 hf rfl (fun _ _ => rfl) (fun _ _ => rfl) (fun _ _ => rfl) (fun _ => rfl) fun m' st3 K3 => h m' st3 ((K.trans K').trans K3)
    · refine wpS_iff_neg hgt ?_
      obtain rfl : n = 1 := by omega
      refine wpS_bind (wpS_lift (wpAny_rule ⟨rfl, ?_⟩))
      refine desc_go C F (n := 1 + 1) hn (by omega) (by omega) ((FallIn.one _ lo).more (by omega) (KeyOrd.kle_of_klt hlt)) (fun _ _ _ => rfl) (fun _ _ _ => rfl) (fun _ _ _ => rfl) (fun _ _ _ => rfl) (fun _ _ _ => rfl) (fun _ _ => rfl) fun m q st' K' hm1 hm2 hf => ⟨?_, ?_⟩
      · exact tail_go C (F.keep K') (by rw [K'.size]; exact hn) hm1 hm2 hf rfl (fun _ _ => rfl) (fun _ _ => rfl) (fun _ _ => rfl) (fun _ => rfl) fun m' st3 K3 => h m' st3 (K'.trans K3)
      · exact tail_go C (F.keep K') (by rw [K'.size]; exact hn) hm1 hm2 hf rfl (fun _ _ => rfl) (fun _ _ => rfl) (fun _ _ => rfl) (fun _ => rfl) fun m' st3 K3 => h m' st3 (K'.trans K3)
end
end Mine.Ts
end

section
open PySem PyProof.Rows
namespace Mine.Ts
section
variable {O : KeyOrd} {key : Keyed → O.α}
/-- a list written into an array -/
theorem write_list (p : Nat) (l : List Keyed) : ∀ (n : Nat) (xs : Array Keyed), p + n + l.length ≤ xs.size → ((l.zipIdx n).foldl (fun a x => a.setIfInBounds (p + x.2) x.1) xs).toList = xs.toList.take (p + n) ++ l ++ xs.toList.drop (p + n + l.length) := by
  induction l with
  | nil => intro n xs h; rw [List.zipIdx_nil, List.foldl_nil, List.append_nil, List.length_nil, Nat.add_zero, List.take_append_drop]
  | cons x l ih =>
    intro n xs h
    rw [List.length_cons] at h
    have hl : p + n < xs.toList.length := by rw [Array.length_toList]; omega
    rw [List.zipIdx_cons, List.foldl_cons, ih (n + 1) _ (by rw [Array.size_setIfInBounds]; omega), Array.toList_setIfInBounds, List.drop_set_of_lt (by omega), ← Nat.add_assoc, List.take_succ_eq_append_getElem (by rw [List.length_set]; exact hl), List.getElem_set_self, List.take_set_of_le (Nat.le_refl _), List.length_cons]
    rw [List.append_assoc, List.append_assoc, List.append_assoc, show p + n + 1 + l.length = p + n + (l.length + 1) by omega]
    rfl
theorem mem_ext {a : Array Keyed} {k n : Nat} {x : Keyed} (h : x ∈ (a.extract k n).toList) : ∃ i, k ≤ i ∧ i < n ∧ i < a.size ∧ x = atK a i := mem_part (by rw [Array.toList_reverse, List.mem_reverse]; exact h)
theorem srt_ext {a : Array Keyed} {lo hi : Nat} (h : SrtIn key a lo hi) : (a.extract lo hi).toList.Pairwise (leK O key) := by
  refine List.pairwise_iff_getElem.2 fun i j hi' hj' hij => ?_
  rw [Array.length_toList, Array.size_extract] at hi' hj'
  rw [Array.getElem_toList, Array.getElem_toList, Array.getElem_extract, Array.getElem_extract, ← atK_eq, ← atK_eq]
  exact h _ _ (by omega) (by omega) (by omega)
theorem at_ext {a : Array Keyed} {lo hi i : Nat} (h : lo + i < hi) (hs : hi ≤ a.size) : atK (a.extract lo hi) i = atK a (lo + i) := by
  rw [atK_eq (by rw [Array.size_extract]; omega), atK_eq (by omega), Array.getElem_extract]
/-- two runs made one in the middle of an array -/
structure Mid (key : Keyed → O.α) (a a' : Array Keyed) (lo hi : Nat) : Prop where
  perm : a'.Perm a
  off : ∀ i, i < lo ∨ hi ≤ i → a'[i]? = a[i]?
  srt : SrtIn key a' lo hi
theorem mid_same {a : Array Keyed} {sa sb e : Nat} (s1 : SrtIn key a sa sb) (s2 : SrtIn key a sb e) (h : sa < sb) (h2 : sb < e) (q : O.kle (kk key a (sb - 1)) (kk key a sb)) : Mid key a a sa e where
  perm := Array.Perm.refl _
  off := fun _ _ => rfl
  srt := fun i j h1 h2 h3 => by
    rcases Nat.lt_or_ge j sb with p | p
    · exact s1 i j h1 h2 p
    · rcases Nat.lt_or_ge i sb with p' | p'
      · exact KeyOrd.kle_trans (s1 i (sb - 1) h1 (by omega) (by omega)) (KeyOrd.kle_trans q (s2 sb j (Nat.le_refl _) p h3))
      · exact s2 i j p' h2 h3
theorem mid_merged {a a' m : Array Keyed} {sa k sb n e : Nat} (s1 : SrtIn key a sa sb) (s2 : SrtIn key a sb e) (h1 : sa + k < sb) (h2 : sb + n ≤ e) (h3 : e ≤ a.size) (c1 : ∀ i, i < k → O.kle (kk key a (sa + i)) (kk key a sb)) (c2 : ∀ i, n ≤ i → sb + i < e → O.kle (kk key a (sb - 1)) (kk key a (sb + i))) (hn : 0 < n)
    (hm : Srt (leK O key) ((a.extract (sa + k) sb).toList ++ (a.extract sb (sb + n)).toList) m.toList) (e' : a'.toList = a.toList.take (sa + k) ++ m.toList ++ a.toList.drop (sb + n)) : Mid key a a' sa e := by
  have hlen : m.toList.length = sb - (sa + k) + n := by
    rw [hm.perm.length_eq, List.length_append, Array.length_toList, Array.length_toList, Array.size_extract, Array.size_extract]; omega
  have lt : (a.toList.take (sa + k)).length = sa + k := by rw [List.length_take, Array.length_toList]; omega
  have low : ∀ i, i < sa + k → a'[i]? = a[i]? := fun i hi => by
    rw [← Array.getElem?_toList, e', List.append_assoc, List.getElem?_append_left (by rw [lt]; exact hi), List.getElem?_take_of_lt hi, Array.getElem?_toList]
  have high : ∀ i, sb + n ≤ i → a'[i]? = a[i]? := fun i hi => by
    rw [← Array.getElem?_toList, e', List.getElem?_append_right (by rw [List.length_append, lt, hlen]; omega), List.length_append, lt, hlen, List.getElem?_drop, Array.getElem?_toList]; congr 1; omega
  have mid : ∀ i, sa + k ≤ i → i < sb + n → a'[i]? = m[i - (sa + k)]? := fun i h1 h2 => by
    rw [← Array.getElem?_toList, e', List.append_assoc, List.getElem?_append_right (by rw [lt]; exact h1), lt, List.getElem?_append_left (by rw [hlen]; omega), Array.getElem?_toList]
  have src : ∀ i, sa + k ≤ i → i < sb + n → ∃ q, sa + k ≤ q ∧ q < sb + n ∧ kk key a' i = kk key a q := fun i h1 h2 => by
    have hi : i - (sa + k) < m.size := by rw [← Array.length_toList, hlen]; omega
    have hmem : atK m (i - (sa + k)) ∈ m.toList := by rw [atK_eq hi]; simp
    rw [kk_congr (mid i h1 h2)]
    rcases List.mem_append.1 (hm.perm.mem_iff.1 hmem) with z | z
    · obtain ⟨q, q1, q2, _, e⟩ := mem_ext z
      exact ⟨q, q1, by omega, by unfold kk; rw [e]⟩
    · obtain ⟨q, q1, q2, _, e⟩ := mem_ext z
      exact ⟨q, by omega, q2, by unfold kk; rw [e]⟩
  refine ⟨?_, fun i hi => ?_, fun i j g1 g2 g3 => ?_⟩
  · rw [Array.perm_iff_toList_perm, e']
    have ea : a.toList = a.toList.take (sa + k) ++ ((a.extract (sa + k) sb).toList ++ (a.extract sb (sb + n)).toList) ++ a.toList.drop (sb + n) := by
      have d1 := drop_part a (i := sa + k) (k := sb - (sa + k))
      have d2 := drop_part a (i := sb) (k := n)
      rw [show sa + k + (sb - (sa + k)) = sb by omega, d2] at d1
      rw [List.append_assoc, List.append_assoc, ← d1, List.take_append_drop]
    refine List.Perm.trans (List.Perm.append_right _ (List.Perm.append_left _ hm.perm)) ?_
    rw [← ea]
  · rcases hi with p | p
    · exact low i (by omega)
    · exact high i (by omega)
  · rcases Nat.lt_or_ge i (sa + k) with p | p
    · rw [kk_congr (low i p)]
      have c := c1 (i - sa) (by omega)
      rw [show sa + (i - sa) = i by omega] at c
      rcases Nat.lt_or_ge j (sa + k) with q | q
      · rw [kk_congr (low j q)]; exact s1 i j g1 g2 (by omega)
      · rcases Nat.lt_or_ge j (sb + n) with r | r
        · obtain ⟨z, z1, z2, z3⟩ := src j q r
          rw [z3]
          rcases Nat.lt_or_ge z sb with t | t
          · exact s1 i z g1 (by omega) t
          · exact KeyOrd.kle_trans c (s2 sb z (Nat.le_refl _) t (by omega))
        · rw [kk_congr (high j r)]; exact KeyOrd.kle_trans c (s2 sb j (Nat.le_refl _) (by omega) g3)
    · rcases Nat.lt_or_ge i (sb + n) with p' | p'
      · rcases Nat.lt_or_ge j (sb + n) with r | r
        · have hi : i - (sa + k) ≤ j - (sa + k) := by omega
          have hj : j - (sa + k) < m.size := by rw [← Array.length_toList, hlen]; omega
          rw [kk_congr (mid i p p'), kk_congr (mid j (by omega) r)]
          exact sorted_at hm.srt hi hj
        · obtain ⟨z, z1, z2, z3⟩ := src i p p'
          rw [z3, kk_congr (high j r)]
          rcases Nat.lt_or_ge z sb with t | t
          · have c := c2 (j - sb) (by omega) (by omega)
            rw [show sb + (j - sb) = j by omega] at c
            exact KeyOrd.kle_trans (s1 z (sb - 1) (by omega) (by omega) (by omega)) c
          · exact s2 z j t (by omega) g3
      · rw [kk_congr (high i p'), kk_congr (high j (by omega))]
        exact s2 i j (by omega) g2 g3
end
end Mine.Ts
end

section
open PySem PyProof.Rows
namespace Mine.Ts
section
variable {prog : Program} {w : World} {A : Around} {E : Value → Shared → Prop} {s : Shared} {kd : SortKind} {O : KeyOrd} {key : Keyed → O.α} {ok : Keyed → Prop}
section
variable {a : Array Keyed} {x : Keyed} {base n hint : Nat} {st : SortSt} {Q : Option Nat → SortSt → Prop}
theorem gin_right (C : Ask prog w A E s kd O key ok) (sa : SrtIn key a base (base + n)) (oka : ∀ i (h : i < a.size), ok a[i]) (okx : ok x) (hn : base + n ≤ a.size) (hh : hint < n) (hk : kindOf st = kd)
    (h : ∀ k, k ≤ n → (∀ i < k, ltK O key x (atK a (base + i)) = false) → (∀ i, k ≤ i → i < n → ltK O key x (atK a (base + i)) = true) → Q (some k) st) : wpS (model prog w) A E s (gallop' false x a base n hint) Q st := by
  refine gallop_go (b := fun i => !ltK O key x (atK a (base + i))) hh (fun i j hij hj e => ?_) (fun i hi Q hq => ?_) fun k c => h k c.le (fun i hi => by simpa using c.yes i hi) fun i h1 h2 => by simpa using c.no i h1 h2
  · have h1 := sa (base + i) (base + j) (by omega) (by omega) (by omega)
    have h2 : ltK O key x (atK a (base + j)) = false := by simpa using e
    have h3 := KeyOrd.kle_trans h1 (show O.kle (kk key a (base + j)) (key x) from h2)
    show (!O.blt (key x) (key (atK a (base + i)))) = true
    rw [show O.blt (key x) (key (atK a (base + i))) = false from h3]; rfl
  have hi' : base + i < a.size := by omega
  refine wpS_bind (elem_go hi' ?_)
  rw [if_neg (by simp)]
  refine wpS_bind (C.run _ _ _ okx (oka _ hi') hk _ (wpS_pure ?_))
  rw [atK_eq hi'] at hq
  exact hq
theorem gin_left (C : Ask prog w A E s kd O key ok) (sa : SrtIn key a base (base + n)) (oka : ∀ i (h : i < a.size), ok a[i]) (okx : ok x) (hn : base + n ≤ a.size) (hh : hint < n) (hk : kindOf st = kd)
    (h : ∀ k, k ≤ n → (∀ i < k, ltK O key (atK a (base + i)) x = true) → (∀ i, k ≤ i → i < n → ltK O key (atK a (base + i)) x = false) → Q (some k) st) : wpS (model prog w) A E s (gallop' true x a base n hint) Q st := by
  refine gallop_go (b := fun i => ltK O key (atK a (base + i)) x) hh (fun i j hij hj e => KeyOrd.klt_of_kle_of_klt (sa (base + i) (base + j) (by omega) (by omega) (by omega)) e) (fun i hi Q hq => ?_) fun k c => h k c.le c.yes c.no
  have hi' : base + i < a.size := by omega
  refine wpS_bind (elem_go hi' ?_)
  rw [if_pos rfl]
  rw [atK_eq hi'] at hq
  exact C.run _ _ _ (oka _ hi') okx hk _ hq
end
theorem wpS_set {σ : Type} {M : Model} {v : σ} {Q : PUnit → σ → Prop} {st : σ} (h : Q ⟨⟩ v) : wpS M A E s (set v : StateT σ Sem PUnit) Q st := by
  unfold wpS; rw [StateT.run_set]; exact wpAny_pure ⟨rfl, h⟩
/-- either merge -/
theorem merge_go (C : Ask prog w A E s kd O key ok) {a b : Array Keyed} (ha : 0 < a.size) (hb : 0 < b.size) (oka : ∀ i (h : i < a.size), ok a[i]) (okb : ∀ i (h : i < b.size), ok b[i])
    (sa : a.toList.Pairwise (leK O key)) (sb : b.toList.Pairwise (leK O key)) (h0 : ∀ i < a.size, ltK O key (atK b 0) (atK a i) = true) (hl : ∀ i < b.size, ltK O key (atK b i) (atK a (a.size - 1)) = true) {st : SortSt} (hk : kindOf st = kd) {Q : Array Keyed → SortSt → Prop}
    (h : ∀ R st', Like st st' → Srt (leK O key) (a.toList ++ b.toList) R.toList → Q R st') : wpS (model prog w) A E s (mergeLo' a b) Q st ∧ wpS (model prog w) A E s (mergeHi' a b) Q st := by
  constructor
  · refine mergeLo_go ⟨C, oka, okb, sa, sb, fun y hy hq => ?_⟩ ha hb (by rw [← atK_eq ha, ← atK_eq hb]; exact h0 0 ha) hk h
    · obtain ⟨i, hi, rfl⟩ := List.getElem_of_mem hy
      rw [Array.length_toList] at hi
      rw [Array.getElem_toList, ← atK_eq hi, ← atK_eq hq]; exact hl i hi
  · refine mergeHi_go ⟨C, oka, okb, sa, sb, fun x hx => ?_⟩ ha hb (hl _ (by omega)) hk h
    obtain ⟨i, hi, rfl⟩ := List.getElem_of_mem hx
    rw [Array.length_toList] at hi
    rw [Array.getElem_toList, ← atK_eq hi]; exact h0 i hi
theorem mergeAt_go (C : Ask prog w A E s kd O key ok) {st : SortSt} (F : Fit kd ok st) {i sa na pw sb nb pw2 : Nat} (e1 : (pendingOf st)[i]? = some (sa, na, pw)) (e2 : (pendingOf st)[i + 1]? = some (sb, nb, pw2)) (hsb : sa + na = sb) (ha : 0 < na) (hb : 0 < nb) (hsz : sb + nb ≤ (arrOf st).size)
    (s1 : SrtIn key (arrOf st) sa sb) (s2 : SrtIn key (arrOf st) sb (sb + nb)) (hf : failedOf st = none) {Q : Bool → SortSt → Prop}
    (h : ∀ st', kindOf st' = kindOf st → failedOf st' = none → Mid key (arrOf st) (arrOf st') sa (sb + nb) → pendingOf st' = ((pendingOf st).setIfInBounds i (sa, na + nb, pw)).eraseIdxIfInBounds (i + 1) → Q true st') :
    wpS (model prog w) A E s (mergeAt' i) Q st := by
  have oka : ∀ i (h : i < (arrOf st).size), ok (arrOf st)[i] := fun i h => F.ok _ (by simp)
  refine wpS_bind (wpS_get ?_)
  show wpS _ _ _ _ (match ((pendingOf st)[i]?, (pendingOf st)[i + 1]?) with | (some (sa, na, power), some (sb, nb, _)) => _ | _ => _) _ _
  rw [e1, e2]
  have hb0 : sb < (arrOf st).size := by omega
  have hb1 : sb - 1 < (arrOf st).size := by omega
  refine wpS_bind (wpS_set (wpS_bind (elem_at hb0 ?_)))
  refine wpS_bind (gin_right C (by rw [hsb]; exact s1) oka (F.at hb0) (by rw [hsb]; exact Nat.le_of_lt hb0) ha F.k fun k hk1 y1 y2 => ?_)
  dsimp only
  rcases eq0_cases (n := na - k) (m := 0) with ⟨q, q'⟩ | ⟨q, q'⟩
  · refine wpS_iff_pos q (wpS_pure (h _ rfl hf (mid_same s1 s2 (by omega) (by omega) ?_) rfl))
    have := y1 (na - 1) (by omega)
    rw [show sa + (na - 1) = sb - 1 by omega] at this
    exact this
  refine wpS_iff_neg q ?_
  rw [show sa + k + (na - k) - 1 = sb - 1 by omega]
  refine wpS_bind (elem_at hb1 (wpS_bind (gin_left C s2 oka (F.at hb1) hsz (by omega) F.k fun n hn1 z1 z2 => ?_)))
  dsimp only
  rcases eq0_cases (n := n) (m := 0) with ⟨p, p'⟩ | ⟨p, p'⟩
  · exact wpS_iff_pos p (wpS_pure (h _ rfl hf (mid_same s1 s2 (by omega) (by omega) (z2 0 (by omega) hb)) rfl))
  refine wpS_iff_neg p ?_
  have hx : ((arrOf st).extract (sa + k) sb).size = sb - (sa + k) := by rw [Array.size_extract]; omega
  have hy : ((arrOf st).extract sb (sb + n)).size = n := by rw [Array.size_extract]; omega
  have fin : ∀ (R : Array Keyed) st', Like (SortSt.mk' (kindOf st) (arrOf st) (((pendingOf st).setIfInBounds i (sa, na + nb, pw)).eraseIdxIfInBounds (i + 1)) (gallopOf st) (failedOf st)) st' → Srt (leK O key) (((arrOf st).extract (sa + k) sb).toList ++ ((arrOf st).extract sb (sb + n)).toList) R.toList →
      Q true (setArr st' (R.toList.zipIdx.foldl (fun a x => a.setIfInBounds (sa + k + x.2) x.1) (arrOf st'))) := fun R st' lk hR => by
    have hlen : R.toList.length = sb - (sa + k) + n := by
      rw [hR.perm.length_eq, List.length_append, Array.length_toList, Array.length_toList, hx, hy]
    have ea : arrOf st' = arrOf st := lk.a
    refine h _ lk.k (lk.f.trans hf) ?_ lk.p
    refine mid_merged (n := n) s1 s2 (by omega) (by omega) hsz (fun i hi => y1 i hi) (fun i h1 h2 => z2 i h1 (by omega)) (by omega) hR ?_
    show (R.toList.zipIdx.foldl (fun a x => a.setIfInBounds (sa + k + x.2) x.1) (arrOf st')).toList = _
    rw [write_list (sa + k) R.toList 0 (arrOf st') (by rw [ea, hlen]; omega), ea, hlen, Nat.add_zero, show sa + k + (sb - (sa + k) + n) = sb + n by omega]
  have okx : ∀ i (h : i < ((arrOf st).extract (sa + k) sb).size), ok ((arrOf st).extract (sa + k) sb)[i] := fun i h => by rw [Array.getElem_extract]; exact oka _ _
  have oky : ∀ i (h : i < ((arrOf st).extract sb (sb + n)).size), ok ((arrOf st).extract sb (sb + n))[i] := fun i h => by rw [Array.getElem_extract]; exact oka _ _
  have both := fun (Q' : Array Keyed → SortSt → Prop) => merge_go (Q := Q') C (a := (arrOf st).extract (sa + k) sb) (b := (arrOf st).extract sb (sb + n)) (by omega) (by omega) okx oky
    (srt_ext fun i j h1 h2 h3 => s1 i j (by omega) h2 h3) (srt_ext fun i j h1 h2 h3 => s2 i j h1 h2 (by omega))
    (fun i hi => by
      rw [hx] at hi
      rw [at_ext (by omega) (by omega), at_ext (by omega) (by omega), Nat.add_assoc]
      exact y2 (k + i) (by omega) (by omega))
    (fun i hi => by
      rw [hy] at hi
      rw [hx, at_ext (by omega) (by omega), at_ext (by omega) (by omega), show sa + k + (sb - (sa + k) - 1) = sb - 1 by omega]
      exact z1 i hi)
    (st := SortSt.mk' (kindOf st) (arrOf st) (((pendingOf st).setIfInBounds i (sa, na + nb, pw)).eraseIdxIfInBounds (i + 1)) (gallopOf st) (failedOf st)) F.k
  by_cases g : na - k ≤ n
  · refine wpS_iff_pos g (wpS_bind (both _ fun R st' lk hR => wpS_bind (wpS_modify ?_)).1)
    refine wpS_bind (wpS_get (wpS_pure ?_))
    show Q (failedOf st').isNone _
    rw [show failedOf st' = none from lk.f.trans hf]
    exact fin R st' lk hR
  · refine wpS_iff_neg g (wpS_bind (both _ fun R st' lk hR => wpS_bind (wpS_modify ?_)).2)
    refine wpS_bind (wpS_get (wpS_pure ?_))
    show Q (failedOf st').isNone _
    rw [show failedOf st' = none from lk.f.trans hf]
    exact fin R st' lk hR
end
end Mine.Ts
end

section
open PySem PyProof.Rows
namespace Mine.Ts
section
variable {O : KeyOrd} {key : Keyed → O.α}
noncomputable abbrev Run3 := Nat × Nat × Nat
/-- runs in order, one behind the other, from a place to another -/
noncomputable def Cover (key : Keyed → O.α) (arr : Array Keyed) : List Run3 → Nat → Nat → Prop
  | [], a, b => a = b
  | x :: l, a, b => x.1 = a ∧ 0 < x.2.1 ∧ SrtIn key arr a (a + x.2.1) ∧ Cover key arr l (a + x.2.1) b
theorem Cover.le {arr : Array Keyed} {l : List Run3} : ∀ {a b : Nat}, Cover key arr l a b → a + l.length ≤ b := by
  induction l with
  | nil => intro a b h; exact Nat.le_of_eq h
  | cons x l ih => intro a b h; have := ih h.2.2.2; have := h.2.1; rw [List.length_cons]; omega
theorem Cover.congr {arr arr' : Array Keyed} {l : List Run3} : ∀ {a b : Nat}, Cover key arr l a b → (∀ i, a ≤ i → i < b → arr'[i]? = arr[i]?) → Cover key arr' l a b := by
  induction l with
  | nil => intro a b h _; exact h
  | cons x l ih =>
    intro a b h q
    have hl := Cover.le h.2.2.2
    refine ⟨h.1, h.2.1, fun i j h1 h2 h3 => ?_, ih h.2.2.2 fun i h1 h2 => q i (by omega) h2⟩
    rw [kk_congr (q i h1 (by omega)), kk_congr (q j (by omega) (by omega))]
    exact h.2.2.1 i j h1 h2 h3
theorem Cover.split {arr : Array Keyed} {l l' : List Run3} : ∀ {a b : Nat}, Cover key arr (l ++ l') a b → ∃ m, Cover key arr l a m ∧ Cover key arr l' m b := by
  induction l with
  | nil => intro a b h; exact ⟨a, rfl, h⟩
  | cons x l ih =>
    intro a b h
    obtain ⟨m, h1, h2⟩ := ih h.2.2.2
    exact ⟨m, ⟨h.1, h.2.1, h.2.2.1, h1⟩, h2⟩
theorem Cover.join {arr : Array Keyed} {l l' : List Run3} : ∀ {a m b : Nat}, Cover key arr l a m → Cover key arr l' m b → Cover key arr (l ++ l') a b := by
  induction l with
  | nil => intro a m b h h'; cases h; exact h'
  | cons x l ih => intro a m b h h'; exact ⟨h.1, h.2.1, h.2.2.1, ih h.2.2.2 h'⟩
theorem Cover.modify {arr : Array Keyed} {f : Run3 → Run3} (hf : ∀ x, (f x).1 = x.1 ∧ (f x).2.1 = x.2.1) {l : List Run3} : ∀ {i a b : Nat}, Cover key arr l a b → Cover key arr (l.modify i f) a b := by
  induction l with
  | nil => intro i a b h; rw [List.modify_nil]; exact h
  | cons x l ih =>
    intro i a b h
    cases i with
    | zero =>
      rw [List.modify_zero_cons]
      refine ⟨(hf x).1.trans h.1, by rw [(hf x).2]; exact h.2.1, by rw [(hf x).2]; exact h.2.2.1, by rw [(hf x).2]; exact h.2.2.2⟩
    | succ i => rw [List.modify_succ_cons]; exact ⟨h.1, h.2.1, h.2.2.1, ih h.2.2.2⟩
theorem two_at {l : List Run3} {i : Nat} (h : i + 1 < l.length) : ∃ P x y R, l = P ++ x :: y :: R ∧ P.length = i := by
  refine ⟨l.take i, l[i], l[i + 1], l.drop (i + 2), ?_, by rw [List.length_take]; omega⟩
  rw [← List.drop_eq_getElem_cons h, ← List.drop_eq_getElem_cons (by omega), List.take_append_drop]
theorem set_erase {P R : List Run3} {x y z : Run3} : ((P ++ x :: y :: R).set P.length z).eraseIdx (P.length + 1) = P ++ z :: R := by
  induction P with
  | nil => rfl
  | cons p P ih => show p :: _ = _; exact congrArg (p :: ·) ih
theorem erase_list (p : Array Run3) (i : Nat) : (p.eraseIdxIfInBounds i).toList = p.toList.eraseIdx i := by
  unfold Array.eraseIdxIfInBounds
  split
  · rw [Array.toList_eraseIdx]
  · rw [List.eraseIdx_of_length_le (by rw [Array.length_toList]; omega)]
end
section
variable {prog : Program} {w : World} {A : Around} {E : Value → Shared → Prop} {s : Shared} {kd : SortKind} {O : KeyOrd} {key : Keyed → O.α} {ok : Keyed → Prop}
/-- a state with its runs -/
structure RunsAt (kd : SortKind) (key : Keyed → O.α) (ok : Keyed → Prop) (a0 : Array Keyed) (st : SortSt) (lo : Nat) : Prop where
  perm : (arrOf st).Perm a0
  fit : Fit kd ok st
  f : failedOf st = none
  le : lo ≤ a0.size
  cov : Cover key (arrOf st) (pendingOf st).toList 0 lo
theorem merge_runs (C : Ask prog w A E s kd O key ok) {a0 : Array Keyed} {st : SortSt} {lo i : Nat} (h : RunsAt kd key ok a0 st lo) (hi : i + 1 < (pendingOf st).size) {Q : Bool → SortSt → Prop}
    (q : ∀ st', RunsAt kd key ok a0 st' lo → (pendingOf st').size + 1 = (pendingOf st).size → (∀ j, lo ≤ j → (arrOf st')[j]? = (arrOf st)[j]?) → Q true st') : wpS (model prog w) A E s (mergeAt' i) Q st := by
  obtain ⟨P, ⟨sa, na, pw⟩, ⟨sb, nb, pw2⟩, R, e, hP⟩ := two_at (l := (pendingOf st).toList) (i := i) (by rw [Array.length_toList]; exact hi)
  have hc := h.cov
  rw [e] at hc
  obtain ⟨m, c1, c2⟩ := hc.split
  obtain ⟨rfl, ha, s1, c3⟩ := c2
  obtain ⟨rfl, hb, s2, c4⟩ := c3
  have hsz := h.perm.size_eq
  have hle := h.le
  have l1 := c1.le
  have l4 := c4.le
  dsimp only at ha hb s1 s2 c1 c4 l1 l4
  have e1 : (pendingOf st)[i]? = some (sa, na, pw) := by
    rw [← Array.getElem?_toList, e, List.getElem?_append_right (by omega), hP, Nat.sub_self]; rfl
  have e2 : (pendingOf st)[i + 1]? = some (sa + na, nb, pw2) := by
    rw [← Array.getElem?_toList, e, List.getElem?_append_right (by omega), hP, Nat.add_sub_cancel_left]; rfl
  refine mergeAt_go C h.fit e1 e2 rfl ha hb (by omega) s1 s2 h.f fun st' k f M p => ?_
  have pe : (pendingOf st').toList = P ++ (sa, na + nb, pw) :: R := by
    rw [p, erase_list, Array.toList_setIfInBounds, e, ← hP, set_erase]
  refine q st' ⟨M.perm.trans h.perm, ⟨k.trans h.fit.k, fun x hx => h.fit.ok x ((Array.perm_iff_toList_perm.mp M.perm).mem_iff.mp hx)⟩, f, h.le, ?_⟩ ?_ fun j hj => M.off j (.inr (by omega))
  · rw [pe]
    refine Cover.join (c1.congr fun i _ h2 => M.off i (.inl h2)) ⟨rfl, by show 0 < na + nb; omega, ?_, ?_⟩
    · show SrtIn key (arrOf st') sa (sa + (na + nb)); rw [← Nat.add_assoc]; exact M.srt
    · show Cover key (arrOf st') R (sa + (na + nb)) lo
      rw [← Nat.add_assoc]
      exact c4.congr fun i h1 _ => M.off i (.inr h1)
  · rw [← Array.length_toList, ← Array.length_toList, pe, e, List.length_append, List.length_append]; rfl
end
end Mine.Ts
end

section
open PySem PyProof.Rows
namespace Mine.Ts
section
variable {prog : Program} {w : World} {A : Around} {E : Value → Shared → Prop} {s : Shared} {kd : SortKind} {O : KeyOrd} {key : Keyed → O.α} {ok : Keyed → Prop}
/-- runs up to a place and one more in order behind it -/
structure Next (kd : SortKind) (key : Keyed → O.α) (ok : Keyed → Prop) (a0 : Array Keyed) (st : SortSt) (lo n : Nat) : Prop where
  runs : RunsAt kd key ok a0 st lo
  srt : SrtIn key (arrOf st) lo (lo + n)
  n0 : 1 ≤ n
  le : lo + n ≤ a0.size
theorem Next.push {a0 : Array Keyed} {st : SortSt} {lo n : Nat} (h : Next kd key ok a0 st lo n) : RunsAt kd key ok a0 (setPending st ((pendingOf st).push (lo, n, 0))) (lo + n) :=
  ⟨h.runs.perm, ⟨h.runs.fit.k, h.runs.fit.ok⟩, h.runs.f, h.le, by
    show Cover key (arrOf st) ((pendingOf st).push (lo, n, 0)).toList 0 (lo + n)
    rw [Array.toList_push]
    exact h.runs.cov.join ⟨rfl, h.n0, h.srt, rfl⟩⟩
theorem Next.pow {a0 : Array Keyed} {st : SortSt} {lo n i : Nat} (p : Nat) (h : Next kd key ok a0 st lo n) : Next kd key ok a0 (setPending st ((pendingOf st).modify i fun x => (x.1, x.2.1, p))) lo n :=
  ⟨⟨h.runs.perm, ⟨h.runs.fit.k, h.runs.fit.ok⟩, h.runs.f, h.runs.le, by
    show Cover key (arrOf st) ((pendingOf st).modify i fun x => (x.1, x.2.1, p)).toList 0 lo
    rw [Array.toList_modify]
    exact h.runs.cov.modify (f := fun x => (x.1, x.2.1, p)) fun _ => ⟨rfl, rfl⟩⟩, h.srt, h.n0, h.le⟩
theorem RunsAt.keep {a0 : Array Keyed} {st st' : SortSt} {lo : Nat} (h : RunsAt kd key ok a0 st lo) (K : Keep lo st st') : RunsAt kd key ok a0 st' lo :=
  ⟨K.perm.trans h.perm, h.fit.keep K, K.f.trans h.f, h.le, by rw [K.p]; exact h.cov.congr fun i _ h2 => K.low i h2⟩
theorem Next.merged {a0 : Array Keyed} {st st' : SortSt} {lo n : Nat} (h : Next kd key ok a0 st lo n) (r : RunsAt kd key ok a0 st' lo) (q : ∀ j, lo ≤ j → (arrOf st')[j]? = (arrOf st)[j]?) : Next kd key ok a0 st' lo n :=
  ⟨r, fun i j h1 h2 h3 => by rw [kk_congr (q i h1), kk_congr (q j (by omega))]; exact h.srt i j h1 h2 h3, h.n0, h.le⟩
theorem ite_le2 {c : Prop} {_ : Decidable c} {n : Nat} (h : 1 < n) : (if c then n - 2 - 1 else n - 2) + 1 < n := by
  split <;> omega
theorem sortRuns_go (C : Ask prog w A E s kd O key ok) {a0 : Array Keyed} {st : SortSt} (h : RunsAt kd key ok a0 st 0) {Q : Unit → SortSt → Prop}
    (q : ∀ st', (arrOf st').Perm a0 → failedOf st' = none → SrtIn key (arrOf st') 0 a0.size → Q () st') : wpS (model prog w) A E s sortRuns' Q st := by
  rw [sortRuns'_eq]
  refine wpS_bind (wpS_get ?_)
  dsimp only
  rw [show (arrOf st).size = a0.size from h.perm.size_eq]
  generalize hmr : minRun' a0.size a0.size 0 = mr
  refine wpS_bind (wpS_mono (wpS_forRange
    (I := fun x c st' => ∃ lo, c = (none, lo) ∧ x ≤ lo ∧ RunsAt kd key ok a0 st' lo)
    (Q := fun c st' => c = (none, a0.size) ∧ RunsAt kd key ok a0 st' a0.size) ?step ?fin ⟨0, rfl, Nat.le_refl _, h⟩) ?post)
  case fin =>
    rintro c st' ⟨lo, rfl, hx, hr⟩
    have := hr.le
    obtain rfl : lo = a0.size := by omega
    exact ⟨rfl, hr⟩
  case step =>
    rintro x c st' _ hx ⟨lo, rfl, hxl, hr⟩
    have hle := hr.le
    dsimp only
    by_cases hge : lo ≥ a0.size
    · rw [if_pos hge]
      obtain rfl : lo = a0.size := by omega
      exact wpS_pure ⟨rfl, hr⟩
    rw [if_neg hge]
    have hsz : (arrOf st').size = a0.size := hr.perm.size_eq
    refine wpS_bind (countRun_go C hr.fit (by omega) (by omega) fun m st2 K2 hm1 hm2 hs2 => ?_)
    dsimp only
    by_cases hlt : m < mr
    · rw [if_pos hlt]
      refine wpS_bind (wpS_lift (wpAny_rule ⟨rfl, ?_⟩))
      have hsz2 : (arrOf st2).size = a0.size := K2.size.trans hsz
      refine wpS_bind (binarySort_go C (hr.fit.keep K2) (by omega) (by omega) hs2 fun st3 K3 hs3 => ?_)
      have N : Next kd key ok a0 st3 lo (min (a0.size - lo) mr) := ⟨(hr.keep K2).keep K3, hs3, by omega, by omega⟩
      rw [if_neg (by simp)]
      refine wpS_bind (wpS_get ?_)
      cases hb : (pendingOf st3).back? with
      | none =>
        exact wpS_bind (wpS_modify (wpS_pure ⟨_, rfl, by have := N.n0; omega, N.push⟩))
      | some x3 =>
        obtain ⟨s1, n1, p1⟩ := x3
        dsimp only
        refine wpS_bind (wpS_mono (wpS_forRange (I := fun _ c st'' => c = (none, ()) ∧ Next kd key ok a0 st'' lo (min (a0.size - lo) mr)) (Q := fun c st'' => c = (none, ()) ∧ Next kd key ok a0 st'' lo (min (a0.size - lo) mr)) ?_ (fun _ _ hh => hh) ⟨rfl, N⟩) ?_)
        · rintro y c st5 _ _ ⟨rfl, N5⟩
          refine wpS_bind (wpS_get ?_)
          by_cases g1 : (pendingOf st5).size > 1
          · rw [if_pos g1, getElem?_pos (pendingOf st5) ((pendingOf st5).size - 2) (by omega)]
            generalize (pendingOf st5)[(pendingOf st5).size - 2]'(by omega) = x5
            obtain ⟨u1, u2, older⟩ := x5
            dsimp only
            by_cases g2 : older ≤ power' a0.size (2 * s1 + n1) (2 * s1 + n1 + n1 + (min (a0.size - lo) mr)) a0.size
            · exact wpS_iff_pos g2 (wpS_pure ⟨rfl, N5⟩)
            · exact wpS_iff_neg g2 (wpS_bind (merge_runs C N5.runs (by omega) fun st6 r6 _ o6 => wpS_pure ⟨rfl, N5.merged r6 o6⟩))
          · rw [if_neg g1]
            exact wpS_pure ⟨rfl, N5⟩
        · rintro c st5 ⟨rfl, N5⟩
          dsimp only
          exact wpS_bind (wpS_modify (wpS_bind (wpS_modify (wpS_pure ⟨_, rfl, by have := N.n0; omega, (N5.pow (power' a0.size (2 * s1 + n1) (2 * s1 + n1 + n1 + (min (a0.size - lo) mr)) a0.size)).push⟩))))
    · rw [if_neg hlt]
      have N : Next kd key ok a0 st2 lo m := ⟨hr.keep K2, hs2, hm1, by omega⟩
      refine wpS_bind (wpS_get ?_)
      cases hb : (pendingOf st2).back? with
      | none =>
        exact wpS_bind (wpS_modify (wpS_pure ⟨_, rfl, by have := N.n0; omega, N.push⟩))
      | some x3 =>
        obtain ⟨s1, n1, p1⟩ := x3
        dsimp only
        refine wpS_bind (wpS_mono (wpS_forRange (I := fun _ c st'' => c = (none, ()) ∧ Next kd key ok a0 st'' lo m) (Q := fun c st'' => c = (none, ()) ∧ Next kd key ok a0 st'' lo m) ?_ (fun _ _ hh => hh) ⟨rfl, N⟩) ?_)
        · rintro y c st5 _ _ ⟨rfl, N5⟩
          refine wpS_bind (wpS_get ?_)
          by_cases g1 : (pendingOf st5).size > 1
          · rw [if_pos g1, getElem?_pos (pendingOf st5) ((pendingOf st5).size - 2) (by omega)]
            generalize (pendingOf st5)[(pendingOf st5).size - 2]'(by omega) = x5
            obtain ⟨u1, u2, older⟩ := x5
            dsimp only
            by_cases g2 : older ≤ power' a0.size (2 * s1 + n1) (2 * s1 + n1 + n1 + m) a0.size
            · exact wpS_iff_pos g2 (wpS_pure ⟨rfl, N5⟩)
            · exact wpS_iff_neg g2 (wpS_bind (merge_runs C N5.runs (by omega) fun st6 r6 _ o6 => wpS_pure ⟨rfl, N5.merged r6 o6⟩))
          · rw [if_neg g1]
            exact wpS_pure ⟨rfl, N5⟩
        · rintro c st5 ⟨rfl, N5⟩
          dsimp only
          exact wpS_bind (wpS_modify (wpS_bind (wpS_modify (wpS_pure ⟨_, rfl, by have := N.n0; omega, (N5.pow (power' a0.size (2 * s1 + n1) (2 * s1 + n1 + n1 + m) a0.size)).push⟩))))
  case post =>
    rintro c st' ⟨rfl, hr⟩
    dsimp only
    refine wpS_bind (wpS_mono (wpS_forRange (I := fun y c st'' => c = (none, ()) ∧ RunsAt kd key ok a0 st'' a0.size ∧ (pendingOf st'').size + y ≤ a0.size)
      (Q := fun c st'' => c = (none, ()) ∧ RunsAt kd key ok a0 st'' a0.size ∧ (pendingOf st'').size ≤ 1) ?_ ?_ ⟨rfl, hr, by have := hr.cov.le; rw [Array.length_toList] at this; omega⟩) ?_)
    · rintro y c st5 _ _ ⟨rfl, r5, l5⟩
      refine wpS_bind (wpS_get ?_)
      by_cases g1 : (pendingOf st5).size ≤ 1
      · exact wpS_iff_pos g1 (wpS_pure ⟨rfl, r5, g1⟩)
      · refine wpS_iff_neg g1 (wpS_bind (merge_runs C r5 ?_ fun st6 r6 p6 _ => wpS_pure ⟨rfl, r6, by omega⟩))
        exact ite_le2 (by omega)
    · rintro c st5 ⟨rfl, r5, l5⟩
      exact ⟨rfl, r5, by omega⟩
    · rintro c st5 ⟨rfl, r5, l5⟩
      refine wpS_pure (q st5 r5.perm r5.f ?_)
      have hc := r5.cov
      rw [← Array.length_toList] at l5
      cases hl : (pendingOf st5).toList with
      | nil =>
        rw [hl] at hc
        have hc : 0 = a0.size := hc
        exact fun i j _ _ h3 => absurd h3 (by omega)
      | cons z l =>
        rw [hl] at hc l5
        obtain rfl : l = [] := List.eq_nil_of_length_eq_zero (by rw [List.length_cons] at l5; omega)
        obtain ⟨_, _, s5, e5⟩ := hc
        have e5 : 0 + z.2.1 = a0.size := e5
        rw [e5] at s5
        exact s5
end
end Mine.Ts
end

section
open PySem PyProof.Rows
namespace Mine.Ts
section
variable {prog : Program} {w : World} {A : Around} {E : Value → Shared → Prop} {s : Shared} {a₀ : Array Keyed} {κ : PyProof.Rows.KeyKind}
noncomputable def keyK (κ : PyProof.Rows.KeyKind) (x : Keyed) : κ.α := (κ.keyOf x.1).getD κ.dflt
theorem ask_of (hO : κ.OneLt) : Ask prog w A E s oneType' κ.toKeyOrd (keyK κ) (fun x => ∃ a, κ.keyOf x.1 = some a) where
  run x y st hx hy hk Q q := by
    obtain ⟨a, ha⟩ := hx
    obtain ⟨b, hb⟩ := hy
    rw [lt'_eq]
    refine wpS_bind (wpS_get ?_)
    rw [hk, keyLt'_oneType]
    refine wpS_bind (wpS_lift (wpAny_attempt (hO prog w A _ s x.1 y.1 a b ha hb ⟨rfl, ?_⟩)))
    unfold ltK keyK at q
    rw [ha, hb] at q
    exact wpS_pure q
theorem sortRuns_any (hO : κ.OneLt) (h0 : KeysOf κ a₀) {st : SortSt} (hB : SBase a₀ st) {Q : Unit → SortSt → Prop}
    (h : ∀ st', (arrOf st').Perm a₀ → failedOf st' = none → SortedToK κ (arrOf st') a₀.size → Q () st') : wpS (model prog w) A E s sortRuns' Q st := by
  refine sortRuns_go (ask_of hO) (a0 := a₀) ⟨hB.perm, ⟨hB.kind, fun x hx => h0 x ((Array.perm_iff_toList_perm.mp hB.perm).mem_iff.mp hx)⟩, hB.failed, Nat.zero_le _, by rw [hB.pend]; rfl⟩ fun st' p f q => h st' p f fun i j hij hj => ?_
  have e : ∀ k, k < a₀.size → KK κ (arrOf st') k = kk (keyK κ) (arrOf st') k := fun k hk => by
    have hk' : k < (arrOf st').size := by rw [p.size_eq]; exact hk
    unfold KK kk
    rw [atK_eq hk', getElem?_pos _ k hk']
    rfl
  rw [e i (by omega), e j hj]
  exact q i j (Nat.zero_le _) hij hj
end
end Mine.Ts
end

section
open PySem PyProof.Rows
namespace Mine
/-! ## list.sort of ints or texts, however long -/
@[reducible] noncomputable def numKind : PyProof.Rows.KeyKind where
  α := Int
  blt a b := decide (a < b)
  irrefl a := by simp
  trans a b c h1 h2 := by simp only [decide_eq_true_eq] at *; omega
  negTrans a b c h := by simp only [decide_eq_true_eq] at *; omega
  total a b h1 h2 := by simp only [decide_eq_false_iff_not] at *; omega
  keyOf v := match v with | .int n _ => some n | _ => none
  dflt := 0
theorem numKind_oneLt : numKind.OneLt := by
  intro prog w A E s x y a b Q ha hb h
  cases x <;> simp only [numKind, reduceCtorEq, Option.some.injEq] at ha
  cases y <;> simp only [numKind, reduceCtorEq, Option.some.injEq] at hb
  cases ha; cases hb
  exact oneLt_int h
section
variable {prog : Program} {w : World} {A : Around} {E : Value → Shared → Prop} {s : Shared}
theorem sort_any {κ : PyProof.Rows.KeyKind} (hO : κ.OneLt) {a : Addr} {vs : List Value} {n : Nat} {P : Fin → Shared → Prop} (ho : s.heap.get? a = some (seqObj "list" vs.toArray n))
    (h0 : KeysOf κ (pairsOf vs)) (hkk : ∀ v₁ v₂ rest, vs = v₁ :: v₂ :: rest → PyProof.Rows.keyKind' (v₁ :: v₂ :: rest).toArray = pure oneType') (hz : vs.length ≤ sizeLine)
    (h : ∀ st' : SortSt, (arrOf st').Perm (pairsOf vs) → SortedToK κ (arrOf st') (pairsOf vs).size → P (.done (.ret .none)) { s with heap := sortedHeap s.heap a vs ((arrOf st').map (·.2)) }) :
    wpAny (model prog w) A (Builtin.«list.sort» ⟨[.ref a], []⟩) P E s := by
  rcases Nat.lt_or_ge vs.length 64 with h64 | h64
  · exact list_sort_treeK hO ho h0 hkk h64 h
  have ha : a < s.heap.objs.size := Heap.lt_size ho
  rw [list_sort_plain]
  refine wpAny_bind (listItems_at ho rfl (wpAny_bind (listUpdate_at ho rfl ?_)))
  obtain ⟨e1, ho1⟩ : ∃ e1, (s.heap.update a (Obj.mapSeq fun _ => #[])).get? a = some (seqObj "list" #[] e1) := ⟨_, get?_update_seq ho (fun _ => #[])⟩
  refine wpAny_bind (seqEpoch_at ho1 rfl (wpAny_bind (wpAny_newTuple (wpAny_bind (wpAny_newList (wpAny_holding ?_))))))
  have ho6 : (((s.heap.update a (Obj.mapSeq fun _ => #[])).push (seqObj "tuple" vs.toArray 0)).push (seqObj "list" #[] 0)).get? a = some (seqObj "list" #[] e1) := by
    rw [Heap.get?_push_ne _ _ _ (by rw [size_push', Heap.size_update]; exact Nat.ne_of_lt (Nat.lt_succ_of_lt ha)), Heap.get?_push_ne _ _ _ (by rw [Heap.size_update]; exact Nat.ne_of_lt ha)]
    exact ho1
  show wpAny (model prog w) A _ P E { s with heap := ((s.heap.update a (Obj.mapSeq fun _ => #[])).push (seqObj "tuple" vs.toArray 0)).push (seqObj "list" #[] 0) }
  dsimp only
  have hsz : vs.toArray.size = vs.length := by simp
  rw [if_neg (by omega), if_neg (by omega)]
  have hk : PyProof.Rows.keyKind' vs.toArray = pure oneType' := by
    cases vs with
    | nil => exact absurd h64 (by decide)
    | cons v1 r => cases r with
      | nil => exact absurd h64 (by show ¬ 1 ≥ 64; decide)
      | cons v2 r => exact hkk _ _ _ rfl
  rw [hk]
  refine wpAny_bind (wpAny_pure (wpAny_bind (wpAny_mono (Ts.sortRuns_any hO (a₀ := pairsOf vs) (st := SortSt.mk' oneType' (vs.toArray.zip vs.toArray) #[] 7 none)
    (Q := fun _ st' => (arrOf st').Perm (pairsOf vs) ∧ failedOf st' = none ∧ SortedToK κ (arrOf st') (pairsOf vs).size) h0 ⟨Array.Perm.refl _, rfl, rfl, rfl⟩ fun st' a1 a2 a3 => ⟨a1, a2, a3⟩) ?_ fun _ _ e => e)))
  rintro ⟨⟨⟩, st'⟩ s' ⟨rfl, hp, hf, hs⟩
  dsimp only
  refine wpAny_bind (seqEpoch_at ho6 rfl (wpAny_bind (listUpdate_at ho6 rfl ?_ (hsz2 := by refine Nat.le_trans (Nat.le_of_eq ((Array.size_map ..).trans (hp.size_eq.trans (pairsOf_size _)))) (Nat.le_succ_of_le hz)))))
  rw [hf]
  simp only [bne_self_eq_false, Bool.false_eq_true, if_false]
  exact wpAny_pure (h st' hp hs)
theorem sort_ints {a : Addr} {vs : List Value} {ns : List Int} {n : Nat} {P : Fin → Shared → Prop} (ho : s.heap.get? a = some (seqObj "list" vs.toArray n)) (hI : IntsAre vs ns) (hz : vs.length ≤ sizeLine)
    (h : ∀ (out : Array Value) (ns' : List Int), IntsAre out.toList ns' → ns'.Perm ns → ns'.Pairwise (· ≤ ·) → P (.done (.ret .none)) { s with heap := sortedHeap s.heap a vs out }) :
    wpAny (model prog w) A (Builtin.«list.sort» ⟨[.ref a], []⟩) P E s := by
  refine sort_any numKind_oneLt ho ?_ ?_ hz fun st' hp hs => ?_
  · intro p hp
    obtain ⟨n, t, e⟩ := hI.intKeys p hp
    exact ⟨n, by rw [e]⟩
  · intro v1 v2 r e
    exact keyKind_ints (by rw [← e]; exact hI)
  · have e : ∀ k, KK numKind (arrOf st') k = K (arrOf st') k := fun k => by
      unfold KK K
      cases (arrOf st')[k]? with
      | none => rfl
      | some p => obtain ⟨u, v⟩ := p; cases u <;> rfl
    obtain ⟨ns', r1, r2, r3⟩ := sorted_out hI hp fun i j hij hj => by
      have := hs i j hij hj
      rw [e, e] at this
      have : decide (K (arrOf st') j < K (arrOf st') i) = false := this
      simp only [decide_eq_false_iff_not] at this
      omega
    exact h _ ns' r1 r2 r3
theorem sort_strs {a : Addr} {vs : List Value} {ss : List Str} {n : Nat} {P : Fin → Shared → Prop} (ho : s.heap.get? a = some (seqObj "list" vs.toArray n)) (hS : StrsAre vs ss) (hz : vs.length ≤ sizeLine)
    (h : ∀ (out : Array Value) (ss' : List Str), StrsAre out.toList ss' → ss'.Perm ss → sortedS ss' = true → P (.done (.ret .none)) { s with heap := sortedHeap s.heap a vs out }) :
    wpAny (model prog w) A (Builtin.«list.sort» ⟨[.ref a], []⟩) P E s := by
  refine sort_any PyProof.Rows.strKind_oneLt ho hS.keysOf (fun v₁ v₂ rest e => keyKind_strs (by rw [← e]; exact hS)) hz fun st' hp hs => ?_
  obtain ⟨ss', h1, h2, h3⟩ := sorted_out_str hS hp hs
  exact h _ ss' h1 h2 h3
end
end Mine
end

section
open PySem PyProof.Rows
namespace Mine
/-! ## an end of an iteration while an exception is handled -/
/-- the exception that is handled, if one is, has no context -/
noncomputable def HdAt (A : Around) (h : Heap) : Prop := A.handled = none ∨ ∃ e o vs, A.handled = some (.ref e) ∧ h.get? e = some o ∧ o.data = .fields vs ∧ vs[2]? = some Value.none
section
variable {prog : Program} {w : World} {A : Around} {E : Value → Shared → Prop} {s : Shared}
theorem entry_unchain : entryFor table "proto.unchain" = some Builtin.«proto.unchain» := entryFor_of_fast (by kernel_rfl)
theorem unchain_at {v sl : Value} {e : Addr} {o : Obj} {vs : Array Value} {b : Bool} {Q : Value → Shared → Prop} (h1 : s.heap.get? e = some o) (h2 : o.data = .fields vs) (h3 : vs[2]? = some Value.none) (q : Q .none s) :
    wpAny (model prog w) A (runValue (.builtin "proto.unchain" ⟨[v, .ref e, sl, .bool b], []⟩)) Q E s := by
  refine runValue_entry entry_unchain ?_
  show wpAny _ _ (field (.ref e) 2 >>= _) _ _ s
  refine wpAny_bind (wpAny_field h1 h2 h3 ?_)
  show wpAny _ _ (if (Value.none == Value.none) = true then _ else _) _ _ s
  rw [if_pos (show (Value.none == Value.none) = true from rfl)]
  exact wpAny_pure ⟨_, rfl, q⟩
theorem raiseNew_at {α : Type} {Q : α → Shared → Prop} {a : Addr} {o : Obj} {vs : Array Value} (hd : HdAt A s.heap) (hn : ∀ e, A.handled = some (.ref e) → e ≠ a) (h1 : s.heap.get? a = some o) (h2 : o.data = .fields vs) (h3 : 2 < vs.size)
    (h : ∀ h' o', Heap.ExtBut a s.heap h' → h'.get? a = some o' → o'.cls = o.cls → E (.ref a) { s with heap := h' }) : wpAny (model prog w) A (raiseNew (α := α) (.ref a)) Q E s := by
  unfold raiseNew
  refine wpAny_bind (wpAny_handled ?_)
  rcases hd with hd | ⟨e, oe, ve, e1, e2, e3, e4⟩
  · rw [hd]
    exact wpAny_bind (wpAny_pure (wpAny_throw (h _ _ (fun _ _ _ x => x) h1 rfl)))
  · rw [e1]
    have ne := hn e e1
    dsimp only
    rw [if_pos (by simpa using ne)]
    refine wpAny_bind (wpAny_holding (unchain_at e2 e3 e4 ?_))
    refine wpAny_bind ?_
    refine wpAny_mono (wpAny_setField (x := .ref e) (i := 2) h1 h2 h3 (Q := fun _ s' => s' = { s with heap := s.heap.update a (Obj.mapFields (·.setIfInBounds 2 (.ref e))) }) rfl) (fun _ s' z => ?_) fun _ _ z => z
    subst z
    exact wpAny_throw (h _ _ (Heap.SameBut.update ..).extBut (Heap.get?_update_self _ h1 (Obj.isFreed_of_fields (Obj.data_mapFields h2 _))) (Obj.cls_mapFields ..))

theorem next_list_end {it l : Addr} {i : Nat} {items} {Q : Option Value → Shared → Prop} (hh : HdAt A s.heap) (hn : ∀ e, A.handled = some (.ref e) → e ≠ it)
    (hit : s.heap.IsListIter it l i) (hl : s.heap.IsList l items) (hx : items[i]? = none)
    (hQ : ∀ h', Heap.ExtBut it s.heap h' → Q none { s with heap := h' }) : wpAny (model prog w) A (pyNext (.ref it)) Q E s := by
  obtain ⟨o, ho, hc, hd⟩ := id hit
  obtain ⟨ol, hol, _, nl, hdl⟩ := hl
  unfold pyNext
  refine wpAny_bind (wpAny_attempt (wpAny_callSpecial?_slot (name := Str.ofString "__next__") hit.typeIs slot_listiter_next
    (wpAny_call_entry slot_listiter_next hit.typeIs entry_listiter_next ?_ (args_listiter_next _))))
  show wpAny _ _ (field (.ref it) 0 >>= _) _ _ s
  refine wpAny_bind (wpAny_field ho hd (x := .ref l) rfl ?_)
  show wpAny _ _ (if (Value.ref l == Value.none) = true then _ else _) _ _ s
  rw [if_neg (show ¬ ((Value.ref l == Value.none) = true) from Bool.false_ne_true)]
  show wpAny _ _ (field (.ref it) 1 >>= _) _ _ s
  refine wpAny_bind (wpAny_field ho hd (x := .int i 0) rfl ?_)
  show wpAny _ _ (seqItems? (.ref l) >>= _) _ _ s
  refine wpAny_bind (wpAny_seqItems hol hdl ?_)
  simp only [Int.toNat_natCast, hx]
  refine wpAny_bind (wpAny_rule (wpAny_bind (wpAny_setField ho hd (by simp) ?_)))
  show wpAny _ _ (newExc (.type "StopIteration") [] >>= _) _ _ _
  refine wpAny_bind ?_
  simp only [newExc, newTuple]
  refine wpAny_bind (wpAny_newObj_type ?_ (by size_fits))
  refine wpAny_bind (m := firstArgMember _ _) (wpAny_of_eq (a := Value.none) (by first | rfl | (simp only [firstArgMember]; rfl)) ?_)
  refine wpAny_newObj_type ?_ (by size_fits)
  refine raiseNew_at (hh.imp id fun ⟨e, o, vs, e1, e2, e3, e4⟩ => ⟨e, o, vs, e1, (((Heap.SameBut.update ..).extBut.push _).push _) e o (hn e e1) e2, e3, e4⟩) (fun e e1 => ?_) (Heap.get?_push_size _ rfl) rfl (by rw [show ownMembersOf (.type "StopIteration") [] = #[] from rfl]; simp) fun h' o' x1 x2 x3 => ?_
  · rcases hh with hh | ⟨e', o, vs, e1', e2, _⟩
    · rw [show A.in1.handled = none from hh] at e1; cases e1
    · rw [show A.in1.handled = some (.ref e') from e1'] at e1
      cases e1
      have := Heap.lt_size e2
      intro q; subst q
      rw [Heap.size_push, Heap.size_after_update] at this
      exact absurd this (Nat.not_lt.2 (Nat.le_succ _))
  refine wpAny_bind (wpAny_isInstance (T := "StopIteration") (b := true) ⟨_, x2, x3⟩ isSubtype_stop ?_)
  refine wpAny_pure (hQ _ fun b o hb e => x1 b o ?_ ((((Heap.SameBut.update ..).extBut.push _).push _) b o hb e))
  intro q; subst q
  have := Heap.lt_size e
  rw [Heap.size_push, Heap.size_after_update] at this
  exact absurd this (Nat.not_lt.2 (Nat.le_succ _))
end
end Mine
end

section
open PySem PyProof.Rows PySem.Calls
namespace Mine

/-- a value without its token -/
noncomputable def er : Value → Value
  | .int i _ => .int i 0
  | .float b _ => .float b 0
  | .str x _ => .str x 0
  | .bytes b _ => .bytes b 0
  | v => v

theorem er_int {V : Value} {i : Int} {t : Tok} (h : er V = .int i t) : ∃ u, V = .int i u := by
  cases V <;> simp [er] at h; exact ⟨_, by rw [h.1]⟩
theorem er_str {V : Value} {x : Str} {t : Tok} (h : er V = .str x t) : ∃ u, V = .str x u := by
  cases V <;> simp [er] at h; exact ⟨_, by rw [h.1]⟩
theorem er_bool {V : Value} {b : Bool} (h : er V = .bool b) : V = .bool b := by
  cases V <;> simp [er] at h; rw [h]
theorem er_none {V : Value} (h : er V = .none) : V = .none := by
  cases V <;> simp [er] at h; rfl
theorem er_ref {V : Value} {a : Addr} (h : er V = .ref a) : V = .ref a := by
  cases V <;> simp [er] at h; rw [h]
/-- what an object of the call's own holds (values without tokens) -/
inductive AObj where
  | list (xs : List Value)
  | rlist (xs : List Value)
  | tup (xs : List Value)
  | idict (kvs : List (Int × Value))
  | sdict (kvs : List (Str × Value))
  | inst (C d : Addr)
  | ns (kvs : List (Str × Value))
  | range (lo hi st : Int)
  | exc (C : Addr)
  | edict (kvs : List (Int × Value)) (ep : Nat)

noncomputable abbrev Hp := Addr → Option AObj
noncomputable abbrev Loc := Str → Option Value
noncomputable abbrev QV := Value → Hp → Prop
noncomputable abbrev XV := Addr → Hp → Prop

noncomputable def Hp.upd (H : Hp) (a : Addr) (o : AObj) : Hp := fun b => if b = a then some o else H b
noncomputable def Loc.upd (l : Loc) (x : Str) (v : Value) : Loc := fun y => if y = x then some v else l y
noncomputable def Loc.del (l : Loc) (x : Str) : Loc := fun y => if y = x then none else l y

theorem Hp.upd_same (H : Hp) (a : Addr) (o : AObj) : H.upd a o a = some o := by simp [Hp.upd]
theorem Hp.upd_ne (H : Hp) {a b : Addr} (o : AObj) (h : b ≠ a) : H.upd a o b = H b := by simp [Hp.upd, h]

/-- classes that isinstance is asked about -/
inductive Ty where
  | str | int | bool | list | tuple | listOrTuple | valueError
  | cls (x : Str)
  deriving DecidableEq

inductive Bf where
  | len | list | tuple | sorted | sortedSet | sortedKey0 | dict | int | all | max1 | max2 | min2 | range | sortedT | deq | freeze
  deriving DecidableEq
inductive Bm where
  | append | pop | get | join | split
  deriving DecidableEq

inductive Ex where
  | none
  | bool (b : Bool)
  | int (i : Int)
  | str (x : Str)
  | loc (x : Str)
  | glob (x : Str)
  | attr (o : Ex) (a : Str)
  | bin (op : Operator) (l r : Ex)
  | neg (e : Ex)
  | not (e : Ex)
  | bop (isAnd : Bool) (es : List Ex)
  | cmp (l : Ex) (op : CmpOp) (r : Ex)
  | cmp2 (l : Ex) (op : CmpOp) (m : Ex) (op2 : CmpOp) (r : Ex)
  | isi (e : Ex) (t : Ty)
  | bf (f : Bf) (args : List Ex)
  | bm (m : Bm) (o : Ex) (args : List Ex)
  | call (f : Ex) (args : List Ex)
  | meth (o : Ex) (m : Str) (args : List Ex)
  | idx (o i : Ex)
  | slice (o : Ex) (lo hi : Option Ex)
  | list (es : List Ex)
  | tup (es : List Ex)
  | dict (ks vs : List Ex)
  | comp (elt : Ex) (x : Str) (src : Ex) (ifs : List Ex)

mutual
inductive Sm where
  | expr (e : Ex)
  | asg (x : Str) (e : Ex)
  | asgAttr (o : Ex) (a : Str) (e : Ex)
  | asgIdx (o i e : Ex)
  | ite (c : Ex) (t f : List Sm)
  | for_ (x : Str) (src : Ex) (body : List Sm)
  | while_ (c : Ex) (body : List Sm)
  | ret (e : Ex)
  | raise (c : Str)
  | try_ (body : List Sm) (hs : List Hd)
  | cont
  | pass
inductive Hd where
  | mk (c : Str) (n : Option Str) (body : List Sm)
end

/-! ## what holds of a state -/

/-- fixed for the whole call of the law -/
structure Pm where
  prog : Program
  w : World
  s₀ : Shared
  mg : Str → Option Value
  mb : Str → Option Value
  K : PySem.W.Frag

noncomputable abbrev Pm.base (P : Pm) : Heap := P.s₀.heap
noncomputable abbrev Pm.M (P : Pm) : Model := model P.prog P.w

structure PmOk (P : Pm) : Prop where
  g : P.base.Ns mainGlobals P.mg
  b : P.base.Ns builtinsNs P.mb
  lim : P.base.NoLimit
  kin : P.K.In P.base

/-- the entries of an instance's dict -/
inductive All2 {α β : Type} (R : α → β → Prop) : List α → List β → Prop where
  | nil : All2 R [] []
  | cons {a b as bs} : R a b → All2 R as bs → All2 R (a :: as) (b :: bs)

noncomputable def NsEs (w : World) (es : List DictEntry) (kvs : List (Str × Value)) : Prop :=
  All2 (fun e p => (∃ t, e.key = .str p.1 t) ∧ er e.val = p.2 ∧ e.hash = PyData.keyHash w.params p.1) es kvs

noncomputable def IsL (h : Heap) (a : Addr) (vs : Array Value) : Prop := ∃ n, h.get? a = some { cls := .type "list", dict := none, data := .seq vs n, slots := #[] }

noncomputable def Mt (P : Pm) (h : Heap) (a : Addr) : AObj → Prop
  | .list xs => ∃ vs, h.IsList a vs ∧ vs.toList.map er = xs ∧ xs.length ≤ 2 ^ 25 ∧ IsL h a vs
  | .rlist xs => ∃ vs, h.IsList a vs ∧ vs.toList.map er = xs ∧ xs.length ≤ 2 ^ 25
  | .tup xs => ∃ vs, h.IsTuple a vs ∧ vs.toList.map er = xs ∧ xs.length ≤ 2 ^ 25
  | .idict kvs => ∃ ks, h.DictOf (intKind P.prog P.w) a ks ∧ ks.map (fun p => (p.1, er p.2)) = kvs
  | .sdict kvs => ∃ ks, h.DictOf (PySem.strKind P.prog P.w) a ks ∧ ks.map (fun p => (p.1, er p.2)) = kvs
  | .inst C d => h.get? a = some { cls := .ref C, dict := some d, data := .plain }
  | .ns kvs => ∃ es n, h.get? a = some { cls := .type "dict", data := .dict es n } ∧ NsEs P.w es.toList kvs ∧ (kvs.map (·.1)).Nodup
  | .range lo hi st => ∃ t u v, IsRange h a lo hi st t u v
  | .exc C => ∃ vs sl, h.get? a = some { cls := .ref C, dict := none, data := .fields vs, slots := sl }
  | .edict kvs ep => ∃ ks, h.DictAt (intKind P.prog P.w) a ks ep ∧ ks.map (fun p => (p.1, er p.2)) = kvs ∧ (a == sysModules) = false

theorem Mt.congr {P : Pm} {h h' : Heap} {a : Addr} {o : AObj} (e : h'.get? a = h.get? a) (m : Mt P h a o) : Mt P h' a o := by
  cases o with
  | list xs => obtain ⟨vs, ⟨o, ho, r⟩, q1, q2, n, q3⟩ := m; exact ⟨vs, ⟨o, e.trans ho, r⟩, q1, q2, n, e.trans q3⟩
  | rlist xs => obtain ⟨vs, ⟨o, ho, r⟩, q⟩ := m; exact ⟨vs, ⟨o, e.trans ho, r⟩, q⟩
  | tup xs => obtain ⟨vs, ⟨o, ho, r⟩, q⟩ := m; exact ⟨vs, ⟨o, e.trans ho, r⟩, q⟩
  | idict xs => obtain ⟨vs, ⟨o, es, ep, ho, r⟩, q⟩ := m; exact ⟨vs, ⟨o, es, ep, e.trans ho, r⟩, q⟩
  | sdict xs => obtain ⟨vs, ⟨o, es, ep, ho, r⟩, q⟩ := m; exact ⟨vs, ⟨o, es, ep, e.trans ho, r⟩, q⟩
  | inst C d => exact e.trans m
  | ns kvs => obtain ⟨es, n, ho, r⟩ := m; exact ⟨es, n, e.trans ho, r⟩
  | range lo hi st => obtain ⟨t, u, v, ho⟩ := m; exact ⟨t, u, v, e.trans ho⟩
  | exc C => obtain ⟨vs, sl, ho⟩ := m; exact ⟨vs, sl, e.trans ho⟩
  | edict xs ep => obtain ⟨vs, ⟨o, es, ho, r⟩, q⟩ := m; exact ⟨vs, ⟨o, es, e.trans ho, r⟩, q⟩

theorem Mt.some {P : Pm} {h : Heap} {a : Addr} {o : AObj} (m : Mt P h a o) : ∃ O, h.get? a = some O := by
  cases o with
  | list xs => obtain ⟨vs, ⟨o, ho, r⟩, q⟩ := m; exact ⟨o, ho⟩
  | rlist xs => obtain ⟨vs, ⟨o, ho, r⟩, q⟩ := m; exact ⟨o, ho⟩
  | tup xs => obtain ⟨vs, ⟨o, ho, r⟩, q⟩ := m; exact ⟨o, ho⟩
  | idict xs => obtain ⟨vs, ⟨o, es, ep, ho, r⟩, q⟩ := m; exact ⟨o, ho⟩
  | sdict xs => obtain ⟨vs, ⟨o, es, ep, ho, r⟩, q⟩ := m; exact ⟨o, ho⟩
  | inst C d => exact ⟨_, m⟩
  | ns kvs => obtain ⟨es, n, ho, r⟩ := m; exact ⟨_, ho⟩
  | range lo hi st => obtain ⟨t, u, v, ho⟩ := m; exact ⟨_, ho⟩
  | exc C => obtain ⟨vs, sl, ho⟩ := m; exact ⟨_, ho⟩
  | edict xs ep => obtain ⟨vs, ⟨o, es, ho, r⟩, q⟩ := m; exact ⟨o, ho⟩

/-- an activation: its env, what stands around, the objects that must stay, the frames that must keep their data -/
structure Fm where
  env : Env
  A : Around
  g : Addr → Option Obj
  fr : Addr → Option Data
  ro : Bool
  x : Option Addr := none

structure FmOk (P : Pm) (F : Fm) : Prop where
  kind : F.env.scope.kind = .function
  glob : F.env.globals = mainGlobals
  blt : F.env.builtins = builtinsNs
  base : ∀ b o, P.base.get? b = some o → F.g b = some o
  above : P.base.objs.size ≤ F.env.locals
  lg : F.g F.env.locals = none
  lf : F.fr F.env.locals = none
  cl : ∀ x c, (x, c) ∈ F.env.cells → c ≠ F.env.locals
  cg : F.ro = false → ∀ x c, (x, c) ∈ F.env.cells → F.g c = none ∧ F.fr c = none
  apart : F.env.cells.Pairwise (fun x y => x.2 ≠ y.2)
  cn : ∀ x c, (x, c) ∈ F.env.cells → F.env.cells.lookup x = some c
  cf : ∀ x c, (x, c) ∈ F.env.cells → F.fr c = none
  fg : ∀ b d, F.fr b = some d → F.g b = none ∧ ∀ vs, d ≠ .fields vs
  frames : ∃ fenv outer, F.A.frames = some (fenv :: outer) ∧ (F.ro = false → fenv = F.env ∧ F.env.frame = some F.env.locals) ∧
    ∀ e ∈ fenv :: outer, e.scope.kind ≠ .module ∧ ∃ b, e.frame = some b ∧ (b = F.env.locals ∨ (F.fr b).isSome = true)
  xg : ∀ a, F.x = some a → (∃ O, F.g a = some O) ∧ F.A.handled = some (.ref a)

/-- none of the base's addresses -/
noncomputable def Bigs (P : Pm) (a : Addr) : AObj → Prop
  | .idict _ | .sdict _ | .edict _ _ => P.base.objs.size ≤ a
  | _ => True
theorem bigs_of {P : Pm} {a : Addr} {o : AObj} (h : P.base.objs.size ≤ a) : Bigs P a o := by cases o <;> first | exact h | trivial

/-- a list that is only read -/
noncomputable def AObj.isR : AObj → Bool
  | .rlist _ => true
  | .exc _ => true
  | _ => false
noncomputable def AObj.isRL : AObj → Bool
  | .rlist _ => true
  | _ => false
noncomputable def Hp.del (H : Hp) (e : Addr) : Hp := fun b => if b = e then none else H b
/-- none of the frame's own; or of the base, where it is only read -/
noncomputable def Fre (P : Pm) (F : Fm) (a : Addr) : AObj → Prop
  | .rlist _ => ∃ O, P.base.get? a = some O
  | .exc _ => F.x = some a
  | _ => F.g a = none ∧ F.fr a = none ∧ a ≠ F.env.locals ∧ ∀ x c, (x, c) ∈ F.env.cells → a ≠ c
theorem fre_of {P : Pm} {F : Fm} {a : Addr} {o : AObj} (hr : o.isR = false) (h : F.g a = none ∧ F.fr a = none ∧ a ≠ F.env.locals ∧ ∀ x c, (x, c) ∈ F.env.cells → a ≠ c) : Fre P F a o := by cases o <;> first | exact h | cases hr
theorem of_fre {P : Pm} {F : Fm} {a : Addr} {o : AObj} (h : Fre P F a o) (hr : o.isR = false) : F.g a = none ∧ F.fr a = none ∧ a ≠ F.env.locals ∧ ∀ x c, (x, c) ∈ F.env.cells → a ≠ c := by cases o <;> first | exact h | cases hr
theorem r_fre {P : Pm} {F : Fm} {a : Addr} {o : AObj} (h : Fre P F a o) (hr : o.isR = true) : (∃ O, P.base.get? a = some O) ∨ F.x = some a := by cases o <;> first | exact .inl h | exact .inr h | cases hr
theorem fre_r {P : Pm} {F F' : Fm} {a : Addr} {o : AObj} (hr : o.isR = true) (hx : F'.x = F.x) (h : Fre P F a o) : Fre P F' a o := by cases o <;> first | exact h | exact hx.trans h | cases hr

structure Inv (P : Pm) (F : Fm) (l : Loc) (H : Hp) (s : Shared) : Prop where
  gens : s.gens = P.s₀.gens
  os : s.os = P.s₀.os
  keep : ∀ b o, F.g b = some o → s.heap.get? b = some o
  frk : ∀ b d, F.fr b = some d → ∃ o, s.heap.get? b = some o ∧ o.data = d
  loc : ∃ m, s.heap.Ns F.env.locals m ∧ ∀ x v, l x = some v → F.env.kindOf x = some .local → ∃ V, m x = some V ∧ er V = v
  cel : ∀ x c, F.env.cells.lookup x = some c → ∃ vo, s.heap.IsCell c vo ∧
    ∀ v, l x = some v → (F.env.kindOf x = some .cell ∨ F.env.kindOf x = some .free) → ∃ V, vo = some V ∧ er V = v
  objs : ∀ a o, H a = some o → Mt P s.heap a o
  free : ∀ a o, H a = some o → Fre P F a o
  big : ∀ a o, H a = some o → Bigs P a o

section
variable {P : Pm} {F : Fm} {l : Loc} {H : Hp} {s : Shared}

theorem Inv.toks (I : Inv P F l H s) (t : Nat) : Inv P F l H { s with toks := t } := ⟨I.gens, I.os, I.keep, I.frk, I.loc, I.cel, I.objs, I.free, I.big⟩

theorem Inv.lt_of (I : Inv P F l H s) {a : Addr} {o : AObj} (h : H a = some o) : a < s.heap.objs.size := let ⟨_, e⟩ := (I.objs a o h).some; Heap.lt_size e
theorem Inv.fresh (I : Inv P F l H s) : H s.heap.objs.size = none := by
  cases e : H s.heap.objs.size with
  | none => rfl
  | some o => exact absurd (I.lt_of e) (Nat.lt_irrefl _)

/-- an address that nothing of ours is at -/
structure Off (F : Fm) (H : Hp) (a : Addr) : Prop where
  h : H a = none
  g : F.g a = none
  fr : F.fr a = none
  l : a ≠ F.env.locals
  c : ∀ x c, (x, c) ∈ F.env.cells → a ≠ c

theorem Inv.off (K : FmOk P F) (I : Inv P F l H s) {a : Addr} (n : s.heap.get? a = none) : Off F H a := by
  refine ⟨?_, ?_, ?_, ?_, ?_⟩
  · cases e : H a with
    | none => rfl
    | some o => obtain ⟨_, e'⟩ := (I.objs a o e).some; rw [n] at e'; cases e'
  · cases e : F.g a with
    | none => rfl
    | some o => have := I.keep a o e; rw [n] at this; cases this
  · cases e : F.fr a with
    | none => rfl
    | some o => obtain ⟨_, e', _⟩ := I.frk a o e; rw [n] at e'; cases e'
  · rintro rfl
    obtain ⟨m, ⟨o, es, ep, ho, _⟩, _⟩ := I.loc
    rw [n] at ho; cases ho
  · rintro x c hm rfl
    obtain ⟨vo, ⟨o, ho, _⟩, _⟩ := I.cel x a (K.cn x a hm)
    rw [n] at ho; cases ho

/-- the heap changes off our things -/
theorem Inv.step (I : Inv P F l H s) {h' : Heap} {t : Nat} (k : ∀ b o, s.heap.get? b = some o → ¬ Off F H b → h'.get? b = some o) : Inv P F l H { s with heap := h', toks := t } := by
  refine ⟨I.gens, I.os, fun b o e => k b o (I.keep b o e) fun q => ?_, fun b d e => ?_, ?_, fun x c e => ?_, fun a o e => ?_, I.free, I.big⟩
  · rw [q.g] at e; cases e
  · obtain ⟨o, ho, hd⟩ := I.frk b d e
    exact ⟨o, k b o ho fun q => (by rw [q.fr] at e; cases e), hd⟩
  · obtain ⟨m, ⟨o, es, ep, ho, r⟩, q⟩ := I.loc
    exact ⟨m, ⟨o, es, ep, k _ _ ho fun q => q.l rfl, r⟩, q⟩
  · obtain ⟨vo, ⟨o, ho, r⟩, q⟩ := I.cel x c e
    exact ⟨vo, ⟨o, k _ _ ho fun q => q.c x c (mem_of_lookup e) rfl, r⟩, q⟩
  · obtain ⟨O, ho⟩ := (I.objs a o e).some
    refine (I.objs a o e).congr ((k _ _ ho fun q => ?_).trans ho.symm)
    rw [q.h] at e; cases e

theorem r_g {a : Addr} {o : AObj} (K : FmOk P F) (h : Fre P F a o) (hr : o.isR = true) : ∃ O, F.g a = some O := (r_fre h hr).elim (fun ⟨O, e⟩ => ⟨O, K.base _ _ e⟩) fun e => (K.xg a e).1
theorem Inv.neL (K : FmOk P F) (I : Inv P F l H s) {a : Addr} {o : AObj} (h : H a = some o) : a ≠ F.env.locals := by
  cases hr : o.isR with
  | false => exact (of_fre (I.free a o h) hr).2.2.1
  | true =>
    obtain ⟨O, e⟩ := r_g K (I.free a o h) hr
    rintro rfl
    rw [K.lg] at e; cases e
theorem Inv.frN (K : FmOk P F) (I : Inv P F l H s) {a : Addr} {o : AObj} (h : H a = some o) : F.fr a = none := by
  cases hr : o.isR with
  | false => exact (of_fre (I.free a o h) hr).2.1
  | true =>
    obtain ⟨O, e⟩ := r_g K (I.free a o h) hr
    cases q : F.fr a with
    | none => rfl
    | some d => rw [(K.fg a d q).1] at e; cases e
theorem Inv.neC (K : FmOk P F) (I : Inv P F l H s) {a : Addr} {o : AObj} (h : H a = some o) {x : Str} {c : Addr} (hm : (x, c) ∈ F.env.cells) : a ≠ c := by
  cases hr : o.isR with
  | false => exact (of_fre (I.free a o h) hr).2.2.2 x c hm
  | true =>
    rintro rfl
    obtain ⟨vo, ⟨oc, ho, hd⟩, _⟩ := I.cel x a (K.cn x a hm)
    have m := I.objs a o h
    cases o <;> first | (cases hr; done) | skip
    · obtain ⟨vs, ⟨ol, hl, _, n, hs⟩, _⟩ := m
      rw [ho] at hl; cases hl
      rw [hd] at hs; cases hs
    · obtain ⟨vs, sl, hl⟩ := m
      rw [ho] at hl; cases hl
      cases hd
end

end Mine
end

section
open PySem PyProof.Rows PySem.Calls
namespace Mine

/-- all objects but L and the base's -/
noncomputable def allNews (base h : Heap) (L : Addr) : List (Addr × Obj) :=
  (List.range h.objs.size).filterMap fun a => if a = L then none else match base.get? a with
    | some _ => none
    | none => (h.get? a).map fun o => (a, o)
theorem mem_allNews {base h : Heap} {L a : Addr} {o : Obj} (ho : h.get? a = some o) (hl : a ≠ L) (hb : base.get? a = none) : (a, o) ∈ allNews base h L := by
  refine List.mem_filterMap.mpr ⟨a, List.mem_range.mpr (Heap.lt_size ho), ?_⟩
  rw [if_neg hl, hb, ho]; rfl
theorem allNews_mem {base h : Heap} {L : Addr} {p : Addr × Obj} (hp : p ∈ allNews base h L) : h.get? p.1 = some p.2 ∧ p.1 ≠ L ∧ base.get? p.1 = none := by
  obtain ⟨a, _, e⟩ := List.mem_filterMap.mp hp
  by_cases hl : a = L
  · rw [if_pos hl] at e; cases e
  · rw [if_neg hl] at e
    cases hb : base.get? a with
    | some o => rw [hb] at e; cases e
    | none =>
      rw [hb] at e
      cases ho : h.get? a with
      | none => simp [ho] at e
      | some o =>
        simp [ho] at e
        subst e
        exact ⟨ho, hl, hb⟩
theorem news_all (base h : Heap) (L : Addr) : News base L h (allNews base h L) := fun _ hp => allNews_mem hp

section
variable {P : Pm} {F : Fm} {l : Loc} {H : Hp} {s : Shared}

theorem Inv.fr (K : FmOk P F) (I : Inv P F l H s) : ∃ m, Fr P.base F.env.locals s.heap m ∧ ∀ x v, l x = some v → F.env.kindOf x = some .local → ∃ V, m x = some V ∧ er V = v := by
  obtain ⟨m, hn, q⟩ := I.loc
  exact ⟨m, ⟨hn, fun b o e => I.keep b o (K.base b o e), K.above⟩, q⟩

/-- what a rule over Fr and the whole ledger leaves -/
theorem kept_all {base h h' : Heap} {L : Addr} {m : Str → Option Value} {news : List (Addr × Obj)} (F : Fr base L h' m) (N : News base L h' news) (hsub : ∀ p ∈ allNews base h L, p ∈ news)
    (hb : base.StaysIn h) {b : Addr} {o : Obj} (e : h.get? b = some o) (hl : b ≠ L) : h'.get? b = some o := by
  cases q : base.get? b with
  | some o' => have := hb b o' q; rw [e] at this; cases this; exact F.keep b o q
  | none => exact (N _ (hsub _ (mem_allNews e hl q))).1

/-- the locals' dict may have moved, all else stays -/
theorem Inv.stepL (I : Inv P F l H s) {h' : Heap} {t : Nat} (k : ∀ b o, s.heap.get? b = some o → b ≠ F.env.locals → ¬ Off F H b → h'.get? b = some o)
    {m : Str → Option Value} (hn : h'.Ns F.env.locals m) (K : FmOk P F) {l' : Loc}
    (hm : ∀ x v, l' x = some v → F.env.kindOf x = some .local → ∃ V, m x = some V ∧ er V = v)
    (hc : ∀ x v, l' x = some v → (F.env.kindOf x = some .cell ∨ F.env.kindOf x = some .free) → l x = some v) : Inv P F l' H { s with heap := h', toks := t } := by
  refine ⟨I.gens, I.os, fun b o e => k b o (I.keep b o e) (fun q => ?_) fun q => ?_, fun b d e => ?_, ⟨m, hn, hm⟩, fun x c e => ?_, fun a o e => ?_, I.free, I.big⟩
  · rw [q, K.lg] at e; cases e
  · rw [q.g] at e; cases e
  · obtain ⟨o, ho, hd⟩ := I.frk b d e
    exact ⟨o, k b o ho (fun q => by rw [q, K.lf] at e; cases e) fun q => (by rw [q.fr] at e; cases e), hd⟩
  · obtain ⟨vo, ⟨o, ho, r⟩, q⟩ := I.cel x c e
    exact ⟨vo, ⟨o, k _ _ ho (K.cl x c (mem_of_lookup e)) fun q => q.c x c (mem_of_lookup e) rfl, r⟩, fun v hv hk => q v (hc x v hv hk) hk⟩
  · obtain ⟨O, ho⟩ := (I.objs a o e).some
    refine (I.objs a o e).congr ((k _ _ ho (I.neL K e) fun q => ?_).trans ho.symm)
    rw [q.h] at e; cases e

theorem Inv.push (I : Inv P F l H s) (o : Obj) : Inv P F l H { s with heap := s.heap.push o } :=
  I.step (t := s.toks) fun _ _ e _ => Heap.get?_push_of_some o e

/-- a new object of ours -/
theorem Inv.more (K : FmOk P F) (I : Inv P F l H s) {h' : Heap} {t : Nat} {a : Addr} {o : AObj} (n : s.heap.get? a = none) (hz : Bigs P a o) (k : ∀ b o, s.heap.get? b = some o → h'.get? b = some o) (m : Mt P h' a o) (hr : o.isR = false := by rfl) :
    Inv P F l (H.upd a o) { s with heap := h', toks := t } := by
  have I' := I.step (t := t) (h' := h') fun b o e _ => k b o e
  have of := I.off K n
  refine ⟨I'.gens, I'.os, I'.keep, I'.frk, I'.loc, I'.cel, fun b o' e => ?_, fun b o' e => ?_, fun b o' e => ?_⟩
  · by_cases q : b = a
    · subst q; rw [Hp.upd_same] at e; cases e; exact m
    · rw [Hp.upd_ne _ _ q] at e; exact I'.objs b o' e
  · by_cases q : b = a
    · subst q; rw [Hp.upd_same] at e; cases e; exact fre_of hr ⟨of.g, of.fr, of.l, of.c⟩
    · rw [Hp.upd_ne _ _ q] at e; exact I.free b o' e
  · by_cases q : b = a
    · subst q; rw [Hp.upd_same] at e; cases e; exact hz
    · rw [Hp.upd_ne _ _ q] at e; exact I.big b o' e
theorem Inv.base_le (K : FmOk P F) (I : Inv P F l H s) : P.base.objs.size ≤ s.heap.objs.size := by
  obtain ⟨m, hn, _⟩ := I.loc
  exact Nat.le_of_lt (Nat.lt_of_le_of_lt K.above hn.lt)
theorem Inv.alloc (K : FmOk P F) (I : Inv P F l H s) {O : Obj} {o : AObj} {t : Nat} (m : Mt P (s.heap.push O) s.heap.objs.size o) (hr : o.isR = false := by rfl) : Inv P F l (H.upd s.heap.objs.size o) { s with heap := s.heap.push O, toks := t } :=
  I.more K (Heap.get?_none_of_le (Nat.le_refl _)) (bigs_of (I.base_le K)) (fun _ _ e => Heap.get?_push_of_some O e) m hr

/-- an address becomes ours -/
theorem Inv.track (I : Inv P F l H s) {a : Addr} {o : AObj} (of : Off F H a) (hz : Bigs P a o) (m : Mt P s.heap a o) (hr : o.isR = false := by rfl) : Inv P F l (H.upd a o) s := by
  refine ⟨I.gens, I.os, I.keep, I.frk, I.loc, I.cel, fun b o' e => ?_, fun b o' e => ?_, fun b o' e => ?_⟩
  · by_cases q : b = a
    · subst q; rw [Hp.upd_same] at e; cases e; exact m
    · rw [Hp.upd_ne _ _ q] at e; exact I.objs b o' e
  · by_cases q : b = a
    · subst q; rw [Hp.upd_same] at e; cases e; exact fre_of hr ⟨of.g, of.fr, of.l, of.c⟩
    · rw [Hp.upd_ne _ _ q] at e; exact I.free b o' e
  · by_cases q : b = a
    · subst q; rw [Hp.upd_same] at e; cases e; exact hz
    · rw [Hp.upd_ne _ _ q] at e; exact I.big b o' e

/-- behind a rule over Fr and the whole ledger -/
theorem Inv.after (K : FmOk P F) (I : Inv P F l H s) {h' : Heap} {t : Nat} {m : Str → Option Value} {news : List (Addr × Obj)}
    (hm : ∀ x v, l x = some v → F.env.kindOf x = some .local → ∃ V, m x = some V ∧ er V = v) (F' : Fr P.base F.env.locals h' m) (N' : News P.base F.env.locals h' news)
    (hsub : ∀ p ∈ allNews P.base s.heap F.env.locals, p ∈ news) : Inv P F l H { s with heap := h', toks := t } :=
  I.stepL (fun _ _ e hb _ => kept_all F' N' hsub (fun b o e => I.keep b o (K.base b o e)) e hb) F'.ns K hm fun _ _ h _ => h

theorem Inv.ofSize (K : FmOk P F) (I : Inv P F l H s) : Off F H s.heap.objs.size := I.off K (Heap.get?_none_of_le (Nat.le_refl _))

/-- an object of ours is changed -/
theorem Inv.put (I : Inv P F l H s) {h' : Heap} {t : Nat} {a : Addr} {o o' : AObj} (ha : H a = some o) (k : ∀ b, b ≠ a → h'.get? b = s.heap.get? b) (m : Mt P h' a o') (hb : Bigs P a o → Bigs P a o' := by exact id) (hr : o.isR = false := by rfl) (hr' : o'.isR = false := by rfl) :
    Inv P F l (H.upd a o') { s with heap := h', toks := t } := by
  obtain ⟨fg, ff, fl, fc⟩ := of_fre (I.free a o ha) hr
  refine ⟨I.gens, I.os, fun b O e => (k b fun q => ?_).trans (I.keep b O e), fun b d e => ?_, ?_, fun x c e => ?_, fun b O e => ?_, fun b O e => ?_, fun b O e => ?_⟩
  · rw [q, fg] at e; cases e
  · obtain ⟨O, ho, hd⟩ := I.frk b d e
    exact ⟨O, (k b fun q => by rw [q, ff] at e; cases e).trans ho, hd⟩
  · obtain ⟨m', ⟨O, es, ep, ho, r⟩, q⟩ := I.loc
    exact ⟨m', ⟨O, es, ep, (k _ (Ne.symm fl)).trans ho, r⟩, q⟩
  · obtain ⟨vo, ⟨O, ho, r⟩, q⟩ := I.cel x c e
    exact ⟨vo, ⟨O, (k _ (Ne.symm (fc x c (mem_of_lookup e)))).trans ho, r⟩, q⟩
  · by_cases q : b = a
    · subst q; rw [Hp.upd_same] at e; cases e; exact m
    · rw [Hp.upd_ne _ _ q] at e; exact (I.objs b O e).congr (k b q)
  · by_cases q : b = a
    · subst q; rw [Hp.upd_same] at e; cases e; exact fre_of hr' ⟨fg, ff, fl, fc⟩
    · rw [Hp.upd_ne _ _ q] at e; exact I.free b O e
  · by_cases q : b = a
    · subst q; rw [Hp.upd_same] at e; cases e; exact hb (I.big _ _ ha)
    · rw [Hp.upd_ne _ _ q] at e; exact I.big b O e

end

/-! ## names -/
section
variable {P : Pm} {F : Fm} {l : Loc} {H : Hp} {s : Shared} {E : Value → Shared → Prop}

/-- a name that is bound in the block -/
noncomputable def Own (env : Env) (x : Str) : Prop := env.kindOf x = some .local ∨ ((env.kindOf x = some .cell ∨ env.kindOf x = some .free) ∧ ∃ c, env.cells.lookup x = some c)

theorem ld_loc (K : FmOk P F) (I : Inv P F l H s) {x : Str} {pos : Pos} {v : Value} {Q : Value → Shared → Prop} (hv : l x = some v) (ho : Own F.env x) (hd : (x == ("__debug__" : Str)) = false) (hcd : (x == ("__classdict__" : Str)) = false)
    (h : ∀ V, er V = v → Q V s) : wpAny P.M F.A (eval (.Name x pos) F.env) Q E s := by
  refine wpAny_Name ?_ hd
  rcases ho with hl | ⟨hk, c, hc⟩
  · obtain ⟨m, hn, q⟩ := I.loc
    obtain ⟨V, hV, e⟩ := q x v hv hl
    exact wpAny_loadName_local K.kind hl hn hV (h V e)
  · obtain ⟨vo, hi, q⟩ := I.cel x c hc
    obtain ⟨V, rfl, e⟩ := q v hv hk
    rcases hk with hk | hk
    · exact wpAny_loadName_cell K.kind hk hc hi (h V e)
    · exact wpAny_loadName_free K.kind hk hc hi (h V e) hcd

theorem ld_glob (Y : PmOk P) (K : FmOk P F) (I : Inv P F l H s) {x : Str} {pos : Pos} {v : Value} {Q : Value → Shared → Prop} (hv : P.mg x = some v ∨ (P.mg x = none ∧ P.mb x = some v)) (hk : F.env.kindOf x = some .globalImplicit) (hd : (x == ("__debug__" : Str)) = false)
    (h : Q v s) : wpAny P.M F.A (eval (.Name x pos) F.env) Q E s := by
  have k : ∀ b o, P.base.get? b = some o → s.heap.get? b = some o := fun b o e => I.keep b o (K.base b o e)
  refine Calls.Name_function_global K.kind hk ?_ hd
  rcases hv with hv | ⟨h1, h2⟩
  · exact Calls.loadGlobal_global (by rw [K.glob]; exact Y.g.keeps k) hv h
  · exact Calls.loadGlobal_builtin (by rw [K.glob]; exact Y.g.keeps k) h1 (by rw [K.blt]; exact Y.b.keeps k) h2 h

theorem st_loc (K : FmOk P F) (I : Inv P F l H s) (hro : F.ro = false) {x : Str} {V : Value} {Q : Unit → Shared → Prop} (ho : F.env.kindOf x = some .local ∨ (F.env.kindOf x = some .cell ∧ ∃ c, F.env.cells.lookup x = some c))
    (h : ∀ s', Inv P F (l.upd x (er V)) H s' → Q () s') : wpAny P.M F.A (storeName F.env x V) Q E s := by
  rcases ho with hl | ⟨hk, c, hc⟩
  · obtain ⟨m, hn, q⟩ := I.loc
    refine wpAny_storeName_local hl hn (fun h' hn' hs => h _ (I.stepL (t := s.toks + 1) (fun b o e hb _ => hs.extBut b o hb e) hn' K (fun y v hy hky => ?_) fun y v hy hky => ?_)) (by rw [K.kind]; rfl)
    · by_cases e : y = x
      · subst e; simp [Loc.upd] at hy; subst hy; exact ⟨V, by simp, rfl⟩
      · simp [Loc.upd, e] at hy; simp [e]; exact q y v hy hky
    · by_cases e : y = x
      · subst e; rw [hl] at hky; simp at hky
      · simpa [Loc.upd, e] using hy
  · obtain ⟨vo, hi, q⟩ := I.cel x c hc
    have hm := mem_of_lookup hc
    refine wpAny_storeName_cell K.kind hk hc hi fun h' hi' hs => h _ ?_
    have other : ∀ b o, s.heap.get? b = some o → b ≠ c → h'.get? b = some o := fun b o e hb => (hs.2 b hb).trans e
    have g1 := (K.cg hro x c hm)
    refine ⟨I.gens, I.os, fun b o e => other b o (I.keep b o e) fun z => ?_, fun b d e => ?_, ?_, fun y c' e => ?_, fun a o e => ?_, I.free, I.big⟩
    · rw [z, g1.1] at e; cases e
    · obtain ⟨o, ho, hd⟩ := I.frk b d e
      exact ⟨o, other b o ho (fun z => by rw [z, g1.2] at e; cases e), hd⟩
    · obtain ⟨m, ⟨o, es, ep, ho, r⟩, q⟩ := I.loc
      refine ⟨m, ⟨o, es, ep, other _ _ ho (Ne.symm (K.cl x c hm)), r⟩, fun y v hy hky => q y v ?_ hky⟩
      by_cases z : y = x
      · subst z; rw [hk] at hky; cases hky
      · simpa [Loc.upd, z] using hy
    · by_cases z : y = x
      · subst z
        rw [hc] at e; cases e
        exact ⟨some V, hi', fun v hv _ => ⟨V, rfl, by simpa [Loc.upd] using hv⟩⟩
      · obtain ⟨vo', ⟨o, ho, r⟩, q'⟩ := I.cel y c' e
        refine ⟨vo', ⟨o, other _ _ ho fun w => z ?_, r⟩, fun v hv hky => q' v (by simpa [Loc.upd, z] using hv) hky⟩
        exact name_of_addr K.apart (mem_of_lookup e) (w ▸ hm)
    · obtain ⟨O, ho⟩ := (I.objs a o e).some
      exact (I.objs a o e).congr ((other a O ho (I.neC K e hm)).trans ho.symm)
end

end Mine
end

section
open PySem PyProof.Rows PySem.Calls
namespace Mine

/-! ## the small wp -/

/-- what the text's top names -/
structure Gx where
  glob : Str → Option Value
  fn : Addr → Bool → List Value → Hp → QV → XV → Prop
  meth : Addr → Str → Option Addr
  init : Addr → Option Addr
  isExc : Addr → Bool
  sub : Addr → Addr → Bool
  fld : Addr → Str → Bool

/-- an item by an index, from behind where it is below nought -/
noncomputable def at? {α : Type} (xs : List α) (k : Int) : Option α :=
  if 0 ≤ k then xs[k.toNat]? else if -(xs.length : Int) ≤ k then xs[(k + xs.length).toNat]? else none

noncomputable def cutAt (n : Nat) (i : Int) : Nat := if i < 0 then (i + n).toNat else min i.toNat n
noncomputable def hiAt (n : Nat) : Option Int → Nat
  | none => n
  | some i => cutAt n i
noncomputable def loAt (n : Nat) : Option Int → Nat
  | none => 0
  | some i => cutAt n i
noncomputable def pySlice {α : Type} (xs : List α) (lo hi : Option Int) : List α := (xs.take (hiAt xs.length hi)).drop (loAt xs.length lo)

mutual
inductive Rd (H : Hp) : Value → PyData → Prop where
  | none : Rd H .none .none
  | bool (b : Bool) : Rd H (.bool b) (.bool b)
  | int (i : Int) (t : Tok) : Rd H (.int i t) (.int i)
  | str (x : Str) (t : Tok) : Rd H (.str x t) (.str x)
  | list {a : Addr} {xs : List Value} {ds : List PyData} : H a = some (.list xs) → RdAll H xs ds → Rd H (.ref a) (.list ds)
  | tup {a : Addr} {xs : List Value} {ds : List PyData} : H a = some (.tup xs) → RdAll H xs ds → Rd H (.ref a) (.tuple ds)
  | rlist {a : Addr} {xs : List Value} {ds : List PyData} : H a = some (.rlist xs) → RdAll H xs ds → Rd H (.ref a) (.list ds)
inductive RdAll (H : Hp) : List Value → List PyData → Prop where
  | nil : RdAll H [] []
  | cons {v : Value} {vs : List Value} {d : PyData} {ds : List PyData} : Rd H v d → RdAll H vs ds → RdAll H (v :: vs) (d :: ds)
end

noncomputable def newV (o : AObj) (H : Hp) (Q : QV) : Prop := ∀ c, H c = none → Q (.ref c) (H.upd c o)

/-- a tuple: a new one, or one that is there -/
noncomputable def newT (xs : List Value) (H : Hp) (Q : QV) : Prop := (∀ c, H c = none → Q (.ref c) (H.upd c (.tup xs))) ∧ ∀ c, H c = some (.tup xs) → Q (.ref c) H

noncomputable def chr1 (c : Nat) : Str := ⟨#[c]⟩

noncomputable def onSome {α : Type} (o : Option α) (k : α → Prop) : Prop := match o with | some v => k v | none => False
noncomputable def onInt (v : Value) (k : Int → Prop) : Prop := match v with | .int i _ => k i | _ => False
noncomputable def onStr (v : Value) (k : Str → Prop) : Prop := match v with | .str x _ => k x | _ => False
noncomputable def onRef (v : Value) (k : Addr → Prop) : Prop := match v with | .ref a => k a | _ => False
noncomputable def onBool (v : Value) (k : Bool → Prop) : Prop := match v with | .bool b => k b | _ => False
noncomputable def on1 (xs : List Value) (k : Value → Prop) : Prop := match xs with | v :: r => (match r with | [] => k v | _ :: _ => False) | [] => False
noncomputable def on2 (xs : List Value) (k : Value → Value → Prop) : Prop := match xs with | v :: r => on1 r (k v) | [] => False
theorem onInt_elim {V v : Value} {k : Int → Prop} (e : er V = v) (h : onInt v k) : ∃ i t, V = .int i t ∧ k i := by
  subst e; cases V <;> first | exact h.elim | exact ⟨_, _, rfl, h⟩
theorem onStr_elim {V v : Value} {k : Str → Prop} (e : er V = v) (h : onStr v k) : ∃ i t, V = .str i t ∧ k i := by
  subst e; cases V <;> first | exact h.elim | exact ⟨_, _, rfl, h⟩
theorem onRef_elim {V v : Value} {k : Addr → Prop} (e : er V = v) (h : onRef v k) : ∃ a, V = .ref a ∧ k a := by
  subst e; cases V <;> first | exact h.elim | exact ⟨_, rfl, h⟩
theorem onBool_elim {V v : Value} {k : Bool → Prop} (e : er V = v) (h : onBool v k) : ∃ a, V = .bool a ∧ k a := by
  subst e; cases V <;> first | exact h.elim | exact ⟨_, rfl, h⟩
theorem on1_elim {Vs : List Value} {k : Value → Prop} (h : on1 (Vs.map er) k) : ∃ V, Vs = [V] ∧ k (er V) := by
  cases Vs with
  | nil => exact h.elim
  | cons V r => cases r with
    | nil => exact ⟨V, rfl, h⟩
    | cons _ _ => exact h.elim
theorem on2_elim {Vs : List Value} {k : Value → Value → Prop} (h : on2 (Vs.map er) k) : ∃ V W, Vs = [V, W] ∧ k (er V) (er W) := by
  cases Vs with
  | nil => exact h.elim
  | cons V r =>
    obtain ⟨W, rfl, h⟩ := on1_elim (Vs := r) (k := k (er V)) h
    exact ⟨V, W, rfl, h⟩

noncomputable def on0 (xs : List Value) (k : Prop) : Prop := match xs with | [] => k | _ :: _ => False
theorem on0_elim {Vs : List Value} {k : Prop} (h : on0 (Vs.map er) k) : Vs = [] ∧ k := by
  cases Vs with
  | nil => exact ⟨rfl, h⟩
  | cons _ _ => exact h.elim
/-- two lists or two tuples -/
noncomputable def addR (a b : Addr) (H : Hp) (Q : QV) : Prop := match H a with
  | some (.list xs) => (match H b with | some (.list ys) => xs.length + ys.length ≤ sizeLine ∧ newV (.list (xs ++ ys)) H Q | _ => False)
  | some (.tup xs) => (match H b with | some (.tup ys) => xs.length + ys.length ≤ sizeLine ∧ newT (xs ++ ys) H Q | _ => False)
  | _ => False
noncomputable def addV (a b : Value) (H : Hp) (Q : QV) : Prop := match a with
  | .int x _ => onInt b fun y => Q (.int (x + y) 0) H
  | .str x _ => onStr b fun y => x.length + y.length ≤ sizeLine ∧ Q (.str (x ++ y) 0) H
  | .ref a => onRef b fun b => addR a b H Q
  | _ => False
noncomputable def multV (a b : Value) (H : Hp) (Q : QV) : Prop := match a with
  | .int x _ => onInt b fun y => (x.natAbs < 2 ^ 63 ∨ y.natAbs < 2 ^ 63) ∧ Q (.int (x * y) 0) H
  | .str x _ => onInt b fun n => x.length ≤ 1000 ∧ n ≤ 1000 ∧ -1000 ≤ n ∧ Q (.str (Txt.mul x n) 0) H
  | _ => False
noncomputable def binV (op : Operator) (a b : Value) (H : Hp) (Q : QV) : Prop :=
  match op with
  | .Add => addV a b H Q
  | .Sub => onInt a fun x => onInt b fun y => Q (.int (x - y) 0) H
  | .Mult => multV a b H Q
  | .FloorDiv => onInt a fun x => onInt b fun y => 0 < y ∧ y < 2 ^ 63 ∧ Q (.int (x / y) 0) H
  | .Mod => onInt a fun x => onInt b fun y => 0 < y ∧ Q (.int (x % y) 0) H
  | .Pow => onInt a fun x => onInt b fun y => 0 ≤ y ∧ y ≤ 100 ∧ x.natAbs < 2 ^ 63 ∧ Q (.int (x ^ y.toNat) 0) H
  | _ => False

noncomputable def eqV (a b : Value) (H : Hp) (k : Bool → Prop) : Prop :=
  match a, b with
  | .int x _, .int y _ => k (decide (x = y))
  | .str x _, .str y _ => k (decide (x = y))
  | .none, .none => k true
  | .none, .int _ _ => k false
  | .int _ _, .none => k false
  | .none, .str _ _ => k false
  | .str _ _, .none => k false
  | a, b => ∃ da db, Rd H a da ∧ Rd H b db ∧ SeqAt.shaped da = true ∧ SeqAt.shaped db = true ∧ k (PyData.eqv da db)

noncomputable def inV (a b : Value) (H : Hp) (k : Bool → Prop) : Prop :=
  match a, b with
  | .str x _, .str y _ => k (Txt.contains y x)
  | .int i _, .ref d => match H d with
    | some (.idict kvs) => k (valueAt kvs i).isSome
    | some (.list xs) => ∃ ns : List Int, xs = ns.map (fun n => Value.int n 0) ∧ k (decide (i ∈ ns))
    | _ => False
  | .str x _, .ref d => match H d with
    | some (.sdict kvs) => k (valueAt kvs x).isSome
    | some (.idict kvs) => kvs = [] ∧ k false
    | _ => False
  | _, _ => False

noncomputable def cmpV (op : CmpOp) (a b : Value) (H : Hp) (Q : QV) : Prop :=
  match op with
  | .Eq => eqV a b H fun r => Q (.bool r) H
  | .NotEq => eqV a b H fun r => Q (.bool (!r)) H
  | .In => inV a b H fun r => Q (.bool r) H
  | .NotIn => inV a b H fun r => Q (.bool (!r)) H
  | .Is => match b with
    | .none => (match a with | .none => Q (.bool true) H | .builtin _ => False | _ => Q (.bool false) H)
    | _ => False
  | .IsNot => match b with
    | .none => (match a with | .none => Q (.bool false) H | .builtin _ => False | _ => Q (.bool true) H)
    | _ => False
  | .Lt => match a, b with
    | .int x _, .int y _ => Q (.bool (decide (x < y))) H
    | .str x _, .str y _ => Q (.bool (decide (x.cps.toList < y.cps.toList))) H
    | _, _ => False
  | .Gt => match a, b with
    | .int x _, .int y _ => Q (.bool (decide (y < x))) H
    | .str x _, .str y _ => Q (.bool (decide (y.cps.toList < x.cps.toList))) H
    | _, _ => False
  | .LtE => match a, b with
    | .int x _, .int y _ => Q (.bool (decide (x ≤ y))) H
    | _, _ => False
  | .GtE => match a, b with
    | .int x _, .int y _ => Q (.bool (decide (y ≤ x))) H
    | _, _ => False

noncomputable def idxV (o i : Value) (H : Hp) (Q : QV) : Prop :=
  match o, i with
  | .ref a, .int k _ => match H a with
    | some (.list xs) => (match at? xs k with | some v => Q v H | none => False)
    | some (.rlist xs) => (match at? xs k with | some v => Q v H | none => False)
    | some (.tup xs) => (match at? xs k with | some v => Q v H | none => False)
    | some (.idict kvs) => (match valueAt kvs k with | some v => Q v H | none => False)
    | some (.edict kvs _) => (match valueAt kvs k with | some v => Q v H | none => False)
    | _ => False
  | .ref a, .str x _ => match H a with
    | some (.sdict kvs) => (match valueAt kvs x with | some v => Q v H | none => False)
    | _ => False
  | .str x _, .int k _ => (match at? x.cps.toList k with | some c => x.length ≤ sizeLine ∧ Q (.str (chr1 c) 0) H | none => False)
  | _, _ => False

noncomputable def partOf (v : Value) : Option (Option Int) :=
  match v with
  | .none => some none
  | .int i _ => some (some i)
  | _ => none

noncomputable def sliceV (o lo hi : Value) (H : Hp) (Q : QV) : Prop :=
  match partOf lo, partOf hi with
  | some l, some h => match o with
    | .ref a => (match H a with
      | some (.list xs) => xs.length ≤ sizeLine ∧ newV (.list (pySlice xs l h)) H Q
      | some (.rlist xs) => xs.length ≤ sizeLine ∧ newV (.list (pySlice xs l h)) H Q
      | _ => False)
    | .str x _ => x.length ≤ sizeLine ∧ Q (.str ⟨(pySlice x.cps.toList l h).toArray⟩ 0) H
    | _ => False
  | _, _ => False

noncomputable def attrV (G : Gx) (o : Value) (a : Str) (H : Hp) (Q : QV) : Prop :=
  match o with
  | .ref x => match H x with
    | some (.inst C d) => (match H d with
      | some (.ns kvs) => G.fld C a = true ∧ (match valueAt kvs a with | some (.builtin _) => False | some v => Q v H | none => False)
      | _ => False)
    | _ => False
  | _ => False

noncomputable def truthV (v : Value) (k : Bool → Prop) : Prop := match v with | .bool b => k b | _ => False

noncomputable def lenV (v : Value) (H : Hp) (Q : QV) : Prop :=
  match v with
  | .str x _ => x.length ≤ sizeLine ∧ Q (.int x.length 0) H
  | .ref a => match H a with
    | some (.list xs) => Q (.int xs.length 0) H
    | some (.rlist xs) => Q (.int xs.length 0) H
    | some (.tup xs) => Q (.int xs.length 0) H
    | _ => False
  | _ => False

noncomputable def Ty.blt : Ty → Bool
  | .str | .int | .bool | .list | .tuple | .listOrTuple => true
  | _ => false

noncomputable def isiV (G : Gx) (v : Value) (t : Ty) (H : Hp) (Q : QV) : Prop :=
  match v with
  | .none => t.blt = true ∧ Q (.bool false) H
  | .bool _ => t.blt = true ∧ Q (.bool (t == .bool || t == .int)) H
  | .int _ _ => t.blt = true ∧ Q (.bool (t == .int)) H
  | .str _ _ => t.blt = true ∧ Q (.bool (t == .str)) H
  | .ref a => match H a with
    | some (.list _) => t.blt = true ∧ Q (.bool (t == .list || t == .listOrTuple)) H
    | some (.tup _) => t.blt = true ∧ Q (.bool (t == .tuple || t == .listOrTuple)) H
    | some (.idict _) => t.blt = true ∧ Q (.bool false) H
    | some (.sdict _) => t.blt = true ∧ Q (.bool false) H
    | some (.exc C) => G.isExc C = true ∧ (match t with
      | .valueError => Q (.bool true) H
      | .cls x => (match G.glob x with | some (.ref D) => G.isExc D = true ∧ Q (.bool (G.sub C D)) H | _ => False)
      | _ => False)
    | _ => False
  | _ => False

noncomputable def rangeL (lo hi st : Int) : List Value :=
  (List.range (Builtin.Range.rangeSize lo hi st).toNat).map fun (k : Nat) => .int (lo + (k : Int) * st) 0

/-- the items that a loop takes, and what must stay meanwhile -/
noncomputable def iterV (v : Value) (H : Hp) (k : (Hp → Prop) → List Value → Prop) : Prop :=
  match v with
  | .str x _ => k (fun _ => True) (x.cps.toList.map fun c => .str (chr1 c) 0)
  | .ref a => match H a with
    | some (.list xs) => k (fun H' => H' a = some (.list xs)) xs
    | some (.tup xs) => k (fun H' => H' a = some (.tup xs)) xs
    | some (.range lo hi st) => Builtin.Range.small lo hi st = true ∧ k (fun _ => True) (rangeL lo hi st)
    | some (.edict kvs ep) => k (fun H' => H' a = some (.edict kvs ep)) (kvs.map fun p => .int p.1 0)
    | _ => False
  | _ => False

/-- the items that a built-in takes at once -/
noncomputable def seqV (v : Value) (H : Hp) (k : List Value → Prop) : Prop :=
  match v with
  | .ref a => match H a with
    | some (.list xs) => k xs
    | some (.tup xs) => k xs
    | some (.idict kvs) => k (kvs.map fun p => .int p.1 0)
    | _ => False
  | _ => False

noncomputable def rangeV (args : List Value) (H : Hp) (Q : QV) : Prop :=
  match args with
  | [.int hi _] => hi < 2 ^ 60 ∧ -(2 ^ 60) < hi ∧ newV (.range 0 hi 1) H Q
  | [.int lo _, .int hi _] => hi < 2 ^ 60 ∧ -(2 ^ 60) < hi ∧ lo < 2 ^ 60 ∧ -(2 ^ 60) < lo ∧ newV (.range lo hi 1) H Q
  | [.int lo _, .int hi _, .int st _] => st ≠ 0 ∧ -1000 < st ∧ st < 1000 ∧ hi < 2 ^ 60 ∧ -(2 ^ 60) < hi ∧ lo < 2 ^ 60 ∧ -(2 ^ 60) < lo ∧ newV (.range lo hi st) H Q
  | _ => False

noncomputable def strLe (x y : Str) : Prop := ¬ (y.cps.toList < x.cps.toList)

/-- a list of ints in order (fewer than 64), or a dict's keys -/
noncomputable def sortedV (v : Value) (H : Hp) (Q : QV) : Prop :=
  match v with
  | .ref a => match H a with
    | some (.list xs) => ∃ ns : List Int, xs = ns.map (fun n => Value.int n 0) ∧ ns.length < 64 ∧ ∀ ms : List Int, ms.Perm ns → ms.Pairwise (· ≤ ·) → newV (.list (ms.map fun n => Value.int n 0)) H Q
    | some (.idict kvs) => kvs.length ≤ sizeLine ∧ ∀ ms : List Int, ms.Perm (kvs.map (·.1)) → ms.Pairwise (· ≤ ·) → newV (.list (ms.map fun n => Value.int n 0)) H Q
    | some (.sdict kvs) => kvs.length ≤ sizeLine ∧ ∀ ms : List Str, ms.Perm (kvs.map (·.1)) → sortedS ms = true → newV (.list (ms.map fun x => Value.str x 0)) H Q
    | _ => False
  | _ => False

/-- a tuple that begins with a text -/
noncomputable def KeyAt (H : Hp) (v : Value) (x : Str) : Prop := ∃ a w, v = .ref a ∧ H a = some (.tup [.str x 0, w])
noncomputable def lessK (x y : Str) : Bool := decide (x.cps.toList < y.cps.toList)
/-- the place of a text among others -/
noncomputable def posK (ks : List Str) (k : Str) : Nat := (ks.filter fun x => lessK x k).length
/-- tuples in order, but the last one -/
noncomputable def sortedTV (xs : List Value) (H : Hp) (Q : QV) : Prop := (xs = [] ∧ newV (.list []) H Q) ∨
  ∃ us u ks k, xs = us ++ [u] ∧ us.length < 63 ∧ All2 (KeyAt H) us ks ∧ KeyAt H u k ∧ ks.Pairwise (fun x y => lessK x y = true) ∧ k ∉ ks ∧ newV (.list (us.take (posK ks k) ++ u :: us.drop (posK ks k))) H Q
/-- two dicts with the same keys and like values -/
noncomputable def deqV (a b : Addr) (H : Hp) (Q : QV) : Prop := ∃ ka kb, H a = some (.idict ka) ∧ H b = some (.idict kb) ∧
  All2 (fun p q => p.1 = q.1 ∧ ∃ d e, Rd H p.2 d ∧ Rd H q.2 e ∧ SeqAt.shaped d = true ∧ SeqAt.shaped e = true ∧ PyData.eqv d e = true) ka kb ∧ Q (.bool true) H

noncomputable def strsOf : List Value → Option (List Str)
  | [] => some []
  | .str x _ :: r => (strsOf r).map (x :: ·)
  | _ :: _ => none

noncomputable def bfV (f : Bf) (args : List Value) (H : Hp) (Q : QV) : Prop :=
  match f with
  | .len => on1 args fun v => lenV v H Q
  | .list => on1 args fun v => seqV v H fun xs => xs.length ≤ sizeLine ∧ newV (.list xs) H Q
  | .tuple => on1 args fun v => onRef v fun a => (match H a with
    | some (.list xs) => xs.length ≤ sizeLine ∧ newV (.tup xs) H Q
    | some (.tup _) => Q (.ref a) H
    | _ => False)
  | .sorted => on1 args fun v => sortedV v H Q
  | .int => on1 args fun v => onBool v fun b => Q (.int (if b then 1 else 0) 0) H
  | .all => on1 args fun v => onRef v fun a => (match H a with
    | some (.list xs) => ∃ bs : List Bool, xs = bs.map Value.bool ∧ Q (.bool (bs.all id)) H
    | _ => False)
  | .max2 => on2 args fun v w => onInt v fun x => onInt w fun y => Q (.int (max x y) 0) H
  | .min2 => on2 args fun v w => onInt v fun x => onInt w fun y => Q (.int (min x y) 0) H
  | .range => rangeV args H Q
  | .sortedT => on1 args fun v => onRef v fun a => (match H a with
    | some (.list xs) => sortedTV xs H Q
    | _ => False)
  | .deq => on2 args fun v w => onRef v fun a => onRef w fun b => deqV a b H Q
  | .freeze => on1 args fun v => onRef v fun a => (match H a with
    | some (.idict kvs) => ∀ ep, Q v (H.upd a (.edict kvs ep))
    | _ => False)
  | _ => False

inductive Bk where
  | list | dict | str

noncomputable def bmV (b : Bk) (m : Bm) (o : Value) (args : List Value) (H : Hp) (Q : QV) : Prop :=
  match b with
  | .list => (match m with
    | .append => onRef o fun a => on1 args fun v => (match H a with
      | some (.list xs) => xs.length ≤ sizeLine ∧ Q .none (H.upd a (.list (xs ++ [v])))
      | _ => False)
    | .pop => onRef o fun a => on0 args (match H a with
      | some (.list xs) => xs.length ≤ sizeLine ∧ (match xs.getLast? with | some v => Q v (H.upd a (.list xs.dropLast)) | none => False)
      | _ => False)
    | _ => False)
  | .dict => (match m with
    | .pop => onRef o fun a => on1 args fun v => onInt v fun k => (match H a with
      | some (.idict kvs) => kvs.length ≤ sizeLine ∧ (match valueAt kvs k with | some v => Q v (H.upd a (.idict (PySem.without kvs k))) | none => False)
      | _ => False)
    | _ => False)
  | .str => (match m with
    | .join => onStr o fun x => on1 args fun v => onRef v fun a => (match H a with
      | some (.list xs) => (match strsOf xs with
        | some ss => JoinOk x ss = true ∧ Q (.str (Txt.join x ss) 0) H
        | none => False)
      | _ => False)
    | .split => onStr o fun x => on1 args fun v => onStr v fun y => (y.length == 0) = false ∧ x.length ≤ sizeLine ∧ (Txt.split x y).length ≤ 2 ^ 25 ∧ (Builtin.Str.partsBetween x (Builtin.Str.occurrences x y 0 x.length (x.length + 1)) y.length).length ≤ sizeLine ∧ newV (.list ((Txt.split x y).map fun z => Value.str z 0)) H Q
    | _ => False)

noncomputable def callV (G : Gx) (hm : Bool) (f : Value) (args : List Value) (H : Hp) (Q : QV) (X : XV) : Prop :=
  match f with
  | .ref a => match G.init a with
    | some fi => ∀ d x, H d = none → H x = none → d ≠ x → G.fn fi hm (.ref x :: args) ((H.upd d (.ns [])).upd x (.inst a d)) (fun r H' => r = .none ∧ Q (.ref x) H') X
    | none => G.fn a hm args H Q X
  | _ => False

/-- which function a method's name tells -/
noncomputable def methV (G : Gx) (o : Value) (m : Str) (H : Hp) (k : Addr → Prop) : Prop :=
  match o with
  | .ref x => match H x with
    | some (.inst C d) => (match H d, G.meth C m with
      | some (.ns kvs), some f => valueAt kvs m = none ∧ k f
      | _, _ => False)
    | _ => False
  | _ => False

/-- a built-in's method is there -/
noncomputable def bmOn (m : Bm) (v : Value) (H : Hp) (k : Bk → Prop) : Prop :=
  match v with
  | .str _ _ => (m = .join ∨ m = .split) ∧ k .str
  | .ref a => (match H a with
    | some (.list _) => (m = .append ∨ m = .pop) ∧ k .list
    | some (.idict _) => (m = .pop ∨ m = .get) ∧ k .dict
    | some (.sdict _) => (m = .pop ∨ m = .get) ∧ k .dict
    | _ => False)
  | _ => False

/-- a comprehension's turns -/
noncomputable def compG (guard : Hp → Prop) (step : Value → Hp → (Option Value → Hp → Prop) → Prop) : List Value → List Value → Hp → (List Value → Hp → Prop) → Prop
  | [], acc, H, k => guard H ∧ k acc H
  | v :: vs, acc, H, k => guard H ∧ step v H fun r H' => compG guard step vs (match r with | some u => acc ++ [u] | none => acc) H' k

noncomputable def dictV : List Value → List Value → Hp → QV → Prop := fun ks vs H Q =>
  (ks = [] ∧ vs = [] ∧ newV (.idict []) H Q) ∨
  (∃ ss : List Str, ks = ss.map (fun x => Value.str x 0) ∧ ss.Nodup ∧ ss.length = vs.length ∧ ss.length ≤ 15 ∧ ss ≠ [] ∧ newV (.sdict (ss.zip vs)) H Q)

/-- an iteration; while an exception is handled: of an empty list alone -/
noncomputable def iterH (hm : Bool) (v : Value) (H : Hp) (k : (Hp → Prop) → List Value → Prop) : Prop :=
  (hm = false ∧ iterV v H k) ∨ (hm = true ∧ ∃ a, v = .ref a ∧ H a = some (.list []) ∧ k (fun H => H a = some (.list [])) [])
/-- the built-ins that may be called while an exception is handled -/
noncomputable def bfH (hm : Bool) (f : Bf) (vs : List Value) (H : Hp) : Prop := f = .len ∨ hm = false ∨ (f = .list ∧ ∃ a xs, vs = [.ref a] ∧ H a = some (.list xs)) ∨ (f = .all ∧ ∃ a, vs = [.ref a] ∧ H a = some (.list []))

mutual
noncomputable def wpE (G : Gx) (hm : Bool) : Ex → Loc → Hp → QV → XV → Prop
  | .none, _, H, Q, _ => Q .none H
  | .bool b, _, H, Q, _ => Q (.bool b) H
  | .int i, _, H, Q, _ => Q (.int i 0) H
  | .str x, _, H, Q, _ => Q (.str x 0) H
  | .loc x, l, H, Q, _ => onSome (l x) fun v => Q v H
  | .glob x, _, H, Q, _ => onSome (G.glob x) fun v => Q v H
  | .attr o a, l, H, Q, X => wpE G hm o l H (fun v H1 => attrV G v a H1 Q) X
  | .bin op x y, l, H, Q, X => wpE G hm x l H (fun a H1 => wpE G hm y l H1 (fun b H2 => binV op a b H2 Q) X) X
  | .neg x, l, H, Q, X => wpE G hm x l H (fun a H1 => match a with | .int i _ => Q (.int (-i) 0) H1 | _ => False) X
  | .not x, l, H, Q, X => wpE G hm x l H (fun a H1 => truthV a fun b => Q (.bool (!b)) H1) X
  | .bop a es, l, H, Q, X => wpB G hm a es l H Q X
  | .cmp x op y, l, H, Q, X => wpE G hm x l H (fun a H1 => wpE G hm y l H1 (fun b H2 => cmpV op a b H2 Q) X) X
  | .cmp2 x op y op2 z, l, H, Q, X => wpE G hm x l H (fun a H1 => wpE G hm y l H1 (fun b H2 => cmpV op a b H2 fun c H3 => truthV c fun r =>
      if r then wpE G hm z l H3 (fun d H4 => cmpV op2 b d H4 Q) X else Q (.bool false) H3) X) X
  | .isi e t, l, H, Q, X => wpE G hm e l H (fun v H1 => isiV G v t H1 Q) X
  | .bf f args, l, H, Q, X => wpEs G hm args l H (fun vs H1 => bfH hm f vs H1 ∧ bfV f vs H1 Q) X
  | .bm m o args, l, H, Q, X => wpE G hm o l H (fun v H1 => bmOn m v H1 fun b => wpEs G hm args l H1 (fun vs H2 => bmV b m v vs H2 Q) X) X
  | .call f args, l, H, Q, X => wpE G hm f l H (fun v H1 => wpEs G hm args l H1 (fun vs H2 => callV G hm v vs H2 Q X) X) X
  | .meth o m args, l, H, Q, X => wpE G hm o l H (fun v H1 => methV G v m H1 fun f => wpEs G hm args l H1 (fun vs H2 => G.fn f hm (v :: vs) H2 Q X) X) X
  | .idx o i, l, H, Q, X => wpE G hm o l H (fun v H1 => wpE G hm i l H1 (fun k H2 => idxV v k H2 Q) X) X
  | .slice o lo hi, l, H, Q, X => wpE G hm o l H (fun v H1 => wpO G hm lo l H1 (fun a H2 => wpO G hm hi l H2 (fun b H3 => sliceV v a b H3 Q) X) X) X
  | .list es, l, H, Q, X => wpEs G hm es l H (fun vs H1 => vs.length ≤ sizeLine ∧ newV (.list vs) H1 Q) X
  | .tup es, l, H, Q, X => wpEs G hm es l H (fun vs H1 => vs.length ≤ sizeLine ∧ newV (.tup vs) H1 Q) X
  | .dict ks vs, l, H, Q, X => wpEs G hm ks l H (fun a H1 => wpEs G hm vs l H1 (fun b H2 => dictV a b H2 Q) X) X
  | .comp elt x src ifs, l, H, Q, X => wpE G hm src l H (fun v H1 => iterH hm v H1 fun guard items => items.length ≤ sizeLine ∧
      compG guard (fun v H2 k => wpB G hm true ifs ((l.del ".0").upd x v) H2 (fun c H3 => truthV c fun r =>
        if r then wpE G hm elt ((l.del ".0").upd x v) H3 (fun u H4 => k (some u) H4) (fun _ _ => False) else k none H3) (fun _ _ => False)) items [] H1
        fun us H' => newV (.list us) H' Q) X
noncomputable def wpEs (G : Gx) (hm : Bool) : List Ex → Loc → Hp → (List Value → Hp → Prop) → XV → Prop
  | [], _, H, Q, _ => Q [] H
  | e :: es, l, H, Q, X => wpE G hm e l H (fun v H1 => wpEs G hm es l H1 (fun vs H2 => Q (v :: vs) H2) X) X
noncomputable def wpO (G : Gx) (hm : Bool) : Option Ex → Loc → Hp → QV → XV → Prop
  | none, _, H, Q, _ => Q .none H
  | some e, l, H, Q, X => wpE G hm e l H Q X
noncomputable def wpB (G : Gx) (hm : Bool) (isAnd : Bool) : List Ex → Loc → Hp → QV → XV → Prop
  | [], _, H, Q, _ => Q (.bool isAnd) H
  | e :: es, l, H, Q, X => wpE G hm e l H (fun v H1 => truthV v fun b => if b = isAnd then (match es with | [] => Q (.bool b) H1 | _ => wpB G hm isAnd es l H1 Q X) else Q (.bool b) H1) X
end

noncomputable def setAttrV (G : Gx) (o : Value) (a : Str) (v : Value) (H : Hp) (k : Hp → Prop) : Prop :=
  match o with
  | .ref x => match H x with
    | some (.inst C d) => (match H d with
      | some (.ns kvs) => G.fld C a = true ∧ kvs.length ≤ 100 ∧ k (H.upd d (.ns (stored kvs a v)))
      | _ => False)
    | _ => False
  | _ => False

noncomputable def setItemV (o i v : Value) (H : Hp) (k : Hp → Prop) : Prop :=
  match o, i with
  | .ref a, .int n _ => match H a with
    | some (.idict kvs) => kvs.length ≤ sizeLine ∧ k (H.upd a (.idict (stored kvs n v)))
    | some (.list xs) => 0 ≤ n ∧ n < (xs.length : Int) ∧ k (H.upd a (.list (xs.set n.toNat v)))
    | _ => False
  | .ref a, .str x _ => match H a with
    | some (.sdict kvs) => kvs.length ≤ sizeLine ∧ k (H.upd a (.sdict (stored kvs x v)))
    | some (.idict kvs) => kvs = [] ∧ k (H.upd a (.sdict [(x, v)]))
    | _ => False
  | _, _ => False

inductive Fl where
  | next | cont
  | ret (v : Value)

noncomputable abbrev QS := Fl → Loc → Hp → Prop
noncomputable abbrev XS := Addr → Loc → Hp → Prop

/-- a for's turns -/
noncomputable def forG (guard : Hp → Prop) (x : Str) (body : Loc → Hp → QS → Prop) : List Value → Loc → Hp → QS → Prop
  | [], l, H, Q => guard H ∧ Q .next l H
  | v :: vs, l, H, Q => guard H ∧ body (l.upd x v) H fun f l' H' => match f with
    | .next | .cont => forG guard x body vs l' H' Q
    | .ret r => Q (.ret r) l' H'

/-- a while's turns, at most so many -/
noncomputable def whileN (test : Loc → Hp → (Bool → Hp → Prop) → Prop) (body : Loc → Hp → QS → Prop) (Q : QS) : Nat → Loc → Hp → Prop
  | 0, _, _ => False
  | n + 1, l, H => test l H fun b H1 => if b then body l H1 (fun f l' H' => match f with
      | .next | .cont => whileN test body Q n l' H'
      | .ret r => Q (.ret r) l' H') else Q .next l H1

mutual
noncomputable def wpS (G : Gx) (hm : Bool) : Sm → Loc → Hp → QS → XS → Prop
  | .expr e, l, H, Q, X => wpE G hm e l H (fun _ H' => Q .next l H') (fun C H' => X C l H')
  | .asg x e, l, H, Q, X => wpE G hm e l H (fun v H' => Q .next (l.upd x v) H') (fun C H' => X C l H')
  | .asgAttr o a e, l, H, Q, X => wpE G hm e l H (fun v H1 => wpE G hm o l H1 (fun ov H2 => setAttrV G ov a v H2 fun H' => Q .next l H') (fun C H' => X C l H')) (fun C H' => X C l H')
  | .asgIdx o i e, l, H, Q, X => wpE G hm e l H (fun v H1 => wpE G hm o l H1 (fun ov H2 => wpE G hm i l H2 (fun iv H3 => setItemV ov iv v H3 fun H' => Q .next l H') (fun C H' => X C l H')) (fun C H' => X C l H')) (fun C H' => X C l H')
  | .ite c t f, l, H, Q, X => wpE G hm c l H (fun v H1 => truthV v fun b => if b then wpSs G hm t l H1 Q X else wpSs G hm f l H1 Q X) (fun C H' => X C l H')
  | .for_ x src body, l, H, Q, X => wpE G hm src l H (fun v H1 => iterH hm v H1 fun guard items => forG guard x (fun l' H' K => wpSs G hm body l' H' K X) items l H1 Q) (fun C H' => X C l H')
  | .while_ c body, l, H, Q, X => ∃ n, whileN (fun l' H' K => wpE G hm c l' H' (fun v H1 => truthV v fun b => K b H1) (fun C H' => X C l' H')) (fun l' H' K => wpSs G hm body l' H' K X) Q n l H
  | .ret e, l, H, Q, X => wpE G hm e l H (fun v H' => Q (.ret v) l H') (fun C H' => X C l H')
  | .raise c, l, H, _, X => hm = false ∧ (match G.glob c with | some (.ref C) => G.isExc C = true ∧ X C l H | _ => False)
  | .try_ body hs, l, H, Q, X => wpSs G hm body l H Q fun C l' H' => hm = false ∧ G.isExc C = true ∧ wpH G hs C l' H' Q X
  | .cont, l, H, Q, _ => Q .cont l H
  | .pass, l, H, Q, _ => Q .next l H
noncomputable def wpSs (G : Gx) (hm : Bool) : List Sm → Loc → Hp → QS → XS → Prop
  | [], l, H, Q, _ => Q .next l H
  | st :: r, l, H, Q, X => wpS G hm st l H (fun f l' H' => match f with | .next => wpSs G hm r l' H' Q X | f => Q f l' H') X
noncomputable def wpH (G : Gx) : List Hd → Addr → Loc → Hp → QS → XS → Prop
  | [], C, l, H, _, X => X C l H
  | .mk c n body :: r, C, l, H, Q, X => match G.glob c with
    | some (.ref D) => G.isExc D = true ∧ if G.sub C D then (match n with
        | none => wpSs G true body l H Q (fun _ _ _ => False)
        | some y => ∀ e, H e = none → wpSs G true body (l.upd y (.ref e)) (H.upd e (.exc C)) (fun f l' H' => Q f (l'.del y) (H'.del e)) (fun _ _ _ => False))
      else wpH G r C l H Q X
    | _ => False
end

/-- a def's call -/
noncomputable def wpF (G : Gx) (hm : Bool) (params : List Str) (body : List Sm) (args : List Value) (H : Hp) (Q : QV) (X : XV) : Prop :=
  params.length = args.length ∧ wpSs G hm body (fun x => (params.zip args).lookup x) H
    (fun f _ H' => match f with | .next => Q .none H' | .ret v => Q v H' | .cont => False) (fun C _ H' => X C H')

end Mine
end

section
open PySem PyProof.Rows PySem.Calls
namespace Mine

noncomputable def PostE (P : Pm) (F : Fm) (l : Loc) (Q : QV) : Value → Shared → Prop := fun V s' => ∃ H', Inv P F l H' s' ∧ Q (er V) H'

section
variable {P : Pm} {F : Fm} {l : Loc} {H : Hp} {s : Shared} {E : Value → Shared → Prop} {Q : QV} {A' B' a b : Value}

theorem same_int {x : Int} {t : Nat} (I : Inv P F l H s) (h : Q (.int x 0) H) (u : Tok) : PostE P F l Q (.int x u) { s with toks := t } := ⟨H, I.toks t, h⟩

theorem IsL.isList {h : Heap} {a : Addr} {vs : Array Value} (x : IsL h a vs) : h.IsList a vs := let ⟨n, e⟩ := x; ⟨_, e, rfl, n, rfl⟩
theorem mt_list {h : Heap} {a : Addr} {vs : Array Value} (hl : IsL h a vs) (hz : vs.size ≤ 2 ^ 25) : Mt P h a (.list (vs.toList.map er)) := ⟨vs, hl.isList, rfl, by simpa using hz, hl⟩
theorem mt_tup {h : Heap} {a : Addr} {vs : Array Value} (hl : h.IsTuple a vs) (hz : vs.size ≤ 2 ^ 25) : Mt P h a (.tup (vs.toList.map er)) := ⟨vs, hl, rfl, by simpa using hz⟩

theorem new_list (K : FmOk P F) (I : Inv P F l H s) {h' : Heap} {t : Nat} {m : Str → Option Value} {vs : Array Value} {n : Nat}
    (hm : ∀ x v, l x = some v → F.env.kindOf x = some .local → ∃ V, m x = some V ∧ er V = v) (F' : Fr P.base F.env.locals h' m)
    (N' : News P.base F.env.locals h' ((s.heap.objs.size, { cls := .type "list", data := .seq vs n }) :: allNews P.base s.heap F.env.locals))
    (hz : vs.size ≤ 2 ^ 25) (h : newV (.list (vs.toList.map er)) H Q) : PostE P F l Q (.ref s.heap.objs.size) { s with heap := h', toks := t } :=
  ⟨_, (I.after K hm F' N' fun _ hp => .tail _ hp).track (I.ofSize K) (bigs_of (I.base_le K)) (mt_list ⟨n, (N' _ (.head _)).1⟩ hz), h _ I.fresh⟩
theorem intBits_lt {x : Int} (h : x.natAbs < 2 ^ 63) : Builtin.Int.intBits x ≤ 64 := by
  unfold Builtin.Int.intBits
  split
  · omega
  · have := (Nat.log2_lt (n := x.natAbs) (k := 63) (by intro q; simp_all)).mpr h
    omega

theorem s_bin (K : FmOk P F) (I : Inv P F l H s) (op : Operator) (ha : er A' = a) (hb : er B' = b) (h : binV op a b H Q) : wpAny P.M F.A (binaryOp op A' B') (PostE P F l Q) E s := by
  unfold binV at h
  split at h
  · unfold addV at h
    split at h
    · obtain ⟨_, rfl⟩ := er_int ha; obtain ⟨y, _, rfl, h⟩ := onInt_elim hb h
      exact add_int (same_int I h _)
    · obtain ⟨_, rfl⟩ := er_str ha; obtain ⟨y, _, rfl, h⟩ := onStr_elim hb h
      exact add_str (fun t' tk => ⟨H, I.toks tk, h.2⟩) h.1
    · have := er_ref ha; subst this; obtain ⟨y, rfl, h⟩ := onRef_elim hb h
      obtain ⟨m, Fr, hm⟩ := I.fr K
      unfold addR at h
      split at h
      · rename_i xs hx
        split at h
        · rename_i ys hy
          obtain ⟨vs, hl, rfl, z1⟩ := I.objs _ _ hx
          obtain ⟨ws, hl', rfl, z2⟩ := I.objs _ _ hy
          simp only [List.length_map, Array.length_toList] at h z1 z2
          refine add_arrays Fr (news_all _ _ _) hl hl' (fun h' F' N' => new_list K I (t := s.toks) hm F' N' ?_ ?_) h.1
          · simp; have := h.1; simp [sizeLine] at this; omega
          · simpa using h.2
        · exact h.elim
      · rename_i xs hx
        split at h
        · rename_i ys hy
          obtain ⟨vs, hl, rfl, z1⟩ := I.objs _ _ hx
          obtain ⟨ws, hl', rfl, z2⟩ := I.objs _ _ hy
          simp only [List.length_map, Array.length_toList] at h z1 z2
          obtain ⟨vs⟩ := vs
          obtain ⟨ws⟩ := ws
          refine add_tuples Fr (news_all _ _ _) hl hl' (fun e => ?_) (fun _ e => ?_) (fun _ _ h' F' N' => ?_) h.1
          · subst e; exact ⟨H, I, h.2.2 _ (by simpa using hy)⟩
          · subst e; exact ⟨H, I, h.2.2 _ (by simpa using hx)⟩
          · have z := h.1
            simp [sizeLine] at z
            exact ⟨_, (I.after K hm F' N' (t := s.toks) fun _ hp => .tail _ hp).track (I.ofSize K) (bigs_of (I.base_le K)) (mt_tup ⟨_, (N' _ (.head _)).1, rfl, 0, rfl⟩ (by simp; omega)), by have := h.2.1 _ I.fresh; rw [← List.map_append] at this; exact this⟩
        · exact h.elim
      · exact h.elim
    · exact h.elim
  · obtain ⟨x, _, rfl, h⟩ := onInt_elim ha h; obtain ⟨y, _, rfl, h⟩ := onInt_elim hb h
    exact sub_int (same_int I h _)
  · unfold multV at h
    split at h
    · rename_i x _; obtain ⟨_, rfl⟩ := er_int ha; obtain ⟨y, _, rfl, h⟩ := onInt_elim hb h
      refine mul_int (same_int I h.2 _) ?_
      unfold IntMulOk shortFactorBits
      rcases h.1 with q | q
      · have := intBits_lt q; simp; omega
      · have := intBits_lt q; simp; omega
    · rename_i x _; obtain ⟨_, rfl⟩ := er_str ha; obtain ⟨n, _, rfl, h⟩ := onInt_elim hb h
      refine SB.mul ?_ (fun t' tk => ⟨H, I.toks tk, h.2.2.2⟩)
      obtain ⟨h1, h2, h3, _⟩ := h
      refine ⟨by simp; omega, fun q _ => ?_, fun q _ => ?_⟩
      · have : (1000 : Int) ≤ (2 ^ 63 - 1) / n := by
          apply Int.le_ediv_of_mul_le (by omega)
          have : 1000 * n ≤ 1000 * 1000 := Int.mul_le_mul_of_nonneg_left h2 (by omega)
          omega
        omega
      · have : x.length * n.toNat ≤ 1000 * 1000 := Nat.mul_le_mul h1 (by omega)
        simp [Builtin.Str.tooLong, sizeLine]; omega
    · exact h.elim
  · obtain ⟨x, _, rfl, h⟩ := onInt_elim ha h; obtain ⟨y, _, rfl, h⟩ := onInt_elim hb h
    refine floordiv_int (by omega) ?_ (.inl ?_)
    · rw [Int.fdiv_eq_ediv_of_nonneg _ (by omega)]; exact same_int I h.2.2 _
    · unfold Builtin.divisionGoesByPylong
      have : y.natAbs.log2 < 63 := by
        by_cases hy : y.natAbs = 0
        · rw [hy]; decide
        · exact (Nat.log2_lt hy).mpr (by omega)
      have h0 : ¬ y = 0 := by omega
      simp [h0]
      omega
  · obtain ⟨x, _, rfl, h⟩ := onInt_elim ha h; obtain ⟨y, _, rfl, h⟩ := onInt_elim hb h
    refine mod_int (by omega) ?_
    rw [Int.fmod_eq_emod_of_nonneg _ (by omega)]; exact same_int I h.2 _
  · obtain ⟨x, _, rfl, h⟩ := onInt_elim ha h; obtain ⟨y, _, rfl, h⟩ := onInt_elim hb h
    have := intBits_lt h.2.2.1
    refine pow_int h.1 ?_ (same_int I h.2.2.2 _)
    have h1 : (Builtin.Int.intBits x : Int) * y ≤ 64 * 100 := Int.mul_le_mul (by omega) h.2.1 h.1 (by omega)
    omega
  · exact h.elim


theorem reads_of (I : Inv P F l H s) {v : Value} {d : PyData} (h : Rd H v d) : ∀ V, er V = v → ∃ as, Reads s.heap V d as := by
  refine Rd.rec (motive_1 := fun v d _ => ∀ V, er V = v → ∃ as, Reads s.heap V d as) (motive_2 := fun vs ds _ => ∀ Vs : List Value, Vs.map er = vs → ∃ as, ReadsAll s.heap Vs ds as)
    (fun V e => ⟨[], by rw [er_none e]; exact .none⟩) (fun b V e => ⟨[], by rw [er_bool e]; exact .bool b⟩) (fun i t V e => ⟨[], by obtain ⟨u, rfl⟩ := er_int e; exact .int i u⟩) (fun x t V e => ⟨[], by obtain ⟨u, rfl⟩ := er_str e; exact .str x u⟩) ?_ ?_ ?_ ?_ ?_ h
  · intro a xs ds ha _ ih V e
    have := er_ref e; subst this
    obtain ⟨vs, ⟨o, ho, hc, n, hd⟩, q, _⟩ := I.objs _ _ ha
    obtain ⟨as, r⟩ := ih vs.toList q
    exact ⟨_, .list ho hc hd r⟩
  · intro a xs ds ha _ ih V e
    have := er_ref e; subst this
    obtain ⟨vs, ⟨o, ho, hc, n, hd⟩, q, _⟩ := I.objs _ _ ha
    obtain ⟨as, r⟩ := ih vs.toList q
    exact ⟨_, .tuple ho hc hd r⟩
  · intro a xs ds ha _ ih V e
    have := er_ref e; subst this
    obtain ⟨vs, ⟨o, ho, hc, n, hd⟩, q, _⟩ := I.objs _ _ ha
    obtain ⟨as, r⟩ := ih vs.toList q
    exact ⟨_, .list ho hc hd r⟩
  · intro Vs e
    cases Vs with
    | nil => exact ⟨[], .nil⟩
    | cons => cases e
  · intro v vs d ds _ _ i1 i2 Vs e
    cases Vs with
    | nil => cases e
    | cons V Vs =>
      obtain ⟨as, p⟩ := i1 V (List.cons.inj e).1
      obtain ⟨bs, q⟩ := i2 Vs (List.cons.inj e).2
      exact ⟨_, .cons p q⟩

theorem beq_dec {α : Type} [DecidableEq α] (x y : α) : (x == y) = decide (x = y) := by rw [Bool.eq_iff_iff]; simp

theorem s_eq (I : Inv P F l H s) (hu : F.A.units + 64 < cLine) (ha : er A' = a) (hb : er B' = b) (h : eqV a b H fun r => Q (.bool r) H) : wpAny P.M F.A (compareOp .Eq A' B') (PostE P F l Q) E s := by
  unfold eqV at h
  split at h
  · obtain ⟨_, rfl⟩ := er_int ha; obtain ⟨_, rfl⟩ := er_int hb
    exact eq_int ⟨H, I, by rw [beq_dec]; exact h⟩
  · obtain ⟨_, rfl⟩ := er_str ha; obtain ⟨_, rfl⟩ := er_str hb
    exact eq_str ⟨H, I, by rw [beq_dec]; exact h⟩
  · rw [er_none ha, er_none hb]; exact EqNone.eq_none_none ⟨H, I, h⟩
  · rw [er_none ha]; obtain ⟨_, rfl⟩ := er_int hb; exact EqNone.eq_none_int ⟨H, I, h⟩
  · rw [er_none hb]; obtain ⟨_, rfl⟩ := er_int ha; exact EqNone.eq_int_none ⟨H, I, h⟩
  · rw [er_none ha]; obtain ⟨_, rfl⟩ := er_str hb; exact EqNone.eq_none_str ⟨H, I, h⟩
  · rw [er_none hb]; obtain ⟨_, rfl⟩ := er_str ha; exact EqNone.eq_str_none ⟨H, I, h⟩
  · obtain ⟨da, db, ra, rb, sa, sb, q⟩ := h
    obtain ⟨as, ra⟩ := reads_of I ra A' ha
    obtain ⟨bs, rb⟩ := reads_of I rb B' hb
    exact SeqAt.compareEq_shaped ra rb sa sb hu ⟨H, I, q⟩

theorem s_ne (I : Inv P F l H s) (hu : F.A.units + 64 < cLine) (ha : er A' = a) (hb : er B' = b) (h : eqV a b H fun r => Q (.bool (!r)) H) : wpAny P.M F.A (compareOp .NotEq A' B') (PostE P F l Q) E s := by
  unfold eqV at h
  split at h
  · obtain ⟨_, rfl⟩ := er_int ha; obtain ⟨_, rfl⟩ := er_int hb
    exact ne_int ⟨H, I, by show Q (.bool (_ != _)) H; unfold bne; rw [beq_dec]; exact h⟩
  · obtain ⟨_, rfl⟩ := er_str ha; obtain ⟨_, rfl⟩ := er_str hb
    exact ne_str ⟨H, I, by show Q (.bool (_ != _)) H; unfold bne; rw [beq_dec]; exact h⟩
  · rw [er_none ha, er_none hb]; exact EqNone.ne_none_none ⟨H, I, h⟩
  · rw [er_none ha]; obtain ⟨_, rfl⟩ := er_int hb; exact EqNone.ne_none_int ⟨H, I, h⟩
  · rw [er_none hb]; obtain ⟨_, rfl⟩ := er_int ha; exact EqNone.ne_int_none ⟨H, I, h⟩
  · rw [er_none ha]; obtain ⟨_, rfl⟩ := er_str hb; exact EqNone.ne_none_str ⟨H, I, h⟩
  · rw [er_none hb]; obtain ⟨_, rfl⟩ := er_str ha; exact EqNone.ne_str_none ⟨H, I, h⟩
  · obtain ⟨da, db, ra, rb, sa, sb, q⟩ := h
    obtain ⟨as, ra⟩ := reads_of I ra A' ha
    obtain ⟨bs, rb⟩ := reads_of I rb B' hb
    exact SeqAt.compareNe_shaped ra rb sa sb hu ⟨H, I, q⟩

theorem valueAt_er {K : Type} [DecidableEq K] (ks : List (K × Value)) (k : K) : valueAt (ks.map fun p => (p.1, er p.2)) k = (valueAt ks k).map er := by
  unfold valueAt
  induction ks with
  | nil => rfl
  | cons p r ih =>
    simp only [List.map_cons, List.find?_cons]
    by_cases e : p.1 = k
    · simp [e]
    · simp [e]; simpa using ih

theorem not_modules (Y : PmOk P) (I : Inv P F l H s) {a : Addr} {o : AObj} (h : H a = some o) (hb : Bigs P a o → P.base.objs.size ≤ a := by exact id) : (a == sysModules) = false := by
  have h3 : sysModules < mainGlobals := by decide
  exact beq_eq_false_iff_ne.mpr (Nat.ne_of_gt (Nat.lt_of_lt_of_le (Nat.lt_trans h3 Y.g.lt) (hb (I.big a o h))))

theorem ints_of : ∀ {vs : List Value} {ns : List Int}, vs.map er = ns.map (fun n => Value.int n 0) → IntsAre vs ns
  | [], [], _ => .nil
  | [], _ :: _, e => by simp at e
  | _ :: _, [], e => by simp at e
  | v :: vs, n :: ns, e => by
    simp only [List.map_cons, List.cons.injEq] at e
    obtain ⟨t, rfl⟩ := er_int e.1
    exact .cons n t (ints_of e.2)
theorem strs_of : ∀ {vs : List Value} {ns : List Str}, vs.map er = ns.map (fun n => Value.str n 0) → StrsAre vs ns
  | [], [], _ => .nil
  | [], _ :: _, e => by simp at e
  | _ :: _, [], e => by simp at e
  | v :: vs, n :: ns, e => by
    simp only [List.map_cons, List.cons.injEq] at e
    obtain ⟨t, rfl⟩ := er_str e.1
    exact .cons n t (strs_of e.2)
theorem any_mem (ns : List Int) (i : Int) : ns.any (· == i) = decide (i ∈ ns) := by
  rw [Bool.eq_iff_iff]; simp

theorem empty_sdict {h : Heap} {a : Addr} (x : h.DictOf (intKind P.prog P.w) a []) : h.DictOf (PySem.strKind P.prog P.w) a [] := by
  obtain ⟨o, es, ep, h1, h2, h3, h4, h5, h6⟩ := x
  have : es = #[] := by
    cases hq : es.toList with
    | nil => simpa using hq
    | cons => rw [hq] at h5; cases h5
  subst this
  exact ⟨o, #[], ep, h1, h2, h3, fun e he => by simp at he, .nil, .nil⟩

theorem s_in (Y : PmOk P) (I : Inv P F l H s) (ha : er A' = a) (hb : er B' = b) (h : inV a b H fun r => Q (.bool r) H) : wpAny P.M F.A (compareOp .In A' B') (PostE P F l Q) E s := by
  unfold inV at h
  split at h
  · obtain ⟨_, rfl⟩ := er_str ha; obtain ⟨_, rfl⟩ := er_str hb
    exact in_str ⟨H, I, h⟩
  · obtain ⟨_, rfl⟩ := er_int ha; have := er_ref hb; subst this
    split at h
    · rename_i hx
      obtain ⟨ks, hd, rfl⟩ := I.objs _ _ hx
      refine wpAny_in_of (intKind_is _ _ _ _) (not_modules Y I hx) hd.mapOf ⟨H, I.toks _, ?_⟩
      rw [valueAt_er] at h
      simpa [er] using h
    · rename_i hx
      obtain ⟨ns, rfl, h⟩ := h
      obtain ⟨⟨vs⟩, hl, q, _⟩ := I.objs _ _ hx
      exact in_list_ints hl (ints_of q) ⟨H, I, by rw [any_mem]; exact h⟩
    · exact h.elim
  · obtain ⟨_, rfl⟩ := er_str ha; have := er_ref hb; subst this
    split at h
    · rename_i hx
      obtain ⟨ks, hd, rfl⟩ := I.objs _ _ hx
      refine wpAny_in_of (strKind_is _ _ _ _) (not_modules Y I hx) hd.mapOf ⟨H, I.toks _, ?_⟩
      rw [valueAt_er] at h
      simpa [er] using h
    · rename_i hx
      obtain ⟨ks, hd, q⟩ := I.objs _ _ hx
      obtain ⟨e, h⟩ := h
      obtain rfl : ks = [] := by rw [e] at q; simpa using q
      exact wpAny_in_of (strKind_is _ _ _ _) (not_modules Y I hx) (empty_sdict hd).mapOf ⟨H, I.toks _, h⟩
    · exact h.elim
  · exact h.elim

theorem s_notin (Y : PmOk P) (I : Inv P F l H s) (ha : er A' = a) (hb : er B' = b) (h : inV a b H fun r => Q (.bool (!r)) H) : wpAny P.M F.A (compareOp .NotIn A' B') (PostE P F l Q) E s := by
  unfold inV at h
  split at h
  · obtain ⟨_, rfl⟩ := er_str ha; obtain ⟨_, rfl⟩ := er_str hb
    exact notIn_str ⟨H, I, h⟩
  · obtain ⟨_, rfl⟩ := er_int ha; have := er_ref hb; subst this
    split at h
    · rename_i hx
      obtain ⟨ks, hd, rfl⟩ := I.objs _ _ hx
      refine wpAny_notIn_of (intKind_is _ _ _ _) (not_modules Y I hx) hd.mapOf ⟨H, I.toks _, ?_⟩
      rw [valueAt_er] at h
      simpa [er] using h
    · rename_i hx
      obtain ⟨ns, rfl, h⟩ := h
      obtain ⟨⟨vs⟩, hl, q, _⟩ := I.objs _ _ hx
      exact notin_list_ints hl (ints_of q) ⟨H, I, by rw [any_mem]; exact h⟩
    · exact h.elim
  · obtain ⟨_, rfl⟩ := er_str ha; have := er_ref hb; subst this
    split at h
    · rename_i hx
      obtain ⟨ks, hd, rfl⟩ := I.objs _ _ hx
      refine wpAny_notIn_of (strKind_is _ _ _ _) (not_modules Y I hx) hd.mapOf ⟨H, I.toks _, ?_⟩
      rw [valueAt_er] at h
      simpa [er] using h
    · rename_i hx
      obtain ⟨ks, hd, q⟩ := I.objs _ _ hx
      obtain ⟨e, h⟩ := h
      obtain rfl : ks = [] := by rw [e] at q; simpa using q
      exact wpAny_notIn_of (strKind_is _ _ _ _) (not_modules Y I hx) (empty_sdict hd).mapOf ⟨H, I.toks _, h⟩
    · exact h.elim
  · exact h.elim

theorem s_is (I : Inv P F l H s) (h : match er A' with | .none => Q (.bool true) H | .builtin _ => False | _ => Q (.bool false) H) : wpAny P.M F.A (compareOp .Is A' .none) (PostE P F l Q) E s := by
  cases A' <;> dsimp only [er] at h
  case none => exact wpAny_is_plain rfl ⟨H, I, h⟩
  all_goals exact wpAny_is_other rfl (by simp) ⟨H, I, h⟩
theorem s_isnot (I : Inv P F l H s) (h : match er A' with | .none => Q (.bool false) H | .builtin _ => False | _ => Q (.bool true) H) : wpAny P.M F.A (compareOp .IsNot A' .none) (PostE P F l Q) E s := by
  cases A' <;> dsimp only [er] at h
  case none => exact wpAny_isNot_self rfl ⟨H, I, h⟩
  all_goals exact wpAny_isNot_other rfl (by simp) ⟨H, I, h⟩

theorem s_cmp (Y : PmOk P) (I : Inv P F l H s) (hu : F.A.units + 64 < cLine) (op : CmpOp) (ha : er A' = a) (hb : er B' = b) (h : cmpV op a b H Q) : wpAny P.M F.A (compareOp op A' B') (PostE P F l Q) E s := by
  unfold cmpV at h
  cases op <;> dsimp only at h
  · exact s_eq I hu ha hb h
  · exact s_ne I hu ha hb h
  · split at h
    · obtain ⟨_, rfl⟩ := er_int ha; obtain ⟨_, rfl⟩ := er_int hb; exact lt_int ⟨H, I, h⟩
    · obtain ⟨_, rfl⟩ := er_str ha; obtain ⟨_, rfl⟩ := er_str hb; exact lt_str ⟨H, I, h⟩
    · exact h.elim
  · split at h
    · obtain ⟨_, rfl⟩ := er_int ha; obtain ⟨_, rfl⟩ := er_int hb; exact le_int ⟨H, I, h⟩
    · exact h.elim
  · split at h
    · obtain ⟨_, rfl⟩ := er_int ha; obtain ⟨_, rfl⟩ := er_int hb; exact gt_int ⟨H, I, h⟩
    · obtain ⟨_, rfl⟩ := er_str ha; obtain ⟨_, rfl⟩ := er_str hb; exact PySem.P.gt_str ⟨H, I, h⟩
    · exact h.elim
  · split at h
    · obtain ⟨_, rfl⟩ := er_int ha; obtain ⟨_, rfl⟩ := er_int hb; exact ge_int ⟨H, I, h⟩
    · exact h.elim
  · split at h
    · rw [er_none hb]; subst ha; exact s_is I h
    · exact h.elim
  · split at h
    · rw [er_none hb]; subst ha; exact s_isnot I h
    · exact h.elim
  · exact s_in Y I ha hb h
  · exact s_notin Y I ha hb h

end
end Mine
end

section
open PySem PyProof.Rows PySem.Calls
namespace Mine

/-! ## slices -/
theorem slice_core {α : Type} (xs : List α) (a : Nat) : ∀ n : Nat, a + n ≤ xs.length → ((List.range n).map (fun k => a + k)).filterMap (fun i => xs[i]?) = (xs.take (a + n)).drop a
  | 0, _ => by simp
  | n + 1, h => by
    have ih := slice_core xs a n (by omega)
    rw [List.range_succ, List.map_append, List.filterMap_append, ih]
    have hl : a + n < xs.length := by omega
    simp only [List.map_cons, List.map_nil, List.filterMap_cons, List.getElem?_eq_getElem hl, List.filterMap_nil]
    have : xs.take (a + (n + 1)) = xs.take (a + n) ++ [xs[a + n]] := by rw [← Nat.add_assoc]; exact List.take_succ_eq_append_getElem hl
    rw [this, List.drop_append_of_le_length]
    simp; omega

theorem clip_eq (n : Nat) (i : Int) : (max 0 (min (if i < 0 then i + n else i) (n : Int))) = (cutAt n i : Int) := by
  unfold cutAt
  split
  · rename_i h
    rw [Int.ofNat_toNat, Int.min_eq_left (Int.le_trans (Int.add_le_add_right (Int.le_of_lt h) _) (Int.le_of_eq (Int.zero_add _))), Int.max_comm]
  · rename_i h
    have h := Int.not_lt.1 h
    rw [Int.max_eq_right (Int.le_min.2 ⟨h, Int.natCast_nonneg _⟩)]
    obtain ⟨m, rfl⟩ := Int.eq_ofNat_of_zero_le h
    rw [Int.toNat_natCast]
    rcases Nat.le_total m n with q | q
    · rw [Nat.min_eq_left q, Int.min_eq_left (Int.ofNat_le.2 q)]
    · rw [Nat.min_eq_right q, Int.min_eq_right (Int.ofNat_le.2 q)]
theorem cutAt_le (n : Nat) (i : Int) : cutAt n i ≤ n := Int.ofNat_le.1 (clip_eq n i ▸ Int.max_le.2 ⟨Int.natCast_nonneg _, Int.min_le_right ..⟩)
theorem hiAt_le (n : Nat) (i : Option Int) : hiAt n i ≤ n := by cases i <;> simp [hiAt, cutAt_le]

theorem sliceRange_one (a b : Nat) : sliceRange (a : Int) (b : Int) 1 = (List.range (b - a)).map fun k => a + k := by
  have e : (if (1 : Int) > 0 then (if (a : Int) < b then ((b : Int) - a + 1 - 1) / 1 else 0) else (if (a : Int) > b then ((a : Int) - b - 1 - 1) / (-1) else 0)).toNat = b - a := by
    rw [if_pos Int.one_pos, Int.add_sub_cancel, Int.ediv_one]
    split
    · exact Int.toNat_sub b a
    · rename_i h; exact (Nat.sub_eq_zero_of_le (Int.ofNat_le.1 (Int.not_lt.1 h))).symm
  unfold sliceRange
  simp only [e]
  apply List.map_congr_left
  intro k _
  rw [Int.one_mul, ← Int.natCast_add, Int.toNat_natCast]
theorem sliceIdx (n : Nat) (lo hi : Option Int) : sliceRange (sliceBounds lo hi none n).1 (sliceBounds lo hi none n).2.1 (sliceBounds lo hi none n).2.2 = (List.range (hiAt n hi - loAt n lo)).map fun k => loAt n lo + k := by
  have h1 : (sliceBounds lo hi none n).1 = (loAt n lo : Int) := by
    cases lo with
    | none => simp [sliceBounds, loAt]
    | some i => simp only [sliceBounds, Option.getD, loAt]; rw [if_pos (by omega)]; exact clip_eq _ _
  have h2 : (sliceBounds lo hi none n).2.1 = (hiAt n hi : Int) := by
    cases hi with
    | none => simp [sliceBounds, hiAt]
    | some i => simp only [sliceBounds, Option.getD, hiAt]; rw [if_pos (by omega)]; exact clip_eq _ _
  have h3 : (sliceBounds lo hi none n).2.2 = 1 := rfl
  rw [h1, h2, h3, sliceRange_one]

theorem slicePick_eq {α : Type} (xs : List α) (lo hi : Option Int) :
    (sliceRange (sliceBounds lo hi none xs.length).1 (sliceBounds lo hi none xs.length).2.1 (sliceBounds lo hi none xs.length).2.2).filterMap (fun i => xs[i]?) = pySlice xs lo hi := by
  have key : ∀ a b : Nat, b ≤ xs.length → ((List.range (b - a)).map fun k => a + k).filterMap (fun i => xs[i]?) = (xs.take b).drop a := by
    intro a b hb
    by_cases hab : b ≤ a
    · have : b - a = 0 := by omega
      rw [this]
      rw [List.drop_eq_nil_of_le (by simp; omega)]
      simp
    · rw [slice_core xs a (b - a) (by omega)]
      congr 2
      omega
  rw [sliceIdx]
  exact key _ _ (hiAt_le _ _)
theorem pySlice_whole {α : Type} (xs : List α) (lo hi : Option Int) (h : hiAt xs.length hi - loAt xs.length lo = xs.length) : pySlice xs lo hi = xs := by
  have := hiAt_le xs.length hi
  unfold pySlice
  by_cases z : xs.length = 0
  · have := List.eq_nil_of_length_eq_zero z; subst this; simp
  · have h1 : loAt xs.length lo = 0 := by omega
    have h2 : hiAt xs.length hi = xs.length := by omega
    rw [h1, h2]; simp

theorem pySlice_len {α : Type} (xs : List α) (lo hi : Option Int) : (pySlice xs lo hi).length ≤ xs.length := by
  unfold pySlice; simp; omega
theorem pySlice_map {α β : Type} (f : α → β) (xs : List α) (lo hi : Option Int) : pySlice (xs.map f) lo hi = (pySlice xs lo hi).map f := by
  unfold pySlice
  simp [List.map_take, List.map_drop]

theorem at_map {α β : Type} (f : α → β) (xs : List α) (k : Int) {v : β} (h : at? (xs.map f) k = some v) : ∃ u, at? xs k = some u ∧ f u = v := by
  unfold at? at *
  simp only [List.length_map, List.getElem?_map] at h
  split at h
  · rename_i q; rw [if_pos q]; exact Option.map_eq_some_iff.mp h
  · rename_i q; rw [if_neg q]
    split at h
    · rename_i q; rw [if_pos q]; exact Option.map_eq_some_iff.mp h
    · cases h

theorem at_seqIndex {α : Type} (xs : List α) (k : Int) {v : α} (h : at? xs k = some v) : ∃ j, seqIndex? k xs.length = some j ∧ xs[j]? = some v ∧ -(xs.length : Int) ≤ k ∧ k < xs.length := by
  unfold at? at h
  split at h
  · rename_i q
    have b := (List.getElem?_eq_some_iff.mp h).1
    have b2 : k < xs.length := Int.lt_of_le_of_lt (Int.self_le_toNat k) (Int.ofNat_lt.2 b)
    refine ⟨k.toNat, ?_, h, Int.le_trans (Int.neg_nonpos_of_nonneg (Int.natCast_nonneg _)) q, b2⟩
    simp only [seqIndex?, if_neg (Int.not_lt.2 q)]
    rw [if_pos (Bool.and_eq_true_iff.2 ⟨decide_eq_true q, decide_eq_true b2⟩)]
  · split at h
    · rename_i q1 q2
      have q1 := Int.not_le.1 q1
      have q3 := Int.add_lt_add_right q1 (xs.length : Int)
      rw [Int.zero_add] at q3
      have q4 : 0 ≤ k + xs.length := Int.add_nonneg_iff_neg_le.2 q2
      refine ⟨(k + xs.length).toNat, ?_, h, q2, Int.lt_of_lt_of_le q1 (Int.natCast_nonneg _)⟩
      simp only [seqIndex?, if_pos q1]
      rw [if_pos (Bool.and_eq_true_iff.2 ⟨decide_eq_true q4, decide_eq_true q3⟩)]
    · cases h

section
variable {P : Pm} {F : Fm} {l : Loc} {H : Hp} {s : Shared} {E : Value → Shared → Prop} {Q : QV} {A' B' a b : Value}

theorem s_idx (I : Inv P F l H s) (ha : er A' = a) (hb : er B' = b) (h : idxV a b H Q) : wpAny P.M F.A (getItem A' B') (PostE P F l Q) E s := by
  unfold idxV at h
  split at h
  · rename_i x k _; have := er_ref ha; subst this; obtain ⟨_, rfl⟩ := er_int hb
    split at h
    · rename_i xs hx
      obtain ⟨⟨vs⟩, hl, q, z, _⟩ := I.objs _ _ hx
      split at h
      · rename_i v hv
        subst q
        obtain ⟨V, hV, rfl⟩ := at_map er vs k hv
        simp only [List.length_map] at z
        obtain ⟨j, e1, e2, e3, e4⟩ := at_seqIndex vs k hV
        by_cases hk : 0 ≤ k
        · refine wpAny_getItem_list hl hk (by omega) (x := V) ?_ ⟨H, I, h⟩
          simp only [at?, if_pos hk] at hV
          simpa using hV
        · refine wpAny_getItem_list_neg hl (by omega) (by simpa using e3) (by omega) (x := V) ?_ ⟨H, I, h⟩
          simp only [at?, if_neg hk, if_pos e3] at hV
          simpa using hV
      · exact h.elim
    · rename_i xs hx
      obtain ⟨⟨vs⟩, hl, q, z⟩ := I.objs _ _ hx
      split at h
      · rename_i v hv
        subst q
        obtain ⟨V, hV, rfl⟩ := at_map er vs k hv
        simp only [List.length_map] at z
        obtain ⟨j, e1, e2, e3, e4⟩ := at_seqIndex vs k hV
        by_cases hk : 0 ≤ k
        · refine wpAny_getItem_list hl hk (by omega) (x := V) ?_ ⟨H, I, h⟩
          simp only [at?, if_pos hk] at hV
          simpa using hV
        · refine wpAny_getItem_list_neg hl (by omega) (by simpa using e3) (by omega) (x := V) ?_ ⟨H, I, h⟩
          simp only [at?, if_neg hk, if_pos e3] at hV
          simpa using hV
      · exact h.elim
    · rename_i xs hx
      obtain ⟨⟨vs⟩, hl, q, z⟩ := I.objs _ _ hx
      split at h
      · rename_i v hv
        subst q
        obtain ⟨V, hV, rfl⟩ := at_map er vs k hv
        simp only [List.length_map] at z
        obtain ⟨j, e1, e2, e3, e4⟩ := at_seqIndex vs k hV
        exact getItem_tuple hl (by omega) (by omega) (j := j) (by simpa using e1) (x := V) (by simpa using e2) ⟨H, I, h⟩
      · exact h.elim
    · rename_i kvs hx
      obtain ⟨ks, hd, rfl⟩ := I.objs _ _ hx
      split at h
      · rename_i v hv
        rw [valueAt_er] at hv
        obtain ⟨V, hV, rfl⟩ := Option.map_eq_some_iff.mp hv
        exact wpAny_getItem_of (intKind_is _ _ _ _) hd.mapOf hV ⟨H, I.toks _, h⟩
      · exact h.elim
    · rename_i kvs ep hx
      obtain ⟨ks, ⟨o, es, ho, r⟩, rfl, _⟩ := I.objs _ _ hx
      have hd : s.heap.DictOf (intKind P.prog P.w) x ks := ⟨o, es, ep, ho, r⟩
      split at h
      · rename_i v hv
        rw [valueAt_er] at hv
        obtain ⟨V, hV, rfl⟩ := Option.map_eq_some_iff.mp hv
        exact wpAny_getItem_of (intKind_is _ _ _ _) hd.mapOf hV ⟨H, I.toks _, h⟩
      · exact h.elim
    · exact h.elim
  · rename_i x k _; have := er_ref ha; subst this; obtain ⟨_, rfl⟩ := er_str hb
    split at h
    · rename_i kvs hx
      obtain ⟨ks, hd, rfl⟩ := I.objs _ _ hx
      split at h
      · rename_i v hv
        rw [valueAt_er] at hv
        obtain ⟨V, hV, rfl⟩ := Option.map_eq_some_iff.mp hv
        exact wpAny_getItem_of (strKind_is _ _ _ _) hd.mapOf hV ⟨H, I.toks _, h⟩
      · exact h.elim
    · exact h.elim
  · rename_i x _ k _; obtain ⟨_, rfl⟩ := er_str ha; obtain ⟨_, rfl⟩ := er_int hb
    split at h
    · rename_i c hc
      obtain ⟨j, e1, e2, e3, e4⟩ := at_seqIndex _ k hc
      have hz := h.1
      have hlen : x.cps.toList.length = x.length := by simp [Str.length]
      rw [hlen] at e1 e3 e4
      simp only [sizeLine] at hz
      refine getItem_str (c := c) (by simp; omega) ?_ ⟨H, I.toks _, h.2⟩
      rw [e1]
      simpa using e2
    · exact h.elim
  · exact h.elim

theorem partOf_er {V : Value} {i : Option Int} (h : partOf (er V) = some i) : IsPart V i := by
  cases V <;> simp [er, partOf] at h <;> subst h
  · exact .none
  · exact .int _ _
theorem s_len (I : Inv P F l H s) (ha : er A' = a) (h : lenV a H Q) : wpAny P.M F.A (call (.builtin "len") [A']) (PostE P F l Q) E s := by
  unfold lenV at h
  split at h
  · obtain ⟨_, rfl⟩ := er_str ha
    have := h.1
    simp only [sizeLine] at this
    exact len_str (by omega) ⟨H, I.toks _, h.2⟩
  · have := er_ref ha; subst this
    split at h
    · rename_i hx
      obtain ⟨vs, hl, rfl, z, _⟩ := I.objs _ _ hx
      simp only [List.length_map, Array.length_toList] at h z
      exact len_list hl (by omega) ⟨H, I.toks _, h⟩
    · rename_i hx
      obtain ⟨vs, hl, rfl, z⟩ := I.objs _ _ hx
      simp only [List.length_map, Array.length_toList] at h z
      exact len_list hl (by omega) ⟨H, I.toks _, h⟩
    · rename_i hx
      obtain ⟨vs, hl, rfl, z⟩ := I.objs _ _ hx
      simp only [List.length_map, Array.length_toList] at h z
      exact len_tuple hl (by omega) ⟨H, I.toks _, h⟩
    · exact h.elim
  · exact h.elim

end
end Mine
end

section
open PySem PyProof.Rows PySem.Calls
open PySem.W (dictOf getL putL putN plainGet hasDictIn findIn isFn noGet plainOver takerIn makesIn subIn)
namespace Mine

/-! ## instances -/
section
variable {w : World} {es : List DictEntry} {kvs : List (Str × Value)} {a : Str}

end

/-- what the written part says of the names -/
structure ExcCls (K : PySem.W.Frag) (D : Addr) : Prop where
  ga : findIn K (.ref D) "__getattribute__" = some (some (.builtin "BaseException.__getattribute__"))
  gr : findIn K (.ref D) "__getattr__" = some none
  fo : PySem.W.findObj K D none "__class__" = some (.bind (.builtin "getset_descriptor.__get__") (.builtin "object.__class__"))
  ob : PySem.W.mroIn K D (.type "object") = some true
  be : PySem.W.mroIn K D (.type "BaseException") = some true
  cl : (PySem.W.clsIn K D).isSome = true
  ty : PySem.W.typeIn K (.ref D) = some (.type "type")
  ve : subIn K (.ref D) (.type "ValueError") = some true

noncomputable abbrev veMro : List Value := [.type "ValueError", .type "Exception", .type "BaseException", .type "object"]
noncomputable def OwnObj (h : Heap) (C : Addr) : Prop := ∃ bm N nm q bs hdct sn sub ab col dd k0 k1 k2 k3 k5 mN, h.get? C = some (excClassObj nm q C N bs bm hdct sn sub ab col dd k0 k1 k2 k3 k5 "ValueError.__new__") ∧ h.Ns N mN ∧ mN "__init__" = none ∧ OwnTail h veMro bm

structure GxOk (P : Pm) (G : Gx) : Prop where
  glob : ∀ x v, G.glob x = some v → ∃ V, er V = v ∧ (P.mg x = some V ∨ (P.mg x = none ∧ P.mb x = some V))
  fld : ∀ C a, G.fld C a = true → plainGet P.K C a = true ∧ hasDictIn P.K C = true ∧ findIn P.K (.ref C) a = some none ∧
    findIn P.K (.ref C) "__setattr__" = some (some (.builtin "object.__setattr__")) ∧ plainOver P.K C = true ∧ takerIn P.K C a = some none
  meth : ∀ C m f, G.meth C m = some f → plainGet P.K C m = true ∧ findIn P.K (.ref C) m = some (some (.ref f)) ∧ isFn P.K (.ref f) = true
  init : ∀ C f, G.init C = some f → makesIn P.K C = true ∧ findIn P.K (.ref C) "__init__" = some (some (.ref f)) ∧ isFn P.K (.ref f) = true ∧ PySem.W.keepIn P.K (.ref C) = true
  exc : ∀ C, G.isExc C = true → ExcCls P.K C
  sub : ∀ C D, G.isExc C = true → G.isExc D = true → subIn P.K (.ref C) (.ref D) = some (G.sub C D)
  self : ∀ C, G.isExc C = true → G.sub C C = true
  own : ∀ C, G.isExc C = true → OwnObj P.base C

section
variable {P : Pm} {F : Fm} {G : Gx} {l : Loc} {H : Hp} {s : Shared} {E : Value → Shared → Prop} {Q : QV} {A' B' a b : Value}

theorem Inv.kin (Y : PmOk P) (K : FmOk P F) (I : Inv P F l H s) : P.K.In s.heap := Y.kin.keeps fun b o e => I.keep b o (K.base b o e)

end
end Mine
end

section
open PySem PyProof.Rows PySem.Calls
namespace Mine

/-! ## exceptions in flight -/
noncomputable def ExcAt (h : Heap) (e C : Addr) (T : Option Addr) : Prop :=
  ∃ oe vs, h.get? e = some oe ∧ oe.cls = .ref C ∧ oe.data = .fields vs ∧ (oe.dict = none ∧ vs[2]? = some .none) ∧ (match T with
    | none => vs[1]? = some .none
    | some t => vs[1]? = some (.ref t) ∧ t ≠ e ∧ ∃ ot ts, h.get? t = some ot ∧ ot.data = .fields ts ∧ 3 < ts.size)

theorem dict_mapFields (f : Array Value → Array Value) (o : Obj) : (o.mapFields f).dict = o.dict := by
  unfold Obj.mapFields; split <;> rfl

/-- an exception of class C flies; with b: it has its traceback -/
structure Exc (P : Pm) (F : Fm) (H : Hp) (s : Shared) (e C : Addr) (b : Bool) : Prop where
  big : True
  off : Off F H e
  at_ : ∃ T, ExcAt s.heap e C T ∧ (∀ t, T = some t → Off F H t) ∧ (b = true → T.isSome = true)

theorem Exc.weak {P : Pm} {F : Fm} {H : Hp} {s : Shared} {e C : Addr} {b : Bool} (x : Exc P F H s e C b) : Exc P F H s e C false :=
  ⟨x.big, x.off, let ⟨T, h, o, _⟩ := x.at_; ⟨T, h, o, fun q => nomatch q⟩⟩

noncomputable def PostX (P : Pm) (F : Fm) (l : Loc) (X : XV) : Value → Shared → Prop := fun EV s' => ∃ H' e C, EV = .ref e ∧ Inv P F l H' s' ∧ Exc P F H' s' e C false ∧ X C H'

section
variable {P : Pm} {F : Fm} {G : Gx} {l : Loc} {H : Hp} {s : Shared} {E : Value → Shared → Prop}

theorem Inv.slotsOnly (K : FmOk P F) (I : Inv P F l H s) {S : List Addr} {h' : Heap} (hS : ∀ b ∈ S, b = F.env.locals ∨ (F.fr b).isSome = true) (x : Heap.SlotsOnly S s.heap h') : Inv P F l H { s with heap := h' } := by
  have out : ∀ b, b ≠ F.env.locals → F.fr b = none → h'.get? b = s.heap.get? b := fun b h1 h2 => x.2.1 b fun q => (hS b q).elim h1 fun e => by rw [h2] at e; cases e
  refine ⟨I.gens, I.os, fun b o e => ?_, fun b d e => ?_, ?_, fun y c e => ?_, fun a o e => ?_, I.free, I.big⟩
  · refine (out b (fun q => ?_) ?_).trans (I.keep b o e)
    · rw [q, K.lg] at e; cases e
    · cases q : F.fr b with
      | none => rfl
      | some d => rw [(K.fg b d q).1] at e; cases e
  · obtain ⟨o, ho, hd⟩ := I.frk b d e
    obtain ⟨sl, q⟩ := x.2.2 b o ho
    exact ⟨_, q, hd⟩
  · obtain ⟨m, ⟨o, es, ep, ho, hd, r⟩, q⟩ := I.loc
    obtain ⟨sl, q'⟩ := x.2.2 _ o ho
    exact ⟨m, ⟨_, es, ep, q', hd, r⟩, q⟩
  · obtain ⟨vo, ⟨o, ho, hd⟩, q⟩ := I.cel y c e
    obtain ⟨sl, q'⟩ := x.2.2 _ o ho
    exact ⟨vo, ⟨_, q', hd⟩, q⟩
  · exact (I.objs a o e).congr (out a (I.neL K e) (I.frN K e))

theorem frames_fun (K : FmOk P F) (I : Inv P F l H s) (base : Heap) (hb : ∀ b, base.get? b = none) : ∀ {es : List Env}, (∀ e ∈ es, e.scope.kind ≠ .module ∧ ∃ b, e.frame = some b ∧ (b = F.env.locals ∨ (F.fr b).isSome = true)) → s.heap.FunFrames base es
  | [], _ => trivial
  | e :: es, h => by
    obtain ⟨h1, b, h2, h3⟩ := h e (.head _)
    refine ⟨h1, ?_, frames_fun K I base hb fun e he => h e (.tail _ he)⟩
    rcases h3 with rfl | h3
    · obtain ⟨m, ⟨o, es', ep, ho, hd, r⟩, q⟩ := I.loc
      exact ⟨_, o, h2, hb _, ho, fun vs e => by rw [hd] at e; cases e⟩
    · obtain ⟨d, hd⟩ := Option.isSome_iff_exists.mp h3
      obtain ⟨o, ho, e⟩ := I.frk b d hd
      exact ⟨b, o, h2, hb _, ho, fun vs q => (K.fg b d hd).2 vs (e ▸ q)⟩

theorem ExcAt.slots {S : List Addr} {h h' : Heap} {e C : Addr} {T : Option Addr} (x : Heap.SlotsOnly S h h') (a : ExcAt h e C T) : ExcAt h' e C T := by
  obtain ⟨oe, vs, h1, h2, h3, h5, h4⟩ := a
  obtain ⟨sl, q⟩ := x.2.2 _ _ h1
  refine ⟨_, vs, q, h2, h3, h5, ?_⟩
  cases T with
  | none => exact h4
  | some t =>
    obtain ⟨a1, a2, ot, ts, a3, a4, a5⟩ := h4
    obtain ⟨sl', q'⟩ := x.2.2 _ _ a3
    exact ⟨a1, a2, _, ts, q', a4, a5⟩

/-- a new row of the traceback -/
theorem s_entry (K : FmOk P F) (I : Inv P F l H s) (hro : F.ro = false) {e C : Addr} {T : Option Addr} (ha : ExcAt s.heap e C T) (hof : Off F H e) (hb : True) {head : Value} {hadNext : Bool} {Q : Unit → Shared → Prop}
    (h : ∀ s', Inv P F l H s' → Exc P F H s' e C true → Q () s') :
    wpAny P.M F.A (do let a ← frameOf F.env; let pl ← entryPlaceOf F.env.locals hadNext; let b ← EntryCells.newEntry head a .none (rawInt F.env.locals) .none pl; setField (.ref e) 1 b) Q E s := by
  obtain ⟨fenv, outer, hfr, hown, hall⟩ := K.frames
  obtain ⟨rfl, hf⟩ := hown hro
  have ff := frames_fun K I {} (fun b => rfl) hall
  refine wpAny_bind (wpAny_frameOf_fun hfr ff hf fun h₁ hs₁ => ?_)
  have hS : ∀ b ∈ (F.env :: outer).filterMap (·.frame), b = F.env.locals ∨ (F.fr b).isSome = true := fun b hb => by
    obtain ⟨e', he', q⟩ := List.mem_filterMap.mp hb
    obtain ⟨_, b', q', r⟩ := hall e' he'
    rw [q] at q'; cases q'; exact r
  have I₁ := I.slotsOnly K hS hs₁
  have a₁ := ha.slots hs₁
  refine wpAny_bind (wpAny_entryPlaceOf fun pl hpl => ?_)
  unfold EntryCells.newEntry newFields
  refine wpAny_bind (wpAny_newObj_type ?_ (hpl.sizeOk5 _ _ _ _ _))
  obtain ⟨oe, vs, h1, h2, h3, h5, h4⟩ := a₁
  have hsz : 1 < vs.size := by
    cases T with
    | none => exact (Array.getElem?_eq_some_iff.mp h4).1
    | some t => exact (Array.getElem?_eq_some_iff.mp h4.1).1
  generalize hot : ({ cls := .type "traceback", dict := none, data := .fields ([head, .ref F.env.locals, .none, rawInt F.env.locals, .none] ++ (if pl.isEmpty then List.replicate 6 Value.none else pl)).toArray } : Obj) = ot
  have I₂ := I₁.push ot
  have he₂ := Heap.get?_push_of_some (h := h₁) ot h1
  have hof₂ : Off F H h₁.objs.size := I₁.ofSize K
  refine wpAny_setField he₂ h3 hsz (h _ ?_ ?_)
  · refine I₂.step (t := s.toks) fun b o hb hn => ?_
    rw [Heap.get?_update_other _ _ (show e ≠ b from fun q => hn (q ▸ hof))]
    exact hb
  · have hd := Obj.data_mapFields h3 (·.setIfInBounds 1 (Value.ref h₁.objs.size))
    have hne : h₁.objs.size ≠ e := Nat.ne_of_gt (Heap.lt_size h1)
    refine ⟨hb, hof, some h₁.objs.size, ⟨_, _, Heap.get?_update_self _ he₂ (Obj.isFreed_of_fields hd), (Obj.cls_mapFields _ _).trans h2, hd, ⟨(dict_mapFields _ _).trans h5.1, (Array.getElem?_setIfInBounds_ne (by decide)).trans h5.2⟩, by simp [hsz], hne, ot, ([head, .ref F.env.locals, .none, rawInt F.env.locals, .none] ++ (if pl.isEmpty then List.replicate 6 Value.none else pl)).toArray, ?_, ?_, ?_⟩, fun t ht => ?_, fun _ => rfl⟩
    · rw [Heap.get?_update_other _ _ (Ne.symm hne)]
      exact Heap.get?_push_size _ (by rw [← hot]; rfl)
    · rw [← hot]
    · simp only [List.size_toArray, List.length_append, List.length_cons, List.length_nil]; omega
    · cases ht; exact hof₂

theorem s_note (K : FmOk P F) (I : Inv P F l H s) (hro : F.ro = false) {e C : Addr} {b : Bool} (x : Exc P F H s e C b) {Q : Unit → Shared → Prop}
    (h : ∀ s', Inv P F l H s' → Exc P F H s' e C true → Q () s') : wpAny P.M F.A (noteFrame (.ref e) F.env) Q E s := by
  obtain ⟨fenv, outer, hfr, hown, hall⟩ := K.frames
  obtain ⟨_, hf⟩ := hown hro
  obtain ⟨hb, hof, T, ha, ht, _⟩ := x
  have ha' := ha
  obtain ⟨oe, vs, h1, h2, h3, h5, h4⟩ := ha
  unfold noteFrame
  simp only [hf]
  cases T with
  | none =>
    refine wpAny_bind (wpAny_field h1 h3 h4 ?_)
    rw [if_neg (by decide)]
    exact s_entry K I hro ha' hof hb h
  | some t =>
    obtain ⟨a1, a2, ot, ts, a3, a4, a5⟩ := h4
    refine wpAny_bind (wpAny_field h1 h3 a1 ?_)
    rw [if_pos (show (Value.ref t != Value.none) = true from by simp)]
    refine wpAny_bind (wpAny_field a3 a4 (Array.getElem?_eq_getElem a5) ?_)
    split
    · exact wpAny_pure (h s I ⟨hb, hof, some t, ha', ht, fun _ => rfl⟩)
    · refine wpAny_bind (wpAny_setField a3 a4 a5 ?_)
      have hoft := ht t rfl
      have other : ∀ c, c ≠ t → (s.heap.update t (Obj.mapFields (·.setIfInBounds 3 Value.none))).get? c = s.heap.get? c := fun c hc => Heap.get?_update_other _ _ (Ne.symm hc)
      have I₁ : Inv P F l H { s with heap := s.heap.update t (Obj.mapFields (·.setIfInBounds 3 Value.none)) } := I.step (t := s.toks) fun c o hc hn => (other c fun q => hn (q ▸ hoft)).trans hc
      have hd := Obj.data_mapFields a4 (·.setIfInBounds 3 Value.none)
      refine s_entry K I₁ hro (T := some t) ⟨oe, vs, (other e (Ne.symm a2)).trans h1, h2, h3, h5, a1, a2, _, _, Heap.get?_update_self _ a3 (Obj.isFreed_of_fields hd), hd, by simpa using a5⟩ hof hb h

theorem s_flight (I : Inv P F l H s) {e C : Addr} {b : Bool} (x : Exc P F H s e C b) {fo : Option Addr} {Q : Unit → Shared → Prop}
    (h : ∀ s', Inv P F l H s' → Exc P F H s' e C b → Q () s') : wpAny P.M F.A (setFlight (.ref e) fo) Q E s := by
  obtain ⟨hb, hof, T, ha, ht, hbt⟩ := x
  have ha' := ha
  obtain ⟨oe, vs, h1, h2, h3, h5, h4⟩ := ha
  unfold setFlight
  cases T with
  | none =>
    refine wpAny_bind (wpAny_field h1 h3 h4 ?_)
    rw [if_neg (by decide)]
    exact wpAny_pure (h s I ⟨hb, hof, none, ha', ht, hbt⟩)
  | some t =>
    obtain ⟨a1, a2, ot, ts, a3, a4, a5⟩ := h4
    refine wpAny_bind (wpAny_field h1 h3 a1 ?_)
    rw [if_pos (show (Value.ref t != Value.none) = true from by simp)]
    have hoft := ht t rfl
    have other : ∀ f c, c ≠ t → (s.heap.update t f).get? c = s.heap.get? c := fun f c hc => Heap.get?_update_other _ _ (Ne.symm hc)
    have hd := Obj.data_mapFields a4 (·.setIfInBounds 3 (fo.elim Value.none fun f => rawInt f))
    refine wpAny_setField a3 a4 a5 (h _ (I.step (t := s.toks) fun c o hc hn => (other _ c fun q => hn (q ▸ hoft)).trans hc) ⟨hb, hof, some t, ⟨oe, vs, (other _ e (Ne.symm a2)).trans h1, h2, h3, h5, a1, a2, _, _, Heap.get?_update_self _ a3 (Obj.isFreed_of_fields hd), hd, by simpa using a5⟩, ht, hbt⟩)

theorem s_leaving (K : FmOk P F) (I : Inv P F l H s) (hro : F.ro = false) {e C : Addr} {b : Bool} (x : Exc P F H s e C b) {Q : Unit → Shared → Prop}
    (h : ∀ s', Inv P F l H s' → Exc P F H s' e C true → Q () s') : wpAny P.M F.A (leaving F.env (.ref e)) Q E s := by
  unfold leaving
  exact wpAny_bind (s_note K I hro x fun s' I' x' => s_flight I' x' h)

theorem s_cameBack (I : Inv P F l H s) {e C : Addr} (x : Exc P F H s e C true) (h : ∀ s', Inv P F l H s' → Exc P F H s' e C true → E (.ref e) s') : cameBackBy P.M F.A F.env E (.ref e) s := by
  obtain ⟨hb, hof, T, ha, ht, hbt⟩ := x
  have ha' := ha
  obtain ⟨oe, vs, h1, h2, h3, h5, h4⟩ := ha
  unfold cameBackBy
  cases T with
  | none => simp at hbt
  | some t =>
    obtain ⟨a1, a2, r⟩ := h4
    refine wpAny_bind (wpAny_field h1 h3 a1 ?_)
    rw [if_neg (by simp)]
    exact s_flight I ⟨hb, hof, some t, ha', ht, fun _ => rfl⟩ h
end
end Mine
end

section
open PySem PyProof.Rows PySem.Calls
namespace Mine

/-! ## from the text to the small language -/
noncomputable def isLoc (sc : Scope) (x : Str) : Option Bool :=
  match sc.names.lookup x with
  | some .local | some .cell | some .free => if x == ("__classdict__" : Str) || x == ("__debug__" : Str) then none else some true
  | some .globalImplicit => if x == ("__debug__" : Str) then none else some false
  | _ => none

noncomputable def notSuper : Expr → Bool
  | .Call (.Name id _) _ _ _ => id != ("super" : Str)
  | _ => true

/-- the built-ins that the small language knows by name -/
noncomputable def bltL : List (Str × Value) := [("len", .builtin "len"), ("isinstance", .builtin "isinstance"), ("list", .type "list"), ("tuple", .type "tuple"), ("sorted", .builtin "sorted"), ("dict", .type "dict"), ("int", .type "int"), ("all", .builtin "all"), ("max", .builtin "max"), ("min", .builtin "min"), ("range", .type "range"), ("str", .type "str"), ("bool", .type "bool"), ("ValueError", .type "ValueError"), ("set", .type "set")]
noncomputable def bltTab (x : Str) : Option Value := bltL.lookup x

/-- a comprehension's own block -/
noncomputable def compFine (sc scope : Scope) (x : Str) : Bool :=
  scope.kind == .function && (scope.names.map (·.1)).Nodup && scope.names.all (fun y => y.2 != .cell && (y.2 != .local || y.1 == x || y.1 == (".0" : Str)) && (y.2 != .free || sc.names.lookup y.1 == some .cell)) && scope.names.lookup x == some .local

end Mine
end

section
open PySem PyProof.Rows PySem.Calls
namespace Mine

noncomputable def Room (n : Nat) (A : Around) : Prop := A.depth + 2 * n + 2 < recursionLimit ∧ A.units + 30 * n + 200 < cLine
/-- room for a call itself -/
noncomputable def RoomC (n : Nat) (A : Around) : Prop := A.depth + 2 * n + 1 < recursionLimit ∧ A.units + 30 * n + 190 < cLine
theorem Room.c {n : Nat} {A : Around} (R : Room n A) : RoomC n A := ⟨by have := R.1; omega, by have := R.2; omega⟩
/-- the exception that is handled, if one is, stays and has no context -/
noncomputable def HdK (F : Fm) : Prop := F.A.handled = none ∨ ∃ e o vs, F.A.handled = some (.ref e) ∧ F.g e = some o ∧ o.data = .fields vs ∧ vs[2]? = some Value.none
noncomputable def HmOk (hm : Bool) (F : Fm) : Prop := HdK F ∧ (hm = false → F.A.handled = none)

/-- a call's end -/
noncomputable def PostC (P : Pm) (F : Fm) (l : Loc) (Q : QV) (X : XV) : Result → Shared → Prop := fun r s' => match r with
  | .ok (.ret V) => PostE P F l Q V s'
  | .ok _ => False
  | .error EV => PostX P F l X EV s'

structure SndFn (P : Pm) (G : Gx) (n : Nat) : Prop where
  keep : ∀ {f hm args H Q X}, G.fn f hm args H Q X → PySem.W.keepIn P.K (.ref f) = true
  run : ∀ {f hm args H Q X}, G.fn f hm args H Q X → ∀ {F l s vals}, FmOk P F → RoomC n F.A → HmOk hm F → Inv P F l H s → vals.map er = args →
    codeAny P.M F.A (.call (.ref f) ⟨vals, []⟩) (PostC P F l Q X) s

structure BltOk (P : Pm) : Prop where
  blt : ∀ x v, bltTab x = some v → P.mg x = none ∧ P.mb x = some v

/-- the names of a block, as the env knows them -/
structure ScOk (sc : Scope) (F : Fm) : Prop where
  loc : ∀ x, isLoc sc x = some true → Own F.env x
  glob : ∀ x, isLoc sc x = some false → F.env.kindOf x = some .globalImplicit
  locl : ∀ x, sc.names.lookup x = some .local → F.env.kindOf x = some .local
  cell : ∀ x, sc.names.lookup x = some .cell → F.env.kindOf x = some .cell ∧ ∃ c, F.env.cells.lookup x = some c

section
variable {P : Pm} {F : Fm} {G : Gx} {n : Nat} {hm : Bool} {l : Loc} {H : Hp} {s : Shared}

theorem isLoc_true {sc : Scope} {x : Str} (h : isLoc sc x = some true) : (x == ("__debug__" : Str)) = false ∧ (x == ("__classdict__" : Str)) = false := by
  unfold isLoc at h
  split at h <;> first | (split at h <;> simp_all) | simp_all
theorem isLoc_false {sc : Scope} {x : Str} (h : isLoc sc x = some false) : (x == ("__debug__" : Str)) = false := by
  unfold isLoc at h
  split at h <;> first | (split at h <;> simp_all) | simp_all

/-- an expression keeps what its wp says -/
noncomputable def SE (P : Pm) (G : Gx) (n : Nat) (hm : Bool) (sc : Scope) (e : Expr) (e' : Ex) : Prop :=
  ∀ ⦃F : Fm⦄ ⦃l : Loc⦄, FmOk P F → ScOk sc F → Room n F.A → HmOk hm F → ∀ {H : Hp} {s : Shared} {Q : QV} {X : XV}, Inv P F l H s → wpE G hm e' l H Q X → wpAny P.M F.A (eval e F.env) (PostE P F l Q) (PostX P F l X) s
noncomputable def SEs (P : Pm) (G : Gx) (n : Nat) (hm : Bool) (sc : Scope) (es : List Expr) (es' : List Ex) : Prop :=
  ∀ ⦃F : Fm⦄ ⦃l : Loc⦄, FmOk P F → ScOk sc F → Room n F.A → HmOk hm F → ∀ {H : Hp} {s : Shared} {Q : List Value → Hp → Prop} {X : XV} {pos : Pos}, Inv P F l H s → wpEs G hm es' l H Q X →
    wpAny P.M F.A (spliced (backTo pos (starEach es F.env))) (fun Vs s' => ∃ H', Inv P F l H' s' ∧ Q (Vs.map er) H') (PostX P F l X) s
noncomputable def ST (P : Pm) (G : Gx) (n : Nat) (hm : Bool) (sc : Scope) (e : Expr) (e' : Ex) : Prop :=
  ∀ ⦃F : Fm⦄ ⦃l : Loc⦄, FmOk P F → ScOk sc F → Room n F.A → HmOk hm F → ∀ {H : Hp} {s : Shared} {k : Bool → Hp → Prop} {X : XV}, Inv P F l H s → wpE G hm e' l H (fun v H' => truthV v fun b => k b H') X →
    wpAny P.M F.A (isTrue e F.env (eval e F.env)) (fun b s' => ∃ H', Inv P F l H' s' ∧ k b H') (PostX P F l X) s

theorem truth_of {V : Value} {k : Bool → Prop} (h : truthV (er V) k) : ∃ b, V = .bool b ∧ k b := by
  unfold truthV at h
  split at h
  · rename_i b e; exact ⟨b, er_bool e, h⟩
  · exact h.elim

theorem SE.test {sc : Scope} {e : Expr} {e' : Ex} (h : SE P G n hm sc e e') (he : ∀ env whole, isTrue e env whole = (do let v ← whole; standAt e.pos; holding [v] (truthy v))) : ST P G n hm sc e e' := by
  intro F l K S R HM H s k X I q
  rw [he]
  refine wpAny_bind (wpAny_mono (h K S R HM I q) (fun V s' z => ?_) fun _ _ z => z)
  obtain ⟨H', I', z⟩ := z
  obtain ⟨b, rfl, z⟩ := truth_of z
  exact wpAny_bind (wpAny_standAt (wpAny_holding (wpAny_truthy_bool ⟨H', I', z⟩)))

theorem se_none {sc : Scope} {kk : Nat} {pos : Pos} : SE P G n hm sc (.Constant .none kk pos) .none := fun F l K S R HM H s Q X I q => wpAny_pure ⟨H, I, q⟩
theorem se_bool {sc : Scope} {b : Bool} {kk : Nat} {pos : Pos} : SE P G n hm sc (.Constant (.bool b) kk pos) (.bool b) := fun F l K S R HM H s Q X I q => wpAny_pure ⟨H, I, q⟩
theorem se_int {sc : Scope} {i : Int} {kk : Nat} {pos : Pos} : SE P G n hm sc (.Constant (.int i) kk pos) (.int i) := fun F l K S R HM H s Q X I q => wpAny_Constant_int ⟨H, I.toks _, q⟩
theorem se_str {sc : Scope} {x : Str} {kk : Nat} {pos : Pos} : SE P G n hm sc (.Constant (.str x) kk pos) (.str x) := fun F l K S R HM H s Q X I q => wpAny_Constant_str ⟨H, I.toks _, q⟩
theorem se_loc {sc : Scope} {x : Str} {pos : Pos} (hl : isLoc sc x = some true) : SE P G n hm sc (.Name x pos) (.loc x) := by
  intro F l K S R HM H s Q X I q
  have q : onSome (l x) (fun v => Q v H) := q
  cases hv : l x with
  | none => rw [hv] at q; exact (q : False).elim
  | some v => rw [hv] at q; exact ld_loc K I hv (S.loc x hl) (isLoc_true hl).1 (isLoc_true hl).2 fun V e => ⟨H, I, e ▸ q⟩
theorem se_glob (Y : PmOk P) (GO : GxOk P G) {sc : Scope} {x : Str} {pos : Pos} (hl : isLoc sc x = some false) : SE P G n hm sc (.Name x pos) (.glob x) := by
  intro F l K S R HM H s Q X I q
  have q : onSome (G.glob x) (fun v => Q v H) := q
  cases hv : G.glob x with
  | none => rw [hv] at q; exact (q : False).elim
  | some v =>
    rw [hv] at q
    obtain ⟨V, rfl, hV⟩ := GO.glob x v hv
    exact ld_glob Y K I hV (S.glob x hl) (isLoc_false hl) ⟨H, I, q⟩

theorem se_bin {sc : Scope} {x y : Expr} {x' y' : Ex} {op : Operator} {pos : Pos} (hx : SE P G n hm sc x x') (hy : SE P G n hm sc y y') : SE P G n hm sc (.BinOp x op y pos) (.bin op x' y') := by
  intro F l K S R HM H s Q X I q
  conv at q => whnf
  refine wpAny_BinOp (wpAny_mono (hx K S R HM I q) (fun V s' z => ?_) fun _ _ z => z)
  obtain ⟨H', I', z⟩ := z
  refine wpAny_mono (hy K S R HM I' z) (fun V' s'' z => ?_) fun _ _ z => z
  obtain ⟨H'', I'', z⟩ := z
  exact s_bin K I'' op rfl rfl z

theorem se_not {sc : Scope} {x : Expr} {x' : Ex} {pos : Pos} (hx : SE P G n hm sc x x') : SE P G n hm sc (.UnaryOp .Not x pos) (.not x') := by
  intro F l K S R HM H s Q X I q
  conv at q => whnf
  show wpAny P.M F.A (do let v ← eval x F.env; standAt pos; holding [v] (unaryOp .Not v)) _ _ s
  refine wpAny_bind (wpAny_mono (hx K S R HM I q) (fun V s' z => ?_) fun _ _ z => z)
  obtain ⟨H', I', z⟩ := z
  obtain ⟨b, rfl, z⟩ := truth_of z
  refine wpAny_bind (wpAny_standAt (wpAny_holding ?_))
  exact not_of (wpAny_truthy_bool ⟨H', I', z⟩)

theorem st_not {sc : Scope} {x : Expr} {x' : Ex} {pos : Pos} (hx : ST P G n hm sc x x') : ST P G n hm sc (.UnaryOp .Not x pos) (.not x') := by
  intro F l K S R HM H s k X I q
  conv at q => whnf
  show wpAny P.M F.A (do return !(← isTrue x F.env (eval x F.env))) _ _ s
  exact wpAny_bind (wpAny_mono (hx K S R HM I q) (fun V s' z => wpAny_pure z) fun _ _ z => z)

theorem st_cmp (Y : PmOk P) {sc : Scope} {x y : Expr} {x' y' : Ex} {op : CmpOp} {pos : Pos} (hx : SE P G n hm sc x x') (hy : SE P G n hm sc y y') (hb : behindInMarks op y = false) : ST P G n hm sc (.Compare x [op] [y] pos) (.cmp x' op y') := by
  intro F l K S R HM H s k X I q
  conv at q => whnf
  refine wpAny_isTrue_Compare1 (wpAny_mono (hx K S R HM I q) (fun V s' z => ?_) fun _ _ z => z) hb
  obtain ⟨H', I', z⟩ := z
  refine wpAny_mono (hy K S R HM I' z) (fun V' s'' z => ?_) fun _ _ z => z
  obtain ⟨H'', I'', z⟩ := z
  refine wpAny_mono (s_cmp Y I'' (by have := R.2; omega) op rfl rfl z) (fun V s' z => ?_) fun _ _ z => z
  obtain ⟨H', I', z⟩ := z
  obtain ⟨b, rfl, z⟩ := truth_of z
  exact wpAny_truthy_bool ⟨H', I', z⟩

theorem idx_type {Q : QV} {V k : Value} (I : Inv P F l H s) (q : idxV (er V) k H Q) : ∃ T id, s.TypeIs V T ∧ typeLookup (.type T) (Str.ofString "__getitem__") = pure (some (.builtin id)) := by
  unfold idxV at q
  split at q
  · rename_i a _ _ e; have := er_ref e; subst this
    split at q
    · rename_i hx; obtain ⟨vs, hl, _⟩ := I.objs _ _ hx; exact ⟨_, _, hl.typeIs, slot_list_getitem.lookup⟩
    · rename_i hx; obtain ⟨vs, hl, _⟩ := I.objs _ _ hx; exact ⟨_, _, hl.typeIs, slot_list_getitem.lookup⟩
    · rename_i hx; obtain ⟨vs, ⟨o, ho, hc, _⟩, _⟩ := I.objs _ _ hx; exact ⟨"tuple", _, ⟨o, ho, hc⟩, slot_tuple_getitem.lookup⟩
    · rename_i hx; obtain ⟨vs, hl, _⟩ := I.objs _ _ hx; exact ⟨_, _, hl.mapOf.typeIs, slot_dict_getitem.lookup⟩
    · rename_i hx; obtain ⟨vs, ⟨o, es, ho, hl, _⟩, _⟩ := I.objs _ _ hx; exact ⟨"dict", _, ⟨o, ho, hl.1⟩, slot_dict_getitem.lookup⟩
    · exact q.elim
  · rename_i a _ _ e; have := er_ref e; subst this
    split at q
    · rename_i hx; obtain ⟨vs, hl, _⟩ := I.objs _ _ hx; exact ⟨_, _, hl.mapOf.typeIs, slot_dict_getitem.lookup⟩
    · exact q.elim
  · rename_i x _ _ _ e; obtain ⟨_, rfl⟩ := er_str e
    exact ⟨"str", _, rfl, PySem.F.slot_str_getitem.lookup⟩
  · exact q.elim

theorem se_idx {sc : Scope} {x y : Expr} {x' y' : Ex} {pos : Pos} (hx : SE P G n hm sc x x') (hy : SE P G n hm sc y y') (hsl : ∀ o i, subscripted y false o i = operate [o, i] (getItem o i)) : SE P G n hm sc (.Subscript x y pos) (.idx x' y') := by
  intro F l K S R HM H s Q X I q
  conv at q => whnf
  refine Subscript_ (wpAny_mono (hx K S R HM I q) (fun V s' q => ?_) fun _ _ z => z)
  obtain ⟨H1, I1, q⟩ := q
  refine wpAny_mono (hy K S R HM I1 q) (fun V2 s2 q => ?_) fun _ _ z => z
  obtain ⟨H2, I2, q⟩ := q
  obtain ⟨T, id, h1, h2⟩ := idx_type I2 q
  exact tail_any h1 h2 (s_idx I2 rfl rfl q) (hsl _ _)

noncomputable def SO (P : Pm) (G : Gx) (n : Nat) (hm : Bool) (sc : Scope) (e : Option Expr) (e' : Option Ex) : Prop :=
  ∀ ⦃F : Fm⦄ ⦃l : Loc⦄, FmOk P F → ScOk sc F → Room n F.A → HmOk hm F → ∀ {H : Hp} {s : Shared} {Q : QV} {X : XV}, Inv P F l H s → wpO G hm e' l H Q X → wpAny P.M F.A (evalPart e F.env) (PostE P F l Q) (PostX P F l X) s
theorem so_none {sc : Scope} : SO P G n hm sc none none := by
  intro F l K S R HM H s Q X I q
  simp only [wpO] at q
  exact wpAny_evalPart_none ⟨H, I, q⟩
theorem so_some {sc : Scope} {e : Expr} {e' : Ex} (h : SE P G n hm sc e e') : SO P G n hm sc (some e) (some e') := by
  intro F l K S R HM H s Q X I q
  simp only [wpO] at q
  exact wpAny_evalPart_some (h K S R HM I q)

theorem s_slice (K : FmOk P F) (I : Inv P F l H s) {E : Value → Shared → Prop} {Q : QV} {o lo hi : Value} {A' L' U' : Value} {sl : Addr} (hs : s.heap.IsSliceOf sl L' U' .none) (ha : er A' = o) (hl : er L' = lo) (hu : er U' = hi) (h : sliceV o lo hi H Q) :
    wpAny P.M F.A (getItem A' (.ref sl)) (PostE P F l Q) E s := by
  unfold sliceV at h
  split at h
  · rename_i a b ea eb
    have pa := partOf_er (V := L') (by rw [hl]; exact ea)
    have pb := partOf_er (V := U') (by rw [hu]; exact eb)
    split at h
    · rename_i x; have := er_ref ha; subst this
      split at h
      · rename_i xs hx
        obtain ⟨vs, hL, rfl, z⟩ := I.objs _ _ hx
        simp only [List.length_map, Array.length_toList] at h z
        refine wpAny_getItem_list_slice hL hs pa pb .none (by simp) ⟨_, I.alloc K (t := s.toks) (mt_list ⟨0, Heap.get?_push_size _ rfl⟩ ?_), ?_⟩ h.1
        · have h1 := pySlice_len vs.toList a b
          have h2 : slicePick vs a b none = (pySlice vs.toList a b).toArray := by
            unfold slicePick
            rw [← slicePick_eq]
            simp only [Array.getElem?_toList, Array.length_toList]
          rw [h2]
          simp only [Array.length_toList] at h1
          simp; omega
        · have h2 : slicePick vs a b none = (pySlice vs.toList a b).toArray := by
            unfold slicePick
            rw [← slicePick_eq]
            simp only [Array.getElem?_toList, Array.length_toList]
          have := h.2 _ I.fresh
          rw [pySlice_map] at this
          rw [h2]
          exact this
      · rename_i xs hx
        obtain ⟨vs, hL, rfl, z⟩ := I.objs _ _ hx
        simp only [List.length_map, Array.length_toList] at h z
        refine wpAny_getItem_list_slice hL hs pa pb .none (by simp) ⟨_, I.alloc K (t := s.toks) (mt_list ⟨0, Heap.get?_push_size _ rfl⟩ ?_), ?_⟩ h.1
        · have h1 := pySlice_len vs.toList a b
          have h2 : slicePick vs a b none = (pySlice vs.toList a b).toArray := by
            unfold slicePick
            rw [← slicePick_eq]
            simp only [Array.getElem?_toList, Array.length_toList]
          rw [h2]
          simp only [Array.length_toList] at h1
          simp; omega
        · have h2 : slicePick vs a b none = (pySlice vs.toList a b).toArray := by
            unfold slicePick
            rw [← slicePick_eq]
            simp only [Array.getElem?_toList, Array.length_toList]
          have := h.2 _ I.fresh
          rw [pySlice_map] at this
          rw [h2]
          exact this
      · exact h.elim
    · rename_i x _; obtain ⟨t, rfl⟩ := er_str ha
      have hp : ∀ {V : Value} {i : Option Int}, IsPart V i → ∃ l', partValue l' = V ∧ l'.map (·.1) = i := by
        intro V i hV
        cases hV with
        | none => exact ⟨none, rfl, rfl⟩
        | int i t => exact ⟨some (i, t), rfl, rfl⟩
      obtain ⟨l', e1, h2⟩ := hp pa
      obtain ⟨u', e2, h3⟩ := hp pb
      obtain ⟨o, o1, o2, o3⟩ := hs
      refine wpAny_getItem_str_slice (l := l') (u := u') (st := none) ⟨o, o1, o2, by rw [o3, e1, e2]; rfl⟩ rfl ?_
      have hlen : x.cps.toList.length = x.length := by simp [Str.length]
      have idx : slicePicked x l' u' none = (List.range (hiAt x.length b - loAt x.length a)).map fun k => loAt x.length a + k := by
        unfold slicePicked
        rw [h2, h3, ← sliceIdx]
        rfl
      have pk : (slicePicked x l' u' none).filterMap (x.cps[·]?) = pySlice x.cps.toList a b := by
        rw [← slicePick_eq, sliceIdx, hlen, idx]
        simp only [Array.getElem?_toList]
      have q := h.2
      unfold sliceMade
      split
      · rename_i hc
        have hc : (slicePicked x l' u' none).length = x.length := by simpa using hc
        rw [idx] at hc
        simp only [List.length_map, List.length_range] at hc
        have w := pySlice_whole x.cps.toList a b (by rw [hlen]; exact hc)
        rw [w] at q
        exact ⟨H, I, q⟩
      · rw [pk]
        refine ⟨?_, H, I.toks _, q⟩
        have := pySlice_len x.cps.toList a b
        have h1 := h.1
        rw [hlen] at this
        show (pySlice x.cps.toList a b).toArray.size ≤ sizeLine
        simp only [List.size_toArray]
        omega
    · exact h.elim
  · exact h.elim

theorem slice_type {Q : QV} {V a b : Value} (I : Inv P F l H s) (q : sliceV (er V) a b H Q) : ∃ T id, s.TypeIs V T ∧ typeLookup (.type T) (Str.ofString "__getitem__") = pure (some (.builtin id)) := by
  unfold sliceV at q
  split at q
  · split at q
    · rename_i e; have := er_ref e; subst this
      split at q
      · rename_i hx; obtain ⟨vs, hl, _⟩ := I.objs _ _ hx; exact ⟨_, _, hl.typeIs, slot_list_getitem.lookup⟩
      · rename_i hx; obtain ⟨vs, hl, _⟩ := I.objs _ _ hx; exact ⟨_, _, hl.typeIs, slot_list_getitem.lookup⟩
      · exact q.elim
    · rename_i e; obtain ⟨_, rfl⟩ := er_str e
      exact ⟨"str", _, rfl, PySem.F.slot_str_getitem.lookup⟩
    · exact q.elim
  · exact q.elim

theorem se_slice {sc : Scope} {x : Expr} {x' : Ex} {lo hi : Option Expr} {lo' hi' : Option Ex} {p pos : Pos} (hx : SE P G n hm sc x x') (hl : SO P G n hm sc lo lo') (hh : SO P G n hm sc hi hi') :
    SE P G n hm sc (.Subscript x (.Slice lo hi none p) pos) (.slice x' lo' hi') := by
  intro F l K S R HM H s Q X I q
  conv at q => whnf
  refine Subscript_ (wpAny_mono (hx K S R HM I q) (fun V s' q => ?_) fun _ _ z => z)
  obtain ⟨H1, I1, q⟩ := q
  refine wpAny_Slice (wpAny_mono (hl K S R HM I1 q) (fun V2 s2 q => ?_) fun _ _ z => z)
  obtain ⟨H2, I2, q⟩ := q
  refine wpAny_mono (hh K S R HM I2 q) (fun V3 s3 q => ?_) fun _ _ z => z
  obtain ⟨H3, I3, q⟩ := q
  refine wpAny_evalPart_none ?_
  have I4 := I3.push { cls := .type "slice", data := .fields #[V2, V3, .none] }
  have ty := slice_type I4 q
  obtain ⟨T, id, h1, h2⟩ := ty
  exact tail_any h1 h2 (s_slice K I4 (Heap.IsSliceOf.new _ _ _ _) rfl rfl rfl q) rfl

end
end Mine
end

section
open PySem PyProof.Rows PySem.Calls
namespace Mine

section
variable {P : Pm} {F : Fm} {G : Gx} {n : Nat} {hm : Bool} {l : Loc} {H : Hp} {s : Shared}

noncomputable def notStar : Expr → Bool
  | .Starred .. => false
  | _ => true
theorem star_cons {e : Expr} {es : List Expr} {env : Env} (h : notStar e = true) : starEach (e :: es) env = (false, eval e env) :: starEach es env := by
  cases e <;> first | rfl | cases h

theorem ses_nil {sc : Scope} : SEs P G n hm sc [] [] := by
  intro F l K S R HM H s Q X pos I q
  conv at q => whnf
  exact spliced_nil ⟨H, I, q⟩
theorem ses_cons {sc : Scope} {e : Expr} {e' : Ex} {es : List Expr} {es' : List Ex} (hn : notStar e = true) (h : SE P G n hm sc e e') (r : SEs P G n hm sc es es') : SEs P G n hm sc (e :: es) (e' :: es') := by
  intro F l K S R HM H s Q X pos I q
  conv at q => whnf
  rw [star_cons hn]
  refine spliced_cons (wpAny_mono (h K S R HM I q) (fun V s' q => ?_) fun _ _ z => z)
  obtain ⟨H1, I1, q⟩ := q
  exact wpAny_mono (r K S R HM I1 q) (fun Vs s'' z => z) fun _ _ z => z

/-- the values of a bool op -/
noncomputable def SBs (P : Pm) (G : Gx) (n : Nat) (hm : Bool) (sc : Scope) (es : List Expr) (es' : List Ex) : Prop :=
  ∀ ⦃F : Fm⦄ ⦃l : Loc⦄, FmOk P F → ScOk sc F → Room n F.A → HmOk hm F → ∀ {H : Hp} {s : Shared} {Q : QV} {X : XV} {pos : Pos} {op : BoolOp}, es ≠ [] → Inv P F l H s → wpB G hm (op == .And) es' l H Q X →
    wpAny P.M F.A (boolOp pos op (evalEach es F.env)) (PostE P F l Q) (PostX P F l X) s
noncomputable def STs (P : Pm) (G : Gx) (n : Nat) (hm : Bool) (sc : Scope) (es : List Expr) (es' : List Ex) : Prop :=
  ∀ ⦃F : Fm⦄ ⦃l : Loc⦄, FmOk P F → ScOk sc F → Room n F.A → HmOk hm F → ∀ {H : Hp} {s : Shared} {k : Bool → Hp → Prop} {X : XV} {op : BoolOp}, Inv P F l H s → wpB G hm (op == .And) es' l H (fun v H' => truthV v fun b => k b H') X →
    wpAny P.M F.A (allTrue op es F.env) (fun b s' => ∃ H', Inv P F l H' s' ∧ k b H') (PostX P F l X) s

theorem sbs_one {sc : Scope} {e : Expr} {e' : Ex} (h : SE P G n hm sc e e') : SBs P G n hm sc [e] [e'] := by
  intro F l K S R HM H s Q X pos op _ I q
  simp only [wpB] at q
  refine wpAny_mono (h K S R HM I q) (fun V s' q => ?_) fun _ _ z => z
  obtain ⟨H1, I1, q⟩ := q
  obtain ⟨b, hb, q2⟩ := truth_of q
  subst hb
  refine ⟨H1, I1, ?_⟩
  split at q2 <;> exact q2
theorem sbs_cons {sc : Scope} {e : Expr} {e' : Ex} {e2 : Expr} {es : List Expr} {e2' : Ex} {es' : List Ex} (h : SE P G n hm sc e e') (r : SBs P G n hm sc (e2 :: es) (e2' :: es')) : SBs P G n hm sc (e :: e2 :: es) (e' :: e2' :: es') := by
  intro F l K S R HM H s Q X pos op _ I q
  rw [wpB] at q
  show wpAny P.M F.A (boolOp pos op (eval e F.env :: eval e2 F.env :: evalEach es F.env)) _ _ s
  unfold boolOp
  refine wpAny_bind (wpAny_mono (h K S R HM I q) (fun V s' q => ?_) fun _ _ z => z)
  obtain ⟨H1, I1, q⟩ := q
  obtain ⟨b, hb, q2⟩ := truth_of q
  subst hb
  refine wpAny_bind (wpAny_standAt (wpAny_bind (wpAny_holding (wpAny_truthy_bool ?_))))
  cases op <;> cases b
  · exact wpAny_pure ⟨H1, I1, q2⟩
  · exact r K S R HM (by simp) I1 q2
  · exact r K S R HM (by simp) I1 q2
  · exact wpAny_pure ⟨H1, I1, q2⟩

theorem sts_nil {sc : Scope} : STs P G n hm sc [] [] := by
  intro F l K S R HM H s k X op I q
  simp only [wpB, truthV] at q
  exact wpAny_pure ⟨H, I, q⟩
theorem sts_cons {sc : Scope} {e : Expr} {e' : Ex} {es : List Expr} {es' : List Ex} (hl : es' = [] → es = []) (h : ST P G n hm sc e e') (r : STs P G n hm sc es es') : STs P G n hm sc (e :: es) (e' :: es') := by
  intro F l K S R HM H s k X op I q
  rw [wpB] at q
  show wpAny P.M F.A (do match op, ← isTrue e F.env (eval e F.env) with | .And, false => pure false | .Or, true => pure true | _, _ => allTrue op es F.env) _ _ s
  refine wpAny_bind (wpAny_mono (h K S R HM I q) (fun b s' q => ?_) fun _ _ z => z)
  obtain ⟨H1, I1, q⟩ := q
  cases op <;> cases b <;> simp only [beq_self_eq_true, if_true, show ((BoolOp.Or == BoolOp.And) = false) from rfl, Bool.false_eq_true, if_false, reduceCtorEq] at q ⊢
  · exact wpAny_pure ⟨H1, I1, q⟩
  · cases es' with
    | nil => rw [hl rfl]; exact wpAny_pure ⟨H1, I1, q⟩
    | cons a as => exact r K S R HM I1 q
  · cases es' with
    | nil => rw [hl rfl]; exact wpAny_pure ⟨H1, I1, q⟩
    | cons a as => exact r K S R HM I1 q
  · exact wpAny_pure ⟨H1, I1, q⟩

theorem se_bop {sc : Scope} {op : BoolOp} {es : List Expr} {es' : List Ex} {pos : Pos} (hne : es ≠ []) (h : SBs P G n hm sc es es') : SE P G n hm sc (.BoolOp op es pos) (.bop (op == .And) es') := by
  intro F l K S R HM H s Q X I q
  conv at q => whnf
  exact h K S R HM hne I q
theorem st_bop {sc : Scope} {op : BoolOp} {es : List Expr} {es' : List Ex} {pos : Pos} (h : STs P G n hm sc es es') : ST P G n hm sc (.BoolOp op es pos) (.bop (op == .And) es') := by
  intro F l K S R HM H s k X I q
  conv at q => whnf
  exact h K S R HM I q

theorem se_list {sc : Scope} {es : List Expr} {es' : List Ex} {pos : Pos} (h : SEs P G n hm sc es es') : SE P G n hm sc (.List es pos) (.list es') := by
  intro F l K S R HM H s Q X I q
  conv at q => whnf
  refine List_ (wpAny_mono (h K S R HM I q) (fun Vs s' q => ?_) fun _ _ z => z)
  obtain ⟨H1, I1, hz, q⟩ := q
  simp only [List.length_map] at hz
  have hz' := hz
  simp only [sizeLine] at hz'
  refine wpAny_newList ⟨_, I1.alloc K (t := s'.toks) (mt_list ⟨0, Heap.get?_push_size _ rfl⟩ ?_), q _ I1.fresh⟩ hz
  simp; omega
theorem se_tup {sc : Scope} {es : List Expr} {es' : List Ex} {pos : Pos} {kk : Nat} (h : SEs P G n hm sc es es') : SE P G n hm sc (.Tuple es kk pos) (.tup es') := by
  intro F l K S R HM H s Q X I q
  conv at q => whnf
  refine Tuple_ (wpAny_mono (h K S R HM I q) (fun Vs s' q => ?_) fun _ _ z => z)
  obtain ⟨H1, I1, hz, q⟩ := q
  simp only [List.length_map] at hz
  have hz' := hz
  simp only [sizeLine] at hz'
  refine wpAny_newTuple ⟨_, I1.alloc K (t := s'.toks) (mt_tup ⟨_, Heap.get?_push_size _ rfl, rfl, 0, rfl⟩ ?_), q _ I1.fresh⟩ hz
  simp; omega

/-! calls -/
theorem evalArgs_any {M : Model} {A : Around} {E : Value → Shared → Prop} {s : Shared} {f : Value} {env : Env} {es : List Expr} {pos : Pos} {Q : Args → Shared → Prop} (hs : es.all notStar = true)
    (h : wpAny M A (spliced (backTo pos (starEach es env))) (fun vs s' => Q ⟨vs, []⟩ s') E s) : wpAny M A (evalArgs f true (backTo pos (starEach es env)) []) Q E s := by
  cases es with
  | nil =>
    unfold evalArgs
    show wpAny M A (spliced [] >>= _) Q E s
    refine wpAny_bind (wpAny_mono h (fun vs s' z => ?_) fun _ _ z => z)
    refine wpAny_bind (wpAny_pure ?_)
    refine wpAny_holding ?_
    show wpAny M A (evalAll [] >>= _) Q E s'
    exact wpAny_bind (wpAny_pure (wpAny_bind (wpAny_pure (wpAny_pure z))))
  | cons e es =>
    rw [star_cons (by simp at hs; exact hs.1)] at h ⊢
    exact evalArgs_plain h
theorem backTo_plain {env : Env} {pos : Pos} : ∀ {es : List Expr}, es.all notStar = true → (backTo pos (starEach es env)).any (·.1) = false
  | [], _ => rfl
  | e :: es, h => by
    simp at h
    rw [star_cons h.1]
    show (false || (backTo pos (starEach es env)).any (·.1)) = false
    rw [backTo_plain (by simpa using h.2)]; rfl
/-- a call by its values -/
theorem callWith_any {M : Model} {A : Around} {E : Value → Shared → Prop} {s : Shared} {f : Value} {env : Env} {first : List Value} {es : List Expr} {pos : Pos} {Q : Value → Shared → Prop} (hs : es.all notStar = true)
    (h : wpAny M A (spliced (backTo pos (starEach es env))) (fun vs s' => (∃ k, (k = Keeper.frame ∨ k = Keeper.machine) ∧ PySem.W.Looks M s'.heap (keeperOf f) k) ∧ wpAny M A (call f (first ++ vs)) Q E s') E s) :
    wpAny M A (callWith pos f first (backTo pos (starEach es env)) []) Q E s := by
  unfold callWith
  refine wpAny_bind (wpAny_holding (evalArgs_any hs (wpAny_mono h (fun vs s' q => ?_) fun _ _ z => z)))
  refine wpAny_bind (wpAny_standAt ?_)
  obtain ⟨⟨k, hk, lk⟩, q⟩ := q
  simp only [backTo_plain hs, List.any_nil, Bool.or_false]
  refine wpAny_bind (lk.here ?_)
  rcases hk with rfl | rfl
  · dsimp only
    split
    · exact wpAny_bind (wpAny_mono q (fun v s'' z => wpAny_bind (wpAny_holding (wpAny_point (wpAny_pure z)))) fun _ _ z => z)
    · unfold callMarked
      exact wpAny_bind (wpAny_keep (wpAny_mono q (fun v s'' z => wpAny_bind (wpAny_holding (wpAny_point (wpAny_pure z)))) fun _ _ z => z))
  · exact wpAny_bind (wpAny_mono q (fun v s'' z => wpAny_bind (wpAny_holding (wpAny_point (wpAny_pure z)))) fun _ _ z => z)

end
end Mine
end

section
open PySem PyProof.Rows PySem.Calls
namespace Mine

theorem strs_vals : ∀ (vs xs : List Value) (ss : List Str), vs.map er = xs → strsOf xs = some ss → ∃ l : List (Str × Tok), vs = strValues l ∧ l.map (·.1) = ss
  | [], _, ss, e, h => by subst e; cases h; exact ⟨[], rfl, rfl⟩
  | V :: vs, _, ss, e, h => by
    subst e
    cases V <;> simp only [List.map_cons, er, strsOf] at h <;> first | (cases h; done) | skip
    obtain ⟨r, hr, rfl⟩ := Option.map_eq_some_iff.1 h
    obtain ⟨l, e1, e2⟩ := strs_vals vs _ r rfl hr
    rename_i x t
    exact ⟨(x, t) :: l, by rw [e1]; rfl, by rw [← e2]; rfl⟩

section
variable {P : Pm} {F : Fm} {G : Gx} {n : Nat} {hm : Bool} {l : Loc} {H : Hp} {s : Shared}

theorem Inv.withA (I : Inv P F l H s) (A : Around) : Inv P { F with A := A } l H s := ⟨I.gens, I.os, I.keep, I.frk, I.loc, I.cel, I.objs, I.free, I.big⟩
theorem Inv.ofA {A : Around} (I : Inv P { F with A := A } l H s) : Inv P F l H s := ⟨I.gens, I.os, I.keep, I.frk, I.loc, I.cel, I.objs, I.free, I.big⟩
theorem Off.ofA {A : Around} {a : Addr} (x : Off { F with A := A } H a) : Off F H a := ⟨x.h, x.g, x.fr, x.l, x.c⟩
theorem Exc.ofA {A : Around} {e C : Addr} {b : Bool} (x : Exc P { F with A := A } H s e C b) : Exc P F H s e C b := ⟨x.big, x.off.ofA, let ⟨T, h1, h2, h3⟩ := x.at_; ⟨T, h1, fun t ht => (h2 t ht).ofA, h3⟩⟩
theorem PostX.ofA {A : Around} {X : XV} {V : Value} (h : PostX P { F with A := A } l X V s) : PostX P F l X V s := let ⟨H', e, C, q, I, x, z⟩ := h; ⟨H', e, C, q, I.ofA, x.ofA, z⟩
theorem FmOk.withA (K : FmOk P F) {A : Around} (h : A.frames = F.A.frames) (hx : F.x = none ∨ A.handled = F.A.handled) : FmOk P { F with A := A } :=
  ⟨K.kind, K.glob, K.blt, K.base, K.above, K.lg, K.lf, K.cl, K.cg, K.apart, K.cn, K.cf, K.fg, let ⟨f, o, a, b, c⟩ := K.frames; ⟨f, o, h.trans a, b, c⟩, fun a e => ⟨(K.xg a e).1, hx.elim (fun z => by rw [z] at e; cases e) fun z => z.trans (K.xg a e).2⟩⟩

theorem tc_weight (a : Addr) (Vs : List Value) : (Code.builtin "type.__call__" ⟨.ref a :: Vs, []⟩).weight = 1 := by
  unfold Code.weight
  rw [show (Code.builtin "type.__call__" ⟨.ref a :: Vs, []⟩).frames = 0 from rfl, show (Code.builtin "type.__call__" ⟨.ref a :: Vs, []⟩).isCreation = true from rfl,
    show (Code.builtin "type.__call__" ⟨.ref a :: Vs, []⟩).isGuard = false from by show guardIds.contains "type.__call__" = false; decide +kernel, show (Code.builtin "type.__call__" ⟨.ref a :: Vs, []⟩).isCaller = false from rfl]
  rfl
theorem tc_room {A : Around} (R : Room n A) (a : Addr) (Vs : List Value) : RoomC n (A.under (.builtin "type.__call__" ⟨.ref a :: Vs, []⟩)) := by
  refine ⟨?_, ?_⟩
  · show A.depth + (Code.builtin "type.__call__" ⟨.ref a :: Vs, []⟩).weight + 2 * n + 1 < _
    rw [tc_weight]; have := R.1; omega
  · show A.units + 1 + 30 * n + 190 < _
    have := R.2; omega
theorem tc_frames {A : Around} (a : Addr) (Vs : List Value) : (A.under (.builtin "type.__call__" ⟨.ref a :: Vs, []⟩)).frames = A.frames := by
  show pushEnvs [] A.frames = A.frames
  cases A.frames <;> rfl

theorem s_call (Y : PmOk P) (GO : GxOk P G) (FN : SndFn P G n) (K : FmOk P F) (R : Room n F.A) (HM : HmOk hm F) (I : Inv P F l H s) {V : Value} {Vs : List Value} {Q : QV} {X : XV} (h : callV G hm (er V) (Vs.map er) H Q X) :
    (∃ k, (k = Keeper.frame ∨ k = Keeper.machine) ∧ PySem.W.Looks P.M s.heap (keeperOf V) k) ∧ wpAny P.M F.A (call V Vs) (PostE P F l Q) (PostX P F l X) s := by
  unfold callV at h
  split at h
  · rename_i a e; have := er_ref e; subst this
    split at h
    · rename_i fi hi
      obtain ⟨i1, i2, i3, i4⟩ := GO.init a fi hi
      have kin := I.kin Y K
      refine ⟨PySem.W.looks_keep i4 kin, wpAny_call ?_⟩
      have I1 := I.alloc K (O := PySem.W.emptyDict) (o := .ns []) (t := s.toks) ⟨#[], 0, Heap.get?_push_size _ rfl, .nil, .nil⟩
      have I2 := I1.alloc K (O := PySem.W.instObj a s.heap.objs.size) (o := .inst a s.heap.objs.size) (t := s.toks) (Heap.get?_push_size _ rfl)
      have hsz : (s.heap.push PySem.W.emptyDict).objs.size = s.heap.objs.size + 1 := Heap.size_push ..
      simp only [hsz] at I2
      have q := h s.heap.objs.size (s.heap.objs.size + 1) I.fresh (by
        have := I1.fresh
        simp only [hsz] at this
        rwa [Hp.upd_ne _ _ (Nat.succ_ne_self _)] at this) (Nat.ne_of_lt (Nat.lt_succ_self _))
      obtain ⟨hh, hg, hd, ht, ho⟩ := s
      refine PySem.W.make_core (PySem.W.makes_of kin i1) (PySem.W.looks_findIn kin i2) (fun self => PySem.W.bind_fn kin self (beq_iff_eq.mp i3)) (.inl (by simp)) ?_
      refine codeAny_mono (FN.run q (F := { F with A := F.A.under (.builtin "type.__call__" ⟨.ref a :: Vs, []⟩) }) (l := l) (K.withA (tc_frames _ _) (.inr rfl)) (tc_room R _ _) HM (I2.withA _) rfl) fun r s' z => ?_
      rcases r with e | (_ | _ | _ | v)
      · exact PostX.ofA z
      · exact z.elim
      · exact z.elim
      · exact z.elim
      · obtain ⟨H', I', q1, q2⟩ := z
        exact ⟨er_none q1, H', I'.ofA, q2⟩
    · refine ⟨PySem.W.looks_keep (FN.keep h) (I.kin Y K), wpAny_call (codeAny_mono (FN.run h K R.c HM I rfl) fun r s' z => ?_)⟩
      rcases r with e | (_ | _ | _ | v) <;> exact z
  · exact h.elim

theorem se_call (Y : PmOk P) (GO : GxOk P G) (FN : SndFn P G n) {sc : Scope} {f : Str} {p pos : Pos} {args : List Expr} {f' : Ex} {args' : List Ex} (hs : args.all notStar = true) (hf : SE P G n hm sc (.Name f p) f') (ha : SEs P G n hm sc args args') :
    SE P G n hm sc (.Call (.Name f p) args [] pos) (.call f' args') := by
  intro F l K S R HM H s Q X I q
  conv at q => whnf
  refine wpAny_Call_NameR (wpAny_mono (hf K S R HM I q) (fun V s' q => ?_) fun _ _ z => z)
  obtain ⟨H1, I1, q⟩ := q
  refine callWith_any hs (wpAny_mono (ha K S R HM I1 q) (fun Vs s2 q => ?_) fun _ _ z => z)
  obtain ⟨H2, I2, q⟩ := q
  exact s_call Y GO FN K R HM I2 q

theorem backTo_stars {env : Env} {pos : Pos} : ∀ {es : List Expr}, es.all notStar = true → (backTo pos (starEach es env)).all (fun x => !x.1) = true
  | [], _ => rfl
  | e :: es, h => by
    simp at h
    rw [star_cons h.1]
    show (true && (backTo pos (starEach es env)).all (fun x => !x.1)) = true
    rw [backTo_stars (by simpa using h.2)]; rfl

theorem attrBase_eq {o : Expr} {a : Str} {env : Env} {whole : Sem Value} (h : notSuper o = true) : attributeBase o a env whole = whole := by
  unfold attributeBase
  split
  · have h' : (_ != ("super" : Str)) = true := h
    rw [if_pos (by rw [h']; rfl)]
  · rfl

/-! methods of the built-in types -/
noncomputable def bmName : Bm → Str
  | .append => "append" | .pop => "pop" | .get => "get" | .join => "join" | .split => "split"
noncomputable def bmId : Bk → Bm → String
  | .list, .append => "list.append"
  | .list, _ => "list.pop"
  | .dict, .pop => "dict.pop"
  | .dict, _ => "dict.get"
  | .str, .join => "str.join"
  | .str, _ => "str.split"

theorem bm_get {M : Model} {A : Around} {E : Value → Shared → Prop} {s : Shared} {v : Value} {T : String} {name nm : Str} {id idd : String} {pl : Sem Bool} {Q : Value × List Value → Shared → Prop} (sl : Slot T nm idd) (hT : s.TypeIs v T) (pa : PlainAttrs T)
    (hty : typeOf (.builtin idd) = pure (.type "method_descriptor")) (hd : ∀ a, v = .ref a → ∃ o, s.heap.get? a = some o ∧ o.dict = none) (h : Q (.builtin id, [v]) s) (e1 : name = nm := by rfl) (e2 : id = idd := by rfl) : wpAny M A (getMethod v name pl) Q E s := by
  subst e1 e2
  exact getMethod_builtin hT pa sl hty hd h

theorem s_bmOn (I : Inv P F l H s) {E : Value → Shared → Prop} {V : Value} {m : Bm} {k : Bk → Prop} {pl : Sem Bool} {Q : Value × List Value → Shared → Prop} (h : bmOn m (er V) H k)
    (hq : ∀ b, k b → Q (.builtin (bmId b m), [V]) s) : wpAny P.M F.A (getMethod V (bmName m) pl) Q E s := by
  unfold bmOn at h
  split at h
  · rename_i x _ e; obtain ⟨t, rfl⟩ := er_str e
    obtain ⟨rfl | rfl, h⟩ := h
    · exact bm_get PySem.F.slot_str_join rfl PySem.F.plainAttrs_str PySem.F.type_str_join (fun _ e => nomatch e) (hq .str h)
    · exact bm_get PySem.F.slot_str_split rfl PySem.F.plainAttrs_str PySem.F.type_str_split (fun _ e => nomatch e) (hq .str h)
  · rename_i a e; have := er_ref e; subst this
    split at h
    · rename_i xs hx
      obtain ⟨vs, hl, _, _, n, e⟩ := I.objs _ _ hx
      have hd : ∀ b, Value.ref a = .ref b → ∃ o, s.heap.get? b = some o ∧ o.dict = none := fun b q => by cases q; exact ⟨_, e, rfl⟩
      obtain ⟨rfl | rfl, h⟩ := h
      · exact bm_get slot_list_append hl.typeIs PySem.F.plainAttrs_list type_list_append hd (hq .list h)
      · exact bm_get PySem.F.slot_list_pop hl.typeIs PySem.F.plainAttrs_list PySem.F.type_list_pop hd (hq .list h)
    · rename_i xs hx
      obtain ⟨vs, hl, _⟩ := I.objs _ _ hx
      obtain ⟨rfl | rfl, h⟩ := h
      · exact bm_get PySem.F.slot_dict_pop hl.mapOf.typeIs PySem.F.plainAttrs_dict PySem.F.type_dict_pop hl.mapOf.noDict (hq .dict h)
      · exact bm_get PySem.F.slot_dict_get hl.mapOf.typeIs PySem.F.plainAttrs_dict PySem.F.type_dict_get hl.mapOf.noDict (hq .dict h)
    · rename_i xs hx
      obtain ⟨vs, hl, _⟩ := I.objs _ _ hx
      obtain ⟨rfl | rfl, h⟩ := h
      · exact bm_get PySem.F.slot_dict_pop hl.mapOf.typeIs PySem.F.plainAttrs_dict PySem.F.type_dict_pop hl.mapOf.noDict (hq .dict h)
      · exact bm_get PySem.F.slot_dict_get hl.mapOf.typeIs PySem.F.plainAttrs_dict PySem.F.type_dict_get hl.mapOf.noDict (hq .dict h)
    · exact h.elim
  · exact h.elim

theorem mapSeq_exact (f : Array Value → Array Value) (vs : Array Value) (n : Nat) : ∃ n', Obj.mapSeq f { cls := .type "list", dict := none, data := .seq vs n, slots := #[] } = { cls := .type "list", dict := none, data := .seq (f vs) n', slots := #[] } := by
  unfold Obj.mapSeq
  exact ⟨_, rfl⟩

theorem IsL.update {h : Heap} {a : Addr} {vs : Array Value} (x : IsL h a vs) (f : Array Value → Array Value) : IsL (h.update a (Obj.mapSeq f)) a (f vs) := by
  obtain ⟨n, e⟩ := x
  obtain ⟨n', e'⟩ := mapSeq_exact f vs n
  exact ⟨n', by rw [Heap.get?_update_self _ e (by rw [e']; rfl), e']⟩

theorem without_er {K : Type} [DecidableEq K] (ks : List (K × Value)) (k : K) : (PySem.without ks k).map (fun p => (p.1, er p.2)) = PySem.without (ks.map fun p => (p.1, er p.2)) k := by
  unfold PySem.without
  rw [List.filter_map]
  rfl

/-- a text's parts, as a new list -/
theorem split_at {A : Around} {E : Value → Shared → Prop} {x y : Str} {t u : Tok} {Q : Value → Shared → Prop} (hy : (y.length == 0) = false) (hx : x.length ≤ sizeLine) (hn : (Builtin.Str.partsBetween x (Builtin.Str.occurrences x y 0 x.length (x.length + 1)) y.length).length ≤ sizeLine)
    (h : ∀ ls k, ls.map (·.1) = Txt.split x y → Q (.ref s.heap.objs.size) { s with heap := s.heap.push { cls := .type "list", data := .seq (strValues ls).toArray }, toks := k }) : wpAny P.M A (call (.builtin "str.split") [.str x t, .str y u]) Q E s := by
  have M := fun {W} (m : Meets (Builtin.«str.split» ⟨[.str x t, .str y u], []⟩) W) (z : W A (wants Q E) s) => call_meets (prog := P.prog) (w := P.w) PySem.F.slot_str_split (typeIs_str _ _ _) PySem.F.entry_str_split (PySem.F.args_str_split_2 _ _) m z
  cases h1 : (decide (x.length < y.length) || decide (Builtin.Str.strKind x < Builtin.Str.strKind y)) with
  | true => exact M (meets_str_split_cannot_occur x y t u h1) (h [(x, t)] s.toks (if_pos h1).symm)
  | false =>
    cases hf : (Builtin.Str.occurrences x y 0 x.length (x.length + 1)).isEmpty with
    | true => exact M (meets_str_split_not_found x y t u h1 hy hf) (h [(x, t)] s.toks ((if_neg (ne_true_of_eq_false h1)).trans (if_pos hf)).symm)
    | false =>
      refine M (meets_str_split_sep x y t u h1 hy hf hx hn) ?_
      show wants Q E _ { s with toks := _, heap := s.heap.push { cls := .type "list", data := .seq (strsFrom s.toks (Builtin.Str.partsBetween x (Builtin.Str.occurrences x y 0 x.length (x.length + 1)) y.length)).toArray } }
      rw [strsFrom_eq]
      exact h _ _ ((numbered_texts _ _).trans ((if_neg (ne_true_of_eq_false h1)).trans (if_neg (ne_true_of_eq_false hf))).symm)
theorem s_bm (K : FmOk P F) (I : Inv P F l H s) {E : Value → Shared → Prop} {V : Value} {Vs : List Value} {b : Bk} {m : Bm} {Q : QV} (h : bmV b m (er V) (Vs.map er) H Q) :
    wpAny P.M F.A (call (.builtin (bmId b m)) (V :: Vs)) (PostE P F l Q) E s := by
  unfold bmV at h
  split at h
  · split at h
    · obtain ⟨a, eV, h'⟩ := onRef_elim rfl h; clear h; subst eV
      obtain ⟨W, eW, h⟩ := on1_elim h'; clear h'; subst eW
      split at h
      · rename_i xs hx
        obtain ⟨hz, q⟩ := h
        obtain ⟨vs, hl, e, hz2, ex⟩ := I.objs _ _ hx
        have hsz : vs.size ≤ sizeLine := by rw [← e] at hz; simpa using hz
        obtain ⟨n, e0⟩ := id ex
        refine wpAny_call_entry slot_list_append hl.typeIs entry_list_append ?_ (args_list_append _ _)
        show wpAny _ _ (updateSeq a (·.push W) >>= fun _ => ret .none) _ _ s
        refine wpAny_bind (wpAny_updateSeq e0 rfl (wpAny_pure ⟨.none, rfl, ?_⟩) hsz)
        refine ⟨_, I.put (t := s.toks) hx (fun b hb => Heap.get?_update_other _ _ (Ne.symm hb)) (mt_list (ex.update _) ?_), ?_⟩
        · simp only [Array.size_push]; simp only [sizeLine] at hsz; omega
        · simpa [e, er] using q
      · exact h.elim
    · obtain ⟨a, eV, h'⟩ := onRef_elim rfl h; clear h; subst eV
      obtain ⟨eW, h⟩ := on0_elim h'; clear h'; subst eW
      split at h
      · rename_i xs hx
        obtain ⟨hz, q⟩ := h
        obtain ⟨vs, hl, e, hz2, ex⟩ := I.objs _ _ hx
        have hsz : vs.size ≤ sizeLine := by rw [← e] at hz; simpa using hz
        obtain ⟨n, e0⟩ := id ex
        split at q
        · rename_i v hv
          obtain ⟨y, hy, hyv⟩ : ∃ y, vs[vs.size - 1]? = some y ∧ er y = v := by
            rw [← e, List.getLast?_map] at hv
            obtain ⟨y, hy, e'⟩ := Option.map_eq_some_iff.mp hv
            refine ⟨y, ?_, e'⟩
            rw [List.getLast?_eq_getElem?] at hy
            simpa using hy
          subst hyv
          refine call_meets PySem.F.slot_list_pop hl.typeIs PySem.F.entry_list_pop (PySem.F.args_list_pop_1 _) (PySem.MeetsSeq.list_pop_last a vs n y hy hsz) ⟨e0, ?_⟩
          have dl : (vs.eraseIdxIfInBounds (vs.size - 1)).toList = vs.toList.dropLast := by
            obtain ⟨l⟩ := vs
            simp only [List.eraseIdxIfInBounds_toArray, List.size_toArray, List.eraseIdx_length_sub_one]
          refine ⟨_, I.put (t := s.toks) hx (fun b hb => Heap.get?_update_other _ _ (Ne.symm hb)) (mt_list (ex.update _) ?_), ?_⟩
          · rw [← Array.length_toList, dl]
            simp only [sizeLine] at hsz
            simp; omega
          · have : ((vs.eraseIdxIfInBounds (vs.size - 1)).toList.map er) = xs.dropLast := by
              rw [dl, ← e, List.map_dropLast]
            rw [this]; exact q
        · exact q.elim
      · exact h.elim
    · exact h.elim
  · split at h
    · obtain ⟨a, eV, h'⟩ := onRef_elim rfl h; clear h; subst eV
      obtain ⟨W, eW, h2⟩ := on1_elim h'; clear h'; subst eW
      obtain ⟨k, t, eW, h⟩ := onInt_elim rfl h2; clear h2; subst eW
      split at h
      · rename_i kvs hx
        obtain ⟨hz, q⟩ := h
        obtain ⟨ks, hd, e⟩ := I.objs _ _ hx
        split at q
        · rename_i v hv
          rw [← e] at hv
          rw [valueAt_er] at hv
          obtain ⟨W, hw, hwv⟩ := Option.map_eq_some_iff.mp hv
          subst hwv
          refine call_meetsIn PySem.F.slot_dict_pop hd.mapOf.typeIs PySem.F.entry_dict_pop (PySem.F.args_dict_pop_2 _ _) (meets_dict_pop_there _ a (intKind_is _ _ _ _) [] (.inl rfl) rfl) ⟨ks, W, hd, by rw [← e] at hz; simpa using hz, hw, fun h' hd' sb => ?_⟩
          refine ⟨_, I.put (t := s.toks + 1) (o' := .idict ((PySem.without ks k).map fun p => (p.1, er p.2))) hx (fun b hb => sb.2 b hb) ⟨_, hd', rfl⟩, ?_⟩
          have : (PySem.without ks k).map (fun p => (p.1, er p.2)) = PySem.without kvs k := by rw [← e, without_er]
          rw [this]; exact q
        · exact q.elim
      · exact h.elim
    · exact h.elim
  · split at h
    · obtain ⟨x, t, eV, h'⟩ := onStr_elim rfl h; clear h; subst eV
      obtain ⟨W, eW, h2⟩ := on1_elim h'; clear h'; subst eW
      obtain ⟨a, eW, h⟩ := onRef_elim rfl h2; clear h2; subst eW
      split at h
      · rename_i xs hx
        obtain ⟨vs, hl, e, _⟩ := I.objs _ _ hx
        split at h
        · rename_i ss hs
          obtain ⟨ok, q⟩ := h
          obtain ⟨ls, e1, e2⟩ := strs_vals _ _ _ e hs
          refine PySem.SC.join (l := ls) (by rw [← e1]; simpa using hl) e2 ok fun t' k => ⟨H, I.toks _, q⟩
        · exact h.elim
      · exact h.elim
    · obtain ⟨x, t, eV, h'⟩ := onStr_elim rfl h; clear h; subst eV
      obtain ⟨W, eW, h⟩ := on1_elim h'; clear h'; subst eW
      obtain ⟨y, u, eV, h'⟩ := onStr_elim rfl h; clear h; subst eV
      obtain ⟨hy, hx, hz, hn, q⟩ := h'
      refine split_at hy hx hn fun ls k e => ⟨_, I.alloc K (t := k) (mt_list (vs := (strValues ls).toArray) ⟨0, Heap.get?_push_size _ rfl⟩ ?_), ?_⟩
      · rw [← e] at hz; simpa [strValues] using hz
      · have e2 : (strValues ls).toArray.toList.map er = (Txt.split x y).map fun z => Value.str z 0 := by rw [← e]; simp [strValues, er]
        rw [e2]; exact q _ I.fresh
    · exact h.elim
end
end Mine
end

section
open PySem PyProof.Rows PySem.Calls
open PySem.W (Looks Frag InstAt findIn findObj mroIn subIn typeIn clsIn looks_findIn looks_find looks_mroIn looks_subIn looks_typeIn class_get handed_on)
namespace Mine

/-! ## isinstance of an exception of one's own -/
section
variable {prog : Program} {w : World} {A : Around} {E : Value → Shared → Prop} {s : Shared} {K : Frag} {x D : Addr} {ox : Obj}

theorem exc_check {M : Model} {nameV : Value} {Q : Unit → Shared → Prop} (C : ExcCls K D) (X : K.In s.heap) (I : InstAt s.heap x ox D none) (hq : Q () s) : wpAny M A (checkBuiltinCall "BaseException.__getattribute__" ⟨[.ref x, nameV], []⟩) Q E s := by
  have hk : builtinKind "BaseException.__getattribute__" = some .slot := by decide +kernel
  have hsplit : splitId "BaseException.__getattribute__" = some ("BaseException", "__getattribute__") := by decide +kernel
  have ha := PySem.F.args_bexc_ga (.ref x) nameV
  have L0 := I.type (M := M)
  have L1 : Looks M s.heap (isInstance (.ref x) (.type "BaseException")) true := L0.andThen (looks_mroIn X C.be)
  obtain ⟨hh, g, d, t, os⟩ := s
  simp only [checkBuiltinCall, hk, hsplit]
  refine wpAny_bind (L1.at ?_)
  repeat (any_goals (first | assumption | wp_step))

theorem exc_attr {tk : Tok} {fill expr : Bool} {Q : Value → Shared → Prop} (C : ExcCls K D) (X : K.In s.heap) (I : InstAt s.heap x ox D none) (hq : Q (.ref D) s) :
    wpAny (model prog w) A (getAttrBy (.ref x) (.str "__class__" tk) fill expr) Q E s := by
  have L0 := I.type (M := model prog w)
  have L1 := looks_findIn (M := model prog w) X C.ga
  have L2 := looks_findIn (M := model prog w) X C.gr
  have L3 := looks_find (M := model prog w) X I C.fo
  have I' := I
  have X' := X
  have CG := fun {A' : Around} {R : Result → Shared → Prop} (h : R (.ok (.ret (.ref D))) s) => class_get (prog := prog) (w := w) (A := A') (tp := .ref D) X I C.ob h
  have EC := fun {A' : Around} {E' : Value → Shared → Prop} {nameV : Value} {Q' : Unit → Shared → Prop} (hq : Q' () s) => exc_check (M := model prog w) (A := A') (E := E') (nameV := nameV) C X I hq
  obtain ⟨hh, g, d, t, os⟩ := s
  unfold getAttrBy
  refine wpAny_holding (wpAny_bind (L0.at (wpAny_bind (L1.at ?_))))
  show wpAny _ _ (getAttrByItsOwn _ _ _ _ _ _) _ _ _
  unfold getAttrByItsOwn hookBefore
  refine wpAny_bind ?_
  show wpAny _ _ (typeLookup (.ref D) "__getattr__") _ _ _
  refine L2.at ?_
  refine wpAny_bind (wpAny_attempt (wpAny_holding ?_))
  have hb : callGetattribute (.ref x) (.str "__class__" tk) (.builtin "BaseException.__getattribute__") expr = boundAndCalled (.builtin "BaseException.__getattribute__") (.ref x) (.str "__class__" tk) := by
    unfold callGetattribute
    rw [if_neg (by cases expr <;> decide)]
  rw [hb]
  unfold boundAndCalled
  refine wpAny_bind (wpAny_of_eq (PySem.F.excAttr_ValueError.ga.bind (.ref x)) ?_)
  refine wpAny_call ?_
  refine codeAny_call_builtin PySem.F.excAttr_ValueError.ga.plain PySem.F.entry_bexc_ga (EC ?_)
  unfold Builtin.«object.__getattribute__»
  repeat (any_goals (first | assumption | with_reducible refine L0.at ?_ | with_reducible refine L3.at ?_ | wp_step))
  refine CG ?_
  dsimp only
  refine wpAny_pure ?_
  dsimp only
  exact handed_on rfl hq

theorem exc_class {Q : Option Value → Shared → Prop} (C : ExcCls K D) (X : K.In s.heap) (I : InstAt s.heap x ox D none) (hq : Q (some (.ref D)) { s with toks := s.toks + 1 }) :
    wpAny (model prog w) A (getAttr? (.ref x) "__class__") Q E s := by
  unfold getAttr? getAttrBy?
  exact wpAny_bind (wpAny_mkText (wpAny_bind (wpAny_attempt (exc_attr (s := { s with toks := s.toks + 1 }) C X I (wpAny_pure hq)))))

/-- the class asked about is a plain one -/
structure AskCls (K : Frag) (c : Value) : Prop where
  ty : ∀ (M : Model) h', K.In h' → Looks M h' (typeOf c) (.type "type")
  is : ∀ (M : Model) h', K.In h' → Looks M h' (isType c) true

theorem exc_nested {c : Value} {dep : Int} {tk : Tok} {b : Bool} {Q : Fin → Shared → Prop} (C : ExcCls K D) (X : K.In s.heap) (I : InstAt s.heap x ox D none) (U : AskCls K c)
    (hne : (Value.ref D == c) = true → b = true) (hsub : ∀ (M : Model) h', K.In h' → Looks M h' (isSubtype (.ref D) c) b) (h : ∀ t, Q (.done (.ret (.bool b))) { s with toks := t }) :
    wpAny (model prog w) A (Builtin.«isinstance.nested» ⟨[.ref x, c, .int dep tk], []⟩) Q E s := by
  obtain ⟨cdD, hcD⟩ := Option.isSome_iff_exists.mp C.cl
  have hisD : Looks (model prog w) s.heap (isType (.ref D)) true := by
    unfold PySem.W.clsIn at hcD
    split at hcD
    · rename_i ho
      intro A' Q' E' s' k q
      unfold isType loadHead
      exact wpAny_bind (wpAny_loadPart (k _ _ (X _ _ ho)) (wpAny_pure q))
    · cases hcD
  have hty := U.ty (model prog w) _ X
  have his := U.is (model prog w) _ X
  have hs := hsub (model prog w) _ X
  have EC := fun {A' : Around} {E' : Value → Shared → Prop} {Q' : Option Value → Shared → Prop} (hq : Q' (some (.ref D)) { s with toks := s.toks + 1 }) => exc_class (prog := prog) (w := w) (A := A') (E := E') C X I hq
  have L0 := I.type (M := model prog w)
  obtain ⟨h0, g, d, tt, os⟩ := s
  have LI : Looks (model prog w) h0 (isInstance (.ref x) c) b := L0.andThen hs
  unfold Builtin.«isinstance.nested»
  refine wpAny_bind (L0.at ?_)
  by_cases q : (Value.ref D == c) = true
  · rw [if_pos q]
    have := hne q
    subst this
    exact wpAny_bind (wpAny_rule (wpAny_bind (wpAny_pure (wpAny_pure (h _)))))
  rw [if_neg q]
  refine wpAny_bind (hty.at ?_)
  rw [if_pos (by decide)]
  k_delta "plainIsInstance"
  refine wpAny_bind (wpAny_bind (his.at ?_))
  simp only [Bool.not_true, Bool.false_eq_true, if_false]
  refine wpAny_bind (LI.at ?_)
  cases b with
  | true =>
    simp only [if_true]
    exact wpAny_pure (wpAny_pure (h _))
  | false =>
    simp only [Bool.false_eq_true, if_false]
    refine wpAny_bind (EC ?_)
    refine wpAny_bind (hisD.at ?_)
    simp only [Bool.not_true, Bool.false_eq_true, if_false]
    refine wpAny_bind (wpAny_rule ?_)
    refine hs.at ?_
    first
      | exact wpAny_pure (h _)
      | exact wpAny_pure (wpAny_pure (h _))
      | exact wpAny_bind (wpAny_pure (wpAny_pure (h _)))

theorem exc_isi {c : Value} {b : Bool} {Q : Value → Shared → Prop} (C : ExcCls K D) (X : K.In s.heap) (I : InstAt s.heap x ox D none) (U : AskCls K c)
    (hne : (Value.ref D == c) = true → b = true) (hsub : ∀ (M : Model) h', K.In h' → Looks M h' (isSubtype (.ref D) c) b) (h : ∀ t, Q (.bool b) { s with toks := t }) :
    wpAny (model prog w) A (call (.builtin "isinstance") [.ref x, c]) Q E s :=
  call_isinstance (S := fun _ R s => (K.In s.heap ∧ InstAt s.heap x ox D none) ∧ ∀ t, R (.ok (.ret (.bool b))) { s with toks := t })
    (fun _ _ _ _ _ hs => isinstance_outer (exc_nested C hs.1.1 hs.1.2 U hne hsub hs.2) (by intro q; cases q)) ⟨⟨X, I⟩, h⟩
end
end Mine
end

section
open PySem PyProof.Rows PySem.Calls
open PySem.W (Looks looks_subIn looks_typeIn)
namespace Mine

section
variable {P : Pm} {F : Fm} {G : Gx} {n : Nat} {hm : Bool} {l : Loc} {H : Hp} {s : Shared}

noncomputable def Ty.val : Ty → Option Value
  | .str => some (.type "str") | .int => some (.type "int") | .bool => some (.type "bool") | .list => some (.type "list") | .tuple => some (.type "tuple") | .valueError => some (.type "ValueError")
  | _ => none

theorem meta_VE : typeOf (.type "ValueError") = pure (.type "type") := by kernel_rfl
theorem ask_VE (K : PySem.W.Frag) : AskCls K (.type "ValueError") := ⟨fun _ _ _ => Looks.of_pure meta_VE, fun _ _ _ => Looks.of_pure rfl⟩

theorem exc_inst (I : Inv P F l H s) {x D : Addr} (h : H x = some (.exc D)) : ∃ ox, PySem.W.InstAt s.heap x ox D none := by
  obtain ⟨vs, sl, e⟩ := I.objs _ _ h
  exact ⟨_, e, rfl, rfl, trivial⟩

theorem s_isi (Y : PmOk P) (GO : GxOk P G) (K : FmOk P F) (I : Inv P F l H s) {E : Value → Shared → Prop} {V T : Value} {t : Ty} {Q : QV} (ht : t.val = some T) (h : isiV G (er V) t H Q) :
    wpAny P.M F.A (call (.builtin "isinstance") [V, T]) (PostE P F l Q) E s := by
  have R : ∀ {b : Bool} {u : Nat}, Q (.bool b) H → PostE P F l Q (.bool b) { s with toks := u } := fun q => ⟨H, I.toks _, q⟩
  unfold isiV at h
  split at h
  · rename_i e; have := er_none e; subst this
    obtain ⟨hb, q⟩ := h
    cases t <;> cases ht <;> first | cases hb | skip
    · exact IsiPair.NoneType_str (R q)
    · exact IsiPair.NoneType_int (R q)
    · exact IsiPair.NoneType_bool (R q)
    · exact IsiPair.NoneType_list (R q)
    · exact IsiPair.NoneType_tuple (R q)
  · rename_i e; have := er_bool e; subst this
    obtain ⟨hb, q⟩ := h
    cases t <;> cases ht <;> first | cases hb | skip
    · exact IsiPair.bool_str (R q)
    · exact IsiPair.bool_int (R (u := s.toks) q)
    · exact IsiPair.bool_bool (R (u := s.toks) q)
    · exact IsiPair.bool_list (R q)
    · exact IsiPair.bool_tuple (R q)
  · rename_i e; obtain ⟨u, rfl⟩ := er_int e
    obtain ⟨hb, q⟩ := h
    cases t <;> cases ht <;> first | cases hb | skip
    · exact IsiPair.int_str (R q)
    · exact IsiPair.int_int (R (u := s.toks) q)
    · exact IsiPair.int_bool (R q)
    · exact IsiPair.int_list (R q)
    · exact IsiPair.int_tuple (R q)
  · rename_i e; obtain ⟨u, rfl⟩ := er_str e
    obtain ⟨hb, q⟩ := h
    cases t <;> cases ht <;> first | cases hb | skip
    · exact IsiPair.str_str (R (u := s.toks) q)
    · exact IsiPair.str_int (R q)
    · exact IsiPair.str_bool (R q)
    · exact IsiPair.str_list (R q)
    · exact IsiPair.str_tuple (R q)
  · rename_i a e; have := er_ref e; subst this
    split at h
    · rename_i hx
      obtain ⟨hb, q⟩ := h
      obtain ⟨vs, ⟨o, ho, hc, _⟩, _⟩ := I.objs _ _ hx
      cases t <;> cases ht <;> first | cases hb | skip
      · exact IsiPair.list_str ho hc (R q)
      · exact IsiPair.list_int ho hc (R q)
      · exact IsiPair.list_bool ho hc (R q)
      · exact IsiPair.list_list ho hc (R (u := s.toks) q)
      · exact IsiPair.list_tuple ho hc (R q)
    · rename_i hx
      obtain ⟨hb, q⟩ := h
      obtain ⟨vs, ⟨o, ho, hc, _⟩, _⟩ := I.objs _ _ hx
      cases t <;> cases ht <;> first | cases hb | skip
      · exact IsiPair.tuple_str ho hc (R q)
      · exact IsiPair.tuple_int ho hc (R q)
      · exact IsiPair.tuple_bool ho hc (R q)
      · exact IsiPair.tuple_list ho hc (R q)
      · exact IsiPair.tuple_tuple ho hc (R (u := s.toks) q)
    · rename_i hx
      obtain ⟨hb, q⟩ := h
      obtain ⟨vs, ⟨o, es, ep, ho, hc, _⟩, _⟩ := I.objs _ _ hx
      cases t <;> cases ht <;> first | cases hb | skip
      · exact IsiPair.dict_str ho hc.1 (R q)
      · exact IsiPair.dict_int ho hc.1 (R q)
      · exact IsiPair.dict_bool ho hc.1 (R q)
      · exact IsiPair.dict_list ho hc.1 (R q)
      · exact IsiPair.dict_tuple ho hc.1 (R q)
    · rename_i hx
      obtain ⟨hb, q⟩ := h
      obtain ⟨vs, ⟨o, es, ep, ho, hc, _⟩, _⟩ := I.objs _ _ hx
      cases t <;> cases ht <;> first | cases hb | skip
      · exact IsiPair.dict_str ho hc.1 (R q)
      · exact IsiPair.dict_int ho hc.1 (R q)
      · exact IsiPair.dict_bool ho hc.1 (R q)
      · exact IsiPair.dict_list ho hc.1 (R q)
      · exact IsiPair.dict_tuple ho hc.1 (R q)
    · rename_i C hx
      obtain ⟨he, q⟩ := h
      obtain ⟨ox, II⟩ := exc_inst I hx
      cases t <;> cases ht <;> first | exact q.elim | skip
      exact exc_isi (GO.exc C he) (I.kin Y K) II (ask_VE _) (fun _ => rfl) (fun M h' X => looks_subIn X (GO.exc C he).ve) fun t => R q
    · exact h.elim
  · exact h.elim

theorem machine_builtin (M : Model) (h : Heap) (id : String) : ∃ k, (k = Keeper.frame ∨ k = Keeper.machine) ∧ Looks M h (keeperOf (.builtin id)) k := ⟨.machine, .inr rfl, Looks.of_pure rfl⟩
/-- a name of the built-ins -/
theorem ld_blt (Y : PmOk P) (B : BltOk P) {sc : Scope} (K : FmOk P F) (S : ScOk sc F) (I : Inv P F l H s) {E : Value → Shared → Prop} {x : Str} {p : Pos} {v : Value} {Q : Value → Shared → Prop} (hb : bltTab x = some v) (hl : isLoc sc x = some false) (h : Q v s) : wpAny P.M F.A (eval (.Name x p) F.env) Q E s :=
  ld_glob Y K I (.inr (B.blt x v hb)) (S.glob x hl) (isLoc_false hl) h

theorem se_isi (Y : PmOk P) (B : BltOk P) (GO : GxOk P G) {sc : Scope} {e : Expr} {e' : Ex} {x : Str} {t : Ty} {p p2 pos : Pos} (hn : notStar e = true) (hi : isLoc sc "isinstance" = some false) (hx : isLoc sc x = some false) {T : Value} (hT : t.val = some T) (hb : bltTab x = some T) (he : SE P G n hm sc e e') :
    SE P G n hm sc (.Call (.Name "isinstance" p) [e, .Name x p2] [] pos) (.isi e' t) := by
  intro F l K S R HM H s Q X I q
  conv at q => whnf
  refine wpAny_Call_NameR (ld_blt Y B K S I (v := .builtin "isinstance") (by decide +kernel) hi ?_)
  refine callWith_any (by rw [List.all_cons, hn]; rfl) ?_
  rw [star_cons hn]
  refine spliced_cons (wpAny_mono (he K S R HM I q) (fun V s' q => ?_) fun _ _ z => z)
  obtain ⟨H1, I1, q⟩ := q
  refine spliced_cons (ld_blt Y B K S I1 hb hx (spliced_nil ⟨machine_builtin _ _ _, ?_⟩))
  exact s_isi Y GO K I1 hT q

theorem se_bm {sc : Scope} {o : Expr} {m : Str} {b : Bm} {ap pos : Pos} {args : List Expr} {o' : Ex} {args' : List Ex} (hb : m = bmName b) (hs : args.all notStar = true) (hsup : notSuper o = true) (hline : (ap.endLine == pos.line) = true) (hlen : args.length < 29)
    (ho : SE P G n hm sc o o') (ha : SEs P G n hm sc args args') :
    SE P G n hm sc (.Call (.Attribute o m ap) args [] pos) (.bm b o' args') := by
  intro F l K S R HM H s Q X I q
  subst hb
  conv at q => whnf
  rw [arm_eval_Call, attrBase_eq hsup]
  refine wpAny_bind (wpAny_mono (ho K S R HM I q) (fun V s' q => ?_) fun _ _ z => z)
  obtain ⟨H1, I1, q⟩ := q
  refine wpAny_bind (wpAny_standAt ?_)
  have hform : methodCallForm (args.length + ([] : List Keyword).length) (backTo pos (starEach args F.env)) (backToKw pos (keywordEach [] F.env)) = true := by
    unfold methodCallForm
    rw [backTo_stars hs]
    have : backToKw pos (keywordEach [] F.env) = [] := rfl
    simp [this]; omega
  have hpos : methodCallPos true o F.env ap pos = pure pos := by unfold methodCallPos; simp [hline]
  unfold methodCall
  rw [hform]
  refine wpAny_bind (wpAny_holding (s_bmOn I1 q fun b q => ?_))
  refine wpAny_bind (wpAny_of_eq hpos ?_)
  refine callWith_any hs (wpAny_mono (ha K S R HM I1 q) (fun Vs s2 q => ?_) fun _ _ z => z)
  obtain ⟨H2, I2, q⟩ := q
  exact ⟨machine_builtin _ _ _, s_bm K I2 q⟩
end
end Mine
end

section
open PySem PyProof.Rows PySem.Calls
namespace Mine

/-! ## an object that must stay for a while -/
noncomputable def Fm.also (F : Fm) (c : Addr) (o : Obj) : Fm := { F with g := fun b => if b = c then some o else F.g b }

section
variable {P : Pm} {F : Fm} {G : Gx} {n : Nat} {hm : Bool} {l : Loc} {H : Hp} {s : Shared} {c : Addr} {o : Obj}

theorem FmOk.also (K : FmOk P F) (x : Off F H c) : FmOk P (F.also c o) := by
  refine ⟨K.kind, K.glob, K.blt, fun b o' e => ?_, K.above, ?_, K.lf, K.cl, fun hr y d hy => ?_, K.apart, K.cn, K.cf, fun b d e => ?_, K.frames, fun a e => ?_⟩
  · show (if b = c then some o else F.g b) = some o'
    have := K.base b o' e
    rw [if_neg (fun q => by rw [q, x.g] at this; cases this)]
    exact this
  · show (if F.env.locals = c then some o else F.g F.env.locals) = none
    rw [if_neg (Ne.symm x.l)]; exact K.lg
  · obtain ⟨h1, h2⟩ := K.cg hr y d hy
    refine ⟨?_, h2⟩
    show (if d = c then some o else F.g d) = none
    rw [if_neg (Ne.symm (x.c y d hy))]; exact h1
  · obtain ⟨h1, h2⟩ := K.fg b d e
    refine ⟨?_, h2⟩
    show (if b = c then some o else F.g b) = none
    have e' : F.fr b = some d := e
    rw [if_neg (fun q => by rw [q, x.fr] at e'; cases e')]; exact h1
  · refine ⟨?_, (K.xg a e).2⟩
    show ∃ O, (if a = c then some o else F.g a) = some O
    split
    · exact ⟨_, rfl⟩
    · exact (K.xg a e).1

theorem Inv.also (I : Inv P F l H s) (x : Off F H c) (h : s.heap.get? c = some o) : Inv P (F.also c o) l H s := by
  refine ⟨I.gens, I.os, fun b o' e => ?_, I.frk, I.loc, I.cel, I.objs, fun a o' e => ?_, I.big⟩
  · by_cases q : b = c
    · have e : (if b = c then some o else F.g b) = some o' := e
      rw [if_pos q] at e; cases e; rw [q]; exact h
    · have e : (if b = c then some o else F.g b) = some o' := e
      rw [if_neg q] at e; exact I.keep b o' e
  · cases hr : o'.isR with
    | true => exact fre_r (F := F) (F' := F.also c o) hr rfl (I.free a o' e)
    | false =>
      obtain ⟨h1, h2⟩ := of_fre (I.free a o' e) hr
      refine fre_of hr ⟨?_, h2⟩
      show (if a = c then some o else F.g a) = none
      rw [if_neg (fun q => by rw [q, x.h] at e; cases e)]; exact h1

theorem Inv.back (K : FmOk P F) (x : Off F H c) {l' : Loc} {H' : Hp} (I : Inv P (F.also c o) l' H' s) : Inv P F l' H' s ∧ s.heap.get? c = some o ∧ Off F H' c := by
  refine ⟨⟨I.gens, I.os, fun b o' e => ?_, I.frk, I.loc, I.cel, I.objs, fun a o' e => ?_, I.big⟩, I.keep c o (by show (if c = c then some o else F.g c) = some o; rw [if_pos rfl]), ?_, x.g, x.fr, x.l, x.c⟩
  · refine I.keep b o' ?_
    show (if b = c then some o else F.g b) = some o'
    rw [if_neg (fun q => by rw [q, x.g] at e; cases e)]; exact e
  · cases hr : o'.isR with
    | true => exact fre_r (F := F.also c o) (F' := F) hr rfl (I.free a o' e)
    | false =>
      obtain ⟨h1, h2⟩ := of_fre (I.free a o' e) hr
      refine fre_of hr ⟨?_, h2⟩
      have h1 : (if a = c then some o else F.g a) = none := h1
      split at h1
      · cases h1
      · exact h1
  · cases e : H' c with
    | none => rfl
    | some o' =>
      cases hr : o'.isR with
      | true =>
        rcases r_fre (I.free c o' e) hr with ⟨O, e'⟩ | e'
        · have := K.base _ _ e'
          rw [x.g] at this; cases this
        · obtain ⟨O, e'⟩ := (K.xg c e').1
          rw [x.g] at e'; cases e'
      | false =>
        have := (of_fre (I.free c o' e) hr).1
        have this : (if c = c then some o else F.g c) = none := this
        rw [if_pos rfl] at this; cases this

theorem Off.back {H' : Hp} {a : Addr} (x : Off (F.also c o) H' a) : Off F H' a := by
  refine ⟨x.h, ?_, x.fr, x.l, x.c⟩
  have : (if a = c then some o else F.g a) = none := x.g
  split at this
  · cases this
  · exact this
theorem Exc.back {H' : Hp} {e C : Addr} {b : Bool} (x : Exc P (F.also c o) H' s e C b) : Exc P F H' s e C b :=
  ⟨x.big, x.off.back, let ⟨T, h1, h2, h3⟩ := x.at_; ⟨T, h1, fun t ht => (h2 t ht).back, h3⟩⟩
end

/-- the exception that is handled, if one is, has no context and is not at J -/
noncomputable def HdJ (A : Around) (J : Addr) (h : Heap) : Prop := A.handled = none ∨ ∃ e o vs, A.handled = some (.ref e) ∧ e ≠ J ∧ h.get? e = some o ∧ o.data = .fields vs ∧ vs[2]? = some Value.none
theorem HdK.at_ {P : Pm} {F : Fm} {l : Loc} {H : Hp} {s : Shared} (k : HdK F) (I : Inv P F l H s) {J : Addr} (hJ : F.g J = none) : HdJ F.A J s.heap :=
  k.imp id fun ⟨e, o, vs, h1, h2, h3, h4⟩ => ⟨e, o, vs, h1, (fun q => by rw [q, hJ] at h2; cases h2), I.keep e o h2, h3, h4⟩
theorem HdK.also {F : Fm} (k : HdK F) {c : Addr} {o : Obj} (hc : F.g c = none) : HdK (F.also c o) :=
  k.imp id fun ⟨e, o', vs, h1, h2, h3, h4⟩ => ⟨e, o', vs, h1, by show (if e = c then some o else F.g e) = some o'; rw [if_neg (fun q => by rw [q, hc] at h2; cases h2)]; exact h2, h3, h4⟩
theorem HmOk.also {F : Fm} {hm : Bool} (k : HmOk hm F) {c : Addr} {o : Obj} (hc : F.g c = none) : HmOk hm (F.also c o) := ⟨k.1.also hc, k.2⟩
/-! ## turns -/
structure Turns (P : Pm) (A : Around) (J : Addr) (guard : Hp → Prop) (items : List Value) (St : Nat → Heap → Prop) : Prop where
  at_ : ∀ i h, St i h → ∃ o, h.get? J = some o
  frame : ∀ i h h', St i h → (∀ o, h.get? J = some o → h'.get? J = some o) → St i h'
  item : ∀ i (s : Shared) (Q : Option Value → Shared → Prop) (E : Value → Shared → Prop) (H : Hp), (∀ a o, H a = some o → Mt P s.heap a o) → H J = none → guard H → St i s.heap → ∀ v, items[i]? = some v →
    (∀ V h' tk, er V = v → St (i + 1) h' → (∀ b o, b ≠ J → s.heap.get? b = some o → h'.get? b = some o) → Q (some V) { s with heap := h', toks := tk }) → wpAny P.M A (pyNext (.ref J)) Q E s
  done : ∀ (s : Shared) (Q : Option Value → Shared → Prop) (E : Value → Shared → Prop) (H : Hp), (∀ a o, H a = some o → Mt P s.heap a o) → H J = none → guard H → St items.length s.heap → HdJ A J s.heap →
    (∀ h' tk, (∀ b o, b ≠ J → s.heap.get? b = some o → h'.get? b = some o) → Q none { s with heap := h', toks := tk }) → wpAny P.M A (pyNext (.ref J)) Q E s
  self : ∀ i (s : Shared) (Q : Value → Shared → Prop) (E : Value → Shared → Prop), St i s.heap → Q (.ref J) s → wpAny P.M A (pyIter (.ref J)) Q E s

theorem turns_list {P : Pm} {A : Around} (hh : A.handled = none) (J a : Addr) (xs : List Value) : Turns P A J (fun H => H a = some (.list xs)) xs (fun i h => h.IsListIter J a i) where
  at_ := fun i h ⟨o, ho, _⟩ => ⟨o, ho⟩
  frame := fun i h h' ⟨o, ho, r⟩ k => ⟨o, k o ho, r⟩
  item := fun i s Q E H mt hJ g st v hv hq => by
    obtain ⟨vs, hl, e, _⟩ := mt a _ g
    have hne : a ≠ J := fun q => by rw [q, hJ] at g; cases g
    rw [← e, List.getElem?_map] at hv
    obtain ⟨V, hV, e2⟩ := Option.map_eq_some_iff.mp hv
    have hi : i < vs.size := by have := (List.getElem?_eq_some_iff.mp hV).1; simpa using this
    refine (Walks.list (prog := P.prog) (w := P.w) hh J a hne vs).item i s Q E hi ⟨st, hl⟩ fun V' h' tk hP st' k => hq V' h' tk ?_ st'.1 fun b o hb => k b o (by simp [hb])
    have : some V' = some V := by rw [← hP]; simpa using hV
    cases this; exact e2
  done := fun s Q E H mt hJ g st _ hq => by
    obtain ⟨vs, hl, e, _⟩ := mt a _ g
    have hne : a ≠ J := fun q => by rw [q, hJ] at g; cases g
    refine (Walks.list (prog := P.prog) (w := P.w) hh J a hne vs).done s Q E ⟨?_, hl⟩ fun h' tk k => hq h' tk fun b o hb => k b o (by simp [hb])
    have : vs.size = xs.length := by rw [← e]; simp
    rw [this]; exact st
  self := fun i s Q E st hq => wpAny_pyIter_listiter st hq

theorem turns_nil {P : Pm} {A : Around} (J a : Addr) : Turns P A J (fun H => H a = some (.list [])) [] (fun i h => h.IsListIter J a i) where
  at_ := fun i h ⟨o, ho, _⟩ => ⟨o, ho⟩
  frame := fun i h h' ⟨o, ho, r⟩ k => ⟨o, k o ho, r⟩
  item := fun i s Q E H mt hJ g st v hv hq => by cases hv
  done := fun s Q E H mt hJ g st hd hq => by
    obtain ⟨vs, hl, e, _⟩ := mt a _ g
    have e : vs.toList = [] := List.map_eq_nil_iff.1 e
    refine next_list_end (hd.imp id fun ⟨e, o, vs, h1, _, h2, h3, h4⟩ => ⟨e, o, vs, h1, h2, h3, h4⟩) (fun e h1 => ?_) st hl (by rw [← Array.getElem?_toList, e]; rfl) fun h' x => hq h' s.toks fun b o hb => x b o hb
    rcases hd with hd | ⟨e', _, _, h2, h3, _⟩
    · rw [hd] at h1; cases h1
    · rw [h2] at h1; cases h1; exact h3
  self := fun i s Q E st hq => wpAny_pyIter_listiter st hq

theorem turns_tup {P : Pm} {A : Around} (hh : A.handled = none) (J a : Addr) (xs : List Value) : Turns P A J (fun H => H a = some (.tup xs)) xs (fun i h => h.IsTupleIter J a i) where
  at_ := fun i h ⟨o, ho, _⟩ => ⟨o, ho⟩
  frame := fun i h h' ⟨o, ho, r⟩ k => ⟨o, k o ho, r⟩
  item := fun i s Q E H mt hJ g st v hv hq => by
    obtain ⟨vs, hl, e, _⟩ := mt a _ g
    have hne : a ≠ J := fun q => by rw [q, hJ] at g; cases g
    rw [← e, List.getElem?_map] at hv
    obtain ⟨V, hV, e2⟩ := Option.map_eq_some_iff.mp hv
    have hi : i < vs.size := by have := (List.getElem?_eq_some_iff.mp hV).1; simpa using this
    refine (Walks.tuple (prog := P.prog) (w := P.w) hh J a hne vs).item i s Q E hi ⟨st, hl⟩ fun V' h' tk hP st' k => hq V' h' tk ?_ st'.1 fun b o hb => k b o (by simp [hb])
    have : some V' = some V := by rw [← hP]; simpa using hV
    cases this; exact e2
  done := fun s Q E H mt hJ g st _ hq => by
    obtain ⟨vs, hl, e, _⟩ := mt a _ g
    have hne : a ≠ J := fun q => by rw [q, hJ] at g; cases g
    refine (Walks.tuple (prog := P.prog) (w := P.w) hh J a hne vs).done s Q E ⟨?_, hl⟩ fun h' tk k => hq h' tk fun b o hb => k b o (by simp [hb])
    have : vs.size = xs.length := by rw [← e]; simp
    rw [this]; exact st
  self := fun i s Q E st hq => wpAny_pyIter_tupleiter st hq

theorem turns_range {P : Pm} {A : Around} (hh : A.handled = none) (J : Addr) (lo hi st : Int) : Turns P A J (fun _ => True) (rangeL lo hi st) (fun i h => IsRangeIter h J (lo + (i : Nat) * st) (((Builtin.Range.rangeSize lo hi st).toNat : Int) - (i : Nat)) st) where
  at_ := fun i h r => ⟨_, r⟩
  frame := fun i h h' r k => k _ r
  item := fun i s Q E H mt hJ g r v hv hq => by
    have hi : i < (Builtin.Range.rangeSize lo hi st).toNat := by have := (List.getElem?_eq_some_iff.mp hv).1; simpa [rangeL] using this
    refine (Walks.range (prog := P.prog) (w := P.w) hh J lo st _).item i s Q E hi r fun V h' tk hP st' k => hq V h' tk ?_ st' fun b o hb => k b o (by simp [hb])
    obtain ⟨t, rfl⟩ := hP
    simp [rangeL, hi] at hv
    simp [er, hv]
  done := fun s Q E H mt hJ g r _ hq => by
    have : (rangeL lo hi st).length = (Builtin.Range.rangeSize lo hi st).toNat := by simp [rangeL]
    rw [this] at r
    exact (Walks.range (prog := P.prog) (w := P.w) hh J lo st (Builtin.Range.rangeSize lo hi st).toNat).done s Q E r fun h' tk k => hq h' tk fun b o hb => k b o (by simp [hb])
  self := fun i s Q E r hq => wpAny_pyIter_rangeiter r hq

theorem turns_str {P : Pm} {A : Around} {J : Addr} {x : Str} {St : Nat → Heap → Prop} (W : Walks P.prog P.w A J [J] [J] x.cps.size (SignAt x) St) (hat : ∀ i h, St i h → ∃ o, h.get? J = some o) : Turns P A J (fun _ => True) (x.cps.toList.map fun c => .str (chr1 c) 0) St where
  at_ := hat
  frame := fun i h h' r k => W.frame i h h' r fun b hb o e => by simp at hb; subst hb; exact k o e
  item := fun i s Q E H mt hJ g r v hv hq => by
    have hi : i < x.cps.size := by have := (List.getElem?_eq_some_iff.mp hv).1; simpa using this
    refine W.item i s Q E hi r fun V h' tk hP st' k => hq V h' tk ?_ st' fun b o hb => k b o (by simp [hb])
    obtain ⟨c, u, hc, rfl⟩ := hP
    simp at hv
    obtain ⟨c', hc', rfl⟩ := hv
    rw [hc] at hc'; cases hc'
    rfl
  done := fun s Q E H mt hJ g r _ hq => by
    refine W.done s Q E (by simpa using r) fun h' tk k => hq h' tk fun b o hb => k b o (by simp [hb])
  self := fun i s Q E r hq => W.self i s Q E r hq

theorem turns_dict {P : Pm} {A : Around} (hh : A.handled = none) (J a : Addr) (kvs : List (Int × Value)) (ep : Nat) : Turns P A J (fun H => H a = some (.edict kvs ep)) (kvs.map fun p => .int p.1 0) (fun i h => h.IsKeyIter J a i kvs.length ep) where
  at_ := fun i h ⟨o, ho, _⟩ => ⟨o, ho⟩
  frame := fun i h h' ⟨o, ho, r⟩ k => ⟨o, k o ho, r⟩
  item := fun i s Q E H mt hJ g st v hv hq => by
    obtain ⟨ks, hd, e, _⟩ := mt a _ g
    have hne : a ≠ J := fun q => by rw [q, hJ] at g; cases g
    have hz : ks.length = kvs.length := by rw [← e, List.length_map]
    have hi : i < ks.length := by have := (List.getElem?_eq_some_iff.mp hv).1; rw [List.length_map] at this; omega
    rw [← hz] at st hq
    refine (Walks.dictKeys (prog := P.prog) (w := P.w) (knd := intKind P.prog P.w) hh J a hne ks ep).item i s Q E hi ⟨st, hd⟩ fun V h' tk hP st' k => hq V h' tk ?_ st'.1 fun b o hb => k b o (by simp [hb])
    obtain ⟨kk, x, hx, hk⟩ := hP
    rw [← e, List.getElem?_map, List.getElem?_map, hx] at hv
    cases hv
    unfold intKind Value.isInt at hk
    dsimp only at hk
    split at hk
    · rename_i i' t
      have : i' = kk := by simpa using hk
      rw [this]; rfl
    · cases hk
  done := fun s Q E H mt hJ g st _ hq => by
    obtain ⟨ks, hd, e, _⟩ := mt a _ g
    have hne : a ≠ J := fun q => by rw [q, hJ] at g; cases g
    have hz : ks.length = kvs.length := by rw [← e, List.length_map]
    rw [List.length_map, ← hz] at st
    exact (Walks.dictKeys (prog := P.prog) (w := P.w) (knd := intKind P.prog P.w) hh J a hne ks ep).done s Q E ⟨st, hd⟩ fun h' tk k => hq h' tk fun b o hb => k b o (by simp [hb])
  self := fun i s Q E st hq => wpAny_pyIter_keyiter st hq

section
variable {P : Pm} {F : Fm} {G : Gx} {n : Nat} {hm : Bool} {l : Loc} {H : Hp} {s : Shared}

theorem s_iter (K : FmOk P F) (HM : HmOk hm F) (I : Inv P F l H s) {E : Value → Shared → Prop} {V : Value} {k : (Hp → Prop) → List Value → Prop} (h : iterH hm (er V) H k) :
    wpAny P.M F.A (pyIter V) (fun it s' => ∃ guard items J St, k guard items ∧ it = .ref J ∧ Inv P F l H s' ∧ Off F H J ∧ P.base.objs.size ≤ J ∧ St 0 s'.heap ∧ ∀ A : Around, A.handled = F.A.handled → Turns P A J guard items St) E s := by
  have of := I.ofSize K
  have bz := I.base_le K
  rcases h with ⟨hf, h⟩ | ⟨_, a, e, hx, h⟩
  rotate_left
  · have := er_ref e; subst this
    obtain ⟨vs, hl, _⟩ := I.objs _ _ hx
    exact wpAny_pyIter_list hl ⟨_, _, _, _, h, rfl, I.push _, of, bz, ⟨_, Heap.get?_push_size _ rfl, rfl, rfl⟩, fun A _ => turns_nil _ a⟩
  have hn := HM.2 hf
  rw [hn]
  unfold iterV at h
  split at h
  · rename_i x _ e; obtain ⟨t, rfl⟩ := er_str e
    cases ha : x.cps.all (· < 128)
    · exact wpAny_pyIter_wide ha ⟨_, _, _, _, h, rfl, I.push _, of, bz, ⟨_, Heap.get?_push_size _ rfl, rfl, rfl⟩, fun A hA => turns_str (Walks.strWide hA _ x t) fun i h ⟨o, ho, _⟩ => ⟨o, ho⟩⟩
    · exact wpAny_pyIter_ascii ha ⟨_, _, _, _, h, rfl, I.push _, of, bz, ⟨_, Heap.get?_push_size _ rfl, rfl, rfl⟩, fun A hA => turns_str (Walks.strAscii hA _ x t) fun i h ⟨o, ho, _⟩ => ⟨o, ho⟩⟩
  · rename_i a e; have := er_ref e; subst this
    split at h
    · rename_i xs hx
      obtain ⟨vs, hl, _⟩ := I.objs _ _ hx
      exact wpAny_pyIter_list hl ⟨_, _, _, _, h, rfl, I.push _, of, bz, ⟨_, Heap.get?_push_size _ rfl, rfl, rfl⟩, fun A hA => turns_list hA _ a xs⟩
    · rename_i xs hx
      obtain ⟨vs, hl, _⟩ := I.objs _ _ hx
      exact wpAny_pyIter_tuple hl ⟨_, _, _, _, h, rfl, I.push _, of, bz, ⟨_, Heap.get?_push_size _ rfl, rfl, rfl⟩, fun A hA => turns_tup hA _ a xs⟩
    · rename_i lo hi st hx
      obtain ⟨t, u, v, hr⟩ := I.objs _ _ hx
      refine wpAny_pyIter_range hr h.1 ⟨_, _, _, _, h.2, rfl, I.push _, of, bz, ?_, fun A hA => turns_range hA _ lo hi st⟩
      have hz : ((Builtin.Range.rangeSize lo hi st).toNat : Int) = Builtin.Range.rangeSize lo hi st := (rangeSize_toNat lo hi st).symm
      show IsRangeIter _ _ (lo + ((0 : Nat) : Int) * st) (((Builtin.Range.rangeSize lo hi st).toNat : Int) - ((0 : Nat) : Int)) st
      rw [hz]
      have e1 : lo + ((0 : Nat) : Int) * st = lo := by simp
      have e2 : Builtin.Range.rangeSize lo hi st - ((0 : Nat) : Int) = Builtin.Range.rangeSize lo hi st := by simp
      rw [e1, e2]
      exact Heap.get?_push_size _ rfl
    · rename_i kvs ep hx
      obtain ⟨ks, hd, e, nm⟩ := I.objs _ _ hx
      have hz : ks.length = kvs.length := by rw [← e, List.length_map]
      refine wpAny_pyIter_dict nm hd ⟨_, _, _, _, h, rfl, I.push _, of, bz, ⟨_, Heap.get?_push_size _ rfl, rfl, ?_⟩, fun A hA => turns_dict hA _ a kvs ep⟩
      rw [hz]; rfl
    · exact h.elim
  · exact h.elim
end
end Mine
end

section
open PySem PyProof.Rows PySem.Calls
open PySem.W (Looks looks_subIn looks_typeIn looks_mroIn)
namespace Mine

/-! ## statements -/
noncomputable def PostS (P : Pm) (F : Fm) (Q : QS) : Flow → Shared → Prop := fun f s' => ∃ l' H', Inv P F l' H' s' ∧ (match f with
  | .next => Q .next l' H'
  | .cont => Q .cont l' H'
  | .ret V => Q (.ret (er V)) l' H'
  | .brk => False)
noncomputable def PostSX (P : Pm) (F : Fm) (X : XS) : Value → Shared → Prop := fun EV s' => ∃ l' H' e C, EV = .ref e ∧ Inv P F l' H' s' ∧ Exc P F H' s' e C false ∧ X C l' H'

section
variable {P : Pm} {F : Fm} {G : Gx} {n : Nat} {hm : Bool} {l : Loc} {H : Hp} {s : Shared}

theorem PostX.toS {X : XS} {V : Value} {s' : Shared} (h : PostX P F l (fun C H' => X C l H') V s') : PostSX P F X V s' :=
  let ⟨H', e, C, q, I, x, z⟩ := h; ⟨l, H', e, C, q, I, x, z⟩

noncomputable def S1 (P : Pm) (G : Gx) (n : Nat) (hm : Bool) (sc : Scope) (st : Stmt) (st' : Sm) : Prop :=
  ∀ ⦃F : Fm⦄ ⦃l : Loc⦄, FmOk P F → ScOk sc F → Room n F.A → HmOk hm F → F.ro = false → ∀ {H : Hp} {s : Shared} {Q : QS} {X : XS}, Inv P F l H s → wpS G hm st' l H Q X → wpAny P.M F.A (exec st F.env) (PostS P F Q) (PostSX P F X) s
noncomputable def SS (P : Pm) (G : Gx) (n : Nat) (hm : Bool) (sc : Scope) (st : List Stmt) (st' : List Sm) : Prop :=
  ∀ ⦃F : Fm⦄ ⦃l : Loc⦄, FmOk P F → ScOk sc F → Room n F.A → HmOk hm F → F.ro = false → ∀ {H : Hp} {s : Shared} {Q : QS} {X : XS}, Inv P F l H s → wpSs G hm st' l H Q X → wpAny P.M F.A (execs st F.env) (PostS P F Q) (PostSX P F X) s

theorem ss_nil {sc : Scope} : SS P G n hm sc [] [] := by
  intro F l K S R HM ro H s Q X I q
  conv at q => whnf
  exact wpAny_execs_nil ⟨l, H, I, q⟩
theorem ss_cons {sc : Scope} {st : Stmt} {st' : Sm} {r : List Stmt} {r' : List Sm} (h : S1 P G n hm sc st st') (hr : SS P G n hm sc r r') : SS P G n hm sc (st :: r) (st' :: r') := by
  intro F l K S R HM ro H s Q X I q
  conv at q => whnf
  refine wpAny_execs_cons (wpAny_mono (h K S R HM ro I q) (fun f s' z => ?_) fun _ _ z => z)
  obtain ⟨l', H', I', z⟩ := z
  cases f with
  | next => exact hr K S R HM ro I' z
  | brk => exact z.elim
  | cont => exact ⟨l', H', I', z⟩
  | ret v => exact ⟨l', H', I', z⟩

noncomputable def notComp : Expr → Bool
  | .ListComp .. | .SetComp .. | .DictComp .. => false
  | _ => true
theorem swaps_no {v : Expr} {t : Option Expr} {line : Nat} {env : Env} (h : notComp v = true) : swapsWith v t line env = pure false := by
  cases v <;> first | rfl | cases h

theorem s1_expr {sc : Scope} {e : Expr} {e' : Ex} {pos : Pos} (hc : notComp e = true) (h : SE P G n hm sc e e') : S1 P G n hm sc (.Expr e pos) (.expr e') := by
  intro F l K S R HM ro H s Q X I q
  conv at q => whnf
  refine wpAny_Expr_any (wpAny_mono (h K S R HM I q) (fun V s' z => ?_) fun _ _ z => PostX.toS z) ?_ (swaps_no hc)
  · obtain ⟨H', I', z⟩ := z
    exact ⟨l, H', I', z⟩
  · unfold interactive; rw [K.kind]; rfl

theorem s1_ret {sc : Scope} {e : Expr} {e' : Ex} {pos : Pos} (h : SE P G n hm sc e e') : S1 P G n hm sc (.Return (some e) pos) (.ret e') := by
  intro F l K S R HM ro H s Q X I q
  conv at q => whnf
  rw [arm_exec_Return]
  refine wpAny_bind (wpAny_standAt ?_)
  show wpAny P.M F.A (do return Flow.ret (← eval e F.env)) _ _ s
  refine wpAny_bind (wpAny_mono (h K S R HM I q) (fun V s' z => wpAny_pure ?_) fun _ _ z => PostX.toS z)
  obtain ⟨H', I', z⟩ := z
  exact ⟨l, H', I', z⟩
/-- a name that may be bound here -/
noncomputable def isSt (sc : Scope) (x : Str) : Bool := match sc.names.lookup x with
  | some .local | some .cell => true
  | _ => false
theorem st_of {sc : Scope} (S : ScOk sc F) {x : Str} (h : isSt sc x = true) : F.env.kindOf x = some .local ∨ (F.env.kindOf x = some .cell ∧ ∃ c, F.env.cells.lookup x = some c) := by
  unfold isSt at h
  split at h
  · rename_i e; exact .inl (S.locl x e)
  · rename_i e; exact .inr (S.cell x e)
  · cases h

theorem s1_asg {sc : Scope} {x : Str} {p pos : Pos} {e : Expr} {e' : Ex} (hx : isSt sc x = true) (hc : notComp e = true) (h : SE P G n hm sc e e') : S1 P G n hm sc (.Assign [.Name x p] e pos) (.asg x e') := by
  intro F l K S R HM ro H s Q X I q
  conv at q => whnf
  refine wpAny_Assign_Name (wpAny_mono (h K S R HM I q) (fun V s' z => ?_) fun _ _ z => PostX.toS z) (swaps_no hc)
  obtain ⟨H', I', z⟩ := z
  exact st_loc K I' ro (st_of S hx) fun s'' I'' => ⟨_, _, I'', z⟩

theorem swaps_sub {v : Expr} {o i : Expr} {p : Pos} {line : Nat} {env : Env} : swapsWith v (some (.Subscript o i p)) line env = pure false := by
  cases v <;> rfl

theorem stored_er {K : Type} [DecidableEq K] (ks : List (K × Value)) (k : K) (v : Value) : (stored ks k v).map (fun p => (p.1, er p.2)) = stored (ks.map fun p => (p.1, er p.2)) k (er v) := by
  unfold stored
  have e1 : (ks.map fun p => (p.1, er p.2)).any (fun kv => decide (kv.1 = k)) = ks.any (fun kv => decide (kv.1 = k)) := by rw [List.any_map]; rfl
  rw [e1]
  split
  · rw [List.map_map, List.map_map]
    apply List.map_congr_left
    intro p _
    by_cases h : p.1 = k <;> simp [h]
  · simp

theorem s_setitem (Y : PmOk P) (I : Inv P F l H s) {E : Value → Shared → Prop} {O J V : Value} {k : Hp → Prop} (h : setItemV (er O) (er J) (er V) H k) : wpAny P.M F.A (setItem O J V) (fun _ s' => ∃ H', Inv P F l H' s' ∧ k H') E s := by
  unfold setItemV at h
  split at h
  · rename_i a i _ e1 e2; have := er_ref e1; subst this; obtain ⟨t, rfl⟩ := er_int e2
    split at h
    · rename_i kvs hx
      obtain ⟨hz, q⟩ := h
      obtain ⟨ks, hd, e⟩ := I.objs _ _ hx
      refine wpAny_setItem_pairs (intKind_is _ _ _ _) hd (fun h' hd' sb => ⟨_, I.put (t := s.toks + 1) (o' := .idict ((stored ks i V).map fun p => (p.1, er p.2))) hx (fun b hb => sb.2 b hb) ⟨_, hd', rfl⟩, ?_⟩) (by rw [← e] at hz; simpa using hz)
      rw [stored_er, e]; exact q
    · rename_i xs hx
      obtain ⟨h0, h1, q⟩ := h
      obtain ⟨vs, hl, e, hz, n, e0⟩ := I.objs _ _ hx
      have hsz : vs.size = xs.length := by rw [← e]; simp
      refine PySem.W.ki_setAt (n := n) e0 h0 (by omega) (by omega) ⟨_, I.put (t := s.toks) hx (fun b hb => Heap.get?_update_other _ _ (Ne.symm hb)) (mt_list (IsL.update ⟨n, e0⟩ _) (by simpa [hsz] using hz)), ?_⟩
      rw [show (vs.setIfInBounds i.toNat V).toList.map er = xs.set i.toNat (er V) by rw [← e]; simp [List.map_set]]
      exact q
    · exact h.elim
  · rename_i a x _ e1 e2; have := er_ref e1; subst this; obtain ⟨t, rfl⟩ := er_str e2
    split at h
    · rename_i kvs hx
      obtain ⟨hz, q⟩ := h
      obtain ⟨ks, hd, e⟩ := I.objs _ _ hx
      refine wpAny_setItem_pairs (strKind_is _ _ _ _) hd (fun h' hd' sb => ⟨_, I.put (t := s.toks + 1) (o' := .sdict ((stored ks x V).map fun p => (p.1, er p.2))) hx (fun b hb => sb.2 b hb) ⟨_, hd', rfl⟩, ?_⟩) (by rw [← e] at hz; simpa using hz)
      rw [stored_er, e]; exact q
    · rename_i kvs hx
      obtain ⟨hz, q⟩ := h
      obtain ⟨ks, hd, e⟩ := I.objs _ _ hx
      subst hz
      have : ks = [] := by cases ks with | nil => rfl | cons _ _ => simp at e
      subst this
      refine wpAny_setItem_pairs (strKind_is _ _ _ _) (empty_sdict hd) (fun h' hd' sb => ⟨_, I.put (t := s.toks + 1) (o' := .sdict ((stored ([] : List (Str × Value)) x V).map fun p => (p.1, er p.2))) hx (fun b hb => sb.2 b hb) ⟨_, hd', rfl⟩, ?_⟩) (by simp)
      rw [stored_er]; exact q
    · exact h.elim
  · exact h.elim

theorem s1_asgIdx (Y : PmOk P) {sc : Scope} {o i e : Expr} {p pos : Pos} {o' i' e' : Ex} (ho : SE P G n hm sc o o') (hi : SE P G n hm sc i i') (h : SE P G n hm sc e e') : S1 P G n hm sc (.Assign [.Subscript o i p] e pos) (.asgIdx o' i' e') := by
  intro F l K S R HM ro H s Q X I q
  conv at q => whnf
  refine wpAny_Assign_Subscript (wpAny_mono (h K S R HM I q) (fun V s' z => ?_) fun _ _ z => PostX.toS z) swaps_sub
  obtain ⟨H1, I1, z⟩ := z
  refine wpAny_mono (ho K S R HM I1 z) (fun V2 s2 z => ?_) fun _ _ z => PostX.toS z
  obtain ⟨H2, I2, z⟩ := z
  refine wpAny_mono (hi K S R HM I2 z) (fun V3 s3 z => ?_) fun _ _ z => PostX.toS z
  obtain ⟨H3, I3, z⟩ := z
  refine wpAny_mono (s_setitem Y I3 z) (fun _ s4 z => ?_) fun _ _ z => z
  obtain ⟨H4, I4, z⟩ := z
  exact ⟨l, H4, I4, z⟩

theorem s1_if {sc : Scope} {c : Expr} {c' : Ex} {t f : List Stmt} {t' f' : List Sm} {pos : Pos} (hc : ST P G n hm sc c c') (ht : SS P G n hm sc t t') (hf : SS P G n hm sc f f') : S1 P G n hm sc (.If c t f pos) (.ite c' t' f') := by
  intro F l K S R HM ro H s Q X I q
  conv at q => whnf
  refine wpAny_If (wpAny_mono (hc K S R HM (k := fun b H1 => if b then wpSs G hm t' l H1 Q X else wpSs G hm f' l H1 Q X) I q) (fun b s' z => ?_) fun _ _ z => PostX.toS z)
  obtain ⟨H', I', z⟩ := z
  cases b with
  | true => exact ht K S R HM ro I' z
  | false => exact hf K S R HM ro I' z

/-- an exception leaves a loop's body -/
theorem s_noted (K : FmOk P F) (ro : F.ro = false) {X : XS} {EV : Value} (z : PostSX P F X EV s) : notedBy P.M F.A F.env (fun e s' => cameBackBy P.M F.A F.env (PostSX P F X) e s') EV s := by
  obtain ⟨l', H', e, C, rfl, I, x, z⟩ := z
  exact s_note K I ro x fun s' I' x' => s_cameBack I' x' fun s'' I'' x'' => ⟨l', H', e, C, rfl, I'', x''.weak, z⟩

noncomputable def notSet : Expr → Bool
  | .Set .. => false
  | _ => true
theorem folded_no {e : Expr} {env : Env} {x : Value} (h : notSet e = true) : foldedSetIterable e env x = pure x := by
  cases e <;> first | rfl | cases h

/-- off our things, with an object that stays -/
theorem Inv.turn (K : FmOk P F) (I : Inv P F l H s) {J : Addr} (of : Off F H J) {h' : Heap} {t : Nat} (k : ∀ b o, b ≠ J → s.heap.get? b = some o → h'.get? b = some o) : Inv P F l H { s with heap := h', toks := t } :=
  I.step fun b o e hn => k b o (fun q => hn (q ▸ of)) e

theorem s1_for {sc : Scope} {x : Str} {px pos : Pos} {it : Expr} {it' : Ex} {b : List Stmt} {b' : List Sm} (hx : isSt sc x = true) (hset : notSet it = true) (hi : SE P G n hm sc it it') (hb : SS P G n hm sc b b') :
    S1 P G n hm sc (.For (.Name x px) it b [] pos) (.for_ x it' b') := by
  intro F l K S R HM ro H s Q X I q
  conv at q => whnf
  refine wpAny_For (wpAny_mono (hi K S R HM I q) (fun V s1 q => ?_) fun _ _ z => PostX.toS z) (fun _ => folded_no hset)
  obtain ⟨H1, I1, q⟩ := q
  refine wpAny_mono (s_iter K HM I1 q) (fun it s2 q => ?_) fun _ _ z => z
  obtain ⟨guard, items, J, St, q, rfl, I2, of, bz, st, T⟩ := q
  have T := T F.A rfl
  refine codeAny_forLoop (fun k s => ∃ i l H, Inv P F l H s ∧ Off F H J ∧ St i s.heap ∧ i ≤ items.length ∧ k = items.length - i + 1 ∧ forG guard x (fun l' H' K => wpSs G hm b' l' H' K X) (items.drop i) l H Q) ?_ (items.length + 1) ⟨0, l, H1, I2, of, st, Nat.zero_le _, rfl, q⟩
  rintro k s ⟨i, l, H, I, of, st, hle, hk, q⟩
  rcases Nat.lt_or_ge i items.length with hi | hi
  · obtain ⟨v, hv⟩ : ∃ v, items[i]? = some v := ⟨_, List.getElem?_eq_getElem hi⟩
    have hd : items.drop i = v :: items.drop (i + 1) := by
      rw [List.drop_eq_getElem_cons hi]
      have := List.getElem?_eq_getElem hi
      rw [hv] at this; cases this; rfl
    rw [hd] at q
    unfold forG at q
    obtain ⟨g, q⟩ := q
    refine T.item i s _ _ H I.objs of.h g st v hv fun V h' tk hV st' k' => ?_
    have I' := I.turn (t := tk) K of k'
    obtain ⟨o, ho⟩ := T.at_ _ _ st'
    dsimp only
    have KA := K.also (o := o) of
    have SA : ScOk sc (F.also J o) := ⟨S.loc, S.glob, S.locl, S.cell⟩
    refine wpAny_assign_Name (st_loc KA (I'.also of ho) ro (st_of SA hx) fun s3 I3 => ?_)
    rw [hV] at I3
    refine wpAny_mono (hb KA SA R (HM.also of.g) ro I3 q) (fun f s4 z => ?_) fun EV s4 z => ?_
    · obtain ⟨l4, H4, I4, z⟩ := z
      obtain ⟨I5, ho5, of5⟩ := I4.back K of
      have st5 : St (i + 1) s4.heap := T.frame _ _ _ st' fun o' e => by rw [ho] at e; cases e; exact ho5
      have nx : forG guard x (fun l' H' K => wpSs G hm b' l' H' K X) (items.drop (i + 1)) l4 H4 Q → ∃ m, m < k ∧ ∃ i l H, Inv P F l H s4 ∧ Off F H J ∧ St i s4.heap ∧ i ≤ items.length ∧ m = items.length - i + 1 ∧ forG guard x (fun l' H' K => wpSs G hm b' l' H' K X) (items.drop i) l H Q :=
        fun q => ⟨items.length - (i + 1) + 1, by omega, i + 1, l4, H4, I5, of5, st5, hi, rfl, q⟩
      cases f with
      | next => exact nx z
      | cont => exact nx z
      | brk => exact z.elim
      | ret v => exact ⟨l4, H4, I5, z⟩
    · obtain ⟨l', H', e, C, rfl, I4, x4, z⟩ := z
      exact s_noted K ro ⟨l', H', e, C, rfl, (I4.back K of).1, x4.back, z⟩
  · have : i = items.length := Nat.le_antisymm hle hi
    subst this
    rw [List.drop_length] at q
    unfold forG at q
    refine T.done s _ _ H I.objs of.h q.1 st (HM.1.at_ I of.g) fun h' tk k' => wpAny_execs_nil ⟨l, H, I.turn K of k', q.2⟩
end
end Mine
end

section
open PySem PyProof.Rows PySem.Calls
open PySem.W (Looks looks_subIn looks_typeIn looks_mroIn)
namespace Mine

section
variable {P : Pm} {F : Fm} {G : Gx} {n : Nat} {hm : Bool} {l : Loc} {H : Hp} {s : Shared}

/-! ## try -/
/-- the handlers, as they stand -/
inductive SH (P : Pm) (G : Gx) (n : Nat) (sc : Scope) : List ExceptHandler → List Hd → Prop where
  | nil : SH P G n sc [] []
  | plain {x : Str} {xp pos : Pos} {b₀ : Stmt} {body : List Stmt} {body' : List Sm} {r : List ExceptHandler} {r' : List Hd} : isLoc sc x = some false → SS P G n true sc (b₀ :: body) body' → SH P G n sc r r' →
      SH P G n sc (.ExceptHandler (some (.Name x xp)) none (b₀ :: body) pos :: r) (.mk x none body' :: r')
  | as {x y : Str} {xp pos : Pos} {b₀ : Stmt} {body : List Stmt} {body' : List Sm} {r : List ExceptHandler} {r' : List Hd} : isLoc sc x = some false → sc.names.lookup y = some .local → SS P G n true sc (b₀ :: body) body' → SH P G n sc r r' →
      SH P G n sc (.ExceptHandler (some (.Name x xp)) (some y) (b₀ :: body) pos :: r) (.mk x (some y) body' :: r')

/-- an exception with a name -/
noncomputable def Fm.named (F : Fm) (e : Addr) (o : Obj) : Fm := { F.also e o with x := some e }
end
end Mine
end

section
open PySem PyProof.Rows PySem.Calls
namespace Mine

/-! ## a call of a def of one's own -/
noncomputable def isCell (F : Fm) (b : Addr) : Bool := F.env.cells.any fun x => x.2 == b
theorem isCell_mem {F : Fm} {x : Str} {c : Addr} (h : (x, c) ∈ F.env.cells) : isCell F c = true := by
  unfold isCell
  exact List.any_eq_true.mpr ⟨_, h, by simp⟩
theorem mem_isCell {F : Fm} {c : Addr} (h : isCell F c = true) : ∃ x, (x, c) ∈ F.env.cells := by
  unfold isCell at h
  obtain ⟨⟨x, c'⟩, hm, e⟩ := List.any_eq_true.mp h
  have : c' = c := by simpa using e
  subst this; exact ⟨x, hm⟩

/-- the frame of a call -/
noncomputable def Fm.call (F : Fm) (h : Heap) (env : Env) : Fm where
  env := env
  A := F.A.deeper env
  g := fun b => if isCell F b then h.get? b else F.g b
  fr := fun b => if b = F.env.locals then (h.get? b).map (·.data) else F.fr b
  ro := false
  x := F.x

theorem HdK.call {P : Pm} {F : Fm} {l : Loc} {H : Hp} {s : Shared} (k : HdK F) (I : Inv P F l H s) (env : Env) : HdK (F.call s.heap env) :=
  k.imp id fun ⟨e, o, vs, h1, h2, h3, h4⟩ => ⟨e, o, vs, h1, (by
    show (if isCell F e then s.heap.get? e else F.g e) = some o
    split
    · exact I.keep e o h2
    · exact h2), h3, h4⟩

noncomputable def scFine (sc : Scope) (params : List Str) : Bool :=
  sc.kind == .function && !sc.isCoroutine && !sc.isGenerator && (sc.names.map (·.1)).Nodup && sc.names.all (fun x => x.2 != .free) && params.all (fun x => sc.names.lookup x == some .local || sc.names.lookup x == some .cell) && params.Nodup

structure FnAt (P : Pm) (f : Addr) (params : List Str) (sc : Scope) (body : List Stmt) : Prop where
  at_ : ∃ o fd, P.base.get? f = some o ∧ o.data = .func fd ∧ P.base.CodeRec fd.code fd.qualname ∧ fd.body = .stmts body ∧ fd.scope = sc ∧ fd.closure = [] ∧ fd.globals = mainGlobals ∧ fd.builtins = builtinsNs ∧
    ∀ vals, vals.length = params.length → bindArgs fd ⟨vals, []⟩ = pure (params.zip vals)
  fine : scFine sc params = true
  keep : PySem.W.keepIn P.K (.ref f) = true

/-! the cells -/
theorem cells_lookup_acc {x : Str} : ∀ (names : List (Str × NameKind)) (k : Nat) (acc : List (Str × Addr)), (∃ c, acc.lookup x = some c) → ∃ c, (cellsFrom k names acc).lookup x = some c
  | [], k, acc, h => h
  | (y, kind) :: r, k, acc, h => by
    unfold cellsFrom
    split
    · refine cells_lookup_acc r _ _ ?_
      rw [List.lookup_cons]
      split
      · exact ⟨_, rfl⟩
      · exact h
    · exact cells_lookup_acc r _ _ h
theorem cells_lookup {x : Str} : ∀ (names : List (Str × NameKind)) (k : Nat) (acc : List (Str × Addr)), names.lookup x = some .cell → ∃ c, (cellsFrom k names acc).lookup x = some c
  | [], k, acc, h => by cases h
  | (y, kind) :: r, k, acc, h => by
    rw [List.lookup_cons] at h
    unfold cellsFrom
    split at h
    · rename_i e
      cases h
      rw [if_pos (by decide)]
      refine cells_lookup_acc r _ _ ⟨k, ?_⟩
      rw [List.lookup_cons, e]
    · split
      · exact cells_lookup r _ _ h
      · exact cells_lookup r _ _ h

theorem cells_names : ∀ (names : List (Str × NameKind)) (k : Nat) (acc : List (Str × Addr)), (names.map (·.1)).Nodup → (acc.map (·.1)).Nodup → (∀ x ∈ names.map (·.1), x ∉ acc.map (·.1)) → ((cellsFrom k names acc).map (·.1)).Nodup
  | [], k, acc, _, h, _ => h
  | (y, kind) :: r, k, acc, hn, h, hd => by
    rw [List.map_cons, List.nodup_cons] at hn
    unfold cellsFrom
    split
    · refine cells_names r _ _ hn.2 ?_ ?_
      · rw [List.map_cons, List.nodup_cons]
        exact ⟨hd y (by simp), h⟩
      · intro x hx hm
        rw [List.map_cons, List.mem_cons] at hm
        rcases hm with rfl | hm
        · exact hn.1 hx
        · exact hd x (by rw [List.map_cons]; exact .tail _ hx) hm
    · exact cells_names r _ _ hn.2 h fun x hx => hd x (by rw [List.map_cons]; exact .tail _ hx)
theorem lookup_of_mem {α : Type} {x : Str} {c : α} : ∀ {l : List (Str × α)}, (l.map (·.1)).Nodup → (x, c) ∈ l → l.lookup x = some c
  | (y, d) :: r, hn, hm => by
    rw [List.map_cons, List.nodup_cons] at hn
    rw [List.lookup_cons]
    rcases List.mem_cons.mp hm with q | q
    · cases q; simp
    · have : (x == y) = false := by
        apply beq_eq_false_iff_ne.mpr
        intro e
        exact hn.1 (List.mem_map.mpr ⟨(x, c), q, e⟩)
      rw [this]
      exact lookup_of_mem hn.2 q

/-! what is bound -/
theorem bindL_get {k : Str → Option NameKind} {x : Str} (hk : k x = some .local) : ∀ (ps : List Str) (vs : List Value) (m : Str → Option Value), ps.Nodup → ∀ v, ((ps.zip (vs.map er)).lookup x = some v → ∃ V, bindL k (ps.zip vs) m x = some V ∧ er V = v) ∧ ((ps.zip vs).lookup x = none → bindL k (ps.zip vs) m x = m x)
  | [], vs, m, _, v => ⟨fun h => by simp at h, fun _ => rfl⟩
  | p :: ps, [], m, _, v => ⟨fun h => by simp at h, fun _ => rfl⟩
  | p :: ps, V :: vs, m, hn, v => by
    rw [List.nodup_cons] at hn
    obtain ⟨h1, h2⟩ := bindL_get hk ps vs (if k p = some .local then fun y => if y = p then some V else m y else m) hn.2 v
    constructor
    · intro h
      rw [List.map_cons, List.zip_cons_cons, List.lookup_cons] at h
      show ∃ W, bindL k (ps.zip vs) (if k p = some .local then fun y => if y = p then some V else m y else m) x = some W ∧ _
      split at h
      · rename_i e
        have : x = p := by simpa using e
        subst this
        cases h
        have no : (ps.zip vs).lookup x = none := by
          apply List.lookup_eq_none_iff.mpr
          intro q hq
          have := (List.of_mem_zip hq).1
          refine bne_iff_ne.mpr ?_
          rintro rfl
          exact hn.1 this
        have := (bindL_get hk ps vs (if k x = some .local then fun y => if y = x then some V else m y else m) hn.2 (er V)).2 no
        rw [this, if_pos hk]
        exact ⟨V, by simp, rfl⟩
      · exact h1 h
    · intro h
      rw [List.zip_cons_cons, List.lookup_cons] at h
      show bindL k (ps.zip vs) (if k p = some .local then fun y => if y = p then some V else m y else m) x = m x
      split at h
      · cases h
      · rename_i e
        rw [h2 h]
        have : x ≠ p := by simpa using e
        split
        · simp [this]
        · rfl
theorem bindC_get {k : Str → Option NameKind} {x : Str} (hk : k x ≠ some .local) : ∀ (ps : List Str) (vs : List Value) (m : Str → Option Value), ps.Nodup → ∀ v, ((ps.zip (vs.map er)).lookup x = some v → ∃ V, bindC k (ps.zip vs) m x = some V ∧ er V = v) ∧ ((ps.zip vs).lookup x = none → bindC k (ps.zip vs) m x = m x)
  | [], vs, m, _, v => ⟨fun h => by simp at h, fun _ => rfl⟩
  | p :: ps, [], m, _, v => ⟨fun h => by simp at h, fun _ => rfl⟩
  | p :: ps, V :: vs, m, hn, v => by
    rw [List.nodup_cons] at hn
    obtain ⟨h1, h2⟩ := bindC_get hk ps vs (if k p = some .local then m else fun y => if y = p then some V else m y) hn.2 v
    constructor
    · intro h
      rw [List.map_cons, List.zip_cons_cons, List.lookup_cons] at h
      show ∃ W, bindC k (ps.zip vs) (if k p = some .local then m else fun y => if y = p then some V else m y) x = some W ∧ _
      split at h
      · rename_i e
        have : x = p := by simpa using e
        subst this
        cases h
        have no : (ps.zip vs).lookup x = none := by
          apply List.lookup_eq_none_iff.mpr
          intro q hq
          have := (List.of_mem_zip hq).1
          refine bne_iff_ne.mpr ?_
          rintro rfl
          exact hn.1 this
        have := (bindC_get hk ps vs (if k x = some .local then m else fun y => if y = x then some V else m y) hn.2 (er V)).2 no
        rw [this, if_neg hk]
        exact ⟨V, by simp, rfl⟩
      · exact h1 h
    · intro h
      rw [List.zip_cons_cons, List.lookup_cons] at h
      show bindC k (ps.zip vs) (if k p = some .local then m else fun y => if y = p then some V else m y) x = m x
      split at h
      · cases h
      · rename_i e
        rw [h2 h]
        have : x ≠ p := by simpa using e
        split
        · rfl
        · simp [this]

section
variable {P : Pm} {F : Fm} {G : Gx} {n : Nat} {hm : Bool} {l : Loc} {H : Hp} {s : Shared}

theorem call_xg (K : FmOk P F) (I : Inv P F l H s) (env : Env) : ∀ a, (F.call s.heap env).x = some a → (∃ O, (F.call s.heap env).g a = some O) ∧ F.A.handled = some (.ref a) := fun a e => by
  obtain ⟨⟨O, h⟩, h2⟩ := K.xg a e
  refine ⟨⟨O, ?_⟩, h2⟩
  show (if isCell F a then s.heap.get? a else F.g a) = some O
  split
  · exact I.keep a O h
  · exact h
theorem call_frame (K : FmOk P F) (I : Inv P F l H s) {env : Env} (hk : env.scope.kind = .function) (hg : env.globals = mainGlobals) (hb : env.builtins = builtinsNs) (hL : env.locals = s.heap.objs.size) (hf : env.frame = some env.locals)
    (ab : ∀ x c, (x, c) ∈ env.cells → env.locals < c) (ap : env.cells.Pairwise fun x y => x.2 ≠ y.2) (cn : ∀ x c, (x, c) ∈ env.cells → env.cells.lookup x = some c) : FmOk P (F.call s.heap env) := by
  have nn : ∀ b, s.heap.objs.size ≤ b → s.heap.get? b = none := fun b hb => Heap.get?_none_of_le hb
  have g0 : ∀ b, s.heap.objs.size ≤ b → (F.call s.heap env).g b = none := fun b hb => by
    show (if isCell F b then s.heap.get? b else F.g b) = none
    split
    · exact nn b hb
    · exact (I.off K (nn b hb)).g
  have f0 : ∀ b, s.heap.objs.size ≤ b → (F.call s.heap env).fr b = none := fun b hb => by
    show (if b = F.env.locals then (s.heap.get? b).map (·.data) else F.fr b) = none
    rw [if_neg (I.off K (nn b hb)).l]
    exact (I.off K (nn b hb)).fr
  refine ⟨hk, hg, hb, fun b o e => ?_, ?_, ?_, ?_, fun x c hm => Nat.ne_of_gt (ab x c hm), fun _ x c hm => ⟨g0 c ?_, f0 c ?_⟩, ap, cn, fun x c hm => f0 c ?_, fun b d e => ?_, ?_, call_xg K I env⟩
  · show (if isCell F b then s.heap.get? b else F.g b) = some o
    split
    · exact I.keep b o (K.base b o e)
    · exact K.base b o e
  · show P.base.objs.size ≤ env.locals
    rw [hL]; exact I.base_le K
  · exact g0 _ (by show s.heap.objs.size ≤ env.locals; rw [hL]; exact Nat.le_refl _)
  · exact f0 _ (by show s.heap.objs.size ≤ env.locals; rw [hL]; exact Nat.le_refl _)
  · have := ab x c hm; rw [hL] at this; exact Nat.le_of_lt this
  · have := ab x c hm; rw [hL] at this; exact Nat.le_of_lt this
  · have := ab x c hm; rw [hL] at this; exact Nat.le_of_lt this
  · have e : (if b = F.env.locals then (s.heap.get? b).map (·.data) else F.fr b) = some d := e
    show (if isCell F b then s.heap.get? b else F.g b) = none ∧ _
    by_cases q : b = F.env.locals
    · rw [if_pos q] at e
      subst q
      constructor
      · split
        · rename_i hc
          obtain ⟨x, hm⟩ := mem_isCell hc
          exact absurd rfl (K.cl x _ hm)
        · exact K.lg
      · obtain ⟨m, ⟨o, es, ep, ho, hd, _⟩, _⟩ := I.loc
        rw [ho] at e
        cases e
        intro vs q
        have q : o.data = .fields vs := q
        rw [hd] at q; cases q
    · rw [if_neg q] at e
      obtain ⟨h1, h2⟩ := K.fg b d e
      refine ⟨?_, h2⟩
      split
      · rename_i hc
        obtain ⟨x, hm⟩ := mem_isCell hc
        rw [K.cf x b hm] at e; cases e
      · exact h1
  · obtain ⟨fenv, outer, h1, h2, h3⟩ := K.frames
    refine ⟨env, fenv :: outer, ?_, fun _ => ⟨rfl, hf⟩, fun e he => ?_⟩
    · show F.A.frames.map (env :: ·) = _
      rw [h1]; rfl
    · rcases List.mem_cons.mp he with rfl | he
      · exact ⟨by rw [hk]; decide, _, hf, .inl rfl⟩
      · obtain ⟨k1, b, k2, k3⟩ := h3 e he
        refine ⟨k1, b, k2, .inr ?_⟩
        show ((if b = F.env.locals then (s.heap.get? b).map (·.data) else F.fr b)).isSome = true
        obtain ⟨m, ⟨o, es, ep, ho, hd, _⟩, _⟩ := I.loc
        rcases k3 with rfl | k3
        · rw [if_pos rfl, ho]; rfl
        · split
          · rename_i q; rw [q, ho]; rfl
          · exact k3

theorem Off.up (K : FmOk P F) {l0 : Loc} {H0 : Hp} (I : Inv P F l0 H0 s) {env : Env} {H' : Hp} {a : Addr} (x : Off (F.call s.heap env) H' a) : Off F H' a := by
  have gx : (if isCell F a then s.heap.get? a else F.g a) = none := x.g
  have fx : (if a = F.env.locals then (s.heap.get? a).map (·.data) else F.fr a) = none := x.fr
  have c0 : ∀ y c, (y, c) ∈ F.env.cells → a ≠ c := by
    rintro y c hm rfl
    rw [if_pos (isCell_mem hm)] at gx
    obtain ⟨vo, ⟨o, ho, _⟩, _⟩ := I.cel y a (K.cn y a hm)
    rw [ho] at gx; cases gx
  have l0 : a ≠ F.env.locals := by
    rintro rfl
    obtain ⟨m, ⟨o, es, ep, ho, hd, _⟩, _⟩ := I.loc
    rw [if_pos rfl, ho] at fx; cases fx
  refine ⟨x.h, ?_, ?_, l0, c0⟩
  · split at gx
    · rename_i hc
      obtain ⟨y, hm⟩ := mem_isCell hc
      exact absurd rfl (c0 y a hm)
    · exact gx
  · rw [if_neg l0] at fx; exact fx

theorem Exc.up (K : FmOk P F) {l0 : Loc} {H0 : Hp} (I : Inv P F l0 H0 s) {env : Env} {H' : Hp} {s' : Shared} {e C : Addr} {b : Bool} (x : Exc P (F.call s.heap env) H' s' e C b) : Exc P F H' s' e C b :=
  ⟨x.big, x.off.up K I, let ⟨T, h1, h2, h3⟩ := x.at_; ⟨T, h1, fun t ht => (h2 t ht).up K I, h3⟩⟩

theorem Inv.up (K : FmOk P F) (I : Inv P F l H s) {env : Env} {l' : Loc} {H' : Hp} {s' : Shared} (I' : Inv P (F.call s.heap env) l' H' s') : Inv P F l H' s' := by
  have gc : ∀ y c, (y, c) ∈ F.env.cells → s'.heap.get? c = s.heap.get? c := fun y c hm => by
    obtain ⟨vo, ⟨o, ho, _⟩, _⟩ := I.cel y c (K.cn y c hm)
    rw [ho]
    refine I'.keep c o ?_
    show (if isCell F c then s.heap.get? c else F.g c) = some o
    rw [if_pos (isCell_mem hm)]; exact ho
  refine ⟨I'.gens, I'.os, fun b o e => I'.keep b o ?_, fun b d e => I'.frk b d ?_, ?_, fun x c e => ?_, I'.objs, fun a o e => ?_, I'.big⟩
  · show (if isCell F b then s.heap.get? b else F.g b) = some o
    split
    · exact I.keep b o e
    · exact e
  · show (if b = F.env.locals then (s.heap.get? b).map (·.data) else F.fr b) = some d
    rw [if_neg (fun q => by rw [q, K.lf] at e; cases e)]; exact e
  · obtain ⟨m, ⟨o, es, ep, ho, hd, r⟩, q⟩ := I.loc
    obtain ⟨o', ho', hd'⟩ := I'.frk F.env.locals o.data (by show (if F.env.locals = F.env.locals then (s.heap.get? F.env.locals).map (·.data) else F.fr F.env.locals) = _; rw [if_pos rfl, ho]; rfl)
    exact ⟨m, ⟨o', es, ep, ho', hd'.trans hd, r⟩, q⟩
  · obtain ⟨vo, ⟨o, ho, r⟩, q⟩ := I.cel x c e
    exact ⟨vo, ⟨o, (gc x c (mem_of_lookup e)).trans ho, r⟩, q⟩
  · cases hr : o.isR with
    | true => exact fre_r (F := F.call s.heap env) (F' := F) hr rfl (I'.free a o e)
    | false =>
    obtain ⟨h1, h2, h3, h4⟩ := of_fre (I'.free a o e) hr
    refine fre_of hr ?_
    have := Off.up K I (env := env) (H' := fun _ => none) (a := a) ⟨rfl, h1, h2, h3, h4⟩
    exact ⟨this.g, this.fr, this.l, this.c⟩

theorem call_inv (K : FmOk P F) (I : Inv P F l H s) {env : Env} {ps : List Str} {vs : List Value} {s₁ : Shared} (hL : env.locals = s.heap.objs.size) (nd : ps.Nodup)
    (x : InCallC s env.locals (bindL env.kindOf (ps.zip vs) fun _ => none) env.cells (bindC env.kindOf (ps.zip vs) fun _ => none) s₁) : Inv P (F.call s.heap env) (fun y => (ps.zip (vs.map er)).lookup y) H s₁ := by
  obtain ⟨⟨⟨h, tk, rfl⟩, ns, keep, fresh⟩, cell, apart, above⟩ := x
  have up : ∀ a o, H a = some o → a < env.locals := fun a o e => by rw [hL]; exact I.lt_of e
  refine ⟨I.gens, I.os, fun b o e => ?_, fun b d e => ?_, ⟨_, ns, fun y v hy hk => ((bindL_get hk ps vs _ nd v).1 hy)⟩, fun y c e => ⟨_, cell y c e, fun v hy hk => ((bindC_get (fun q => ?_) ps vs _ nd v).1 hy)⟩, fun a o e => ?_, fun a o e => ?_, I.big⟩
  · have e : (if isCell F b then s.heap.get? b else F.g b) = some o := e
    split at e
    · exact keep b o e
    · exact keep b o (I.keep b o e)
  · have e : (if b = F.env.locals then (s.heap.get? b).map (·.data) else F.fr b) = some d := e
    split at e
    · obtain ⟨o, ho, hd⟩ := Option.map_eq_some_iff.mp e
      exact ⟨o, keep b o ho, hd⟩
    · obtain ⟨o, ho, hd⟩ := I.frk b d e
      exact ⟨o, keep b o ho, hd⟩
  · have hk : env.kindOf y = some .cell ∨ env.kindOf y = some .free := hk
    rw [q] at hk; simp at hk
  · obtain ⟨O, ho⟩ := (I.objs a o e).some
    exact (I.objs a o e).congr ((keep a O ho).trans ho.symm)
  · cases hr : o.isR with
    | true => exact fre_r (F := F) (F' := F.call s.heap env) hr rfl (I.free a o e)
    | false =>
    obtain ⟨h1, h2, h3, h4⟩ := of_fre (I.free a o e) hr
    refine fre_of hr ⟨?_, ?_, Nat.ne_of_lt (up a o e), fun y c hm => Nat.ne_of_lt (Nat.lt_trans (up a o e) (above y c hm))⟩
    · show (if isCell F a then s.heap.get? a else F.g a) = none
      rw [if_neg (fun q => by obtain ⟨y, hm⟩ := mem_isCell q; exact h4 y a hm rfl)]; exact h1
    · show (if a = F.env.locals then (s.heap.get? a).map (·.data) else F.fr a) = none
      rw [if_neg h3]; exact h2

/-- a def's call, by the text of its body -/
theorem call_def (Y : PmOk P) {f : Addr} {ps : List Str} {sc : Scope} {body : List Stmt} {body' : List Sm} (D : FnAt P f ps sc body) (hb : SS P G n hm sc body body') {args : List Value} {Q : QV} {X : XV} (q : wpF G hm ps body' args H Q X)
    (K : FmOk P F) (R : RoomC (n + 1) F.A) (HM : HmOk hm F) (I : Inv P F l H s) {vals : List Value} (hv : vals.map er = args) : codeAny P.M F.A (.call (.ref f) ⟨vals, []⟩) (PostC P F l Q X) s := by
  subst hv
  obtain ⟨hlen, q⟩ := q
  obtain ⟨o, fd, d1, d2, d3, d4, d5, d6, d7, d8, d9⟩ := D.at_
  have fine := D.fine
  unfold scFine at fine
  simp only [Bool.and_eq_true, beq_iff_eq, Bool.not_eq_true', decide_eq_true_eq, List.all_eq_true, Bool.or_eq_true, bne_iff_ne, ne_eq] at fine
  obtain ⟨⟨⟨⟨⟨⟨f1, f2⟩, f3⟩, f4⟩, f5⟩, f6⟩, f7⟩ := fine
  have k : ∀ b o, P.base.get? b = some o → s.heap.get? b = some o := fun b o e => I.keep b o (K.base b o e)
  have kd : ∀ x, (callEnvC fd s.heap.objs.size f).kindOf x = sc.names.lookup x := fun x => by show fd.scope.names.lookup x = _; rw [d5]
  have cl : ∀ x, sc.names.lookup x = some .cell → ∃ c, (callEnvC fd s.heap.objs.size f).cells.lookup x = some c := fun x hx => by
    show ∃ c, (cellsFrom _ fd.scope.names []).lookup x = some c
    rw [d5]; exact cells_lookup _ _ _ hx
  have nf : ∀ x, sc.names.lookup x ≠ some .free := fun x hx => f5 _ (mem_of_lookup hx) rfl
  refine codeAny_call_cells (binds := ps.zip vals) (by have := R.1; omega) (k _ _ d1) d2 (Y.lim.keeps k) (d3.keeps k) d4 (d9 vals (by simpa using hlen.symm)) d6 (fun x hx => ?_) (fun s₁ x => ?_) (by rw [d5]; exact f2) (by rw [d5]; exact f3) (by rw [d5]; exact f1)
  · have := f6 x.1 (List.of_mem_zip (a := x.1) (b := x.2) hx).1
    rw [d5]
    rcases this with h | h
    · exact .inl h
    · obtain ⟨c, hc⟩ := cells_lookup (x := x.1) sc.names (s.heap.objs.size + 1) [] h
      exact .inr ⟨h, by rw [hc]; rfl⟩
  · have K' : FmOk P (F.call s.heap (callEnvC fd s.heap.objs.size f)) := call_frame K I (by show fd.scope.kind = _; rw [d5]; exact f1) d7 d8 rfl rfl x.above x.apart fun y c hm => lookup_of_mem (cells_names _ _ _ (by rw [d5]; exact f4) .nil (by simp)) hm
    have I' := call_inv K I (env := callEnvC fd s.heap.objs.size f) rfl f7 x
    have S' : ScOk sc (F.call s.heap (callEnvC fd s.heap.objs.size f)) := by
      refine ⟨fun y hy => ?_, fun y hy => ?_, fun y hy => (kd y).trans hy, fun y hy => ⟨(kd y).trans hy, cl y hy⟩⟩
      · unfold isLoc at hy
        split at hy
        · rename_i e; exact .inl ((kd y).trans e)
        · rename_i e; exact .inr ⟨.inl ((kd y).trans e), cl y e⟩
        · rename_i e; exact absurd e (nf y)
        · split at hy <;> cases hy
        · cases hy
      · unfold isLoc at hy
        split at hy
        · split at hy <;> cases hy
        · split at hy <;> cases hy
        · split at hy <;> cases hy
        · rename_i e; exact (kd y).trans e
        · cases hy
    refine wpAny_mono (hb K' S' ⟨?_, ?_⟩ ⟨HM.1.call I _, HM.2⟩ rfl I' q) (fun fl s' z => ?_) fun EV s' z => ?_
    · show F.A.depth + 1 + 2 * n + 2 < _
      have := R.1; omega
    · show F.A.units + 3 + 30 * n + 200 < _
      have := R.2; omega
    · obtain ⟨l2, H2, I2, z⟩ := z
      have I3 := Inv.up K I I2
      cases fl with
      | next => exact ⟨H2, I3, z⟩
      | brk => exact z.elim
      | cont => exact z.elim
      | ret v => exact ⟨H2, I3, z⟩
    · obtain ⟨l2, H2, e, C, rfl, I2, x2, z⟩ := z
      exact s_leaving K' I2 rfl x2 fun s3 I3 x3 => ⟨H2, e, C, rfl, Inv.up K I I3, (Exc.up K I x3).weak, z⟩
end
end Mine
end

section
open PySem PyProof.Rows PySem.Calls
namespace Mine

/-! ## the built-in functions -/
section
variable {P : Pm} {F : Fm} {G : Gx} {n : Nat} {hm : Bool} {l : Loc} {H : Hp} {s : Shared} {E : Value → Shared → Prop} {Q : QV}

/-- what is kept stays ours -/
theorem Inv.kept (I : Inv P F l H s) {h' : Heap} {t : Nat} (k : ∀ b o, s.heap.get? b = some o → h'.get? b = some o) : Inv P F l H { s with heap := h', toks := t } := I.step fun b o e _ => k b o e

theorem s_list_new (K : FmOk P F) (I : Inv P F l H s) {h' : Heap} {t : Nat} {vs : Array Value} {D : Addr} (hD : s.heap.get? D = none) (hz : P.base.objs.size ≤ D) (k : ∀ b o, s.heap.get? b = some o → h'.get? b = some o) (e : IsL h' D vs) (hs : vs.size ≤ 2 ^ 25) (q : newV (.list (vs.toList.map er)) H Q) :
    PostE P F l Q (.ref D) { s with heap := h', toks := t } :=
  ⟨_, I.more K hD (bigs_of hz) k (mt_list e hs), q D (I.off K hD).h⟩

theorem szl {n : Nat} (h : n ≤ sizeLine) : n ≤ 2 ^ 25 := by simp only [sizeLine] at h; omega

theorem s_copy (K : FmOk P F) (I : Inv P F l H s) {T : String} {a : Addr} {vs : Array Value} (hT : T = "list" ∨ T = "tuple") {o : Obj} {n : Nat} (ho : s.heap.get? a = some o) (hc : o.cls = .type T) (hd : o.data = .seq vs n) (hz : vs.size ≤ sizeLine) (q : newV (.list (vs.toList.map er)) H Q) :
    wpAny P.M F.A (call (.type "list") [.ref a]) (PostE P F l Q) E s :=
  call_list_seq (hsz := hz) a hT ho hc hd fun h' c' hk hD => s_list_new K I (t := s.toks) (Heap.get?_none_of_le (Nat.le_refl _)) (I.base_le K) hk ⟨c', hD⟩ (szl hz) q

theorem s_range (K : FmOk P F) (I : Inv P F l H s) {Vs : List Value} (h : rangeV (Vs.map er) H Q) : wpAny P.M F.A (call (.type "range") Vs) (PostE P F l Q) E s := by
  unfold rangeV at h
  split at h
  · rename_i hi _ e
    obtain ⟨t, rfl⟩ : ∃ t, Vs = [.int hi t] := by
      cases Vs with
      | nil => cases e
      | cons W r => cases r with
        | nil => simp at e; obtain ⟨t, rfl⟩ := er_int e; exact ⟨t, rfl⟩
        | cons _ _ => simp at e
    exact call_range_1 ⟨_, I.alloc K (o := .range 0 hi 1) (t := s.toks + 1 + 1) ⟨_, _, _, IsRange.new ..⟩, h.2.2 _ I.fresh⟩
  · rename_i lo _ hi _ e
    obtain ⟨t, u, rfl⟩ : ∃ t u, Vs = [.int lo t, .int hi u] := by
      cases Vs with
      | nil => cases e
      | cons W r => cases r with
        | nil => simp at e
        | cons W2 r => cases r with
          | nil => simp at e; obtain ⟨t, rfl⟩ := er_int e.1; obtain ⟨u, rfl⟩ := er_int e.2; exact ⟨t, u, rfl⟩
          | cons _ _ => simp at e
    exact call_range_2 ⟨_, I.alloc K (o := .range lo hi 1) (t := s.toks + 1) ⟨_, _, _, IsRange.new ..⟩, h.2.2.2.2 _ I.fresh⟩
  · rename_i lo _ hi _ st _ e
    obtain ⟨t, u, v, rfl⟩ : ∃ t u v, Vs = [.int lo t, .int hi u, .int st v] := by
      cases Vs with
      | nil => cases e
      | cons W r => cases r with
        | nil => simp at e
        | cons W2 r => cases r with
          | nil => simp at e
          | cons W3 r => cases r with
            | nil => simp at e; obtain ⟨t, rfl⟩ := er_int e.1; obtain ⟨u, rfl⟩ := er_int e.2.1; obtain ⟨v, rfl⟩ := er_int e.2.2; exact ⟨t, u, v, rfl⟩
            | cons _ _ => simp at e
    obtain ⟨h0, h1, h2, h3, h4, h5, h6, q⟩ := h
    exact call_range_3 h0 ⟨_, I.alloc K (o := .range lo hi st) (t := s.toks) ⟨_, _, _, IsRange.new ..⟩, q _ I.fresh⟩ (.inl (PyProof.noPylong_small (by omega)))
  · exact h.elim

theorem bools_of : ∀ {vs : List Value} {bs : List Bool}, vs.map er = bs.map Value.bool → vs = bs.map Value.bool
  | [], [], _ => rfl
  | [], _ :: _, e => by simp at e
  | _ :: _, [], e => by simp at e
  | v :: vs, b :: bs, e => by
    simp at e
    have h1 := er_bool e.1
    have h2 := bools_of (vs := vs) (bs := bs) (by simpa using e.2)
    rw [List.map_cons, h1, h2]

/-- an empty list's turns while an exception is handled -/
theorem walks_nil {prog : Program} {w : World} {A : Around} {J a e : Addr} (he : A.handled = some (.ref e)) (h1 : e ≠ J) : Walks prog w A J [J, a, e] [J] 0 (fun _ _ => False) (fun i h => h.IsListIter J a i ∧ h.IsList a #[] ∧ ∃ o vs, h.get? e = some o ∧ o.data = .fields vs ∧ vs[2]? = some Value.none) where
  sub := fun b hb => by simp at hb; simp [hb]
  frame := fun _ _ _ st hk => ⟨st.1.at fun o e => hk J (by simp) o e, st.2.1.at fun o e => hk a (by simp) o e, let ⟨o, vs, e1, e2, e3⟩ := st.2.2; ⟨o, vs, hk e (by simp) o e1, e2, e3⟩⟩
  item := fun i s Q E hi st hQ => absurd hi (Nat.not_lt_zero _)
  done := fun s Q E st hQ => by
    obtain ⟨s1, s2, o, vs, e1, e2, e3⟩ := st
    exact next_list_end (.inr ⟨e, o, vs, he, e1, e2, e3⟩) (fun e' q => by rw [he] at q; cases q; exact h1) s1 s2 rfl fun h' x => hQ h' s.toks fun b o hb q => x b o (fun z => hb (by simp [z])) q
  self := fun _ _ _ _ st hQ => wpAny_pyIter_listiter st.1 hQ

theorem s_all (K : FmOk P F) (I : Inv P F l H s) (hh : F.A.handled = none) {a : Addr} {xs : List Value} (hx : H a = some (.list xs)) {bs : List Bool} (hb : xs = bs.map Value.bool) (q : Q (.bool (bs.all id)) H) :
    wpAny P.M F.A (call (.builtin "all") [.ref a]) (PostE P F l Q) E s := by
  obtain ⟨vs, hl, e, _⟩ := I.objs _ _ hx
  subst hb
  have ev := bools_of e
  refine call_all_walk (wpAny_pyIter_list hl ⟨s.heap.objs.size, _, _, _, _, _, fun i => bs.getD i true, rfl, Walks.list (A := F.A.in1) hh _ a (Nat.ne_of_lt (I.lt_of hx)) vs, ⟨⟨_, Heap.get?_push_size _ rfl, rfl, rfl⟩, hl.at fun o e => Heap.get?_push_of_some _ e⟩, ?_, fun h' tk k => ?_⟩)
  · intro i v s' Q' E' hP hQ
    have : vs.toList[i]? = some v := by simpa using hP
    rw [ev, List.getElem?_map] at this
    obtain ⟨b, hb, rfl⟩ := Option.map_eq_some_iff.mp this
    have : bs.getD i true = b := by simp [List.getD, hb]
    have hQ : Q' (bs.getD i true) s' := hQ
    rw [this] at hQ
    exact wpAny_truthy_bool hQ
  · refine ⟨H, (I.push _).turn (J := s.heap.objs.size) K (I.ofSize K) fun b o hb e => k b o (by simpa using hb) e, ?_⟩
    have hz : vs.size = bs.length := by have := congrArg List.length ev; simpa using this
    have : (List.range vs.size).all (fun i => bs.getD i true) = bs.all id := by
      rw [hz]
      apply Bool.eq_iff_iff.mpr
      simp only [List.all_eq_true, List.mem_range, id]
      constructor
      · intro h b hb
        obtain ⟨i, hi, rfl⟩ := List.getElem_of_mem hb
        have := h i hi
        simpa [List.getD, hi] using this
      · intro h i hi
        simp only [List.getD, List.getElem?_eq_getElem hi, Option.getD_some]
        exact h _ (List.getElem_mem hi)
    rw [this]; exact q

theorem s_all_nil (K : FmOk P F) (hd : HdK F) (I : Inv P F l H s) {a : Addr} (hx : H a = some (.list [])) (q : Q (.bool true) H) :
    wpAny P.M F.A (call (.builtin "all") [.ref a]) (PostE P F l Q) E s := by
  obtain ⟨vs, hl, e, _⟩ := I.objs _ _ hx
  have e : vs.toList = [] := List.map_eq_nil_iff.1 e
  have e : vs = #[] := Array.toList_eq_nil_iff.1 e
  subst e
  have of := I.ofSize K
  have nJ : a ≠ s.heap.objs.size := Nat.ne_of_lt (I.lt_of hx)
  rcases hd with hh | ⟨ee, oe, ve, h1, h2, h3, h4⟩
  · exact s_all K I hh hx (bs := []) rfl q
  · have he := I.keep ee oe h2
    refine call_all_walk (wpAny_pyIter_list hl ⟨s.heap.objs.size, _, _, _, _, _, fun i => true, rfl, walks_nil (A := F.A.in1) (a := a) (e := ee) h1 (Nat.ne_of_lt (Heap.lt_size he)), ⟨⟨_, Heap.get?_push_size _ rfl, rfl, rfl⟩, hl.at fun o e => Heap.get?_push_of_some _ e, oe, ve, Heap.get?_push_of_some _ he, h3, h4⟩, fun i v s' Q' E' hP hQ => hP.elim, fun h' tk k => ?_⟩)
    exact ⟨H, (I.push _).turn (J := s.heap.objs.size) K of fun b o hb e => k b o (by simpa using hb) e, q⟩

theorem s_max2 (I : Inv P F l H s) (hh : F.A.handled = none) {a b : Int} {t u : Tok} (q : Q (.int (max a b) 0) H) : wpAny P.M F.A (call (.builtin "max") [.int a t, .int b u]) (PostE P F l Q) E s := by
  refine max_two_ints hh fun h' tk k => ⟨H, I.kept k, ?_⟩
  by_cases hc : b > a
  · rw [if_pos hc]; have : max a b = b := by omega
    rw [this] at q; exact q
  · rw [if_neg hc]; have : max a b = a := by omega
    rw [this] at q; exact q
theorem s_min2 (I : Inv P F l H s) (hh : F.A.handled = none) {a b : Int} {t u : Tok} (q : Q (.int (min a b) 0) H) : wpAny P.M F.A (call (.builtin "min") [.int a t, .int b u]) (PostE P F l Q) E s := by
  refine min_two_ints hh fun h' tk k => ⟨H, I.kept k, ?_⟩
  by_cases hc : b < a
  · rw [if_pos hc]; have : min a b = b := by omega
    rw [this] at q; exact q
  · rw [if_neg hc]; have : min a b = a := by omega
    rw [this] at q; exact q

theorem seq_ints : ∀ {vs : List Value} {ns : List Int}, IntsAre vs ns → vs.map er = ns.map fun n => Value.int n 0
  | _, _, .nil => rfl
  | _, _, .cons i t r => by
    rw [List.map_cons, List.map_cons, seq_ints r]; rfl

theorem dictAt_of {K : Type} [DecidableEq K] {knd : PySem.KeyKind P.prog P.w K} {h : Heap} {a : Addr} {kvs : List (K × Value)} (x : h.DictOf knd a kvs) : ∃ ep, h.DictAt knd a kvs ep := by
  obtain ⟨o, es, ep, r⟩ := x
  exact ⟨ep, o, es, r⟩

theorem isInt_val {k : Int} {v : Value} (h : Value.isInt k v = true) : ∃ t, v = .int k t := by
  unfold Value.isInt at h
  split at h
  · rename_i i t
    have : i = k := by simpa using h
    exact ⟨t, by rw [this]⟩
  · cases h

theorem ints_by {vs : List Value} {kvs : List (Int × Value)} (hl : vs.length = kvs.length) (hp : ∀ (j : Nat) (v : Value), vs[j]? = some v → ∃ k x, kvs[j]? = some (k, x) ∧ (intKind P.prog P.w).is k v = true) : IntsAre vs (kvs.map (·.1)) := by
  apply ints_of
  apply List.ext_getElem?
  intro j
  rw [List.getElem?_map, List.getElem?_map, List.getElem?_map]
  rcases Nat.lt_or_ge j vs.length with h | h
  · obtain ⟨k, x, e1, e2⟩ := hp j vs[j] (List.getElem?_eq_getElem h)
    rw [List.getElem?_eq_getElem h, e1]
    obtain ⟨t, ht⟩ := isInt_val (show Value.isInt k vs[j] = true from e2)
    rw [ht]; rfl
  · rw [List.getElem?_eq_none h, List.getElem?_eq_none (by omega)]; rfl

theorem strs_by {vs : List Value} {kvs : List (Str × Value)} (hl : vs.length = kvs.length) (hp : ∀ (j : Nat) (v : Value), vs[j]? = some v → ∃ k x, kvs[j]? = some (k, x) ∧ (PySem.strKind P.prog P.w).is k v = true) : StrsAre vs (kvs.map (·.1)) := by
  apply strs_of
  apply List.ext_getElem?
  intro j
  rw [List.getElem?_map, List.getElem?_map, List.getElem?_map]
  rcases Nat.lt_or_ge j vs.length with h | h
  · obtain ⟨k, x, e1, e2⟩ := hp j vs[j] (List.getElem?_eq_getElem h)
    rw [List.getElem?_eq_getElem h, e1]
    obtain ⟨t, ht⟩ := Value.isStrOf_shape e2
    rw [ht]; rfl
  · rw [List.getElem?_eq_none h, List.getElem?_eq_none (by omega)]; rfl
theorem seq_strs {vs : List Value} {ss : List Str} (h : StrsAre vs ss) : vs.map er = ss.map fun x => Value.str x 0 := by
  induction h with
  | nil => rfl
  | cons x t r ih => rw [List.map_cons, List.map_cons, ih]; rfl
/-- sorted(d) -/
theorem s_sortD (K : FmOk P F) (I : Inv P F l H s) (hh : F.A.handled = none) {κ : Type} [DecidableEq κ] {knd : PySem.KeyKind P.prog P.w κ} {a : Addr} {ks : List (κ × Value)} (nm : (a == sysModules) = false) (hd : s.heap.DictOf knd a ks) (hlen : ks.length ≤ sizeLine) {R : List Value → Prop}
    (run : ∀ (vs : List Value) (D : Addr) (s' : Shared) (E' : Value → Shared → Prop) (Z : Fin → Shared → Prop), vs.length = ks.length → (∀ (j : Nat) (v : Value), vs[j]? = some v → ∃ k x, ks[j]? = some (k, x) ∧ knd.is k v = true) → s'.heap.get? D = some (seqObj "list" vs.toArray 0) →
      (∀ out : Array Value, out.size = ks.length → R (out.toList.map er) → Z (.done (.ret .none)) { s' with heap := sortedHeap s'.heap D vs out }) → wpAny P.M F.A.in1.in1 (Builtin.«list.sort» ⟨[.ref D], []⟩) Z E' s')
    (q : ∀ zs, R zs → newV (.list zs) H Q) : wpAny P.M F.A (call (.builtin "sorted") [.ref a]) (PostE P F l Q) E s := by
  obtain ⟨m, Fr, hmm⟩ := I.fr K
  obtain ⟨ep, hd⟩ := dictAt_of hd
  refine PySem.W.kdu_sorted (PySem.W.kdl_dict nm) hh Fr (news_all _ _ _) hd hlen fun D h' tk vs F' N' lt hl hp => ?_
  have oD : h'.get? D = some (seqObj "list" vs.toArray 0) := (N' _ (.head _)).1
  refine wpAny_call_entry slot_list_sort ⟨_, oD, rfl⟩ entry_list_sort (run vs D _ _ _ hl hp oD fun out hz r => ⟨_, rfl, ?_⟩) (args_list_sort _)
  have I' := I.after K (t := tk) hmm F' N' fun _ hp => .tail _ hp
  have nn : s.heap.get? D = none := by
    cases q : s.heap.get? D with
    | none => rfl
    | some o => exact absurd (lt _ (mem_allNews q (N' _ (.head _)).2.1 (N' _ (.head _)).2.2)) (Nat.lt_irrefl _)
  have of := I.off K nn
  obtain ⟨ep2, hat⟩ := sortedHeap_at (out := out) oD
  refine ⟨_, (I'.turn (t := tk) (h' := sortedHeap h' D vs out) K of fun b o hb e => by rw [sortedHeap_old hb (Heap.lt_size e)]; exact e).track (o := .list (out.toList.map er)) of trivial ?_, q _ r _ of.h⟩
  exact mt_list (vs := out) ⟨ep2, hat⟩ (by have := szl hlen; omega)
theorem s_sorted (Y : PmOk P) (K : FmOk P F) (I : Inv P F l H s) (hh : F.A.handled = none) {V : Value} (h : sortedV (er V) H Q) : wpAny P.M F.A (call (.builtin "sorted") [V]) (PostE P F l Q) E s := by
  unfold sortedV at h
  split at h
  · rename_i a e; have := er_ref e; subst this
    split at h
    · rename_i xs hx
      obtain ⟨m, Fr, hmm⟩ := I.fr K
      obtain ⟨ns, hn, h64, q⟩ := h
      have h64 : xs.length < 64 := by rw [hn]; simpa using h64
      · obtain ⟨vs, hl, e, _⟩ := I.objs _ _ hx
        refine sorted_N Fr (news_all _ _ _) (vs := vs.toList) (by simpa using hl) (ints_of (e.trans hn)) (by rw [← e] at h64; simpa using h64) fun h' vs' ns' ep F' N' a1 a2 a3 => ?_
        have I' := I.after K (t := s.toks) hmm F' N' fun _ hp => .tail _ hp
        have nn : s.heap.get? (s.heap.objs.size + 1) = none := Heap.get?_none_of_le (Nat.le_succ _)
        refine ⟨_, I'.track (o := .list (ns'.map fun n => Value.int n 0)) (I.off K nn) trivial ?_, q ns' a2 a3 _ (I.off K nn).h⟩
        rw [← seq_ints a1]
        have hz : vs'.toArray.size ≤ 2 ^ 25 := by
          have : vs'.length = ns'.length := by have := congrArg List.length (seq_ints a1); simpa using this
          have h2 := a2.length_eq
          rw [hn] at h64
          simp at h64 ⊢; omega
        exact mt_list (vs := vs'.toArray) ⟨ep, (N' _ (.head _)).1⟩ hz
    · rename_i kvs hx
      obtain ⟨hz, q⟩ := h
      obtain ⟨ks, hd, rfl⟩ := I.objs _ _ hx
      rw [List.length_map] at hz
      rw [List.map_map] at q
      refine s_sortD K I hh (not_modules Y I hx) hd hz (R := fun zs => ∃ ms : List Int, zs = ms.map (fun n => Value.int n 0) ∧ ms.Perm (ks.map (·.1)) ∧ ms.Pairwise (· ≤ ·)) (fun vs D s' E' Z hl hp oD k => ?_) fun zs r => ?_
      · exact sort_ints oD (ints_by hl hp) (by rw [hl]; exact hz) fun out ns' a1 a2 a3 => k out (by have := congrArg List.length (seq_ints a1); rw [List.length_map, List.length_map, Array.length_toList] at this; rw [this, a2.length_eq, List.length_map]) ⟨ns', seq_ints a1, a2, a3⟩
      · obtain ⟨ms, rfl, p1, p2⟩ := r
        exact q ms p1 p2
    · rename_i kvs hx
      obtain ⟨hz, q⟩ := h
      obtain ⟨ks, hd, rfl⟩ := I.objs _ _ hx
      rw [List.length_map] at hz
      rw [List.map_map] at q
      refine s_sortD K I hh (not_modules Y I hx) hd hz (R := fun zs => ∃ ms : List Str, zs = ms.map (fun x => Value.str x 0) ∧ ms.Perm (ks.map (·.1)) ∧ sortedS ms = true) (fun vs D s' E' Z hl hp oD k => ?_) fun zs r => ?_
      · exact sort_strs oD (strs_by hl hp) (by rw [hl]; exact hz) fun out ns' a1 a2 a3 => k out (by have := congrArg List.length (seq_strs a1); rw [List.length_map, List.length_map, Array.length_toList] at this; rw [this, a2.length_eq, List.length_map]) ⟨ns', seq_strs a1, a2, a3⟩
      · obtain ⟨ms, rfl, p1, p2⟩ := r
        exact q ms p1 p2
    · exact h.elim
  · exact h.elim

/-- list(d): its keys -/
theorem s_keys (Y : PmOk P) (K : FmOk P F) (I : Inv P F l H s) (hh : F.A.handled = none) {a : Addr} {kvs : List (Int × Value)} (hx : H a = some (.idict kvs)) (hz : (kvs.map fun p => Value.int p.1 0).length ≤ sizeLine) (q : newV (.list (kvs.map fun p => Value.int p.1 0)) H Q) : wpAny P.M F.A (call (.type "list") [.ref a]) (PostE P F l Q) E s := by
  obtain ⟨m, Fr, hmm⟩ := I.fr K
  obtain ⟨ks, hd, e⟩ := I.objs _ _ hx
  obtain ⟨ep, hd⟩ := dictAt_of hd
  have hlen : ks.length ≤ sizeLine := by rw [← e] at hz; simpa using hz
  refine PySem.W.kdl_N (PySem.W.kdl_dict (not_modules Y I hx)) hh Fr (news_all _ _ _) hd hlen fun D c h' tk vs F' N' lt hl hp => ?_
  have ia := ints_by hl hp
  have I' := I.after K (t := tk) hmm F' N' fun _ hp => .tail _ hp
  have nn : s.heap.get? D = none := by
    cases q : s.heap.get? D with
    | none => rfl
    | some o => exact absurd (lt _ (mem_allNews q (N' _ (.head _)).2.1 (N' _ (.head _)).2.2)) (Nat.lt_irrefl _)
  have of := I.off K nn
  refine ⟨_, I'.track (o := .list (kvs.map fun (p : Int × Value) => Value.int p.1 0)) of trivial ?_, q _ of.h⟩
  have e2 : (kvs.map fun p => Value.int p.1 0) = vs.toArray.toList.map er := by
    rw [← e, List.map_map]
    have := seq_ints ia
    rw [List.map_map] at this
    exact this.symm
  rw [e2]
  exact mt_list (vs := vs.toArray) ⟨c, (N' _ (.head _)).1⟩ (by have := szl hlen; simp; omega)
end
end Mine
end

section
open PySem PyProof.Rows PySem.Calls PySem.W
namespace Mine

/-! ## the order of things of which all but the last are in order -/
section
variable {cmp : Nat → Nat → (Bool → Shared → Prop) → Shared → Prop} {s : Shared} {lt : Nat → Nat → Bool} {k pos : Nat}
noncomputable def seqN (k : Nat) : Array Nat := List.toArray (List.range (k + 1))
theorem seqN_at {i : Nat} (h : i ≤ k) : (seqN k).getD i 0 = i := by
  unfold seqN
  have : i < (List.range (k + 1)).length := by rw [List.length_range]; omega
  simp [Array.getD, Nat.lt_succ_of_le h]
structure Asks (cmp : Nat → Nat → (Bool → Shared → Prop) → Shared → Prop) (s : Shared) (lt : Nat → Nat → Bool) (k pos : Nat) : Prop where
  ask : ∀ i j (C : Bool → Shared → Prop), i ≤ k → j ≤ k → i ≠ j → C (lt i j) s → cmp i j C s
  up : ∀ i j, i < j → j < k → lt i j = true
  dn : ∀ i j, i < j → j < k → lt j i = false
  at_ : ∀ i, i < k → lt k i = decide (pos ≤ i)
  le : pos ≤ k
  one : 1 ≤ k
theorem mid_lt {l r : Nat} (h : l < r) : (l + r) / 2 < r := by omega
theorem mid_lo {l r f : Nat} (h : r - l ≤ f + 1) : (l + r) / 2 - l ≤ f := by omega
theorem mid_hi {l r f : Nat} (h : r - l ≤ f + 1) : r - ((l + r) / 2 + 1) ≤ f := by omega
theorem asc_go (a : Asks cmp s lt k pos) {R : Nat → Shared → Prop} (h : R (if pos < k then k else k + 1) s) : ∀ (f m : Nat), m + 1 + f = k → (kas_asc (seqN k) (f + 1) (m + 1)).kasWp cmp R s
  | 0, m, hm => by
    obtain rfl : m + 1 = k := hm
    show cmp ((seqN (m + 1)).getD (m + 1) 0) ((seqN (m + 1)).getD m 0) _ s
    rw [seqN_at (Nat.le_refl _), seqN_at (Nat.le_succ _)]
    refine a.ask _ _ _ (Nat.le_refl _) (Nat.le_succ _) (Nat.succ_ne_self m) ?_
    rw [a.at_ _ (Nat.lt_succ_self _)]
    by_cases hp : pos < m + 1
    · rw [if_pos hp] at h
      rw [decide_eq_true (Nat.le_of_lt_succ hp)]
      exact h
    · rw [if_neg hp] at h
      rw [decide_eq_false fun z => hp (Nat.lt_succ_of_le z)]
      exact h
  | f + 1, m, hm => by
    have h1 : m + 1 < k := hm ▸ Nat.lt_add_of_pos_right (Nat.succ_pos f)
    show cmp ((seqN k).getD (m + 1) 0) ((seqN k).getD m 0) _ s
    rw [seqN_at (Nat.le_of_lt h1), seqN_at (Nat.le_of_lt (Nat.lt_of_succ_lt h1))]
    refine a.ask _ _ _ (Nat.le_of_lt h1) (Nat.le_of_lt (Nat.lt_of_succ_lt h1)) (Nat.succ_ne_self m) ?_
    rw [a.dn m (m + 1) (Nat.lt_succ_self m) h1]
    exact asc_go a h f (m + 1) ((Nat.add_right_comm (m + 1) 1 f).trans hm)
theorem place_go (a : Asks cmp s lt k pos) {R : Nat → Shared → Prop} (h : R pos s) : ∀ (f l r : Nat), l ≤ pos → pos ≤ r → r ≤ k → r - l ≤ f → (kas_place (seqN k) k f l r).kasWp cmp R s
  | 0, l, r, h1, h2, _, h3 => by
    obtain rfl : l = pos := Nat.le_antisymm h1 (Nat.le_trans h2 (Nat.sub_eq_zero_iff_le.1 (Nat.le_zero.1 h3)))
    exact h
  | f + 1, l, r, h1, h2, h4, h3 => by
    unfold kas_place
    by_cases hlr : l ≥ r
    · rw [if_pos hlr]
      obtain rfl : l = pos := Nat.le_antisymm h1 (Nat.le_trans h2 hlr)
      exact h
    · rw [if_neg hlr]
      have hlr : l < r := Nat.lt_of_not_le hlr
      have hm : (l + r) / 2 < k := Nat.lt_of_lt_of_le (mid_lt hlr) h4
      show cmp ((seqN k).getD k 0) ((seqN k).getD ((l + r) / 2) 0) _ s
      rw [seqN_at (Nat.le_refl _), seqN_at (Nat.le_of_lt hm)]
      refine a.ask _ _ _ (Nat.le_refl _) (Nat.le_of_lt hm) (Nat.ne_of_gt hm) ?_
      rw [a.at_ _ hm]
      by_cases hp : pos ≤ (l + r) / 2
      · rw [decide_eq_true hp]
        exact place_go a h f l ((l + r) / 2) h1 hp (Nat.le_of_lt hm) (mid_lo h3)
      · rw [decide_eq_false hp]
        exact place_go a h f ((l + r) / 2 + 1) r (Nat.lt_of_not_le hp) h2 h4 (mid_hi h3)
/-- the places in order -/
noncomputable def inOrd (k pos : Nat) : List Nat := List.range pos ++ k :: List.range' pos (k - pos)
theorem inOrd_end (k : Nat) : inOrd k k = List.range (k + 1) := by
  unfold inOrd
  rw [Nat.sub_self, List.range_succ]; rfl
theorem seqN_get (k i : Nat) : (seqN k)[i]? = if i ≤ k then some i else none := by
  unfold seqN
  rw [List.getElem?_toArray]
  by_cases hi : i ≤ k
  · rw [if_pos hi, List.getElem?_range (Nat.lt_succ_of_le hi)]
  · rw [if_neg hi, List.getElem?_eq_none (by rw [List.length_range]; exact Nat.lt_of_not_le hi)]
theorem bubble_ord (h : pos ≤ k) : bubble (seqN k) k (k - pos) = (inOrd k pos).toArray := by
  have hs : k < (seqN k).size := by unfold seqN; rw [List.size_toArray, List.length_range]; exact Nat.lt_succ_self k
  apply Array.ext_getElem?
  intro i
  rw [getElem?_bubble hs (k - pos) (Nat.sub_le _ _) i, seqN_get, seqN_get, seqN_get, List.getElem?_toArray, Nat.sub_sub_self h]
  unfold inOrd
  rcases Nat.lt_trichotomy i pos with hi | hi | hi
  · rw [if_neg (Nat.ne_of_lt hi), if_neg fun z => Nat.lt_asymm hi z.1, if_pos (Nat.le_trans (Nat.le_of_lt hi) h), List.getElem?_append_left (by rw [List.length_range]; exact hi), List.getElem?_range hi]
  · subst hi
    rw [if_pos rfl, if_pos (Nat.le_refl _), List.getElem?_append_right (by rw [List.length_range]; exact Nat.le_refl _), List.length_range, Nat.sub_self]; rfl
  · rw [if_neg (Nat.ne_of_gt hi), List.getElem?_append_right (by rw [List.length_range]; exact Nat.le_of_lt hi), List.length_range]
    obtain ⟨j, rfl⟩ := Nat.exists_eq_add_of_lt hi
    rw [show pos + j + 1 - pos = j + 1 by rw [Nat.add_assoc, Nat.add_sub_cancel_left], List.getElem?_cons_succ]
    by_cases hik : pos + j + 1 ≤ k
    · rw [if_pos ⟨hi, hik⟩, Nat.add_sub_cancel, if_pos (Nat.le_trans (Nat.le_succ _) hik), List.getElem?_range' (Nat.lt_sub_of_add_lt (by rw [Nat.add_comm]; exact hik)), Nat.one_mul]
    · rw [if_neg fun z => hik z.2, if_neg hik, List.getElem?_eq_none (by rw [List.length_range']; exact Nat.sub_le_iff_le_add'.2 (Nat.le_of_lt_succ (Nat.lt_of_not_le hik)))]
theorem sort_go (a : Asks cmp s lt k pos) {Q : Array Nat → Shared → Prop} (h : Q (inOrd k pos).toArray s) : (kas_sort (k + 1)).kasWp cmp Q s := by
  unfold kas_sort
  rw [KasT.kasWp_bind]
  unfold kas_count
  rw [KasT.kasWp_bind]
  obtain ⟨f, rfl⟩ : ∃ f, k = f + 1 := Nat.exists_eq_succ_of_ne_zero (Nat.ne_of_gt a.one)
  show (kas_asc (seqN (f + 1)) (f + 1) 1).kasWp cmp _ s
  refine asc_go a ?_ f 0 (by rw [Nat.zero_add, Nat.add_comm])
  have hp := a.le
  by_cases hl : pos < f + 1
  · rw [if_pos hl, if_neg fun z => Nat.succ_ne_self _ (of_decide_eq_true z).symm]
    cases f with
    | zero =>
      obtain rfl : pos = 0 := Nat.le_zero.1 (Nat.le_of_lt_succ hl)
      rw [if_neg (Nat.lt_irrefl 1)]
      exact h
    | succ f =>
      rw [if_pos (Nat.succ_lt_succ (Nat.succ_pos f))]
      show cmp ((seqN (f + 2)).getD 0 0) ((seqN (f + 2)).getD (f + 1) 0) _ s
      rw [seqN_at (Nat.zero_le _), seqN_at (Nat.le_succ _)]
      refine a.ask _ _ _ (Nat.zero_le _) (Nat.le_succ _) (Nat.ne_of_lt (Nat.succ_pos f)) ?_
      rw [a.up _ _ (Nat.succ_pos f) (Nat.lt_succ_self _)]
      show (if f + 2 < f + 2 + 1 then kas_bin (f + 2 + 1 - max (f + 2) 1) (seqN (f + 2)) (max (f + 2) 1) else KasT.ret (seqN (f + 2))).kasWp cmp Q s
      rw [if_pos (Nat.lt_succ_self _), Nat.max_eq_left (Nat.succ_le_succ (Nat.zero_le _)), Nat.add_sub_cancel_left]
      show ((kas_place (seqN (f + 2)) (f + 2) (f + 2) 0 (f + 2)).bind fun l => kas_bin 0 (bubble (seqN (f + 2)) (f + 2) (f + 2 - l)) (f + 2 + 1)).kasWp cmp Q s
      rw [KasT.kasWp_bind]
      refine place_go a ?_ (f + 2) 0 (f + 2) (Nat.zero_le _) hp (Nat.le_refl _) (Nat.sub_le _ _)
      show Q (bubble (seqN (f + 2)) (f + 2) (f + 2 - pos)) s
      rw [bubble_ord hp]; exact h
  · obtain rfl : pos = f + 1 := Nat.le_antisymm hp (Nat.le_of_not_lt hl)
    rw [if_neg hl, if_pos (beq_self_eq_true _)]
    show (if f + 1 + 1 < f + 1 + 1 then kas_bin (f + 1 + 1 - max (f + 1 + 1) 1) (seqN (f + 1)) (max (f + 1 + 1) 1) else KasT.ret (seqN (f + 1))).kasWp cmp Q s
    rw [if_neg (Nat.lt_irrefl _)]
    rw [inOrd_end] at h
    exact h
end

/-! ## sorted(): tuples that begin with texts -/
section
variable {P : Pm} {F : Fm} {l : Loc} {H : Hp} {s : Shared} {E : Value → Shared → Prop} {Q : QV}

/-- a tuple in the heap that begins with a text -/
noncomputable def TupK (h : Heap) (v : Value) (x : Str) : Prop := ∃ a o xs n t, v = .ref a ∧ h.get? a = some o ∧ o.cls = .type "tuple" ∧ o.data = .seq xs n ∧ xs[0]? = some (.str x t)
theorem tupK_of (I : Inv P F l H s) {V v : Value} {x : Str} (e : er V = v) (h : KeyAt H v x) : TupK s.heap V x := by
  obtain ⟨a, w, rfl, ha⟩ := h
  have := er_ref e; subst this
  obtain ⟨vs, ⟨o, ho, hc, n, hd⟩, hv, _⟩ := I.objs _ _ ha
  obtain ⟨⟨⟩ | ⟨y, r⟩⟩ := vs
  · cases hv
  · injection hv with h1 h2
    obtain ⟨t, rfl⟩ := er_str h1
    exact ⟨a, o, _, n, t, rfl, ho, hc, hd, rfl⟩
theorem tupKs_of (I : Inv P F l H s) : ∀ {Vs vs : List Value} {ks : List Str}, Vs.map er = vs → All2 (KeyAt H) vs ks → All2 (TupK s.heap) Vs ks
  | [], _, _, rfl, h => by cases h; exact .nil
  | V :: Vs, _, _, rfl, h => by
    cases h with
    | cons h1 h2 => exact .cons (tupK_of I rfl h1) (tupKs_of I rfl h2)
theorem all2_nth {α β : Type} {R : α → β → Prop} {as : List α} {bs : List β} (h : All2 R as bs) (d : α) (e : β) : ∀ i, i < as.length → R (as.getD i d) (bs.getD i e) := by
  induction h with
  | nil => intro i hi; exact absurd hi (Nat.not_lt_zero _)
  | cons h _ ih =>
    intro i hi
    cases i with
    | zero => exact h
    | succ i => exact ih i (Nat.lt_of_succ_lt_succ hi)
theorem all2_length {α β : Type} {R : α → β → Prop} {as : List α} {bs : List β} (h : All2 R as bs) : as.length = bs.length := by
  induction h with
  | nil => rfl
  | cons _ _ ih => rw [List.length_cons, List.length_cons, ih]
theorem katTups_of {h : Heap} {vs : List Value} {ks : List Str} (t : All2 (TupK h) vs ks) : ∃ fs, KatTups h vs fs ∧ fs.length = vs.length ∧ ∀ v ∈ fs, ∃ x t, v = .str x t := by
  induction t with
  | nil => exact ⟨[], KatTups.nil, rfl, fun _ h => absurd h List.not_mem_nil⟩
  | cons h1 _ ih =>
    obtain ⟨a, o, xs, n, t, rfl, ho, hc, hd, hf⟩ := h1
    obtain ⟨fs, h2, h3, h4⟩ := ih
    refine ⟨_ :: fs, KatTups.cons ho hc hd hf h2, by rw [List.length_cons, List.length_cons, h3], fun v hv => ?_⟩
    rcases List.mem_cons.1 hv with rfl | hv
    · exact ⟨_, _, rfl⟩
    · exact h4 v hv
theorem tup_lt {prog : Program} {w : World} {A : Around} {V W : Value} {x y : Str} (h1 : TupK s.heap V x) (h2 : TupK s.heap W y) (hne : x ≠ y) {C : Bool → Shared → Prop} (q : C (lessK x y) s) : wpAny (model prog w) A (keyLt' (tuples' true) V W) C E s := by
  obtain ⟨a, o, ⟨xs⟩, n, t, rfl, ho, _, hd, hf⟩ := h1
  obtain ⟨b, o2, ⟨ys⟩, n2, t2, rfl, ho2, _, hd2, hf2⟩ := h2
  refine kat_lt ho hd ho2 hd2 ?_
  cases xs with
  | nil => cases hf
  | cons p r =>
    cases ys with
    | nil => cases hf2
    | cons p2 r2 =>
      cases hf; cases hf2
      refine kat_cons (wpAny_eqBool_str ?_)
      rw [decide_eq_false hne]
      exact kat_no (oneLt_str q)
theorem one_er {Vs : List Value} {v : Value} (h : Vs.map er = [v]) : ∃ V, Vs = [V] ∧ er V = v := by
  cases Vs with
  | nil => cases h
  | cons W r =>
    cases r with
    | nil => exact ⟨W, rfl, (List.cons.inj h).1⟩
    | cons _ _ => cases (List.cons.inj h).2
theorem getD_app {α : Type} (us : List α) (u d : α) : (us ++ [u]).getD us.length d = u := by simp
theorem getD_app_lt {α : Type} (us : List α) (u d : α) {i : Nat} (h : i < us.length) : (us ++ [u]).getD i d = us.getD i d := by rw [List.getD_eq_getElem?_getD, List.getD_eq_getElem?_getD, List.getElem?_append_left h]
theorem all2_snoc {α β : Type} {R : α → β → Prop} {as : List α} {bs : List β} {a : α} {b : β} (h : All2 R as bs) (h2 : R a b) : All2 R (as ++ [a]) (bs ++ [b]) := by
  induction h with
  | nil => exact .cons h2 .nil
  | cons h _ ih => exact .cons h ih

theorem lessK_trans {x y z : Str} (h1 : lessK x y = true) (h2 : lessK y z = true) : lessK x z = true := decide_eq_true (List.lt_trans (of_decide_eq_true h1) (of_decide_eq_true h2))
theorem lessK_irr (x : Str) : lessK x x = false := decide_eq_false (List.lt_irrefl _)
theorem lessK_asym {x y : Str} (h : lessK x y = true) : lessK y x = false := by
  cases e : lessK y x with
  | false => rfl
  | true => have := lessK_trans h e; rw [lessK_irr] at this; cases this
theorem lessK_tot {x y : Str} (h : x ≠ y) (h2 : lessK x y = false) : lessK y x = true := by
  refine decide_eq_true (Decidable.byContradiction fun n => h ?_)
  have := List.le_antisymm (List.not_lt.1 n) (List.not_lt.1 (of_decide_eq_false h2))
  cases x; cases y
  exact congrArg Str.mk (Array.toList_inj.1 this)
/-- where the last one stands -/
theorem posK_at : ∀ {ks : List Str} {k : Str}, ks.Pairwise (fun x y => lessK x y = true) → k ∉ ks → ∀ i < ks.length, lessK k (ks.getD i "") = decide (posK ks k ≤ i)
  | [], _, _, _, i, hi => absurd hi (Nat.not_lt_zero _)
  | x :: ks, k, hp, hk, i, hi => by
    obtain ⟨h1, h2⟩ := List.pairwise_cons.1 hp
    have hx : k ≠ x := fun e => hk (e ▸ List.mem_cons_self ..)
    have hk' : k ∉ ks := fun e => hk (List.mem_cons_of_mem _ e)
    unfold posK
    cases e : lessK x k with
    | true =>
      rw [List.filter_cons_of_pos (by exact e), List.length_cons]
      cases i with
      | zero => rw [decide_eq_false (Nat.not_succ_le_zero _)]; exact lessK_asym e
      | succ i =>
        have := posK_at h2 hk' i (Nat.lt_of_succ_lt_succ hi)
        unfold posK at this
        show lessK k (ks.getD i "") = _
        rw [this]
        exact decide_eq_decide.2 (Nat.succ_le_succ_iff).symm
    | false =>
      rw [List.filter_cons_of_neg (by rw [e]; exact nofun)]
      have hkx : lessK k x = true := lessK_tot (Ne.symm hx) e
      have hz : (ks.filter fun x => lessK x k) = [] := List.filter_eq_nil_iff.2 fun y hy => by rw [lessK_asym (lessK_trans hkx (h1 y hy))]; exact nofun
      rw [hz, List.length_nil, decide_eq_true (Nat.zero_le _)]
      cases i with
      | zero => exact hkx
      | succ i =>
        have hi' : i < ks.length := Nat.lt_of_succ_lt_succ hi
        have : ks.getD i "" ∈ ks := by rw [List.getD_eq_getElem?_getD, List.getElem?_eq_getElem hi']; exact List.getElem_mem hi'
        exact lessK_trans hkx (h1 _ this)
theorem pair_nth {ks : List Str} (h : ks.Pairwise (fun x y => lessK x y = true)) {i j : Nat} (hij : i < j) (hj : j < ks.length) : lessK (ks.getD i "") (ks.getD j "") = true := by
  have := List.pairwise_iff_getElem.1 h i j (Nat.lt_trans hij hj) hj hij
  simpa [Nat.lt_trans hij hj, hj] using this
theorem range_take {α : Type} (d : α) : ∀ (vs : List α) (n : Nat), n ≤ vs.length → (List.range n).map (fun i => vs.getD i d) = vs.take n := fun vs n h => by
  apply List.ext_getElem?
  intro i
  rw [List.getElem?_map, List.getElem?_take]
  by_cases hi : i < n
  · rw [List.getElem?_range hi, if_pos hi]; simp [List.getElem?_eq_getElem (Nat.lt_of_lt_of_le hi h)]
  · rw [if_neg hi, List.getElem?_eq_none (by rw [List.length_range]; omega)]; rfl
theorem range_drop {α : Type} (d : α) (vs : List α) {p k : Nat} (hp : p ≤ k) (hk : k ≤ vs.length) : (List.range' p (k - p)).map (fun i => vs.getD i d) = (vs.take k).drop p := by
  apply List.ext_getElem?
  intro i
  rw [List.getElem?_map, List.getElem?_drop, List.getElem?_take]
  by_cases hi : p + i < k
  · rw [List.getElem?_range' (by omega), if_pos hi]; simp [List.getElem?_eq_getElem (Nat.lt_of_lt_of_le hi hk)]
  · rw [if_neg hi, List.getElem?_eq_none (by rw [List.length_range']; omega)]; rfl
theorem ord_vals (us : List Value) (u : Value) {pos : Nat} (hp : pos ≤ us.length) : (inOrd us.length pos).toArray.toList.map (fun i => (us ++ [u]).getD i Value.none) = us.take pos ++ u :: us.drop pos := by
  show (List.range pos ++ us.length :: List.range' pos (us.length - pos)).map _ = _
  rw [List.map_append, List.map_cons, range_take Value.none (us ++ [u]) pos (by rw [List.length_append]; omega), range_drop Value.none (us ++ [u]) hp (by rw [List.length_append]; omega), getD_app, List.take_left' rfl, List.take_append_of_le_length hp]
theorem posK_le (ks : List Str) (k : Str) : posK ks k ≤ ks.length := List.length_filter_le _ _
theorem strs_type {M : Model} {h : Heap} {fs : List Value} (hf : ∀ v ∈ fs, ∃ x t, v = .str x t) : ∀ v ∈ fs, Looks M h (typeOf v) (.type "str") := fun v hv => by
  obtain ⟨x, t, rfl⟩ := hf v hv
  exact Looks.of_pure rfl

/-- two and more -/
theorem s_sortT2 (K : FmOk P F) (I : Inv P F l H s) {a : Addr} {us : List Value} {u : Value} {ks : List Str} {k : Str} (hx : H a = some (.list (us ++ [u]))) (h63 : us.length < 63) (h1 : us ≠ []) (hu : All2 (KeyAt H) us ks) (hk : KeyAt H u k) (hp : ks.Pairwise (fun x y => lessK x y = true)) (hn : k ∉ ks)
    (q : newV (.list (us.take (posK ks k) ++ u :: us.drop (posK ks k))) H Q) : wpAny P.M F.A (call (.builtin "sorted") [.ref a]) (PostE P F l Q) E s := by
  obtain ⟨m, Fr, hmm⟩ := I.fr K
  obtain ⟨⟨Ws⟩, hl, e, _⟩ := I.objs _ _ hx
  have e : Ws.map er = us ++ [u] := e
  obtain ⟨Us, Ur, rfl, e1, e2⟩ := List.map_eq_append_iff.1 e
  obtain ⟨U, rfl, e3⟩ := one_er e2
  have lu : Us.length = us.length := by rw [← e1, List.length_map]
  have lk : us.length = ks.length := all2_length hu
  have h1' : 1 ≤ us.length := Nat.pos_of_ne_zero fun z => h1 (List.length_eq_zero_iff.1 z)
  refine kat_sorted (vs := Us ++ [U]) Fr (news_all _ _ _) hl (by rw [List.length_append, lu]; exact Nat.succ_le_succ h1') (by rw [List.length_append, lu]; exact Nat.succ_lt_succ h63) fun D e1' h' F' N' lt => ?_
  have I' := I.after K (t := s.toks) hmm F' N' fun _ hp => .tail _ hp
  have tu : All2 (TupK h') Us ks := tupKs_of I' e1 hu
  have tk : TupK h' U k := tupK_of I' e3 hk
  have tt := all2_snoc tu tk
  obtain ⟨fs, g1, g2, g3⟩ := katTups_of tt
  refine kat_kind (T := .type "str") g1 (by rw [g2, List.length_append]; exact Nat.succ_pos _) (strs_type g3) rfl ?_
  have nn : s.heap.get? D = none := by
    cases q : s.heap.get? D with
    | none => rfl
    | some o => exact absurd (lt _ (mem_allNews q (N' _ (.head _)).2.1 (N' _ (.head _)).2.2)) (Nat.lt_irrefl _)
  have of := I.off K nn
  rw [show (Us ++ [U]).length = Us.length + 1 by rw [List.length_append]; rfl]
  refine sort_go (lt := fun i j => lessK ((ks ++ [k]).getD i "") ((ks ++ [k]).getD j "")) (pos := posK ks k) ⟨fun i j C hi hj hij hC => ?_, fun i j hij hj => ?_, fun i j hij hj => ?_, fun i hi => ?_, ?_, ?_⟩ ?_
  · have nth := all2_nth tt Value.none ""
    refine tup_lt (nth i (by rw [List.length_append]; exact Nat.lt_succ_of_le hi)) (nth j (by rw [List.length_append]; exact Nat.lt_succ_of_le hj)) (fun z => ?_) hC
    rw [lu, lk] at hi hj
    have key : ∀ i j, i < j → j ≤ ks.length → (ks ++ [k]).getD i "" ≠ (ks ++ [k]).getD j "" := fun i j hij hj z => by
      rw [getD_app_lt _ _ _ (Nat.lt_of_lt_of_le hij hj)] at z
      rcases Nat.lt_or_eq_of_le hj with hj' | rfl
      · rw [getD_app_lt _ _ _ hj'] at z
        have := pair_nth hp hij hj'
        rw [z, lessK_irr] at this; cases this
      · rw [getD_app] at z
        refine hn (z ▸ ?_)
        rw [List.getD_eq_getElem?_getD, List.getElem?_eq_getElem hij]; exact List.getElem_mem hij
    rcases Nat.lt_or_gt_of_ne hij with q | q
    · exact key i j q hj z
    · exact key j i q hi z.symm
  · rw [lu, lk] at hj
    show lessK _ _ = true
    rw [getD_app_lt _ _ _ (Nat.lt_trans hij hj), getD_app_lt _ _ _ hj]; exact pair_nth hp hij hj
  · rw [lu, lk] at hj
    show lessK _ _ = false
    rw [getD_app_lt _ _ _ (Nat.lt_trans hij hj), getD_app_lt _ _ _ hj]; exact lessK_asym (pair_nth hp hij hj)
  · rw [lu, lk] at hi
    show lessK ((ks ++ [k]).getD Us.length "") _ = _
    rw [lu, lk, getD_app, getD_app_lt _ _ _ hi]; exact posK_at hp hn i hi
  · rw [lu, lk]; exact posK_le _ _
  · rw [lu]; exact h1'
  · have hpu : posK ks k ≤ Us.length := by rw [lu, lk]; exact posK_le _ _
    rw [ord_vals Us U hpu]
    refine KasFin.intro F' N' (UpdF.head fun p hp z => absurd (lt p hp) (by rw [z]; exact Nat.lt_irrefl _)) fun h2 c F2 N2 => ?_
    have I2 := I.after K (t := s.toks) hmm F2 N2 fun _ hp => .tail _ hp
    refine ⟨_, I2.track (o := .list (us.take (posK ks k) ++ u :: us.drop (posK ks k))) of trivial ?_, q _ of.h⟩
    have ev : us.take (posK ks k) ++ u :: us.drop (posK ks k) = (Us.take (posK ks k) ++ U :: Us.drop (posK ks k)).toArray.toList.map er := by
      show _ = (Us.take (posK ks k) ++ U :: Us.drop (posK ks k)).map er
      rw [List.map_append, List.map_cons, List.map_take, List.map_drop, e1, e3]
    rw [ev]
    refine mt_list ⟨c, (N2 _ (.head _)).1⟩ ?_
    show (Us.take (posK ks k) ++ U :: Us.drop (posK ks k)).length ≤ 2 ^ 25
    rw [List.length_append, List.length_cons, List.length_take, List.length_drop, lu]
    have h2 : us.length < 63 := h63
    omega
end

/-! ## sorted() of one thing -/
section
variable {prog : Program} {w : World} {A : Around} {E : Value → Shared → Prop} {s : Shared}
theorem sort_one {a : Addr} {v : Value} {n : Nat} {P : PySem.Fin → Shared → Prop} (ho : s.heap.get? a = some (seqObj "list" #[v] n))
    (h : P (.done (.ret .none)) { s with heap := sortedHeap s.heap a [v] #[v] }) : wpAny (model prog w) A (Builtin.«list.sort» ⟨[.ref a], []⟩) P E s := by
  have ha : a < s.heap.objs.size := Heap.lt_size ho
  rw [list_sort_plain]
  refine wpAny_bind (listItems_at ho rfl (wpAny_bind (listUpdate_at ho rfl ?_)))
  obtain ⟨e1, ho1⟩ : ∃ e1, (s.heap.update a (Obj.mapSeq fun _ => #[])).get? a = some (seqObj "list" #[] e1) := ⟨_, get?_update_seq ho (fun _ => #[])⟩
  refine wpAny_bind (seqEpoch_at ho1 rfl (wpAny_bind (wpAny_newTuple (wpAny_bind (wpAny_newList (wpAny_holding ?_))))))
  have ho6 : (((s.heap.update a (Obj.mapSeq fun _ => #[])).push (seqObj "tuple" #[v] 0)).push (seqObj "list" #[] 0)).get? a = some (seqObj "list" #[] e1) := by
    rw [Heap.get?_push_ne _ _ _ (by rw [size_push', Heap.size_update]; exact Nat.ne_of_lt (Nat.lt_succ_of_lt ha)), Heap.get?_push_ne _ _ _ (by rw [Heap.size_update]; exact Nat.ne_of_lt ha)]
    exact ho1
  show wpAny (model prog w) A _ P E { s with heap := ((s.heap.update a (Obj.mapSeq fun _ => #[])).push (seqObj "tuple" #[v] 0)).push (seqObj "list" #[] 0) }
  dsimp only
  have h2 : #[v].size < 2 := Nat.lt_succ_self 1
  rw [if_pos h2, if_pos h2]
  refine wpAny_bind (wpAny_pure ?_)
  rw [StateT.run_pure]
  refine wpAny_bind (wpAny_pure ?_)
  dsimp only
  have hz : (arrOf (SortSt.mk' general' (#[v].zip #[v]) #[] 7 none)).map (·.2) = #[v] := by show ((#[v].zip #[v] : Array Keyed)).map (·.2) = #[v]; simp
  rw [hz]
  refine wpAny_bind (seqEpoch_at ho6 rfl (wpAny_bind (listUpdate_at ho6 rfl ?_ (hsz2 := by show 1 ≤ _; rw [sizeLine_eq]; omega))))
  simp only [bne_self_eq_false, Bool.false_eq_true, if_false]
  exact wpAny_pure h
theorem sorted_one {l : Addr} {v : Value} {Q : Value → Shared → Prop} (hl : s.heap.IsList l #[v]) (h : Q (.ref (s.heap.objs.size + 1)) { s with heap := sortedAll s.heap [v] #[v] }) :
    wpAny (model prog w) A (call (.builtin "sorted") [.ref l]) Q E s := by
  refine Calls.call_function_entry kind_sorted plain_sorted entry_sorted (args_sorted1 _) ?_
  unfold Builtin.«sorted»
  refine wpAny_bind (m := checkCount "sorted" 1 1 _) (wpAny_pure ?_)
  refine wpAny_bind (collect_list hl ?_)
  refine wpAny_bind (wpAny_newList ?_)
  have hsz : ((s.heap.push (seqObj "list" #[] 0)).update s.heap.objs.size (Obj.mapSeq (· ++ #[v]))).objs.size = s.heap.objs.size + 1 := by
    rw [Heap.size_update, size_push']
  have hoL : (((s.heap.push (seqObj "list" #[] 0)).update s.heap.objs.size (Obj.mapSeq (· ++ #[v]))).push (seqObj "list" #[v] 0)).get? (s.heap.objs.size + 1) = some (seqObj "list" #[v] 0) := by
    rw [← hsz]; exact Heap.get?_push_size _ rfl
  show wpAny _ _ _ _ _ { s with heap := ((s.heap.push (seqObj "list" #[] 0)).update s.heap.objs.size (Obj.mapSeq (· ++ #[v]))).push (seqObj "list" #[v] 0) }
  rw [hsz]
  refine wpAny_bind (wpAny_holding (wpAny_call_entry slot_list_sort ⟨_, hoL, rfl⟩ entry_list_sort (sort_one hoL ⟨_, rfl, ?_⟩) (args_list_sort _)))
  exact wpAny_pure ⟨_, rfl, h⟩
end
section
variable {P : Pm} {F : Fm} {l : Loc} {H : Hp} {s : Shared} {E : Value → Shared → Prop} {Q : QV}
theorem s_sortT1 (K : FmOk P F) (I : Inv P F l H s) {a : Addr} {u : Value} (hx : H a = some (.list [u])) (q : newV (.list [u]) H Q) : wpAny P.M F.A (call (.builtin "sorted") [.ref a]) (PostE P F l Q) E s := by
  obtain ⟨⟨Ws⟩, hl, e, _⟩ := I.objs _ _ hx
  obtain ⟨U, rfl, e3⟩ := one_er (Vs := Ws) e
  refine sorted_one hl ?_
  obtain ⟨c, hc⟩ := sortedAll_at s.heap [U] #[U]
  have nn : s.heap.get? (s.heap.objs.size + 1) = none := Heap.get?_none_of_le (Nat.le_succ _)
  have := s_list_new (Q := Q) K I (t := s.toks) (vs := #[U]) nn (Nat.le_succ_of_le (I.base_le K)) (fun _ _ => sortedAll_old) ⟨c, hc⟩ (by show 1 ≤ 2 ^ 25; decide) (by show newV (.list [er U]) H Q; rw [e3]; exact q)
  exact this
theorem s_sortT (Y : PmOk P) (K : FmOk P F) (I : Inv P F l H s) (hh : F.A.handled = none) {a : Addr} {xs : List Value} (hx : H a = some (.list xs)) (h : sortedTV xs H Q) : wpAny P.M F.A (call (.builtin "sorted") [.ref a]) (PostE P F l Q) E s := by
  rcases h with ⟨rfl, q⟩ | ⟨us, u, ks, k, rfl, h63, hu, hk, hp, hn, q⟩
  · refine s_sorted Y K I hh (V := .ref a) ?_
    show sortedV (.ref a) H Q
    unfold sortedV
    dsimp only
    rw [hx]
    refine ⟨[], rfl, by decide, fun ms hm _ => ?_⟩
    obtain rfl := List.perm_nil.1 hm
    exact q
  · cases us with
    | nil =>
      cases hu
      exact s_sortT1 K I hx q
    | cons v us => exact s_sortT2 K I hx h63 nofun hu hk hp hn q

/-! ## two dicts -/
/-! ## a dict that is only read from here on -/
end
end Mine
end

section
open PySem PyProof.Rows PySem.Calls
namespace Mine

/-! ## comprehensions -/
theorem closure_loop {env : Env} : ∀ (names : List (Str × NameKind)) (acc : List (Str × Addr)), (names.map (·.1)).Nodup → (acc.map (·.1)).Nodup → (∀ x ∈ names.map (·.1), x ∉ acc.map (·.1)) → (∀ y, (y, NameKind.free) ∈ names → ∃ c, env.cells.lookup y = some c) →
    ∃ cl, (forIn names acc (fun (x : Str × NameKind) (r : List (Str × Addr)) => match x with | (name, kind) => if (kind == .free) = true then do let c ← cellOf env name; pure (ForInStep.yield ((name, c) :: r)) else pure (ForInStep.yield r)) : Sem (List (Str × Addr))) = pure cl ∧
      (cl.map (·.1)).Nodup ∧ (∀ p ∈ acc, p ∈ cl) ∧ (∀ y c, (y, c) ∈ cl → (y, c) ∈ acc ∨ env.cells.lookup y = some c) ∧ ∀ y, (y, NameKind.free) ∈ names → ∃ c, (y, c) ∈ cl
  | [], acc, _, h, _, _ => ⟨acc, by rw [List.forIn_nil], h, fun _ hp => hp, fun _ _ hp => .inl hp, fun _ hy => by cases hy⟩
  | (y, kind) :: r, acc, hn, h, hd, hf => by
    rw [List.map_cons, List.nodup_cons] at hn
    by_cases hk : kind = .free
    · subst hk
      obtain ⟨c, hc⟩ := hf y (.head _)
      obtain ⟨cl, e, h1, h2, h3, h4⟩ := closure_loop (env := env) r ((y, c) :: acc) hn.2 (by rw [List.map_cons, List.nodup_cons]; exact ⟨hd y (by simp), h⟩) (fun x hx hm => by
        rw [List.map_cons, List.mem_cons] at hm
        rcases hm with rfl | hm
        · exact hn.1 hx
        · exact hd x (by rw [List.map_cons]; exact .tail _ hx) hm) (fun z hz => hf z (.tail _ hz))
      refine ⟨cl, ?_, h1, fun p hp => h2 p (.tail _ hp), fun z d hz => ?_, fun z hz => ?_⟩
      · rw [List.forIn_cons]
        have : cellOf env y = pure c := by unfold cellOf; rw [hc]
        simp only [beq_self_eq_true, if_true, this]
        exact e
      · rcases h3 z d hz with q | q
        · rcases List.mem_cons.mp q with q | q
          · cases q; exact .inr hc
          · exact .inl q
        · exact .inr q
      · rcases List.mem_cons.mp hz with q | q
        · cases q; exact ⟨c, h2 _ (.head _)⟩
        · exact h4 z q
    · obtain ⟨cl, e, h1, h2, h3, h4⟩ := closure_loop (env := env) r acc hn.2 h (fun x hx => hd x (by rw [List.map_cons]; exact .tail _ hx)) (fun z hz => hf z (.tail _ hz))
      refine ⟨cl, ?_, h1, h2, h3, fun z hz => ?_⟩
      · rw [List.forIn_cons]
        have : (kind == NameKind.free) = false := beq_eq_false_iff_ne.mpr hk
        simp only [this, Bool.false_eq_true, if_false]
        exact e
      · rcases List.mem_cons.mp hz with q | q
        · cases q; exact absurd rfl hk
        · exact h4 z q

theorem closure_ok {env : Env} {scope : Scope} (hn : (scope.names.map (·.1)).Nodup) (hf : ∀ y, (y, NameKind.free) ∈ scope.names → ∃ c, env.cells.lookup y = some c) :
    ∃ cl, closureFor scope env = pure cl ∧ (cl.map (·.1)).Nodup ∧ (∀ y c, (y, c) ∈ cl → env.cells.lookup y = some c) ∧ ∀ y, (y, NameKind.free) ∈ scope.names → ∃ c, (y, c) ∈ cl := by
  obtain ⟨cl, e, h1, h2, h3, h4⟩ := closure_loop (env := env) scope.names [] hn .nil (by simp) hf
  refine ⟨cl, ?_, h1, fun y c hy => (h3 y c hy).resolve_left (by simp), h4⟩
  simp only [closureFor]
  rw [show (forIn scope.names [] _ : Sem (List (Str × Addr))) = pure cl from e]
  rfl

theorem lookup_relabel {env : Env} {scope : Scope} (x : Str) : (relabel scope env).names.lookup x = (scope.names.lookup x).map fun k => if (k == NameKind.free && env.scope.kind == .function && env.kindOf x == some .cell) then NameKind.cell else k := by
  show (scope.names.map fun (n, k) => if (k == NameKind.free && env.scope.kind == .function && env.kindOf n == some .cell) then (n, NameKind.cell) else (n, k)).lookup x = _
  induction scope.names with
  | nil => rfl
  | cons p r ih =>
    obtain ⟨n, k⟩ := p
    rw [List.map_cons]
    by_cases hx : x = n
    · subst hx
      by_cases hc : (k == NameKind.free && env.scope.kind == .function && env.kindOf x == some .cell) = true
      · simp only [List.lookup_cons, beq_self_eq_true, Option.map_some, if_pos hc]
      · simp only [List.lookup_cons, beq_self_eq_true, Option.map_some, if_neg hc]
    · have : (x == n) = false := beq_eq_false_iff_ne.mpr hx
      simp only [List.lookup_cons, this]
      split <;> simp only [List.lookup_cons, this] <;> exact ih

/-- the frame of a comprehension -/
noncomputable def Fm.comp (F : Fm) (h : Heap) (env : Env) : Fm := { F.call h env with A := F.A, ro := true }

section
variable {P : Pm} {F : Fm} {G : Gx} {n : Nat} {hm : Bool} {l : Loc} {H : Hp} {s : Shared}

theorem comp_frame (K : FmOk P F) (I : Inv P F l H s) {env : Env} (hk : env.scope.kind = .function) (hg : env.globals = mainGlobals) (hb : env.builtins = builtinsNs) (hL : s.heap.objs.size ≤ env.locals)
    (nd : (env.cells.map (·.1)).Nodup) (cs : ∀ y c, (y, c) ∈ env.cells → F.env.cells.lookup y = some c) : FmOk P (F.comp s.heap env) := by
  have nn : ∀ b, s.heap.objs.size ≤ b → s.heap.get? b = none := fun b hb => Heap.get?_none_of_le hb
  have cm : ∀ y c, (y, c) ∈ env.cells → (y, c) ∈ F.env.cells := fun y c h => mem_of_lookup (cs y c h)
  have cx : ∀ y c, (y, c) ∈ env.cells → ∃ o, s.heap.get? c = some o := fun y c h => by
    obtain ⟨vo, ⟨o, ho, _⟩, _⟩ := I.cel y c (cs y c h); exact ⟨o, ho⟩
  refine ⟨hk, hg, hb, fun b o e => ?_, ?_, ?_, ?_, fun y c h => ?_, fun q => (nomatch q), ?_, fun y c h => lookup_of_mem nd h, fun y c h => ?_, fun b d e => ?_, ?_, call_xg K I env⟩
  · show (if isCell F b then s.heap.get? b else F.g b) = some o
    split
    · exact I.keep b o (K.base b o e)
    · exact K.base b o e
  · exact Nat.le_trans (I.base_le K) hL
  · show (if isCell F env.locals then s.heap.get? env.locals else F.g env.locals) = none
    split
    · exact nn _ hL
    · exact (I.off K (nn _ hL)).g
  · show (if env.locals = F.env.locals then (s.heap.get? env.locals).map (·.data) else F.fr env.locals) = none
    rw [if_neg (I.off K (nn _ hL)).l]
    exact (I.off K (nn _ hL)).fr
  · obtain ⟨o, ho⟩ := cx y c h
    exact Nat.ne_of_lt (Nat.lt_of_lt_of_le (Heap.lt_size ho) hL)
  · refine List.Pairwise.imp_of_mem ?_ (List.pairwise_map.mp nd)
    rintro ⟨y, c⟩ ⟨z, d⟩ h1 h2 hne e
    have e : c = d := e
    subst e
    exact hne (name_of_addr K.apart (cm y c h1) (cm z c h2))
  · show (if c = F.env.locals then (s.heap.get? c).map (·.data) else F.fr c) = none
    rw [if_neg (K.cl y c (cm y c h))]; exact K.cf y c (cm y c h)
  · have e : (if b = F.env.locals then (s.heap.get? b).map (·.data) else F.fr b) = some d := e
    show (if isCell F b then s.heap.get? b else F.g b) = none ∧ _
    by_cases q : b = F.env.locals
    · rw [if_pos q] at e
      subst q
      constructor
      · split
        · rename_i hc
          obtain ⟨x, hm⟩ := mem_isCell hc
          exact absurd rfl (K.cl x _ hm)
        · exact K.lg
      · obtain ⟨m, ⟨o, es, ep, ho, hd, _⟩, _⟩ := I.loc
        rw [ho] at e
        cases e
        intro vs q
        have q : o.data = .fields vs := q
        rw [hd] at q; cases q
    · rw [if_neg q] at e
      obtain ⟨h1, h2⟩ := K.fg b d e
      refine ⟨?_, h2⟩
      split
      · rename_i hc
        obtain ⟨x, hm⟩ := mem_isCell hc
        rw [K.cf x b hm] at e; cases e
      · exact h1
  · obtain ⟨fenv, outer, h1, h2, h3⟩ := K.frames
    refine ⟨fenv, outer, h1, fun q => (nomatch q), fun e he => ?_⟩
    obtain ⟨k1, b, k2, k3⟩ := h3 e he
    refine ⟨k1, b, k2, .inr ?_⟩
    show ((if b = F.env.locals then (s.heap.get? b).map (·.data) else F.fr b)).isSome = true
    obtain ⟨m, ⟨o, es, ep, ho, hd, _⟩, _⟩ := I.loc
    rcases k3 with rfl | k3
    · rw [if_pos rfl, ho]; rfl
    · split
      · rename_i q; rw [q, ho]; rfl
      · exact k3

theorem Inv.compUp (K : FmOk P F) (I : Inv P F l H s) {env : Env} {l' : Loc} {H' : Hp} {s' : Shared} (I' : Inv P (F.comp s.heap env) l' H' s') : Inv P F l H' s' :=
  Inv.up K I (env := env) ⟨I'.gens, I'.os, I'.keep, I'.frk, I'.loc, I'.cel, I'.objs, I'.free, I'.big⟩
theorem Off.compUp (K : FmOk P F) (I : Inv P F l H s) {env : Env} {H' : Hp} {a : Addr} (x : Off (F.comp s.heap env) H' a) : Off F H' a :=
  Off.up K I (env := env) ⟨x.h, x.g, x.fr, x.l, x.c⟩

/-- the tests -/
inductive STall (P : Pm) (G : Gx) (n : Nat) (hm : Bool) (sc : Scope) : List Expr → List Ex → Prop where
  | nil : STall P G n hm sc [] []
  | cons {e : Expr} {e' : Ex} {r : List Expr} {r' : List Ex} : ST P G n hm sc e e' → STall P G n hm sc r r' → STall P G n hm sc (e :: r) (e' :: r')

theorem tests_false {env : Env} : ∀ (r : List Expr), (forIn r false (fun (c : Expr) (r : Bool) => if r = true then do let ok ← PySem.isTrue c env (eval c env); pure (ForInStep.yield ok) else pure (ForInStep.yield r)) : Sem Bool) = pure false
  | [] => by rw [List.forIn_nil]
  | c :: r => by
    rw [List.forIn_cons]
    show (forIn r false _ : Sem Bool) = _
    exact tests_false r

theorem s_tests {sc : Scope} {es : List Expr} {es' : List Ex} (h : STall P G n hm sc es es') (K : FmOk P F) (S : ScOk sc F) (R : Room n F.A) (HM : HmOk hm F) {X : XV} {k : Bool → Hp → Prop} : ∀ {H : Hp} {s : Shared}, Inv P F l H s → wpB G hm true es' l H (fun v H' => truthV v fun b => k b H') X →
    wpAny P.M F.A (forIn es true (fun (c : Expr) (r : Bool) => if r = true then do let ok ← PySem.isTrue c F.env (eval c F.env); pure (ForInStep.yield ok) else pure (ForInStep.yield r))) (fun b s' => ∃ H', Inv P F l H' s' ∧ k b H') (PostX P F l X) s := by
  induction h with
  | nil =>
    intro H s I q
    simp only [wpB, truthV] at q
    rw [List.forIn_nil]
    exact wpAny_pure ⟨H, I, q⟩
  | @cons e e' r r' he hr ih =>
    intro H s I q
    rw [wpB] at q
    rw [List.forIn_cons]
    simp only [if_true]
    refine wpAny_bind (wpAny_bind (wpAny_mono (he K S R HM I q) (fun b s1 z => wpAny_pure ?_) fun _ _ z => z))
    obtain ⟨H1, I1, z⟩ := z
    cases b with
    | true =>
      simp only [if_true] at z
      cases hr with
      | nil =>
        dsimp only
        rw [List.forIn_nil]
        exact wpAny_pure ⟨H1, I1, z⟩
      | cons a b => exact ih I1 z
    | false =>
      simp only [Bool.false_eq_true, if_false, truthV] at z
      dsimp only
      rw [tests_false]
      exact wpAny_pure ⟨H1, I1, z⟩

/-- what a comprehension sees of the names -/
theorem comp_names {sc scope : Scope} {x : Str} (S : ScOk sc F) (hk : F.env.scope.kind = .function) (hf : compFine sc scope x = true) :
    scope.kind = .function ∧ (scope.names.map (·.1)).Nodup ∧ (∀ y ∈ scope.names, y.2 ≠ .cell) ∧ (∀ y, scope.names.lookup y = some .local → y = x ∨ y = (".0" : Str)) ∧
      (∀ y, (y, NameKind.free) ∈ scope.names → F.env.kindOf y = some .cell ∧ ∃ c, F.env.cells.lookup y = some c) ∧ scope.names.lookup x = some .local := by
  unfold compFine at hf
  simp only [Bool.and_eq_true, beq_iff_eq, decide_eq_true_eq, List.all_eq_true, Bool.or_eq_true, bne_iff_ne, ne_eq] at hf
  obtain ⟨⟨⟨h1, h2⟩, h3⟩, h4⟩ := hf
  refine ⟨h1, h2, fun y hy => (h3 y hy).1.1, fun y hy => ?_, fun y hy => ?_, h4⟩
  · have := (h3 _ (mem_of_lookup hy)).1.2
    rcases this with (q | q) | q
    · exact absurd rfl q
    · exact .inl q
    · exact .inr q
  · have := (h3 _ hy).2
    rcases this with q | q
    · exact absurd rfl q
    · exact S.cell y q

theorem comp_sc {sc scope : Scope} {x : Str} (S : ScOk sc F) (hk : F.env.scope.kind = .function) (hf : compFine sc scope x = true) {cl : List (Str × Addr)} (nd : (cl.map (·.1)).Nodup) (hcl : ∀ y, (y, NameKind.free) ∈ scope.names → ∃ c, (y, c) ∈ cl) {h : Heap} {C : Addr} :
    ScOk scope (F.comp h (compEnvC scope cl C F.env)) := by
  obtain ⟨n1, n2, n3, n4, n5, n6⟩ := comp_names S hk hf
  have kd : ∀ y k, scope.names.lookup y = some k → (compEnvC scope cl C F.env).kindOf y = some (if (k == NameKind.free && F.env.scope.kind == .function && F.env.kindOf y == some .cell) then NameKind.cell else k) := fun y k hy => by
    show (relabel scope F.env).names.lookup y = _
    rw [lookup_relabel, hy]; rfl
  refine ⟨fun y hy => ?_, fun y hy => ?_, fun y hy => ?_, fun y hy => ?_⟩
  · unfold isLoc at hy
    split at hy
    · rename_i e; exact .inl (kd y _ e)
    · rename_i e; exact absurd rfl (n3 _ (mem_of_lookup e))
    · rename_i e
      obtain ⟨q, _⟩ := n5 y (mem_of_lookup e)
      obtain ⟨c, hc⟩ := hcl y (mem_of_lookup e)
      refine .inr ⟨.inl ?_, c, lookup_of_mem nd hc⟩
      have := kd y _ e
      rw [hk, q] at this
      exact this
    · split at hy <;> cases hy
    · cases hy
  · unfold isLoc at hy
    split at hy
    · split at hy <;> cases hy
    · split at hy <;> cases hy
    · split at hy <;> cases hy
    · rename_i e; exact kd y _ e
    · cases hy
  · exact kd y _ hy
  · exact absurd rfl (n3 _ (mem_of_lookup hy))

theorem Inv.weak {l' : Loc} (I : Inv P F l H s) (h : ∀ y v, l' y = some v → l y = some v) : Inv P F l' H s :=
  ⟨I.gens, I.os, I.keep, I.frk, let ⟨m, hn, q⟩ := I.loc; ⟨m, hn, fun y v hy hk => q y v (h y v hy) hk⟩, fun y c e => let ⟨vo, hc, q⟩ := I.cel y c e; ⟨vo, hc, fun v hy hk => q v (h y v hy) hk⟩, I.objs, I.free, I.big⟩

theorem st_local (K : FmOk P F) (I : Inv P F l H s) {x : Str} {V : Value} {E : Value → Shared → Prop} {Q : Unit → Shared → Prop} (hl : F.env.kindOf x = some .local)
    (h : ∀ s', Inv P F (l.upd x (er V)) H s' → Q () s') : wpAny P.M F.A (storeName F.env x V) Q E s := by
  obtain ⟨m, hn, q⟩ := I.loc
  refine wpAny_storeName_local hl hn (fun h' hn' hs => h _ (I.stepL (t := s.toks + 1) (fun b o e hb _ => hs.extBut b o hb e) hn' K (fun y v hy hky => ?_) fun y v hy hky => ?_)) (by rw [K.kind]; rfl)
  · by_cases e : y = x
    · subst e; simp [Loc.upd] at hy; subst hy; exact ⟨V, by simp, rfl⟩
    · simp [Loc.upd, e] at hy; simp [e]; exact q y v hy hky
  · by_cases e : y = x
    · subst e; rw [hl] at hky; simp at hky
    · simpa [Loc.upd, e] using hy

theorem append_at {A : Around} {E : Value → Shared → Prop} {D : Addr} {vs : Array Value} {V : Value} {Q : Value → Shared → Prop} (e : IsL s.heap D vs) (hz : vs.size ≤ sizeLine) (h : Q .none { s with heap := s.heap.update D (Obj.mapSeq (·.push V)) }) :
    wpAny P.M A (call (.builtin "list.append") [.ref D, V]) Q E s := by
  obtain ⟨n, e0⟩ := id e
  refine wpAny_call_entry slot_list_append e.isList.typeIs entry_list_append ?_ (args_list_append _ _)
  show wpAny _ _ (updateSeq D (·.push V) >>= fun _ => ret .none) _ _ s
  exact wpAny_bind (wpAny_updateSeq e0 rfl (wpAny_pure ⟨.none, rfl, h⟩) hz)

/-- the comprehension's frame at its start -/
theorem comp_inv {sc scope : Scope} {x : Str} (K : FmOk P F) (S : ScOk sc F) (hf : compFine sc scope x = true) (I : Inv P F l H s) {cl : List (Str × Addr)} (c1 : ∀ y c, (y, c) ∈ cl → F.env.cells.lookup y = some c) {C : Addr} {h₁ : Heap} {t : Nat} (hC : s.heap.objs.size ≤ C)
    (k : ∀ b o, s.heap.get? b = some o → h₁.get? b = some o) {m : Str → Option Value} (hn : h₁.Ns C m) : Inv P (F.comp s.heap (compEnvC scope cl C F.env)) ((l.del (".0" : Str)).del x) H { s with heap := h₁, toks := t } := by
  obtain ⟨n1, n2, n3, n4, n5, n6⟩ := comp_names S K.kind hf
  have lt : ∀ a o, H a = some o → a < C := fun a o e => Nat.lt_of_lt_of_le (I.lt_of e) hC
  refine ⟨I.gens, I.os, fun b o e => ?_, fun b d e => ?_, ⟨m, hn, fun y v hy hk => ?_⟩, fun y c e => ?_, fun a o e => ?_, fun a o e => ?_, I.big⟩
  · have e : (if isCell F b then s.heap.get? b else F.g b) = some o := e
    split at e
    · exact k b o e
    · exact k b o (I.keep b o e)
  · have e : (if b = F.env.locals then (s.heap.get? b).map (·.data) else F.fr b) = some d := e
    split at e
    · obtain ⟨o, ho, hd⟩ := Option.map_eq_some_iff.mp e
      exact ⟨o, k b o ho, hd⟩
    · obtain ⟨o, ho, hd⟩ := I.frk b d e
      exact ⟨o, k b o ho, hd⟩
  · exfalso
    have hk : (relabel scope F.env).names.lookup y = some .local := hk
    rw [lookup_relabel] at hk
    obtain ⟨kk, e1, e2⟩ := Option.map_eq_some_iff.mp hk
    have : kk = .local := by
      split at e2
      · cases e2
      · exact e2
    subst this
    rcases n4 y e1 with rfl | rfl
    · simp [Loc.del] at hy
    · simp only [Loc.del] at hy
      split at hy
      · cases hy
      · simp at hy
  · have hc := c1 y c (mem_of_lookup e)
    obtain ⟨vo, ⟨o, ho, hd⟩, q⟩ := I.cel y c hc
    refine ⟨vo, ⟨o, k c o ho, hd⟩, fun v hy hk => q v ?_ ?_⟩
    · simp only [Loc.del] at hy
      split at hy
      · cases hy
      · split at hy
        · cases hy
        · exact hy
    · have hk : (relabel scope F.env).names.lookup y = some .cell ∨ (relabel scope F.env).names.lookup y = some .free := hk
      rw [lookup_relabel] at hk
      have hfr : (y, NameKind.free) ∈ scope.names := by
        rcases hk with hk | hk
        · obtain ⟨kk, e1, e2⟩ := Option.map_eq_some_iff.mp hk
          split at e2
          · rename_i hc
            simp only [Bool.and_eq_true, beq_iff_eq] at hc
            have := hc.1.1
            subst this
            exact mem_of_lookup e1
          · subst e2; exact absurd rfl (n3 _ (mem_of_lookup e1))
        · obtain ⟨kk, e1, e2⟩ := Option.map_eq_some_iff.mp hk
          split at e2
          · cases e2
          · subst e2; exact mem_of_lookup e1
      exact .inl (n5 y hfr).1
  · obtain ⟨O, ho⟩ := (I.objs a o e).some
    exact (I.objs a o e).congr ((k a O ho).trans ho.symm)
  · cases hr : o.isR with
    | true => exact fre_r (F := F) (F' := F.comp s.heap (compEnvC scope cl C F.env)) hr rfl (I.free a o e)
    | false =>
    obtain ⟨h1, h2, h3, h4⟩ := of_fre (I.free a o e) hr
    refine fre_of hr ⟨?_, ?_, Nat.ne_of_lt (lt a o e), fun y c hm => ?_⟩
    · show (if isCell F a then s.heap.get? a else F.g a) = none
      rw [if_neg (fun q => by obtain ⟨y, hm⟩ := mem_isCell q; exact h4 y a hm rfl)]; exact h1
    · show (if a = F.env.locals then (s.heap.get? a).map (·.data) else F.fr a) = none
      rw [if_neg h3]; exact h2
    · exact h4 y c (mem_of_lookup (c1 y c hm))

/-- the turn's frame: the iterator and the list stay -/
theorem s_comp_core {sc scope : Scope} {x : Str} {px pos : Pos} {elt it : Expr} {ifs : List Expr} {elt' it' : Ex} {ifs' : List Ex} (hf : compFine sc scope x = true) (hset : notSet it = true) (hi : SE P G n hm sc it it') (he : SE P G n hm scope elt elt') (ht : STall P G n hm scope ifs ifs')
    (K : FmOk P F) (S : ScOk sc F) (R : Room n F.A) (HM : HmOk hm F) (I : Inv P F l H s) {Q : QV} {X : XV} (q : wpE G hm (.comp elt' x it' ifs') l H Q X)
    {cp : Pos} {use : Option (Value → Sem Unit)} {Q' E' : Value → Shared → Prop} (hE : ∀ V s', PostX P F l X V s' → E' V s')
    (fin : ∀ {Hc : Hp} {s' : Shared} {us : Array Value} {D C : Addr} {m : Str → Option Value} {r : Flow}, Inv P F l Hc s' → Off F Hc D → Off F Hc C → D ≠ C → s'.heap.Ns C m → IsL s'.heap D us → us.size ≤ sizeLine → Q (.ref D) (Hc.upd D (.list (us.toList.map er))) → compPost P.M F.A E' use Q' (.ref D) C (.ok r) s') :
    wpAny P.M F.A (comprehension (.ListComp elt [⟨.Name x px, it, ifs, 0⟩] scope pos) scope F.env cp (newList []) false (eval it F.env) use) Q' E' s := by
  obtain ⟨n1, n2, n3, n4, n5, n6⟩ := comp_names S K.kind hf
  obtain ⟨cl, hcl, nd, c1, c2⟩ := closure_ok (env := F.env) n2 fun y hy => (n5 y hy).2
  conv at q => whnf
  refine wpAny_comprehension_free (use := use) rfl (fun _ => folded_no hset) hcl n1 (fun y hy hl => ?_) (wpAny_mono (hi K S R HM I q) (fun V s1 q => ?_) hE)
  · obtain ⟨y, k⟩ := y
    have hl : k = .local := hl
    subst hl
    exact lookup_of_mem n2 hy
  obtain ⟨H1, I1, q⟩ := q
  refine wpAny_mono (s_iter K HM I1 q) (fun itv s2 q => ?_) fun _ _ z => z
  obtain ⟨guard, items, J, St, ⟨hz, q⟩, rfl, I2, of, bz, st, T⟩ := q
  have T := T F.A rfl
  refine wpAny_newObj_type (wpAny_newFunctionEnv n3 (by intro y hy; simp at hy) (fun h₁ hns hsb => ?_) n1)
  dsimp only at hns hsb ⊢
  generalize hH2 : s2.heap.push { cls := .type "list", dict := none, data := .seq ([] : List Value).toArray } = hp2 at hns hsb ⊢
  have hC : hp2.objs.size = s2.heap.objs.size + 1 := by rw [← hH2, Heap.size_push]
  have hDC : s2.heap.objs.size ≠ hp2.objs.size := by rw [hC]; exact Nat.ne_of_lt (Nat.lt_succ_self _)
  have k1 : ∀ b o, s2.heap.get? b = some o → h₁.get? b = some o := fun b o e =>
    hsb.extBut b o (by rw [hC]; exact Nat.ne_of_lt (Nat.lt_succ_of_lt (Heap.lt_size e))) (Heap.get?_push_of_some _ (hH2 ▸ Heap.get?_push_of_some _ e))
  have hD1 : IsL h₁ s2.heap.objs.size #[] := ⟨0, hsb.extBut _ _ hDC (Heap.get?_push_of_some _ (hH2 ▸ Heap.get?_push_size _ rfl))⟩
  have I3 := comp_inv (t := s2.toks + ([] : List (Str × Value)).length) K S hf I2 c1 (C := hp2.objs.size) (by rw [hC]; exact Nat.le_succ _) k1 hns
  have KC : FmOk P (F.comp s2.heap (compEnvC scope cl hp2.objs.size F.env)) := comp_frame K I2 (env := compEnvC scope cl hp2.objs.size F.env) n1 K.glob K.blt (by show s2.heap.objs.size ≤ hp2.objs.size; rw [hC]; exact Nat.le_succ _) nd c1
  have SC : ScOk scope (F.comp s2.heap (compEnvC scope cl hp2.objs.size F.env)) := comp_sc S K.kind hf nd c2
  have kx : (compEnvC scope cl hp2.objs.size F.env).kindOf x = some .local := SC.locl x n6
  have oJ : Off (F.comp s2.heap (compEnvC scope cl hp2.objs.size F.env)) H1 J := by
    have hJ : J < s2.heap.objs.size := by obtain ⟨o, ho⟩ := T.at_ _ _ st; exact Heap.lt_size ho
    refine ⟨of.h, ?_, ?_, ?_, fun y c hm => of.c y c (mem_of_lookup (c1 y c hm))⟩
    · show (if isCell F J then s2.heap.get? J else F.g J) = none
      rw [if_neg (fun q => by obtain ⟨y, hm⟩ := mem_isCell q; exact of.c y J hm rfl)]; exact of.g
    · show (if J = F.env.locals then (s2.heap.get? J).map (·.data) else F.fr J) = none
      rw [if_neg of.l]; exact of.fr
    · show J ≠ hp2.objs.size
      rw [hC]; exact Nat.ne_of_lt (Nat.lt_succ_of_lt hJ)
  have ofD := I2.ofSize K
  have oD : Off (F.comp s2.heap (compEnvC scope cl hp2.objs.size F.env)) H1 s2.heap.objs.size := by
    refine ⟨ofD.h, ?_, ?_, hDC, fun y c hm => ofD.c y c (mem_of_lookup (c1 y c hm))⟩
    · show (if isCell F s2.heap.objs.size then s2.heap.get? s2.heap.objs.size else F.g s2.heap.objs.size) = none
      rw [if_neg (fun q => by obtain ⟨y, hm⟩ := mem_isCell q; exact ofD.c y _ hm rfl)]; exact ofD.g
    · show (if s2.heap.objs.size = F.env.locals then (s2.heap.get? s2.heap.objs.size).map (·.data) else F.fr s2.heap.objs.size) = none
      rw [if_neg ofD.l]; exact ofD.fr
  have hJD : J ≠ s2.heap.objs.size := by obtain ⟨o, ho⟩ := T.at_ _ _ st; exact Nat.ne_of_lt (Heap.lt_size ho)
  have HC : HdK (F.comp s2.heap (compEnvC scope cl hp2.objs.size F.env)) := HM.1.call I2 (compEnvC scope cl hp2.objs.size F.env)
  generalize hFc : F.comp s2.heap (compEnvC scope cl hp2.objs.size F.env) = Fc at *
  have eA : Fc.A = F.A := by rw [← hFc]; rfl
  have eE : Fc.env = compEnvC scope cl hp2.objs.size F.env := by rw [← hFc]; rfl
  generalize hstep : (fun v H2 k => wpB G hm true ifs' ((l.del (".0" : Str)).upd x v) H2 (fun c H3 => truthV c fun r =>
        if r then wpE G hm elt' ((l.del (".0" : Str)).upd x v) H3 (fun u H4 => k (some u) H4) (fun _ _ => False) else k none H3) (fun _ _ => False) : Value → Hp → (Option Value → Hp → Prop) → Prop) = step at q
  have loop : ∀ s3 : Shared, s3 = { s2 with heap := h₁, toks := s2.toks + ([] : List (Str × Value)).length } →
      codeAny P.M F.A (.compLoop (.ListComp elt [⟨.Name x px, it, ifs, 0⟩] scope pos) 0 (.ref J) (.ref s2.heap.objs.size) (compEnvC scope cl hp2.objs.size F.env))
        (compPost P.M F.A E' use Q' (.ref s2.heap.objs.size) hp2.objs.size) s3 := by
    rintro s3 rfl
    refine codeAny_compLoop_tests (fun k s => ∃ i Hc us, Inv P Fc ((l.del (".0" : Str)).del x) Hc s ∧ Off Fc Hc J ∧ Off Fc Hc s2.heap.objs.size ∧ St i s.heap ∧ IsL s.heap s2.heap.objs.size us ∧ us.size ≤ i ∧ i ≤ items.length ∧ k = items.length - i + 1 ∧
      compG guard step (items.drop i) (us.toList.map er) Hc fun us H' => newV (.list us) H' Q) ?_ (items.length + 1) ⟨0, H1, #[], I3, oJ, oD, T.frame _ _ _ st fun o e => k1 _ _ e, hD1, Nat.le_refl _, Nat.zero_le _, rfl, q⟩
    rintro k s ⟨i, Hc, us, I, ofJ, ofD, st, eD, hus, hle, hk, q⟩
    rcases Nat.lt_or_ge i items.length with hi | hi
    · obtain ⟨v, hv⟩ : ∃ v, items[i]? = some v := ⟨_, List.getElem?_eq_getElem hi⟩
      have hd : items.drop i = v :: items.drop (i + 1) := by
        rw [List.drop_eq_getElem_cons hi]
        have := List.getElem?_eq_getElem hi
        rw [hv] at this; cases this; rfl
      rw [hd] at q
      unfold compG at q
      obtain ⟨g, q⟩ := q
      refine T.item i s _ _ Hc I.objs ofJ.h g st v hv fun V h' tk hV st' k' => ?_
      have I' := I.turn (t := tk) KC ofJ k'
      obtain ⟨oj, hoj⟩ := T.at_ _ _ st'
      obtain ⟨nD, hoD⟩ := eD
      have hoD' := k' _ _ hJD.symm hoD
      dsimp only
      have ofD1 : Off (Fc.also J oj) Hc s2.heap.objs.size := ⟨ofD.h, by show (if s2.heap.objs.size = J then some oj else Fc.g s2.heap.objs.size) = none; rw [if_neg hJD.symm]; exact ofD.g, ofD.fr, ofD.l, ofD.c⟩
      have K1 := KC.also (o := oj) ofJ
      have K2 := K1.also (o := { cls := .type "list", dict := none, data := .seq us nD, slots := #[] }) ofD1
      have I2' := (I'.also ofJ hoj).also ofD1 hoD'
      generalize hF2 : (Fc.also J oj).also s2.heap.objs.size { cls := .type "list", dict := none, data := .seq us nD, slots := #[] } = F2 at K2 I2'
      have eA2 : F2.A = F.A := by rw [← hF2]; exact eA
      have eE2 : F2.env = compEnvC scope cl hp2.objs.size F.env := by rw [← hF2]; exact eE
      have HM2 : HmOk hm F2 := ⟨by rw [← hF2]; exact (HC.also ofJ.g).also ofD1.g, fun z => by rw [eA2]; exact HM.2 z⟩
      have S2 : ScOk scope F2 := by rw [← hF2]; exact ⟨SC.loc, SC.glob, SC.locl, SC.cell⟩
      rw [← eE2, ← eA2]
      refine wpAny_assign_Name (st_local K2 I2' (S2.locl x n6) fun s4 I4 => ?_)
      rw [hV] at I4
      have eL : (((l.del (".0" : Str)).del x).upd x v) = ((l.del (".0" : Str)).upd x v) := by
        funext y
        by_cases q : y = x <;> simp [Loc.upd, Loc.del, q]
      rw [eL] at I4
      subst hstep
      -- what a turn leaves
      have back : ∀ {H5 : Hp} {s5 : Shared}, Inv P F2 ((l.del (".0" : Str)).upd x v) H5 s5 → Inv P Fc ((l.del (".0" : Str)).del x) H5 s5 ∧ Off Fc H5 J ∧ Off Fc H5 s2.heap.objs.size ∧ St (i + 1) s5.heap ∧ IsL s5.heap s2.heap.objs.size us := by
        intro H5 s5 I5
        rw [← hF2] at I5
        obtain ⟨I6, e6, o6⟩ := I5.back K1 ofD1
        obtain ⟨I7, e7, o7⟩ := I6.back KC ofJ
        refine ⟨I7.weak fun y v' hy => ?_, o7, ⟨o6.h, ofD.g, o6.fr, o6.l, o6.c⟩, T.frame _ _ _ st' fun o' e => by rw [hoj] at e; cases e; exact e7, nD, e6⟩
        simp only [Loc.del] at hy
        split at hy
        · cases hy
        · rename_i hne
          simp only [Loc.upd, if_neg hne, Loc.del]
          exact hy
      refine wpAny_mono (s_tests ht K2 S2 (by rw [eA2]; exact R) HM2 I4 q) (fun b s5 z => ?_) fun _ _ z => ?_
      · obtain ⟨H5, I5, z⟩ := z
        cases b with
        | false =>
          simp only [Bool.false_eq_true, if_false] at z ⊢
          obtain ⟨b1, b2, b3, b4, b5⟩ := back I5
          exact ⟨items.length - (i + 1) + 1, by omega, i + 1, H5, us, b1, b2, b3, b4, b5, by omega, hi, rfl, z⟩
        | true =>
          simp only [if_true] at z ⊢
          refine wpAny_mono (he K2 S2 (by rw [eA2]; exact R) HM2 I5 z) (fun V6 s6 z => ?_) fun _ _ z => ?_
          · obtain ⟨H6, I6, z⟩ := z
            obtain ⟨b1, b2, b3, b4, b5⟩ := back I6
            refine append_at b5 (by omega) ?_
            have kD : ∀ b o, b ≠ s2.heap.objs.size → s6.heap.get? b = some o → (s6.heap.update s2.heap.objs.size (Obj.mapSeq (·.push V6))).get? b = some o := fun b o hb e => by rw [Heap.get?_update_other _ _ (Ne.symm hb)]; exact e
            refine ⟨items.length - (i + 1) + 1, by omega, i + 1, H6, us.push V6, b1.turn (t := s6.toks) KC b3 kD, b2, b3, T.frame _ _ _ b4 fun o e => kD _ _ hJD e, b5.update _, by simp; omega, hi, rfl, ?_⟩
            simpa using z
          · obtain ⟨_, _, _, _, _, _, z⟩ := z
            exact z.elim
      · obtain ⟨_, _, _, _, _, _, z⟩ := z
        exact z.elim
    · have : i = items.length := Nat.le_antisymm hle hi
      subst this
      rw [List.drop_length] at q
      unfold compG at q
      refine T.done s _ _ Hc I.objs ofJ.h q.1 st (eA ▸ HC.at_ I ofJ.g) fun h' tk k' => ?_
      have I' := I.turn (t := tk) KC ofJ k'
      have eD' : IsL h' s2.heap.objs.size us := let ⟨nD, e⟩ := eD; ⟨nD, k' _ _ hJD.symm e⟩
      obtain ⟨m, hnC, _⟩ := I'.loc
      rw [eE] at hnC
      have nC : Hc hp2.objs.size = none := by
        cases e : Hc hp2.objs.size with
        | none => rfl
        | some o =>
          have := I'.neL KC e
          rw [eE] at this
          exact absurd rfl this
      rw [← hFc] at I' ofD
      have IF := Inv.compUp K I2 I'
      have ofDF := Off.compUp K I2 ofD
      have ofC0 := I2.off K (a := hp2.objs.size) (Heap.get?_none_of_le (by rw [hC]; exact Nat.le_succ _))
      exact fin IF ofDF ⟨nC, ofC0.g, ofC0.fr, ofC0.l, ofC0.c⟩ hDC hnC eD' (Nat.le_trans hus hz) (q.2 _ ofDF.h)
  exact codeAny_compStart_list (loop _ rfl) (T.self 0 _ _ _ (T.frame _ _ _ st fun o e => k1 _ _ e) (loop _ rfl))

theorem s_comp {sc scope : Scope} {x : Str} {px pos : Pos} {elt it : Expr} {ifs : List Expr} {elt' it' : Ex} {ifs' : List Ex} (hf : compFine sc scope x = true) (hset : notSet it = true) (hi : SE P G n hm sc it it') (he : SE P G n hm scope elt elt') (ht : STall P G n hm scope ifs ifs')
    (K : FmOk P F) (S : ScOk sc F) (R : Room n F.A) (HM : HmOk hm F) (I : Inv P F l H s) {Q : QV} {X : XV} (q : wpE G hm (.comp elt' x it' ifs') l H Q X) :
    wpAny P.M F.A (eval (.ListComp elt [⟨.Name x px, it, ifs, 0⟩] scope pos) F.env) (PostE P F l Q) (PostX P F l X) s := by
  rw [eval_ListComp]
  refine s_comp_core hf hset hi he ht K S R HM I q (use := none) (fun _ _ z => z) fun {Hc s' us D C m r} IF oD oC hDC hn eD hz q => ⟨m, hn, fun h'' sb => ?_⟩
  have IG := IF.turn (t := s'.toks) (h' := h'') K oC fun b o hb e => sb.extBut b o hb e
  exact ⟨_, IG.track (o := .list (us.toList.map er)) oD trivial (mt_list (let ⟨nD, e⟩ := eD; ⟨nD, sb.extBut _ _ hDC e⟩) (szl hz)), q⟩

/-- a comprehension that is stored in a plain local on its own line -/
noncomputable def swapFine (sc scope : Scope) (y : Str) : Bool := sc.names.lookup y == some .local && !(scope.names.any fun z => z.1 == y && (z.2 == .local || z.2 == .cell))
theorem s1_asgComp_ok {sc scope : Scope} {x y : Str} {px py pos spos : Pos} {elt it : Expr} {ifs : List Expr} {elt' it' : Ex} {ifs' : List Ex} (hs : (swapFine sc scope y && py.line == pos.line) = true) (hf : compFine sc scope x = true) (hset : notSet it = true) (hi : SE P G n hm sc it it') (he : SE P G n hm scope elt elt') (ht : STall P G n hm scope ifs ifs')
    (K : FmOk P F) (S : ScOk sc F) (R : Room n F.A) (HM : HmOk hm F) (ro : F.ro = false) (I : Inv P F l H s) {Q : QS} {X : XS} (q : wpS G hm (.asg y (.comp elt' x it' ifs')) l H Q X) :
    wpAny P.M F.A (exec (.Assign [.Name y py] (.ListComp elt [⟨.Name x px, it, ifs, 0⟩] scope pos) spos) F.env) (PostS P F Q) (PostSX P F X) s := by
  simp only [swapFine, Bool.and_eq_true, beq_iff_eq, Bool.not_eq_true'] at hs
  obtain ⟨⟨h1, h2⟩, h3⟩ := hs
  have ky : F.env.kindOf y = some .local := S.locl y h1
  have hsw : swapsWith (.ListComp elt [⟨.Name x px, it, ifs, 0⟩] scope pos) (some (.Name y py)) spos.line F.env = pure true := by
    have : (F.env.blockKind == .function && F.env.kindOf y == some .local && py.line == pos.line && !(scope.names.any fun (n, k) => n == y && (k == .local || k == .cell))) = true := by
      rw [ky]
      have e : F.env.blockKind = .function := by unfold Env.blockKind; rw [K.kind]; rfl
      rw [e, h3]
      have e2 : (scope.names.any fun (n, k) => n == y && (k == .local || k == .cell)) = false := h2
      rw [e2]; simp
    show (pure (F.env.blockKind == .function && F.env.kindOf y == some .local && py.line == pos.line && !(scope.names.any fun (n, k) => n == y && (k == .local || k == .cell))) : Sem Bool) = pure true
    rw [this]
  rw [exec_Assign_Name_used _ _ _ _ hsw]
  conv at q => whnf
  refine wpAny_bind (wpAny_standAt (wpAny_bind ?_))
  show wpAny _ F.A (do let _ ← comprehension (.ListComp elt [⟨.Name x px, it, ifs, 0⟩] scope pos) scope F.env _ (newList []) false (eval it F.env) (some (assign (.Name y py) F.env))) _ _ s
  refine wpAny_bind (wpAny_mono (s_comp_core hf hset hi he ht K S R HM I q (use := some (assign (.Name y py) F.env)) (Q' := fun _ s' => PostS P F Q .next s') (fun _ _ z => PostX.toS z) fun {Hc s' us D C m r} IF oD oC hDC hn eD hz q => ?_) (fun _ s' hq => wpAny_pure (wpAny_pure hq)) fun _ _ e => e)
  show wpAny P.M F.A (assign (.Name y py) F.env (.ref D)) (fun _ s'' => ∃ m, s''.heap.Ns C m ∧ ∀ h', Heap.SameBut C s''.heap h' → PostS P F Q .next { s'' with heap := h' }) (PostSX P F X) s'
  obtain ⟨oc, es, ep, hoc, hrest⟩ := id hn
  have I1 := IF.track (o := .list (us.toList.map er)) oD trivial (mt_list eD (szl hz))
  have oC1 : Off F (Hc.upd D (.list (us.toList.map er))) C := ⟨(Hp.upd_ne _ _ (Ne.symm hDC)).trans oC.h, oC.g, oC.fr, oC.l, oC.c⟩
  have I2 := I1.also oC1 hoc
  refine wpAny_assign_Name (st_local (F := F.also C oc) (K.also oC1) I2 ky fun s4 I4 => ?_)
  obtain ⟨I5, hC5, oC5⟩ := Inv.back K oC1 I4
  refine ⟨m, ⟨oc, es, ep, hC5, hrest⟩, fun h' sb => ⟨_, _, I5.turn (t := s4.toks) (h' := h') K oC5 fun b o hb e => sb.extBut b o hb e, q⟩⟩

end
end Mine
end

section
open PySem PyProof.Rows PySem.Calls
namespace Mine

section
variable {P : Pm} {F : Fm} {G : Gx} {n : Nat} {hm : Bool} {l : Loc} {H : Hp} {s : Shared} {E : Value → Shared → Prop} {Q : QV}

noncomputable def bfVal : Bf → Option Value
  | .len => some (.builtin "len") | .list => some (.type "list") | .tuple => some (.type "tuple") | .sorted => some (.builtin "sorted") | .int => some (.type "int") | .all => some (.builtin "all")
  | .max2 => some (.builtin "max") | .max1 => some (.builtin "max") | .min2 => some (.builtin "min") | .range => some (.type "range") | .dict => some (.type "dict") | .sortedT => some (.builtin "sorted")
  | _ => none
theorem s_bf (Y : PmOk P) (K : FmOk P F) (HM : HmOk hm F) (I : Inv P F l H s) {b : Bf} {v : Value} {Vs : List Value} (hv : bfVal b = some v) (hf : bfH hm b (Vs.map er) H) (h : bfV b (Vs.map er) H Q) : wpAny P.M F.A (call v Vs) (PostE P F l Q) E s := by
  have hh : b ≠ .len → b ≠ .list → b ≠ .all → F.A.handled = none := fun n1 n2 n3 => by
    rcases hf with z | z | z | z
    · exact absurd z n1
    · exact HM.2 z
    · exact absurd z.1 n2
    · exact absurd z.1 n3
  unfold bfV at h
  split at h
  · obtain ⟨V, eV, h'⟩ := on1_elim h; clear h; subst eV; have h := h'; clear h'
    cases hv
    exact s_len I rfl h
  · obtain ⟨V, eV, h'⟩ := on1_elim h; clear h; subst eV; have h := h'; clear h'
    cases hv
    unfold seqV at h
    split at h
    · rename_i a e; have := er_ref e; subst this
      split at h
      · rename_i hx
        obtain ⟨vs, ⟨o, ho, hc, n, hd⟩, e2, _⟩ := I.objs _ _ hx
        rw [← e2] at h
        exact s_copy K I (.inl rfl) ho hc hd (by simpa using h.1) h.2
      · rename_i hx
        obtain ⟨vs, ⟨o, ho, hc, n, hd⟩, e2, _⟩ := I.objs _ _ hx
        rw [← e2] at h
        exact s_copy K I (.inr rfl) ho hc hd (by simpa using h.1) h.2
      · rename_i kvs hx
        have hn : F.A.handled = none := by
          rcases hf with z | z | ⟨_, a', xs, e1, e2⟩ | z
          · cases z
          · exact HM.2 z
          · injection e1 with e1 _
            injection e1 with e1
            rw [← e1, hx] at e2; cases e2
          · cases z.1
        exact s_keys Y K I hn hx h.1 h.2
      · exact h.elim
    · exact h.elim
  · obtain ⟨V, eV, h'⟩ := on1_elim h; clear h; subst eV; have h := h'; clear h'
    cases hv
    obtain ⟨a, eV, h'⟩ := onRef_elim rfl h; clear h; subst eV; have h := h'; clear h'
    split at h
    · rename_i xs hx
      obtain ⟨hz, q⟩ := h
      obtain ⟨vs, hl, e2, _⟩ := I.objs _ _ hx
      have hz' : vs.size ≤ sizeLine := by rw [← e2] at hz; simpa using hz
      refine call_tuple_list hl (fun h' hk => ?_) hz'
      have nn : s.heap.get? h'.objs.size = none := by
        cases q : s.heap.get? h'.objs.size with
        | none => rfl
        | some o => exact absurd (Heap.lt_size (hk _ _ q)) (Nat.lt_irrefl _)
      have of := I.off K nn
      have I' : Inv P F l H { s with heap := h'.push { cls := .type "tuple", data := .seq vs }, toks := s.toks } := I.step fun b o e _ => Heap.get?_push_of_some _ (hk b o e)
      have q := q _ of.h
      rw [← e2] at q
      exact ⟨_, I'.track (o := .tup (vs.toList.map er)) of trivial (mt_tup ⟨_, Heap.get?_push_size _ rfl, rfl, 0, rfl⟩ (by simp only [sizeLine] at hz'; omega)), q⟩
    · rename_i xs hx
      obtain ⟨vs, hl, e2, _⟩ := I.objs _ _ hx
      exact call_tuple_same hl ⟨H, I, h⟩
    · exact h.elim
  · obtain ⟨V, eV, h'⟩ := on1_elim h; clear h; subst eV; have h := h'; clear h'
    cases hv
    exact s_sorted Y K I (hh nofun nofun nofun) h
  · obtain ⟨V, eV, h'⟩ := on1_elim h; clear h; subst eV; have h := h'; clear h'
    cases hv
    obtain ⟨b, eV, h'⟩ := onBool_elim rfl h; clear h; subst eV; have h := h'; clear h'
    exact call_int_bool ⟨H, I.toks _, h⟩
  · obtain ⟨V, eV, h'⟩ := on1_elim h; clear h; subst eV; have h := h'; clear h'
    cases hv
    obtain ⟨a, eV, h'⟩ := onRef_elim rfl h; clear h; subst eV; have h := h'; clear h'
    split at h
    · rename_i hx
      obtain ⟨bs, hb, q⟩ := h
      rcases hf with z | z | z | ⟨_, a', e1, e2⟩
      · cases z
      · exact s_all K I (HM.2 z) hx hb q
      · cases z.1
      · injection e1 with e1 _
        injection e1 with e1
        rw [← e1, hx] at e2
        injection e2 with e2; injection e2 with e2
        subst e2
        have : bs = [] := List.map_eq_nil_iff.1 hb.symm
        subst this
        exact s_all_nil K HM.1 I hx q
    · exact h.elim
  · obtain ⟨V, W, eV, h'⟩ := on2_elim h; clear h; subst eV; have h := h'; clear h'
    cases hv
    obtain ⟨x, _, eV, h'⟩ := onInt_elim rfl h; clear h; subst eV; have h := h'; clear h'
    obtain ⟨y, _, eV, h'⟩ := onInt_elim rfl h; clear h; subst eV; have h := h'; clear h'
    exact s_max2 I (hh nofun nofun nofun) h
  · obtain ⟨V, W, eV, h'⟩ := on2_elim h; clear h; subst eV; have h := h'; clear h'
    cases hv
    obtain ⟨x, _, eV, h'⟩ := onInt_elim rfl h; clear h; subst eV; have h := h'; clear h'
    obtain ⟨y, _, eV, h'⟩ := onInt_elim rfl h; clear h; subst eV; have h := h'; clear h'
    exact s_min2 I (hh nofun nofun nofun) h
  · cases hv
    exact s_range K I h
  · obtain ⟨V, eV, h'⟩ := on1_elim h; clear h; subst eV; have h := h'; clear h'
    cases hv
    obtain ⟨a, eV, h'⟩ := onRef_elim rfl h; clear h; subst eV; have h := h'; clear h'
    split at h
    · rename_i hx
      exact s_sortT Y K I (hh nofun nofun nofun) hx h
    · exact h.elim
  · cases hv
  · cases hv
  · exact h.elim

theorem se_bf (Y : PmOk P) (B : BltOk P) {sc : Scope} {f : Str} {b : Bf} {p pos : Pos} {args : List Expr} {args' : List Ex} {v : Value} (hv : bfVal b = some v) (hbt : bltTab f = some v) (hs : args.all notStar = true) (hl : isLoc sc f = some false) (ha : SEs P G n hm sc args args') :
    SE P G n hm sc (.Call (.Name f p) args [] pos) (.bf b args') := by
  intro F l K S R HM H s Q X I q
  conv at q => whnf
  refine wpAny_Call_NameR (ld_blt Y B K S I hbt hl ?_)
  refine callWith_any hs (wpAny_mono (ha K S R HM I q) (fun Vs s2 q => ?_) fun _ _ z => z)
  obtain ⟨H2, I2, hf, q⟩ := q
  refine ⟨?_, s_bf Y K HM I2 hv hf q⟩
  cases b <;> cases hv <;> exact ⟨.machine, .inr rfl, PySem.W.Looks.of_pure rfl⟩

theorem se_dict0 {sc : Scope} {pos : Pos} : SE P G n hm sc (.Dict [] [] pos) (.dict [] []) := by
  intro F l K S R HM H s Q X I q
  conv at q => whnf
  refine wpAny_Dict_empty ⟨_, I.alloc K (o := .idict []) (t := s.toks) ⟨[], ⟨_, #[], 0, Heap.get?_push_size _ rfl, ?_, rfl, ?_, ?_, by simp⟩, rfl⟩, ?_⟩
  · exact ⟨rfl, rfl, rfl⟩
  · intro e he; simp at he
  · exact Pairs.nil
  · rcases q with ⟨_, _, q⟩ | ⟨ss, e, _, _, _, hne, _⟩
    · exact q _ I.fresh
    · simp at e; exact absurd e hne
end
end Mine
end

section
open PySem PyProof.Rows PySem.Calls
namespace Mine

/-! ## every translated text keeps what its wp says -/
theorem se_comp {P : Pm} {G : Gx} {n : Nat} {hm : Bool} {sc scope : Scope} {x : Str} {px pos : Pos} {elt it : Expr} {ifs : List Expr} {elt' it' : Ex} {ifs' : List Ex} (hf : compFine sc scope x = true) (hset : notSet it = true) (hi : SE P G n hm sc it it') (he : SE P G n hm scope elt elt') (ht : STall P G n hm scope ifs ifs') :
    SE P G n hm sc (.ListComp elt [⟨.Name x px, it, ifs, 0⟩] scope pos) (.comp elt' x it' ifs') := by
  intro F l K S R HM H s Q X I q
  exact s_comp hf hset hi he ht K S R HM I q
theorem s1_asgComp {P : Pm} {G : Gx} {n : Nat} {hm : Bool} {sc scope : Scope} {x y : Str} {px py pos spos : Pos} {elt it : Expr} {ifs : List Expr} {elt' it' : Ex} {ifs' : List Ex} (hs : (swapFine sc scope y && py.line == pos.line) = true) (hf : compFine sc scope x = true) (hset : notSet it = true) (hi : SE P G n hm sc it it') (he : SE P G n hm scope elt elt') (ht : STall P G n hm scope ifs ifs') :
    S1 P G n hm sc (.Assign [.Name y py] (.ListComp elt [⟨.Name x px, it, ifs, 0⟩] scope pos) spos) (.asg y (.comp elt' x it' ifs')) :=
  fun _ _ K S R HM ro _ _ _ _ I q => s1_asgComp_ok hs hf hset hi he ht K S R HM ro I q

section
variable {P : Pm} {F : Fm} {G : Gx} {n : Nat} {hm : Bool} {l : Loc} {H : Hp} {s : Shared}
end

section
variable {P : Pm} {G : Gx} {n : Nat} {hm : Bool} {sc : Scope}
theorem sts_one {e : Expr} {e' : Ex} (h : ST P G n hm sc e e') : STs P G n hm sc [e] [e'] := sts_cons (fun _ => rfl) h sts_nil
theorem sts_more {e e2 : Expr} {e' e2' : Ex} {es : List Expr} {es' : List Ex} (h : ST P G n hm sc e e') (r : STs P G n hm sc (e2 :: es) (e2' :: es')) : STs P G n hm sc (e :: e2 :: es) (e' :: e2' :: es') := sts_cons (fun q => nomatch q) h r
theorem se_bop1 {op : BoolOp} {e : Expr} {e' : Ex} {es : List Expr} {es' : List Ex} {pos : Pos} (h : SBs P G n hm sc (e :: es) (e' :: es')) : SE P G n hm sc (.BoolOp op (e :: es) pos) (.bop (op == .And) (e' :: es')) := se_bop (List.cons_ne_nil _ _) h
theorem se_idx1 {x y : Expr} {x' y' : Ex} {pos : Pos} (hx : SE P G n hm sc x x') (hy : SE P G n hm sc y y') (hsl : (fun o i => subscripted y false o i) = fun o i => operate [o, i] (getItem o i)) : SE P G n hm sc (.Subscript x y pos) (.idx x' y') := se_idx hx hy fun o i => congrFun (congrFun hsl o) i
theorem st_of_se {e : Expr} {e' : Ex} (h : SE P G n hm sc e e') (he : (fun env whole => PySem.isTrue e env whole) = fun env whole => (do let v ← whole; standAt e.pos; holding [v] (truthy v))) : ST P G n hm sc e e' := SE.test h fun env w => congrFun (congrFun he env) w
end
theorem len1 {vals : List Value} (h : vals.length = 1) : ∃ a, vals = [a] := by
  cases vals with
  | nil => cases h
  | cons a r => cases r with
    | nil => exact ⟨a, rfl⟩
    | cons _ _ => simp at h
theorem len2 {vals : List Value} (h : vals.length = 2) : ∃ a b, vals = [a, b] := by
  cases vals with
  | nil => cases h
  | cons a r =>
    obtain ⟨b, rfl⟩ := len1 (vals := r) (by simpa using h)
    exact ⟨a, b, rfl⟩
theorem len3 {vals : List Value} (h : vals.length = 3) : ∃ a b c, vals = [a, b, c] := by
  cases vals with
  | nil => cases h
  | cons a r =>
    obtain ⟨b, c, rfl⟩ := len2 (vals := r) (by simpa using h)
    exact ⟨a, b, c, rfl⟩
noncomputable def bodyOf : Stmt → List Stmt
  | .FunctionDef _ _ b _ _ _ _ _ _ _ => b
  | _ => []
noncomputable def scOf : Stmt → Scope
  | .FunctionDef _ _ _ _ _ _ sc _ _ _ => sc
  | _ => default
end Mine
end

section
open PySem PyProof.Rows PySem.Calls
namespace Mine

/-! ## the defs of a text, by the depth of their calls -/
noncomputable abbrev Tab := Addr → Option (List Str × List Sm)

noncomputable def GG (g : Gx) (tab : Tab) : Nat → Gx
  | 0 => { g with fn := fun _ _ _ _ _ _ => False }
  | n + 1 => { g with fn := fun f hm args H Q X => match tab f with
      | some (ps, sm) => wpF (GG g tab n) hm ps sm args H Q X
      | none => False }

structure TabOk (P : Pm) (tab : Tab) : Prop where
  ok : ∀ f ps sm, tab f = some (ps, sm) → ∃ sc body, FnAt P f ps sc body ∧ ∀ {G : Gx} {n : Nat}, GxOk P G → SndFn P G n → ∀ hm, SS P G n hm sc body sm

section
variable {P : Pm} {g : Gx} {tab : Tab}

theorem gg_ok (GO : GxOk P g) (n : Nat) : GxOk P (GG g tab n) := by
  cases n <;> exact ⟨GO.glob, GO.fld, GO.meth, GO.init, GO.exc, GO.sub, GO.self, GO.own⟩

theorem gg_snd (Y : PmOk P) (B : BltOk P) (GO : GxOk P g) (T : TabOk P tab) : ∀ n, SndFn P (GG g tab n) n
  | 0 => ⟨fun h => h.elim, fun h => h.elim⟩
  | n + 1 => by
    have ih := gg_snd Y B GO T n
    refine ⟨fun {f hm args H Q X} h => ?_, fun {f hm args H Q X} h {F l s vals} K R HM I hv => ?_⟩
    · have h : (match tab f with | some (ps, sm) => wpF (GG g tab n) hm ps sm args H Q X | none => False) := h
      split at h
      · rename_i ps sm e
        obtain ⟨sc, body, D, _⟩ := T.ok f ps sm e
        exact D.keep
      · exact h.elim
    · have h : (match tab f with | some (ps, sm) => wpF (GG g tab n) hm ps sm args H Q X | none => False) := h
      split at h
      · rename_i ps sm e
        obtain ⟨sc, body, D, htr⟩ := T.ok f ps sm e
        exact call_def Y D (htr (gg_ok GO n) ih hm) h K R HM I hv
      · exact h.elim

/-- the call of the law itself -/
theorem call_top (Y : PmOk P) (B : BltOk P) (GO : GxOk P g) (T : TabOk P tab) {n : Nat} {f : Addr} {A : Around} (hA : A.frames = some []) (hh : A.handled = none) (R : RoomC (n + 1) A) {vals : List Value} {Q : QV} {H₀ : Hp} (hH : ∀ a o, H₀ a = some o → o.isRL = true ∧ Mt P P.base a o)
    (q : (GG g tab (n + 1)).fn f false (vals.map er) H₀ Q (fun _ _ => False)) :
    codeAny P.M A (.call (.ref f) ⟨vals, []⟩) (fun r s' => ∃ V H', r = .ok (.ret V) ∧ Q (er V) H' ∧ s'.gens = P.s₀.gens ∧ s'.os = P.s₀.os ∧ ∀ b o, P.base.get? b = some o → s'.heap.get? b = some o) P.s₀ := by
  have q : (match tab f with | some (ps, sm) => wpF (GG g tab n) false ps sm (vals.map er) H₀ Q (fun _ _ => False) | none => False) := q
  split at q
  · rename_i ps sm e
    obtain ⟨sc, body, D, htr⟩ := T.ok f ps sm e
    have hb : SS P (GG g tab n) n false sc body sm := htr (gg_ok GO n) (gg_snd Y B GO T n) false
    obtain ⟨hlen, q⟩ := q
    obtain ⟨o, fd, d1, d2, d3, d4, d5, d6, d7, d8, d9⟩ := D.at_
    have fine := D.fine
    unfold scFine at fine
    simp only [Bool.and_eq_true, beq_iff_eq, Bool.not_eq_true', decide_eq_true_eq, List.all_eq_true, Bool.or_eq_true, bne_iff_ne, ne_eq] at fine
    obtain ⟨⟨⟨⟨⟨⟨f1, f2⟩, f3⟩, f4⟩, f5⟩, f6⟩, f7⟩ := fine
    have kd : ∀ x, (callEnvC fd P.s₀.heap.objs.size f).kindOf x = sc.names.lookup x := fun x => by show fd.scope.names.lookup x = _; rw [d5]
    have cl : ∀ x, sc.names.lookup x = some .cell → ∃ c, (callEnvC fd P.s₀.heap.objs.size f).cells.lookup x = some c := fun x hx => by
      show ∃ c, (cellsFrom _ fd.scope.names []).lookup x = some c
      rw [d5]; exact cells_lookup _ _ _ hx
    have nf : ∀ x, sc.names.lookup x ≠ some .free := fun x hx => f5 _ (mem_of_lookup hx) rfl
    refine codeAny_call_cells (binds := ps.zip vals) (by have := R.1; omega) d1 d2 Y.lim d3 d4 (d9 vals (by simpa using hlen.symm)) d6 (fun x hx => ?_) (fun s₁ x => ?_) (by rw [d5]; exact f2) (by rw [d5]; exact f3) (by rw [d5]; exact f1)
    · have := f6 x.1 (List.of_mem_zip (a := x.1) (b := x.2) hx).1
      rw [d5]
      rcases this with h | h
      · exact .inl h
      · obtain ⟨c, hc⟩ := cells_lookup (x := x.1) sc.names (P.s₀.heap.objs.size + 1) [] h
        exact .inr ⟨h, by rw [hc]; rfl⟩
    · let F : Fm := { env := callEnvC fd P.s₀.heap.objs.size f, A := A.deeper (callEnvC fd P.s₀.heap.objs.size f), g := fun b => P.base.get? b, fr := fun _ => none, ro := false }
      have nn : ∀ b, P.s₀.heap.objs.size ≤ b → P.base.get? b = none := fun b hb => Heap.get?_none_of_le hb
      have ab : ∀ y c, (y, c) ∈ F.env.cells → P.s₀.heap.objs.size < c := x.above
      have K : FmOk P F := by
        refine ⟨by show fd.scope.kind = _; rw [d5]; exact f1, d7, d8, fun b o e => e, Nat.le_refl _, nn _ (Nat.le_refl _), rfl, fun y c hm => Nat.ne_of_gt (ab y c hm), fun _ y c hm => ⟨nn c (Nat.le_of_lt (ab y c hm)), rfl⟩, x.apart,
          fun y c hm => lookup_of_mem (cells_names _ _ _ (by rw [d5]; exact f4) .nil (by simp)) hm, fun _ _ _ => rfl, fun b d e => (nomatch e), ?_, fun a e => (nomatch e)⟩
        refine ⟨F.env, [], ?_, fun _ => ⟨rfl, rfl⟩, fun e he => ?_⟩
        · show A.frames.map _ = _
          rw [hA]; rfl
        · rcases List.mem_cons.mp he with rfl | he
          · exact ⟨by show fd.scope.kind ≠ _; rw [d5, f1]; decide, _, rfl, .inl rfl⟩
          · cases he
      have S : ScOk sc F := by
        refine ⟨fun y hy => ?_, fun y hy => ?_, fun y hy => (kd y).trans hy, fun y hy => ⟨(kd y).trans hy, cl y hy⟩⟩
        · unfold isLoc at hy
          split at hy
          · rename_i e; exact .inl ((kd y).trans e)
          · rename_i e; exact .inr ⟨.inl ((kd y).trans e), cl y e⟩
          · rename_i e; exact absurd e (nf y)
          · split at hy <;> cases hy
          · cases hy
        · unfold isLoc at hy
          split at hy
          · split at hy <;> cases hy
          · split at hy <;> cases hy
          · split at hy <;> cases hy
          · rename_i e; exact (kd y).trans e
          · cases hy
      have I : Inv P F (fun y => (ps.zip (vals.map er)).lookup y) H₀ s₁ := by
        obtain ⟨⟨⟨h, tk, rfl⟩, ns, keep, fresh⟩, cell, apart, above⟩ := x
        refine ⟨rfl, rfl, keep, fun b d e => (nomatch e), ⟨_, ns, fun y v hy hk => ((bindL_get hk ps vals _ f7 v).1 hy)⟩, fun y c e => ⟨_, cell y c e, fun v hy hk => ((bindC_get (fun q => ?_) ps vals _ f7 v).1 hy)⟩, fun a o e => ?_, fun a o e => ?_, fun a o e => ?_⟩
        · have hk : (callEnvC fd P.s₀.heap.objs.size f).kindOf y = some .cell ∨ (callEnvC fd P.s₀.heap.objs.size f).kindOf y = some .free := hk
          rw [q] at hk; simp at hk
        · obtain ⟨O, ho⟩ := (hH a o e).2.some
          exact (hH a o e).2.congr ((keep a O ho).trans ho.symm)
        · have hr := (hH a o e).1
          cases o <;> first | exact (hH a _ e).2.some | cases hr
        · have := (hH a o e).1
          cases o <;> first | trivial | cases this
      refine wpAny_mono (hb K S ⟨?_, ?_⟩ ⟨.inl hh, fun _ => hh⟩ rfl I q) (fun fl s' z => ?_) fun EV s' z => ?_
      · show A.depth + 1 + 2 * n + 2 < _
        have := R.1; omega
      · show A.units + 3 + 30 * n + 200 < _
        have := R.2; omega
      · obtain ⟨l2, H2, I2, z⟩ := z
        cases fl with
        | next => exact ⟨_, H2, rfl, z, I2.gens, I2.os, I2.keep⟩
        | brk => exact z.elim
        | cont => exact z.elim
        | ret v => exact ⟨_, H2, rfl, z, I2.gens, I2.os, I2.keep⟩
      · obtain ⟨_, _, _, _, _, _, _, z⟩ := z
        exact z.elim
  · exact q.elim
end
end Mine
end

section
open PySem PyProof.Rows PySem.Calls
open PySem.W (Frag nsIn mg_of ns_none_of findIn plainGet hasDictIn isFn plainOver takerIn makesIn subIn mroIn clsIn typeIn findObj excIn keepIn codeIn codeRec_of own_of_in TopRead)
namespace Mine

/-! ## what a fragment of the heap says -/
noncomputable def excOk (K : Frag) (names : List Str) (C : Addr) : Bool :=
  findIn K (.ref C) "__getattribute__" == some (some (.builtin "BaseException.__getattribute__")) && findIn K (.ref C) "__getattr__" == some none &&
  (match findObj K C none "__class__" with | some (.bind g a) => g == .builtin "getset_descriptor.__get__" && a == .builtin "object.__class__" | _ => false) &&
  mroIn K C (.type "object") == some true && mroIn K C (.type "BaseException") == some true && (clsIn K C).isSome && typeIn K (.ref C) == some (.type "type") && subIn K (.ref C) (.type "ValueError") == some true &&
  subIn K (.ref C) (.ref C) == some true && excIn K C veMro "ValueError.__new__" && names.any fun x => nsIn K mainGlobals x == some (some (.ref C))

/-- the small text's top, as a fragment tells it -/
noncomputable def gOf (K : Frag) (names : List Str) : Gx where
  glob := fun x => match nsIn K mainGlobals x with | some (some v) => some (er v) | _ => none
  fn := fun _ _ _ _ _ _ => False
  meth := fun C m => match findIn K (.ref C) m with | some (some (.ref f)) => if plainGet K C m && isFn K (.ref f) then some f else none | _ => none
  init := fun C => match findIn K (.ref C) "__init__" with | some (some (.ref f)) => if makesIn K C && isFn K (.ref f) && keepIn K (.ref C) then some f else none | _ => none
  isExc := excOk K names
  sub := fun C D => subIn K (.ref C) (.ref D) == some true
  fld := fun C a => plainGet K C a && hasDictIn K C && findIn K (.ref C) a == some none && findIn K (.ref C) "__setattr__" == some (some (.builtin "object.__setattr__")) && plainOver K C && takerIn K C a == some none

theorem g_ok {P : Pm} {names : List Str} {p : Program} {loose : List Str} (Y : PmOk P) (T : TopRead p loose P.mg P.mb P.base) : GxOk P (gOf P.K names) := by
  refine ⟨fun x v h => ?_, fun C a h => ?_, fun C m f h => ?_, fun C f h => ?_, fun C h => ?_, fun C D h _ => ?_, fun C h => ?_, fun C h => ?_⟩
  · have h : (match nsIn P.K mainGlobals x with | some (some v) => some (er v) | _ => none) = some v := h
    split at h
    · rename_i V e
      cases h
      exact ⟨V, rfl, .inl (mg_of Y.kin T.g e)⟩
    · cases h
  · simp only [gOf, Bool.and_eq_true, beq_iff_eq] at h
    obtain ⟨⟨⟨⟨⟨h1, h2⟩, h3⟩, h4⟩, h5⟩, h6⟩ := h
    exact ⟨h1, h2, h3, h4, h5, h6⟩
  · have h : (match findIn P.K (.ref C) m with | some (some (.ref f)) => if plainGet P.K C m && isFn P.K (.ref f) then some f else none | _ => none) = some f := h
    split at h
    · rename_i f' e
      split at h
      · rename_i q
        simp only [Bool.and_eq_true] at q
        cases h
        exact ⟨q.1, e, q.2⟩
      · cases h
    · cases h
  · have h : (match findIn P.K (.ref C) "__init__" with | some (some (.ref f)) => if makesIn P.K C && isFn P.K (.ref f) && keepIn P.K (.ref C) then some f else none | _ => none) = some f := h
    split at h
    · rename_i f' e
      split at h
      · rename_i q
        simp only [Bool.and_eq_true] at q
        cases h
        exact ⟨q.1.1, e, q.1.2, q.2⟩
      · cases h
    · cases h
  · have h : excOk P.K names C = true := h
    unfold excOk at h
    simp only [Bool.and_eq_true, beq_iff_eq] at h
    obtain ⟨⟨⟨⟨⟨⟨⟨⟨⟨⟨h1, h2⟩, h3⟩, h4⟩, h5⟩, h6⟩, h7⟩, h8⟩, h9⟩, h10⟩, h11⟩ := h
    refine ⟨h1, h2, ?_, h4, h5, h6, h7, h8⟩
    split at h3
    · rename_i g a e
      simp only [Bool.and_eq_true, beq_iff_eq] at h3
      rw [e, h3.1, h3.2]
    · cases h3
  · have h : excOk P.K names C = true := h
    unfold excOk at h
    simp only [Bool.and_eq_true, beq_iff_eq] at h
    obtain ⟨⟨⟨⟨⟨⟨⟨⟨⟨⟨h1, h2⟩, h3⟩, h4⟩, h5⟩, h6⟩, h7⟩, h8⟩, h9⟩, h10⟩, h11⟩ := h
    show subIn P.K (.ref C) (.ref D) = some (subIn P.K (.ref C) (.ref D) == some true)
    show mroIn P.K C (.ref D) = some (mroIn P.K C (.ref D) == some true)
    unfold mroIn at h4 ⊢
    obtain ⟨cd, hc, h4⟩ := Option.bind_eq_some_iff.mp h4
    rw [hc]
    simp only [Option.bind_some]
    split at h4
    · cases h4
    · rename_i q
      rw [if_neg q]
      cases cd.mro.contains (Value.ref D) <;> rfl
  · have h : excOk P.K names C = true := h
    unfold excOk at h
    simp only [Bool.and_eq_true, beq_iff_eq] at h
    obtain ⟨⟨⟨⟨⟨⟨⟨⟨⟨⟨h1, h2⟩, h3⟩, h4⟩, h5⟩, h6⟩, h7⟩, h8⟩, h9⟩, h10⟩, h11⟩ := h
    exact beq_iff_eq.mpr h9
  · have h : excOk P.K names C = true := h
    unfold excOk at h
    simp only [Bool.and_eq_true] at h
    obtain ⟨⟨_, h10⟩, h11⟩ := h
    obtain ⟨x, _, hx⟩ := List.any_eq_true.mp h11
    exact (own_of_in Y.kin T (beq_iff_eq.mp hx) h10).obj

noncomputable def bltNames : List Str := ["len", "isinstance", "list", "tuple", "sorted", "dict", "int", "all", "max", "min", "range", "str", "bool", "ValueError", "set"]
theorem blt_mem {x : Str} {v : Value} (h : bltTab x = some v) : x ∈ bltNames ∧ bootBuiltins x = some v ∧ x ≠ "__name__" := by
  have hm : (x, v) ∈ bltL := mem_of_lookup h
  have := List.all_eq_true.1 (show (bltL.all fun p => bltNames.contains p.1 && bootBuiltins p.1 == some p.2 && p.1 != "__name__") = true by decide +kernel) _ hm
  simp only [Bool.and_eq_true, beq_iff_eq, bne_iff_ne, List.contains_iff_mem] at this
  exact ⟨this.1.1, this.1.2, this.2⟩

theorem blt_ok {P : Pm} {p : Program} {loose : List Str} (Y : PmOk P) (T : TopRead p loose P.mg P.mb P.base) (h : bltNames.all (fun x => nsIn P.K mainGlobals x == some none) = true) : BltOk P := by
  refine ⟨fun x v hx => ?_⟩
  obtain ⟨h1, h2, h3⟩ := blt_mem hx
  have := List.all_eq_true.mp h x h1
  exact ⟨ns_none_of Y.kin T.g (beq_iff_eq.mp this), (T.builtins x h3).trans h2⟩

theorem tab_mem {α : Type} {a : Addr} {b : α} : ∀ {l : List (Addr × α)}, l.lookup a = some b → (a, b) ∈ l
  | [], h => by cases h
  | (c, d) :: r, h => by
    rw [List.lookup_cons] at h
    split at h
    · rename_i e
      cases h
      have : a = c := by simpa using e
      rw [this]; exact .head _
    · exact .tail _ (tab_mem h)

/-- a def of the fragment -/
theorem fn_at {P : Pm} {f : Addr} {o : Obj} {fd : FuncData} {ps : List Str} {body : List Stmt} (Y : PmOk P) (h1 : P.K.lookup f = some o) (h2 : o.data = .func fd) (h3 : codeIn P.K fd.code fd.qualname = true) (h4 : fd.body = .stmts body) (h5 : fd.closure = []) (h6 : fd.globals = mainGlobals) (h7 : fd.builtins = builtinsNs)
    (h8 : ∀ vals, vals.length = ps.length → bindArgs fd ⟨vals, []⟩ = pure (ps.zip vals)) (h9 : scFine fd.scope ps = true) (h10 : keepIn P.K (.ref f) = true) : FnAt P f ps fd.scope body :=
  ⟨⟨o, fd, Y.kin _ _ h1, h2, codeRec_of Y.kin h3, h4, rfl, h5, h6, h7, h8⟩, h9, h10⟩
/-! ## a table, row by row -/
noncomputable def RowOk (P : Pm) (e : Addr × (List Str × List Sm)) : Prop := ∃ sc body, FnAt P e.1 e.2.1 sc body ∧ ∀ {G : Gx} {n : Nat}, GxOk P G → SndFn P G n → ∀ hm, SS P G n hm sc body e.2.2
inductive RowsOk (P : Pm) : List (Addr × (List Str × List Sm)) → Prop where
  | nil : RowsOk P []
  | cons {e : Addr × (List Str × List Sm)} {r : List (Addr × (List Str × List Sm))} : RowOk P e → RowsOk P r → RowsOk P (e :: r)
theorem RowsOk.mem {P : Pm} {L : List (Addr × (List Str × List Sm))} (h : RowsOk P L) : ∀ {e}, e ∈ L → RowOk P e := by
  induction h with
  | nil => intro e h; cases h
  | cons h1 _ ih =>
    intro e h
    cases h with
    | head => exact h1
    | tail _ h => exact ih h
theorem tabOk_of {P : Pm} {L : List (Addr × (List Str × List Sm))} (h : RowsOk P L) : TabOk P (fun f => L.lookup f) := ⟨fun _ _ _ e => h.mem (tab_mem e)⟩
end Mine
end

section
open PySem PyProof.Rows PySem.Calls
open PySem.W (Frag nsIn mg_of TopRead)
namespace Mine

/-- the script, as the law may read it -/
noncomputable def hOf (a : Addr) (ns : List Int) : Hp := fun b => if b = a then some (.rlist (ns.map fun n => Value.int n 0)) else none

/-- what is to be shown of a law: its small text tells True, whatever the script -/
noncomputable def LawTells (K : Params → Frag) (names : List Str) (tab : Tab) (f : Addr) : Prop :=
  ∀ (p : Params) (a : Addr) (ns : List Int), ns.length ≤ 63 → (GG (gOf (K p) names) tab 13).fn f false [.ref a] (hOf a ns) (fun v _ => v = .bool true) (fun _ _ => False)

theorem law_runs {prog vp : Program} {w : World} {s : Shared} {mg mb : Str → Option Value} {K : Params → Frag} {names loose : List Str} {tab : Tab} {f fa a : Addr} {nm : Str} {vs : List Value} {ns : List Int} {Q : Value → Shared → Prop} {E : Value → Shared → Prop}
    (KX : (K w.params).In s.heap) (T : TopRead vp loose mg mb s.heap) (hmg : mg nm = some (.ref fa)) (hf : nsIn (K w.params) mainGlobals nm = some (some (.ref f))) (hb : bltNames.all (fun x => nsIn (K w.params) mainGlobals x == some none) = true)
    (TO : ∀ {P : Pm}, PmOk P → BltOk P → P.K = K P.w.params → TabOk P tab) (hL : s.heap.IsList a vs.toArray) (hI : IntsAre vs ns) (hl : ¬ (63 : Int) < (ns.length : Int)) (law : LawTells K names tab f)
    (q : ∀ s', s'.gens = s.gens → s'.os = s.os → (∀ b o, s.heap.get? b = some o → s'.heap.get? b = some o) → Q (.bool true) s') :
    wpAny (model prog w) callerA (call (.ref fa) [.ref a]) Q E s := by
  let P : Pm := { prog := prog, w := w, s₀ := s, mg := mg, mb := mb, K := K w.params }
  have Y : PmOk P := ⟨T.g, T.b, T.nolimit, KX⟩
  have T' : TopRead vp loose P.mg P.mb P.base := T
  have GO : GxOk P (gOf P.K names) := g_ok Y T'
  have hH : ∀ b o, hOf a ns b = some o → o.isRL = true ∧ Mt P P.base b o := fun b o h => by
    unfold hOf at h
    split at h
    · rename_i e
      cases h
      subst e
      exact ⟨rfl, vs.toArray, hL, seq_ints hI, by simp; omega⟩
    · cases h
  have B : BltOk P := blt_ok Y T' hb
  have e : fa = f := by
    have := mg_of KX T.g hf
    rw [hmg] at this
    cases this; rfl
  subst e
  have L := law w.params a ns (by omega)
  refine wpAny_call (codeAny_mono (call_top (P := P) Y B GO (TO Y B rfl) (n := 12) rfl rfl ?_ (vals := [.ref a]) hH L) fun r s' z => ?_)
  · exact ⟨by decide, by decide⟩
  · obtain ⟨V, H', rfl, hV, h1, h2, h3⟩ := z
    have := er_bool hV
    subst this
    exact q s' h1 h2 h3
end Mine
end

section
open PySem PyProof.Rows PySem.Calls PySem.W
namespace Mine
/-! ## rows of a table, by the number of parameters -/
section
variable {P : Pm} {K : List (Addr × Obj)} {f : Addr} {fd : FuncData} {body : List Stmt} {b : List Sm} {x y z u v : Str}
theorem row_of {ps : List Str} (Y : PmOk P) (hK : P.K = K) (h1 : K.lookup f = some { cls := .type "function", data := .func fd }) (h2 : fd.body = .stmts body) (h3 : (codeIn K fd.code fd.qualname && scFine fd.scope ps && keepIn K (.ref f)) = true) (h5 : fd.closure = [] ∧ fd.globals = mainGlobals ∧ fd.builtins = builtinsNs)
    (d : ∀ {G : Gx} {n : Nat}, GxOk P G → SndFn P G n → ∀ hm, SS P G n hm fd.scope body b) (h8 : ∀ vals, vals.length = ps.length → bindArgs fd ⟨vals, []⟩ = pure (ps.zip vals)) : RowOk P (f, (ps, b)) := by
  subst hK
  have h3 := Bool.and_eq_true_iff.1 h3
  have h4 := Bool.and_eq_true_iff.1 h3.1
  exact ⟨_, _, fn_at Y h1 rfl h4.1 h2 h5.1 h5.2.1 h5.2.2 h8 h4.2 h3.2, d⟩
theorem row1 (Y : PmOk P) (hK : P.K = K) (h1 : K.lookup f = some { cls := .type "function", data := .func fd }) (h2 : fd.body = .stmts body) (h3 : (codeIn K fd.code fd.qualname && scFine fd.scope [x] && keepIn K (.ref f)) = true) (h5 : fd.closure = [] ∧ fd.globals = mainGlobals ∧ fd.builtins = builtinsNs)
    (d : ∀ {G : Gx} {n : Nat}, GxOk P G → SndFn P G n → ∀ hm, SS P G n hm fd.scope body b) (h8 : ∀ a, bindArgs fd ⟨[a], []⟩ = pure [(x, a)]) : RowOk P (f, ([x], b)) :=
  row_of Y hK h1 h2 h3 h5 d fun vals h => by obtain ⟨a, rfl⟩ := len1 h; exact h8 a
theorem row2 (Y : PmOk P) (hK : P.K = K) (h1 : K.lookup f = some { cls := .type "function", data := .func fd }) (h2 : fd.body = .stmts body) (h3 : (codeIn K fd.code fd.qualname && scFine fd.scope [x, y] && keepIn K (.ref f)) = true) (h5 : fd.closure = [] ∧ fd.globals = mainGlobals ∧ fd.builtins = builtinsNs)
    (d : ∀ {G : Gx} {n : Nat}, GxOk P G → SndFn P G n → ∀ hm, SS P G n hm fd.scope body b) (h8 : ∀ a c, bindArgs fd ⟨[a, c], []⟩ = pure [(x, a), (y, c)]) : RowOk P (f, ([x, y], b)) :=
  row_of Y hK h1 h2 h3 h5 d fun vals h => by obtain ⟨a, c, rfl⟩ := len2 h; exact h8 a c
theorem row3 (Y : PmOk P) (hK : P.K = K) (h1 : K.lookup f = some { cls := .type "function", data := .func fd }) (h2 : fd.body = .stmts body) (h3 : (codeIn K fd.code fd.qualname && scFine fd.scope [x, y, z] && keepIn K (.ref f)) = true) (h5 : fd.closure = [] ∧ fd.globals = mainGlobals ∧ fd.builtins = builtinsNs)
    (d : ∀ {G : Gx} {n : Nat}, GxOk P G → SndFn P G n → ∀ hm, SS P G n hm fd.scope body b) (h8 : ∀ a c e, bindArgs fd ⟨[a, c, e], []⟩ = pure [(x, a), (y, c), (z, e)]) : RowOk P (f, ([x, y, z], b)) :=
  row_of Y hK h1 h2 h3 h5 d fun vals h => by obtain ⟨a, c, e, rfl⟩ := len3 h; exact h8 a c e
end
end Mine
end

section
open PySem PySem.W PyProof.Rows
namespace Mine

/-! ## the top, run over a tree -/
noncomputable def topRunT (tb : String → Option Builtin) (p : Program) (w : World) (n₀ : Nat) (ann : Option Value) : Nat → SharedT → Thread → Option SharedT
  | 0, _, _ => none
  | n + 1, s, t => match through t with
    | true => some s
    | false => match stepOk n₀ ann t with
      | false => none
      | true => match stepT (denote tb) p w s t with
        | some (s', t') => topRunT tb p w n₀ ann n s' t'
        | none => none
theorem topRun_of {tb : String → Option Builtin} {p : Program} {w : World} {n₀ : Nat} {ann : Option Value} : ∀ {n : Nat} {s s' : SharedT} {t : Thread}, topRunT tb p w n₀ ann n s t = some s' → topRun tb p w n₀ ann n s.abs t = some s'.abs
  | 0, _, _, _, h => by cases h
  | n + 1, s, s', t, h => by
    unfold topRunT at h
    unfold topRun
    cases he : through t with
    | true => rw [he] at h; cases h; rfl
    | false =>
      rw [he] at h
      cases hk : stepOk n₀ ann t with
      | false => rw [hk] at h; cases h
      | true =>
        rw [hk] at h
        cases hs : stepT (denote tb) p w s t with
        | none => rw [hs] at h; cases h
        | some r => obtain ⟨s₂, t₂⟩ := r; rw [hs] at h; rw [stepT_spec hs]; exact topRun_of h

noncomputable def fillT : List Obj → BT → Nat → Option (BT × Nat)
  | [], t, n => some (t, n)
  | o :: r, t, n => match ((t.ins n o).get n).isSome with
    | true => fillT r (t.ins n o) (n + 1)
    | false => none
theorem fill_abs {life : Life} : ∀ (l : List Obj) (t : BT) (n : Nat) {t' : BT} {n' : Nat}, fillT l t n = some (t', n') → (absHeap t' n' life).objs.toList = (absHeap t n life).objs.toList ++ l
  | [], t, n, t', n', h => by cases h; simp
  | o :: r, t, n, t', n', h => by
    unfold fillT at h
    cases g : ((t.ins n o).get n).isSome with
    | false => rw [g] at h; cases h
    | true =>
      rw [g] at h
      rw [fill_abs r _ _ h, absHeap_ins g]
      show ((absHeap t n life).objs.push o).toList ++ r = _
      simp
noncomputable def toT (s : Shared) : Option SharedT := match fillT s.heap.objs.toList .nil 0 with
  | some (t, n) => some ⟨t, n, s.heap.life, s.gens, s.drawn, s.toks, s.os⟩
  | none => none
theorem toT_abs {s : Shared} {x : SharedT} (h : toT s = some x) : x.abs = s := by
  unfold toT at h
  cases e : fillT s.heap.objs.toList .nil 0 with
  | none => rw [e] at h; cases h
  | some r =>
    obtain ⟨t, n⟩ := r
    rw [e] at h
    cases h
    have := fill_abs (life := s.heap.life) _ _ _ e
    obtain ⟨⟨objs, life⟩, gens, drawn, toks, os⟩ := s
    show Shared.mk (absHeap t n life) gens drawn toks os = _
    congr 1
    have e2 : (absHeap t n life).objs.toList = objs.toList := by simpa [absHeap, BT.list] using this
    have e3 : (absHeap t n life).objs = objs := Array.toList_inj.mp e2
    show Heap.mk (absHeap t n life).objs life = _
    rw [e3]

noncomputable def topFromT (tb : String → Option Builtin) (p : Program) (w : World) (N : Nat) (s₀ : Shared) : Option Shared :=
  match s₀.heap.isNs mainGlobals && s₀.gens.size == 0 with
  | true => match toT s₀ with
    | some x => (topRunT tb p w s₀.heap.objs.size (s₀.heap.nsMap mainGlobals "__annotations__") N x (topStub p)).bind fun s₁ => match staticsOk (importedModules p.main.body) s₀.heap s₁.abs.heap && namesBound p s₁.abs.heap && gensDone s₁.abs && laidKept s₀.heap s₁.abs.heap with
      | true => some s₁.abs
      | false => none
    | none => none
  | false => none
theorem topFrom_of {tb : String → Option Builtin} {p : Program} {w : World} {N : Nat} {s₀ r : Shared} (h : topFromT tb p w N s₀ = some r) : topFrom tb p w N s₀ = some r := by
  unfold topFromT at h
  unfold topFrom
  cases e : s₀.heap.isNs mainGlobals && s₀.gens.size == 0 with
  | false => rw [e] at h; cases h
  | true =>
    rw [e] at h
    dsimp only at h ⊢
    cases ex : toT s₀ with
    | none => rw [ex] at h; cases h
    | some x =>
      rw [ex] at h
      dsimp only at h
      cases er : topRunT tb p w s₀.heap.objs.size (s₀.heap.nsMap mainGlobals "__annotations__") N x (topStub p) with
      | none => rw [er] at h; cases h
      | some s₁ =>
        rw [er] at h
        have := topRun_of er
        rw [toT_abs ex] at this
        rw [this]
        exact h

theorem left_of {p q : Program} {loose : List Str} {Xt : Shared → Bool} {α : Type} {Yf : Shared → α} {Ya : World → α} {N : Nat}
    (h : ∀ w : World, Option.map (fun s => (openSeen q loose (importedModules p.main.body) Xt true s, Yf s)) ((fencedOpening treeTable p w N).bind (topFromT treeTable p w N)) = some (openGood q loose, Ya w)) : LeftO p q loose Xt Yf Ya N := by
  intro w
  have h := h w
  unfold openEnds
  cases e : fencedOpening treeTable p w N with
  | none => rw [e] at h; cases h
  | some s₀ =>
    rw [e] at h
    simp only [Option.bind_some] at h ⊢
    cases e2 : topFromT treeTable p w N s₀ with
    | none => rw [e2] at h; cases h
    | some r => rw [e2] at h; rw [topFrom_of e2]; exact h
end Mine
end

section
open PySem PyProof.Rows
namespace Mine

/-! ## loops, in the small wp -/
theorem rsize_nat (n : Nat) : Builtin.Range.rangeSize 0 (n : Int) 1 = n := by
  unfold Builtin.Range.rangeSize
  rw [if_pos (by decide)]
  split <;> omega
theorem rangeL_nat (n : Nat) : rangeL 0 (n : Int) 1 = (List.range n).map fun (k : Nat) => Value.int (k : Int) 0 := by
  unfold rangeL
  rw [rsize_nat]
  refine List.map_congr_left fun k _ => ?_
  congr 1; omega
theorem small_nat {n : Nat} (h : n < 2 ^ 60) : Builtin.Range.small 0 (n : Int) 1 = true := by
  unfold Builtin.Range.small
  rw [rsize_nat]
  simp [Builtin.Range.rangeFitsLong]
  omega

theorem forG_ind {guard : Hp → Prop} {x : Str} {body : Loc → Hp → QS → Prop} {Q : QS} (I : Nat → Loc → Hp → Prop) {f : Nat → Value} :
    ∀ (m k : Nat), (∀ i l H, I i l H → guard H) →
    (∀ i, k ≤ i → i < k + m → ∀ l H, I i l H → ∀ K : QS, (∀ l' H', I (i + 1) l' H' → K .next l' H' ∧ K .cont l' H') → (∀ r l' H', Q (.ret r) l' H' → K (.ret r) l' H') → body (l.upd x (f i)) H K) →
    (∀ l H, I (k + m) l H → Q .next l H) → ∀ l H, I k l H → forG guard x body ((List.range' k m).map f) l H Q
  | 0, k, hg, _, hq, l, H, h => ⟨hg _ _ _ h, hq _ _ h⟩
  | m + 1, k, hg, hb, hq, l, H, h => by
    refine ⟨hg _ _ _ h, hb k (Nat.le_refl _) (by omega) l H h _ (fun l' H' h' => ?_) fun r l' H' q => q⟩
    have ih := forG_ind (guard := guard) (x := x) (body := body) (Q := Q) I (f := f) m (k + 1) hg (fun i h1 h2 => hb i (by omega) (by omega)) (fun l H h => hq l H (by rw [show k + (m + 1) = k + 1 + m by omega]; exact h)) l' H' h'
    exact ⟨ih, ih⟩

theorem forG_range {guard : Hp → Prop} {x : Str} {body : Loc → Hp → QS → Prop} {Q : QS} (I : Nat → Loc → Hp → Prop) {n : Nat} {l : Loc} {H : Hp}
    (hg : ∀ i l H, I i l H → guard H)
    (hb : ∀ i, i < n → ∀ l H, I i l H → ∀ K : QS, (∀ l' H', I (i + 1) l' H' → K .next l' H' ∧ K .cont l' H') → (∀ r l' H', Q (.ret r) l' H' → K (.ret r) l' H') → body (l.upd x (.int (i : Int) 0)) H K)
    (hq : ∀ l H, I n l H → Q .next l H) (h : I 0 l H) : forG guard x body (rangeL 0 (n : Int) 1) l H Q := by
  rw [rangeL_nat, List.range_eq_range']
  exact forG_ind I (f := fun (k : Nat) => Value.int (k : Int) 0) n 0 hg (fun i _ h2 => hb i (by omega)) (fun l H h => hq l H (by rw [Nat.zero_add] at h; exact h)) l H h

end Mine
namespace Mine
/-! ## locals and dicts, in the small wp -/
noncomputable def Ls (l : Loc) : List (Str × Value) → Prop
  | [] => True
  | (x, v) :: r => l x = some v ∧ Ls l r
section
variable {K : Type} [DecidableEq K]
end

end Mine
namespace Mine
theorem forG_list {guard : Hp → Prop} {x : Str} {body : Loc → Hp → QS → Prop} {Q : QS} (I : List Value → Loc → Hp → Prop) (hg : ∀ r l H, I r l H → guard H)
    (hb : ∀ v r l H, I (v :: r) l H → ∀ K : QS, (∀ l' H', I r l' H' → K .next l' H' ∧ K .cont l' H') → (∀ ρ l' H', Q (.ret ρ) l' H' → K (.ret ρ) l' H') → body (l.upd x v) H K)
    (hq : ∀ l H, I [] l H → Q .next l H) : ∀ (xs : List Value) (l : Loc) (H : Hp), I xs l H → forG guard x body xs l H Q
  | [], l, H, h => ⟨hg _ _ _ h, hq _ _ h⟩
  | v :: r, l, H, h => ⟨hg _ _ _ h, hb v r l H h _ (fun l' H' h' => ⟨forG_list I hg hb hq r l' H' h', forG_list I hg hb hq r l' H' h'⟩) fun _ _ _ q => q⟩

/-- a comprehension's turns, with what is left and what was made -/
theorem compG_list {guard : Hp → Prop} {step : Value → Hp → (Option Value → Hp → Prop) → Prop} {k : List Value → Hp → Prop} (I : List Value → List Value → Hp → Prop) (hg : ∀ r acc H, I r acc H → guard H)
    (hb : ∀ v r acc H, I (v :: r) acc H → ∀ K : Option Value → Hp → Prop, (∀ u H', (match u with | some u => I r (acc ++ [u]) H' | none => I r acc H') → K u H') → step v H K)
    (hk : ∀ acc H, I [] acc H → k acc H) : ∀ (xs acc : List Value) (H : Hp), I xs acc H → compG guard step xs acc H k
  | [], acc, H, h => ⟨hg _ _ _ h, hk _ _ h⟩
  | v :: r, acc, H, h => ⟨hg _ _ _ h, hb v r acc H h _ fun u H' h' => by
      cases u with
      | none => exact compG_list I hg hb hk r acc H' h'
      | some u => exact compG_list I hg hb hk r (acc ++ [u]) H' h'⟩
end Mine
namespace Mine
end Mine
end

section
open PySem PyProof.Rows
namespace Mine

/-! ## rules of the small wp -/
structure Ev (G : Gx) (hm : Bool) (e : Ex) (l : Loc) (H : Hp) (v : Value) : Prop where
  run : ∀ (Q : QV) (X : XV), Q v H → wpE G hm e l H Q X
structure EvL (G : Gx) (hm : Bool) (es : List Ex) (l : Loc) (H : Hp) (vs : List Value) : Prop where
  run : ∀ (Q : List Value → Hp → Prop) (X : XV), Q vs H → wpEs G hm es l H Q X

section
variable {G : Gx} {hm : Bool} {l : Loc} {H : Hp}

theorem some_at {α : Type} {o : Option α} {v : α} {k : α → Prop} (h : o = some v) (q : k v) : onSome o k := by subst h; exact q
theorem ev_none : Ev G hm .none l H .none := .mk fun _ _ q => q
theorem ev_bool {b : Bool} : Ev G hm (.bool b) l H (.bool b) := .mk fun _ _ q => q
theorem ev_int {i : Int} : Ev G hm (.int i) l H (.int i 0) := .mk fun _ _ q => q
theorem ev_str {x : Str} : Ev G hm (.str x) l H (.str x 0) := .mk fun _ _ q => q
theorem ev_loc {x : Str} {v : Value} (h : l x = some v) : Ev G hm (.loc x) l H v := .mk fun _ _ q => some_at h q
theorem ev_glob {x : Str} {v : Value} (h : G.glob x = some v) : Ev G hm (.glob x) l H v := .mk fun _ _ q => some_at h q

noncomputable def nb : Value → Bool
  | .builtin _ => false
  | _ => true
section
variable {x y : Ex} {a b : Int} {t u : Tok}
theorem ev_bin {op : Operator} {v w r : Value} (hx : Ev G hm x l H v) (hy : Ev G hm y l H w) (h : ∀ Q : QV, Q r H → binV op v w H Q) : Ev G hm (.bin op x y) l H r :=
  .mk fun Q X q => hx.run (fun a H1 => wpE G hm y l H1 (fun b H2 => binV op a b H2 Q) X) X (hy.run (fun b H2 => binV op v b H2 Q) X (h Q q))
theorem ev_add (hx : Ev G hm x l H (.int a t)) (hy : Ev G hm y l H (.int b u)) : Ev G hm (.bin .Add x y) l H (.int (a + b) 0) := ev_bin hx hy fun _ q => q
theorem ev_mul (hx : Ev G hm x l H (.int a t)) (hy : Ev G hm y l H (.int b u)) (h : a.natAbs < 2 ^ 63 ∨ b.natAbs < 2 ^ 63) : Ev G hm (.bin .Mult x y) l H (.int (a * b) 0) := ev_bin hx hy fun _ q => ⟨h, q⟩
theorem ev_div (hx : Ev G hm x l H (.int a t)) (hy : Ev G hm y l H (.int b u)) (h : 0 < b) (h2 : b < 2 ^ 63) : Ev G hm (.bin .FloorDiv x y) l H (.int (a / b) 0) := ev_bin hx hy fun _ q => ⟨h, h2, q⟩
theorem ev_mod (hx : Ev G hm x l H (.int a t)) (hy : Ev G hm y l H (.int b u)) (h : 0 < b) : Ev G hm (.bin .Mod x y) l H (.int (a % b) 0) := ev_bin hx hy fun _ q => ⟨h, q⟩
theorem ev_pow (hx : Ev G hm x l H (.int a t)) (hy : Ev G hm y l H (.int b u)) (h : 0 ≤ b) (h2 : b ≤ 100) (h3 : a.natAbs < 2 ^ 63) : Ev G hm (.bin .Pow x y) l H (.int (a ^ b.toNat) 0) := ev_bin hx hy fun _ q => ⟨h, h2, h3, q⟩
theorem ev_cat {p r : Str} (hx : Ev G hm x l H (.str p t)) (hy : Ev G hm y l H (.str r u)) (h : p.length + r.length ≤ sizeLine) : Ev G hm (.bin .Add x y) l H (.str (p ++ r) 0) := ev_bin hx hy fun _ q => ⟨h, q⟩
theorem ev_not {b : Bool} (hx : Ev G hm x l H (.bool b)) {z : Bool} (hz : (!b) = z) : Ev G hm (.not x) l H (.bool z) := by subst hz; exact .mk fun Q X q => hx.run (fun a H1 => truthV a fun b => Q (.bool (!b)) H1) X q
theorem ev_cmp {op : CmpOp} {v w r : Value} (hx : Ev G hm x l H v) (hy : Ev G hm y l H w) (h : ∀ Q : QV, Q r H → cmpV op v w H Q) : Ev G hm (.cmp x op y) l H r :=
  .mk fun Q X q => hx.run (fun a H1 => wpE G hm y l H1 (fun b H2 => cmpV op a b H2 Q) X) X (hy.run (fun b H2 => cmpV op v b H2 Q) X (h Q q))
theorem ev_eq (hx : Ev G hm x l H (.int a t)) (hy : Ev G hm y l H (.int b u)) {z : Bool} (hz : (decide (a = b)) = z) : Ev G hm (.cmp x .Eq y) l H (.bool z) := by subst hz; exact ev_cmp hx hy fun _ q => q
theorem ev_ne (hx : Ev G hm x l H (.int a t)) (hy : Ev G hm y l H (.int b u)) {z : Bool} (hz : (!decide (a = b)) = z) : Ev G hm (.cmp x .NotEq y) l H (.bool z) := by subst hz; exact ev_cmp hx hy fun _ q => q
theorem ev_lt (hx : Ev G hm x l H (.int a t)) (hy : Ev G hm y l H (.int b u)) {z : Bool} (hz : (decide (a < b)) = z) : Ev G hm (.cmp x .Lt y) l H (.bool z) := by subst hz; exact ev_cmp hx hy fun _ q => q
theorem ev_gt (hx : Ev G hm x l H (.int a t)) (hy : Ev G hm y l H (.int b u)) {z : Bool} (hz : (decide (b < a)) = z) : Ev G hm (.cmp x .Gt y) l H (.bool z) := by subst hz; exact ev_cmp hx hy fun _ q => q
section
variable {p r : Str}
theorem ev_eqs (hx : Ev G hm x l H (.str p t)) (hy : Ev G hm y l H (.str r u)) {z : Bool} (hz : (decide (p = r)) = z) : Ev G hm (.cmp x .Eq y) l H (.bool z) := by subst hz; exact ev_cmp hx hy fun _ q => q
theorem ev_nes (hx : Ev G hm x l H (.str p t)) (hy : Ev G hm y l H (.str r u)) {z : Bool} (hz : (!decide (p = r)) = z) : Ev G hm (.cmp x .NotEq y) l H (.bool z) := by subst hz; exact ev_cmp hx hy fun _ q => q
theorem ev_lts (hx : Ev G hm x l H (.str p t)) (hy : Ev G hm y l H (.str r u)) {z : Bool} (hz : (decide (p.cps.toList < r.cps.toList)) = z) : Ev G hm (.cmp x .Lt y) l H (.bool z) := by subst hz; exact ev_cmp hx hy fun _ q => q
theorem ev_gts (hx : Ev G hm x l H (.str p t)) (hy : Ev G hm y l H (.str r u)) {z : Bool} (hz : (decide (r.cps.toList < p.cps.toList)) = z) : Ev G hm (.cmp x .Gt y) l H (.bool z) := by subst hz; exact ev_cmp hx hy fun _ q => q
end
noncomputable def isN : Value → Option Bool
  | .none => some true
  | .builtin _ => none
  | _ => some false
theorem ev_is {v : Value} {b : Bool} (hx : Ev G hm x l H v) (h : isN v = some b) : Ev G hm (.cmp x .Is .none) l H (.bool b) := ev_cmp hx ev_none fun _ q => by cases v <;> first | (cases h; exact q) | cases h
theorem ev_isnot {v : Value} {b : Bool} (hx : Ev G hm x l H v) (h : isN v = some b) : Ev G hm (.cmp x .IsNot .none) l H (.bool (!b)) := ev_cmp hx ev_none fun _ q => by cases v <;> first | (cases h; exact q) | cases h

/-! and, or -/
theorem ev_one {k : Bool} {b : Bool} (hx : Ev G hm x l H (.bool b)) : Ev G hm (.bop k [x]) l H (.bool b) := .mk fun Q X q => show wpB G hm k [x] l H Q X from hx.run _ _ (by
  show if b = k then Q (.bool b) H else Q (.bool b) H
  split <;> exact q)
theorem ev_stop {k : Bool} {es : List Ex} (hx : Ev G hm x l H (.bool (!k))) : Ev G hm (.bop k (x :: es)) l H (.bool (!k)) := .mk fun Q X q => show wpB G hm k (x :: es) l H Q X from hx.run _ _ (by
  show if (!k) = k then _ else Q (.bool (!k)) H
  rw [if_neg (by cases k <;> exact nofun)]; exact q)
theorem ev_go {k b : Bool} {es : List Ex} (hx : Ev G hm x l H (.bool k)) (hr : Ev G hm (.bop k (y :: es)) l H (.bool b)) : Ev G hm (.bop k (x :: y :: es)) l H (.bool b) := .mk fun Q X q => hx.run (fun v H1 => truthV v fun b => if b = k then wpB G hm k (y :: es) l H1 Q X else Q (.bool b) H1) X (by
  show if k = k then wpB G hm k (y :: es) l H Q X else Q (.bool k) H
  rw [if_pos rfl]; exact hr.run Q X q)

/-! isinstance -/
noncomputable def isiOf (t : Ty) : Value → Option Bool
  | .none => if t.blt then some false else none
  | .bool _ => if t.blt then some (t == .bool || t == .int) else none
  | .int _ _ => if t.blt then some (t == .int) else none
  | .str _ _ => if t.blt then some (t == .str) else none
  | _ => none
theorem ev_isi {ty : Ty} {v : Value} {b : Bool} (hx : Ev G hm x l H v) (h : isiOf ty v = some b) : Ev G hm (.isi x ty) l H (.bool b) := .mk fun Q X q => hx.run (fun v H1 => isiV G v ty H1 Q) X (by
  cases v <;> simp only [isiOf] at h <;> first
    | (split at h <;> first | (cases h; exact ⟨‹_›, q⟩) | cases h)
    | cases h)
noncomputable def isiObj (t : Ty) : AObj → Option Bool
  | .list _ => if t.blt then some (t == .list || t == .listOrTuple) else none
  | .tup _ => if t.blt then some (t == .tuple || t == .listOrTuple) else none
  | .idict _ => if t.blt then some false else none
  | .sdict _ => if t.blt then some false else none
  | _ => none
theorem ev_isir {ty : Ty} {c : Addr} {o : AObj} {b : Bool} (hx : Ev G hm x l H (.ref c)) (hc : H c = some o) (h : isiObj ty o = some b) : Ev G hm (.isi x ty) l H (.bool b) := .mk fun Q X q => hx.run (fun v H1 => isiV G v ty H1 Q) X (by
  show isiV G (.ref c) ty H Q
  conv => whnf
  rw [hc]
  cases o <;> simp only [isiObj] at h <;> first
    | (split at h <;> first | (cases h; exact ⟨‹_›, q⟩) | cases h)
    | cases h)

/-! items -/
theorem ev_idx {v w r : Value} (hx : Ev G hm x l H v) (hy : Ev G hm y l H w) (h : ∀ Q : QV, Q r H → idxV v w H Q) : Ev G hm (.idx x y) l H r :=
  .mk fun Q X q => hx.run (fun v H1 => wpE G hm y l H1 (fun k H2 => idxV v k H2 Q) X) X (hy.run (fun k H2 => idxV v k H2 Q) X (h Q q))
noncomputable def seqO : AObj → Option (List Value)
  | .list xs => some xs
  | .rlist xs => some xs
  | .tup xs => some xs
  | _ => none
theorem idx_at {c : Addr} {o : AObj} {xs : List Value} {r : Value} {Q : QV} (hc : H c = some o) (hs : seqO o = some xs) (h : at? xs a = some r) (q : Q r H) : idxV (.ref c) (.int a t) H Q := by
  conv => whnf
  rw [hc]
  cases o <;> cases hs <;> (conv => whnf) <;> rw [h] <;> exact q
theorem ev_at {c : Addr} {o : AObj} {xs : List Value} {r : Value} (hx : Ev G hm x l H (.ref c)) (hy : Ev G hm y l H (.int a t)) (hc : H c = some o) (hs : seqO o = some xs) (h : at? xs a = some r) : Ev G hm (.idx x y) l H r := ev_idx hx hy fun _ q => idx_at hc hs h q
theorem ev_chr {p : Str} {c : Nat} (hx : Ev G hm x l H (.str p t)) (hy : Ev G hm y l H (.int a u)) (h : at? p.cps.toList a = some c) (hz : p.length ≤ sizeLine) : Ev G hm (.idx x y) l H (.str (chr1 c) 0) := ev_idx hx hy fun Q q => by
  conv => whnf
  rw [h]
  exact ⟨hz, q⟩
end

/-! lists of things -/
theorem evl_nil : EvL G hm [] l H [] := .mk fun _ _ q => q
theorem evl_cons {e : Ex} {es : List Ex} {v : Value} {vs : List Value} (he : Ev G hm e l H v) (hs : EvL G hm es l H vs) : EvL G hm (e :: es) l H (v :: vs) :=
  .mk fun Q X q => he.run (fun v H1 => wpEs G hm es l H1 (fun vs H2 => Q (v :: vs) H2) X) X (hs.run (fun vs H2 => Q (v :: vs) H2) X q)

/-! built-ins -/
theorem ev_bf {f : Bf} {es : List Ex} {vs : List Value} {r : Value} (hs : EvL G hm es l H vs) (hh : bfH hm f vs H) (h : ∀ Q : QV, Q r H → bfV f vs H Q) : Ev G hm (.bf f es) l H r :=
  .mk fun Q X q => hs.run (fun vs H1 => bfH hm f vs H1 ∧ bfV f vs H1 Q) X ⟨hh, h Q q⟩
theorem len_at {c : Addr} {o : AObj} {xs : List Value} {Q : QV} (hc : H c = some o) (hs : seqO o = some xs) (q : Q (.int xs.length 0) H) : lenV (.ref c) H Q := by
  conv => whnf
  rw [hc]
  cases o <;> cases hs <;> exact q
theorem ev_len {x : Ex} {c : Addr} {o : AObj} {xs : List Value} (hx : Ev G hm x l H (.ref c)) (hc : H c = some o) (hs : seqO o = some xs) : Ev G hm (.bf .len [x]) l H (.int xs.length 0) := ev_bf (evl_cons hx evl_nil) (.inl rfl) fun _ q => len_at hc hs q
theorem ev_lens {x : Ex} {p : Str} {t : Tok} (hx : Ev G hm x l H (.str p t)) (hz : p.length ≤ sizeLine) : Ev G hm (.bf .len [x]) l H (.int p.length 0) := ev_bf (evl_cons hx evl_nil) (.inl rfl) fun _ q => ⟨hz, q⟩
section
variable {x y : Ex} {a b : Int} {t u : Tok}
end
end
end Mine
end

section
open PySem PyProof.Rows
namespace Mine

section
variable {G : Gx} {hm : Bool} {l : Loc} {H : Hp} {Q : QV} {X : XV}

/-! ## calls and new things -/
theorem w_ev {e : Ex} {v : Value} (h : Ev G hm e l H v) (q : Q v H) : wpE G hm e l H Q X := h.run Q X q
theorem w_callW {g : Ex} {args : List Ex} {a : Addr} (hg : Ev G hm g l H (.ref a)) (hi : G.init a = none) (q : wpEs G hm args l H (fun vs H2 => G.fn a hm vs H2 Q X) X) : wpE G hm (.call g args) l H Q X :=
  hg.run (fun v H1 => wpEs G hm args l H1 (fun vs H2 => callV G hm v vs H2 Q X) X) X (by
    have : (fun vs H2 => callV G hm (.ref a) vs H2 Q X) = fun vs H2 => G.fn a hm vs H2 Q X := by
      funext vs H2
      show (match G.init a with | some fi => _ | none => _) = _
      rw [hi]
    show wpEs G hm args l H (fun vs H2 => callV G hm (.ref a) vs H2 Q X) X
    rw [this]; exact q)
theorem w_call {g : Ex} {args : List Ex} {a : Addr} {vs : List Value} (hg : Ev G hm g l H (.ref a)) (hi : G.init a = none) (ha : EvL G hm args l H vs) (q : G.fn a hm vs H Q X) : wpE G hm (.call g args) l H Q X := w_callW hg hi (ha.run (fun vs H2 => G.fn a hm vs H2 Q X) X q)
theorem wl_nil {Q : List Value → Hp → Prop} (q : Q [] H) : wpEs G hm [] l H Q X := q
theorem wl_cons {e : Ex} {es : List Ex} {Q : List Value → Hp → Prop} (q : wpE G hm e l H (fun v H1 => wpEs G hm es l H1 (fun vs H2 => Q (v :: vs) H2) X) X) : wpEs G hm (e :: es) l H Q X := q

theorem w_list {es : List Ex} {vs : List Value} (ha : EvL G hm es l H vs) (hz : vs.length ≤ sizeLine) (q : ∀ c, H c = none → Q (.ref c) (H.upd c (.list vs))) : wpE G hm (.list es) l H Q X := ha.run (fun vs H1 => vs.length ≤ sizeLine ∧ newV (.list vs) H1 Q) X ⟨hz, q⟩
theorem w_tup {es : List Ex} {vs : List Value} (ha : EvL G hm es l H vs) (hz : vs.length ≤ sizeLine) (q : ∀ c, H c = none → Q (.ref c) (H.upd c (.tup vs))) : wpE G hm (.tup es) l H Q X := ha.run (fun vs H1 => vs.length ≤ sizeLine ∧ newV (.tup vs) H1 Q) X ⟨hz, q⟩
theorem w_listW {es : List Ex} (q : wpEs G hm es l H (fun vs H1 => vs.length ≤ sizeLine ∧ newV (.list vs) H1 Q) X) : wpE G hm (.list es) l H Q X := q
theorem w_dict0 (q : ∀ c, H c = none → Q (.ref c) (H.upd c (.idict []))) : wpE G hm (.dict [] []) l H Q X := Or.inl ⟨rfl, rfl, q⟩

noncomputable def seqI : AObj → Option (List Value)
  | .list xs => some xs
  | .tup xs => some xs
  | _ => none
noncomputable def seqS : AObj → Option (List Value)
  | .list xs => some xs
  | .rlist xs => some xs
  | _ => none
theorem ev_to {x e : Ex} {p : Str} {k : Int} {t u : Tok} (hx : Ev G hm x l H (.str p u)) (he : Ev G hm e l H (.int k t)) (hz : p.length ≤ sizeLine) : Ev G hm (.slice x none (some e)) l H (.str ⟨(pySlice p.cps.toList none (some k)).toArray⟩ 0) :=
  .mk fun Q X q => hx.run (fun v H1 => wpO G hm none l H1 (fun a H2 => wpO G hm (some e) l H2 (fun b H3 => sliceV v a b H3 Q) X) X) X (he.run (fun b H3 => sliceV (.str p u) .none b H3 Q) X ⟨hz, q⟩)
theorem ev_from {x e : Ex} {p : Str} {k : Int} {t u : Tok} (hx : Ev G hm x l H (.str p u)) (he : Ev G hm e l H (.int k t)) (hz : p.length ≤ sizeLine) : Ev G hm (.slice x (some e) none) l H (.str ⟨(pySlice p.cps.toList (some k) none).toArray⟩ 0) :=
  .mk fun Q X q => hx.run (fun v H1 => wpO G hm (some e) l H1 (fun a H2 => wpO G hm none l H2 (fun b H3 => sliceV v a b H3 Q) X) X) X (he.run (fun b H3 => sliceV (.str p u) b .none H3 Q) X ⟨hz, q⟩)

theorem addl_at {a b : Addr} {xs ys : List Value} (ha : H a = some (.list xs)) (hb : H b = some (.list ys)) (hz : xs.length + ys.length ≤ sizeLine) (q : ∀ c, H c = none → Q (.ref c) (H.upd c (.list (xs ++ ys)))) : binV .Add (.ref a) (.ref b) H Q := by
  show addR a b H Q
  unfold addR
  rw [ha]
  dsimp only
  rw [hb]
  exact ⟨hz, q⟩
theorem w_binW {op : Operator} {x y : Ex} (q : wpE G hm x l H (fun a H1 => wpE G hm y l H1 (fun b H2 => binV op a b H2 Q) X) X) : wpE G hm (.bin op x y) l H Q X := q
theorem w_cmpW {op : CmpOp} {x y : Ex} (q : wpE G hm x l H (fun a H1 => wpE G hm y l H1 (fun b H2 => cmpV op a b H2 Q) X) X) : wpE G hm (.cmp x op y) l H Q X := q
theorem w_idxW {x y : Ex} (q : wpE G hm x l H (fun v H1 => wpE G hm y l H1 (fun k H2 => idxV v k H2 Q) X) X) : wpE G hm (.idx x y) l H Q X := q
theorem w_bopW {k : Bool} {es : List Ex} (q : wpB G hm k es l H Q X) : wpE G hm (.bop k es) l H Q X := q
/-- and, or: one part at a time -/
theorem wb_cons {k : Bool} {e e2 : Ex} {es : List Ex} (q : wpE G hm e l H (fun v H1 => truthV v fun b => if b = k then wpB G hm k (e2 :: es) l H1 Q X else Q (.bool b) H1) X) : wpB G hm k (e :: e2 :: es) l H Q X := q
theorem wb_one {k : Bool} {e : Ex} (q : wpE G hm e l H (fun v H1 => truthV v fun b => Q (.bool b) H1) X) : wpB G hm k [e] l H Q X := by
  have : (fun v (H1 : Hp) => truthV v fun b => if b = k then Q (.bool b) H1 else Q (.bool b) H1) = fun v H1 => truthV v fun b => Q (.bool b) H1 := by
    funext v H1; congr 1; funext b; split <;> rfl
  show wpE G hm e l H (fun v H1 => truthV v fun b => if b = k then Q (.bool b) H1 else Q (.bool b) H1) X
  rw [this]; exact q

theorem w_bfW {f : Bf} {es : List Ex} (q : wpEs G hm es l H (fun vs H1 => bfH hm f vs H1 ∧ bfV f vs H1 Q) X) : wpE G hm (.bf f es) l H Q X := q
theorem w_range {e : Ex} {n : Int} {t : Tok} (he : Ev G false e l H (.int n t)) (h1 : n < 2 ^ 60) (h2 : -(2 ^ 60) < n) (q : ∀ c, H c = none → Q (.ref c) (H.upd c (.range 0 n 1))) : wpE G false (.bf .range [e]) l H Q X :=
  (evl_cons he evl_nil).run (fun vs H1 => bfH false .range vs H1 ∧ bfV .range vs H1 Q) X ⟨.inr (.inl rfl), h1, h2, q⟩
theorem blist_at {a : Addr} {o : AObj} {xs : List Value} (ha : H a = some o) (hs : seqI o = some xs) (hz : xs.length ≤ sizeLine) (q : ∀ c, H c = none → Q (.ref c) (H.upd c (.list xs))) : bfV .list [.ref a] H Q := by
  conv => whnf
  rw [ha]
  cases o <;> cases hs <;> exact ⟨hz, q⟩
theorem w_blistL {e : Ex} {a : Addr} {xs : List Value} (he : Ev G hm e l H (.ref a)) (ha : H a = some (.list xs)) (hz : xs.length ≤ sizeLine) (q : ∀ c, H c = none → Q (.ref c) (H.upd c (.list xs))) : wpE G hm (.bf .list [e]) l H Q X :=
  (evl_cons he evl_nil).run (fun vs H1 => bfH hm .list vs H1 ∧ bfV .list vs H1 Q) X ⟨.inr (.inr (.inl ⟨rfl, a, xs, rfl, ha⟩)), blist_at ha rfl hz q⟩
/-! methods of built-ins -/
theorem app_at {a : Addr} {xs : List Value} {v : Value} (ha : H a = some (.list xs)) (hz : xs.length ≤ sizeLine) (q : Q .none (H.upd a (.list (xs ++ [v])))) : bmV .list .append (.ref a) [v] H Q := by
  conv => whnf
  rw [ha]
  exact ⟨hz, q⟩
theorem w_appendW {o e : Ex} {a : Addr} {xs : List Value} (ho : Ev G hm o l H (.ref a)) (ha : H a = some (.list xs)) (q : wpE G hm e l H (fun v H1 => bmV .list .append (.ref a) [v] H1 Q) X) : wpE G hm (.bm .append o [e]) l H Q X :=
  ho.run (fun v H1 => bmOn .append v H1 fun b => wpEs G hm [e] l H1 (fun vs H2 => bmV b .append v vs H2 Q) X) X (by
    conv => whnf
    rw [ha]
    exact ⟨.inl rfl, q⟩)
theorem join_at {x : Str} {t : Tok} {a : Addr} {xs : List Value} {ss : List Str} (ha : H a = some (.list xs)) (hs : strsOf xs = some ss) (hj : JoinOk x ss = true) (q : Q (.str (Txt.join x ss) 0) H) : bmV .str .join (.str x t) [.ref a] H Q := by
  conv => whnf
  rw [ha]
  conv => whnf
  rw [hs]
  exact ⟨hj, q⟩
theorem w_joinW {o e : Ex} {x : Str} {t : Tok} (ho : Ev G hm o l H (.str x t)) (q : wpE G hm e l H (fun v H1 => bmV .str .join (.str x t) [v] H1 Q) X) : wpE G hm (.bm .join o [e]) l H Q X :=
  ho.run (fun v H1 => bmOn .join v H1 fun b => wpEs G hm [e] l H1 (fun vs H2 => bmV b .join v vs H2 Q) X) X ⟨.inl rfl, q⟩
/-! comprehensions -/
noncomputable def ca (l : Loc) (x : Str) (v : Value) : Loc := (l.del ".0").upd x v
theorem iter_at {a : Addr} {o : AObj} {xs : List Value} {k : (Hp → Prop) → List Value → Prop} (ha : H a = some o) (hs : seqI o = some xs) (q : k (fun H' => H' a = some o) xs) : iterV (.ref a) H k := by
  conv => whnf
  rw [ha]
  cases o <;> cases hs <;> exact q
theorem comp_run {guard : Hp → Prop} {step : Value → Hp → (Option Value → Hp → Prop) → Prop} {p : Value → Bool} {f : Value → Value} (hg : guard H) : ∀ (items acc : List Value) {k : List Value → Hp → Prop},
    (∀ v ∈ items, ∀ k' : Option Value → Hp → Prop, (if p v then k' (some (f v)) H else k' none H) → step v H k') → k (acc ++ (items.filter p).map f) H → compG guard step items acc H k
  | [], acc, k, _, h => ⟨hg, by simpa using h⟩
  | v :: vs, acc, k, hs, h => ⟨hg, hs v (List.mem_cons_self ..) _ (by
      have ih := comp_run (p := p) (f := f) hg (step := step) vs
      cases e : p v with
      | true =>
        rw [List.filter_cons, if_pos e] at h
        exact ih (acc ++ [f v]) (fun u hu => hs u (List.mem_cons_of_mem _ hu)) (by simpa using h)
      | false =>
        rw [List.filter_cons, if_neg (by rw [e]; exact nofun)] at h
        exact ih acc (fun u hu => hs u (List.mem_cons_of_mem _ hu)) h)⟩
theorem ev_all0 : Ev G hm (.bop true []) l H (.bool true) := .mk fun _ _ q => q
/-- over things that stand for others -/
theorem comp_runA {β : Type} {R : Value → β → Prop} {guard : Hp → Prop} {step : Value → Hp → (Option Value → Hp → Prop) → Prop} {p : β → Bool} {f : Value → Value} (hg : guard H) {items : List Value} {ys : List β} (hr : All2 R items ys) : ∀ (acc : List Value) {k : List Value → Hp → Prop},
    (∀ v y, R v y → ∀ k' : Option Value → Hp → Prop, (if p y then k' (some (f v)) H else k' none H) → step v H k') → (∀ zs, All2 R zs (ys.filter p) → zs.length ≤ items.length → k (acc ++ zs.map f) H) → compG guard step items acc H k := by
  induction hr with
  | nil => intro acc k _ h; exact ⟨hg, by simpa using h [] .nil (Nat.le_refl _)⟩
  | @cons v y vs ys e _ ih =>
    intro acc k hs h
    refine ⟨hg, hs v y e _ ?_⟩
    cases ep : p y with
    | true =>
      rw [if_pos rfl]
      refine ih (acc ++ [f v]) hs fun zs hz hl => ?_
      have := h (v :: zs) (by rw [List.filter_cons, if_pos ep]; exact .cons e hz) (Nat.succ_le_succ hl)
      simpa using this
    | false =>
      rw [if_neg nofun]
      exact ih acc hs fun zs hz hl => h zs (by rw [List.filter_cons, if_neg (by rw [ep]; exact nofun)]; exact hz) (Nat.le_succ_of_le hl)
theorem w_compA {β : Type} {R : Value → β → Prop} {elt src : Ex} {x : Str} {ifs : List Ex} {a : Addr} {o : AObj} {xs : List Value} {ys : List β} (p : β → Bool) (f : Value → Value) (he : Ev G false src l H (.ref a)) (ha : H a = some o) (hs : seqI o = some xs) (hz : xs.length ≤ sizeLine) (hr : All2 R xs ys)
    (hp : ∀ v y, R v y → Ev G false (.bop true ifs) (ca l x v) H (.bool (p y))) (hf : ∀ v y, R v y → p y = true → Ev G false elt (ca l x v) H (f v)) (q : ∀ zs, All2 R zs (ys.filter p) → zs.length ≤ xs.length → ∀ c, H c = none → Q (.ref c) (H.upd c (.list (zs.map f)))) : wpE G false (.comp elt x src ifs) l H Q X :=
  he.run (fun v H1 => iterH false v H1 fun guard items => items.length ≤ sizeLine ∧
      compG guard (fun v H2 k => wpB G false true ifs ((l.del ".0").upd x v) H2 (fun c H3 => truthV c fun r =>
        if r then wpE G false elt ((l.del ".0").upd x v) H3 (fun u H4 => k (some u) H4) (fun _ _ => False) else k none H3) (fun _ _ => False)) items [] H1
        fun us H' => newV (.list us) H' Q) X (.inl ⟨rfl, iter_at ha hs ⟨hz, comp_runA (p := p) (f := f) ha hr [] (fun v y e k' hk => (hp v y e).run _ _ (by
      show if p y = true then _ else _
      cases ep : p y with
      | true => rw [ep] at hk; exact (hf v y e ep).run _ _ hk
      | false => rw [ep] at hk; exact hk)) (fun zs hz hl => by rw [List.nil_append]; exact q zs hz hl)⟩⟩)
/-- the same over a range from nought -/
theorem w_compr {elt n : Ex} {x : Str} {ifs : List Ex} {k : Nat} {t : Tok} (p : Value → Bool) (f : Value → Value) (hn : Ev G false n l H (.int (k : Int) t)) (hz : k ≤ sizeLine)
    (hp : ∀ i < k, ∀ H', (∀ a o, H a = some o → H' a = some o) → Ev G false (.bop true ifs) (ca l x (.int (i : Int) 0)) H' (.bool (p (.int (i : Int) 0)))) (hf : ∀ i < k, ∀ H', (∀ a o, H a = some o → H' a = some o) → p (.int (i : Int) 0) = true → Ev G false elt (ca l x (.int (i : Int) 0)) H' (f (.int (i : Int) 0)))
    (q : ∀ d c, H d = none → H c = none → c ≠ d → Q (.ref c) ((H.upd d (.range 0 k 1)).upd c (.list ((((List.range k).map fun (i : Nat) => Value.int (i : Int) 0).filter p).map f)))) : wpE G false (.comp elt x (.bf .range [n]) ifs) l H Q X := by
  have hz2 : (k : Int) < 2 ^ 60 := by have : k ≤ sizeLine := hz; simp [sizeLine] at this; omega
  refine w_range (Q := fun v H1 => iterH false v H1 fun guard items => items.length ≤ sizeLine ∧
      compG guard (fun v H2 k => wpB G false true ifs ((l.del ".0").upd x v) H2 (fun c H3 => truthV c fun r =>
        if r then wpE G false elt ((l.del ".0").upd x v) H3 (fun u H4 => k (some u) H4) (fun _ _ => False) else k none H3) (fun _ _ => False)) items [] H1
        fun us H' => newV (.list us) H' Q) hn hz2 (by omega) fun d hd => .inl ⟨rfl, ?_⟩
  have hk : ∀ a o, H a = some o → (H.upd d (.range 0 k 1)) a = some o := fun a o e => (Hp.upd_ne _ _ fun z => by rw [z, hd] at e; cases e).trans e
  have hdd : (H.upd d (.range 0 k 1)) d = some (.range 0 k 1) := Hp.upd_same _ _ _
  have q' : ∀ c, (H.upd d (.range 0 k 1)) c = none → Q (.ref c) ((H.upd d (.range 0 k 1)).upd c (.list ((((List.range k).map fun (i : Nat) => Value.int (i : Int) 0).filter p).map f))) := fun c hc => by
    have hcd : c ≠ d := fun z => by rw [z, hdd] at hc; cases hc
    refine q d c hd ?_ hcd
    rw [Hp.upd_ne _ _ hcd] at hc; exact hc
  generalize H.upd d (.range 0 k 1) = H1 at *
  conv => whnf
  rw [hdd]
  refine ⟨small_nat (by omega), ?_⟩
  rw [rangeL_nat]
  refine ⟨by simpa using hz, comp_run (p := p) (f := f) trivial _ [] (fun v hv k' hk' => ?_) (by rw [List.nil_append]; exact q')⟩
  obtain ⟨i, hi, rfl⟩ := List.mem_map.1 hv
  have hi := List.mem_range.1 hi
  refine (hp i hi H1 hk).run _ _ ?_
  show if p (.int (i : Int) 0) = true then _ else _
  cases e : p (.int (i : Int) 0) with
  | true => rw [e] at hk'; exact (hf i hi H1 hk e).run _ _ hk'
  | false => rw [e] at hk'; exact hk'
end
end Mine
end

section
open PySem PyProof.Rows
namespace Mine

section
variable {G : Gx} {hm : Bool} {l : Loc} {H : Hp} {Q : QS} {X : XS} {r : List Sm}

/-! ## statements -/
noncomputable def sq (G : Gx) (hm : Bool) (r : List Sm) (Q : QS) (X : XS) : QS := fun f l' H' => match f with | .next => wpSs G hm r l' H' Q X | f => Q f l' H'
theorem ss_nl (q : Q .next l H) : wpSs G hm [] l H Q X := q
theorem ss_sq (q : wpSs G hm r l H Q X) : wpSs G hm [] l H (sq G hm r Q X) X := q
theorem ss_asgW {x : Str} {e : Ex} (q : wpE G hm e l H (fun v H' => wpSs G hm r (l.upd x v) H' Q X) (fun C H' => X C l H')) : wpSs G hm (.asg x e :: r) l H Q X := q
theorem ss_asg {x : Str} {e : Ex} {v : Value} (he : Ev G hm e l H v) (q : wpSs G hm r (l.upd x v) H Q X) : wpSs G hm (.asg x e :: r) l H Q X := ss_asgW (w_ev he q)
theorem ss_exprW {e : Ex} (q : wpE G hm e l H (fun _ H' => wpSs G hm r l H' Q X) (fun C H' => X C l H')) : wpSs G hm (.expr e :: r) l H Q X := q
theorem ss_retW {e : Ex} (q : wpE G hm e l H (fun v H' => Q (.ret v) l H') (fun C H' => X C l H')) : wpSs G hm (.ret e :: r) l H Q X := q
theorem ss_ret {e : Ex} {v : Value} (he : Ev G hm e l H v) (q : Q (.ret v) l H) : wpSs G hm (.ret e :: r) l H Q X := ss_retW (w_ev he q)
theorem ss_ifW {c : Ex} {t f : List Sm} (q : wpE G hm c l H (fun v H1 => truthV v fun b => if b then wpSs G hm t l H1 (sq G hm r Q X) X else wpSs G hm f l H1 (sq G hm r Q X) X) (fun C H' => X C l H')) : wpSs G hm (.ite c t f :: r) l H Q X := q
theorem ss_if {c : Ex} {t f : List Sm} {b : Bool} (hc : Ev G hm c l H (.bool b)) (ht : b = true → wpSs G hm t l H (sq G hm r Q X) X) (hf : b = false → wpSs G hm f l H (sq G hm r Q X) X) : wpSs G hm (.ite c t f :: r) l H Q X := ss_ifW (w_ev hc (by
  show if b = true then _ else _
  cases b
  · exact hf rfl
  · exact ht rfl))
theorem ss_ift {c : Ex} {t f : List Sm} (hc : Ev G hm c l H (.bool true)) (q : wpSs G hm t l H (sq G hm r Q X) X) : wpSs G hm (.ite c t f :: r) l H Q X := ss_if hc (fun _ => q) nofun
theorem ss_iff {c : Ex} {t f : List Sm} (hc : Ev G hm c l H (.bool false)) (q : wpSs G hm f l H (sq G hm r Q X) X) : wpSs G hm (.ite c t f :: r) l H Q X := ss_if hc nofun (fun _ => q)
theorem ss_iff0 {c : Ex} {t : List Sm} (hc : Ev G hm c l H (.bool false)) (q : wpSs G hm r l H Q X) : wpSs G hm (.ite c t [] :: r) l H Q X := ss_iff hc q
theorem ss_keyW {o i e : Ex} (q : wpE G hm e l H (fun v H1 => wpE G hm o l H1 (fun ov H2 => wpE G hm i l H2 (fun iv H3 => setItemV ov iv v H3 fun H' => wpSs G hm r l H' Q X) (fun C H' => X C l H')) (fun C H' => X C l H')) (fun C H' => X C l H')) : wpSs G hm (.asgIdx o i e :: r) l H Q X := q
theorem tv_t {t f : Prop} (q : t) : truthV (.bool true) fun b => if b = true then t else f := by
  show if true = true then t else f
  rw [if_pos rfl]; exact q
theorem tv_f {t f : Prop} (q : f) : truthV (.bool false) fun b => if b = true then t else f := by
  show if false = true then t else f
  rw [if_neg nofun]; exact q
theorem bo_go {k : Bool} {t : Prop} {f : Bool → Prop} (q : t) : truthV (.bool k) fun b => if b = k then t else f b := by
  show if k = k then t else f k
  rw [if_pos rfl]; exact q
theorem bo_stop {k : Bool} {t : Prop} {f : Bool → Prop} (q : f (!k)) : truthV (.bool (!k)) fun b => if b = k then t else f b := by
  show if (!k) = k then t else f (!k)
  rw [if_neg (by cases k <;> exact nofun)]; exact q
/-! loops -/
theorem ss_forW {x : Str} {src : Ex} {body : List Sm} (q : wpE G hm src l H (fun v H1 => iterH hm v H1 fun guard items => forG guard x (fun l' H' K => wpSs G hm body l' H' K X) items l H1 (sq G hm r Q X)) (fun C H' => X C l H')) : wpSs G hm (.for_ x src body :: r) l H Q X := q
theorem ss_for {x : Str} {src : Ex} {body : List Sm} {a : Addr} {o : AObj} {xs : List Value} (hs : Ev G false src l H (.ref a)) (ha : H a = some o) (ho : seqI o = some xs)
    (q : forG (fun H' => H' a = some o) x (fun l' H' K => wpSs G false body l' H' K X) xs l H (sq G false r Q X)) : wpSs G false (.for_ x src body :: r) l H Q X := ss_forW (w_ev hs (.inl ⟨rfl, iter_at ha ho q⟩))
theorem ss_forI {x : Str} {src : Ex} {body : List Sm} {a : Addr} {o : AObj} {xs : List Value} (I : List Value → Loc → Hp → Prop) (hs : Ev G false src l H (.ref a)) (ha : H a = some o) (ho : seqI o = some xs)
    (hg : ∀ r l H, I r l H → H a = some o)
    (hb : ∀ v rs l' H', I (v :: rs) l' H' → ∀ K : QS, (∀ l' H', I rs l' H' → K .next l' H' ∧ K .cont l' H') → (∀ ρ l' H', Q (.ret ρ) l' H' → K (.ret ρ) l' H') → wpSs G false body (l'.upd x v) H' K X)
    (h0 : I xs l H) (hq : ∀ l' H', I [] l' H' → wpSs G false r l' H' Q X) : wpSs G false (.for_ x src body :: r) l H Q X :=
  ss_for hs ha ho (forG_list I hg hb hq xs l H h0)
theorem ss_forR {x : Str} {e : Ex} {body : List Sm} {n : Nat} {t : Tok} (I : Nat → Loc → Hp → Prop) (he : Ev G false e l H (.int (n : Int) t)) (hz : n < 2 ^ 60)
    (hb : ∀ i, i < n → ∀ l' H', I i l' H' → ∀ K : QS, (∀ l' H', I (i + 1) l' H' → K .next l' H' ∧ K .cont l' H') → (∀ ρ l' H', Q (.ret ρ) l' H' → K (.ret ρ) l' H') → wpSs G false body (l'.upd x (.int (i : Int) 0)) H' K X)
    (h0 : ∀ c, H c = none → I 0 l (H.upd c (.range 0 n 1))) (hq : ∀ l' H', I n l' H' → wpSs G false r l' H' Q X) : wpSs G false (.for_ x (.bf .range [e]) body :: r) l H Q X :=
  ss_forW (w_range he (by omega) (by omega) fun c hc => .inl ⟨rfl, by
    have h1 := h0 c hc
    have hcc : (H.upd c (.range 0 n 1)) c = some (.range 0 n 1) := Hp.upd_same _ _ _
    generalize H.upd c (.range 0 n 1) = H1 at *
    conv => whnf
    rw [hcc]
    exact ⟨small_nat hz, forG_range I (fun _ _ _ _ => trivial) hb hq h1⟩⟩)
/-! try -/
/-! a def's call -/
noncomputable def fq (Q : QV) : QS := fun f _ H' => match f with | .next => Q .none H' | .ret v => Q v H' | .cont => False
noncomputable def fx (X : XV) : XS := fun C _ H' => X C H'
theorem f_in {ps : List Str} {body : List Sm} {args : List Value} {Q : QV} {X : XV} (hl : ps.length = args.length) (q : wpSs G hm body (fun x => (ps.zip args).lookup x) H (fq Q) (fx X)) : wpF G hm ps body args H Q X := ⟨hl, q⟩
end
end Mine
end

section
open PySem PyProof.Rows
namespace Mine.St
open Mine

noncomputable def b_is_name : List Sm := [.ite (.bop false [.not (.isi (.loc "thing") .str), .not (.cmp2 (.int 1) .LtE (.bf .len [.loc "thing"]) .LtE (.glob "MOST"))]) [.ret (.bool false)] [], .ret (.bf .all [.comp (.cmp (.loc "sign") .In (.glob "LETTERS")) "sign" (.loc "thing") []])]
noncomputable def b_checked : List Sm := [.ite (.bop false [.not (.isi (.loc "path") .listOrTuple), .cmp (.bf .len [.loc "path"]) .Gt (.glob "MOST")]) [.raise "BadPath"] [], .ite (.not (.bf .all [.comp (.call (.glob "is_name") [.loc "one"]) "one" (.loc "path") []])) [.raise "BadPath"] [], .ret (.bf .list [.loc "path"])]
noncomputable def b_Pile___init__ : List Sm := [.asgAttr (.loc "self") "boxes" (.dict [] []), .asgAttr (.loc "self") "counts" (.dict [] []), .asgAttr (.loc "self") "made" (.int 0)]
noncomputable def b_Pile_need : List Sm := [.ite (.bop false [.isi (.loc "box") .bool, .not (.isi (.loc "box") .int), .cmp (.loc "box") .NotIn (.attr (.loc "self") "boxes")]) [.raise "NoBox"] [], .ret (.loc "box")]
noncomputable def b_Pile_fresh : List Sm := [.asgAttr (.loc "self") "made" (.bin .Add (.attr (.loc "self") "made") (.int 1)), .asgIdx (.attr (.loc "self") "boxes") (.attr (.loc "self") "made") (.loc "what"), .asgIdx (.attr (.loc "self") "counts") (.attr (.loc "self") "made") (.int 0), .ret (.attr (.loc "self") "made")]
noncomputable def b_Pile_leaf : List Sm := [.ret (.meth (.loc "self") "fresh" [.tup [.str "leaf", .loc "number"]])]
noncomputable def b_Pile_branch : List Sm := [.for_ "row" (.loc "rows") [.expr (.meth (.loc "self") "need" [.idx (.loc "row") (.int 1)])], .for_ "row" (.loc "rows") [.expr (.meth (.loc "self") "hold" [.idx (.loc "row") (.int 1)])], .ret (.meth (.loc "self") "fresh" [.tup [.str "branch", .bf .list [.loc "rows"]]])]
noncomputable def b_Pile_content : List Sm := [.asg "what" (.idx (.attr (.loc "self") "boxes") (.meth (.loc "self") "need" [.loc "box"])), .ite (.cmp (.idx (.loc "what") (.int 0)) .Eq (.str "branch")) [.ret (.tup [.str "branch", .bf .list [.idx (.loc "what") (.int 1)]])] [], .ret (.loc "what")]
noncomputable def b_Pile_hold : List Sm := [.expr (.meth (.loc "self") "need" [.loc "box"]), .asgIdx (.attr (.loc "self") "counts") (.loc "box") (.bin .Add (.idx (.attr (.loc "self") "counts") (.loc "box")) (.int 1))]
noncomputable def b_Pile_holders : List Sm := [.ret (.idx (.attr (.loc "self") "counts") (.meth (.loc "self") "need" [.loc "box"]))]
noncomputable def b_Pile_let_go : List Sm := [.asg "waiting" (.list [.meth (.loc "self") "need" [.loc "box"]]), .asg "gone" (.int 0), .while_ (.cmp (.loc "waiting") .NotEq (.list [])) [.asg "one" (.bm .pop (.loc "waiting") []), .ite (.cmp (.loc "one") .NotIn (.attr (.loc "self") "boxes")) [.cont] [], .asgIdx (.attr (.loc "self") "counts") (.loc "one") (.bf .max2 [.int 0, .bin .Sub (.idx (.attr (.loc "self") "counts") (.loc "one")) (.int 1)]), .ite (.cmp (.idx (.attr (.loc "self") "counts") (.loc "one")) .Eq (.int 0)) [.asg "what" (.bm .pop (.attr (.loc "self") "boxes") [.loc "one"]), .expr (.bm .pop (.attr (.loc "self") "counts") [.loc "one"]), .asg "gone" (.bin .Add (.loc "gone") (.int 1)), .ite (.cmp (.idx (.loc "what") (.int 0)) .Eq (.str "branch")) [.asg "waiting" (.bin .Add (.loc "waiting") (.comp (.idx (.loc "row") (.int 1)) "row" (.idx (.loc "what") (.int 1)) []))] []] []], .ret (.loc "gone")]
noncomputable def b_Pile_kept : List Sm := [.ret (.bf .sorted [.attr (.loc "self") "boxes"])]
noncomputable def b_box_of : List Sm := [.for_ "row" (.loc "rows") [.ite (.cmp (.idx (.loc "row") (.int 0)) .Eq (.loc "name")) [.ret (.idx (.loc "row") (.int 1))] []], .ret (.none)]
noncomputable def b_without : List Sm := [.ret (.comp (.loc "row") "row" (.loc "rows") [.cmp (.idx (.loc "row") (.int 0)) .NotEq (.loc "name")])]
noncomputable def b_placed : List Sm := [.asg "ahead" (.comp (.loc "row") "row" (.loc "rows") [.cmp (.idx (.loc "row") (.int 0)) .Lt (.loc "name")]), .asg "behind" (.comp (.loc "row") "row" (.loc "rows") [.cmp (.idx (.loc "row") (.int 0)) .Gt (.loc "name")]), .ret (.bin .Add (.bin .Add (.loc "ahead") (.list [.tup [.loc "name", .loc "box"]])) (.loc "behind"))]
noncomputable def b_need_way : List Sm := [.asg "names" (.call (.glob "checked") [.loc "path"]), .ite (.cmp (.loc "names") .Eq (.list [])) [.raise "BadPath"] [], .ret (.loc "names")]
noncomputable def b_need_number : List Sm := [.ite (.bop false [.isi (.loc "number") .bool, .not (.isi (.loc "number") .int), .not (.cmp2 (.neg (.glob "BOUND")) .Lt (.loc "number") .Lt (.glob "BOUND"))]) [.raise "BadNumber"] []]
noncomputable def b_Store___init__ : List Sm := [.asgAttr (.loc "self") "pile" (.call (.glob "Pile") []), .asgAttr (.loc "self") "tree" (.meth (.attr (.loc "self") "pile") "branch" [.list []]), .expr (.meth (.attr (.loc "self") "pile") "hold" [.attr (.loc "self") "tree"]), .asgAttr (.loc "self") "shots" (.dict [] []), .asgAttr (.loc "self") "last" (.int 0)]
noncomputable def b_Store_top : List Sm := [.ite (.cmp (.loc "view") .Is (.none)) [.ret (.attr (.loc "self") "tree")] [], .ite (.bop false [.isi (.loc "view") .bool, .not (.isi (.loc "view") .int), .cmp (.loc "view") .NotIn (.attr (.loc "self") "shots")]) [.raise "NoShot"] [], .ret (.idx (.attr (.loc "self") "shots") (.loc "view"))]
noncomputable def b_Store_found : List Sm := [.for_ "name" (.loc "names") [.asg "what" (.meth (.attr (.loc "self") "pile") "content" [.loc "box"]), .ite (.cmp (.idx (.loc "what") (.int 0)) .Eq (.str "leaf")) [.ret (.none)] [], .asg "box" (.call (.glob "box_of") [.idx (.loc "what") (.int 1), .loc "name"]), .ite (.cmp (.loc "box") .Is (.none)) [.ret (.none)] []], .ret (.loc "box")]
noncomputable def b_Store_ways : List Sm := [.asg "found" (.list []), .for_ "k" (.bf .range [.bf .len [.loc "names"]]) [.asg "box" (.meth (.loc "self") "found" [.attr (.loc "self") "tree", .slice (.loc "names") none (some (.loc "k"))]), .ite (.cmp (.loc "box") .Is (.none)) [.expr (.bm .append (.loc "found") [.list []])] [.expr (.bm .append (.loc "found") [.idx (.meth (.attr (.loc "self") "pile") "content" [.loc "box"]) (.int 1)])]], .ret (.loc "found")]
noncomputable def b_Store_changed : List Sm := [.asg "old" (.attr (.loc "self") "tree"), .expr (.meth (.attr (.loc "self") "pile") "hold" [.loc "box"]), .asgAttr (.loc "self") "tree" (.loc "box"), .ret (.meth (.attr (.loc "self") "pile") "let_go" [.loc "old"])]
noncomputable def b_Store_put : List Sm := [.asg "names" (.call (.glob "need_way") [.loc "path"]), .expr (.call (.glob "need_number") [.loc "number"]), .for_ "k" (.bf .range [.int 1, .bf .len [.loc "names"]]) [.ite (.cmp (.meth (.loc "self") "kind" [.none, .slice (.loc "names") none (some (.loc "k"))]) .Eq (.str "leaf")) [.raise "LeafThere"] []], .asg "kind" (.meth (.loc "self") "kind" [.none, .loc "names"]), .ite (.cmp (.loc "kind") .Eq (.str "branch")) [.raise "BranchThere"] [], .ite (.bop true [.cmp (.loc "kind") .Eq (.str "leaf"), .cmp (.meth (.loc "self") "value" [.none, .loc "names"]) .Eq (.loc "number")]) [.ret (.int 0)] [], .asg "ways" (.meth (.loc "self") "ways" [.loc "names"]), .asg "box" (.meth (.attr (.loc "self") "pile") "leaf" [.loc "number"]), .for_ "k" (.bf .range [.bin .Sub (.bf .len [.loc "names"]) (.int 1), .neg (.int 1), .neg (.int 1)]) [.asg "box" (.meth (.attr (.loc "self") "pile") "branch" [.call (.glob "placed") [.idx (.loc "ways") (.loc "k"), .idx (.loc "names") (.loc "k"), .loc "box"]])], .ret (.meth (.loc "self") "changed" [.loc "box"])]
noncomputable def b_Store_cut : List Sm := [.asg "names" (.call (.glob "need_way") [.loc "path"]), .ite (.cmp (.meth (.loc "self") "found" [.attr (.loc "self") "tree", .loc "names"]) .Is (.none)) [.raise "Nothing"] [], .asg "ways" (.meth (.loc "self") "ways" [.loc "names"]), .asg "box" (.meth (.attr (.loc "self") "pile") "branch" [.call (.glob "without") [.idx (.loc "ways") (.neg (.int 1)), .idx (.loc "names") (.neg (.int 1))]]), .for_ "k" (.bf .range [.bin .Sub (.bf .len [.loc "names"]) (.int 2), .neg (.int 1), .neg (.int 1)]) [.asg "box" (.meth (.attr (.loc "self") "pile") "branch" [.call (.glob "placed") [.idx (.loc "ways") (.loc "k"), .idx (.loc "names") (.loc "k"), .loc "box"]])], .ret (.meth (.loc "self") "changed" [.loc "box"])]
noncomputable def b_Store_snap : List Sm := [.asgAttr (.loc "self") "last" (.bin .Add (.attr (.loc "self") "last") (.int 1)), .asgIdx (.attr (.loc "self") "shots") (.attr (.loc "self") "last") (.attr (.loc "self") "tree"), .expr (.meth (.attr (.loc "self") "pile") "hold" [.attr (.loc "self") "tree"]), .ret (.attr (.loc "self") "last")]
noncomputable def b_Store_shot : List Sm := [.ite (.cmp (.loc "number") .Is (.none)) [.raise "NoShot"] [], .ret (.meth (.loc "self") "top" [.loc "number"])]
noncomputable def b_Store_drop : List Sm := [.asg "box" (.meth (.loc "self") "shot" [.loc "shot"]), .expr (.bm .pop (.attr (.loc "self") "shots") [.loc "shot"]), .ret (.meth (.attr (.loc "self") "pile") "let_go" [.loc "box"])]
noncomputable def b_Store_back : List Sm := [.ret (.meth (.loc "self") "changed" [.meth (.loc "self") "shot" [.loc "shot"]])]
noncomputable def b_Store_shot_numbers : List Sm := [.ret (.bf .sorted [.attr (.loc "self") "shots"])]
noncomputable def b_Store_kind : List Sm := [.asg "box" (.meth (.loc "self") "found" [.meth (.loc "self") "top" [.loc "view"], .call (.glob "checked") [.loc "path"]]), .ite (.cmp (.loc "box") .Is (.none)) [.ret (.none)] [], .ret (.idx (.meth (.attr (.loc "self") "pile") "content" [.loc "box"]) (.int 0))]
noncomputable def b_Store_value : List Sm := [.asg "kind" (.meth (.loc "self") "kind" [.loc "view", .loc "path"]), .ite (.cmp (.loc "kind") .Is (.none)) [.raise "Nothing"] [], .ite (.cmp (.loc "kind") .Eq (.str "branch")) [.raise "BranchThere"] [], .ret (.idx (.meth (.attr (.loc "self") "pile") "content" [.meth (.loc "self") "found" [.meth (.loc "self") "top" [.loc "view"], .call (.glob "checked") [.loc "path"]]]) (.int 1))]
noncomputable def b_Store_names : List Sm := [.asg "kind" (.meth (.loc "self") "kind" [.loc "view", .loc "path"]), .ite (.cmp (.loc "kind") .Is (.none)) [.raise "Nothing"] [], .ite (.cmp (.loc "kind") .Eq (.str "leaf")) [.raise "LeafThere"] [], .asg "rows" (.idx (.meth (.attr (.loc "self") "pile") "content" [.meth (.loc "self") "found" [.meth (.loc "self") "top" [.loc "view"], .call (.glob "checked") [.loc "path"]]]) (.int 1)), .ret (.comp (.idx (.loc "row") (.int 0)) "row" (.loc "rows") [])]
noncomputable def b_Store_both : List Sm := [.ite (.cmp (.loc "box") .Is (.none)) [.ret (.tup [.none, .list []])] [], .asg "what" (.meth (.attr (.loc "self") "pile") "content" [.loc "box"]), .ite (.cmp (.idx (.loc "what") (.int 0)) .Eq (.str "leaf")) [.ret (.tup [.idx (.loc "what") (.int 1), .list []])] [], .ret (.tup [.none, .idx (.loc "what") (.int 1)])]
/-! ## dicts as lists of pairs -/
section
variable {α : Type}
noncomputable def get (l : List (Int × α)) (i : Int) : Option α := (l.find? fun p => p.1 = i).map (·.2)
noncomputable def put (l : List (Int × α)) (i : Int) (a : α) : List (Int × α) := if l.any (fun p => p.1 = i) then l.map (fun p => if p.1 = i then (p.1, a) else p) else l ++ [(i, a)]
noncomputable def del (l : List (Int × α)) (i : Int) : List (Int × α) := l.filter fun p => decide (p.1 ≠ i)

theorem all2_append {β : Type} {R : α → β → Prop} {a1 a2 : List α} {b1 b2 : List β} (h1 : All2 R a1 b1) (h2 : All2 R a2 b2) : All2 R (a1 ++ a2) (b1 ++ b2) := by
  induction h1 with
  | nil => exact h2
  | cons h _ ih => exact .cons h ih
theorem all2_len {β : Type} {R : α → β → Prop} {a : List α} {b : List β} (h : All2 R a b) : a.length = b.length := by
  induction h with
  | nil => rfl
  | cons _ _ ih => simp [ih]
theorem all2_imp {β : Type} {R S : α → β → Prop} (f : ∀ a b, R a b → S a b) {a : List α} {b : List β} (h : All2 R a b) : All2 S a b := by
  induction h with
  | nil => exact .nil
  | cons h _ ih => exact .cons (f _ _ h) ih

end

noncomputable abbrev Ad := Str → Str → Addr
noncomputable def has (x : Str) (l : List Str) : Bool := l.any fun y => decide (y = x)
structure Env (G : Gx) (A : Ad) : Prop where
  nobox : G.glob "NoBox" = some (.ref (A "NoBox" ""))
  nobe : G.isExc (A "NoBox" "") = true
  pm : ∀ {m : Str}, has m ["need", "fresh", "leaf", "branch", "content", "hold", "holders", "let_go", "kept"] = true → G.meth (A "Pile" "") m = some (A "Pile" m)
  pf : ∀ {a : Str}, has a ["boxes", "counts", "made"] = true → G.fld (A "Pile" "") a = true
structure EnvS (G : Gx) (A : Ad) : Prop where
  p : Env G A
  ex : ∀ {x : Str}, has x ["SnapError", "BadPath", "BadNumber", "Nothing", "LeafThere", "BranchThere", "NoShot"] = true → G.glob x = some (.ref (A x "")) ∧ G.isExc (A x "") = true
  fn : ∀ {x : Str}, has x ["is_name", "checked", "box_of", "placed", "need_way", "need_number"] = true → G.glob x = some (.ref (A x "")) ∧ G.init (A x "") = none
  letters : G.glob "LETTERS" = some (.str "abcdefghijklmnopqrstuvwxyz" 0)
  most : G.glob "MOST" = some (.int 8 0)
  bound : G.glob "BOUND" = some (.int (10 ^ 30) 0)
  pile : G.glob "Pile" = some (.ref (A "Pile" ""))
  ipile : G.init (A "Pile" "") = some (A "Pile" "__init__")
  store : G.glob "Store" = some (.ref (A "Store" ""))
  istore : G.init (A "Store" "") = some (A "Store" "__init__")
  sm : ∀ {m : Str}, has m ["top", "found", "ways", "changed", "put", "cut", "snap", "shot", "drop", "back", "shot_numbers", "kind", "value", "names", "both", "changes"] = true → G.meth (A "Store" "") m = some (A "Store" m)
  sf : ∀ {a : Str}, has a ["pile", "tree", "shots", "last"] = true → G.fld (A "Store" "") a = true

structure PileAt (A : Ad) (H : Hp) (x d bx ct : Addr) (bs cs : List (Int × Value)) (mk : Int) : Prop where
  i : H x = some (.inst (A "Pile" "") d)
  n : H d = some (.ns [("boxes", .ref bx), ("counts", .ref ct), ("made", .int mk 0)])
  b : H bx = some (.idict bs)
  c : H ct = some (.idict cs)
  ne : bx ≠ ct

inductive Ct where
  | leaf (n : Int)
  | br (rows : List (Str × Int))

noncomputable def chg : AObj → Bool
  | .ns _ => true
  | .idict _ => true
  | .sdict _ => true
  | _ => false
/-- what there is stays, but for the changing things of M -/
noncomputable def Kp (M : List Addr) (H H' : Hp) : Prop := ∀ a o, H a = some o → (chg o = false ∨ a ∉ M) → H' a = some o
theorem Kp.refl (M : List Addr) (H : Hp) : Kp M H H := fun _ _ h _ => h
theorem Kp.trans {M : List Addr} {H H1 H2 : Hp} (h1 : Kp M H H1) (h2 : Kp M H1 H2) : Kp M H H2 := fun a o h n => h2 a o (h1 a o h n) n
theorem kp_new {M : List Addr} {H : Hp} {c : Addr} (hc : H c = none) (o : AObj) : Kp M H (H.upd c o) := fun a o' h _ => (Hp.upd_ne _ _ fun e => by rw [e, hc] at h; cases h).trans h
theorem kp_upd {M : List Addr} {H : Hp} {d : Addr} {o' : AObj} (hd : H d = some o') (hm : chg o' = true) (hM : d ∈ M) (o : AObj) : Kp M H (H.upd d o) := fun a p h n => by
  refine (Hp.upd_ne _ _ fun e => ?_).trans h
  subst e
  rw [hd] at h; cases h
  rcases n with n | n
  · rw [hm] at n; cases n
  · exact n hM
theorem Kp.tup {M : List Addr} {H H' : Hp} (h : Kp M H H') {a : Addr} {xs : List Value} (e : H a = some (.tup xs)) : H' a = some (.tup xs) := h a _ e (.inl rfl)
theorem Kp.list {M : List Addr} {H H' : Hp} (h : Kp M H H') {a : Addr} {xs : List Value} (e : H a = some (.list xs)) : H' a = some (.list xs) := h a _ e (.inl rfl)
theorem Kp.rlist {M : List Addr} {H H' : Hp} (h : Kp M H H') {a : Addr} {xs : List Value} (e : H a = some (.rlist xs)) : H' a = some (.rlist xs) := h a _ e (.inl rfl)
noncomputable def RRow (H : Hp) (v : Value) (r : Str × Int) : Prop := ∃ a, v = .ref a ∧ H a = some (.tup [.str r.1 0, .int r.2 0])
noncomputable def RCt (H : Hp) (v : Value) : Ct → Prop
  | .leaf n => ∃ a, v = .ref a ∧ H a = some (.tup [.str (Str.ofString "leaf") 0, .int n 0])
  | .br rows => ∃ a l xs, v = .ref a ∧ H a = some (.tup [.str (Str.ofString "branch") 0, .ref l]) ∧ H l = some (.list xs) ∧ All2 (RRow H) xs rows
theorem RRow.kp {M : List Addr} {H H' : Hp} (k : Kp M H H') {v : Value} {r : Str × Int} (h : RRow H v r) : RRow H' v r := let ⟨a, e, q⟩ := h; ⟨a, e, k.tup q⟩
structure PA where
  x : Addr
  d : Addr
  bx : Addr
  ct : Addr
noncomputable abbrev PA.M (π : PA) : List Addr := [π.d, π.bx, π.ct]
noncomputable def vints (cs : List (Int × Int)) : List (Int × Value) := cs.map fun p => (p.1, .int p.2 0)


structure PileR (A : Ad) (H : Hp) (π : PA) (bs : List (Int × Ct)) (cs : List (Int × Int)) (mk : Int) : Prop where
  ex : ∃ bvs, PileAt A H π.x π.d π.bx π.ct bvs (vints cs) mk ∧ All2 (fun p q => p.1 = q.1 ∧ RCt H p.2 q.2) bvs bs

end Mine.St
end

section
open PySem PyProof.Rows Mine Mine.St
local macro_rules | `(tactic| got_up) => `(tactic| first | assumption | exact PileAt.i ‹_› | exact PileAt.n ‹_› | exact PileAt.b ‹_› | exact PileAt.c ‹_›)
local macro_rules | `(tactic| nest_cls) => `(tactic| first
  | assumption | exact Env.pf ‹_› rfl | exact Env.pm ‹_› rfl
  | exact Env.pf (EnvS.p ‹_›) rfl | exact Env.pm (EnvS.p ‹_›) rfl | exact EnvS.sf ‹_› rfl | exact EnvS.sm ‹_› rfl
  | exact EnvS.letters ‹_› | exact EnvS.most ‹_› | exact EnvS.bound ‹_› | exact EnvS.pile ‹_› | exact EnvS.store ‹_› | exact EnvS.ipile ‹_› | exact EnvS.istore ‹_›
  | exact (EnvS.fn ‹_› rfl).1 | exact (EnvS.fn ‹_› rfl).2 | exact (EnvS.ex ‹_› rfl).1 | exact (EnvS.ex ‹_› rfl).2 | exact Env.nobox ‹_› | exact Env.nobe ‹_›)
local macro_rules | `(tactic| mem_news) => `(tactic| first
  | exact ev_loc rfl | exact ev_loc (by assumption) | exact ev_int | exact ev_str | exact ev_none | exact ev_bool
  | (apply ev_glob; nest_cls)
  | (apply ev_attr; mem_news; got_up; got_up; nest_cls; rfl; rfl)
  | (apply ev_at; mem_news; mem_news; got_up; rfl; (first | rfl | assumption))
  | (apply ev_key; mem_news; mem_news; got_up; assumption)
  | ((first | apply ev_not | apply ev_isi); mem_news; rfl)
  | ((first | apply ev_isir | apply ev_len); mem_news; got_up; rfl)
  | ((first | apply ev_is | apply ev_isnot); mem_news; (first | rfl | assumption))
  | ((first | apply ev_add | apply ev_sub | apply ev_max | apply ev_min | apply ev_go | apply evl_cons); mem_news; mem_news)
  | (apply ev_stop; mem_news)
  | ((first | apply ev_neg | apply ev_one); mem_news)
  | ((first | apply ev_eq | apply ev_ne | apply ev_lt | apply ev_gt); mem_news; mem_news; (first | rfl | assumption))
  | ((first | apply ev_eqs | apply ev_nes | apply ev_lts | apply ev_gts | apply ev_ins); mem_news; mem_news; (first | rfl | assumption))
  | ((first | apply ev_in | apply ev_notin); mem_news; mem_news; got_up; (first | rfl | assumption))
  | exact evl_nil)

section
open PySem PyProof.Rows
namespace Mine.St
open Mine
theorem ev_cast {G : Gx} {hm : Bool} {e : Ex} {l : Loc} {H : Hp} {v w : Value} (h : Ev G hm e l H v) (q : v = w) : Ev G hm e l H w := q ▸ h
section
variable {A : Ad} {G : Gx} {H : Hp} {π : PA} {bs : List (Int × Ct)} {cs : List (Int × Int)} {mk : Int} {Q : QV} {X : XV}

noncomputable def HasF (tab : Tab) (f : Addr) (ps : List Str) (b : List Sm) : Prop := tab f = some (ps, b)
theorem fn_gg {g : Gx} {tab : Tab} {n : Nat} {f : Addr} {ps : List Str} {b : List Sm} (e : HasF tab f ps b) {hm : Bool} {args : List Value} {H : Hp} {Q : QV} {X : XV} (h : wpF (GG g tab n) hm ps b args H Q X) : (GG g tab (n + 1)).fn f hm args H Q X := by
  show (match tab f with | some (ps, sm) => wpF (GG g tab n) hm ps sm args H Q X | none => False)
  have e : tab f = some (ps, b) := e
  rw [e]; exact h
/-! ### Pile -/
noncomputable def C_need (G : Gx) (A : Ad) : Prop := ∀ ⦃H : Hp⦄ ⦃π : PA⦄ ⦃bs : List (Int × Ct)⦄ ⦃cs : List (Int × Int)⦄ ⦃mk : Int⦄, PileR A H π bs cs mk → ∀ ⦃i : Int⦄ ⦃t : Tok⦄ ⦃c : Ct⦄, get bs i = some c → ∀ ⦃hm : Bool⦄ ⦃Q : QV⦄ ⦃X : XV⦄, Q (.int i t) H → G.fn (A "Pile" "need") hm [.ref π.x, .int i t] H Q X
noncomputable def C_fresh (G : Gx) (A : Ad) : Prop := ∀ ⦃H : Hp⦄ ⦃π : PA⦄ ⦃bs : List (Int × Ct)⦄ ⦃cs : List (Int × Int)⦄ ⦃mk : Int⦄, PileR A H π bs cs mk → ∀ ⦃v : Value⦄ ⦃c : Ct⦄, RCt H v c → bs.length ≤ sizeLine → cs.length ≤ sizeLine → ∀ ⦃Q : QV⦄ ⦃X : XV⦄,
  (∀ H', PileR A H' π (put bs (mk + 1) c) (put cs (mk + 1) 0) (mk + 1) → Kp π.M H H' → Q (.int (mk + 1) 0) H') → G.fn (A "Pile" "fresh") false [.ref π.x, v] H Q X
noncomputable def C_hold (G : Gx) (A : Ad) : Prop := ∀ ⦃H : Hp⦄ ⦃π : PA⦄ ⦃bs : List (Int × Ct)⦄ ⦃cs : List (Int × Int)⦄ ⦃mk : Int⦄, PileR A H π bs cs mk → ∀ ⦃i k : Int⦄ ⦃t : Tok⦄ ⦃c : Ct⦄, get bs i = some c → get cs i = some k → cs.length ≤ sizeLine → ∀ ⦃Q : QV⦄ ⦃X : XV⦄,
  (∀ H', PileR A H' π bs (put cs i (k + 1)) mk → Kp π.M H H' → Q .none H') → G.fn (A "Pile" "hold") false [.ref π.x, .int i t] H Q X
noncomputable def C_holders (G : Gx) (A : Ad) : Prop := ∀ ⦃H : Hp⦄ ⦃π : PA⦄ ⦃bs : List (Int × Ct)⦄ ⦃cs : List (Int × Int)⦄ ⦃mk : Int⦄, PileR A H π bs cs mk → ∀ ⦃i k : Int⦄ ⦃t : Tok⦄ ⦃c : Ct⦄, get bs i = some c → get cs i = some k → ∀ ⦃Q : QV⦄ ⦃X : XV⦄,
  Q (.int k 0) H → G.fn (A "Pile" "holders") false [.ref π.x, .int i t] H Q X
noncomputable def C_leaf (G : Gx) (A : Ad) : Prop := ∀ ⦃H : Hp⦄ ⦃π : PA⦄ ⦃bs : List (Int × Ct)⦄ ⦃cs : List (Int × Int)⦄ ⦃mk : Int⦄, PileR A H π bs cs mk → ∀ ⦃n : Int⦄, bs.length ≤ sizeLine → cs.length ≤ sizeLine → ∀ ⦃Q : QV⦄ ⦃X : XV⦄,
  (∀ H', PileR A H' π (put bs (mk + 1) (.leaf n)) (put cs (mk + 1) 0) (mk + 1) → Kp π.M H H' → Q (.int (mk + 1) 0) H') → G.fn (A "Pile" "leaf") false [.ref π.x, .int n 0] H Q X
/-- what a box's content is told as: where it is a branch, its list is new -/
noncomputable def C_content (G : Gx) (A : Ad) : Prop := ∀ ⦃H : Hp⦄ ⦃π : PA⦄ ⦃bs : List (Int × Ct)⦄ ⦃cs : List (Int × Int)⦄ ⦃mk : Int⦄, PileR A H π bs cs mk → ∀ ⦃i : Int⦄ ⦃t : Tok⦄ ⦃c : Ct⦄, get bs i = some c → (∀ rows, c = .br rows → rows.length ≤ sizeLine) → ∀ ⦃hm : Bool⦄ ⦃Q : QV⦄ ⦃X : XV⦄,
  (∀ v H', RCt H' v c → Kp [] H H' → (∀ a l u, v = .ref a → H' a = some (.tup [u, .ref l]) → H l = none) → Q v H') → G.fn (A "Pile" "content") hm [.ref π.x, .int i t] H Q X
end
end Mine.St
end

section
open PySem PyProof.Rows
namespace Mine.St
open Mine
section
variable {A : Ad} {G : Gx} {H : Hp} {π : PA} {bs : List (Int × Ct)} {cs : List (Int × Int)} {mk : Int} {Q : QV} {X : XV}

noncomputable def holdAll (cs : List (Int × Int)) : List (Str × Int) → Option (List (Int × Int))
  | [] => some cs
  | r :: rows => match get cs r.2 with
    | some k => holdAll (put cs r.2 (k + 1)) rows
    | none => none
noncomputable def C_branch (G : Gx) (A : Ad) : Prop := ∀ ⦃H : Hp⦄ ⦃π : PA⦄ ⦃bs : List (Int × Ct)⦄ ⦃cs : List (Int × Int)⦄ ⦃mk : Int⦄, PileR A H π bs cs mk → ∀ ⦃rl : Addr⦄ ⦃xs : List Value⦄ ⦃rows : List (Str × Int)⦄ ⦃cs' : List (Int × Int)⦄, H rl = some (.list xs) → All2 (RRow H) xs rows → (∀ r ∈ rows, ∃ c, get bs r.2 = some c) → holdAll cs rows = some cs' →
  bs.length ≤ sizeLine → cs.length ≤ sizeLine → rows.length ≤ sizeLine → ∀ ⦃Q : QV⦄ ⦃X : XV⦄, (∀ H', PileR A H' π (put bs (mk + 1) (.br rows)) (put cs' (mk + 1) 0) (mk + 1) → Kp π.M H H' → Q (.int (mk + 1) 0) H') → G.fn (A "Pile" "branch") false [.ref π.x, .ref rl] H Q X
section
variable {rl : Addr} {xs : List Value} {rows : List (Str × Int)} {cs' : List (Int × Int)} {l : Loc} {H0 : Hp}
structure BrI (A : Ad) (π : PA) (mk : Int) (H0 : Hp) (bs : List (Int × Ct)) (cs' : List (Int × Int)) (rl : Addr) (r : List Value) (rs : List (Str × Int)) (cs1 : List (Int × Int)) (l : Loc) (H : Hp) : Prop where
  g1 : l "self" = some (.ref π.x)
  g2 : l "rows" = some (.ref rl)
  k : Kp π.M H0 H
  w : All2 (RRow H0) r rs
  b : ∀ x ∈ rs, ∃ c, get bs x.2 = some c
  h : PileR A H π bs cs1 mk
  hh : holdAll cs1 rs = some cs'
  z : cs1.length ≤ sizeLine
structure BrJ (π : PA) (H0 : Hp) (bs : List (Int × Ct)) (rl : Addr) (r : List Value) (rs : List (Str × Int)) (l : Loc) (H : Hp) : Prop where
  e : H = H0
  g1 : l "self" = some (.ref π.x)
  g2 : l "rows" = some (.ref rl)
  w : All2 (RRow H0) r rs
  b : ∀ x ∈ rs, ∃ c, get bs x.2 = some c
end

noncomputable def kids : Ct → List Int
  | .leaf _ => []
  | .br rows => rows.map (·.2)
noncomputable abbrev LgV := Option (List (Int × Ct) × List (Int × Int) × Int)
noncomputable def lgoB (rec : List Int → List (Int × Ct) → List (Int × Int) → Int → LgV) (one : Int) (w : List Int) (bs : List (Int × Ct)) (cs : List (Int × Int)) (g : Int) : LgV := match get bs one with
  | none => rec w bs cs g
  | some c => match get cs one with
    | none => none
    | some k => if max 0 (k - 1) = 0 then (if (kids c).length ≤ 2 ^ 20 then rec (w ++ kids c) (del bs one) (del (put cs one (max 0 (k - 1))) one) (g + 1) else none) else rec w bs (put cs one (max 0 (k - 1))) g
noncomputable def lgo : Nat → List Int → List (Int × Ct) → List (Int × Int) → Int → LgV
  | 0, _, _, _, _ => none
  | n + 1, w, bs, cs, g => if w.length ≤ 2 ^ 20 ∧ bs.length ≤ 2 ^ 20 ∧ cs.length ≤ 2 ^ 20 then (match w.getLast? with
    | none => some (bs, cs, g)
    | some one => lgoB (lgo n) one w.dropLast bs cs g) else none
section
variable {n : Nat} {one g k : Int} {w : List Int} {bs : List (Int × Ct)} {cs : List (Int × Int)} {c : Ct} {r : List (Int × Ct) × List (Int × Int) × Int} {rec : List Int → List (Int × Ct) → List (Int × Int) → Int → LgV}
end

theorem eqv_nil (w : List PyData) : PyData.eqv (.list w) (.list []) = w.isEmpty := by
  cases w <;> rfl

noncomputable def lgC : Ex := .cmp (.loc "waiting") .NotEq (.list [])
noncomputable def lgG : List Sm := [.asg "what" (.bm .pop (.attr (.loc "self") "boxes") [.loc "one"]), .expr (.bm .pop (.attr (.loc "self") "counts") [.loc "one"]), .asg "gone" (.bin .Add (.loc "gone") (.int 1)), .ite (.cmp (.idx (.loc "what") (.int 0)) .Eq (.str "branch")) [.asg "waiting" (.bin .Add (.loc "waiting") (.comp (.idx (.loc "row") (.int 1)) "row" (.idx (.loc "what") (.int 1)) []))] []]
noncomputable def lgB : List Sm := [.asg "one" (.bm .pop (.loc "waiting") []), .ite (.cmp (.loc "one") .NotIn (.attr (.loc "self") "boxes")) [.cont] [], .asgIdx (.attr (.loc "self") "counts") (.loc "one") (.bf .max2 [.int 0, .bin .Sub (.idx (.attr (.loc "self") "counts") (.loc "one")) (.int 1)]), .ite (.cmp (.idx (.attr (.loc "self") "counts") (.loc "one")) .Eq (.int 0)) lgG []]

/-- the list that waits, and the pile behind it -/
structure LgI (A : Ad) (π : PA) (mk : Int) (H0 : Hp) (w : List Int) (bs : List (Int × Ct)) (cs : List (Int × Int)) (g : Int) (wl : Addr) (bvs : List (Int × Value)) (l : Loc) (H : Hp) : Prop where
  s : l "self" = some (.ref π.x)
  g : l "gone" = some (.int g 0)
  wa : l "waiting" = some (.ref wl)
  hw : H wl = some (.list (w.map fun n => Value.int n 0))
  h0 : H0 wl = none
  p : PileAt A H π.x π.d π.bx π.ct bvs (vints cs) mk
  r : All2 (fun p q => p.1 = q.1 ∧ RCt H0 p.2 q.2) bvs bs
  k : Kp π.M H0 H
theorem len_line {n : Nat} (h : n ≤ 2 ^ 20) : n ≤ sizeLine := Nat.le_trans h (by decide)
section
variable {H0 : Hp} {w : List Int} {bs : List (Int × Ct)} {cs : List (Int × Int)} {g : Int} {wl : Addr} {bvs : List (Int × Value)} {l : Loc} {X : XS} {K : QS} {one : Int} {fin : List (Int × Ct) × List (Int × Int) × Int} {n : Nat}
end
/-- what the loop asks at n -/
noncomputable def LgW (G : Gx) (X : XS) (Q : QS) (n : Nat) (l : Loc) (H : Hp) : Prop := whileN (fun l' H' K => wpE G false lgC l' H' (fun v H1 => truthV v fun b => K b H1) (fun C H' => X C l' H')) (fun l' H' K => wpSs G false lgB l' H' K X) Q n l H
section
variable {H0 : Hp} {w : List Int} {bs : List (Int × Ct)} {cs : List (Int × Int)} {g : Int} {wl : Addr} {bvs : List (Int × Value)} {l : Loc} {X : XS} {Q : QS} {r : List (Int × Ct) × List (Int × Int) × Int} {n : Nat}
end

noncomputable def C_let_go (G : Gx) (A : Ad) : Prop := ∀ ⦃H : Hp⦄ ⦃π : PA⦄ ⦃bs : List (Int × Ct)⦄ ⦃cs : List (Int × Int)⦄ ⦃mk : Int⦄, PileR A H π bs cs mk → ∀ ⦃i : Int⦄ ⦃c : Ct⦄, get bs i = some c → ∀ ⦃n : Nat⦄ ⦃bs' : List (Int × Ct)⦄ ⦃cs' : List (Int × Int)⦄ ⦃g' : Int⦄, lgo n [i] bs cs 0 = some (bs', cs', g') → ∀ ⦃Q : QV⦄ ⦃X : XV⦄,
  (∀ H', PileR A H' π bs' cs' mk → Kp π.M H H' → Q (.int g' 0) H') → G.fn (A "Pile" "let_go") false [.ref π.x, .int i 0] H Q X
structure TabP (tab : Tab) (A : Ad) : Prop where
  need : HasF tab (A "Pile" "need") ["self", "box"] b_Pile_need
  fresh : HasF tab (A "Pile" "fresh") ["self", "what"] b_Pile_fresh
  hold : HasF tab (A "Pile" "hold") ["self", "box"] b_Pile_hold
  leaf : HasF tab (A "Pile" "leaf") ["self", "number"] b_Pile_leaf
  content : HasF tab (A "Pile" "content") ["self", "box"] b_Pile_content
  branch : HasF tab (A "Pile" "branch") ["self", "rows"] b_Pile_branch
  let_go : HasF tab (A "Pile" "let_go") ["self", "box"] b_Pile_let_go

section
variable {g : Gx} {tab : Tab} (f : Env g A) (t : TabP tab A) (n : Nat)
include f t
end
end
end Mine.St
end

section
open PySem PyProof.Rows
namespace Mine.St
open Mine
section
variable {A : Ad} {G : Gx} {H : Hp} {Q : QV} {X : XV}
/-! ### names -/
noncomputable def LET : Str := "abcdefghijklmnopqrstuvwxyz"
structure Good (x : Str) : Prop where
  lo : 1 ≤ x.cps.toList.length
  hi : x.cps.toList.length ≤ 8
  cs : ∀ c ∈ x.cps.toList, 97 ≤ c ∧ c ≤ 122
noncomputable def C_is_name (G : Gx) (A : Ad) : Prop := ∀ ⦃H : Hp⦄ ⦃x : Str⦄ ⦃t : Tok⦄, Good x → ∀ ⦃Q : QV⦄ ⦃X : XV⦄, (∀ H', Kp [] H H' → Q (.bool true) H') → G.fn (A "is_name" "") false [.str x t] H Q X
structure PathAt (H : Hp) (a : Addr) (xs : List Str) : Prop where
  at_ : ∃ o, H a = some o ∧ chg o = false ∧ (o = .list (xs.map fun x => Value.str x 0) ∨ o = .tup (xs.map fun x => Value.str x 0))
  good : ∀ x ∈ xs, Good x
  len : xs.length ≤ 8
noncomputable def C_checked (G : Gx) (A : Ad) : Prop := ∀ ⦃H : Hp⦄ ⦃a : Addr⦄ ⦃xs : List Str⦄, PathAt H a xs → ∀ ⦃Q : QV⦄ ⦃X : XV⦄, (∀ b H', Kp [] H H' → H' b = some (.list (xs.map fun x => Value.str x 0)) → H b = none → Q (.ref b) H') → G.fn (A "checked" "") false [.ref a] H Q X
theorem good_ok {x : Str} (h : Good x) : PyData.canLay0 (.str x) = true := by
  show PyData.strOk x = true
  unfold PyData.strOk
  rw [← Array.all_toList, List.all_eq_true]
  intro c hc
  have := h.cs c hc
  exact decide_eq_true (by omega)
noncomputable def C_need_way (G : Gx) (A : Ad) : Prop := ∀ ⦃H : Hp⦄ ⦃a : Addr⦄ ⦃xs : List Str⦄, PathAt H a xs → xs ≠ [] → ∀ ⦃Q : QV⦄ ⦃X : XV⦄, (∀ b H', Kp [] H H' → H' b = some (.list (xs.map fun x => Value.str x 0)) → H b = none → Q (.ref b) H') → G.fn (A "need_way" "") false [.ref a] H Q X
noncomputable def C_need_number (G : Gx) (A : Ad) : Prop := ∀ ⦃H : Hp⦄ ⦃n : Int⦄ ⦃t : Tok⦄, -(10 ^ 30) < n → n < 10 ^ 30 → ∀ ⦃Q : QV⦄ ⦃X : XV⦄, Q .none H → G.fn (A "need_number" "") false [.int n t] H Q X
noncomputable def rowOf (rows : List (Str × Int)) (n : Str) : Option Int := (rows.find? fun r => decide (r.1 = n)).map (·.2)
noncomputable def optV : Option Int → Value
  | some i => .int i 0
  | none => .none
noncomputable def C_box_of (G : Gx) (A : Ad) : Prop := ∀ ⦃H : Hp⦄ ⦃rl : Addr⦄ ⦃xs : List Value⦄ ⦃rows : List (Str × Int)⦄ ⦃n : Str⦄ ⦃t : Tok⦄, H rl = some (.list xs) → All2 (RRow H) xs rows → ∀ ⦃Q : QV⦄ ⦃X : XV⦄, Q (optV (rowOf rows n)) H → G.fn (A "box_of" "") false [.ref rl, .str n t] H Q X
theorem box_of_ok {rl : Addr} {xs : List Value} {rows : List (Str × Int)} {n : Str} {t : Tok} (hl : H rl = some (.list xs)) (hr : All2 (RRow H) xs rows) (q : Q (optV (rowOf rows n)) H) : wpF G false ["rows", "name"] b_box_of [.ref rl, .str n t] H Q X := by
  refine f_in rfl ?_
  refine ss_forI (fun r l' H' => H' = H ∧ l' "name" = some (.str n t) ∧ ∃ rs, All2 (RRow H) r rs ∧ rowOf rows n = rowOf rs n) (by mem_news) hl rfl (fun r l' H' h => by rw [h.1]; exact hl) ?_ ⟨rfl, rfl, rows, hr, rfl⟩ ?_
  · rintro v r l' H' ⟨rfl, g1, rs, hw, he⟩ K hK hR
    cases hw with
    | @cons _ row _ ws' e1 e2 =>
    obtain ⟨a, rfl, ha⟩ := e1
    refine ss_if (b := decide (row.1 = n)) (by mem_news) (fun hb => ?_) fun hb => ss_nl (hK _ _ ?_).1
    · refine ss_ret (by mem_news) (hR _ _ _ ?_)
      have : rowOf rows n = some row.2 := by rw [he]; unfold rowOf; rw [List.find?_cons, hb]; rfl
      rw [this] at q; exact q
    · refine ⟨rfl, g1, ws', e2, ?_⟩
      rw [he]; unfold rowOf; rw [List.find?_cons, hb]
  · rintro l' H' ⟨rfl, g1, rs, hw, he⟩
    cases hw
    refine ss_ret (by mem_news) ?_
    rw [he] at q; exact q

noncomputable def lessS (a b : Str) : Bool := decide (a.cps.toList < b.cps.toList)
/-- rows with one put in its place -/
noncomputable def placedR (rows : List (Str × Int)) (n : Str) (b : Int) : List (Str × Int) := rows.filter (fun r => lessS r.1 n) ++ [(n, b)] ++ rows.filter (fun r => lessS n r.1)
noncomputable def C_placed (G : Gx) (A : Ad) : Prop := ∀ ⦃H : Hp⦄ ⦃rl : Addr⦄ ⦃xs : List Value⦄ ⦃rows : List (Str × Int)⦄ ⦃n : Str⦄ ⦃b : Int⦄, H rl = some (.list xs) → All2 (RRow H) xs rows → rows.length ≤ 2 ^ 20 → ∀ ⦃Q : QV⦄ ⦃X : XV⦄, (∀ c ys H', Kp [] H H' → H' c = some (.list ys) → All2 (RRow H') ys (placedR rows n b) → Q (.ref c) H') → G.fn (A "placed" "") false [.ref rl, .str n 0, .int b 0] H Q X
end
end Mine.St
end

section
open PySem PyProof.Rows
namespace Mine.Lw
open Mine Mine.St
theorem join_chars : ∀ cs : List Nat, (Str.join "" (cs.map chr1)).cps.toList = cs
  | [] => rfl
  | [c] => rfl
  | c :: d :: r => by
    have ih := join_chars (d :: r)
    show ((chr1 c ++ ("" : Str)) ++ Str.join "" ((d :: r).map chr1)).cps.toList = _
    show ((chr1 c).cps ++ ("" : Str).cps ++ (Str.join "" ((d :: r).map chr1)).cps).toList = _
    rw [Array.toList_append, ih]; rfl
theorem tjoin (cs : List Nat) : (Txt.join "" (cs.map chr1)).cps.toList = cs := by
  show (Builtin.Str.glued "" (cs.map chr1)).cps.toList = cs
  rw [StrLaws.glued_eq_join]; exact join_chars cs
theorem fold_len : ∀ (cs : List Nat) (a : Nat), (cs.map chr1).foldl (fun n x => n + x.length + ("" : Str).length) a = a + cs.length
  | [], a => rfl
  | c :: r, a => by
    rw [List.map_cons, List.foldl_cons, fold_len r]
    exact Nat.add_right_comm a 1 r.length
theorem join_ok {cs : List Nat} (h : cs.length ≤ 100) : JoinOk "" (cs.map chr1) = true := by
  unfold JoinOk
  rw [← Array.foldl_toList, fold_len]
  simp [Builtin.Str.tooLong, sizeLine]
  omega
theorem strs_chars : ∀ cs : List Nat, strsOf ((cs.map chr1).map fun x => Value.str x 0) = some (cs.map chr1)
  | [] => rfl
  | c :: r => by
    rw [List.map_cons, List.map_cons, strsOf, strs_chars r]; rfl
theorem let_at : ∀ k < 26, at? LET.cps.toList ((k : Nat) : Int) = some (97 + k) := by decide +kernel
theorem at_lt {α : Type} {xs : List α} {k : Int} (h0 : 0 ≤ k) (h1 : k < xs.length) : ∃ v, at? xs k = some v ∧ v ∈ xs := by
  have h2 : k.toNat < xs.length := (Int.toNat_lt h0).2 h1
  refine ⟨xs[k.toNat], ?_, List.getElem_mem h2⟩
  unfold at?
  rw [if_pos h0, List.getElem?_eq_getElem h2]
theorem mod_lt (a : Int) {b : Int} (h : 0 < b) : 0 ≤ a % b ∧ a % b < b := ⟨Int.emod_nonneg _ (Int.ne_of_gt h), Int.emod_lt_of_pos _ h⟩
theorem app_cps (a b : Str) : (a ++ b).cps.toList = a.cps.toList ++ b.cps.toList := by
  show (a.cps ++ b.cps).toList = _
  simp
theorem lt26 (a : Int) : (a % 26).toNat < 26 := (Int.toNat_lt (mod_lt a (by decide)).1).2 (mod_lt a (b := 26) (by decide)).2
theorem letAt (a : Int) : at? LET.cps.toList (a % 26) = some (97 + (a % 26).toNat) := by
  have := let_at _ (lt26 a)
  rwa [Int.toNat_of_nonneg (mod_lt a (b := 26) (by decide)).1] at this
theorem let_good (a : Int) : 97 ≤ 97 + (a % 26).toNat ∧ 97 + (a % 26).toNat ≤ 122 := ⟨Nat.le_add_right _ _, Nat.add_le_add_left (Nat.le_of_lt_succ (lt26 a)) 97⟩
theorem line100 {n : Nat} (h : n ≤ 100) : n ≤ sizeLine := Nat.le_trans h (by decide)
end Mine.Lw
namespace Mine.St
theorem at_nat {α : Type} (xs : List α) (k : Nat) : at? xs (k : Int) = xs[k]? := by
  unfold at?
  rw [if_pos (by omega)]; rfl
end Mine.St
end

section
open PySem PyProof.Rows
namespace Mine.L2
open Mine Mine.St Mine.Lw
noncomputable def b__law_whole : List Sm := [.ret (.bop true [.isi (.loc "_law_seen") .int, .not (.isi (.loc "_law_seen") .bool)])]
noncomputable def b__law_cell_at : List Sm := [.ite (.cmp (.loc "_law_k") .Lt (.bf .len [.loc "_law_script"])) [.ret (.idx (.loc "_law_script") (.loc "_law_k"))] [], .ret (.int 0)]
noncomputable def b__law_name_by : List Sm := [.asg "_law_letters" (.str "abcdefghijklmnopqrstuvwxyz"), .ite (.cmp (.bin .Mod (.loc "_law_cell") (.int 16)) .Gt (.int 10)) [.asg "_law_stem" (.idx (.list [.str "ab", .str "aba", .str "zyxwvut", .str "nonon", .str "aaaaaaa", .str "q"]) (.bin .Mod (.bin .FloorDiv (.loc "_law_cell") (.int 16)) (.int 6))), .asg "_law_at" (.bin .Mod (.bin .FloorDiv (.loc "_law_cell") (.int 96)) (.bin .Add (.bf .len [.loc "_law_stem"]) (.int 1))), .ret (.bin .Add (.bin .Add (.slice (.loc "_law_stem") none (some (.loc "_law_at"))) (.idx (.loc "_law_letters") (.bin .Mod (.bin .FloorDiv (.loc "_law_cell") (.int 768)) (.int 26)))) (.slice (.loc "_law_stem") (some (.loc "_law_at")) none))] [], .ret (.bm .join (.str "") [.comp (.idx (.loc "_law_letters") (.bin .Mod (.bin .Add (.bin .FloorDiv (.loc "_law_cell") (.int 16)) (.bin .Mult (.loc "_law_k") (.bin .Add (.int 1) (.bin .Mod (.bin .FloorDiv (.loc "_law_cell") (.int 416)) (.int 25))))) (.int 26))) "_law_k" (.bf .range [.bin .Add (.int 1) (.bin .Mod (.loc "_law_cell") (.int 8))]) []])]
noncomputable def b__law_rows : List Sm := [.ite (.bop false [.not (.isi (.loc "_law_seen") .list), .cmp (.bf .len [.loc "_law_seen"]) .NotEq (.bf .len [.loc "_law_due"])]) [.ret (.bool false)] [], .for_ "_law_k" (.bf .range [.bf .len [.loc "_law_due"]]) [.asg "_law_pair" (.idx (.loc "_law_seen") (.loc "_law_k")), .ite (.bop false [.not (.isi (.loc "_law_pair") .tuple), .cmp (.bf .len [.loc "_law_pair"]) .NotEq (.int 2), .not (.isi (.idx (.loc "_law_pair") (.int 0)) .str), .not (.call (.glob "_law_whole") [.idx (.loc "_law_pair") (.int 1)])]) [.ret (.bool false)] [], .ite (.bop false [.cmp (.idx (.loc "_law_pair") (.int 0)) .NotEq (.idx (.idx (.loc "_law_due") (.loc "_law_k")) (.int 0)), .cmp (.idx (.loc "_law_pair") (.int 1)) .NotEq (.idx (.idx (.loc "_law_due") (.loc "_law_k")) (.int 1))]) [.ret (.bool false)] []], .ret (.bool true)]
noncomputable def b__law_room : List Sm := [.ite (.cmp (.bin .Mod (.call (.glob "_law_cell_at") [.loc "_law_script", .int 0]) (.int 6)) .Eq (.int 5)) [.ret (.bin .Mod (.bin .FloorDiv (.call (.glob "_law_cell_at") [.loc "_law_script", .int 0]) (.int 6)) (.int 70))] [], .ret (.bin .Mod (.bin .FloorDiv (.call (.glob "_law_cell_at") [.loc "_law_script", .int 0]) (.int 6)) (.int 15))]
noncomputable def b_law : List Sm := [.asg "_law_boxes" (.dict [] []), .for_ "_law_k" (.bf .range [.call (.glob "_law_room") [.loc "_law_script"]]) [.asg "_law_cell" (.bin .Add (.bin .Add (.call (.glob "_law_cell_at") [.loc "_law_script", .bin .Add (.int 4) (.bin .Mod (.loc "_law_k") (.int 20))]) (.bin .Mult (.int 7919) (.bin .FloorDiv (.loc "_law_k") (.int 20)))) (.loc "_law_k")), .asgIdx (.loc "_law_boxes") (.call (.glob "_law_name_by") [.loc "_law_cell"]) (.bin .Mod (.bin .Mult (.loc "_law_cell") (.int 48271)) (.bin .Pow (.int 10) (.int 12)))], .asg "_law_rows_here" (.comp (.tup [.loc "_law_name", .idx (.loc "_law_boxes") (.loc "_law_name")]) "_law_name" (.bf .sorted [.loc "_law_boxes"]) []), .asg "_law_name" (.call (.glob "_law_name_by") [.call (.glob "_law_cell_at") [.loc "_law_script", .int 1]]), .ite (.bop true [.cmp (.loc "_law_rows_here") .NotEq (.list []), .cmp (.bin .Mod (.call (.glob "_law_cell_at") [.loc "_law_script", .int 2]) (.int 2)) .Eq (.int 1)]) [.asg "_law_name" (.idx (.idx (.loc "_law_rows_here") (.bin .Mod (.call (.glob "_law_cell_at") [.loc "_law_script", .int 1]) (.bf .len [.loc "_law_rows_here"]))) (.int 0))] [], .asg "_law_box" (.bin .Mod (.call (.glob "_law_cell_at") [.loc "_law_script", .int 3]) (.bin .Pow (.int 10) (.int 12))), .asg "_law_due" (.none), .ite (.cmp (.loc "_law_name") .In (.loc "_law_boxes")) [.asg "_law_due" (.idx (.loc "_law_boxes") (.loc "_law_name"))] [], .asg "_law_handed" (.bf .list [.loc "_law_rows_here"]), .asg "_law_told" (.call (.glob "box_of") [.loc "_law_handed", .loc "_law_name"]), .ite (.bop false [.bop true [.cmp (.loc "_law_due") .Is (.none), .cmp (.loc "_law_told") .IsNot (.none)], .bop true [.cmp (.loc "_law_due") .IsNot (.none), .bop false [.not (.call (.glob "_law_whole") [.loc "_law_told"]), .cmp (.loc "_law_told") .NotEq (.loc "_law_due")]]]) [.ret (.bool false)] [], .asg "_law_less" (.call (.glob "without") [.loc "_law_handed", .loc "_law_name"]), .asg "_law_more" (.call (.glob "placed") [.loc "_law_handed", .loc "_law_name", .loc "_law_box"]), .ite (.not (.call (.glob "_law_rows") [.loc "_law_less", .comp (.loc "_law_pair") "_law_pair" (.loc "_law_rows_here") [.cmp (.idx (.loc "_law_pair") (.int 0)) .NotEq (.loc "_law_name")]])) [.ret (.bool false)] [], .asgIdx (.loc "_law_boxes") (.loc "_law_name") (.loc "_law_box"), .ite (.not (.call (.glob "_law_rows") [.loc "_law_more", .comp (.tup [.loc "_law_one", .idx (.loc "_law_boxes") (.loc "_law_one")]) "_law_one" (.bf .sorted [.loc "_law_boxes"]) []])) [.ret (.bool false)] [], .expr (.bm .append (.loc "_law_less") [.tup [.str "more", .int 1]]), .expr (.bm .append (.loc "_law_more") [.tup [.str "more", .int 1]]), .ret (.call (.glob "_law_rows") [.loc "_law_handed", .loc "_law_rows_here"])]

noncomputable abbrev FS : List Str := ["box_of", "without", "placed", "_law_whole", "_law_cell_at", "_law_name_by", "_law_rows", "_law_room"]
/-- the names that the law uses -/
structure E2 (G : Gx) (A : Ad) : Prop where
  fn : ∀ {x : Str}, has x FS = true → G.glob x = some (.ref (A x "")) ∧ G.init (A x "") = none
theorem E2.gg {g : Gx} {A : Ad} (f : E2 g A) (tab : Tab) (n : Nat) : E2 (GG g tab n) A := by cases n <;> exact ⟨f.fn⟩
/-! ### a dict by names, plain -/
noncomputable def getS (bs : List (Str × Int)) (n : Str) : Option Int := rowOf bs n
noncomputable def putS (bs : List (Str × Int)) (x : Str) (v : Int) : List (Str × Int) := if bs.any (fun p => decide (p.1 = x)) then bs.map (fun p => if p.1 = x then (p.1, v) else p) else bs ++ [(x, v)]
noncomputable def vS (bs : List (Str × Int)) : List (Str × Value) := bs.map fun p => (p.1, Value.int p.2 0)
theorem get_nil (n : Str) : getS [] n = none := rfl
theorem get_cons (p : Str × Int) (bs : List (Str × Int)) (n : Str) : getS (p :: bs) n = if p.1 = n then some p.2 else getS bs n := by
  unfold getS rowOf
  rw [List.find?_cons]
  by_cases h : p.1 = n
  · rw [if_pos h, decide_eq_true h]; rfl
  · rw [if_neg h, decide_eq_false h]
theorem val_vS (bs : List (Str × Int)) (n : Str) : valueAt (vS bs) n = (getS bs n).map fun i => Value.int i 0 := by
  induction bs with
  | nil => rfl
  | cons p bs ih =>
    rw [get_cons]
    unfold valueAt at ih ⊢
    show ((List.find? _ ((p.1, Value.int p.2 0) :: vS bs)).map _) = _
    rw [List.find?_cons]
    by_cases h : p.1 = n
    · rw [if_pos h, decide_eq_true h]; rfl
    · rw [if_neg h, decide_eq_false h]; exact ih
theorem sto_vS (bs : List (Str × Int)) (x : Str) (v : Int) : stored (vS bs) x (.int v 0) = vS (putS bs x v) := by
  unfold stored putS
  have e : (vS bs).any (fun kv => decide (kv.1 = x)) = bs.any (fun p => decide (p.1 = x)) := by unfold vS; rw [List.any_map]; rfl
  rw [e]
  cases bs.any (fun p => decide (p.1 = x)) with
  | true =>
    rw [if_pos rfl, if_pos rfl]
    unfold vS
    rw [List.map_map, List.map_map]
    refine List.map_congr_left fun p _ => ?_
    by_cases h : p.1 = x
    · show (if p.1 = x then _ else _) = ((if p.1 = x then (p.1, v) else p).1, Value.int (if p.1 = x then (p.1, v) else p).2 0)
      rw [if_pos h, if_pos h]
    · show (if p.1 = x then _ else _) = ((if p.1 = x then (p.1, v) else p).1, Value.int (if p.1 = x then (p.1, v) else p).2 0)
      rw [if_neg h, if_neg h]
  | false =>
    rw [if_neg nofun, if_neg nofun]
    unfold vS
    rw [List.map_append]; rfl
theorem get_map (bs : List (Str × Int)) (x n : Str) (v : Int) : getS (bs.map fun p => if p.1 = x then (p.1, v) else p) n = if n = x then (getS bs n).map (fun _ => v) else getS bs n := by
  induction bs with
  | nil => rw [List.map_nil, get_nil]; split <;> rfl
  | cons p bs ih =>
    rw [List.map_cons, get_cons, get_cons, ih]
    by_cases h : p.1 = x
    · rw [if_pos h]
      by_cases h2 : p.1 = n
      · rw [if_pos h2, if_pos h2, if_pos (h2.symm.trans h)]; rfl
      · rw [if_neg h2, if_neg h2]
    · rw [if_neg h]
      by_cases h2 : p.1 = n
      · rw [if_pos h2, if_pos h2, if_neg fun e => h (h2.trans e)]
      · rw [if_neg h2, if_neg h2]
theorem get_app (bs : List (Str × Int)) (x n : Str) (v : Int) : getS (bs ++ [(x, v)]) n = (getS bs n).or (if x = n then some v else none) := by
  induction bs with
  | nil => rw [List.nil_append, get_cons, get_nil]; rfl
  | cons p bs ih =>
    rw [List.cons_append, get_cons, get_cons, ih]
    by_cases h : p.1 = n
    · rw [if_pos h, if_pos h]; rfl
    · rw [if_neg h, if_neg h]
theorem any_get (bs : List (Str × Int)) (x : Str) : bs.any (fun p => decide (p.1 = x)) = (getS bs x).isSome := by
  induction bs with
  | nil => rfl
  | cons p bs ih =>
    rw [List.any_cons, get_cons, ih]
    by_cases h : p.1 = x
    · rw [if_pos h, decide_eq_true h]; rfl
    · rw [if_neg h, decide_eq_false h]; rfl
theorem get_put (bs : List (Str × Int)) (x n : Str) (v : Int) : getS (putS bs x v) n = if n = x then some v else getS bs n := by
  unfold putS
  rw [any_get]
  cases hg : getS bs x with
  | some i =>
    rw [Option.isSome_some, if_pos rfl, get_map]
    by_cases h : n = x
    · rw [if_pos h, if_pos h, h, hg]; rfl
    · rw [if_neg h, if_neg h]
  | none =>
    rw [if_neg nofun, get_app]
    by_cases h : n = x
    · rw [if_pos h, h, hg, if_pos rfl]; rfl
    · rw [if_neg h, if_neg fun e => h e.symm, Option.or_none]
theorem put_keys (bs : List (Str × Int)) (x : Str) (v : Int) : (putS bs x v).map (·.1) = if (getS bs x).isSome then bs.map (·.1) else bs.map (·.1) ++ [x] := by
  unfold putS
  rw [any_get]
  cases (getS bs x).isSome with
  | true =>
    rw [if_pos rfl, if_pos rfl, List.map_map]
    refine List.map_congr_left fun p _ => ?_
    show (if p.1 = x then (p.1, v) else p).1 = p.1
    split <;> rfl
  | false => rw [if_neg nofun, if_neg nofun, List.map_append]; rfl
theorem key_get {bs : List (Str × Int)} {n : Str} : n ∈ bs.map (·.1) ↔ ∃ v, getS bs n = some v := by
  induction bs with
  | nil => exact ⟨fun h => absurd h List.not_mem_nil, fun ⟨v, h⟩ => by cases h⟩
  | cons p bs ih =>
    rw [List.map_cons, List.mem_cons, ih, get_cons]
    by_cases h : p.1 = n
    · rw [if_pos h]; exact ⟨fun _ => ⟨p.2, rfl⟩, fun _ => .inl h.symm⟩
    · rw [if_neg h]; exact ⟨fun q => q.resolve_left fun e => h e.symm, .inr⟩
theorem put_nodup {bs : List (Str × Int)} (x : Str) (v : Int) (h : (bs.map (·.1)).Nodup) : ((putS bs x v).map (·.1)).Nodup := by
  rw [put_keys]
  cases e : getS bs x with
  | some i => rw [Option.isSome_some, if_pos rfl]; exact h
  | none =>
    rw [if_neg nofun]
    refine List.nodup_append.2 ⟨h, List.pairwise_singleton _ _, fun a ha b hb q => ?_⟩
    rw [List.mem_singleton.1 hb] at q
    rw [q] at ha
    obtain ⟨v, hv⟩ := key_get.1 ha
    rw [e] at hv; cases hv
theorem put_len (bs : List (Str × Int)) (x : Str) (v : Int) : (putS bs x v).length ≤ bs.length + 1 := by
  unfold putS
  split
  · rw [List.length_map]; exact Nat.le_succ _
  · rw [List.length_append]; exact Nat.le_refl _
theorem put_ne (bs : List (Str × Int)) (x : Str) (v : Int) : putS bs x v ≠ [] := fun e => by
  have := get_put bs x x v
  rw [e, if_pos rfl] at this; cases this
theorem put_all {bs : List (Str × Int)} {x : Str} {v : Int} {P : Str → Prop} (h : ∀ n ∈ bs.map (·.1), P n) (hx : P x) : ∀ n ∈ (putS bs x v).map (·.1), P n := by
  rw [put_keys]
  split
  · exact h
  · exact fun n hn => (List.mem_append.1 hn).elim (h n) fun q => by rw [List.mem_singleton.1 q]; exact hx
/-! ### rows in order -/
structure Rows (bs rows : List (Str × Int)) : Prop where
  srt : rows.Pairwise fun a b => lessS a.1 b.1 = true
  mem : ∀ n v, (n, v) ∈ rows ↔ getS bs n = some v
theorem less_irr (a : Str) : lessS a a = false := decide_eq_false (List.lt_irrefl _)
theorem less_trans {a b c : Str} (h1 : lessS a b = true) (h2 : lessS b c = true) : lessS a c = true := decide_eq_true (List.lt_trans (of_decide_eq_true h1) (of_decide_eq_true h2))
theorem less_asymm {a b : Str} (h1 : lessS a b = true) (h2 : lessS b a = true) : False := by
  have := less_trans h1 h2
  rw [less_irr] at this; cases this
theorem str_ext {a b : Str} (h : a.cps.toList = b.cps.toList) : a = b := by
  cases a; cases b
  exact congrArg Str.mk (Array.toList_inj.1 h)
theorem less_tri (a b : Str) : lessS a b = true ∨ a = b ∨ lessS b a = true := by
  by_cases h1 : a.cps.toList < b.cps.toList
  · exact .inl (decide_eq_true h1)
  · by_cases h2 : b.cps.toList < a.cps.toList
    · exact .inr (.inr (decide_eq_true h2))
    · exact .inr (.inl (str_ext (List.le_antisymm (List.not_lt.1 h2) (List.not_lt.1 h1))))
theorem row_get {rows : List (Str × Int)} (h : rows.Pairwise fun a b => lessS a.1 b.1 = true) {n : Str} {v : Int} : (n, v) ∈ rows ↔ getS rows n = some v := by
  induction rows with
  | nil => exact ⟨fun h => absurd h List.not_mem_nil, fun h => by cases h⟩
  | cons p rows ih =>
    obtain ⟨h1, h2⟩ := List.pairwise_cons.1 h
    rw [List.mem_cons, get_cons, ih h2]
    by_cases e : p.1 = n
    · rw [if_pos e]
      refine ⟨fun q => ?_, fun q => .inl (by cases q; rw [← e])⟩
      rcases q with q | q
      · rw [← q]
      · have := h1 _ ((ih h2).2 q)
        rw [e, less_irr] at this; cases this
    · rw [if_neg e]
      refine ⟨fun q => q.resolve_left fun z => e (by rw [← z]), .inr⟩
theorem Rows.get {bs rows : List (Str × Int)} (h : Rows bs rows) (n : Str) : rowOf rows n = getS bs n := by
  cases e : getS bs n with
  | some v => exact (row_get h.srt).1 ((h.mem n v).2 e)
  | none =>
    cases e2 : rowOf rows n with
    | none => rfl
    | some v => rw [(h.mem n v).1 ((row_get h.srt).2 e2)] at e; cases e
theorem Rows.eq {bs r1 r2 : List (Str × Int)} (h1 : Rows bs r1) (h2 : Rows bs r2) : r1 = r2 := by
  have nd : ∀ {r : List (Str × Int)}, (r.Pairwise fun a b => lessS a.1 b.1 = true) → r.Nodup := fun h => h.imp fun q e => by rw [e, less_irr] at q; cases q
  have hp : r1.Perm r2 := (List.perm_ext_iff_of_nodup (nd h1.srt) (nd h2.srt)).2 fun p => (h1.mem p.1 p.2).trans (h2.mem p.1 p.2).symm
  exact hp.eq_of_pairwise (fun a b _ _ q1 q2 => (less_asymm q1 q2).elim) h1.srt h2.srt
theorem Rows.placed {bs rows : List (Str × Int)} (h : Rows bs rows) (n : Str) (b : Int) : Rows (putS bs n b) (placedR rows n b) where
  srt := by
    refine List.pairwise_append.2 ⟨List.pairwise_append.2 ⟨h.srt.filter _, List.pairwise_singleton _ _, fun x hx y hy => ?_⟩, h.srt.filter _, fun x hx y hy => ?_⟩
    · rw [List.mem_singleton.1 hy]; exact (List.mem_filter.1 hx).2
    · have hy := (List.mem_filter.1 hy).2
      rcases List.mem_append.1 hx with hx | hx
      · exact less_trans (List.mem_filter.1 hx).2 hy
      · rw [List.mem_singleton.1 hx]; exact hy
  mem := fun m v => by
    rw [get_put]
    unfold placedR
    rw [List.mem_append, List.mem_append, List.mem_singleton, List.mem_filter, List.mem_filter, h.mem]
    by_cases e : m = n
    · rw [if_pos e]
      refine ⟨fun q => ?_, fun q => .inl (.inr (by cases q; rw [e]))⟩
      rcases q with (q | q) | q
      · have := q.2; dsimp only at this; rw [e, less_irr] at this; cases this
      · cases q; rfl
      · have := q.2; dsimp only at this; rw [e, less_irr] at this; cases this
    · rw [if_neg e]
      refine ⟨fun q => ?_, fun q => ?_⟩
      · rcases q with (q | q) | q
        · exact q.1
        · exact absurd (congrArg Prod.fst q) e
        · exact q.1
      · rcases less_tri m n with z | z | z
        · exact .inl (.inl ⟨q, z⟩)
        · exact absurd z e
        · exact .inr ⟨q, z⟩
theorem rising_pair : ∀ (l : List Str) (p : Str), risingS p l = true → (p :: l).Pairwise fun a b => lessS b a = false := by
  intro l
  induction l with
  | nil => intro p _; exact List.pairwise_singleton _ _
  | cons x r ih =>
    intro p h
    have h : (!PySem.Spec.ltCps x.cps.toList p.cps.toList && risingS x r) = true := h
    rw [Bool.and_eq_true] at h
    have h1 : lessS x p = false := by
      have := h.1
      rw [PyProof.Rows.ltCps_eq] at this
      simpa [lessS] using this
    have h2 := ih x h.2
    refine List.pairwise_cons.2 ⟨fun y hy => ?_, h2⟩
    rcases List.mem_cons.1 hy with rfl | hy
    · exact h1
    · have h3 := (List.pairwise_cons.1 h2).1 y hy
      rcases less_tri p x with z | z | z
      · rcases less_tri y p with z2 | z2 | z2
        · rw [less_trans z2 z] at h3; cases h3
        · rw [z2]; exact less_irr _
        · exact Bool.eq_false_iff.2 fun q => less_asymm z2 q
      · rw [z]; exact h3
      · rw [z] at h1; cases h1
theorem sorted_pair {l : List Str} (h : sortedS l = true) : l.Pairwise fun a b => lessS b a = false := by
  cases l with
  | nil => exact List.Pairwise.nil
  | cons x r => exact rising_pair r x h
noncomputable def rowsBy (bs : List (Str × Int)) (ms : List Str) : List (Str × Int) := ms.map fun n => (n, (getS bs n).getD 0)
theorem rows_by {bs : List (Str × Int)} {ms : List Str} (nd : (bs.map (·.1)).Nodup) (hp : ms.Perm (bs.map (·.1))) (hs : sortedS ms = true) : Rows bs (rowsBy bs ms) where
  srt := by
    refine List.pairwise_map.2 ?_
    have h1 := sorted_pair hs
    have h2 : ms.Nodup := hp.nodup_iff.2 nd
    refine (h1.and h2).imp fun {a b} q => ?_
    rcases less_tri a b with z | z | z
    · exact z
    · exact absurd z q.2
    · rw [z] at q; cases q.1
  mem := fun n v => by
    unfold rowsBy
    rw [List.mem_map]
    constructor
    · rintro ⟨m, hm, e⟩
      cases e
      obtain ⟨v, hv⟩ := key_get.1 (hp.mem_iff.1 hm)
      rw [hv]; rfl
    · intro h
      exact ⟨n, hp.mem_iff.2 (key_get.2 ⟨v, h⟩), by rw [h]; rfl⟩
end Mine.L2
end

section
open PySem PyProof.Rows
namespace Mine.L2
open Mine Mine.St Mine.Lw
end Mine.L2
end
section
open PySem PyProof.Rows Mine Mine.St Mine.L2
end

local macro_rules | `(tactic| nest_cls) => `(tactic| first | exact (E2.fn ‹_› rfl).1 | exact (E2.fn ‹_› rfl).2)
section
open PySem PyProof.Rows
namespace Mine.L2
open Mine Mine.St Mine.Lw

section
variable {A : Ad} {G : Gx} {H H' : Hp} {Q : QV} {X : XV} {l : Loc} {hm : Bool} {x y : Ex}
theorem none0 (k : Kp [] H H') {c : Addr} (hc : H' c = none) : H c = none := by
  cases e : H c with
  | none => rfl
  | some o => rw [k c o e (.inr List.not_mem_nil)] at hc; cases hc
theorem at0 (k : Kp [] H H') {c : Addr} {o : AObj} (hc : H c = some o) : H' c = some o := k c o hc (.inr List.not_mem_nil)
theorem not_dec {α : Type} [DecidableEq α] (a : α) : (!decide (a = a)) = false := by rw [decide_eq_true rfl]; rfl
/-! ### helpers of the law -/
noncomputable def C_whole (G : Gx) (A : Ad) : Prop := ∀ ⦃H : Hp⦄ ⦃i : Int⦄ ⦃t : Tok⦄ ⦃Q : QV⦄ ⦃X : XV⦄, Q (.bool true) H → G.fn (A "_law_whole" "") false [.int i t] H Q X
theorem whole_ok {i : Int} {t : Tok} (q : Q (.bool true) H) : wpF G false ["_law_seen"] b__law_whole [.int i t] H Q X := by
  refine f_in rfl (ss_ret (v := .bool true) ?_ q)
  exact ev_go (by mem_news) (ev_one (by mem_news))
theorem ev_whole (F : E2 G A) (C : C_whole G A) {i : Int} {t : Tok} (hx : Ev G false x l H (.int i t)) : Ev G false (.call (.glob "_law_whole") [x]) l H (.bool true) :=
  .mk fun _ _ q => w_call (ev_glob (F.fn rfl).1) (F.fn rfl).2 (evl_cons hx evl_nil) (C q)
noncomputable abbrev vI (w : List Int) : List Value := w.map fun n => Value.int n 0
theorem at_ns {ns : List Int} {j : Nat} (h : j < ns.length) : at? (vI ns) ((j : Nat) : Int) = some (.int (ns.getD j 0) 0) := by
  rw [at_nat, List.getElem?_map, List.getD_eq_getElem?_getD, List.getElem?_eq_getElem h]; rfl
noncomputable def C_cell (G : Gx) (A : Ad) : Prop := ∀ ⦃H : Hp⦄ ⦃a : Addr⦄ ⦃ns : List Int⦄, H a = some (.rlist (vI ns)) → ∀ ⦃k : Nat⦄ ⦃t : Tok⦄ ⦃Q : QV⦄ ⦃X : XV⦄, Q (.int (ns.getD k 0) 0) H → G.fn (A "_law_cell_at" "") false [.ref a, .int (k : Int) t] H Q X
theorem cell_ok {a : Addr} {ns : List Int} (ha : H a = some (.rlist (vI ns))) {k : Nat} {t : Tok} (q : Q (.int (ns.getD k 0) 0) H) : wpF G false ["_law_script", "_law_k"] b__law_cell_at [.ref a, .int (k : Int) t] H Q X := by
  refine f_in rfl ?_
  refine ss_if (b := decide ((k : Int) < (vI ns).length)) (ev_lt (ev_loc rfl) (ev_len (ev_loc rfl) ha rfl) rfl) (fun hb => ?_) fun hb => ss_sq ?_
  · have hk : k < ns.length := by have := of_decide_eq_true hb; rw [List.length_map] at this; exact Int.ofNat_lt.1 this
    exact ss_ret (ev_at (ev_loc rfl) (ev_loc rfl) ha rfl (at_ns hk)) q
  · have hk : ns.length ≤ k := by have := of_decide_eq_false hb; rw [List.length_map] at this; exact Int.ofNat_le.1 (Int.not_lt.1 this)
    rw [List.getD_eq_getElem?_getD, List.getElem?_eq_none hk] at q
    exact ss_ret ev_int q
theorem ev_cell (F : E2 G A) (C : C_cell G A) {a : Addr} {ns : List Int} (ha : H a = some (.rlist (vI ns))) {k : Nat} {t : Tok} (hx : Ev G false x l H (.ref a)) (he : Ev G false y l H (.int (k : Int) t)) : Ev G false (.call (.glob "_law_cell_at") [x, y]) l H (.int (ns.getD k 0) 0) :=
  .mk fun _ _ q => w_call (ev_glob (F.fn rfl).1) (F.fn rfl).2 (evl_cons hx (evl_cons he evl_nil)) (C ha q)
noncomputable def roomOf (ns : List Int) : Int := if ns.getD 0 0 % 6 = 5 then ns.getD 0 0 / 6 % 70 else ns.getD 0 0 / 6 % 15
theorem room_nat (ns : List Int) : ∃ n : Nat, roomOf ns = (n : Int) ∧ n < 70 := by
  unfold roomOf
  split
  · have := mod_lt (ns.getD 0 0 / 6) (b := 70) (by decide)
    exact ⟨(ns.getD 0 0 / 6 % 70).toNat, by omega, by omega⟩
  · have := mod_lt (ns.getD 0 0 / 6) (b := 15) (by decide)
    exact ⟨(ns.getD 0 0 / 6 % 15).toNat, by omega, by omega⟩
noncomputable def C_room (G : Gx) (A : Ad) : Prop := ∀ ⦃H : Hp⦄ ⦃a : Addr⦄ ⦃ns : List Int⦄, H a = some (.rlist (vI ns)) → ∀ ⦃Q : QV⦄ ⦃X : XV⦄, Q (.int (roomOf ns) 0) H → G.fn (A "_law_room" "") false [.ref a] H Q X
theorem room_ok (F : E2 G A) (C : C_cell G A) {a : Addr} {ns : List Int} (ha : H a = some (.rlist (vI ns))) (q : Q (.int (roomOf ns) 0) H) : wpF G false ["_law_script"] b__law_room [.ref a] H Q X := by
  unfold roomOf at q
  refine f_in rfl ?_
  refine ss_if (ev_eq (ev_mod (ev_cell F C ha (k := 0) (ev_loc rfl) ev_int) ev_int (by decide)) ev_int rfl) (fun hb => ?_) fun hb => ss_sq ?_
  · rw [if_pos (of_decide_eq_true hb)] at q
    exact ss_ret (ev_mod (ev_div (ev_cell F C ha (k := 0) (ev_loc rfl) ev_int) ev_int (by decide) (by decide)) ev_int (by decide)) q
  · rw [if_neg (of_decide_eq_false hb)] at q
    exact ss_ret (ev_mod (ev_div (ev_cell F C ha (k := 0) (ev_loc rfl) ev_int) ev_int (by decide) (by decide)) ev_int (by decide)) q
theorem ev_room (F : E2 G A) (C : C_room G A) {a : Addr} {ns : List Int} (ha : H a = some (.rlist (vI ns))) (hx : Ev G false x l H (.ref a)) : Ev G false (.call (.glob "_law_room") [x]) l H (.int (roomOf ns) 0) :=
  .mk fun _ _ q => w_call (ev_glob (F.fn rfl).1) (F.fn rfl).2 (evl_cons hx evl_nil) (C ha q)
/-! ### names -/
noncomputable def stems : List Value := [.str "ab" 0, .str "aba" 0, .str "zyxwvut" 0, .str "nonon" 0, .str "aaaaaaa" 0, .str "q" 0]
theorem stem_ok : ∀ v ∈ stems, ∃ p, v = .str p 0 ∧ 1 ≤ p.cps.toList.length ∧ p.cps.toList.length ≤ 7 ∧ ∀ c ∈ p.cps.toList, 97 ≤ c ∧ c ≤ 122 := by
  intro v hv
  simp only [stems, List.mem_cons, List.not_mem_nil, or_false] at hv
  rcases hv with rfl | rfl | rfl | rfl | rfl | rfl <;> exact ⟨_, rfl, by decide +kernel, by decide +kernel, by decide +kernel⟩
theorem slice_to {α : Type} (xs : List α) (k : Nat) (h : k ≤ xs.length) : pySlice xs none (some (k : Int)) = xs.take k := by
  unfold pySlice hiAt loAt cutAt
  dsimp only
  rw [if_neg (by omega), List.drop_zero]
  simp [Nat.min_eq_left h]
theorem slice_from {α : Type} (xs : List α) (k : Nat) (h : k ≤ xs.length) : pySlice xs (some (k : Int)) none = xs.drop k := by
  unfold pySlice hiAt loAt cutAt
  dsimp only
  rw [if_neg (by omega), List.take_length]
  simp [Nat.min_eq_left h]
noncomputable def NB (c : Int) (x : Str) : Prop := ∀ {G : Gx} {H : Hp} {Q : QV} {X : XV} {t : Tok}, (∀ H', Kp [] H H' → Q (.str x 0) H') → wpF G false ["_law_cell"] b__law_name_by [.int c t] H Q X
theorem put_len3 {ps : List Nat} {k : Nat} (hk : k ≤ ps.length) (d : Nat) : ((ps.take k ++ [d]) ++ ps.drop k).length = ps.length + 1 := by
  rw [List.length_append, List.length_append, List.length_drop, List.length_take, Nat.min_eq_left hk, List.length_singleton, Nat.add_right_comm, Nat.add_sub_cancel' hk]
noncomputable def putIn (p : Str) (k d : Nat) : Str := ⟨(p.cps.toList.take k).toArray⟩ ++ chr1 d ++ ⟨(p.cps.toList.drop k).toArray⟩
theorem putIn_cps (p : Str) (k d : Nat) : (putIn p k d).cps.toList = (p.cps.toList.take k ++ [d]) ++ p.cps.toList.drop k := by
  unfold putIn; rw [app_cps, app_cps]; rfl
theorem putIn_good {p : Str} {k d : Nat} (hk : k ≤ p.cps.toList.length) (h2 : p.cps.toList.length ≤ 7) (h3 : ∀ c ∈ p.cps.toList, 97 ≤ c ∧ c ≤ 122) (hd : 97 ≤ d ∧ d ≤ 122) : Good (putIn p k d) := by
  refine ⟨?_, ?_, fun e he => ?_⟩
  · rw [putIn_cps, put_len3 hk]; exact Nat.le_add_left 1 _
  · rw [putIn_cps, put_len3 hk]; exact Nat.le_trans (Nat.succ_le_succ h2) (by decide)
  · rw [putIn_cps] at he
    rcases List.mem_append.1 he with he | he
    · rcases List.mem_append.1 he with he | he
      · exact h3 e (List.mem_of_mem_take he)
      · rw [List.mem_singleton.1 he]; exact hd
    · exact h3 e (List.mem_of_mem_drop he)
theorem nb2 {c : Int} (h1 : 10 < c % 16) : ∃ x, Good x ∧ NB c x := by
  have m6 := mod_lt (c / 16) (b := 6) (by decide)
  obtain ⟨sv, hsv, hm⟩ := at_lt (xs := stems) m6.1 m6.2
  obtain ⟨p, rfl, hp1, hp2, hp3⟩ := stem_ok sv hm
  have hpos : (0 : Int) < (p.length : Int) + 1 := Int.lt_add_one_of_le (Int.natCast_nonneg _)
  have mp := mod_lt (c / 96) hpos
  obtain ⟨k, hk⟩ := Int.eq_ofNat_of_zero_le mp.1
  have hk : c / 96 % ((p.length : Int) + 1) = (k : Int) := hk
  have hkl : k ≤ p.cps.toList.length := Int.ofNat_le.1 (Int.le_of_lt_add_one (hk ▸ mp.2))
  have hl3 := put_len3 hkl (97 + (c / 768 % 26).toNat)
  refine ⟨putIn p k (97 + (c / 768 % 26).toNat), putIn_good hkl hp2 hp3 (let_good _), fun {G H Q X t} q => ?_⟩
  refine f_in rfl (ss_asg ev_str (ss_ift (ev_gt (ev_mod (ev_loc rfl) ev_int (by decide)) ev_int (decide_eq_true h1)) ?_))
  refine ss_asgW (w_idxW (w_list (by mem_news) (Nat.le_of_ble_eq_true rfl) fun a ha => ?_))
  have k1 : Kp [] H (H.upd a (.list stems)) := kp_new ha _
  have e1 : (H.upd a (.list stems)) a = some (.list stems) := Hp.upd_same _ _ _
  show wpE G false _ _ (H.upd a (.list stems)) _ _
  generalize H.upd a (.list stems) = H1 at k1 e1 ⊢
  refine w_ev (ev_mod (ev_div (ev_loc rfl) ev_int (by decide) (by decide)) ev_int (by decide)) (idx_at e1 rfl hsv ?_)
  have hpz : p.length ≤ sizeLine := Nat.le_trans hp2 (by decide)
  refine ss_asg (v := .int (k : Int) 0) (ev_cast (ev_mod (ev_div (ev_loc rfl) ev_int (by decide) (by decide)) (ev_add (ev_lens (ev_loc rfl) hpz) ev_int) hpos) (by rw [hk])) ?_
  refine ss_ret (ev_cat (ev_cat (ev_to (ev_loc rfl) (ev_loc rfl) hpz) (ev_chr (ev_loc rfl) (ev_mod (ev_div (ev_loc rfl) ev_int (by decide) (by decide)) ev_int (by decide)) (letAt _) (by decide +kernel)) ?_) (ev_from (ev_loc rfl) (ev_loc rfl) hpz) ?_) ?_
  · rw [slice_to _ _ hkl]
    exact line100 (Nat.le_trans (Nat.succ_le_succ (Nat.le_trans (List.length_take_le' _ _) hp2)) (by decide))
  · rw [slice_to _ _ hkl, slice_from _ _ hkl]
    refine line100 (Nat.le_trans (Nat.le_of_eq (Eq.trans ?_ hl3)) (Nat.le_trans (Nat.succ_le_succ hp2) (by decide)))
    show ((p.cps.toList.take k).toArray ++ #[97 + (c / 768 % 26).toNat]).size + (p.cps.toList.drop k).toArray.size = _
    rw [List.length_append, List.length_append, Array.size_append]; rfl
  · have q := q _ k1
    rw [slice_to _ _ hkl, slice_from _ _ hkl]
    exact q
noncomputable def lets (c : Int) (n : Nat) : List Nat := (List.range n).map fun (j : Nat) => 97 + ((c / 16 + (j : Int) * (1 + c / 416 % 25)) % 26).toNat
theorem lets_len (c : Int) (n : Nat) : (lets c n).length = n := by unfold lets; rw [List.length_map, List.length_range]
noncomputable def letV (c : Int) : Value → Value
  | .int i _ => .str (chr1 (97 + ((c / 16 + i * (1 + c / 416 % 25)) % 26).toNat)) 0
  | v => v
theorem lets_map (c : Int) (n : Nat) : (((List.range n).map fun (i : Nat) => Value.int (i : Int) 0).filter fun _ => true).map (letV c) = ((lets c n).map chr1).map fun x => Value.str x 0 := by
  unfold lets
  rw [List.filter_eq_self.2 fun _ _ => rfl, List.map_map, List.map_map, List.map_map]; rfl
theorem nb3 {c : Int} (h1 : ¬ 10 < c % 16) : ∃ x, Good x ∧ NB c x := by
  have m8 := mod_lt c (b := 8) (by decide)
  obtain ⟨n, hn⟩ := Int.eq_ofNat_of_zero_le (Int.add_nonneg (by decide : (0 : Int) ≤ 1) m8.1)
  have hn : 1 + c % 8 = (n : Int) := hn
  have n1 : 1 ≤ n := Int.ofNat_le.1 (hn ▸ Int.le_add_of_nonneg_right m8.1)
  have n8 : n ≤ 8 := Int.ofNat_le.1 (hn ▸ Int.add_le_add_left (Int.le_sub_one_of_lt m8.2) 1)
  have n100 : n ≤ 100 := Nat.le_trans n8 (by decide)
  refine ⟨Txt.join "" ((lets c n).map chr1), ⟨?_, ?_, ?_⟩, fun {G H Q X t} q => ?_⟩
  · rw [tjoin, lets_len]; exact n1
  · rw [tjoin, lets_len]; exact Nat.le_trans n8 (by decide)
  · intro d hd
    rw [tjoin] at hd
    obtain ⟨j, _, rfl⟩ := List.mem_map.1 hd
    exact let_good _
  · refine f_in rfl (ss_asg ev_str (ss_iff0 (ev_gt (ev_mod (ev_loc rfl) ev_int (by decide)) ev_int (decide_eq_false h1)) ?_))
    refine ss_retW (w_joinW ev_str (w_compr (fun _ => true) (letV c) (k := n) (t := 0) (ev_cast (ev_add ev_int (ev_mod (ev_loc rfl) ev_int (by decide))) (by rw [hn])) (line100 n100) (fun i hi H1 _ => ev_all0) (fun i hi H1 _ _ => ?_) fun r b hr hb hne => ?_))
    · exact ev_chr (ev_loc rfl) (ev_mod (ev_add (ev_div (ev_loc rfl) ev_int (by decide) (by decide)) (ev_mul (ev_loc rfl) (ev_add ev_int (ev_mod (ev_div (ev_loc rfl) ev_int (by decide) (by decide)) ev_int (by decide))) (.inl (Nat.lt_of_lt_of_le hi (Nat.le_trans n100 (by decide)))))) ev_int (by decide)) (letAt _) (by decide +kernel)
    · rw [lets_map]
      have k1 : Kp [] H (H.upd r (.range 0 n 1)) := kp_new hr _
      have k2 := k1.trans (kp_new (M := []) (c := b) (by rw [Hp.upd_ne _ _ hne]; exact hb) (.list (((lets c n).map chr1).map fun x => Value.str x 0)))
      exact join_at (Hp.upd_same _ _ _) (strs_chars _) (join_ok (by rw [lets_len]; exact n100)) (q _ k2)
theorem name_by_ex (c : Int) : ∃ x, Good x ∧ NB c x := (Decidable.em (10 < c % 16)).elim nb2 nb3
noncomputable def nameBy (c : Int) : Str := Classical.choose (name_by_ex c)
theorem nameBy_good (c : Int) : Good (nameBy c) := (Classical.choose_spec (name_by_ex c)).1
noncomputable def C_name_by (G : Gx) (A : Ad) : Prop := ∀ ⦃H : Hp⦄ ⦃c : Int⦄ ⦃t : Tok⦄ ⦃Q : QV⦄ ⦃X : XV⦄, (∀ H', Kp [] H H' → Q (.str (nameBy c) 0) H') → G.fn (A "_law_name_by" "") false [.int c t] H Q X
theorem name_by_ok {c : Int} {t : Tok} (q : ∀ H', Kp [] H H' → Q (.str (nameBy c) 0) H') : wpF G false ["_law_cell"] b__law_name_by [.int c t] H Q X := (Classical.choose_spec (name_by_ex c)).2 q
/-! ### rows -/
noncomputable def C_box (G : Gx) (A : Ad) : Prop := C_box_of G A
noncomputable def C_wo (G : Gx) (A : Ad) : Prop := ∀ ⦃H : Hp⦄ ⦃rl : Addr⦄ ⦃xs : List Value⦄ ⦃rows : List (Str × Int)⦄ ⦃n : Str⦄, H rl = some (.list xs) → All2 (RRow H) xs rows → rows.length ≤ 2 ^ 20 → ∀ ⦃Q : QV⦄ ⦃X : XV⦄, (∀ c ys H', Kp [] H H' → H c = none → H' c = some (.list ys) → All2 (RRow H') ys (rows.filter fun r => !decide (r.1 = n)) → Q (.ref c) H') → G.fn (A "without" "") false [.ref rl, .str n 0] H Q X
theorem wo_ok {rl : Addr} {xs : List Value} {rows : List (Str × Int)} {n : Str} (hl : H rl = some (.list xs)) (hr : All2 (RRow H) xs rows) (hz : rows.length ≤ 2 ^ 20)
    (q : ∀ c ys H', Kp [] H H' → H c = none → H' c = some (.list ys) → All2 (RRow H') ys (rows.filter fun r => !decide (r.1 = n)) → Q (.ref c) H') : wpF G false ["rows", "name"] b_without [.ref rl, .str n 0] H Q X := by
  have hzx : xs.length ≤ 2 ^ 20 := by rw [all2_len hr]; exact hz
  refine f_in rfl ?_
  refine ss_retW (w_compA (fun r : Str × Int => !decide (r.1 = n)) id (by mem_news) hl rfl (len_line hzx) hr (fun v r e => ?_) (fun v r _ _ => ev_loc rfl) fun z1 h1 l1 c1 hc1 => ?_)
  · obtain ⟨a, rfl, ha⟩ := e
    exact ev_one (ev_nes (by mem_news) (by mem_news) rfl)
  rw [List.map_id]
  have k1 : Kp [] H (H.upd c1 (.list z1)) := kp_new hc1 _
  exact q _ _ _ k1 hc1 (Hp.upd_same _ _ _) (all2_imp (fun _ _ z => RRow.kp k1 z) h1)
noncomputable def C_pl (G : Gx) (A : Ad) : Prop := ∀ ⦃H : Hp⦄ ⦃rl : Addr⦄ ⦃xs : List Value⦄ ⦃rows : List (Str × Int)⦄ ⦃n : Str⦄ ⦃b : Int⦄, H rl = some (.list xs) → All2 (RRow H) xs rows → rows.length ≤ 2 ^ 20 → ∀ ⦃Q : QV⦄ ⦃X : XV⦄, (∀ c ys H', Kp [] H H' → H c = none → H' c = some (.list ys) → All2 (RRow H') ys (placedR rows n b) → Q (.ref c) H') → G.fn (A "placed" "") false [.ref rl, .str n 0, .int b 0] H Q X
theorem pl_ok {rl : Addr} {xs : List Value} {rows : List (Str × Int)} {n : Str} {b : Int} (hl : H rl = some (.list xs)) (hr : All2 (RRow H) xs rows) (hz : rows.length ≤ 2 ^ 20)
    (q : ∀ c ys H', Kp [] H H' → H c = none → H' c = some (.list ys) → All2 (RRow H') ys (placedR rows n b) → Q (.ref c) H') : wpF G false ["rows", "name", "box"] b_placed [.ref rl, .str n 0, .int b 0] H Q X := by
  have hzx : xs.length ≤ 2 ^ 20 := by rw [all2_len hr]; exact hz
  refine f_in rfl ?_
  refine ss_asgW (w_compA (fun r : Str × Int => lessS r.1 n) id (by mem_news) hl rfl (len_line hzx) hr (fun v r e => ?_) (fun v r _ _ => ev_loc rfl) fun z1 h1 l1 c1 hc1 => ?_)
  · obtain ⟨a, rfl, ha⟩ := e
    exact ev_one (ev_lts (by mem_news) (by mem_news) rfl)
  rw [List.map_id]
  have k1 : Kp [] H (H.upd c1 (.list z1)) := kp_new hc1 _
  have e1 : (H.upd c1 (.list z1)) c1 = some (.list z1) := Hp.upd_same _ _ _
  generalize H.upd c1 (.list z1) = H1 at k1 e1 ⊢
  refine ss_asgW (w_compA (fun r : Str × Int => lessS n r.1) id (by mem_news) (k1.list hl) rfl (len_line hzx) (all2_imp (fun _ _ z => RRow.kp k1 z) hr) (fun v r e => ?_) (fun v r _ _ => ev_loc rfl) fun z2 h2 l2 c2 hc2 => ?_)
  · obtain ⟨a, rfl, ha⟩ := e
    exact ev_one (ev_gts (by mem_news) (by mem_news) rfl)
  rw [List.map_id]
  have k2 : Kp [] H1 (H1.upd c2 (.list z2)) := kp_new hc2 _
  have e2 : (H1.upd c2 (.list z2)) c2 = some (.list z2) := Hp.upd_same _ _ _
  have e1 := k2.list e1
  generalize H1.upd c2 (.list z2) = H2 at k2 e1 e2 ⊢
  refine ss_retW (w_binW (w_binW (w_ev (v := .ref c1) (by mem_news) (w_listW (wl_cons (w_tup (by mem_news) (Nat.le_of_ble_eq_true rfl) fun t ht => wl_nil ⟨Nat.le_of_ble_eq_true rfl, fun c3 hc3 => ?_⟩)))))) 
  have k3 : Kp [] H2 (H2.upd t (.tup [.str n 0, .int b 0])) := kp_new ht _
  have e3 : (H2.upd t (.tup [.str n 0, .int b 0])) t = some (.tup [.str n 0, .int b 0]) := Hp.upd_same _ _ _
  have e1 := k3.list e1
  have e2 := k3.list e2
  generalize H2.upd t (.tup [.str n 0, .int b 0]) = H3 at k3 e1 e2 e3 hc3 ⊢
  have k4 : Kp [] H3 (H3.upd c3 (.list [.ref t])) := kp_new hc3 _
  have e4 : (H3.upd c3 (.list [.ref t])) c3 = some (.list [.ref t]) := Hp.upd_same _ _ _
  have e1 := k4.list e1
  have e2 := k4.list e2
  have e3 := k4.tup e3
  generalize H3.upd c3 (.list [.ref t]) = H4 at k4 e1 e2 e3 e4 ⊢
  refine addl_at e1 e4 (by simp only [List.length_singleton]; exact Nat.le_trans (m := 2 ^ 21) (by omega) (by decide)) fun c4 hc4 => ?_
  have k5 : Kp [] H4 (H4.upd c4 (.list (z1 ++ [.ref t]))) := kp_new hc4 _
  have e5 : (H4.upd c4 (.list (z1 ++ [.ref t]))) c4 = some (.list (z1 ++ [.ref t])) := Hp.upd_same _ _ _
  have e2 := k5.list e2
  have e3 := k5.tup e3
  generalize H4.upd c4 (.list (z1 ++ [.ref t])) = H5 at k5 e2 e3 e5 ⊢
  refine w_ev (v := .ref c2) (by mem_news) (addl_at e5 e2 (by simp only [List.length_append, List.length_singleton]; exact Nat.le_trans (m := 2 ^ 22) (by omega) (by decide)) fun c6 hc6 => ?_)
  have k6 : Kp [] H5 (H5.upd c6 (.list (z1 ++ [.ref t] ++ z2))) := kp_new hc6 _
  have kk := ((((k1.trans k2).trans k3).trans k4).trans k5).trans k6
  refine q _ _ _ kk (none0 ((((k1.trans k2).trans k3).trans k4).trans k5) hc6) (Hp.upd_same _ _ _) ?_
  refine all2_append (all2_append (all2_imp (fun _ _ z => RRow.kp kk z) h1) (.cons ⟨t, rfl, k6.tup e3⟩ .nil)) (all2_imp (fun _ _ z => RRow.kp ((((k2.trans k3).trans k4).trans k5).trans k6) z) h2)

theorem all2_at2 {α β : Type} {R : α → β → Prop} {a : List α} {b : List β} (h : All2 R a b) : ∀ {k : Nat}, k < b.length → ∃ x y, a[k]? = some x ∧ b[k]? = some y ∧ R x y := by
  induction h with
  | nil => intro k hk; exact absurd hk (Nat.not_lt_zero _)
  | cons e _ ih =>
    intro k hk
    cases k with
    | zero => exact ⟨_, _, rfl, rfl, e⟩
    | succ k => exact ih (Nat.lt_of_succ_lt_succ hk)
noncomputable def C_rows (G : Gx) (A : Ad) : Prop := ∀ ⦃H : Hp⦄ ⦃sl dl : Addr⦄ ⦃xs ys : List Value⦄ ⦃rows : List (Str × Int)⦄, H sl = some (.list xs) → H dl = some (.list ys) → All2 (RRow H) xs rows → All2 (RRow H) ys rows → rows.length ≤ 100 → ∀ ⦃Q : QV⦄ ⦃X : XV⦄, (∀ H', Kp [] H H' → Q (.bool true) H') → G.fn (A "_law_rows" "") false [.ref sl, .ref dl] H Q X
theorem rows_ok (F : E2 G A) (W : C_whole G A) {sl dl : Addr} {xs ys : List Value} {rows : List (Str × Int)} (hs : H sl = some (.list xs)) (hd : H dl = some (.list ys)) (rx : All2 (RRow H) xs rows) (ry : All2 (RRow H) ys rows) (hz : rows.length ≤ 100) (q : ∀ H', Kp [] H H' → Q (.bool true) H') : wpF G false ["_law_seen", "_law_due"] b__law_rows [.ref sl, .ref dl] H Q X := by
  have lx := all2_len rx
  have ly := all2_len ry
  refine f_in rfl ?_
  refine ss_iff0 (ev_go (k := false) (ev_not (ev_isir (ev_loc rfl) hs rfl) rfl) (ev_one (ev_ne (ev_len (ev_loc rfl) hs rfl) (ev_len (ev_loc rfl) hd rfl) (by rw [lx, ly, decide_eq_true rfl]; rfl)))) ?_
  refine ss_forR (n := ys.length) (fun _ l' H' => Kp [] H H' ∧ l' "_law_seen" = some (.ref sl) ∧ l' "_law_due" = some (.ref dl)) (ev_len (ev_loc rfl) hd rfl) (Nat.lt_of_le_of_lt (by rw [ly]; exact hz) (by decide)) ?_ (fun c hc => ⟨kp_new hc _, rfl, rfl⟩) fun l' H' h => ss_ret ev_bool (q _ h.1)
  rintro i hi l' H' ⟨k, g1, g2⟩ K hK _
  obtain ⟨v, r, e1, e2, p, rfl, hp⟩ := all2_at2 rx (k := i) (by omega)
  obtain ⟨v2, r2, f1, f2, p2, rfl, hp2⟩ := all2_at2 ry (k := i) (by omega)
  rw [e2] at f2; cases f2
  have hs := at0 k hs
  have hd := at0 k hd
  have hp := at0 k hp
  have hp2 := at0 k hp2
  have a1 : at? xs ((i : Nat) : Int) = some (.ref p) := by rw [at_nat]; exact e1
  have a2 : at? ys ((i : Nat) : Int) = some (.ref p2) := by rw [at_nat]; exact f1
  refine ss_asg (ev_at (ev_loc (by exact g1)) (ev_loc rfl) hs rfl a1) ?_
  refine ss_iff0 (ev_go (k := false) (ev_not (ev_isir (ev_loc rfl) hp rfl) rfl) (ev_go (k := false) (ev_ne (ev_len (ev_loc rfl) hp rfl) ev_int rfl) (ev_go (k := false) (ev_not (ev_isi (ev_at (ev_loc rfl) ev_int hp rfl rfl) rfl) rfl) (ev_one (ev_not (ev_whole F W (ev_at (ev_loc rfl) ev_int hp rfl rfl)) rfl))))) ?_
  refine ss_iff0 (ev_go (k := false) (ev_nes (ev_at (ev_loc rfl) ev_int hp rfl rfl) (ev_at (ev_at (ev_loc (by exact g2)) (ev_loc rfl) hd rfl a2) ev_int hp2 rfl rfl) (not_dec _)) (ev_one (ev_ne (ev_at (ev_loc rfl) ev_int hp rfl rfl) (ev_at (ev_at (ev_loc (by exact g2)) (ev_loc rfl) hd rfl a2) ev_int hp2 rfl rfl) (not_dec _)))) ?_
  exact ss_nl (hK _ _ ⟨k, by exact g1, by exact g2⟩).1
end
end Mine.L2
end

section
open PySem PyProof.Rows
namespace Mine.L2
open Mine Mine.St Mine.Lw
section
variable {A : Ad} {G : Gx} {H H' : Hp} {Q : QV} {X : XV} {l : Loc} {hm : Bool} {x y : Ex} {d : Addr} {bs : List (Str × Int)} {n : Str} {t : Tok}
noncomputable def nv (Q : QV) : QV := fun a H1 => truthV a fun b => Q (.bool (!b)) H1
theorem w_notN (q : wpE G hm x l H (nv Q) X) : wpE G hm (.not x) l H Q X := q
theorem nv_t (q : Q (.bool false) H) : nv Q (.bool true) H := q
/-! ### the dict -/
noncomputable def DAt (H : Hp) (d : Addr) (bs : List (Str × Int)) : Prop := (bs = [] ∧ H d = some (.idict [])) ∨ (bs ≠ [] ∧ H d = some (.sdict (vS bs)))
theorem DAt.kp (k : Kp [] H H') (h : DAt H d bs) : DAt H' d bs := h.imp (fun q => ⟨q.1, at0 k q.2⟩) fun q => ⟨q.1, at0 k q.2⟩
theorem set_at (h : DAt H d bs) (hz : bs.length ≤ sizeLine) {v : Int} {k : Hp → Prop} (q : k (H.upd d (.sdict (vS (putS bs n v))))) : setItemV (.ref d) (.str n t) (.int v 0) H k := by
  rcases h with ⟨rfl, h⟩ | ⟨_, h⟩
  · conv => whnf
    rw [h]
    exact ⟨rfl, q⟩
  · conv => whnf
    rw [h]
    refine ⟨by unfold vS; rw [List.length_map]; exact hz, ?_⟩
    rw [sto_vS]; exact q
theorem DAt.new (v : Int) : DAt (H.upd d (.sdict (vS (putS bs n v)))) d (putS bs n v) := .inr ⟨put_ne _ _ _, Hp.upd_same _ _ _⟩
theorem DAt.kpd (h : DAt H d bs) (o : AObj) : Kp [d] H (H.upd d o) := by
  rcases h with ⟨_, h⟩ | ⟨_, h⟩
  · exact kp_upd h rfl (List.mem_singleton.2 rfl) o
  · exact kp_upd h rfl (List.mem_singleton.2 rfl) o
theorem ev_sin (hx : Ev G hm x l H (.str n t)) (hy : Ev G hm y l H (.ref d)) (h : DAt H d bs) : Ev G hm (.cmp x .In y) l H (.bool (getS bs n).isSome) := ev_cmp hx hy fun Q q => by
  rcases h with ⟨rfl, h⟩ | ⟨_, h⟩
  · conv => whnf
    rw [h]; exact ⟨rfl, q⟩
  · conv => whnf
    rw [h]
    show Q (.bool (valueAt (vS bs) n).isSome) H
    rw [val_vS, Option.isSome_map]; exact q
theorem ev_sget (hx : Ev G hm x l H (.ref d)) (hy : Ev G hm y l H (.str n t)) (h : DAt H d bs) {i : Int} (hg : getS bs n = some i) : Ev G hm (.idx x y) l H (.int i 0) := ev_idx hx hy fun Q q => by
  rcases h with ⟨rfl, h⟩ | ⟨_, h⟩
  · cases hg
  · conv => whnf
    rw [h]
    show (match valueAt (vS bs) n with | some v => Q v H | none => False)
    rw [val_vS, hg]; exact q
theorem srt_at (h : DAt H d bs) (hz : bs.length ≤ sizeLine) (q : ∀ ms : List Str, ms.Perm (bs.map (·.1)) → sortedS ms = true → ∀ c, H c = none → Q (.ref c) (H.upd c (.list (ms.map fun x => Value.str x 0)))) : bfV .sorted [.ref d] H Q := by
  rcases h with ⟨rfl, h⟩ | ⟨_, h⟩
  · conv => whnf
    rw [h]
    refine ⟨hz, fun ms hp _ c hc => ?_⟩
    obtain rfl := List.perm_nil.1 hp
    exact q [] (List.Perm.refl _) rfl c hc
  · conv => whnf
    rw [h]
    refine ⟨by unfold vS; rw [List.length_map]; exact hz, fun ms hp hs => q ms ?_ hs⟩
    have e : (vS bs).map (·.1) = bs.map (·.1) := by unfold vS; rw [List.map_map]; rfl
    rw [e] at hp; exact hp
theorem rowsBy_app (bs : List (Str × Int)) (a : List Str) {n : Str} {i : Int} (h : getS bs n = some i) : rowsBy bs (a ++ [n]) = rowsBy bs a ++ [(n, i)] := by
  unfold rowsBy; rw [List.map_append, List.map_singleton, h]; rfl
theorem rows_comp {y : Str} (hy : ∀ v, ca l y v "_law_boxes" = l "_law_boxes") (hl : l "_law_boxes" = some (.ref d)) (h : DAt H d bs) (nd : (bs.map (·.1)).Nodup) (hz : bs.length ≤ 100)
    (q : ∀ c ys rows H', Kp [] H H' → H c = none → H' c = some (.list ys) → All2 (RRow H') ys rows → Rows bs rows → rows.length = bs.length → Q (.ref c) H') :
    wpE G false (.comp (.tup [.loc y, .idx (.loc "_law_boxes") (.loc y)]) y (.bf .sorted [.loc "_law_boxes"]) []) l H Q X := by
  refine w_bfW (Q := fun v H1 => iterH false v H1 fun guard items => items.length ≤ sizeLine ∧
      compG guard (fun v H2 k => wpB G false true [] ((l.del ".0").upd y v) H2 (fun c H3 => truthV c fun r =>
        if r then wpE G false (.tup [.loc y, .idx (.loc "_law_boxes") (.loc y)]) ((l.del ".0").upd y v) H3 (fun u H4 => k (some u) H4) (fun _ _ => False) else k none H3) (fun _ _ => False)) items [] H1
        fun us H' => newV (.list us) H' Q) (wl_cons (w_ev (ev_loc hl) (wl_nil ⟨.inr (.inl rfl), srt_at h (line100 hz) fun ms hp hs c hc => .inl ⟨rfl, ?_⟩⟩)))
  have k1 : Kp [] H (H.upd c (.list (ms.map fun x => Value.str x 0))) := kp_new hc _
  have e1 : (H.upd c (.list (ms.map fun x => Value.str x 0))) c = some (.list (ms.map fun x => Value.str x 0)) := Hp.upd_same _ _ _
  generalize H.upd c (.list (ms.map fun x => Value.str x 0)) = H1 at k1 e1 ⊢
  have hlen : ms.length = bs.length := by have := hp.length_eq; rwa [List.length_map] at this
  refine iter_at e1 rfl ⟨by rw [List.length_map, hlen]; exact line100 hz, ?_⟩
  refine compG_list (fun r acc H' => Kp [] H1 H' ∧ ∃ a b, ms = a ++ b ∧ r = b.map (fun x => Value.str x 0) ∧ All2 (RRow H') acc (rowsBy bs a)) (fun r acc H' z => at0 z.1 e1) ?_ ?_ _ _ _ ⟨Kp.refl _ _, [], ms, rfl, rfl, .nil⟩
  · rintro v r acc H' ⟨k2, a, b, e, hr, ha⟩ K hK
    cases b with
    | nil => cases hr
    | cons n b =>
    cases hr
    obtain ⟨i, hi⟩ := key_get.1 (hp.mem_iff.1 (show n ∈ ms by rw [e]; exact List.mem_append_right a (List.mem_cons_self ..)))
    have hD := (h.kp k1).kp k2
    have hv : ca l y (.str n 0) y = some (.str n 0) := if_pos rfl
    refine w_tup (l := ca l y (.str n 0)) (vs := [.str n 0, .int i 0]) (evl_cons (ev_loc hv) (evl_cons (ev_sget (ev_loc ((hy _).trans hl)) (ev_loc hv) hD hi) evl_nil)) (Nat.le_of_ble_eq_true rfl) fun t ht => hK (some (.ref t)) _ ⟨k2.trans (kp_new ht _), a ++ [n], b, by rw [e, List.append_assoc]; rfl, rfl, ?_⟩
    rw [rowsBy_app bs a hi]
    exact all2_append (all2_imp (fun _ _ z => RRow.kp (kp_new (M := []) ht _) z) ha) (.cons ⟨t, rfl, Hp.upd_same _ _ _⟩ .nil)
  · rintro acc H' ⟨k2, a, b, e, hr, ha⟩ c2 hc2
    obtain rfl : b = [] := by cases b with
      | nil => rfl
      | cons _ _ => cases hr
    rw [List.append_nil] at e
    subst e
    have k3 : Kp [] H' (H'.upd c2 (.list acc)) := kp_new hc2 _
    exact q c2 acc _ _ ((k1.trans k2).trans k3) (none0 (k1.trans k2) hc2) (Hp.upd_same _ _ _) (all2_imp (fun _ _ z => RRow.kp k3 z) ha) (rows_by nd hp hs) (by unfold rowsBy; rw [List.length_map, hlen])
/-! ### rows as data -/
noncomputable def rowD (r : Str × Int) : PyData := .tuple [.str r.1, .int r.2]
theorem rd_rows {xs : List Value} {rows : List (Str × Int)} (h : All2 (RRow H) xs rows) : RdAll H xs (rows.map rowD) := by
  induction h with
  | nil => exact .nil
  | cons e _ ih =>
    obtain ⟨a, rfl, ha⟩ := e
    exact .cons (.tup ha (.cons (.str _ _) (.cons (.int _ _) .nil))) ih
theorem lay_rows (rows : List (Str × Int)) : (∀ r ∈ rows, Good r.1) → PyData.canLayAll0 (rows.map rowD) = true := by
  induction rows with
  | nil => exact fun _ => rfl
  | cons r rows ih => exact fun h => Bool.and_eq_true_iff.2 ⟨Bool.and_eq_true_iff.2 ⟨good_ok (h r (List.mem_cons_self ..)), rfl⟩, ih fun x hx => h x (List.mem_cons_of_mem _ hx)⟩
theorem depth_rows (rows : List (Str × Int)) : PyData.depthAll (rows.map rowD) ≤ 2 := by
  induction rows with
  | nil => exact Nat.zero_le 2
  | cons r rows ih => exact Nat.max_le.2 ⟨by show PyData.depthAll [.str r.1, .int r.2] + 1 ≤ 2; exact Nat.succ_le_succ (Nat.max_le.2 ⟨Nat.zero_le 1, Nat.max_le.2 ⟨Nat.zero_le 1, Nat.zero_le 1⟩⟩), ih⟩
theorem shaped_rows {rows : List (Str × Int)} (h : ∀ r ∈ rows, Good r.1) : SeqAt.shaped (.list (rows.map rowD)) = true := by
  refine Bool.and_eq_true_iff.2 ⟨lay_rows rows h, decide_eq_true ?_⟩
  show PyData.depthAll (rows.map rowD) + 1 ≤ 64
  have := depth_rows rows
  omega
end
end Mine.L2
end

section
open PySem PyProof.Rows
namespace Mine.L2
open Mine Mine.St Mine.Lw
structure CC (G : Gx) (A : Ad) : Prop where
  f : E2 G A
  w : C_whole G A
  c : C_cell G A
  r : C_room G A
  n : C_name_by G A
  b : C_box_of G A
  o : C_wo G A
  p : C_pl G A
  s : C_rows G A
section
variable {A : Ad} {G : Gx} {H H' : Hp} {Q : QS} {X : XS} {l : Loc} {d c : Addr} {bs rows : List (Str × Int)} {n : Str} {t : Tok} {ys : List Value}
theorem rrow_upd {a : Addr} {xs : List Value} (h : H a = some (.list xs)) (o : AObj) {v : Value} {r : Str × Int} (q : RRow H v r) : RRow (H.upd a o) v r := by
  obtain ⟨b, e, hb⟩ := q
  exact ⟨b, e, by rw [Hp.upd_ne _ _ fun z => by rw [z, h] at hb; cases hb]; exact hb⟩
theorem ne_of {a b : Addr} {o : AObj} (h1 : H a = none) (h2 : H b = some o) : b ≠ a := fun e => by rw [e, h1] at h2; cases h2
/-- the two appends and the last question -/
theorem law_e (C : CC G A) {h cl cm : Addr} {xl xm : List Value} (g1 : l "_law_less" = some (.ref cl)) (g2 : l "_law_more" = some (.ref cm)) (g3 : l "_law_handed" = some (.ref h)) (g4 : l "_law_rows_here" = some (.ref c))
    (el : H cl = some (.list xl)) (em : H cm = some (.list xm)) (eh : H h = some (.list ys)) (ec : H c = some (.list ys)) (n1 : h ≠ cl) (n2 : h ≠ cm) (n3 : c ≠ cl) (n4 : c ≠ cm) (n5 : cm ≠ cl) (zl : xl.length ≤ 200) (zm : xm.length ≤ 200) (hr : All2 (RRow H) ys rows) (hz : rows.length ≤ 100) (q : ∀ l H', Q (.ret (.bool true)) l H') :
    wpSs G false (b_law.drop 16) l H Q X := by
  have F := C.f
  refine ss_exprW (w_appendW (ev_loc g1) el (w_tup (vs := [.str "more" 0, .int 1 0]) (by mem_news) (Nat.le_of_ble_eq_true rfl) fun t1 ht1 => ?_))
  have k1 : Kp [] H (H.upd t1 (.tup [.str "more" 0, .int 1 0])) := kp_new ht1 _
  generalize H.upd t1 (.tup [.str "more" 0, .int 1 0]) = H1 at k1 ⊢
  have el := at0 k1 el
  refine app_at el (Nat.le_trans zl (by decide)) ?_
  have em : (H1.upd cl (.list (xl ++ [.ref t1]))) cm = some (.list xm) := by rw [Hp.upd_ne _ _ n5]; exact at0 k1 em
  have eh : (H1.upd cl (.list (xl ++ [.ref t1]))) h = some (.list ys) := by rw [Hp.upd_ne _ _ n1]; exact at0 k1 eh
  have ec : (H1.upd cl (.list (xl ++ [.ref t1]))) c = some (.list ys) := by rw [Hp.upd_ne _ _ n3]; exact at0 k1 ec
  have hr : All2 (RRow (H1.upd cl (.list (xl ++ [.ref t1])))) ys rows := all2_imp (fun _ _ z => rrow_upd el _ (RRow.kp k1 z)) hr
  generalize H1.upd cl (.list (xl ++ [.ref t1])) = H2 at em eh ec hr ⊢
  refine ss_exprW (w_appendW (ev_loc g2) em (w_tup (vs := [.str "more" 0, .int 1 0]) (by mem_news) (Nat.le_of_ble_eq_true rfl) fun t2 ht2 => ?_))
  have k2 : Kp [] H2 (H2.upd t2 (.tup [.str "more" 0, .int 1 0])) := kp_new ht2 _
  generalize H2.upd t2 (.tup [.str "more" 0, .int 1 0]) = H3 at k2 ⊢
  have em := at0 k2 em
  refine app_at em (Nat.le_trans zm (by decide)) ?_
  have eh : (H3.upd cm (.list (xm ++ [.ref t2]))) h = some (.list ys) := by rw [Hp.upd_ne _ _ n2]; exact at0 k2 eh
  have ec : (H3.upd cm (.list (xm ++ [.ref t2]))) c = some (.list ys) := by rw [Hp.upd_ne _ _ n4]; exact at0 k2 ec
  have hr : All2 (RRow (H3.upd cm (.list (xm ++ [.ref t2])))) ys rows := all2_imp (fun _ _ z => rrow_upd em _ (RRow.kp k2 z)) hr
  generalize H3.upd cm (.list (xm ++ [.ref t2])) = H4 at eh ec hr ⊢
  exact ss_retW (w_call (ev_glob (F.fn rfl).1) (F.fn rfl).2 (evl_cons (ev_loc g3) (evl_cons (ev_loc g4) evl_nil)) (C.s eh ec hr hr hz fun H5 _ => q _ H5))
theorem len_filter {α : Type} (p : α → Bool) (l : List α) {n : Nat} (h : l.length ≤ n) : (l.filter p).length ≤ n := Nat.le_trans (List.length_filter_le _ _) h
theorem len_placed {rows : List (Str × Int)} (n : Str) (b : Int) (h : rows.length ≤ 69) : (placedR rows n b).length ≤ 200 := by
  unfold placedR
  rw [List.length_append, List.length_append, List.length_singleton]
  have h1 := len_filter (fun r : Str × Int => lessS r.1 n) rows h
  have h2 := len_filter (fun r : Str × Int => lessS n r.1) rows h
  omega
/-- from the copy on -/
theorem law_c (C : CC G A) {b : Int} (g1 : l "_law_boxes" = some (.ref d)) (g2 : l "_law_rows_here" = some (.ref c)) (g3 : l "_law_name" = some (.str n 0)) (g4 : l "_law_box" = some (.int b 0)) (g5 : l "_law_due" = some (optV (getS bs n)))
    (D : DAt H d bs) (nd : (bs.map (·.1)).Nodup) (hz : bs.length ≤ 69) (ec : H c = some (.list ys)) (hr : All2 (RRow H) ys rows) (R : Rows bs rows) (hlen : rows.length = bs.length) (q : ∀ l H', Q (.ret (.bool true)) l H') :
    wpSs G false (b_law.drop 8) l H Q X := by
  have F := C.f
  have hz69 : rows.length ≤ 69 := by rw [hlen]; exact hz
  have hz100 : rows.length ≤ 100 := Nat.le_trans hz69 (by decide)
  have hz20 : rows.length ≤ 2 ^ 20 := Nat.le_trans hz69 (by decide)
  have hy : ys.length ≤ sizeLine := by rw [all2_len hr]; exact Nat.le_trans hz69 (by decide)
  refine ss_asgW (w_blistL (ev_loc g2) ec hy fun h hh => ?_)
  have nhc : h ≠ c := fun e => by rw [e, ec] at hh; cases hh
  have k1 : Kp [] H (H.upd h (.list ys)) := kp_new hh _
  have eh : (H.upd h (.list ys)) h = some (.list ys) := Hp.upd_same _ _ _
  have ec := at0 k1 ec
  have D := D.kp k1
  have hr : All2 (RRow (H.upd h (.list ys))) ys rows := all2_imp (fun _ _ z => RRow.kp k1 z) hr
  generalize H.upd h (.list ys) = H1 at k1 eh ec D hr ⊢
  refine ss_asgW (w_call (ev_glob (F.fn rfl).1) (F.fn rfl).2 (evl_cons (ev_loc rfl) (evl_cons (ev_loc g3) evl_nil)) (C.b eh hr ?_))
  rw [R.get n]
  refine ss_iff0 ?_ ?_
  · cases hg : getS bs n with
    | none =>
      rw [hg] at g5
      exact ev_go (k := false) (ev_go (k := true) (ev_is (ev_loc g5) rfl) (ev_one (ev_isnot (b := true) (ev_loc rfl) rfl))) (ev_one (ev_stop (k := true) (ev_isnot (b := true) (ev_loc g5) rfl)))
    | some i =>
      rw [hg] at g5
      exact ev_go (k := false) (ev_stop (k := true) (ev_is (b := false) (ev_loc g5) rfl)) (ev_one (ev_go (k := true) (ev_isnot (b := false) (ev_loc g5) rfl) (ev_one (ev_go (k := false) (ev_not (ev_whole F C.w (ev_loc rfl)) rfl) (ev_one (ev_ne (ev_loc rfl) (ev_loc (by exact g5)) (not_dec _)))))))
  refine ss_asgW (w_call (ev_glob (F.fn rfl).1) (F.fn rfl).2 (evl_cons (ev_loc rfl) (evl_cons (ev_loc g3) evl_nil)) (C.o eh hr hz20 fun cl xl H2 k2 f2 el rl => ?_))
  have n1 := ne_of f2 eh
  have n3 := ne_of f2 ec
  have eh := at0 k2 eh
  have ec := at0 k2 ec
  have D := D.kp k2
  have hr := all2_imp (fun _ _ z => RRow.kp k2 z) hr
  refine ss_asgW (w_call (ev_glob (F.fn rfl).1) (F.fn rfl).2 (evl_cons (ev_loc rfl) (evl_cons (ev_loc g3) (evl_cons (ev_loc g4) evl_nil))) (C.p eh hr hz20 fun cm xm H3 k3 f3 em rm => ?_))
  have n2 := ne_of f3 eh
  have n4 := ne_of f3 ec
  have n5 := (ne_of f3 el).symm
  have eh := at0 k3 eh
  have ec := at0 k3 ec
  have el := at0 k3 el
  have D := D.kp k3
  have hr := all2_imp (fun _ _ z => RRow.kp k3 z) hr
  have rl := all2_imp (fun _ _ z => RRow.kp k3 z) rl
  refine ss_ifW (w_notN (w_callW (ev_glob (F.fn rfl).1) (F.fn rfl).2 (wl_cons (w_ev (ev_loc rfl) (wl_cons (w_compA (fun r : Str × Int => !decide (r.1 = n)) id (ev_loc g2) ec rfl hy hr (fun v r e => ?_) (fun v r _ _ => ev_loc rfl) fun zs hzs _ cz hcz => wl_nil ?_))))))
  · obtain ⟨a, rfl, ha⟩ := e
    exact ev_one (ev_nes (ev_at (ev_loc rfl) ev_int ha rfl rfl) (ev_loc (by exact g3)) rfl)
  rw [List.map_id]
  have k4 : Kp [] H3 (H3.upd cz (.list zs)) := kp_new hcz _
  have ez : (H3.upd cz (.list zs)) cz = some (.list zs) := Hp.upd_same _ _ _
  generalize H3.upd cz (.list zs) = H4 at k4 ez ⊢
  refine C.s (at0 k4 el) ez (all2_imp (fun _ _ z => RRow.kp k4 z) rl) (all2_imp (fun _ _ z => RRow.kp k4 z) hzs) (len_filter _ _ hz100) fun H5 k5 => nv_t (tv_f (ss_sq ?_))
  have k35 := k4.trans k5
  have eh := at0 k35 eh
  have ec := at0 k35 ec
  have el := at0 k35 el
  have em := at0 k35 em
  have D := D.kp k35
  have hr := all2_imp (fun _ _ z => RRow.kp k35 z) hr
  have rm := all2_imp (fun _ _ z => RRow.kp k35 z) rm
  have zl : xl.length ≤ 200 := by rw [all2_len rl]; exact Nat.le_trans (len_filter _ _ hz69) (by decide)
  have zm : xm.length ≤ 200 := by rw [all2_len rm]; exact len_placed n b hz69
  refine ss_keyW (w_ev (ev_loc g4) (w_ev (ev_loc g1) (w_ev (ev_loc g3) (set_at D (Nat.le_trans hz (by decide)) ?_))))
  have k6 := D.kpd (.sdict (vS (putS bs n b)))
  have D6 : DAt (H5.upd d (.sdict (vS (putS bs n b)))) d (putS bs n b) := DAt.new b
  generalize H5.upd d (.sdict (vS (putS bs n b))) = H6 at k6 D6 ⊢
  have eh := k6.list eh
  have ec := k6.list ec
  have el := k6.list el
  have em := k6.list em
  have hr := all2_imp (fun _ _ z => RRow.kp k6 z) hr
  have rm := all2_imp (fun _ _ z => RRow.kp k6 z) rm
  refine ss_ifW (w_notN (w_callW (ev_glob (F.fn rfl).1) (F.fn rfl).2 (wl_cons (w_ev (ev_loc rfl) (wl_cons (rows_comp (y := "_law_one") (fun _ => rfl) g1 D6 (put_nodup n b nd) (Nat.le_trans (put_len bs n b) (Nat.le_trans (Nat.succ_le_succ hz) (by decide))) fun c7 y7 rows7 H7 k7 _ e7 r7 R7 l7 => wl_nil ?_))))))
  obtain rfl := R7.eq (R.placed n b)
  refine C.s (at0 k7 em) e7 (all2_imp (fun _ _ z => RRow.kp k7 z) rm) r7 (by rw [l7]; exact Nat.le_trans (put_len bs n b) (Nat.le_trans (Nat.succ_le_succ hz) (by decide))) fun H8 k8 => nv_t (tv_f (ss_sq ?_))
  have k68 := k7.trans k8
  exact law_e C rfl rfl rfl g2 (at0 k68 el) (at0 k68 em) (at0 k68 eh) (at0 k68 ec) n1 n2 n3 n4 n5 zl zm (all2_imp (fun _ _ z => RRow.kp k68 z) hr) hz100 q
/-- from the box on -/
theorem law_b (C : CC G A) {a : Addr} {ns : List Int} (g0 : l "_law_script" = some (.ref a)) (g1 : l "_law_boxes" = some (.ref d)) (g2 : l "_law_rows_here" = some (.ref c)) (g3 : l "_law_name" = some (.str n 0)) (ha : H a = some (.rlist (vI ns)))
    (D : DAt H d bs) (nd : (bs.map (·.1)).Nodup) (hz : bs.length ≤ 69) (ec : H c = some (.list ys)) (hr : All2 (RRow H) ys rows) (R : Rows bs rows) (hlen : rows.length = bs.length) (q : ∀ l H', Q (.ret (.bool true)) l H') :
    wpSs G false (b_law.drop 5) l H Q X := by
  refine ss_asg (ev_mod (ev_cell C.f C.c ha (k := 3) (ev_loc g0) ev_int) (ev_pow ev_int ev_int (by decide) (by decide) (by decide)) (by decide)) ?_
  refine ss_asg ev_none ?_
  refine ss_if (ev_sin (ev_loc g3) (ev_loc g1) D) (fun hb => ?_) fun hb => ss_sq ?_
  · obtain ⟨i, hi⟩ := Option.isSome_iff_exists.1 hb
    refine ss_asg (ev_sget (ev_loc (by exact g1)) (ev_loc (by exact g3)) D hi) (ss_sq ?_)
    exact law_c C g1 g2 g3 rfl (by rw [hi]; rfl) D nd hz ec hr R hlen q
  · have hi : getS bs n = none := by cases e : getS bs n with
      | none => rfl
      | some _ => rw [e] at hb; cases hb
    exact law_c C g1 g2 g3 rfl (by rw [hi]; rfl) D nd hz ec hr R hlen q
/-- from the rows on -/
theorem law_a (C : CC G A) {a : Addr} {ns : List Int} (g0 : l "_law_script" = some (.ref a)) (g1 : l "_law_boxes" = some (.ref d)) (ha : H a = some (.rlist (vI ns)))
    (D : DAt H d bs) (nd : (bs.map (·.1)).Nodup) (hz : bs.length ≤ 69) (hg : ∀ n ∈ bs.map (·.1), Good n) (q : ∀ l H', Q (.ret (.bool true)) l H') :
    wpSs G false (b_law.drop 2) l H Q X := by
  have F := C.f
  refine ss_asgW (rows_comp (y := "_law_name") (fun _ => rfl) g1 D nd (Nat.le_trans hz (by decide)) fun c ys rows H1 k1 _ ec hr R hlen => ?_)
  have ha := at0 k1 ha
  have D := D.kp k1
  refine ss_asgW (w_call (ev_glob (F.fn rfl).1) (F.fn rfl).2 (evl_cons (ev_cell F C.c ha (k := 1) (ev_loc g0) ev_int) evl_nil) (C.n fun H2 k2 => ?_))
  have ha := at0 k2 ha
  have D := D.kp k2
  have ec := at0 k2 ec
  have hr := all2_imp (fun _ _ z => RRow.kp k2 z) hr
  refine ss_ifW (w_bopW (wb_cons (w_cmpW (w_ev (ev_loc rfl) (w_list evl_nil (Nat.le_of_ble_eq_true rfl) fun e he => ?_)))))
  have k3 : Kp [] H2 (H2.upd e (.list [])) := kp_new he _
  have ee : (H2.upd e (.list [])) e = some (.list []) := Hp.upd_same _ _ _
  generalize H2.upd e (.list []) = H3 at k3 ee ⊢
  have ha := at0 k3 ha
  have D := D.kp k3
  have ec := at0 k3 ec
  have hr := all2_imp (fun _ _ z => RRow.kp k3 z) hr
  have hgr : ∀ r ∈ rows, Good r.1 := fun r hr => hg r.1 (key_get.2 ⟨r.2, (R.mem r.1 r.2).1 hr⟩)
  refine ⟨.list (rows.map rowD), .list [], .list ec (rd_rows hr), .list ee .nil, shaped_rows hgr, rfl, ?_⟩
  rw [eqv_nil]
  have fin : ∀ n : Str, wpSs G false (b_law.drop 5) (((l.upd "_law_rows_here" (.ref c)).upd "_law_name" (.str (nameBy (ns.getD 1 0)) 0)).upd "_law_name" (.str n 0)) H3 Q X := fun n => law_b C g0 g1 rfl rfl ha D nd hz ec hr R hlen q
  cases rows with
  | nil => exact bo_stop (k := true) (tv_f (ss_sq (law_b C g0 g1 rfl rfl ha D nd hz ec hr R hlen q)))
  | cons r rs =>
    refine bo_go (k := true) ?_
    refine wb_one (w_ev (ev_eq (ev_mod (ev_cell F C.c ha (k := 2) (ev_loc (by exact g0)) ev_int) ev_int (by decide)) ev_int rfl) ?_)
    cases hb : decide (ns.getD 2 0 % 2 = 1) with
    | false => exact tv_f (ss_sq (law_b C g0 g1 rfl rfl ha D nd hz ec hr R hlen q))
    | true =>
      have hl : (0 : Int) < (ys.length : Int) := by rw [all2_len hr]; exact Int.ofNat_lt.2 (Nat.succ_pos _)
      have mm := mod_lt (ns.getD 1 0) hl
      obtain ⟨k, hk⟩ := Int.eq_ofNat_of_zero_le mm.1
      have hk : ns.getD 1 0 % (ys.length : Int) = (k : Int) := hk
      obtain ⟨v, r', e1, e2, p, rfl, hp⟩ := all2_at2 hr (k := k) (by rw [← all2_len hr]; exact Int.ofNat_lt.1 (hk ▸ mm.2))
      refine tv_t (ss_asg (ev_at (ev_at (ev_loc rfl) (ev_mod (ev_cell F C.c ha (k := 1) (ev_loc (by exact g0)) ev_int) (ev_len (ev_loc rfl) ec rfl) hl) ec rfl (by rw [hk, at_nat]; exact e1)) ev_int hp rfl rfl) (ss_sq (fin _)))
/-- what the loop keeps -/
structure LI (a d : Addr) (ns : List Int) (i : Nat) (l : Loc) (H : Hp) : Prop where
  s : l "_law_script" = some (.ref a)
  b : l "_law_boxes" = some (.ref d)
  a : H a = some (.rlist (vI ns))
  ex : ∃ bs, DAt H d bs ∧ (bs.map (·.1)).Nodup ∧ bs.length ≤ i ∧ ∀ n ∈ bs.map (·.1), Good n
end
section
variable {A : Ad} {G : Gx} {H H' : Hp} {Q : QV} {X : XV}
theorem law_ok (C : CC G A) {a : Addr} {ns : List Int} (ha : H a = some (.rlist (vI ns))) (q : ∀ H', Q (.bool true) H') : wpF G false ["_law_script"] b_law [.ref a] H Q X := by
  have F := C.f
  refine f_in rfl ?_
  refine ss_asgW (w_dict0 fun d hd => ?_)
  have k1 : Kp [] H (H.upd d (.idict [])) := kp_new hd _
  have e1 : DAt (H.upd d (.idict [])) d [] := .inl ⟨rfl, Hp.upd_same _ _ _⟩
  have ha1 := at0 k1 ha
  generalize H.upd d (.idict []) = H1 at k1 e1 ha1 ⊢
  obtain ⟨n, hn, h70⟩ := room_nat ns
  refine ss_forR (n := n) (LI a d ns) (ev_cast (ev_room F C.r ha1 (ev_loc rfl)) (by rw [hn])) (Nat.lt_trans h70 (by decide)) ?_ (fun c hc => ⟨rfl, rfl, at0 (kp_new hc _) ha1, [], e1.kp (kp_new hc _), List.Pairwise.nil, Nat.le_refl _, fun _ h => absurd h List.not_mem_nil⟩) ?_
  · rintro i hi l' H' ⟨s, b, ha, bs, D, nd, hz, hg⟩ K hK _
    refine ss_asg (ev_add (ev_add (ev_cell F C.c ha (k := 4 + i % 20) (ev_loc s) (ev_cast (ev_add ev_int (ev_mod (ev_loc rfl) ev_int (by decide))) (congrArg (Value.int · 0) (by omega)))) (ev_mul ev_int (ev_div (ev_loc rfl) ev_int (by decide) (by decide)) (.inl (by decide)))) (ev_loc rfl)) ?_
    refine ss_keyW (w_ev (ev_mod (ev_mul (ev_loc rfl) ev_int (.inr (by decide))) (ev_pow ev_int ev_int (by decide) (by decide) (by decide)) (by decide)) (w_ev (ev_loc b) (w_call (ev_glob (F.fn rfl).1) (F.fn rfl).2 (evl_cons (ev_loc rfl) evl_nil) (C.n fun H2 k2 => set_at (D.kp k2) (Nat.le_trans hz (Nat.le_trans (Nat.le_of_lt (Nat.lt_trans hi h70)) (by decide))) ?_))))
    refine ss_nl (hK _ _ ⟨by exact s, by exact b, ((D.kp k2).kpd _).rlist (at0 k2 ha), _, DAt.new _, put_nodup _ _ nd, Nat.le_trans (put_len _ _ _) (Nat.succ_le_succ hz), put_all hg (nameBy_good _)⟩).1
  · rintro l' H' ⟨s, b, ha, bs, D, nd, hz, hg⟩
    exact law_a C s b ha D nd (Nat.le_trans hz (Nat.le_of_lt_succ h70)) hg fun _ H' => q H'
end
end Mine.L2
end

section
open PySem PyProof.Rows
namespace Mine.L2
open Mine Mine.St Mine.Lw
section
variable {A : Ad}
structure TabL (tab : Tab) (A : Ad) : Prop where
  box_of : HasF tab (A "box_of" "") ["rows", "name"] b_box_of
  without : HasF tab (A "without" "") ["rows", "name"] b_without
  placed : HasF tab (A "placed" "") ["rows", "name", "box"] b_placed
  whole : HasF tab (A "_law_whole" "") ["_law_seen"] b__law_whole
  cell_at : HasF tab (A "_law_cell_at" "") ["_law_script", "_law_k"] b__law_cell_at
  name_by : HasF tab (A "_law_name_by" "") ["_law_cell"] b__law_name_by
  rows : HasF tab (A "_law_rows" "") ["_law_seen", "_law_due"] b__law_rows
  room : HasF tab (A "_law_room" "") ["_law_script"] b__law_room
  law : HasF tab (A "law" "") ["_law_script"] b_law
section
variable {g : Gx} {tab : Tab} (f : E2 g A) (t : TabL tab A) (n : Nat)
include f t
omit f in
theorem whole_at : C_whole (GG g tab (n + 1)) A := fun _ _ _ _ _ q => fn_gg t.whole (whole_ok q)
omit f in
theorem cell_at : C_cell (GG g tab (n + 1)) A := fun _ _ _ ha _ _ _ _ q => fn_gg t.cell_at (cell_ok ha q)
theorem room_at : C_room (GG g tab (n + 2)) A := fun _ _ _ ha _ _ q => fn_gg t.room (room_ok (f.gg tab _) (cell_at t n) ha q)
omit f in
theorem name_at : C_name_by (GG g tab (n + 1)) A := fun _ _ _ _ _ q => fn_gg t.name_by (name_by_ok q)
omit f in
theorem box_at : C_box_of (GG g tab (n + 1)) A := fun _ _ _ _ _ _ h1 h2 _ _ q => fn_gg t.box_of (box_of_ok h1 h2 q)
omit f in
theorem wo_at : C_wo (GG g tab (n + 1)) A := fun _ _ _ _ _ h1 h2 h3 _ _ q => fn_gg t.without (wo_ok h1 h2 h3 q)
omit f in
theorem pl_at : C_pl (GG g tab (n + 1)) A := fun _ _ _ _ _ _ h1 h2 h3 _ _ q => fn_gg t.placed (pl_ok h1 h2 h3 q)
theorem rows_at : C_rows (GG g tab (n + 2)) A := fun _ _ _ _ _ _ h1 h2 h3 h4 h5 _ _ q => fn_gg t.rows (rows_ok (f.gg tab _) (whole_at t n) h1 h2 h3 h4 h5 q)
theorem law_tells {a : Addr} {ns : List Int} {H : Hp} (ha : H a = some (.rlist (ns.map fun n => Value.int n 0))) : (GG g tab 13).fn (A "law" "") false [.ref a] H (fun v _ => v = .bool true) (fun _ _ => False) :=
  fn_gg t.law (law_ok ⟨f.gg tab 12, whole_at t 11, cell_at t 11, room_at f t 10, name_at t 11, box_at t 11, wo_at t 11, pl_at t 11, rows_at f t 10⟩ ha fun _ => rfl)
end
end
end Mine.L2
end

end

section
open PySem PySem.W PyProof.Rows PySem.Challenge
set_option maxHeartbeats 0
set_option maxRecDepth 1000000
namespace Mine.L2
section
/-- the text's statements -/
noncomputable def stA (i : Nat) : Stmt := pw_uf040010_02.main.body.getD i (.Pass default)
noncomputable def inA (i j : Nat) : Stmt := match stA i with
  | .ClassDef _ _ _ b _ _ _ _ _ _ _ => b.getD j (.Pass default)
  | s => s
noncomputable def fo (st : Stmt) (q : String) (m : Value) (c : Nat) : FuncData := match st with
  | .FunctionDef n a b _ _ _ sc _ _ _ => { name := n, qualname := q, params := a, body := .stmts b, scope := sc, globals := 3, closure := [], defaults := .none, kwdefaults := .none, pyModule := m, code := .ref c }
  | _ => default
noncomputable def en (P : Params) (x : String) (t : Nat) (v : Value) : DictEntry := { hash := PyData.keyHash P x, key := .str x t, val := v }
/-- what the top leaves -/
noncomputable def KK (P : Params) : Frag := [
  (2, { cls := Value.none, data := Data.dict #[] }),
  (3, { cls := Value.type "dict", data := Data.dict #[en P "__name__" 165 (Value.str (Str.ofString "law_uf040010_02") 210), en P "__doc__" 166 (Value.none), en P "__package__" 167 (Value.none), en P "__loader__" 168 (Value.builtin "__main__.__loader__#opaque"), en P "__spec__" 169 (Value.none), en P "__annotations__" 170 (Value.ref 6), en P "__builtins__" 171 (Value.ref 4), en P "__file__" 173 (Value.str (Str.ofString "/claim/cut.py") 172), en P "__cached__" 174 (Value.none), en P "box_of" 197 (Value.ref 21), en P "without" 203 (Value.ref 26), en P "placed" 209 (Value.ref 31), en P "_law_whole" 218 (Value.ref 38), en P "_law_cell_at" 226 (Value.ref 45), en P "_law_name_by" 232 (Value.ref 50), en P "_law_rows" 242 (Value.ref 57), en P "_law_room" 249 (Value.ref 64), en P "law" 255 (Value.ref 69)] 18 }),
  (6, { cls := Value.type "dict", data := Data.dict #[] }),
  (15, { cls := Value.type "tuple", data := Data.seq #[] }),
  (17, { cls := Value.type "tuple", data := Data.seq #[Value.str (Str.ofString "rows") 192, Value.str (Str.ofString "name") 193, Value.str (Str.ofString "row") 194] }),
  (18, { cls := Value.type "tuple", data := Data.seq #[] }),
  (20, { cls := Value.type "code", data := Data.fields #[Value.str (Str.ofString "box_of") 189, Value.str (Str.ofString "box_of") 190, Value.str (Str.ofString "/claim/cut.py") 191, Value.int 2 0, Value.int 2 0, Value.int 0 0, Value.int 0 0, Value.int 3 0, Value.ref 15, Value.bool true, Value.int 181 0, Value.ref 16, Value.none, Value.ref 17, Value.ref 18, Value.ref 19, Value.int 195 0, Value.int 2 0, Value.str (Str.ofString "/claim/cut.py") 196] }),
  (21, { cls := .type "function", data := .func (fo (stA 1) "box_of" (Value.str (Str.ofString "snaptree.rows") 187) 20) }),
  (22, { cls := Value.type "tuple", data := Data.seq #[] }),
  (25, { cls := Value.type "code", data := Data.fields #[Value.str (Str.ofString "without") 198, Value.str (Str.ofString "without") 199, Value.str (Str.ofString "/claim/cut.py") 200, Value.int 7 0, Value.int 2 0, Value.int 0 0, Value.int 0 0, Value.int 3 0, Value.ref 22, Value.bool true, Value.int 181 0, Value.ref 23, Value.none, Value.none, Value.none, Value.ref 24, Value.int 201 0, Value.int 7 0, Value.str (Str.ofString "/claim/cut.py") 202] }),
  (26, { cls := .type "function", data := .func (fo (stA 2) "without" (Value.str (Str.ofString "snaptree.rows") 187) 25) }),
  (27, { cls := Value.type "tuple", data := Data.seq #[] }),
  (30, { cls := Value.type "code", data := Data.fields #[Value.str (Str.ofString "placed") 204, Value.str (Str.ofString "placed") 205, Value.str (Str.ofString "/claim/cut.py") 206, Value.int 9 0, Value.int 3 0, Value.int 0 0, Value.int 0 0, Value.int 3 0, Value.ref 27, Value.bool true, Value.int 181 0, Value.ref 28, Value.none, Value.none, Value.none, Value.ref 29, Value.int 207 0, Value.int 9 0, Value.str (Str.ofString "/claim/cut.py") 208] }),
  (31, { cls := .type "function", data := .func (fo (stA 3) "placed" (Value.str (Str.ofString "snaptree.rows") 187) 30) }),
  (32, { cls := Value.type "tuple", data := Data.seq #[] }),
  (34, { cls := Value.type "tuple", data := Data.seq #[Value.str (Str.ofString "_law_seen") 215] }),
  (35, { cls := Value.type "tuple", data := Data.seq #[] }),
  (37, { cls := Value.type "code", data := Data.fields #[Value.str (Str.ofString "_law_whole") 212, Value.str (Str.ofString "_law_whole") 213, Value.str (Str.ofString "/claim/cut.py") 214, Value.int 14 0, Value.int 1 0, Value.int 0 0, Value.int 0 0, Value.int 3 0, Value.ref 32, Value.bool true, Value.int 181 0, Value.ref 33, Value.none, Value.ref 34, Value.ref 35, Value.ref 36, Value.int 216 0, Value.int 14 0, Value.str (Str.ofString "/claim/cut.py") 217] }),
  (38, { cls := .type "function", data := .func (fo (stA 5) "_law_whole" (Value.str (Str.ofString "law_uf040010_02") 210) 37) }),
  (39, { cls := Value.type "tuple", data := Data.seq #[] }),
  (41, { cls := Value.type "tuple", data := Data.seq #[Value.str (Str.ofString "_law_script") 222, Value.str (Str.ofString "_law_k") 223] }),
  (42, { cls := Value.type "tuple", data := Data.seq #[] }),
  (44, { cls := Value.type "code", data := Data.fields #[Value.str (Str.ofString "_law_cell_at") 219, Value.str (Str.ofString "_law_cell_at") 220, Value.str (Str.ofString "/claim/cut.py") 221, Value.int 16 0, Value.int 2 0, Value.int 0 0, Value.int 0 0, Value.int 3 0, Value.ref 39, Value.bool true, Value.int 181 0, Value.ref 40, Value.none, Value.ref 41, Value.ref 42, Value.ref 43, Value.int 224 0, Value.int 16 0, Value.str (Str.ofString "/claim/cut.py") 225] }),
  (45, { cls := .type "function", data := .func (fo (stA 6) "_law_cell_at" (Value.str (Str.ofString "law_uf040010_02") 210) 44) }),
  (46, { cls := Value.type "tuple", data := Data.seq #[] }),
  (49, { cls := Value.type "code", data := Data.fields #[Value.str (Str.ofString "_law_name_by") 227, Value.str (Str.ofString "_law_name_by") 228, Value.str (Str.ofString "/claim/cut.py") 229, Value.int 20 0, Value.int 1 0, Value.int 0 0, Value.int 0 0, Value.int 3 0, Value.ref 46, Value.bool true, Value.int 181 0, Value.ref 47, Value.none, Value.none, Value.none, Value.ref 48, Value.int 230 0, Value.int 20 0, Value.str (Str.ofString "/claim/cut.py") 231] }),
  (50, { cls := .type "function", data := .func (fo (stA 7) "_law_name_by" (Value.str (Str.ofString "law_uf040010_02") 210) 49) }),
  (51, { cls := Value.type "tuple", data := Data.seq #[] }),
  (53, { cls := Value.type "tuple", data := Data.seq #[Value.str (Str.ofString "_law_seen") 236, Value.str (Str.ofString "_law_due") 237, Value.str (Str.ofString "_law_k") 238, Value.str (Str.ofString "_law_pair") 239] }),
  (54, { cls := Value.type "tuple", data := Data.seq #[] }),
  (56, { cls := Value.type "code", data := Data.fields #[Value.str (Str.ofString "_law_rows") 233, Value.str (Str.ofString "_law_rows") 234, Value.str (Str.ofString "/claim/cut.py") 235, Value.int 27 0, Value.int 2 0, Value.int 0 0, Value.int 0 0, Value.int 3 0, Value.ref 51, Value.bool true, Value.int 181 0, Value.ref 52, Value.none, Value.ref 53, Value.ref 54, Value.ref 55, Value.int 240 0, Value.int 27 0, Value.str (Str.ofString "/claim/cut.py") 241] }),
  (57, { cls := .type "function", data := .func (fo (stA 8) "_law_rows" (Value.str (Str.ofString "law_uf040010_02") 210) 56) }),
  (58, { cls := Value.type "tuple", data := Data.seq #[] }),
  (60, { cls := Value.type "tuple", data := Data.seq #[Value.str (Str.ofString "_law_script") 246] }),
  (61, { cls := Value.type "tuple", data := Data.seq #[] }),
  (63, { cls := Value.type "code", data := Data.fields #[Value.str (Str.ofString "_law_room") 243, Value.str (Str.ofString "_law_room") 244, Value.str (Str.ofString "/claim/cut.py") 245, Value.int 37 0, Value.int 1 0, Value.int 0 0, Value.int 0 0, Value.int 3 0, Value.ref 58, Value.bool true, Value.int 181 0, Value.ref 59, Value.none, Value.ref 60, Value.ref 61, Value.ref 62, Value.int 247 0, Value.int 37 0, Value.str (Str.ofString "/claim/cut.py") 248] }),
  (64, { cls := .type "function", data := .func (fo (stA 9) "_law_room" (Value.str (Str.ofString "law_uf040010_02") 210) 63) }),
  (65, { cls := Value.type "tuple", data := Data.seq #[] }),
  (68, { cls := Value.type "code", data := Data.fields #[Value.str (Str.ofString "law") 250, Value.str (Str.ofString "law") 251, Value.str (Str.ofString "/claim/cut.py") 252, Value.int 41 0, Value.int 1 0, Value.int 0 0, Value.int 0 0, Value.int 3 0, Value.ref 65, Value.bool true, Value.int 181 0, Value.ref 66, Value.none, Value.none, Value.none, Value.ref 67, Value.int 253 0, Value.int 41 0, Value.str (Str.ofString "/claim/cut.py") 254] }),
  (69, { cls := .type "function", data := .func (fo (stA 10) "law" (Value.str (Str.ofString "law_uf040010_02") 210) 68) })]
noncomputable def asK : List Nat := [2, 3, 6, 15, 17, 18, 20, 21, 22, 25, 26, 27, 30, 31, 32, 34, 35, 37, 38, 39, 41, 42, 44, 45, 46, 49, 50, 51, 53, 54, 56, 57, 58, 60, 61, 63, 64, 65, 68, 69]
noncomputable def kept : Stmt → Bool
  | .Assign [.Name x _] _ _ => x != "__name__"
  | _ => true
noncomputable def view : Program := { pw_uf040010_02 with main := { pw_uf040010_02.main with body := pw_uf040010_02.main.body.filter kept } }
noncomputable def lawD : DefRec := match (stA 10) with
  | .FunctionDef n a b _ _ _ sc _ _ p => ⟨n, a, b, sc, p⟩
  | _ => ⟨"law", default, [], default, default⟩
noncomputable abbrev hook : Hook := kHook KK asK (fun _ => by kernel_rfl)
theorem left : LeftO rw_uf040010_02.row.prog view [] (fun s => xlAt view [] s && recOk (RowW.records rw_uf040010_02.row.toRowW) s) hook.obs hook.val 880 := left_of (by
  intro w
  kernel_rfl)
theorem said : rw_uf040010_02.wellSaid = true := by kernel_rfl
end
end Mine.L2
end

section
open PySem PyProof.Rows PySem.Calls
set_option maxHeartbeats 4000000
set_option linter.unusedVariables false
namespace Mine.L2
open Mine Mine.St Mine.Lw
noncomputable abbrev fd_box_of : FuncData := (fo (stA 1) "box_of" (Value.str (Str.ofString "snaptree.rows") 187) 20)
noncomputable abbrev fd_without : FuncData := (fo (stA 2) "without" (Value.str (Str.ofString "snaptree.rows") 187) 25)
noncomputable abbrev fd_placed : FuncData := (fo (stA 3) "placed" (Value.str (Str.ofString "snaptree.rows") 187) 30)
noncomputable abbrev fd__law_whole : FuncData := (fo (stA 5) "_law_whole" (Value.str (Str.ofString "law_uf040010_02") 210) 37)
noncomputable abbrev fd__law_cell_at : FuncData := (fo (stA 6) "_law_cell_at" (Value.str (Str.ofString "law_uf040010_02") 210) 44)
noncomputable abbrev fd__law_name_by : FuncData := (fo (stA 7) "_law_name_by" (Value.str (Str.ofString "law_uf040010_02") 210) 49)
noncomputable abbrev fd__law_rows : FuncData := (fo (stA 8) "_law_rows" (Value.str (Str.ofString "law_uf040010_02") 210) 56)
noncomputable abbrev fd__law_room : FuncData := (fo (stA 9) "_law_room" (Value.str (Str.ofString "law_uf040010_02") 210) 63)
noncomputable abbrev fd_law : FuncData := (fo (stA 10) "law" (Value.str (Str.ofString "law_uf040010_02") 210) 68)
theorem d_box_of {P : Pm} {G : Gx} {n : Nat} (Y : PmOk P) (B : BltOk P) (GO : GxOk P G) (FN : SndFn P G n) (hm : Bool) : SS P G n hm (scOf (stA 1)) (bodyOf (stA 1)) St.b_box_of := (ss_cons (s1_for rfl rfl (se_loc rfl) (ss_cons (s1_if (st_cmp Y (se_idx1 (se_loc rfl) se_int rfl) (se_loc rfl) rfl) (ss_cons (s1_ret (se_idx1 (se_loc rfl) se_int rfl)) ss_nil) ss_nil) ss_nil)) (ss_cons (s1_ret se_none) ss_nil))
theorem at_box_of {P : Pm} (Y : PmOk P) (B : BltOk P) (hK : P.K = KK P.w.params) : RowOk P (21, (["rows", "name"], St.b_box_of)) :=
  row2 (fd := fd_box_of) (body := bodyOf (stA 1)) Y hK (by kernel_rfl) (by kernel_rfl) (by kernel_rfl) ⟨rfl, rfl, rfl⟩ (fun GO FN hm => d_box_of Y B GO FN hm) (fun _ _ => rfl)
theorem d_without {P : Pm} {G : Gx} {n : Nat} (Y : PmOk P) (B : BltOk P) (GO : GxOk P G) (FN : SndFn P G n) (hm : Bool) : SS P G n hm (scOf (stA 2)) (bodyOf (stA 2)) St.b_without := (ss_cons (s1_ret (se_comp rfl rfl (se_loc rfl) (se_loc rfl) (STall.cons (st_cmp Y (se_idx1 (se_loc rfl) se_int rfl) (se_loc rfl) rfl) STall.nil))) ss_nil)
theorem at_without {P : Pm} (Y : PmOk P) (B : BltOk P) (hK : P.K = KK P.w.params) : RowOk P (26, (["rows", "name"], St.b_without)) :=
  row2 (fd := fd_without) (body := bodyOf (stA 2)) Y hK (by kernel_rfl) (by kernel_rfl) (by kernel_rfl) ⟨rfl, rfl, rfl⟩ (fun GO FN hm => d_without Y B GO FN hm) (fun _ _ => rfl)
theorem d_placed {P : Pm} {G : Gx} {n : Nat} (Y : PmOk P) (B : BltOk P) (GO : GxOk P G) (FN : SndFn P G n) (hm : Bool) : SS P G n hm (scOf (stA 3)) (bodyOf (stA 3)) St.b_placed := (ss_cons (s1_asgComp rfl rfl rfl (se_loc rfl) (se_loc rfl) (STall.cons (st_cmp Y (se_idx1 (se_loc rfl) se_int rfl) (se_loc rfl) rfl) STall.nil)) (ss_cons (s1_asgComp rfl rfl rfl (se_loc rfl) (se_loc rfl) (STall.cons (st_cmp Y (se_idx1 (se_loc rfl) se_int rfl) (se_loc rfl) rfl) STall.nil)) (ss_cons (s1_ret (se_bin (se_bin (se_loc rfl) (se_list (ses_cons rfl (se_tup (ses_cons rfl (se_loc rfl) (ses_cons rfl (se_loc rfl) ses_nil))) ses_nil))) (se_loc rfl))) ss_nil)))
theorem at_placed {P : Pm} (Y : PmOk P) (B : BltOk P) (hK : P.K = KK P.w.params) : RowOk P (31, (["rows", "name", "box"], St.b_placed)) :=
  row3 (fd := fd_placed) (body := bodyOf (stA 3)) Y hK (by kernel_rfl) (by kernel_rfl) (by kernel_rfl) ⟨rfl, rfl, rfl⟩ (fun GO FN hm => d_placed Y B GO FN hm) (fun _ _ _ => rfl)
theorem d__law_whole {P : Pm} {G : Gx} {n : Nat} (Y : PmOk P) (B : BltOk P) (GO : GxOk P G) (FN : SndFn P G n) (hm : Bool) : SS P G n hm (scOf (stA 5)) (bodyOf (stA 5)) b__law_whole := (ss_cons (s1_ret (se_bop1 (sbs_cons (se_isi Y B GO rfl rfl rfl rfl rfl (se_loc rfl)) (sbs_one (se_not (se_isi Y B GO rfl rfl rfl rfl rfl (se_loc rfl))))))) ss_nil)
theorem at__law_whole {P : Pm} (Y : PmOk P) (B : BltOk P) (hK : P.K = KK P.w.params) : RowOk P (38, (["_law_seen"], b__law_whole)) :=
  row1 (fd := fd__law_whole) (body := bodyOf (stA 5)) Y hK (by kernel_rfl) (by kernel_rfl) (by kernel_rfl) ⟨rfl, rfl, rfl⟩ (fun GO FN hm => d__law_whole Y B GO FN hm) (fun _ => rfl)
theorem d__law_cell_at {P : Pm} {G : Gx} {n : Nat} (Y : PmOk P) (B : BltOk P) (GO : GxOk P G) (FN : SndFn P G n) (hm : Bool) : SS P G n hm (scOf (stA 6)) (bodyOf (stA 6)) b__law_cell_at := (ss_cons (s1_if (st_cmp Y (se_loc rfl) (se_bf Y B rfl rfl rfl rfl (ses_cons rfl (se_loc rfl) ses_nil)) rfl) (ss_cons (s1_ret (se_idx1 (se_loc rfl) (se_loc rfl) rfl)) ss_nil) ss_nil) (ss_cons (s1_ret se_int) ss_nil))
theorem at__law_cell_at {P : Pm} (Y : PmOk P) (B : BltOk P) (hK : P.K = KK P.w.params) : RowOk P (45, (["_law_script", "_law_k"], b__law_cell_at)) :=
  row2 (fd := fd__law_cell_at) (body := bodyOf (stA 6)) Y hK (by kernel_rfl) (by kernel_rfl) (by kernel_rfl) ⟨rfl, rfl, rfl⟩ (fun GO FN hm => d__law_cell_at Y B GO FN hm) (fun _ _ => rfl)
theorem d__law_name_by {P : Pm} {G : Gx} {n : Nat} (Y : PmOk P) (B : BltOk P) (GO : GxOk P G) (FN : SndFn P G n) (hm : Bool) : SS P G n hm (scOf (stA 7)) (bodyOf (stA 7)) b__law_name_by := (ss_cons (s1_asg rfl rfl se_str) (ss_cons (s1_if (st_cmp Y (se_bin (se_loc rfl) se_int) se_int rfl) (ss_cons (s1_asg rfl rfl (se_idx1 (se_list (ses_cons rfl se_str (ses_cons rfl se_str (ses_cons rfl se_str (ses_cons rfl se_str (ses_cons rfl se_str (ses_cons rfl se_str ses_nil))))))) (se_bin (se_bin (se_loc rfl) se_int) se_int) rfl)) (ss_cons (s1_asg rfl rfl (se_bin (se_bin (se_loc rfl) se_int) (se_bin (se_bf Y B rfl rfl rfl rfl (ses_cons rfl (se_loc rfl) ses_nil)) se_int))) (ss_cons (s1_ret (se_bin (se_bin (se_slice (se_loc rfl) so_none (so_some (se_loc rfl))) (se_idx1 (se_loc rfl) (se_bin (se_bin (se_loc rfl) se_int) se_int) rfl)) (se_slice (se_loc rfl) (so_some (se_loc rfl)) so_none))) ss_nil))) ss_nil) (ss_cons (s1_ret (se_bm rfl rfl rfl rfl (Nat.le_of_ble_eq_true rfl) se_str (ses_cons rfl (se_comp rfl rfl (se_bf Y B rfl rfl rfl rfl (ses_cons rfl (se_bin se_int (se_bin (se_loc rfl) se_int)) ses_nil)) (se_idx1 (se_loc rfl) (se_bin (se_bin (se_bin (se_loc rfl) se_int) (se_bin (se_loc rfl) (se_bin se_int (se_bin (se_bin (se_loc rfl) se_int) se_int)))) se_int) rfl) STall.nil) ses_nil))) ss_nil)))
theorem at__law_name_by {P : Pm} (Y : PmOk P) (B : BltOk P) (hK : P.K = KK P.w.params) : RowOk P (50, (["_law_cell"], b__law_name_by)) :=
  row1 (fd := fd__law_name_by) (body := bodyOf (stA 7)) Y hK (by kernel_rfl) (by kernel_rfl) (by kernel_rfl) ⟨rfl, rfl, rfl⟩ (fun GO FN hm => d__law_name_by Y B GO FN hm) (fun _ => rfl)
theorem d__law_rows {P : Pm} {G : Gx} {n : Nat} (Y : PmOk P) (B : BltOk P) (GO : GxOk P G) (FN : SndFn P G n) (hm : Bool) : SS P G n hm (scOf (stA 8)) (bodyOf (stA 8)) b__law_rows := (ss_cons (s1_if (st_bop (sts_more (st_not (st_of_se (se_isi Y B GO rfl rfl rfl rfl rfl (se_loc rfl)) rfl)) (sts_one (st_cmp Y (se_bf Y B rfl rfl rfl rfl (ses_cons rfl (se_loc rfl) ses_nil)) (se_bf Y B rfl rfl rfl rfl (ses_cons rfl (se_loc rfl) ses_nil)) rfl)))) (ss_cons (s1_ret se_bool) ss_nil) ss_nil) (ss_cons (s1_for rfl rfl (se_bf Y B rfl rfl rfl rfl (ses_cons rfl (se_bf Y B rfl rfl rfl rfl (ses_cons rfl (se_loc rfl) ses_nil)) ses_nil)) (ss_cons (s1_asg rfl rfl (se_idx1 (se_loc rfl) (se_loc rfl) rfl)) (ss_cons (s1_if (st_bop (sts_more (st_not (st_of_se (se_isi Y B GO rfl rfl rfl rfl rfl (se_loc rfl)) rfl)) (sts_more (st_cmp Y (se_bf Y B rfl rfl rfl rfl (ses_cons rfl (se_loc rfl) ses_nil)) se_int rfl) (sts_more (st_not (st_of_se (se_isi Y B GO rfl rfl rfl rfl rfl (se_idx1 (se_loc rfl) se_int rfl)) rfl)) (sts_one (st_not (st_of_se (se_call Y GO FN rfl (se_glob Y GO rfl) (ses_cons rfl (se_idx1 (se_loc rfl) se_int rfl) ses_nil)) rfl))))))) (ss_cons (s1_ret se_bool) ss_nil) ss_nil) (ss_cons (s1_if (st_bop (sts_more (st_cmp Y (se_idx1 (se_loc rfl) se_int rfl) (se_idx1 (se_idx1 (se_loc rfl) (se_loc rfl) rfl) se_int rfl) rfl) (sts_one (st_cmp Y (se_idx1 (se_loc rfl) se_int rfl) (se_idx1 (se_idx1 (se_loc rfl) (se_loc rfl) rfl) se_int rfl) rfl)))) (ss_cons (s1_ret se_bool) ss_nil) ss_nil) ss_nil)))) (ss_cons (s1_ret se_bool) ss_nil)))
theorem at__law_rows {P : Pm} (Y : PmOk P) (B : BltOk P) (hK : P.K = KK P.w.params) : RowOk P (57, (["_law_seen", "_law_due"], b__law_rows)) :=
  row2 (fd := fd__law_rows) (body := bodyOf (stA 8)) Y hK (by kernel_rfl) (by kernel_rfl) (by kernel_rfl) ⟨rfl, rfl, rfl⟩ (fun GO FN hm => d__law_rows Y B GO FN hm) (fun _ _ => rfl)
theorem d__law_room {P : Pm} {G : Gx} {n : Nat} (Y : PmOk P) (B : BltOk P) (GO : GxOk P G) (FN : SndFn P G n) (hm : Bool) : SS P G n hm (scOf (stA 9)) (bodyOf (stA 9)) b__law_room := (ss_cons (s1_if (st_cmp Y (se_bin (se_call Y GO FN rfl (se_glob Y GO rfl) (ses_cons rfl (se_loc rfl) (ses_cons rfl se_int ses_nil))) se_int) se_int rfl) (ss_cons (s1_ret (se_bin (se_bin (se_call Y GO FN rfl (se_glob Y GO rfl) (ses_cons rfl (se_loc rfl) (ses_cons rfl se_int ses_nil))) se_int) se_int)) ss_nil) ss_nil) (ss_cons (s1_ret (se_bin (se_bin (se_call Y GO FN rfl (se_glob Y GO rfl) (ses_cons rfl (se_loc rfl) (ses_cons rfl se_int ses_nil))) se_int) se_int)) ss_nil))
theorem at__law_room {P : Pm} (Y : PmOk P) (B : BltOk P) (hK : P.K = KK P.w.params) : RowOk P (64, (["_law_script"], b__law_room)) :=
  row1 (fd := fd__law_room) (body := bodyOf (stA 9)) Y hK (by kernel_rfl) (by kernel_rfl) (by kernel_rfl) ⟨rfl, rfl, rfl⟩ (fun GO FN hm => d__law_room Y B GO FN hm) (fun _ => rfl)
theorem d_law {P : Pm} {G : Gx} {n : Nat} (Y : PmOk P) (B : BltOk P) (GO : GxOk P G) (FN : SndFn P G n) (hm : Bool) : SS P G n hm (scOf (stA 10)) (bodyOf (stA 10)) b_law := (ss_cons (s1_asg rfl rfl se_dict0) (ss_cons (s1_for rfl rfl (se_bf Y B rfl rfl rfl rfl (ses_cons rfl (se_call Y GO FN rfl (se_glob Y GO rfl) (ses_cons rfl (se_loc rfl) ses_nil)) ses_nil)) (ss_cons (s1_asg rfl rfl (se_bin (se_bin (se_call Y GO FN rfl (se_glob Y GO rfl) (ses_cons rfl (se_loc rfl) (ses_cons rfl (se_bin se_int (se_bin (se_loc rfl) se_int)) ses_nil))) (se_bin se_int (se_bin (se_loc rfl) se_int))) (se_loc rfl))) (ss_cons (s1_asgIdx Y (se_loc rfl) (se_call Y GO FN rfl (se_glob Y GO rfl) (ses_cons rfl (se_loc rfl) ses_nil)) (se_bin (se_bin (se_loc rfl) se_int) (se_bin se_int se_int))) ss_nil))) (ss_cons (s1_asgComp rfl rfl rfl (se_bf Y B rfl rfl rfl rfl (ses_cons rfl (se_loc rfl) ses_nil)) (se_tup (ses_cons rfl (se_loc rfl) (ses_cons rfl (se_idx1 (se_loc rfl) (se_loc rfl) rfl) ses_nil))) STall.nil) (ss_cons (s1_asg rfl rfl (se_call Y GO FN rfl (se_glob Y GO rfl) (ses_cons rfl (se_call Y GO FN rfl (se_glob Y GO rfl) (ses_cons rfl (se_loc rfl) (ses_cons rfl se_int ses_nil))) ses_nil))) (ss_cons (s1_if (st_bop (sts_more (st_cmp Y (se_loc rfl) (se_list ses_nil) rfl) (sts_one (st_cmp Y (se_bin (se_call Y GO FN rfl (se_glob Y GO rfl) (ses_cons rfl (se_loc rfl) (ses_cons rfl se_int ses_nil))) se_int) se_int rfl)))) (ss_cons (s1_asg rfl rfl (se_idx1 (se_idx1 (se_loc rfl) (se_bin (se_call Y GO FN rfl (se_glob Y GO rfl) (ses_cons rfl (se_loc rfl) (ses_cons rfl se_int ses_nil))) (se_bf Y B rfl rfl rfl rfl (ses_cons rfl (se_loc rfl) ses_nil))) rfl) se_int rfl)) ss_nil) ss_nil) (ss_cons (s1_asg rfl rfl (se_bin (se_call Y GO FN rfl (se_glob Y GO rfl) (ses_cons rfl (se_loc rfl) (ses_cons rfl se_int ses_nil))) (se_bin se_int se_int))) (ss_cons (s1_asg rfl rfl se_none) (ss_cons (s1_if (st_cmp Y (se_loc rfl) (se_loc rfl) rfl) (ss_cons (s1_asg rfl rfl (se_idx1 (se_loc rfl) (se_loc rfl) rfl)) ss_nil) ss_nil) (ss_cons (s1_asg rfl rfl (se_bf Y B rfl rfl rfl rfl (ses_cons rfl (se_loc rfl) ses_nil))) (ss_cons (s1_asg rfl rfl (se_call Y GO FN rfl (se_glob Y GO rfl) (ses_cons rfl (se_loc rfl) (ses_cons rfl (se_loc rfl) ses_nil)))) (ss_cons (s1_if (st_bop (sts_more (st_bop (sts_more (st_cmp Y (se_loc rfl) se_none rfl) (sts_one (st_cmp Y (se_loc rfl) se_none rfl)))) (sts_one (st_bop (sts_more (st_cmp Y (se_loc rfl) se_none rfl) (sts_one (st_bop (sts_more (st_not (st_of_se (se_call Y GO FN rfl (se_glob Y GO rfl) (ses_cons rfl (se_loc rfl) ses_nil)) rfl)) (sts_one (st_cmp Y (se_loc rfl) (se_loc rfl) rfl)))))))))) (ss_cons (s1_ret se_bool) ss_nil) ss_nil) (ss_cons (s1_asg rfl rfl (se_call Y GO FN rfl (se_glob Y GO rfl) (ses_cons rfl (se_loc rfl) (ses_cons rfl (se_loc rfl) ses_nil)))) (ss_cons (s1_asg rfl rfl (se_call Y GO FN rfl (se_glob Y GO rfl) (ses_cons rfl (se_loc rfl) (ses_cons rfl (se_loc rfl) (ses_cons rfl (se_loc rfl) ses_nil))))) (ss_cons (s1_if (st_not (st_of_se (se_call Y GO FN rfl (se_glob Y GO rfl) (ses_cons rfl (se_loc rfl) (ses_cons rfl (se_comp rfl rfl (se_loc rfl) (se_loc rfl) (STall.cons (st_cmp Y (se_idx1 (se_loc rfl) se_int rfl) (se_loc rfl) rfl) STall.nil)) ses_nil))) rfl)) (ss_cons (s1_ret se_bool) ss_nil) ss_nil) (ss_cons (s1_asgIdx Y (se_loc rfl) (se_loc rfl) (se_loc rfl)) (ss_cons (s1_if (st_not (st_of_se (se_call Y GO FN rfl (se_glob Y GO rfl) (ses_cons rfl (se_loc rfl) (ses_cons rfl (se_comp rfl rfl (se_bf Y B rfl rfl rfl rfl (ses_cons rfl (se_loc rfl) ses_nil)) (se_tup (ses_cons rfl (se_loc rfl) (ses_cons rfl (se_idx1 (se_loc rfl) (se_loc rfl) rfl) ses_nil))) STall.nil) ses_nil))) rfl)) (ss_cons (s1_ret se_bool) ss_nil) ss_nil) (ss_cons (s1_expr rfl (se_bm rfl rfl rfl rfl (Nat.le_of_ble_eq_true rfl) (se_loc rfl) (ses_cons rfl (se_tup (ses_cons rfl se_str (ses_cons rfl se_int ses_nil))) ses_nil))) (ss_cons (s1_expr rfl (se_bm rfl rfl rfl rfl (Nat.le_of_ble_eq_true rfl) (se_loc rfl) (ses_cons rfl (se_tup (ses_cons rfl se_str (ses_cons rfl se_int ses_nil))) ses_nil))) (ss_cons (s1_ret (se_call Y GO FN rfl (se_glob Y GO rfl) (ses_cons rfl (se_loc rfl) (ses_cons rfl (se_loc rfl) ses_nil)))) ss_nil)))))))))))))))))))
theorem at_law {P : Pm} (Y : PmOk P) (B : BltOk P) (hK : P.K = KK P.w.params) : RowOk P (69, (["_law_script"], b_law)) :=
  row1 (fd := fd_law) (body := bodyOf (stA 10)) Y hK (by kernel_rfl) (by kernel_rfl) (by kernel_rfl) ⟨rfl, rfl, rfl⟩ (fun GO FN hm => d_law Y B GO FN hm) (fun _ => rfl)
noncomputable def tabL : List (Addr × (List Str × List Sm)) := [((21 : Addr), ((["rows", "name"] : List Str), St.b_box_of)), ((26 : Addr), ((["rows", "name"] : List Str), St.b_without)), ((31 : Addr), ((["rows", "name", "box"] : List Str), St.b_placed)), ((38 : Addr), ((["_law_seen"] : List Str), b__law_whole)), ((45 : Addr), ((["_law_script", "_law_k"] : List Str), b__law_cell_at)), ((50 : Addr), ((["_law_cell"] : List Str), b__law_name_by)), ((57 : Addr), ((["_law_seen", "_law_due"] : List Str), b__law_rows)), ((64 : Addr), ((["_law_script"] : List Str), b__law_room)), ((69 : Addr), ((["_law_script"] : List Str), b_law))]
noncomputable def tab : Tab := fun f => tabL.lookup f
theorem tab_ok {P : Pm} (Y : PmOk P) (B : BltOk P) (hK : P.K = KK P.w.params) : TabOk P tab := tabOk_of (L := tabL) (.cons (at_box_of Y B hK) (.cons (at_without Y B hK) (.cons (at_placed Y B hK) (.cons (at__law_whole Y B hK) (.cons (at__law_cell_at Y B hK) (.cons (at__law_name_by Y B hK) (.cons (at__law_rows Y B hK) (.cons (at__law_room Y B hK) (.cons (at_law Y B hK) RowsOk.nil)))))))))
end Mine.L2
end

section
open PySem PySem.W PyProof.Rows PySem.Challenge
set_option maxHeartbeats 0
namespace Mine.L2
theorem holds_of {names : List Str} (h : LawTells KK names tab 69) : rw_uf040010_02.Holds :=
  holds_law said fun said => holds_open (q := view) (d := lawD) (kwd := []) left (Hook.of hook) (Hook.keeps hook) (fun s e => xl_of s (Bool.and_eq_true_iff.mp e).1) XL.keeps (by kernel_rfl) (by kernel_rfl) (by kernel_rfl) (fun s e => recFacts_of (Bool.and_eq_true_iff.mp e).2) (by rfl) said (by decide +kernel) ⟨rfl, rfl, rfl, rfl, rfl, by decide +kernel⟩ (by w_witness2) (by
  intro w s₀ s₁ mg mb G Y fa o pm cd doc dV kV ho hd hcd hD hmg hg args vals as hpre hlay hrd hwl hlo
  have KX := kIn_of Y
  clear ho hd hcd hD
  refine Ground.open G ?_
  intro T B D TE TW
  wrow_args hpre hlay hrd hwl hlo
  rename_i hL ra w1 r0 hI hr hc hc'
  refine law_runs (K := KK) (names := names) (tab := tab) KX (topRead_of T) hmg rfl (by kernel_rfl) tab_ok hL hI hc h fun s' h1 h2 h3 => GoodW.toG ⟨.inl ⟨.bool true, .bool true, [], rfl, fun _ => rfl, .bool true, by kernel_rfl, fun _ => ⟨.nil, fun _ h => (nomatch h)⟩⟩, h3, h2, h1.trans hg⟩)
end Mine.L2
end

section
open PySem PyProof.Rows
set_option maxHeartbeats 0
namespace Mine.L2
open Mine Mine.St
noncomputable def ae (c m : Str) (a : Addr) : (Str × Str) × Addr := ((c, m), a)
noncomputable def adL : List ((Str × Str) × Addr) := [ae "box_of" "" 21, ae "without" "" 26, ae "placed" "" 31, ae "_law_whole" "" 38, ae "_law_cell_at" "" 45, ae "_law_name_by" "" 50, ae "_law_rows" "" 57, ae "_law_room" "" 64, ae "law" "" 69]
noncomputable def ad : Ad := fun c m => (adL.lookup (c, m)).getD 0
noncomputable def names : List Str := []
noncomputable def Al (P : Str → Prop) : List Str → Prop
  | [] => True
  | x :: r => P x ∧ Al P r
theorem has_al {P : Str → Prop} {m : Str} : ∀ {L : List Str}, has m L = true → Al P L → P m
  | [], h, _ => by cases h
  | x :: r, h, ⟨h1, h2⟩ => by
    have h : (decide (x = m) || has m r) = true := h
    rw [Bool.or_eq_true] at h
    rcases h with h | h
    · rw [← of_decide_eq_true h]; exact h1
    · exact has_al h h2
theorem el (p : Params) : E2 (gOf (KK p) names) ad where
  fn := fun h => has_al (P := fun x => (gOf (KK p) names).glob x = some (.ref (ad x "")) ∧ (gOf (KK p) names).init (ad x "") = none) h ⟨⟨by kernel_rfl, by kernel_rfl⟩, ⟨by kernel_rfl, by kernel_rfl⟩, ⟨by kernel_rfl, by kernel_rfl⟩, ⟨by kernel_rfl, by kernel_rfl⟩, ⟨by kernel_rfl, by kernel_rfl⟩, ⟨by kernel_rfl, by kernel_rfl⟩, ⟨by kernel_rfl, by kernel_rfl⟩, ⟨by kernel_rfl, by kernel_rfl⟩, trivial⟩
theorem tl : TabL tab ad where
  box_of := by unfold HasF; kernel_rfl
  without := by unfold HasF; kernel_rfl
  placed := by unfold HasF; kernel_rfl
  whole := by unfold HasF; kernel_rfl
  cell_at := by unfold HasF; kernel_rfl
  name_by := by unfold HasF; kernel_rfl
  rows := by unfold HasF; kernel_rfl
  room := by unfold HasF; kernel_rfl
  law := by unfold HasF; kernel_rfl
end Mine.L2
end

theorem PySem.Challenge.cw_uf040010_02_holds : PySem.Challenge.rw_uf040010_02.Holds :=
  Mine.L2.holds_of fun p a ns _ => Mine.L2.law_tells (Mine.L2.el p) Mine.L2.tl (H := Mine.hOf a ns) (by unfold Mine.hOf; exact if_pos rfl)
