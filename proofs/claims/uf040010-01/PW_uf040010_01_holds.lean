import PyProof.Rows.All
import OpenK.KMake
import OpenK.KWalk
import OpenK.KMore
import OpenK.KOwn
import KE.KDictSum
import KE.KDictList
import KE.KItem
import PySem.Challenge.RW_uf040010_01
set_option Elab.async false
set_option linter.unusedVariables false
set_option linter.unusedSimpArgs false
set_option linter.unusedSectionVars false
set_option maxRecDepth 100000

section
open PySem PyProof.Rows
namespace Mine
/-! ## sorting what is in order already, however long -/
section
variable {prog : Program} {w : World} {A : Around} {E : Value → Shared → Prop} {s : Shared} {a₀ : Array Keyed}

theorem minRun_le : ∀ f n r : Nat, minRun' f n r ≤ n + r
  | 0, _, _ => Nat.le_refl _
  | f + 1, n, r => by
    rw [minRun'_succ]
    split
    · exact Nat.le_refl _
    · have := minRun_le f (n / 2) (max r (n % 2))
      omega

theorem run_pre {st : SortSt} {Q : Option Nat → SortSt → Prop} (h0 : IntKeys a₀) (h1 : 1 ≤ a₀.size) (hB : SBase a₀ st) (hs : SortedTo (arrOf st) a₀.size) (h : Q (some a₀.size) st) : wpS (model prog w) A E s (countRun' 0 a₀.size) Q st := by
  rw [countRun0_eq]
  refine wpS_bind (wpS_ascLoop h0 (Nat.le_refl _) (Nat.le_refl 1) h1 hB (fun i j hij hj => hs i j hij (by omega)) fun n hn1 hn2 _ hor => ?_)
  have hn : n = a₀.size := by
    rcases hor with e | e
    · exact e
    · rcases Nat.lt_or_ge n a₀.size with hl | hl
      · exact absurd (hs (n - 1) n (by omega) hl) (Int.not_le.2 e)
      · omega
  subst hn
  dsimp only
  rw [if_pos (by simp)]
  exact wpS_pure h

theorem runs_pre {st : SortSt} {Q : Unit → SortSt → Prop} (h0 : IntKeys a₀) (h1 : 1 ≤ a₀.size) (hB : SBase a₀ st) (hs : SortedTo (arrOf st) a₀.size)
    (h : ∀ st', (arrOf st').Perm a₀ → failedOf st' = none → SortedTo (arrOf st') a₀.size → Q () st') : wpS (model prog w) A E s sortRuns' Q st := by
  rw [sortRuns'_eq]
  refine wpS_bind (wpS_get ?_)
  dsimp only
  have hmr := minRun_le a₀.size a₀.size 0
  simp only [hB.size]
  refine wpS_bind (wpS_mono (wpS_forRange
    (I := fun x c st' => (x = 0 ∧ c = (none, 0) ∧ st' = st) ∨ (1 ≤ x ∧ c = (none, a₀.size) ∧ SDone a₀ st'))
    (Q := fun c st' => c = (none, a₀.size) ∧ SDone a₀ st') ?_ ?_ (.inl ⟨rfl, rfl, rfl⟩)) ?_)
  · rintro x c st' _ hx (⟨rfl, rfl, rfl⟩ | ⟨hx1, rfl, hD⟩)
    · dsimp only
      rw [if_neg (by omega)]
      simp only [Nat.sub_zero, Nat.zero_add]
      refine wpS_bind (run_pre h0 h1 hB hs ?_)
      dsimp only
      rw [if_neg (by omega)]
      refine wpS_bind (wpS_get ?_)
      rw [show (pendingOf st').back? = none by rw [hB.pend]; rfl]
      dsimp only
      exact wpS_bind (wpS_modify (wpS_pure (.inr ⟨by omega, rfl, hB.done hs⟩)))
    · dsimp only
      rw [if_pos (Nat.le_refl _)]
      exact wpS_pure ⟨rfl, hD⟩
  · rintro c st' (⟨hx, _, _⟩ | ⟨_, hc, hD⟩)
    · omega
    · exact ⟨hc, hD⟩
  · rintro c st' ⟨rfl, hD⟩
    dsimp only
    refine wpS_bind (wpS_mono (wpS_forRange (I := fun _ c st2 => st2 = st' ∧ c = (none, ())) (Q := fun c st2 => st2 = st' ∧ c = (none, ())) ?_ (fun _ _ z => z) ⟨rfl, rfl⟩) ?_)
    · rintro x c st2 _ _ ⟨rfl, rfl⟩
      refine wpS_bind (wpS_get ?_)
      rw [if_pos (by rw [hD.2.2.1]; exact Nat.le_refl 1)]
      exact wpS_pure ⟨rfl, rfl⟩
    · rintro c st2 ⟨rfl, rfl⟩
      exact wpS_pure (h _ hD.1 hD.2.1 hD.2.2.2)

/-- list.sort, by whatever sorts the pairs -/
theorem sort_by {a : Addr} {vs : List Value} {ns : List Int} {n : Nat} {P : Fin → Shared → Prop} (ho : s.heap.get? a = some (seqObj "list" vs.toArray n)) (hI : IntsAre vs ns) (h2 : 2 ≤ vs.length) (hz : vs.length ≤ sizeLine)
    (run : ∀ s' : Shared, wpS (model prog w) A E s' sortRuns' (fun _ st' => (arrOf st').Perm (pairsOf vs) ∧ failedOf st' = none ∧ SortedTo (arrOf st') (pairsOf vs).size) (SortSt.mk' oneType' (pairsOf vs) #[] 7 none))
    (h : ∀ (out : Array Value) (ns' : List Int), IntsAre out.toList ns' → ns'.Perm ns → ns'.Pairwise (· ≤ ·) → P (.done (.ret .none)) { s with heap := sortedHeap s.heap a vs out }) :
    wpAny (model prog w) A (Builtin.«list.sort» ⟨[.ref a], []⟩) P E s := by
  have ha : a < s.heap.objs.size := Heap.lt_size ho
  rw [list_sort_plain]
  refine wpAny_bind (listItems_at ho rfl (wpAny_bind (listUpdate_at ho rfl ?_)))
  obtain ⟨e1, ho1⟩ : ∃ e1, (s.heap.update a (Obj.mapSeq fun _ => #[])).get? a = some (seqObj "list" #[] e1) := ⟨_, get?_update_seq ho (fun _ => #[])⟩
  refine wpAny_bind (seqEpoch_at ho1 rfl (wpAny_bind (wpAny_newTuple (wpAny_bind (wpAny_newList (wpAny_holding ?_))))))
  have ho6 : (((s.heap.update a (Obj.mapSeq fun _ => #[])).push (seqObj "tuple" vs.toArray 0)).push (seqObj "list" #[] 0)).get? a = some (seqObj "list" #[] e1) := by
    rw [Heap.get?_push_ne _ _ _ (by rw [size_push', Heap.size_update]; exact Nat.ne_of_lt (Nat.lt_succ_of_lt ha)), Heap.get?_push_ne _ _ _ (by rw [Heap.size_update]; exact Nat.ne_of_lt ha)]
    exact ho1
  show wpAny (model prog w) A _ P E { s with heap := ((s.heap.update a (Obj.mapSeq fun _ => #[])).push (seqObj "tuple" vs.toArray 0)).push (seqObj "list" #[] 0) }
  dsimp only
  have hsz : vs.toArray.size = vs.length := by simp
  rw [if_neg (by omega), if_neg (by omega)]
  have hk : PyProof.Rows.keyKind' vs.toArray = pure oneType' := by
    match vs, h2, hI with
    | v₁ :: v₂ :: rest, _, hI => exact keyKind_ints hI
  rw [hk]
  refine wpAny_bind (wpAny_pure (wpAny_bind (wpAny_mono (run _) ?_ fun _ _ e => e)))
  rintro ⟨⟨⟩, st'⟩ s' ⟨rfl, hp, hf, hs⟩
  dsimp only
  refine wpAny_bind (seqEpoch_at ho6 rfl (wpAny_bind (listUpdate_at ho6 rfl ?_ (hsz2 := by refine Nat.le_trans (Nat.le_of_eq ((Array.size_map ..).trans (hp.size_eq.trans (pairsOf_size _)))) (Nat.le_succ_of_le hz)))))
  rw [hf]
  simp only [bne_self_eq_false, Bool.false_eq_true, if_false]
  obtain ⟨ns', r1, r2, r3⟩ := sorted_out hI hp hs
  exact wpAny_pure (h _ ns' r1 r2 r3)
theorem sort_ints {a : Addr} {vs : List Value} {ns : List Int} {n : Nat} {P : Fin → Shared → Prop} (ho : s.heap.get? a = some (seqObj "list" vs.toArray n)) (hI : IntsAre vs ns) (hz : vs.length ≤ sizeLine) (hc : vs.length < 64 ∨ ns.Pairwise (· ≤ ·))
    (h : ∀ (out : Array Value) (ns' : List Int), IntsAre out.toList ns' → ns'.Perm ns → ns'.Pairwise (· ≤ ·) → P (.done (.ret .none)) { s with heap := sortedHeap s.heap a vs out }) :
    wpAny (model prog w) A (Builtin.«list.sort» ⟨[.ref a], []⟩) P E s := by
  rcases Nat.lt_or_ge vs.length 64 with h64 | h64
  · exact list_sort_tree ho hI h64 h
  · refine sort_by ho hI (by omega) hz (fun s' => ?_) h
    have hs : SortedTo (pairsOf vs) (pairsOf vs).size := by
      have hp := hc.resolve_left (by omega)
      rw [← hI.nums] at hp
      intro i j hij hj
      have hj' : j < vs.length := by rw [pairsOf_size] at hj; exact hj
      have e : ∀ k (hk : k < vs.length), K (pairsOf vs) k = numOf vs[k] := fun k hk => by
        rw [K_eq (by rw [pairsOf_size]; exact hk)]
        congr 1
        simp [pairsOf]
      rw [e i (by omega), e j hj']
      rcases Nat.lt_or_ge i j with h' | h'
      · have := List.pairwise_iff_getElem.1 hp i j (by simp; omega) (by simpa using hj') h'
        simpa using this
      · have : i = j := by omega
        subst this; exact Int.le_refl _
    exact runs_pre hI.intKeys (by rw [pairsOf_size]; omega) ⟨Array.Perm.refl _, rfl, rfl, rfl⟩ hs fun st' a1 a2 a3 => ⟨a1, a2, a3⟩
end
end Mine
end

section
open PySem PyProof.Rows
namespace Mine
/-! ## an end of an iteration while an exception is handled -/
/-- the exception that is handled, if one is, has no context -/
noncomputable def HdAt (A : Around) (h : Heap) : Prop := A.handled = none ∨ ∃ e o vs, A.handled = some (.ref e) ∧ h.get? e = some o ∧ o.data = .fields vs ∧ vs[2]? = some Value.none
section
variable {prog : Program} {w : World} {A : Around} {E : Value → Shared → Prop} {s : Shared}
theorem entry_unchain : entryFor table "proto.unchain" = some Builtin.«proto.unchain» := entryFor_of_fast (by kernel_rfl)
theorem unchain_at {v sl : Value} {e : Addr} {o : Obj} {vs : Array Value} {b : Bool} {Q : Value → Shared → Prop} (h1 : s.heap.get? e = some o) (h2 : o.data = .fields vs) (h3 : vs[2]? = some Value.none) (q : Q .none s) :
    wpAny (model prog w) A (runValue (.builtin "proto.unchain" ⟨[v, .ref e, sl, .bool b], []⟩)) Q E s := by
  refine runValue_entry entry_unchain ?_
  show wpAny _ _ (field (.ref e) 2 >>= _) _ _ s
  refine wpAny_bind (wpAny_field h1 h2 h3 ?_)
  show wpAny _ _ (if (Value.none == Value.none) = true then _ else _) _ _ s
  rw [if_pos (show (Value.none == Value.none) = true from rfl)]
  exact wpAny_pure ⟨_, rfl, q⟩
theorem raiseNew_at {α : Type} {Q : α → Shared → Prop} {a : Addr} {o : Obj} {vs : Array Value} (hd : HdAt A s.heap) (hn : ∀ e, A.handled = some (.ref e) → e ≠ a) (h1 : s.heap.get? a = some o) (h2 : o.data = .fields vs) (h3 : 2 < vs.size)
    (h : ∀ h' o', Heap.ExtBut a s.heap h' → h'.get? a = some o' → o'.cls = o.cls → E (.ref a) { s with heap := h' }) : wpAny (model prog w) A (raiseNew (α := α) (.ref a)) Q E s := by
  unfold raiseNew
  refine wpAny_bind (wpAny_handled ?_)
  rcases hd with hd | ⟨e, oe, ve, e1, e2, e3, e4⟩
  · rw [hd]
    exact wpAny_bind (wpAny_pure (wpAny_throw (h _ _ (fun _ _ _ x => x) h1 rfl)))
  · rw [e1]
    have ne := hn e e1
    dsimp only
    rw [if_pos (by simpa using ne)]
    refine wpAny_bind (wpAny_holding (unchain_at e2 e3 e4 ?_))
    refine wpAny_bind ?_
    refine wpAny_mono (wpAny_setField (x := .ref e) (i := 2) h1 h2 h3 (Q := fun _ s' => s' = { s with heap := s.heap.update a (Obj.mapFields (·.setIfInBounds 2 (.ref e))) }) rfl) (fun _ s' z => ?_) fun _ _ z => z
    subst z
    exact wpAny_throw (h _ _ (Heap.SameBut.update ..).extBut (Heap.get?_update_self _ h1 (Obj.isFreed_of_fields (Obj.data_mapFields h2 _))) (Obj.cls_mapFields ..))

theorem next_list_end {it l : Addr} {i : Nat} {items} {Q : Option Value → Shared → Prop} (hh : HdAt A s.heap) (hn : ∀ e, A.handled = some (.ref e) → e ≠ it)
    (hit : s.heap.IsListIter it l i) (hl : s.heap.IsList l items) (hx : items[i]? = none)
    (hQ : ∀ h', Heap.ExtBut it s.heap h' → Q none { s with heap := h' }) : wpAny (model prog w) A (pyNext (.ref it)) Q E s := by
  obtain ⟨o, ho, hc, hd⟩ := id hit
  obtain ⟨ol, hol, _, nl, hdl⟩ := hl
  unfold pyNext
  refine wpAny_bind (wpAny_attempt (wpAny_callSpecial?_slot (name := Str.ofString "__next__") hit.typeIs slot_listiter_next
    (wpAny_call_entry slot_listiter_next hit.typeIs entry_listiter_next ?_ (args_listiter_next _))))
  show wpAny _ _ (field (.ref it) 0 >>= _) _ _ s
  refine wpAny_bind (wpAny_field ho hd (x := .ref l) rfl ?_)
  show wpAny _ _ (if (Value.ref l == Value.none) = true then _ else _) _ _ s
  rw [if_neg (show ¬ ((Value.ref l == Value.none) = true) from Bool.false_ne_true)]
  show wpAny _ _ (field (.ref it) 1 >>= _) _ _ s
  refine wpAny_bind (wpAny_field ho hd (x := .int i 0) rfl ?_)
  show wpAny _ _ (seqItems? (.ref l) >>= _) _ _ s
  refine wpAny_bind (wpAny_seqItems hol hdl ?_)
  simp only [Int.toNat_natCast, hx]
  refine wpAny_bind (wpAny_rule (wpAny_bind (wpAny_setField ho hd (by simp) ?_)))
  show wpAny _ _ (newExc (.type "StopIteration") [] >>= _) _ _ _
  refine wpAny_bind ?_
  simp only [newExc, newTuple]
  refine wpAny_bind (wpAny_newObj_type ?_ (by size_fits))
  refine wpAny_bind (m := firstArgMember _ _) (wpAny_of_eq (a := Value.none) (by first | rfl | (simp only [firstArgMember]; rfl)) ?_)
  refine wpAny_newObj_type ?_ (by size_fits)
  refine raiseNew_at (hh.imp id fun ⟨e, o, vs, e1, e2, e3, e4⟩ => ⟨e, o, vs, e1, (((Heap.SameBut.update ..).extBut.push _).push _) e o (hn e e1) e2, e3, e4⟩) (fun e e1 => ?_) (Heap.get?_push_size _ rfl) rfl (by rw [show ownMembersOf (.type "StopIteration") [] = #[] from rfl]; simp) fun h' o' x1 x2 x3 => ?_
  · rcases hh with hh | ⟨e', o, vs, e1', e2, _⟩
    · rw [show A.in1.handled = none from hh] at e1; cases e1
    · rw [show A.in1.handled = some (.ref e') from e1'] at e1
      cases e1
      have := Heap.lt_size e2
      intro q; subst q
      rw [Heap.size_push, Heap.size_after_update] at this
      exact absurd this (Nat.not_lt.2 (Nat.le_succ _))
  refine wpAny_bind (wpAny_isInstance (T := "StopIteration") (b := true) ⟨_, x2, x3⟩ isSubtype_stop ?_)
  refine wpAny_pure (hQ _ fun b o hb e => x1 b o ?_ ((((Heap.SameBut.update ..).extBut.push _).push _) b o hb e))
  intro q; subst q
  have := Heap.lt_size e
  rw [Heap.size_push, Heap.size_after_update] at this
  exact absurd this (Nat.not_lt.2 (Nat.le_succ _))
end
end Mine
end

section
open PySem PyProof.Rows PySem.Calls
namespace Mine

/-- a value without its token -/
noncomputable def er : Value → Value
  | .int i _ => .int i 0
  | .float b _ => .float b 0
  | .str x _ => .str x 0
  | .bytes b _ => .bytes b 0
  | v => v

theorem er_int {V : Value} {i : Int} {t : Tok} (h : er V = .int i t) : ∃ u, V = .int i u := by
  cases V <;> simp [er] at h; exact ⟨_, by rw [h.1]⟩
theorem er_str {V : Value} {x : Str} {t : Tok} (h : er V = .str x t) : ∃ u, V = .str x u := by
  cases V <;> simp [er] at h; exact ⟨_, by rw [h.1]⟩
theorem er_bool {V : Value} {b : Bool} (h : er V = .bool b) : V = .bool b := by
  cases V <;> simp [er] at h; rw [h]
theorem er_none {V : Value} (h : er V = .none) : V = .none := by
  cases V <;> simp [er] at h; rfl
theorem er_ref {V : Value} {a : Addr} (h : er V = .ref a) : V = .ref a := by
  cases V <;> simp [er] at h; rw [h]
/-- what an object of the call's own holds (values without tokens) -/
inductive AObj where
  | list (xs : List Value)
  | rlist (xs : List Value)
  | tup (xs : List Value)
  | idict (kvs : List (Int × Value))
  | sdict (kvs : List (Str × Value))
  | inst (C d : Addr)
  | ns (kvs : List (Str × Value))
  | range (lo hi st : Int)
  | exc (C : Addr)

noncomputable abbrev Hp := Addr → Option AObj
noncomputable abbrev Loc := Str → Option Value
noncomputable abbrev QV := Value → Hp → Prop
noncomputable abbrev XV := Addr → Hp → Prop

noncomputable def Hp.upd (H : Hp) (a : Addr) (o : AObj) : Hp := fun b => if b = a then some o else H b
noncomputable def Loc.upd (l : Loc) (x : Str) (v : Value) : Loc := fun y => if y = x then some v else l y
noncomputable def Loc.del (l : Loc) (x : Str) : Loc := fun y => if y = x then none else l y

theorem Hp.upd_same (H : Hp) (a : Addr) (o : AObj) : H.upd a o a = some o := by simp [Hp.upd]
theorem Hp.upd_ne (H : Hp) {a b : Addr} (o : AObj) (h : b ≠ a) : H.upd a o b = H b := by simp [Hp.upd, h]

/-- classes that isinstance is asked about -/
inductive Ty where
  | str | int | bool | list | tuple | listOrTuple | valueError
  | cls (x : Str)
  deriving DecidableEq

inductive Bf where
  | len | list | tuple | sorted | sortedSet | sortedKey0 | dict | int | all | max1 | max2 | min2 | range
  deriving DecidableEq
inductive Bm where
  | append | pop | get | join | split
  deriving DecidableEq

inductive Ex where
  | none
  | bool (b : Bool)
  | int (i : Int)
  | str (x : Str)
  | loc (x : Str)
  | glob (x : Str)
  | attr (o : Ex) (a : Str)
  | bin (op : Operator) (l r : Ex)
  | neg (e : Ex)
  | not (e : Ex)
  | bop (isAnd : Bool) (es : List Ex)
  | cmp (l : Ex) (op : CmpOp) (r : Ex)
  | cmp2 (l : Ex) (op : CmpOp) (m : Ex) (op2 : CmpOp) (r : Ex)
  | isi (e : Ex) (t : Ty)
  | bf (f : Bf) (args : List Ex)
  | bm (m : Bm) (o : Ex) (args : List Ex)
  | call (f : Ex) (args : List Ex)
  | meth (o : Ex) (m : Str) (args : List Ex)
  | idx (o i : Ex)
  | slice (o : Ex) (lo hi : Option Ex)
  | list (es : List Ex)
  | tup (es : List Ex)
  | dict (ks vs : List Ex)
  | comp (elt : Ex) (x : Str) (src : Ex) (ifs : List Ex)

mutual
inductive Sm where
  | expr (e : Ex)
  | asg (x : Str) (e : Ex)
  | asgAttr (o : Ex) (a : Str) (e : Ex)
  | asgIdx (o i e : Ex)
  | ite (c : Ex) (t f : List Sm)
  | for_ (x : Str) (src : Ex) (body : List Sm)
  | while_ (c : Ex) (body : List Sm)
  | ret (e : Ex)
  | raise (c : Str)
  | try_ (body : List Sm) (hs : List Hd)
  | cont
  | pass
inductive Hd where
  | mk (c : Str) (n : Option Str) (body : List Sm)
end

/-! ## what holds of a state -/

/-- fixed for the whole call of the law -/
structure Pm where
  prog : Program
  w : World
  s₀ : Shared
  mg : Str → Option Value
  mb : Str → Option Value
  K : PySem.W.Frag

noncomputable abbrev Pm.base (P : Pm) : Heap := P.s₀.heap
noncomputable abbrev Pm.M (P : Pm) : Model := model P.prog P.w

structure PmOk (P : Pm) : Prop where
  g : P.base.Ns mainGlobals P.mg
  b : P.base.Ns builtinsNs P.mb
  lim : P.base.NoLimit
  kin : P.K.In P.base

/-- the entries of an instance's dict -/
inductive All2 {α β : Type} (R : α → β → Prop) : List α → List β → Prop where
  | nil : All2 R [] []
  | cons {a b as bs} : R a b → All2 R as bs → All2 R (a :: as) (b :: bs)

noncomputable def NsEs (w : World) (es : List DictEntry) (kvs : List (Str × Value)) : Prop :=
  All2 (fun e p => (∃ t, e.key = .str p.1 t) ∧ er e.val = p.2 ∧ e.hash = PyData.keyHash w.params p.1) es kvs

noncomputable def IsL (h : Heap) (a : Addr) (vs : Array Value) : Prop := ∃ n, h.get? a = some { cls := .type "list", dict := none, data := .seq vs n, slots := #[] }

noncomputable def Mt (P : Pm) (h : Heap) (a : Addr) : AObj → Prop
  | .list xs => ∃ vs, h.IsList a vs ∧ vs.toList.map er = xs ∧ xs.length ≤ 2 ^ 25 ∧ IsL h a vs
  | .rlist xs => ∃ vs, h.IsList a vs ∧ vs.toList.map er = xs ∧ xs.length ≤ 2 ^ 25
  | .tup xs => ∃ vs, h.IsTuple a vs ∧ vs.toList.map er = xs ∧ xs.length ≤ 2 ^ 25
  | .idict kvs => ∃ ks, h.DictOf (intKind P.prog P.w) a ks ∧ ks.map (fun p => (p.1, er p.2)) = kvs
  | .sdict kvs => ∃ ks, h.DictOf (PySem.strKind P.prog P.w) a ks ∧ ks.map (fun p => (p.1, er p.2)) = kvs
  | .inst C d => h.get? a = some { cls := .ref C, dict := some d, data := .plain }
  | .ns kvs => ∃ es n, h.get? a = some { cls := .type "dict", data := .dict es n } ∧ NsEs P.w es.toList kvs ∧ (kvs.map (·.1)).Nodup
  | .range lo hi st => ∃ t u v, IsRange h a lo hi st t u v
  | .exc C => ∃ vs sl, h.get? a = some { cls := .ref C, dict := none, data := .fields vs, slots := sl }

theorem Mt.congr {P : Pm} {h h' : Heap} {a : Addr} {o : AObj} (e : h'.get? a = h.get? a) (m : Mt P h a o) : Mt P h' a o := by
  cases o with
  | list xs => obtain ⟨vs, ⟨o, ho, r⟩, q1, q2, n, q3⟩ := m; exact ⟨vs, ⟨o, e.trans ho, r⟩, q1, q2, n, e.trans q3⟩
  | rlist xs => obtain ⟨vs, ⟨o, ho, r⟩, q⟩ := m; exact ⟨vs, ⟨o, e.trans ho, r⟩, q⟩
  | tup xs => obtain ⟨vs, ⟨o, ho, r⟩, q⟩ := m; exact ⟨vs, ⟨o, e.trans ho, r⟩, q⟩
  | idict xs => obtain ⟨vs, ⟨o, es, ep, ho, r⟩, q⟩ := m; exact ⟨vs, ⟨o, es, ep, e.trans ho, r⟩, q⟩
  | sdict xs => obtain ⟨vs, ⟨o, es, ep, ho, r⟩, q⟩ := m; exact ⟨vs, ⟨o, es, ep, e.trans ho, r⟩, q⟩
  | inst C d => exact e.trans m
  | ns kvs => obtain ⟨es, n, ho, r⟩ := m; exact ⟨es, n, e.trans ho, r⟩
  | range lo hi st => obtain ⟨t, u, v, ho⟩ := m; exact ⟨t, u, v, e.trans ho⟩
  | exc C => obtain ⟨vs, sl, ho⟩ := m; exact ⟨vs, sl, e.trans ho⟩

theorem Mt.some {P : Pm} {h : Heap} {a : Addr} {o : AObj} (m : Mt P h a o) : ∃ O, h.get? a = some O := by
  cases o with
  | list xs => obtain ⟨vs, ⟨o, ho, r⟩, q⟩ := m; exact ⟨o, ho⟩
  | rlist xs => obtain ⟨vs, ⟨o, ho, r⟩, q⟩ := m; exact ⟨o, ho⟩
  | tup xs => obtain ⟨vs, ⟨o, ho, r⟩, q⟩ := m; exact ⟨o, ho⟩
  | idict xs => obtain ⟨vs, ⟨o, es, ep, ho, r⟩, q⟩ := m; exact ⟨o, ho⟩
  | sdict xs => obtain ⟨vs, ⟨o, es, ep, ho, r⟩, q⟩ := m; exact ⟨o, ho⟩
  | inst C d => exact ⟨_, m⟩
  | ns kvs => obtain ⟨es, n, ho, r⟩ := m; exact ⟨_, ho⟩
  | range lo hi st => obtain ⟨t, u, v, ho⟩ := m; exact ⟨_, ho⟩
  | exc C => obtain ⟨vs, sl, ho⟩ := m; exact ⟨_, ho⟩

/-- an activation: its env, what stands around, the objects that must stay, the frames that must keep their data -/
structure Fm where
  env : Env
  A : Around
  g : Addr → Option Obj
  fr : Addr → Option Data
  ro : Bool
  x : Option Addr := none

structure FmOk (P : Pm) (F : Fm) : Prop where
  kind : F.env.scope.kind = .function
  glob : F.env.globals = mainGlobals
  blt : F.env.builtins = builtinsNs
  base : ∀ b o, P.base.get? b = some o → F.g b = some o
  above : P.base.objs.size ≤ F.env.locals
  lg : F.g F.env.locals = none
  lf : F.fr F.env.locals = none
  cl : ∀ x c, (x, c) ∈ F.env.cells → c ≠ F.env.locals
  cg : F.ro = false → ∀ x c, (x, c) ∈ F.env.cells → F.g c = none ∧ F.fr c = none
  apart : F.env.cells.Pairwise (fun x y => x.2 ≠ y.2)
  cn : ∀ x c, (x, c) ∈ F.env.cells → F.env.cells.lookup x = some c
  cf : ∀ x c, (x, c) ∈ F.env.cells → F.fr c = none
  fg : ∀ b d, F.fr b = some d → F.g b = none ∧ ∀ vs, d ≠ .fields vs
  frames : ∃ fenv outer, F.A.frames = some (fenv :: outer) ∧ (F.ro = false → fenv = F.env ∧ F.env.frame = some F.env.locals) ∧
    ∀ e ∈ fenv :: outer, e.scope.kind ≠ .module ∧ ∃ b, e.frame = some b ∧ (b = F.env.locals ∨ (F.fr b).isSome = true)
  xg : ∀ a, F.x = some a → (∃ O, F.g a = some O) ∧ F.A.handled = some (.ref a)

/-- none of the base's addresses -/
noncomputable def Bigs (P : Pm) (a : Addr) : AObj → Prop
  | .idict _ | .sdict _ => P.base.objs.size ≤ a
  | _ => True
theorem bigs_of {P : Pm} {a : Addr} {o : AObj} (h : P.base.objs.size ≤ a) : Bigs P a o := by cases o <;> first | exact h | trivial

/-- a list that is only read -/
noncomputable def AObj.isR : AObj → Bool
  | .rlist _ => true
  | .exc _ => true
  | _ => false
noncomputable def AObj.isRL : AObj → Bool
  | .rlist _ => true
  | _ => false
noncomputable def Hp.del (H : Hp) (e : Addr) : Hp := fun b => if b = e then none else H b
/-- none of the frame's own; or of the base, where it is only read -/
noncomputable def Fre (P : Pm) (F : Fm) (a : Addr) : AObj → Prop
  | .rlist _ => ∃ O, P.base.get? a = some O
  | .exc _ => F.x = some a
  | _ => F.g a = none ∧ F.fr a = none ∧ a ≠ F.env.locals ∧ ∀ x c, (x, c) ∈ F.env.cells → a ≠ c
theorem fre_of {P : Pm} {F : Fm} {a : Addr} {o : AObj} (hr : o.isR = false) (h : F.g a = none ∧ F.fr a = none ∧ a ≠ F.env.locals ∧ ∀ x c, (x, c) ∈ F.env.cells → a ≠ c) : Fre P F a o := by cases o <;> first | exact h | cases hr
theorem of_fre {P : Pm} {F : Fm} {a : Addr} {o : AObj} (h : Fre P F a o) (hr : o.isR = false) : F.g a = none ∧ F.fr a = none ∧ a ≠ F.env.locals ∧ ∀ x c, (x, c) ∈ F.env.cells → a ≠ c := by cases o <;> first | exact h | cases hr
theorem r_fre {P : Pm} {F : Fm} {a : Addr} {o : AObj} (h : Fre P F a o) (hr : o.isR = true) : (∃ O, P.base.get? a = some O) ∨ F.x = some a := by cases o <;> first | exact .inl h | exact .inr h | cases hr
theorem fre_r {P : Pm} {F F' : Fm} {a : Addr} {o : AObj} (hr : o.isR = true) (hx : F'.x = F.x) (h : Fre P F a o) : Fre P F' a o := by cases o <;> first | exact h | exact hx.trans h | cases hr

structure Inv (P : Pm) (F : Fm) (l : Loc) (H : Hp) (s : Shared) : Prop where
  gens : s.gens = P.s₀.gens
  os : s.os = P.s₀.os
  keep : ∀ b o, F.g b = some o → s.heap.get? b = some o
  frk : ∀ b d, F.fr b = some d → ∃ o, s.heap.get? b = some o ∧ o.data = d
  loc : ∃ m, s.heap.Ns F.env.locals m ∧ ∀ x v, l x = some v → F.env.kindOf x = some .local → ∃ V, m x = some V ∧ er V = v
  cel : ∀ x c, F.env.cells.lookup x = some c → ∃ vo, s.heap.IsCell c vo ∧
    ∀ v, l x = some v → (F.env.kindOf x = some .cell ∨ F.env.kindOf x = some .free) → ∃ V, vo = some V ∧ er V = v
  objs : ∀ a o, H a = some o → Mt P s.heap a o
  free : ∀ a o, H a = some o → Fre P F a o
  big : ∀ a o, H a = some o → Bigs P a o

section
variable {P : Pm} {F : Fm} {l : Loc} {H : Hp} {s : Shared}

theorem Inv.toks (I : Inv P F l H s) (t : Nat) : Inv P F l H { s with toks := t } := ⟨I.gens, I.os, I.keep, I.frk, I.loc, I.cel, I.objs, I.free, I.big⟩

theorem Inv.lt_of (I : Inv P F l H s) {a : Addr} {o : AObj} (h : H a = some o) : a < s.heap.objs.size := let ⟨_, e⟩ := (I.objs a o h).some; Heap.lt_size e
theorem Inv.fresh (I : Inv P F l H s) : H s.heap.objs.size = none := by
  cases e : H s.heap.objs.size with
  | none => rfl
  | some o => exact absurd (I.lt_of e) (Nat.lt_irrefl _)

/-- an address that nothing of ours is at -/
structure Off (F : Fm) (H : Hp) (a : Addr) : Prop where
  h : H a = none
  g : F.g a = none
  fr : F.fr a = none
  l : a ≠ F.env.locals
  c : ∀ x c, (x, c) ∈ F.env.cells → a ≠ c

theorem Inv.off (K : FmOk P F) (I : Inv P F l H s) {a : Addr} (n : s.heap.get? a = none) : Off F H a := by
  refine ⟨?_, ?_, ?_, ?_, ?_⟩
  · cases e : H a with
    | none => rfl
    | some o => obtain ⟨_, e'⟩ := (I.objs a o e).some; rw [n] at e'; cases e'
  · cases e : F.g a with
    | none => rfl
    | some o => have := I.keep a o e; rw [n] at this; cases this
  · cases e : F.fr a with
    | none => rfl
    | some o => obtain ⟨_, e', _⟩ := I.frk a o e; rw [n] at e'; cases e'
  · rintro rfl
    obtain ⟨m, ⟨o, es, ep, ho, _⟩, _⟩ := I.loc
    rw [n] at ho; cases ho
  · rintro x c hm rfl
    obtain ⟨vo, ⟨o, ho, _⟩, _⟩ := I.cel x a (K.cn x a hm)
    rw [n] at ho; cases ho

/-- the heap changes off our things -/
theorem Inv.step (I : Inv P F l H s) {h' : Heap} {t : Nat} (k : ∀ b o, s.heap.get? b = some o → ¬ Off F H b → h'.get? b = some o) : Inv P F l H { s with heap := h', toks := t } := by
  refine ⟨I.gens, I.os, fun b o e => k b o (I.keep b o e) fun q => ?_, fun b d e => ?_, ?_, fun x c e => ?_, fun a o e => ?_, I.free, I.big⟩
  · rw [q.g] at e; cases e
  · obtain ⟨o, ho, hd⟩ := I.frk b d e
    exact ⟨o, k b o ho fun q => (by rw [q.fr] at e; cases e), hd⟩
  · obtain ⟨m, ⟨o, es, ep, ho, r⟩, q⟩ := I.loc
    exact ⟨m, ⟨o, es, ep, k _ _ ho fun q => q.l rfl, r⟩, q⟩
  · obtain ⟨vo, ⟨o, ho, r⟩, q⟩ := I.cel x c e
    exact ⟨vo, ⟨o, k _ _ ho fun q => q.c x c (mem_of_lookup e) rfl, r⟩, q⟩
  · obtain ⟨O, ho⟩ := (I.objs a o e).some
    refine (I.objs a o e).congr ((k _ _ ho fun q => ?_).trans ho.symm)
    rw [q.h] at e; cases e

theorem r_g {a : Addr} {o : AObj} (K : FmOk P F) (h : Fre P F a o) (hr : o.isR = true) : ∃ O, F.g a = some O := (r_fre h hr).elim (fun ⟨O, e⟩ => ⟨O, K.base _ _ e⟩) fun e => (K.xg a e).1
theorem Inv.neL (K : FmOk P F) (I : Inv P F l H s) {a : Addr} {o : AObj} (h : H a = some o) : a ≠ F.env.locals := by
  cases hr : o.isR with
  | false => exact (of_fre (I.free a o h) hr).2.2.1
  | true =>
    obtain ⟨O, e⟩ := r_g K (I.free a o h) hr
    rintro rfl
    rw [K.lg] at e; cases e
theorem Inv.frN (K : FmOk P F) (I : Inv P F l H s) {a : Addr} {o : AObj} (h : H a = some o) : F.fr a = none := by
  cases hr : o.isR with
  | false => exact (of_fre (I.free a o h) hr).2.1
  | true =>
    obtain ⟨O, e⟩ := r_g K (I.free a o h) hr
    cases q : F.fr a with
    | none => rfl
    | some d => rw [(K.fg a d q).1] at e; cases e
theorem Inv.neC (K : FmOk P F) (I : Inv P F l H s) {a : Addr} {o : AObj} (h : H a = some o) {x : Str} {c : Addr} (hm : (x, c) ∈ F.env.cells) : a ≠ c := by
  cases hr : o.isR with
  | false => exact (of_fre (I.free a o h) hr).2.2.2 x c hm
  | true =>
    rintro rfl
    obtain ⟨vo, ⟨oc, ho, hd⟩, _⟩ := I.cel x a (K.cn x a hm)
    have m := I.objs a o h
    cases o <;> first | (cases hr; done) | skip
    · obtain ⟨vs, ⟨ol, hl, _, n, hs⟩, _⟩ := m
      rw [ho] at hl; cases hl
      rw [hd] at hs; cases hs
    · obtain ⟨vs, sl, hl⟩ := m
      rw [ho] at hl; cases hl
      cases hd
end

end Mine
end

section
open PySem PyProof.Rows PySem.Calls
namespace Mine

/-- all objects but L and the base's -/
noncomputable def allNews (base h : Heap) (L : Addr) : List (Addr × Obj) :=
  (List.range h.objs.size).filterMap fun a => if a = L then none else match base.get? a with
    | some _ => none
    | none => (h.get? a).map fun o => (a, o)
theorem mem_allNews {base h : Heap} {L a : Addr} {o : Obj} (ho : h.get? a = some o) (hl : a ≠ L) (hb : base.get? a = none) : (a, o) ∈ allNews base h L := by
  refine List.mem_filterMap.mpr ⟨a, List.mem_range.mpr (Heap.lt_size ho), ?_⟩
  rw [if_neg hl, hb, ho]; rfl
theorem allNews_mem {base h : Heap} {L : Addr} {p : Addr × Obj} (hp : p ∈ allNews base h L) : h.get? p.1 = some p.2 ∧ p.1 ≠ L ∧ base.get? p.1 = none := by
  obtain ⟨a, _, e⟩ := List.mem_filterMap.mp hp
  by_cases hl : a = L
  · rw [if_pos hl] at e; cases e
  · rw [if_neg hl] at e
    cases hb : base.get? a with
    | some o => rw [hb] at e; cases e
    | none =>
      rw [hb] at e
      cases ho : h.get? a with
      | none => simp [ho] at e
      | some o =>
        simp [ho] at e
        subst e
        exact ⟨ho, hl, hb⟩
theorem news_all (base h : Heap) (L : Addr) : News base L h (allNews base h L) := fun _ hp => allNews_mem hp

section
variable {P : Pm} {F : Fm} {l : Loc} {H : Hp} {s : Shared}

theorem Inv.fr (K : FmOk P F) (I : Inv P F l H s) : ∃ m, Fr P.base F.env.locals s.heap m ∧ ∀ x v, l x = some v → F.env.kindOf x = some .local → ∃ V, m x = some V ∧ er V = v := by
  obtain ⟨m, hn, q⟩ := I.loc
  exact ⟨m, ⟨hn, fun b o e => I.keep b o (K.base b o e), K.above⟩, q⟩

/-- what a rule over Fr and the whole ledger leaves -/
theorem kept_all {base h h' : Heap} {L : Addr} {m : Str → Option Value} {news : List (Addr × Obj)} (F : Fr base L h' m) (N : News base L h' news) (hsub : ∀ p ∈ allNews base h L, p ∈ news)
    (hb : base.StaysIn h) {b : Addr} {o : Obj} (e : h.get? b = some o) (hl : b ≠ L) : h'.get? b = some o := by
  cases q : base.get? b with
  | some o' => have := hb b o' q; rw [e] at this; cases this; exact F.keep b o q
  | none => exact (N _ (hsub _ (mem_allNews e hl q))).1

/-- the locals' dict may have moved, all else stays -/
theorem Inv.stepL (I : Inv P F l H s) {h' : Heap} {t : Nat} (k : ∀ b o, s.heap.get? b = some o → b ≠ F.env.locals → ¬ Off F H b → h'.get? b = some o)
    {m : Str → Option Value} (hn : h'.Ns F.env.locals m) (K : FmOk P F) {l' : Loc}
    (hm : ∀ x v, l' x = some v → F.env.kindOf x = some .local → ∃ V, m x = some V ∧ er V = v)
    (hc : ∀ x v, l' x = some v → (F.env.kindOf x = some .cell ∨ F.env.kindOf x = some .free) → l x = some v) : Inv P F l' H { s with heap := h', toks := t } := by
  refine ⟨I.gens, I.os, fun b o e => k b o (I.keep b o e) (fun q => ?_) fun q => ?_, fun b d e => ?_, ⟨m, hn, hm⟩, fun x c e => ?_, fun a o e => ?_, I.free, I.big⟩
  · rw [q, K.lg] at e; cases e
  · rw [q.g] at e; cases e
  · obtain ⟨o, ho, hd⟩ := I.frk b d e
    exact ⟨o, k b o ho (fun q => by rw [q, K.lf] at e; cases e) fun q => (by rw [q.fr] at e; cases e), hd⟩
  · obtain ⟨vo, ⟨o, ho, r⟩, q⟩ := I.cel x c e
    exact ⟨vo, ⟨o, k _ _ ho (K.cl x c (mem_of_lookup e)) fun q => q.c x c (mem_of_lookup e) rfl, r⟩, fun v hv hk => q v (hc x v hv hk) hk⟩
  · obtain ⟨O, ho⟩ := (I.objs a o e).some
    refine (I.objs a o e).congr ((k _ _ ho (I.neL K e) fun q => ?_).trans ho.symm)
    rw [q.h] at e; cases e

theorem Inv.push (I : Inv P F l H s) (o : Obj) : Inv P F l H { s with heap := s.heap.push o } :=
  I.step (t := s.toks) fun _ _ e _ => Heap.get?_push_of_some o e

/-- a new object of ours -/
theorem Inv.more (K : FmOk P F) (I : Inv P F l H s) {h' : Heap} {t : Nat} {a : Addr} {o : AObj} (n : s.heap.get? a = none) (hz : Bigs P a o) (k : ∀ b o, s.heap.get? b = some o → h'.get? b = some o) (m : Mt P h' a o) (hr : o.isR = false := by rfl) :
    Inv P F l (H.upd a o) { s with heap := h', toks := t } := by
  have I' := I.step (t := t) (h' := h') fun b o e _ => k b o e
  have of := I.off K n
  refine ⟨I'.gens, I'.os, I'.keep, I'.frk, I'.loc, I'.cel, fun b o' e => ?_, fun b o' e => ?_, fun b o' e => ?_⟩
  · by_cases q : b = a
    · subst q; rw [Hp.upd_same] at e; cases e; exact m
    · rw [Hp.upd_ne _ _ q] at e; exact I'.objs b o' e
  · by_cases q : b = a
    · subst q; rw [Hp.upd_same] at e; cases e; exact fre_of hr ⟨of.g, of.fr, of.l, of.c⟩
    · rw [Hp.upd_ne _ _ q] at e; exact I.free b o' e
  · by_cases q : b = a
    · subst q; rw [Hp.upd_same] at e; cases e; exact hz
    · rw [Hp.upd_ne _ _ q] at e; exact I.big b o' e
theorem Inv.base_le (K : FmOk P F) (I : Inv P F l H s) : P.base.objs.size ≤ s.heap.objs.size := by
  obtain ⟨m, hn, _⟩ := I.loc
  exact Nat.le_of_lt (Nat.lt_of_le_of_lt K.above hn.lt)
theorem Inv.alloc (K : FmOk P F) (I : Inv P F l H s) {O : Obj} {o : AObj} {t : Nat} (m : Mt P (s.heap.push O) s.heap.objs.size o) (hr : o.isR = false := by rfl) : Inv P F l (H.upd s.heap.objs.size o) { s with heap := s.heap.push O, toks := t } :=
  I.more K (Heap.get?_none_of_le (Nat.le_refl _)) (bigs_of (I.base_le K)) (fun _ _ e => Heap.get?_push_of_some O e) m hr

/-- an address becomes ours -/
theorem Inv.track (I : Inv P F l H s) {a : Addr} {o : AObj} (of : Off F H a) (hz : Bigs P a o) (m : Mt P s.heap a o) (hr : o.isR = false := by rfl) : Inv P F l (H.upd a o) s := by
  refine ⟨I.gens, I.os, I.keep, I.frk, I.loc, I.cel, fun b o' e => ?_, fun b o' e => ?_, fun b o' e => ?_⟩
  · by_cases q : b = a
    · subst q; rw [Hp.upd_same] at e; cases e; exact m
    · rw [Hp.upd_ne _ _ q] at e; exact I.objs b o' e
  · by_cases q : b = a
    · subst q; rw [Hp.upd_same] at e; cases e; exact fre_of hr ⟨of.g, of.fr, of.l, of.c⟩
    · rw [Hp.upd_ne _ _ q] at e; exact I.free b o' e
  · by_cases q : b = a
    · subst q; rw [Hp.upd_same] at e; cases e; exact hz
    · rw [Hp.upd_ne _ _ q] at e; exact I.big b o' e

/-- behind a rule over Fr and the whole ledger -/
theorem Inv.after (K : FmOk P F) (I : Inv P F l H s) {h' : Heap} {t : Nat} {m : Str → Option Value} {news : List (Addr × Obj)}
    (hm : ∀ x v, l x = some v → F.env.kindOf x = some .local → ∃ V, m x = some V ∧ er V = v) (F' : Fr P.base F.env.locals h' m) (N' : News P.base F.env.locals h' news)
    (hsub : ∀ p ∈ allNews P.base s.heap F.env.locals, p ∈ news) : Inv P F l H { s with heap := h', toks := t } :=
  I.stepL (fun _ _ e hb _ => kept_all F' N' hsub (fun b o e => I.keep b o (K.base b o e)) e hb) F'.ns K hm fun _ _ h _ => h

theorem Inv.ofSize (K : FmOk P F) (I : Inv P F l H s) : Off F H s.heap.objs.size := I.off K (Heap.get?_none_of_le (Nat.le_refl _))

/-- an object of ours is changed -/
theorem Inv.put (I : Inv P F l H s) {h' : Heap} {t : Nat} {a : Addr} {o o' : AObj} (ha : H a = some o) (k : ∀ b, b ≠ a → h'.get? b = s.heap.get? b) (m : Mt P h' a o') (hb : Bigs P a o → Bigs P a o' := by exact id) (hr : o.isR = false := by rfl) (hr' : o'.isR = false := by rfl) :
    Inv P F l (H.upd a o') { s with heap := h', toks := t } := by
  obtain ⟨fg, ff, fl, fc⟩ := of_fre (I.free a o ha) hr
  refine ⟨I.gens, I.os, fun b O e => (k b fun q => ?_).trans (I.keep b O e), fun b d e => ?_, ?_, fun x c e => ?_, fun b O e => ?_, fun b O e => ?_, fun b O e => ?_⟩
  · rw [q, fg] at e; cases e
  · obtain ⟨O, ho, hd⟩ := I.frk b d e
    exact ⟨O, (k b fun q => by rw [q, ff] at e; cases e).trans ho, hd⟩
  · obtain ⟨m', ⟨O, es, ep, ho, r⟩, q⟩ := I.loc
    exact ⟨m', ⟨O, es, ep, (k _ (Ne.symm fl)).trans ho, r⟩, q⟩
  · obtain ⟨vo, ⟨O, ho, r⟩, q⟩ := I.cel x c e
    exact ⟨vo, ⟨O, (k _ (Ne.symm (fc x c (mem_of_lookup e)))).trans ho, r⟩, q⟩
  · by_cases q : b = a
    · subst q; rw [Hp.upd_same] at e; cases e; exact m
    · rw [Hp.upd_ne _ _ q] at e; exact (I.objs b O e).congr (k b q)
  · by_cases q : b = a
    · subst q; rw [Hp.upd_same] at e; cases e; exact fre_of hr' ⟨fg, ff, fl, fc⟩
    · rw [Hp.upd_ne _ _ q] at e; exact I.free b O e
  · by_cases q : b = a
    · subst q; rw [Hp.upd_same] at e; cases e; exact hb (I.big _ _ ha)
    · rw [Hp.upd_ne _ _ q] at e; exact I.big b O e

end

/-! ## names -/
section
variable {P : Pm} {F : Fm} {l : Loc} {H : Hp} {s : Shared} {E : Value → Shared → Prop}

/-- a name that is bound in the block -/
noncomputable def Own (env : Env) (x : Str) : Prop := env.kindOf x = some .local ∨ ((env.kindOf x = some .cell ∨ env.kindOf x = some .free) ∧ ∃ c, env.cells.lookup x = some c)

theorem ld_loc (K : FmOk P F) (I : Inv P F l H s) {x : Str} {pos : Pos} {v : Value} {Q : Value → Shared → Prop} (hv : l x = some v) (ho : Own F.env x) (hd : (x == ("__debug__" : Str)) = false) (hcd : (x == ("__classdict__" : Str)) = false)
    (h : ∀ V, er V = v → Q V s) : wpAny P.M F.A (eval (.Name x pos) F.env) Q E s := by
  refine wpAny_Name ?_ hd
  rcases ho with hl | ⟨hk, c, hc⟩
  · obtain ⟨m, hn, q⟩ := I.loc
    obtain ⟨V, hV, e⟩ := q x v hv hl
    exact wpAny_loadName_local K.kind hl hn hV (h V e)
  · obtain ⟨vo, hi, q⟩ := I.cel x c hc
    obtain ⟨V, rfl, e⟩ := q v hv hk
    rcases hk with hk | hk
    · exact wpAny_loadName_cell K.kind hk hc hi (h V e)
    · exact wpAny_loadName_free K.kind hk hc hi (h V e) hcd

theorem ld_glob (Y : PmOk P) (K : FmOk P F) (I : Inv P F l H s) {x : Str} {pos : Pos} {v : Value} {Q : Value → Shared → Prop} (hv : P.mg x = some v ∨ (P.mg x = none ∧ P.mb x = some v)) (hk : F.env.kindOf x = some .globalImplicit) (hd : (x == ("__debug__" : Str)) = false)
    (h : Q v s) : wpAny P.M F.A (eval (.Name x pos) F.env) Q E s := by
  have k : ∀ b o, P.base.get? b = some o → s.heap.get? b = some o := fun b o e => I.keep b o (K.base b o e)
  refine Calls.Name_function_global K.kind hk ?_ hd
  rcases hv with hv | ⟨h1, h2⟩
  · exact Calls.loadGlobal_global (by rw [K.glob]; exact Y.g.keeps k) hv h
  · exact Calls.loadGlobal_builtin (by rw [K.glob]; exact Y.g.keeps k) h1 (by rw [K.blt]; exact Y.b.keeps k) h2 h

theorem st_loc (K : FmOk P F) (I : Inv P F l H s) (hro : F.ro = false) {x : Str} {V : Value} {Q : Unit → Shared → Prop} (ho : F.env.kindOf x = some .local ∨ (F.env.kindOf x = some .cell ∧ ∃ c, F.env.cells.lookup x = some c))
    (h : ∀ s', Inv P F (l.upd x (er V)) H s' → Q () s') : wpAny P.M F.A (storeName F.env x V) Q E s := by
  rcases ho with hl | ⟨hk, c, hc⟩
  · obtain ⟨m, hn, q⟩ := I.loc
    refine wpAny_storeName_local hl hn (fun h' hn' hs => h _ (I.stepL (t := s.toks + 1) (fun b o e hb _ => hs.extBut b o hb e) hn' K (fun y v hy hky => ?_) fun y v hy hky => ?_)) (by rw [K.kind]; rfl)
    · by_cases e : y = x
      · subst e; simp [Loc.upd] at hy; subst hy; exact ⟨V, by simp, rfl⟩
      · simp [Loc.upd, e] at hy; simp [e]; exact q y v hy hky
    · by_cases e : y = x
      · subst e; rw [hl] at hky; simp at hky
      · simpa [Loc.upd, e] using hy
  · obtain ⟨vo, hi, q⟩ := I.cel x c hc
    have hm := mem_of_lookup hc
    refine wpAny_storeName_cell K.kind hk hc hi fun h' hi' hs => h _ ?_
    have other : ∀ b o, s.heap.get? b = some o → b ≠ c → h'.get? b = some o := fun b o e hb => (hs.2 b hb).trans e
    have g1 := (K.cg hro x c hm)
    refine ⟨I.gens, I.os, fun b o e => other b o (I.keep b o e) fun z => ?_, fun b d e => ?_, ?_, fun y c' e => ?_, fun a o e => ?_, I.free, I.big⟩
    · rw [z, g1.1] at e; cases e
    · obtain ⟨o, ho, hd⟩ := I.frk b d e
      exact ⟨o, other b o ho (fun z => by rw [z, g1.2] at e; cases e), hd⟩
    · obtain ⟨m, ⟨o, es, ep, ho, r⟩, q⟩ := I.loc
      refine ⟨m, ⟨o, es, ep, other _ _ ho (Ne.symm (K.cl x c hm)), r⟩, fun y v hy hky => q y v ?_ hky⟩
      by_cases z : y = x
      · subst z; rw [hk] at hky; cases hky
      · simpa [Loc.upd, z] using hy
    · by_cases z : y = x
      · subst z
        rw [hc] at e; cases e
        exact ⟨some V, hi', fun v hv _ => ⟨V, rfl, by simpa [Loc.upd] using hv⟩⟩
      · obtain ⟨vo', ⟨o, ho, r⟩, q'⟩ := I.cel y c' e
        refine ⟨vo', ⟨o, other _ _ ho fun w => z ?_, r⟩, fun v hv hky => q' v (by simpa [Loc.upd, z] using hv) hky⟩
        exact name_of_addr K.apart (mem_of_lookup e) (w ▸ hm)
    · obtain ⟨O, ho⟩ := (I.objs a o e).some
      exact (I.objs a o e).congr ((other a O ho (I.neC K e hm)).trans ho.symm)
end

end Mine
end

section
open PySem PyProof.Rows PySem.Calls
namespace Mine

/-! ## the small wp -/

/-- what the text's top names -/
structure Gx where
  glob : Str → Option Value
  fn : Addr → Bool → List Value → Hp → QV → XV → Prop
  meth : Addr → Str → Option Addr
  init : Addr → Option Addr
  isExc : Addr → Bool
  sub : Addr → Addr → Bool
  fld : Addr → Str → Bool

/-- an item by an index, from behind where it is below nought -/
noncomputable def at? {α : Type} (xs : List α) (k : Int) : Option α :=
  if 0 ≤ k then xs[k.toNat]? else if -(xs.length : Int) ≤ k then xs[(k + xs.length).toNat]? else none

noncomputable def cutAt (n : Nat) (i : Int) : Nat := if i < 0 then (i + n).toNat else min i.toNat n
noncomputable def hiAt (n : Nat) : Option Int → Nat
  | none => n
  | some i => cutAt n i
noncomputable def loAt (n : Nat) : Option Int → Nat
  | none => 0
  | some i => cutAt n i
noncomputable def pySlice {α : Type} (xs : List α) (lo hi : Option Int) : List α := (xs.take (hiAt xs.length hi)).drop (loAt xs.length lo)

mutual
inductive Rd (H : Hp) : Value → PyData → Prop where
  | none : Rd H .none .none
  | bool (b : Bool) : Rd H (.bool b) (.bool b)
  | int (i : Int) (t : Tok) : Rd H (.int i t) (.int i)
  | str (x : Str) (t : Tok) : Rd H (.str x t) (.str x)
  | list {a : Addr} {xs : List Value} {ds : List PyData} : H a = some (.list xs) → RdAll H xs ds → Rd H (.ref a) (.list ds)
  | tup {a : Addr} {xs : List Value} {ds : List PyData} : H a = some (.tup xs) → RdAll H xs ds → Rd H (.ref a) (.tuple ds)
  | rlist {a : Addr} {xs : List Value} {ds : List PyData} : H a = some (.rlist xs) → RdAll H xs ds → Rd H (.ref a) (.list ds)
inductive RdAll (H : Hp) : List Value → List PyData → Prop where
  | nil : RdAll H [] []
  | cons {v : Value} {vs : List Value} {d : PyData} {ds : List PyData} : Rd H v d → RdAll H vs ds → RdAll H (v :: vs) (d :: ds)
end

noncomputable def newV (o : AObj) (H : Hp) (Q : QV) : Prop := ∀ c, H c = none → Q (.ref c) (H.upd c o)

/-- a tuple: a new one, or one that is there -/
noncomputable def newT (xs : List Value) (H : Hp) (Q : QV) : Prop := (∀ c, H c = none → Q (.ref c) (H.upd c (.tup xs))) ∧ ∀ c, H c = some (.tup xs) → Q (.ref c) H

noncomputable def chr1 (c : Nat) : Str := ⟨#[c]⟩

noncomputable def onSome {α : Type} (o : Option α) (k : α → Prop) : Prop := match o with | some v => k v | none => False
noncomputable def onInt (v : Value) (k : Int → Prop) : Prop := match v with | .int i _ => k i | _ => False
noncomputable def onStr (v : Value) (k : Str → Prop) : Prop := match v with | .str x _ => k x | _ => False
noncomputable def onRef (v : Value) (k : Addr → Prop) : Prop := match v with | .ref a => k a | _ => False
noncomputable def onBool (v : Value) (k : Bool → Prop) : Prop := match v with | .bool b => k b | _ => False
noncomputable def on1 (xs : List Value) (k : Value → Prop) : Prop := match xs with | v :: r => (match r with | [] => k v | _ :: _ => False) | [] => False
noncomputable def on2 (xs : List Value) (k : Value → Value → Prop) : Prop := match xs with | v :: r => on1 r (k v) | [] => False
theorem onInt_elim {V v : Value} {k : Int → Prop} (e : er V = v) (h : onInt v k) : ∃ i t, V = .int i t ∧ k i := by
  subst e; cases V <;> first | exact h.elim | exact ⟨_, _, rfl, h⟩
theorem onStr_elim {V v : Value} {k : Str → Prop} (e : er V = v) (h : onStr v k) : ∃ i t, V = .str i t ∧ k i := by
  subst e; cases V <;> first | exact h.elim | exact ⟨_, _, rfl, h⟩
theorem onRef_elim {V v : Value} {k : Addr → Prop} (e : er V = v) (h : onRef v k) : ∃ a, V = .ref a ∧ k a := by
  subst e; cases V <;> first | exact h.elim | exact ⟨_, rfl, h⟩
theorem onBool_elim {V v : Value} {k : Bool → Prop} (e : er V = v) (h : onBool v k) : ∃ a, V = .bool a ∧ k a := by
  subst e; cases V <;> first | exact h.elim | exact ⟨_, rfl, h⟩
theorem on1_elim {Vs : List Value} {k : Value → Prop} (h : on1 (Vs.map er) k) : ∃ V, Vs = [V] ∧ k (er V) := by
  cases Vs with
  | nil => exact h.elim
  | cons V r => cases r with
    | nil => exact ⟨V, rfl, h⟩
    | cons _ _ => exact h.elim
theorem on2_elim {Vs : List Value} {k : Value → Value → Prop} (h : on2 (Vs.map er) k) : ∃ V W, Vs = [V, W] ∧ k (er V) (er W) := by
  cases Vs with
  | nil => exact h.elim
  | cons V r =>
    obtain ⟨W, rfl, h⟩ := on1_elim (Vs := r) (k := k (er V)) h
    exact ⟨V, W, rfl, h⟩

noncomputable def on0 (xs : List Value) (k : Prop) : Prop := match xs with | [] => k | _ :: _ => False
theorem on0_elim {Vs : List Value} {k : Prop} (h : on0 (Vs.map er) k) : Vs = [] ∧ k := by
  cases Vs with
  | nil => exact ⟨rfl, h⟩
  | cons _ _ => exact h.elim
/-- two lists or two tuples -/
noncomputable def addR (a b : Addr) (H : Hp) (Q : QV) : Prop := match H a with
  | some (.list xs) => (match H b with | some (.list ys) => xs.length + ys.length ≤ sizeLine ∧ newV (.list (xs ++ ys)) H Q | _ => False)
  | some (.tup xs) => (match H b with | some (.tup ys) => xs.length + ys.length ≤ sizeLine ∧ newT (xs ++ ys) H Q | _ => False)
  | _ => False
noncomputable def addV (a b : Value) (H : Hp) (Q : QV) : Prop := match a with
  | .int x _ => onInt b fun y => Q (.int (x + y) 0) H
  | .str x _ => onStr b fun y => x.length + y.length ≤ sizeLine ∧ Q (.str (x ++ y) 0) H
  | .ref a => onRef b fun b => addR a b H Q
  | _ => False
noncomputable def multV (a b : Value) (H : Hp) (Q : QV) : Prop := match a with
  | .int x _ => onInt b fun y => (x.natAbs < 2 ^ 63 ∨ y.natAbs < 2 ^ 63) ∧ Q (.int (x * y) 0) H
  | .str x _ => onInt b fun n => x.length ≤ 1000 ∧ n ≤ 1000 ∧ -1000 ≤ n ∧ Q (.str (Txt.mul x n) 0) H
  | _ => False
noncomputable def binV (op : Operator) (a b : Value) (H : Hp) (Q : QV) : Prop :=
  match op with
  | .Add => addV a b H Q
  | .Sub => onInt a fun x => onInt b fun y => Q (.int (x - y) 0) H
  | .Mult => multV a b H Q
  | .FloorDiv => onInt a fun x => onInt b fun y => 0 < y ∧ y < 2 ^ 63 ∧ Q (.int (x / y) 0) H
  | .Mod => onInt a fun x => onInt b fun y => 0 < y ∧ Q (.int (x % y) 0) H
  | .Pow => onInt a fun x => onInt b fun y => 0 ≤ y ∧ y ≤ 100 ∧ x.natAbs < 2 ^ 63 ∧ Q (.int (x ^ y.toNat) 0) H
  | _ => False

noncomputable def eqV (a b : Value) (H : Hp) (k : Bool → Prop) : Prop :=
  match a, b with
  | .int x _, .int y _ => k (decide (x = y))
  | .str x _, .str y _ => k (decide (x = y))
  | .none, .none => k true
  | .none, .int _ _ => k false
  | .int _ _, .none => k false
  | .none, .str _ _ => k false
  | .str _ _, .none => k false
  | a, b => ∃ da db, Rd H a da ∧ Rd H b db ∧ SeqAt.shaped da = true ∧ SeqAt.shaped db = true ∧ k (PyData.eqv da db)

noncomputable def inV (a b : Value) (H : Hp) (k : Bool → Prop) : Prop :=
  match a, b with
  | .str x _, .str y _ => k (Txt.contains y x)
  | .int i _, .ref d => match H d with
    | some (.idict kvs) => k (valueAt kvs i).isSome
    | some (.list xs) => ∃ ns : List Int, xs = ns.map (fun n => Value.int n 0) ∧ k (decide (i ∈ ns))
    | _ => False
  | .str x _, .ref d => match H d with
    | some (.sdict kvs) => k (valueAt kvs x).isSome
    | some (.idict kvs) => kvs = [] ∧ k false
    | _ => False
  | _, _ => False

noncomputable def cmpV (op : CmpOp) (a b : Value) (H : Hp) (Q : QV) : Prop :=
  match op with
  | .Eq => eqV a b H fun r => Q (.bool r) H
  | .NotEq => eqV a b H fun r => Q (.bool (!r)) H
  | .In => inV a b H fun r => Q (.bool r) H
  | .NotIn => inV a b H fun r => Q (.bool (!r)) H
  | .Is => match b with
    | .none => (match a with | .none => Q (.bool true) H | .builtin _ => False | _ => Q (.bool false) H)
    | _ => False
  | .IsNot => match b with
    | .none => (match a with | .none => Q (.bool false) H | .builtin _ => False | _ => Q (.bool true) H)
    | _ => False
  | .Lt => match a, b with
    | .int x _, .int y _ => Q (.bool (decide (x < y))) H
    | .str x _, .str y _ => Q (.bool (decide (x.cps.toList < y.cps.toList))) H
    | _, _ => False
  | .Gt => match a, b with
    | .int x _, .int y _ => Q (.bool (decide (y < x))) H
    | .str x _, .str y _ => Q (.bool (decide (y.cps.toList < x.cps.toList))) H
    | _, _ => False
  | .LtE => match a, b with
    | .int x _, .int y _ => Q (.bool (decide (x ≤ y))) H
    | _, _ => False
  | .GtE => match a, b with
    | .int x _, .int y _ => Q (.bool (decide (y ≤ x))) H
    | _, _ => False

noncomputable def idxV (o i : Value) (H : Hp) (Q : QV) : Prop :=
  match o, i with
  | .ref a, .int k _ => match H a with
    | some (.list xs) => (match at? xs k with | some v => Q v H | none => False)
    | some (.rlist xs) => (match at? xs k with | some v => Q v H | none => False)
    | some (.tup xs) => (match at? xs k with | some v => Q v H | none => False)
    | some (.idict kvs) => (match valueAt kvs k with | some v => Q v H | none => False)
    | _ => False
  | .ref a, .str x _ => match H a with
    | some (.sdict kvs) => (match valueAt kvs x with | some v => Q v H | none => False)
    | _ => False
  | .str x _, .int k _ => (match at? x.cps.toList k with | some c => x.length ≤ sizeLine ∧ Q (.str (chr1 c) 0) H | none => False)
  | _, _ => False

noncomputable def partOf (v : Value) : Option (Option Int) :=
  match v with
  | .none => some none
  | .int i _ => some (some i)
  | _ => none

noncomputable def sliceV (o lo hi : Value) (H : Hp) (Q : QV) : Prop :=
  match partOf lo, partOf hi with
  | some l, some h => match o with
    | .ref a => (match H a with
      | some (.list xs) => xs.length ≤ sizeLine ∧ newV (.list (pySlice xs l h)) H Q
      | some (.rlist xs) => xs.length ≤ sizeLine ∧ newV (.list (pySlice xs l h)) H Q
      | _ => False)
    | .str x _ => x.length ≤ sizeLine ∧ Q (.str ⟨(pySlice x.cps.toList l h).toArray⟩ 0) H
    | _ => False
  | _, _ => False

noncomputable def attrV (G : Gx) (o : Value) (a : Str) (H : Hp) (Q : QV) : Prop :=
  match o with
  | .ref x => match H x with
    | some (.inst C d) => (match H d with
      | some (.ns kvs) => G.fld C a = true ∧ (match valueAt kvs a with | some (.builtin _) => False | some v => Q v H | none => False)
      | _ => False)
    | _ => False
  | _ => False

noncomputable def truthV (v : Value) (k : Bool → Prop) : Prop := match v with | .bool b => k b | _ => False

noncomputable def lenV (v : Value) (H : Hp) (Q : QV) : Prop :=
  match v with
  | .str x _ => x.length ≤ sizeLine ∧ Q (.int x.length 0) H
  | .ref a => match H a with
    | some (.list xs) => Q (.int xs.length 0) H
    | some (.rlist xs) => Q (.int xs.length 0) H
    | some (.tup xs) => Q (.int xs.length 0) H
    | _ => False
  | _ => False

noncomputable def Ty.blt : Ty → Bool
  | .str | .int | .bool | .list | .tuple | .listOrTuple => true
  | _ => false

noncomputable def isiV (G : Gx) (v : Value) (t : Ty) (H : Hp) (Q : QV) : Prop :=
  match v with
  | .none => t.blt = true ∧ Q (.bool false) H
  | .bool _ => t.blt = true ∧ Q (.bool (t == .bool || t == .int)) H
  | .int _ _ => t.blt = true ∧ Q (.bool (t == .int)) H
  | .str _ _ => t.blt = true ∧ Q (.bool (t == .str)) H
  | .ref a => match H a with
    | some (.list _) => t.blt = true ∧ Q (.bool (t == .list || t == .listOrTuple)) H
    | some (.tup _) => t.blt = true ∧ Q (.bool (t == .tuple || t == .listOrTuple)) H
    | some (.idict _) => t.blt = true ∧ Q (.bool false) H
    | some (.sdict _) => t.blt = true ∧ Q (.bool false) H
    | some (.exc C) => G.isExc C = true ∧ (match t with
      | .valueError => Q (.bool true) H
      | .cls x => (match G.glob x with | some (.ref D) => G.isExc D = true ∧ Q (.bool (G.sub C D)) H | _ => False)
      | _ => False)
    | _ => False
  | _ => False

noncomputable def rangeL (lo hi st : Int) : List Value :=
  (List.range (Builtin.Range.rangeSize lo hi st).toNat).map fun (k : Nat) => .int (lo + (k : Int) * st) 0

/-- the items that a loop takes, and what must stay meanwhile -/
noncomputable def iterV (v : Value) (H : Hp) (k : (Hp → Prop) → List Value → Prop) : Prop :=
  match v with
  | .str x _ => k (fun _ => True) (x.cps.toList.map fun c => .str (chr1 c) 0)
  | .ref a => match H a with
    | some (.list xs) => k (fun H' => H' a = some (.list xs)) xs
    | some (.tup xs) => k (fun H' => H' a = some (.tup xs)) xs
    | some (.range lo hi st) => Builtin.Range.small lo hi st = true ∧ k (fun _ => True) (rangeL lo hi st)
    | _ => False
  | _ => False

/-- the items that a built-in takes at once -/
noncomputable def seqV (v : Value) (H : Hp) (k : List Value → Prop) : Prop :=
  match v with
  | .ref a => match H a with
    | some (.list xs) => k xs
    | some (.tup xs) => k xs
    | some (.idict kvs) => k (kvs.map fun p => .int p.1 0)
    | _ => False
  | _ => False

noncomputable def rangeV (args : List Value) (H : Hp) (Q : QV) : Prop :=
  match args with
  | [.int hi _] => hi < 2 ^ 60 ∧ -(2 ^ 60) < hi ∧ newV (.range 0 hi 1) H Q
  | [.int lo _, .int hi _] => hi < 2 ^ 60 ∧ -(2 ^ 60) < hi ∧ lo < 2 ^ 60 ∧ -(2 ^ 60) < lo ∧ newV (.range lo hi 1) H Q
  | [.int lo _, .int hi _, .int st _] => st ≠ 0 ∧ -1000 < st ∧ st < 1000 ∧ hi < 2 ^ 60 ∧ -(2 ^ 60) < hi ∧ lo < 2 ^ 60 ∧ -(2 ^ 60) < lo ∧ newV (.range lo hi st) H Q
  | _ => False

noncomputable def strLe (x y : Str) : Prop := ¬ (y.cps.toList < x.cps.toList)

/-- ints in order: few, or in order already -/
noncomputable def sortedV (v : Value) (H : Hp) (Q : QV) : Prop :=
  match v with
  | .ref a => match H a with
    | some (.list xs) => ∃ ns : List Int, xs = ns.map (fun n => Value.int n 0) ∧ ns.length < 64 ∧ ∀ ms : List Int, ms.Perm ns → ms.Pairwise (· ≤ ·) → newV (.list (ms.map fun n => Value.int n 0)) H Q
    | some (.idict kvs) => kvs.length ≤ sizeLine ∧ ∃ ns : List Int, (kvs.map fun p => Value.int p.1 0) = ns.map (fun n => Value.int n 0) ∧ (ns.length < 64 ∨ ns.Pairwise (· ≤ ·)) ∧ ∀ ms : List Int, ms.Perm ns → ms.Pairwise (· ≤ ·) → newV (.list (ms.map fun n => Value.int n 0)) H Q
    | _ => False
  | _ => False

noncomputable def strsOf : List Value → Option (List Str)
  | [] => some []
  | .str x _ :: r => (strsOf r).map (x :: ·)
  | _ :: _ => none

noncomputable def bfV (f : Bf) (args : List Value) (H : Hp) (Q : QV) : Prop :=
  match f with
  | .len => on1 args fun v => lenV v H Q
  | .list => on1 args fun v => seqV v H fun xs => xs.length ≤ sizeLine ∧ newV (.list xs) H Q
  | .tuple => on1 args fun v => onRef v fun a => (match H a with
    | some (.list xs) => xs.length ≤ sizeLine ∧ newV (.tup xs) H Q
    | some (.tup _) => Q (.ref a) H
    | _ => False)
  | .sorted => on1 args fun v => sortedV v H Q
  | .int => on1 args fun v => onBool v fun b => Q (.int (if b then 1 else 0) 0) H
  | .all => on1 args fun v => onRef v fun a => (match H a with
    | some (.list xs) => ∃ bs : List Bool, xs = bs.map Value.bool ∧ Q (.bool (bs.all id)) H
    | _ => False)
  | .max2 => on2 args fun v w => onInt v fun x => onInt w fun y => Q (.int (max x y) 0) H
  | .min2 => on2 args fun v w => onInt v fun x => onInt w fun y => Q (.int (min x y) 0) H
  | .range => rangeV args H Q
  | _ => False

inductive Bk where
  | list | dict | str

noncomputable def bmV (b : Bk) (m : Bm) (o : Value) (args : List Value) (H : Hp) (Q : QV) : Prop :=
  match b with
  | .list => (match m with
    | .append => onRef o fun a => on1 args fun v => (match H a with
      | some (.list xs) => xs.length ≤ sizeLine ∧ Q .none (H.upd a (.list (xs ++ [v])))
      | _ => False)
    | .pop => onRef o fun a => on0 args (match H a with
      | some (.list xs) => xs.length ≤ sizeLine ∧ (match xs.getLast? with | some v => Q v (H.upd a (.list xs.dropLast)) | none => False)
      | _ => False)
    | _ => False)
  | .dict => (match m with
    | .pop => onRef o fun a => on1 args fun v => onInt v fun k => (match H a with
      | some (.idict kvs) => kvs.length ≤ sizeLine ∧ (match valueAt kvs k with | some v => Q v (H.upd a (.idict (PySem.without kvs k))) | none => False)
      | _ => False)
    | _ => False)
  | .str => (match m with
    | .join => onStr o fun x => on1 args fun v => onRef v fun a => (match H a with
      | some (.list xs) => (match strsOf xs with
        | some ss => JoinOk x ss = true ∧ Q (.str (Txt.join x ss) 0) H
        | none => False)
      | _ => False)
    | .split => onStr o fun x => on1 args fun v => onStr v fun y => (y.length == 0) = false ∧ x.length ≤ sizeLine ∧ (Txt.split x y).length ≤ 2 ^ 25 ∧ (Builtin.Str.partsBetween x (Builtin.Str.occurrences x y 0 x.length (x.length + 1)) y.length).length ≤ sizeLine ∧ newV (.list ((Txt.split x y).map fun z => Value.str z 0)) H Q
    | _ => False)

noncomputable def callV (G : Gx) (hm : Bool) (f : Value) (args : List Value) (H : Hp) (Q : QV) (X : XV) : Prop :=
  match f with
  | .ref a => match G.init a with
    | some fi => ∀ d x, H d = none → H x = none → d ≠ x → G.fn fi hm (.ref x :: args) ((H.upd d (.ns [])).upd x (.inst a d)) (fun r H' => r = .none ∧ Q (.ref x) H') X
    | none => G.fn a hm args H Q X
  | _ => False

/-- which function a method's name tells -/
noncomputable def methV (G : Gx) (o : Value) (m : Str) (H : Hp) (k : Addr → Prop) : Prop :=
  match o with
  | .ref x => match H x with
    | some (.inst C d) => (match H d, G.meth C m with
      | some (.ns kvs), some f => valueAt kvs m = none ∧ k f
      | _, _ => False)
    | _ => False
  | _ => False

/-- a built-in's method is there -/
noncomputable def bmOn (m : Bm) (v : Value) (H : Hp) (k : Bk → Prop) : Prop :=
  match v with
  | .str _ _ => (m = .join ∨ m = .split) ∧ k .str
  | .ref a => (match H a with
    | some (.list _) => (m = .append ∨ m = .pop) ∧ k .list
    | some (.idict _) => (m = .pop ∨ m = .get) ∧ k .dict
    | some (.sdict _) => (m = .pop ∨ m = .get) ∧ k .dict
    | _ => False)
  | _ => False

/-- a comprehension's turns -/
noncomputable def compG (guard : Hp → Prop) (step : Value → Hp → (Option Value → Hp → Prop) → Prop) : List Value → List Value → Hp → (List Value → Hp → Prop) → Prop
  | [], acc, H, k => guard H ∧ k acc H
  | v :: vs, acc, H, k => guard H ∧ step v H fun r H' => compG guard step vs (match r with | some u => acc ++ [u] | none => acc) H' k

noncomputable def dictV : List Value → List Value → Hp → QV → Prop := fun ks vs H Q =>
  (ks = [] ∧ vs = [] ∧ newV (.idict []) H Q) ∨
  (∃ ss : List Str, ks = ss.map (fun x => Value.str x 0) ∧ ss.Nodup ∧ ss.length = vs.length ∧ ss.length ≤ 15 ∧ ss ≠ [] ∧ newV (.sdict (ss.zip vs)) H Q)

/-- an iteration; while an exception is handled: of an empty list alone -/
noncomputable def iterH (hm : Bool) (v : Value) (H : Hp) (k : (Hp → Prop) → List Value → Prop) : Prop :=
  (hm = false ∧ iterV v H k) ∨ (hm = true ∧ ∃ a, v = .ref a ∧ H a = some (.list []) ∧ k (fun H => H a = some (.list [])) [])
/-- the built-ins that may be called while an exception is handled -/
noncomputable def bfH (hm : Bool) (f : Bf) (vs : List Value) (H : Hp) : Prop := f = .len ∨ hm = false ∨ (f = .list ∧ ∃ a xs, vs = [.ref a] ∧ H a = some (.list xs)) ∨ (f = .all ∧ ∃ a, vs = [.ref a] ∧ H a = some (.list []))

mutual
noncomputable def wpE (G : Gx) (hm : Bool) : Ex → Loc → Hp → QV → XV → Prop
  | .none, _, H, Q, _ => Q .none H
  | .bool b, _, H, Q, _ => Q (.bool b) H
  | .int i, _, H, Q, _ => Q (.int i 0) H
  | .str x, _, H, Q, _ => Q (.str x 0) H
  | .loc x, l, H, Q, _ => onSome (l x) fun v => Q v H
  | .glob x, _, H, Q, _ => onSome (G.glob x) fun v => Q v H
  | .attr o a, l, H, Q, X => wpE G hm o l H (fun v H1 => attrV G v a H1 Q) X
  | .bin op x y, l, H, Q, X => wpE G hm x l H (fun a H1 => wpE G hm y l H1 (fun b H2 => binV op a b H2 Q) X) X
  | .neg x, l, H, Q, X => wpE G hm x l H (fun a H1 => match a with | .int i _ => Q (.int (-i) 0) H1 | _ => False) X
  | .not x, l, H, Q, X => wpE G hm x l H (fun a H1 => truthV a fun b => Q (.bool (!b)) H1) X
  | .bop a es, l, H, Q, X => wpB G hm a es l H Q X
  | .cmp x op y, l, H, Q, X => wpE G hm x l H (fun a H1 => wpE G hm y l H1 (fun b H2 => cmpV op a b H2 Q) X) X
  | .cmp2 x op y op2 z, l, H, Q, X => wpE G hm x l H (fun a H1 => wpE G hm y l H1 (fun b H2 => cmpV op a b H2 fun c H3 => truthV c fun r =>
      if r then wpE G hm z l H3 (fun d H4 => cmpV op2 b d H4 Q) X else Q (.bool false) H3) X) X
  | .isi e t, l, H, Q, X => wpE G hm e l H (fun v H1 => isiV G v t H1 Q) X
  | .bf f args, l, H, Q, X => wpEs G hm args l H (fun vs H1 => bfH hm f vs H1 ∧ bfV f vs H1 Q) X
  | .bm m o args, l, H, Q, X => wpE G hm o l H (fun v H1 => bmOn m v H1 fun b => wpEs G hm args l H1 (fun vs H2 => bmV b m v vs H2 Q) X) X
  | .call f args, l, H, Q, X => wpE G hm f l H (fun v H1 => wpEs G hm args l H1 (fun vs H2 => callV G hm v vs H2 Q X) X) X
  | .meth o m args, l, H, Q, X => wpE G hm o l H (fun v H1 => methV G v m H1 fun f => wpEs G hm args l H1 (fun vs H2 => G.fn f hm (v :: vs) H2 Q X) X) X
  | .idx o i, l, H, Q, X => wpE G hm o l H (fun v H1 => wpE G hm i l H1 (fun k H2 => idxV v k H2 Q) X) X
  | .slice o lo hi, l, H, Q, X => wpE G hm o l H (fun v H1 => wpO G hm lo l H1 (fun a H2 => wpO G hm hi l H2 (fun b H3 => sliceV v a b H3 Q) X) X) X
  | .list es, l, H, Q, X => wpEs G hm es l H (fun vs H1 => vs.length ≤ sizeLine ∧ newV (.list vs) H1 Q) X
  | .tup es, l, H, Q, X => wpEs G hm es l H (fun vs H1 => vs.length ≤ sizeLine ∧ newV (.tup vs) H1 Q) X
  | .dict ks vs, l, H, Q, X => wpEs G hm ks l H (fun a H1 => wpEs G hm vs l H1 (fun b H2 => dictV a b H2 Q) X) X
  | .comp elt x src ifs, l, H, Q, X => wpE G hm src l H (fun v H1 => iterH hm v H1 fun guard items => items.length ≤ sizeLine ∧
      compG guard (fun v H2 k => wpB G hm true ifs ((l.del ".0").upd x v) H2 (fun c H3 => truthV c fun r =>
        if r then wpE G hm elt ((l.del ".0").upd x v) H3 (fun u H4 => k (some u) H4) (fun _ _ => False) else k none H3) (fun _ _ => False)) items [] H1
        fun us H' => newV (.list us) H' Q) X
noncomputable def wpEs (G : Gx) (hm : Bool) : List Ex → Loc → Hp → (List Value → Hp → Prop) → XV → Prop
  | [], _, H, Q, _ => Q [] H
  | e :: es, l, H, Q, X => wpE G hm e l H (fun v H1 => wpEs G hm es l H1 (fun vs H2 => Q (v :: vs) H2) X) X
noncomputable def wpO (G : Gx) (hm : Bool) : Option Ex → Loc → Hp → QV → XV → Prop
  | none, _, H, Q, _ => Q .none H
  | some e, l, H, Q, X => wpE G hm e l H Q X
noncomputable def wpB (G : Gx) (hm : Bool) (isAnd : Bool) : List Ex → Loc → Hp → QV → XV → Prop
  | [], _, H, Q, _ => Q (.bool isAnd) H
  | e :: es, l, H, Q, X => wpE G hm e l H (fun v H1 => truthV v fun b => if b = isAnd then (match es with | [] => Q (.bool b) H1 | _ => wpB G hm isAnd es l H1 Q X) else Q (.bool b) H1) X
end

noncomputable def setAttrV (G : Gx) (o : Value) (a : Str) (v : Value) (H : Hp) (k : Hp → Prop) : Prop :=
  match o with
  | .ref x => match H x with
    | some (.inst C d) => (match H d with
      | some (.ns kvs) => G.fld C a = true ∧ kvs.length ≤ 100 ∧ k (H.upd d (.ns (stored kvs a v)))
      | _ => False)
    | _ => False
  | _ => False

noncomputable def setItemV (o i v : Value) (H : Hp) (k : Hp → Prop) : Prop :=
  match o, i with
  | .ref a, .int n _ => match H a with
    | some (.idict kvs) => kvs.length ≤ sizeLine ∧ k (H.upd a (.idict (stored kvs n v)))
    | some (.list xs) => 0 ≤ n ∧ n < (xs.length : Int) ∧ k (H.upd a (.list (xs.set n.toNat v)))
    | _ => False
  | .ref a, .str x _ => match H a with
    | some (.sdict kvs) => kvs.length ≤ sizeLine ∧ k (H.upd a (.sdict (stored kvs x v)))
    | some (.idict kvs) => kvs = [] ∧ k (H.upd a (.sdict [(x, v)]))
    | _ => False
  | _, _ => False

inductive Fl where
  | next | cont
  | ret (v : Value)

noncomputable abbrev QS := Fl → Loc → Hp → Prop
noncomputable abbrev XS := Addr → Loc → Hp → Prop

/-- a for's turns -/
noncomputable def forG (guard : Hp → Prop) (x : Str) (body : Loc → Hp → QS → Prop) : List Value → Loc → Hp → QS → Prop
  | [], l, H, Q => guard H ∧ Q .next l H
  | v :: vs, l, H, Q => guard H ∧ body (l.upd x v) H fun f l' H' => match f with
    | .next | .cont => forG guard x body vs l' H' Q
    | .ret r => Q (.ret r) l' H'

/-- a while's turns, at most so many -/
noncomputable def whileN (test : Loc → Hp → (Bool → Hp → Prop) → Prop) (body : Loc → Hp → QS → Prop) (Q : QS) : Nat → Loc → Hp → Prop
  | 0, _, _ => False
  | n + 1, l, H => test l H fun b H1 => if b then body l H1 (fun f l' H' => match f with
      | .next | .cont => whileN test body Q n l' H'
      | .ret r => Q (.ret r) l' H') else Q .next l H1

mutual
noncomputable def wpS (G : Gx) (hm : Bool) : Sm → Loc → Hp → QS → XS → Prop
  | .expr e, l, H, Q, X => wpE G hm e l H (fun _ H' => Q .next l H') (fun C H' => X C l H')
  | .asg x e, l, H, Q, X => wpE G hm e l H (fun v H' => Q .next (l.upd x v) H') (fun C H' => X C l H')
  | .asgAttr o a e, l, H, Q, X => wpE G hm e l H (fun v H1 => wpE G hm o l H1 (fun ov H2 => setAttrV G ov a v H2 fun H' => Q .next l H') (fun C H' => X C l H')) (fun C H' => X C l H')
  | .asgIdx o i e, l, H, Q, X => wpE G hm e l H (fun v H1 => wpE G hm o l H1 (fun ov H2 => wpE G hm i l H2 (fun iv H3 => setItemV ov iv v H3 fun H' => Q .next l H') (fun C H' => X C l H')) (fun C H' => X C l H')) (fun C H' => X C l H')
  | .ite c t f, l, H, Q, X => wpE G hm c l H (fun v H1 => truthV v fun b => if b then wpSs G hm t l H1 Q X else wpSs G hm f l H1 Q X) (fun C H' => X C l H')
  | .for_ x src body, l, H, Q, X => wpE G hm src l H (fun v H1 => iterH hm v H1 fun guard items => forG guard x (fun l' H' K => wpSs G hm body l' H' K X) items l H1 Q) (fun C H' => X C l H')
  | .while_ c body, l, H, Q, X => ∃ n, whileN (fun l' H' K => wpE G hm c l' H' (fun v H1 => truthV v fun b => K b H1) (fun C H' => X C l' H')) (fun l' H' K => wpSs G hm body l' H' K X) Q n l H
  | .ret e, l, H, Q, X => wpE G hm e l H (fun v H' => Q (.ret v) l H') (fun C H' => X C l H')
  | .raise c, l, H, _, X => hm = false ∧ (match G.glob c with | some (.ref C) => G.isExc C = true ∧ X C l H | _ => False)
  | .try_ body hs, l, H, Q, X => wpSs G hm body l H Q fun C l' H' => hm = false ∧ G.isExc C = true ∧ wpH G hs C l' H' Q X
  | .cont, l, H, Q, _ => Q .cont l H
  | .pass, l, H, Q, _ => Q .next l H
noncomputable def wpSs (G : Gx) (hm : Bool) : List Sm → Loc → Hp → QS → XS → Prop
  | [], l, H, Q, _ => Q .next l H
  | st :: r, l, H, Q, X => wpS G hm st l H (fun f l' H' => match f with | .next => wpSs G hm r l' H' Q X | f => Q f l' H') X
noncomputable def wpH (G : Gx) : List Hd → Addr → Loc → Hp → QS → XS → Prop
  | [], C, l, H, _, X => X C l H
  | .mk c n body :: r, C, l, H, Q, X => match G.glob c with
    | some (.ref D) => G.isExc D = true ∧ if G.sub C D then (match n with
        | none => wpSs G true body l H Q (fun _ _ _ => False)
        | some y => ∀ e, H e = none → wpSs G true body (l.upd y (.ref e)) (H.upd e (.exc C)) (fun f l' H' => Q f (l'.del y) (H'.del e)) (fun _ _ _ => False))
      else wpH G r C l H Q X
    | _ => False
end

/-- a def's call -/
noncomputable def wpF (G : Gx) (hm : Bool) (params : List Str) (body : List Sm) (args : List Value) (H : Hp) (Q : QV) (X : XV) : Prop :=
  params.length = args.length ∧ wpSs G hm body (fun x => (params.zip args).lookup x) H
    (fun f _ H' => match f with | .next => Q .none H' | .ret v => Q v H' | .cont => False) (fun C _ H' => X C H')

end Mine
end

section
open PySem PyProof.Rows PySem.Calls
namespace Mine

noncomputable def PostE (P : Pm) (F : Fm) (l : Loc) (Q : QV) : Value → Shared → Prop := fun V s' => ∃ H', Inv P F l H' s' ∧ Q (er V) H'

section
variable {P : Pm} {F : Fm} {l : Loc} {H : Hp} {s : Shared} {E : Value → Shared → Prop} {Q : QV} {A' B' a b : Value}

theorem same_int {x : Int} {t : Nat} (I : Inv P F l H s) (h : Q (.int x 0) H) (u : Tok) : PostE P F l Q (.int x u) { s with toks := t } := ⟨H, I.toks t, h⟩

theorem IsL.isList {h : Heap} {a : Addr} {vs : Array Value} (x : IsL h a vs) : h.IsList a vs := let ⟨n, e⟩ := x; ⟨_, e, rfl, n, rfl⟩
theorem mt_list {h : Heap} {a : Addr} {vs : Array Value} (hl : IsL h a vs) (hz : vs.size ≤ 2 ^ 25) : Mt P h a (.list (vs.toList.map er)) := ⟨vs, hl.isList, rfl, by simpa using hz, hl⟩
theorem mt_tup {h : Heap} {a : Addr} {vs : Array Value} (hl : h.IsTuple a vs) (hz : vs.size ≤ 2 ^ 25) : Mt P h a (.tup (vs.toList.map er)) := ⟨vs, hl, rfl, by simpa using hz⟩

theorem new_list (K : FmOk P F) (I : Inv P F l H s) {h' : Heap} {t : Nat} {m : Str → Option Value} {vs : Array Value} {n : Nat}
    (hm : ∀ x v, l x = some v → F.env.kindOf x = some .local → ∃ V, m x = some V ∧ er V = v) (F' : Fr P.base F.env.locals h' m)
    (N' : News P.base F.env.locals h' ((s.heap.objs.size, { cls := .type "list", data := .seq vs n }) :: allNews P.base s.heap F.env.locals))
    (hz : vs.size ≤ 2 ^ 25) (h : newV (.list (vs.toList.map er)) H Q) : PostE P F l Q (.ref s.heap.objs.size) { s with heap := h', toks := t } :=
  ⟨_, (I.after K hm F' N' fun _ hp => .tail _ hp).track (I.ofSize K) (bigs_of (I.base_le K)) (mt_list ⟨n, (N' _ (.head _)).1⟩ hz), h _ I.fresh⟩
theorem intBits_lt {x : Int} (h : x.natAbs < 2 ^ 63) : Builtin.Int.intBits x ≤ 64 := by
  unfold Builtin.Int.intBits
  split
  · omega
  · have := (Nat.log2_lt (n := x.natAbs) (k := 63) (by intro q; simp_all)).mpr h
    omega

theorem s_bin (K : FmOk P F) (I : Inv P F l H s) (op : Operator) (ha : er A' = a) (hb : er B' = b) (h : binV op a b H Q) : wpAny P.M F.A (binaryOp op A' B') (PostE P F l Q) E s := by
  unfold binV at h
  split at h
  · unfold addV at h
    split at h
    · obtain ⟨_, rfl⟩ := er_int ha; obtain ⟨y, _, rfl, h⟩ := onInt_elim hb h
      exact add_int (same_int I h _)
    · obtain ⟨_, rfl⟩ := er_str ha; obtain ⟨y, _, rfl, h⟩ := onStr_elim hb h
      exact add_str (fun t' tk => ⟨H, I.toks tk, h.2⟩) h.1
    · have := er_ref ha; subst this; obtain ⟨y, rfl, h⟩ := onRef_elim hb h
      obtain ⟨m, Fr, hm⟩ := I.fr K
      unfold addR at h
      split at h
      · rename_i xs hx
        split at h
        · rename_i ys hy
          obtain ⟨vs, hl, rfl, z1⟩ := I.objs _ _ hx
          obtain ⟨ws, hl', rfl, z2⟩ := I.objs _ _ hy
          simp only [List.length_map, Array.length_toList] at h z1 z2
          refine add_arrays Fr (news_all _ _ _) hl hl' (fun h' F' N' => new_list K I (t := s.toks) hm F' N' ?_ ?_) h.1
          · simp; have := h.1; simp [sizeLine] at this; omega
          · simpa using h.2
        · exact h.elim
      · rename_i xs hx
        split at h
        · rename_i ys hy
          obtain ⟨vs, hl, rfl, z1⟩ := I.objs _ _ hx
          obtain ⟨ws, hl', rfl, z2⟩ := I.objs _ _ hy
          simp only [List.length_map, Array.length_toList] at h z1 z2
          obtain ⟨vs⟩ := vs
          obtain ⟨ws⟩ := ws
          refine add_tuples Fr (news_all _ _ _) hl hl' (fun e => ?_) (fun _ e => ?_) (fun _ _ h' F' N' => ?_) h.1
          · subst e; exact ⟨H, I, h.2.2 _ (by simpa using hy)⟩
          · subst e; exact ⟨H, I, h.2.2 _ (by simpa using hx)⟩
          · have z := h.1
            simp [sizeLine] at z
            exact ⟨_, (I.after K hm F' N' (t := s.toks) fun _ hp => .tail _ hp).track (I.ofSize K) (bigs_of (I.base_le K)) (mt_tup ⟨_, (N' _ (.head _)).1, rfl, 0, rfl⟩ (by simp; omega)), by have := h.2.1 _ I.fresh; rw [← List.map_append] at this; exact this⟩
        · exact h.elim
      · exact h.elim
    · exact h.elim
  · obtain ⟨x, _, rfl, h⟩ := onInt_elim ha h; obtain ⟨y, _, rfl, h⟩ := onInt_elim hb h
    exact sub_int (same_int I h _)
  · unfold multV at h
    split at h
    · rename_i x _; obtain ⟨_, rfl⟩ := er_int ha; obtain ⟨y, _, rfl, h⟩ := onInt_elim hb h
      refine mul_int (same_int I h.2 _) ?_
      unfold IntMulOk shortFactorBits
      rcases h.1 with q | q
      · have := intBits_lt q; simp; omega
      · have := intBits_lt q; simp; omega
    · rename_i x _; obtain ⟨_, rfl⟩ := er_str ha; obtain ⟨n, _, rfl, h⟩ := onInt_elim hb h
      refine SB.mul ?_ (fun t' tk => ⟨H, I.toks tk, h.2.2.2⟩)
      obtain ⟨h1, h2, h3, _⟩ := h
      refine ⟨by simp; omega, fun q _ => ?_, fun q _ => ?_⟩
      · have : (1000 : Int) ≤ (2 ^ 63 - 1) / n := by
          apply Int.le_ediv_of_mul_le (by omega)
          have : 1000 * n ≤ 1000 * 1000 := Int.mul_le_mul_of_nonneg_left h2 (by omega)
          omega
        omega
      · have : x.length * n.toNat ≤ 1000 * 1000 := Nat.mul_le_mul h1 (by omega)
        simp [Builtin.Str.tooLong, sizeLine]; omega
    · exact h.elim
  · obtain ⟨x, _, rfl, h⟩ := onInt_elim ha h; obtain ⟨y, _, rfl, h⟩ := onInt_elim hb h
    refine floordiv_int (by omega) ?_ (.inl ?_)
    · rw [Int.fdiv_eq_ediv_of_nonneg _ (by omega)]; exact same_int I h.2.2 _
    · unfold Builtin.divisionGoesByPylong
      have : y.natAbs.log2 < 63 := by
        by_cases hy : y.natAbs = 0
        · rw [hy]; decide
        · exact (Nat.log2_lt hy).mpr (by omega)
      have h0 : ¬ y = 0 := by omega
      simp [h0]
      omega
  · obtain ⟨x, _, rfl, h⟩ := onInt_elim ha h; obtain ⟨y, _, rfl, h⟩ := onInt_elim hb h
    refine mod_int (by omega) ?_
    rw [Int.fmod_eq_emod_of_nonneg _ (by omega)]; exact same_int I h.2 _
  · obtain ⟨x, _, rfl, h⟩ := onInt_elim ha h; obtain ⟨y, _, rfl, h⟩ := onInt_elim hb h
    have := intBits_lt h.2.2.1
    refine pow_int h.1 ?_ (same_int I h.2.2.2 _)
    have h1 : (Builtin.Int.intBits x : Int) * y ≤ 64 * 100 := Int.mul_le_mul (by omega) h.2.1 h.1 (by omega)
    omega
  · exact h.elim


theorem reads_of (I : Inv P F l H s) {v : Value} {d : PyData} (h : Rd H v d) : ∀ V, er V = v → ∃ as, Reads s.heap V d as := by
  refine Rd.rec (motive_1 := fun v d _ => ∀ V, er V = v → ∃ as, Reads s.heap V d as) (motive_2 := fun vs ds _ => ∀ Vs : List Value, Vs.map er = vs → ∃ as, ReadsAll s.heap Vs ds as)
    (fun V e => ⟨[], by rw [er_none e]; exact .none⟩) (fun b V e => ⟨[], by rw [er_bool e]; exact .bool b⟩) (fun i t V e => ⟨[], by obtain ⟨u, rfl⟩ := er_int e; exact .int i u⟩) (fun x t V e => ⟨[], by obtain ⟨u, rfl⟩ := er_str e; exact .str x u⟩) ?_ ?_ ?_ ?_ ?_ h
  · intro a xs ds ha _ ih V e
    have := er_ref e; subst this
    obtain ⟨vs, ⟨o, ho, hc, n, hd⟩, q, _⟩ := I.objs _ _ ha
    obtain ⟨as, r⟩ := ih vs.toList q
    exact ⟨_, .list ho hc hd r⟩
  · intro a xs ds ha _ ih V e
    have := er_ref e; subst this
    obtain ⟨vs, ⟨o, ho, hc, n, hd⟩, q, _⟩ := I.objs _ _ ha
    obtain ⟨as, r⟩ := ih vs.toList q
    exact ⟨_, .tuple ho hc hd r⟩
  · intro a xs ds ha _ ih V e
    have := er_ref e; subst this
    obtain ⟨vs, ⟨o, ho, hc, n, hd⟩, q, _⟩ := I.objs _ _ ha
    obtain ⟨as, r⟩ := ih vs.toList q
    exact ⟨_, .list ho hc hd r⟩
  · intro Vs e
    cases Vs with
    | nil => exact ⟨[], .nil⟩
    | cons => cases e
  · intro v vs d ds _ _ i1 i2 Vs e
    cases Vs with
    | nil => cases e
    | cons V Vs =>
      obtain ⟨as, p⟩ := i1 V (List.cons.inj e).1
      obtain ⟨bs, q⟩ := i2 Vs (List.cons.inj e).2
      exact ⟨_, .cons p q⟩

theorem beq_dec {α : Type} [DecidableEq α] (x y : α) : (x == y) = decide (x = y) := by rw [Bool.eq_iff_iff]; simp

theorem s_eq (I : Inv P F l H s) (hu : F.A.units + 64 < cLine) (ha : er A' = a) (hb : er B' = b) (h : eqV a b H fun r => Q (.bool r) H) : wpAny P.M F.A (compareOp .Eq A' B') (PostE P F l Q) E s := by
  unfold eqV at h
  split at h
  · obtain ⟨_, rfl⟩ := er_int ha; obtain ⟨_, rfl⟩ := er_int hb
    exact eq_int ⟨H, I, by rw [beq_dec]; exact h⟩
  · obtain ⟨_, rfl⟩ := er_str ha; obtain ⟨_, rfl⟩ := er_str hb
    exact eq_str ⟨H, I, by rw [beq_dec]; exact h⟩
  · rw [er_none ha, er_none hb]; exact EqNone.eq_none_none ⟨H, I, h⟩
  · rw [er_none ha]; obtain ⟨_, rfl⟩ := er_int hb; exact EqNone.eq_none_int ⟨H, I, h⟩
  · rw [er_none hb]; obtain ⟨_, rfl⟩ := er_int ha; exact EqNone.eq_int_none ⟨H, I, h⟩
  · rw [er_none ha]; obtain ⟨_, rfl⟩ := er_str hb; exact EqNone.eq_none_str ⟨H, I, h⟩
  · rw [er_none hb]; obtain ⟨_, rfl⟩ := er_str ha; exact EqNone.eq_str_none ⟨H, I, h⟩
  · obtain ⟨da, db, ra, rb, sa, sb, q⟩ := h
    obtain ⟨as, ra⟩ := reads_of I ra A' ha
    obtain ⟨bs, rb⟩ := reads_of I rb B' hb
    exact SeqAt.compareEq_shaped ra rb sa sb hu ⟨H, I, q⟩

theorem s_ne (I : Inv P F l H s) (hu : F.A.units + 64 < cLine) (ha : er A' = a) (hb : er B' = b) (h : eqV a b H fun r => Q (.bool (!r)) H) : wpAny P.M F.A (compareOp .NotEq A' B') (PostE P F l Q) E s := by
  unfold eqV at h
  split at h
  · obtain ⟨_, rfl⟩ := er_int ha; obtain ⟨_, rfl⟩ := er_int hb
    exact ne_int ⟨H, I, by show Q (.bool (_ != _)) H; unfold bne; rw [beq_dec]; exact h⟩
  · obtain ⟨_, rfl⟩ := er_str ha; obtain ⟨_, rfl⟩ := er_str hb
    exact ne_str ⟨H, I, by show Q (.bool (_ != _)) H; unfold bne; rw [beq_dec]; exact h⟩
  · rw [er_none ha, er_none hb]; exact EqNone.ne_none_none ⟨H, I, h⟩
  · rw [er_none ha]; obtain ⟨_, rfl⟩ := er_int hb; exact EqNone.ne_none_int ⟨H, I, h⟩
  · rw [er_none hb]; obtain ⟨_, rfl⟩ := er_int ha; exact EqNone.ne_int_none ⟨H, I, h⟩
  · rw [er_none ha]; obtain ⟨_, rfl⟩ := er_str hb; exact EqNone.ne_none_str ⟨H, I, h⟩
  · rw [er_none hb]; obtain ⟨_, rfl⟩ := er_str ha; exact EqNone.ne_str_none ⟨H, I, h⟩
  · obtain ⟨da, db, ra, rb, sa, sb, q⟩ := h
    obtain ⟨as, ra⟩ := reads_of I ra A' ha
    obtain ⟨bs, rb⟩ := reads_of I rb B' hb
    exact SeqAt.compareNe_shaped ra rb sa sb hu ⟨H, I, q⟩

theorem valueAt_er {K : Type} [DecidableEq K] (ks : List (K × Value)) (k : K) : valueAt (ks.map fun p => (p.1, er p.2)) k = (valueAt ks k).map er := by
  unfold valueAt
  induction ks with
  | nil => rfl
  | cons p r ih =>
    simp only [List.map_cons, List.find?_cons]
    by_cases e : p.1 = k
    · simp [e]
    · simp [e]; simpa using ih

theorem not_modules (Y : PmOk P) (I : Inv P F l H s) {a : Addr} {o : AObj} (h : H a = some o) (hb : Bigs P a o → P.base.objs.size ≤ a := by exact id) : (a == sysModules) = false := by
  have h3 : sysModules < mainGlobals := by decide
  exact beq_eq_false_iff_ne.mpr (Nat.ne_of_gt (Nat.lt_of_lt_of_le (Nat.lt_trans h3 Y.g.lt) (hb (I.big a o h))))

theorem ints_of : ∀ {vs : List Value} {ns : List Int}, vs.map er = ns.map (fun n => Value.int n 0) → IntsAre vs ns
  | [], [], _ => .nil
  | [], _ :: _, e => by simp at e
  | _ :: _, [], e => by simp at e
  | v :: vs, n :: ns, e => by
    simp only [List.map_cons, List.cons.injEq] at e
    obtain ⟨t, rfl⟩ := er_int e.1
    exact .cons n t (ints_of e.2)
theorem any_mem (ns : List Int) (i : Int) : ns.any (· == i) = decide (i ∈ ns) := by
  rw [Bool.eq_iff_iff]; simp

theorem empty_sdict {h : Heap} {a : Addr} (x : h.DictOf (intKind P.prog P.w) a []) : h.DictOf (PySem.strKind P.prog P.w) a [] := by
  obtain ⟨o, es, ep, h1, h2, h3, h4, h5, h6⟩ := x
  have : es = #[] := by
    cases hq : es.toList with
    | nil => simpa using hq
    | cons => rw [hq] at h5; cases h5
  subst this
  exact ⟨o, #[], ep, h1, h2, h3, fun e he => by simp at he, .nil, .nil⟩

theorem s_in (Y : PmOk P) (I : Inv P F l H s) (ha : er A' = a) (hb : er B' = b) (h : inV a b H fun r => Q (.bool r) H) : wpAny P.M F.A (compareOp .In A' B') (PostE P F l Q) E s := by
  unfold inV at h
  split at h
  · obtain ⟨_, rfl⟩ := er_str ha; obtain ⟨_, rfl⟩ := er_str hb
    exact in_str ⟨H, I, h⟩
  · obtain ⟨_, rfl⟩ := er_int ha; have := er_ref hb; subst this
    split at h
    · rename_i hx
      obtain ⟨ks, hd, rfl⟩ := I.objs _ _ hx
      refine wpAny_in_of (intKind_is _ _ _ _) (not_modules Y I hx) hd.mapOf ⟨H, I.toks _, ?_⟩
      rw [valueAt_er] at h
      simpa [er] using h
    · rename_i hx
      obtain ⟨ns, rfl, h⟩ := h
      obtain ⟨⟨vs⟩, hl, q, _⟩ := I.objs _ _ hx
      exact in_list_ints hl (ints_of q) ⟨H, I, by rw [any_mem]; exact h⟩
    · exact h.elim
  · obtain ⟨_, rfl⟩ := er_str ha; have := er_ref hb; subst this
    split at h
    · rename_i hx
      obtain ⟨ks, hd, rfl⟩ := I.objs _ _ hx
      refine wpAny_in_of (strKind_is _ _ _ _) (not_modules Y I hx) hd.mapOf ⟨H, I.toks _, ?_⟩
      rw [valueAt_er] at h
      simpa [er] using h
    · rename_i hx
      obtain ⟨ks, hd, q⟩ := I.objs _ _ hx
      obtain ⟨e, h⟩ := h
      obtain rfl : ks = [] := by rw [e] at q; simpa using q
      exact wpAny_in_of (strKind_is _ _ _ _) (not_modules Y I hx) (empty_sdict hd).mapOf ⟨H, I.toks _, h⟩
    · exact h.elim
  · exact h.elim

theorem s_notin (Y : PmOk P) (I : Inv P F l H s) (ha : er A' = a) (hb : er B' = b) (h : inV a b H fun r => Q (.bool (!r)) H) : wpAny P.M F.A (compareOp .NotIn A' B') (PostE P F l Q) E s := by
  unfold inV at h
  split at h
  · obtain ⟨_, rfl⟩ := er_str ha; obtain ⟨_, rfl⟩ := er_str hb
    exact notIn_str ⟨H, I, h⟩
  · obtain ⟨_, rfl⟩ := er_int ha; have := er_ref hb; subst this
    split at h
    · rename_i hx
      obtain ⟨ks, hd, rfl⟩ := I.objs _ _ hx
      refine wpAny_notIn_of (intKind_is _ _ _ _) (not_modules Y I hx) hd.mapOf ⟨H, I.toks _, ?_⟩
      rw [valueAt_er] at h
      simpa [er] using h
    · rename_i hx
      obtain ⟨ns, rfl, h⟩ := h
      obtain ⟨⟨vs⟩, hl, q, _⟩ := I.objs _ _ hx
      exact notin_list_ints hl (ints_of q) ⟨H, I, by rw [any_mem]; exact h⟩
    · exact h.elim
  · obtain ⟨_, rfl⟩ := er_str ha; have := er_ref hb; subst this
    split at h
    · rename_i hx
      obtain ⟨ks, hd, rfl⟩ := I.objs _ _ hx
      refine wpAny_notIn_of (strKind_is _ _ _ _) (not_modules Y I hx) hd.mapOf ⟨H, I.toks _, ?_⟩
      rw [valueAt_er] at h
      simpa [er] using h
    · rename_i hx
      obtain ⟨ks, hd, q⟩ := I.objs _ _ hx
      obtain ⟨e, h⟩ := h
      obtain rfl : ks = [] := by rw [e] at q; simpa using q
      exact wpAny_notIn_of (strKind_is _ _ _ _) (not_modules Y I hx) (empty_sdict hd).mapOf ⟨H, I.toks _, h⟩
    · exact h.elim
  · exact h.elim

theorem s_is (I : Inv P F l H s) (h : match er A' with | .none => Q (.bool true) H | .builtin _ => False | _ => Q (.bool false) H) : wpAny P.M F.A (compareOp .Is A' .none) (PostE P F l Q) E s := by
  cases A' <;> dsimp only [er] at h
  case none => exact wpAny_is_plain rfl ⟨H, I, h⟩
  all_goals exact wpAny_is_other rfl (by simp) ⟨H, I, h⟩
theorem s_isnot (I : Inv P F l H s) (h : match er A' with | .none => Q (.bool false) H | .builtin _ => False | _ => Q (.bool true) H) : wpAny P.M F.A (compareOp .IsNot A' .none) (PostE P F l Q) E s := by
  cases A' <;> dsimp only [er] at h
  case none => exact wpAny_isNot_self rfl ⟨H, I, h⟩
  all_goals exact wpAny_isNot_other rfl (by simp) ⟨H, I, h⟩

theorem s_cmp (Y : PmOk P) (I : Inv P F l H s) (hu : F.A.units + 64 < cLine) (op : CmpOp) (ha : er A' = a) (hb : er B' = b) (h : cmpV op a b H Q) : wpAny P.M F.A (compareOp op A' B') (PostE P F l Q) E s := by
  unfold cmpV at h
  cases op <;> dsimp only at h
  · exact s_eq I hu ha hb h
  · exact s_ne I hu ha hb h
  · split at h
    · obtain ⟨_, rfl⟩ := er_int ha; obtain ⟨_, rfl⟩ := er_int hb; exact lt_int ⟨H, I, h⟩
    · obtain ⟨_, rfl⟩ := er_str ha; obtain ⟨_, rfl⟩ := er_str hb; exact lt_str ⟨H, I, h⟩
    · exact h.elim
  · split at h
    · obtain ⟨_, rfl⟩ := er_int ha; obtain ⟨_, rfl⟩ := er_int hb; exact le_int ⟨H, I, h⟩
    · exact h.elim
  · split at h
    · obtain ⟨_, rfl⟩ := er_int ha; obtain ⟨_, rfl⟩ := er_int hb; exact gt_int ⟨H, I, h⟩
    · obtain ⟨_, rfl⟩ := er_str ha; obtain ⟨_, rfl⟩ := er_str hb; exact PySem.P.gt_str ⟨H, I, h⟩
    · exact h.elim
  · split at h
    · obtain ⟨_, rfl⟩ := er_int ha; obtain ⟨_, rfl⟩ := er_int hb; exact ge_int ⟨H, I, h⟩
    · exact h.elim
  · split at h
    · rw [er_none hb]; subst ha; exact s_is I h
    · exact h.elim
  · split at h
    · rw [er_none hb]; subst ha; exact s_isnot I h
    · exact h.elim
  · exact s_in Y I ha hb h
  · exact s_notin Y I ha hb h

end
end Mine
end

section
open PySem PyProof.Rows PySem.Calls
namespace Mine

/-! ## slices -/
theorem slice_core {α : Type} (xs : List α) (a : Nat) : ∀ n : Nat, a + n ≤ xs.length → ((List.range n).map (fun k => a + k)).filterMap (fun i => xs[i]?) = (xs.take (a + n)).drop a
  | 0, _ => by simp
  | n + 1, h => by
    have ih := slice_core xs a n (by omega)
    rw [List.range_succ, List.map_append, List.filterMap_append, ih]
    have hl : a + n < xs.length := by omega
    simp only [List.map_cons, List.map_nil, List.filterMap_cons, List.getElem?_eq_getElem hl, List.filterMap_nil]
    have : xs.take (a + (n + 1)) = xs.take (a + n) ++ [xs[a + n]] := by rw [← Nat.add_assoc]; exact List.take_succ_eq_append_getElem hl
    rw [this, List.drop_append_of_le_length]
    simp; omega

theorem clip_eq (n : Nat) (i : Int) : (max 0 (min (if i < 0 then i + n else i) (n : Int))) = (cutAt n i : Int) := by
  unfold cutAt
  split
  · rename_i h
    rw [Int.ofNat_toNat, Int.min_eq_left (Int.le_trans (Int.add_le_add_right (Int.le_of_lt h) _) (Int.le_of_eq (Int.zero_add _))), Int.max_comm]
  · rename_i h
    have h := Int.not_lt.1 h
    rw [Int.max_eq_right (Int.le_min.2 ⟨h, Int.natCast_nonneg _⟩)]
    obtain ⟨m, rfl⟩ := Int.eq_ofNat_of_zero_le h
    rw [Int.toNat_natCast]
    rcases Nat.le_total m n with q | q
    · rw [Nat.min_eq_left q, Int.min_eq_left (Int.ofNat_le.2 q)]
    · rw [Nat.min_eq_right q, Int.min_eq_right (Int.ofNat_le.2 q)]
theorem cutAt_le (n : Nat) (i : Int) : cutAt n i ≤ n := Int.ofNat_le.1 (clip_eq n i ▸ Int.max_le.2 ⟨Int.natCast_nonneg _, Int.min_le_right ..⟩)
theorem hiAt_le (n : Nat) (i : Option Int) : hiAt n i ≤ n := by cases i <;> simp [hiAt, cutAt_le]

theorem sliceRange_one (a b : Nat) : sliceRange (a : Int) (b : Int) 1 = (List.range (b - a)).map fun k => a + k := by
  have e : (if (1 : Int) > 0 then (if (a : Int) < b then ((b : Int) - a + 1 - 1) / 1 else 0) else (if (a : Int) > b then ((a : Int) - b - 1 - 1) / (-1) else 0)).toNat = b - a := by
    rw [if_pos Int.one_pos, Int.add_sub_cancel, Int.ediv_one]
    split
    · exact Int.toNat_sub b a
    · rename_i h; exact (Nat.sub_eq_zero_of_le (Int.ofNat_le.1 (Int.not_lt.1 h))).symm
  unfold sliceRange
  simp only [e]
  apply List.map_congr_left
  intro k _
  rw [Int.one_mul, ← Int.natCast_add, Int.toNat_natCast]
theorem sliceIdx (n : Nat) (lo hi : Option Int) : sliceRange (sliceBounds lo hi none n).1 (sliceBounds lo hi none n).2.1 (sliceBounds lo hi none n).2.2 = (List.range (hiAt n hi - loAt n lo)).map fun k => loAt n lo + k := by
  have h1 : (sliceBounds lo hi none n).1 = (loAt n lo : Int) := by
    cases lo with
    | none => simp [sliceBounds, loAt]
    | some i => simp only [sliceBounds, Option.getD, loAt]; rw [if_pos (by omega)]; exact clip_eq _ _
  have h2 : (sliceBounds lo hi none n).2.1 = (hiAt n hi : Int) := by
    cases hi with
    | none => simp [sliceBounds, hiAt]
    | some i => simp only [sliceBounds, Option.getD, hiAt]; rw [if_pos (by omega)]; exact clip_eq _ _
  have h3 : (sliceBounds lo hi none n).2.2 = 1 := rfl
  rw [h1, h2, h3, sliceRange_one]

theorem slicePick_eq {α : Type} (xs : List α) (lo hi : Option Int) :
    (sliceRange (sliceBounds lo hi none xs.length).1 (sliceBounds lo hi none xs.length).2.1 (sliceBounds lo hi none xs.length).2.2).filterMap (fun i => xs[i]?) = pySlice xs lo hi := by
  have key : ∀ a b : Nat, b ≤ xs.length → ((List.range (b - a)).map fun k => a + k).filterMap (fun i => xs[i]?) = (xs.take b).drop a := by
    intro a b hb
    by_cases hab : b ≤ a
    · have : b - a = 0 := by omega
      rw [this]
      rw [List.drop_eq_nil_of_le (by simp; omega)]
      simp
    · rw [slice_core xs a (b - a) (by omega)]
      congr 2
      omega
  rw [sliceIdx]
  exact key _ _ (hiAt_le _ _)
theorem pySlice_whole {α : Type} (xs : List α) (lo hi : Option Int) (h : hiAt xs.length hi - loAt xs.length lo = xs.length) : pySlice xs lo hi = xs := by
  have := hiAt_le xs.length hi
  unfold pySlice
  by_cases z : xs.length = 0
  · have := List.eq_nil_of_length_eq_zero z; subst this; simp
  · have h1 : loAt xs.length lo = 0 := by omega
    have h2 : hiAt xs.length hi = xs.length := by omega
    rw [h1, h2]; simp

theorem pySlice_len {α : Type} (xs : List α) (lo hi : Option Int) : (pySlice xs lo hi).length ≤ xs.length := by
  unfold pySlice; simp; omega
theorem pySlice_map {α β : Type} (f : α → β) (xs : List α) (lo hi : Option Int) : pySlice (xs.map f) lo hi = (pySlice xs lo hi).map f := by
  unfold pySlice
  simp [List.map_take, List.map_drop]

theorem at_map {α β : Type} (f : α → β) (xs : List α) (k : Int) {v : β} (h : at? (xs.map f) k = some v) : ∃ u, at? xs k = some u ∧ f u = v := by
  unfold at? at *
  simp only [List.length_map, List.getElem?_map] at h
  split at h
  · rename_i q; rw [if_pos q]; exact Option.map_eq_some_iff.mp h
  · rename_i q; rw [if_neg q]
    split at h
    · rename_i q; rw [if_pos q]; exact Option.map_eq_some_iff.mp h
    · cases h

theorem at_seqIndex {α : Type} (xs : List α) (k : Int) {v : α} (h : at? xs k = some v) : ∃ j, seqIndex? k xs.length = some j ∧ xs[j]? = some v ∧ -(xs.length : Int) ≤ k ∧ k < xs.length := by
  unfold at? at h
  split at h
  · rename_i q
    have b := (List.getElem?_eq_some_iff.mp h).1
    have b2 : k < xs.length := Int.lt_of_le_of_lt (Int.self_le_toNat k) (Int.ofNat_lt.2 b)
    refine ⟨k.toNat, ?_, h, Int.le_trans (Int.neg_nonpos_of_nonneg (Int.natCast_nonneg _)) q, b2⟩
    simp only [seqIndex?, if_neg (Int.not_lt.2 q)]
    rw [if_pos (Bool.and_eq_true_iff.2 ⟨decide_eq_true q, decide_eq_true b2⟩)]
  · split at h
    · rename_i q1 q2
      have q1 := Int.not_le.1 q1
      have q3 := Int.add_lt_add_right q1 (xs.length : Int)
      rw [Int.zero_add] at q3
      have q4 : 0 ≤ k + xs.length := Int.add_nonneg_iff_neg_le.2 q2
      refine ⟨(k + xs.length).toNat, ?_, h, q2, Int.lt_of_lt_of_le q1 (Int.natCast_nonneg _)⟩
      simp only [seqIndex?, if_pos q1]
      rw [if_pos (Bool.and_eq_true_iff.2 ⟨decide_eq_true q4, decide_eq_true q3⟩)]
    · cases h

section
variable {P : Pm} {F : Fm} {l : Loc} {H : Hp} {s : Shared} {E : Value → Shared → Prop} {Q : QV} {A' B' a b : Value}

theorem s_idx (I : Inv P F l H s) (ha : er A' = a) (hb : er B' = b) (h : idxV a b H Q) : wpAny P.M F.A (getItem A' B') (PostE P F l Q) E s := by
  unfold idxV at h
  split at h
  · rename_i x k _; have := er_ref ha; subst this; obtain ⟨_, rfl⟩ := er_int hb
    split at h
    · rename_i xs hx
      obtain ⟨⟨vs⟩, hl, q, z, _⟩ := I.objs _ _ hx
      split at h
      · rename_i v hv
        subst q
        obtain ⟨V, hV, rfl⟩ := at_map er vs k hv
        simp only [List.length_map] at z
        obtain ⟨j, e1, e2, e3, e4⟩ := at_seqIndex vs k hV
        by_cases hk : 0 ≤ k
        · refine wpAny_getItem_list hl hk (by omega) (x := V) ?_ ⟨H, I, h⟩
          simp only [at?, if_pos hk] at hV
          simpa using hV
        · refine wpAny_getItem_list_neg hl (by omega) (by simpa using e3) (by omega) (x := V) ?_ ⟨H, I, h⟩
          simp only [at?, if_neg hk, if_pos e3] at hV
          simpa using hV
      · exact h.elim
    · rename_i xs hx
      obtain ⟨⟨vs⟩, hl, q, z⟩ := I.objs _ _ hx
      split at h
      · rename_i v hv
        subst q
        obtain ⟨V, hV, rfl⟩ := at_map er vs k hv
        simp only [List.length_map] at z
        obtain ⟨j, e1, e2, e3, e4⟩ := at_seqIndex vs k hV
        by_cases hk : 0 ≤ k
        · refine wpAny_getItem_list hl hk (by omega) (x := V) ?_ ⟨H, I, h⟩
          simp only [at?, if_pos hk] at hV
          simpa using hV
        · refine wpAny_getItem_list_neg hl (by omega) (by simpa using e3) (by omega) (x := V) ?_ ⟨H, I, h⟩
          simp only [at?, if_neg hk, if_pos e3] at hV
          simpa using hV
      · exact h.elim
    · rename_i xs hx
      obtain ⟨⟨vs⟩, hl, q, z⟩ := I.objs _ _ hx
      split at h
      · rename_i v hv
        subst q
        obtain ⟨V, hV, rfl⟩ := at_map er vs k hv
        simp only [List.length_map] at z
        obtain ⟨j, e1, e2, e3, e4⟩ := at_seqIndex vs k hV
        exact getItem_tuple hl (by omega) (by omega) (j := j) (by simpa using e1) (x := V) (by simpa using e2) ⟨H, I, h⟩
      · exact h.elim
    · rename_i kvs hx
      obtain ⟨ks, hd, rfl⟩ := I.objs _ _ hx
      split at h
      · rename_i v hv
        rw [valueAt_er] at hv
        obtain ⟨V, hV, rfl⟩ := Option.map_eq_some_iff.mp hv
        exact wpAny_getItem_of (intKind_is _ _ _ _) hd.mapOf hV ⟨H, I.toks _, h⟩
      · exact h.elim
    · exact h.elim
  · rename_i x k _; have := er_ref ha; subst this; obtain ⟨_, rfl⟩ := er_str hb
    split at h
    · rename_i kvs hx
      obtain ⟨ks, hd, rfl⟩ := I.objs _ _ hx
      split at h
      · rename_i v hv
        rw [valueAt_er] at hv
        obtain ⟨V, hV, rfl⟩ := Option.map_eq_some_iff.mp hv
        exact wpAny_getItem_of (strKind_is _ _ _ _) hd.mapOf hV ⟨H, I.toks _, h⟩
      · exact h.elim
    · exact h.elim
  · rename_i x _ k _; obtain ⟨_, rfl⟩ := er_str ha; obtain ⟨_, rfl⟩ := er_int hb
    split at h
    · rename_i c hc
      obtain ⟨j, e1, e2, e3, e4⟩ := at_seqIndex _ k hc
      have hz := h.1
      have hlen : x.cps.toList.length = x.length := by simp [Str.length]
      rw [hlen] at e1 e3 e4
      simp only [sizeLine] at hz
      refine getItem_str (c := c) (by simp; omega) ?_ ⟨H, I.toks _, h.2⟩
      rw [e1]
      simpa using e2
    · exact h.elim
  · exact h.elim

theorem partOf_er {V : Value} {i : Option Int} (h : partOf (er V) = some i) : IsPart V i := by
  cases V <;> simp [er, partOf] at h <;> subst h
  · exact .none
  · exact .int _ _
theorem s_len (I : Inv P F l H s) (ha : er A' = a) (h : lenV a H Q) : wpAny P.M F.A (call (.builtin "len") [A']) (PostE P F l Q) E s := by
  unfold lenV at h
  split at h
  · obtain ⟨_, rfl⟩ := er_str ha
    have := h.1
    simp only [sizeLine] at this
    exact len_str (by omega) ⟨H, I.toks _, h.2⟩
  · have := er_ref ha; subst this
    split at h
    · rename_i hx
      obtain ⟨vs, hl, rfl, z, _⟩ := I.objs _ _ hx
      simp only [List.length_map, Array.length_toList] at h z
      exact len_list hl (by omega) ⟨H, I.toks _, h⟩
    · rename_i hx
      obtain ⟨vs, hl, rfl, z⟩ := I.objs _ _ hx
      simp only [List.length_map, Array.length_toList] at h z
      exact len_list hl (by omega) ⟨H, I.toks _, h⟩
    · rename_i hx
      obtain ⟨vs, hl, rfl, z⟩ := I.objs _ _ hx
      simp only [List.length_map, Array.length_toList] at h z
      exact len_tuple hl (by omega) ⟨H, I.toks _, h⟩
    · exact h.elim
  · exact h.elim

end
end Mine
end

section
open PySem PyProof.Rows PySem.Calls
open PySem.W (dictOf getL putL putN plainGet hasDictIn findIn isFn noGet plainOver takerIn makesIn subIn)
namespace Mine

/-! ## instances -/
section
variable {w : World} {es : List DictEntry} {kvs : List (Str × Value)} {a : Str}

end

/-- what the written part says of the names -/
structure ExcCls (K : PySem.W.Frag) (D : Addr) : Prop where
  ga : findIn K (.ref D) "__getattribute__" = some (some (.builtin "BaseException.__getattribute__"))
  gr : findIn K (.ref D) "__getattr__" = some none
  fo : PySem.W.findObj K D none "__class__" = some (.bind (.builtin "getset_descriptor.__get__") (.builtin "object.__class__"))
  ob : PySem.W.mroIn K D (.type "object") = some true
  be : PySem.W.mroIn K D (.type "BaseException") = some true
  cl : (PySem.W.clsIn K D).isSome = true
  ty : PySem.W.typeIn K (.ref D) = some (.type "type")
  ve : subIn K (.ref D) (.type "ValueError") = some true

noncomputable abbrev veMro : List Value := [.type "ValueError", .type "Exception", .type "BaseException", .type "object"]
noncomputable def OwnObj (h : Heap) (C : Addr) : Prop := ∃ bm N nm q bs hdct sn sub ab col dd k0 k1 k2 k3 k5 mN, h.get? C = some (excClassObj nm q C N bs bm hdct sn sub ab col dd k0 k1 k2 k3 k5 "ValueError.__new__") ∧ h.Ns N mN ∧ mN "__init__" = none ∧ OwnTail h veMro bm

structure GxOk (P : Pm) (G : Gx) : Prop where
  glob : ∀ x v, G.glob x = some v → ∃ V, er V = v ∧ (P.mg x = some V ∨ (P.mg x = none ∧ P.mb x = some V))
  fld : ∀ C a, G.fld C a = true → plainGet P.K C a = true ∧ hasDictIn P.K C = true ∧ findIn P.K (.ref C) a = some none ∧
    findIn P.K (.ref C) "__setattr__" = some (some (.builtin "object.__setattr__")) ∧ plainOver P.K C = true ∧ takerIn P.K C a = some none
  meth : ∀ C m f, G.meth C m = some f → plainGet P.K C m = true ∧ findIn P.K (.ref C) m = some (some (.ref f)) ∧ isFn P.K (.ref f) = true
  init : ∀ C f, G.init C = some f → makesIn P.K C = true ∧ findIn P.K (.ref C) "__init__" = some (some (.ref f)) ∧ isFn P.K (.ref f) = true ∧ PySem.W.keepIn P.K (.ref C) = true
  exc : ∀ C, G.isExc C = true → ExcCls P.K C
  sub : ∀ C D, G.isExc C = true → G.isExc D = true → subIn P.K (.ref C) (.ref D) = some (G.sub C D)
  self : ∀ C, G.isExc C = true → G.sub C C = true
  own : ∀ C, G.isExc C = true → OwnObj P.base C

section
variable {P : Pm} {F : Fm} {G : Gx} {l : Loc} {H : Hp} {s : Shared} {E : Value → Shared → Prop} {Q : QV} {A' B' a b : Value}

theorem Inv.kin (Y : PmOk P) (K : FmOk P F) (I : Inv P F l H s) : P.K.In s.heap := Y.kin.keeps fun b o e => I.keep b o (K.base b o e)

end
end Mine
end

section
open PySem PyProof.Rows PySem.Calls
namespace Mine

/-! ## exceptions in flight -/
noncomputable def ExcAt (h : Heap) (e C : Addr) (T : Option Addr) : Prop :=
  ∃ oe vs, h.get? e = some oe ∧ oe.cls = .ref C ∧ oe.data = .fields vs ∧ (oe.dict = none ∧ vs[2]? = some .none) ∧ (match T with
    | none => vs[1]? = some .none
    | some t => vs[1]? = some (.ref t) ∧ t ≠ e ∧ ∃ ot ts, h.get? t = some ot ∧ ot.data = .fields ts ∧ 3 < ts.size)

theorem dict_mapFields (f : Array Value → Array Value) (o : Obj) : (o.mapFields f).dict = o.dict := by
  unfold Obj.mapFields; split <;> rfl

/-- an exception of class C flies; with b: it has its traceback -/
structure Exc (P : Pm) (F : Fm) (H : Hp) (s : Shared) (e C : Addr) (b : Bool) : Prop where
  big : True
  off : Off F H e
  at_ : ∃ T, ExcAt s.heap e C T ∧ (∀ t, T = some t → Off F H t) ∧ (b = true → T.isSome = true)

theorem Exc.weak {P : Pm} {F : Fm} {H : Hp} {s : Shared} {e C : Addr} {b : Bool} (x : Exc P F H s e C b) : Exc P F H s e C false :=
  ⟨x.big, x.off, let ⟨T, h, o, _⟩ := x.at_; ⟨T, h, o, fun q => nomatch q⟩⟩

noncomputable def PostX (P : Pm) (F : Fm) (l : Loc) (X : XV) : Value → Shared → Prop := fun EV s' => ∃ H' e C, EV = .ref e ∧ Inv P F l H' s' ∧ Exc P F H' s' e C false ∧ X C H'

section
variable {P : Pm} {F : Fm} {G : Gx} {l : Loc} {H : Hp} {s : Shared} {E : Value → Shared → Prop}

theorem Inv.slotsOnly (K : FmOk P F) (I : Inv P F l H s) {S : List Addr} {h' : Heap} (hS : ∀ b ∈ S, b = F.env.locals ∨ (F.fr b).isSome = true) (x : Heap.SlotsOnly S s.heap h') : Inv P F l H { s with heap := h' } := by
  have out : ∀ b, b ≠ F.env.locals → F.fr b = none → h'.get? b = s.heap.get? b := fun b h1 h2 => x.2.1 b fun q => (hS b q).elim h1 fun e => by rw [h2] at e; cases e
  refine ⟨I.gens, I.os, fun b o e => ?_, fun b d e => ?_, ?_, fun y c e => ?_, fun a o e => ?_, I.free, I.big⟩
  · refine (out b (fun q => ?_) ?_).trans (I.keep b o e)
    · rw [q, K.lg] at e; cases e
    · cases q : F.fr b with
      | none => rfl
      | some d => rw [(K.fg b d q).1] at e; cases e
  · obtain ⟨o, ho, hd⟩ := I.frk b d e
    obtain ⟨sl, q⟩ := x.2.2 b o ho
    exact ⟨_, q, hd⟩
  · obtain ⟨m, ⟨o, es, ep, ho, hd, r⟩, q⟩ := I.loc
    obtain ⟨sl, q'⟩ := x.2.2 _ o ho
    exact ⟨m, ⟨_, es, ep, q', hd, r⟩, q⟩
  · obtain ⟨vo, ⟨o, ho, hd⟩, q⟩ := I.cel y c e
    obtain ⟨sl, q'⟩ := x.2.2 _ o ho
    exact ⟨vo, ⟨_, q', hd⟩, q⟩
  · exact (I.objs a o e).congr (out a (I.neL K e) (I.frN K e))

theorem frames_fun (K : FmOk P F) (I : Inv P F l H s) (base : Heap) (hb : ∀ b, base.get? b = none) : ∀ {es : List Env}, (∀ e ∈ es, e.scope.kind ≠ .module ∧ ∃ b, e.frame = some b ∧ (b = F.env.locals ∨ (F.fr b).isSome = true)) → s.heap.FunFrames base es
  | [], _ => trivial
  | e :: es, h => by
    obtain ⟨h1, b, h2, h3⟩ := h e (.head _)
    refine ⟨h1, ?_, frames_fun K I base hb fun e he => h e (.tail _ he)⟩
    rcases h3 with rfl | h3
    · obtain ⟨m, ⟨o, es', ep, ho, hd, r⟩, q⟩ := I.loc
      exact ⟨_, o, h2, hb _, ho, fun vs e => by rw [hd] at e; cases e⟩
    · obtain ⟨d, hd⟩ := Option.isSome_iff_exists.mp h3
      obtain ⟨o, ho, e⟩ := I.frk b d hd
      exact ⟨b, o, h2, hb _, ho, fun vs q => (K.fg b d hd).2 vs (e ▸ q)⟩

theorem ExcAt.slots {S : List Addr} {h h' : Heap} {e C : Addr} {T : Option Addr} (x : Heap.SlotsOnly S h h') (a : ExcAt h e C T) : ExcAt h' e C T := by
  obtain ⟨oe, vs, h1, h2, h3, h5, h4⟩ := a
  obtain ⟨sl, q⟩ := x.2.2 _ _ h1
  refine ⟨_, vs, q, h2, h3, h5, ?_⟩
  cases T with
  | none => exact h4
  | some t =>
    obtain ⟨a1, a2, ot, ts, a3, a4, a5⟩ := h4
    obtain ⟨sl', q'⟩ := x.2.2 _ _ a3
    exact ⟨a1, a2, _, ts, q', a4, a5⟩

/-- a new row of the traceback -/
theorem s_entry (K : FmOk P F) (I : Inv P F l H s) (hro : F.ro = false) {e C : Addr} {T : Option Addr} (ha : ExcAt s.heap e C T) (hof : Off F H e) (hb : True) {head : Value} {hadNext : Bool} {Q : Unit → Shared → Prop}
    (h : ∀ s', Inv P F l H s' → Exc P F H s' e C true → Q () s') :
    wpAny P.M F.A (do let a ← frameOf F.env; let pl ← entryPlaceOf F.env.locals hadNext; let b ← EntryCells.newEntry head a .none (rawInt F.env.locals) .none pl; setField (.ref e) 1 b) Q E s := by
  obtain ⟨fenv, outer, hfr, hown, hall⟩ := K.frames
  obtain ⟨rfl, hf⟩ := hown hro
  have ff := frames_fun K I {} (fun b => rfl) hall
  refine wpAny_bind (wpAny_frameOf_fun hfr ff hf fun h₁ hs₁ => ?_)
  have hS : ∀ b ∈ (F.env :: outer).filterMap (·.frame), b = F.env.locals ∨ (F.fr b).isSome = true := fun b hb => by
    obtain ⟨e', he', q⟩ := List.mem_filterMap.mp hb
    obtain ⟨_, b', q', r⟩ := hall e' he'
    rw [q] at q'; cases q'; exact r
  have I₁ := I.slotsOnly K hS hs₁
  have a₁ := ha.slots hs₁
  refine wpAny_bind (wpAny_entryPlaceOf fun pl hpl => ?_)
  unfold EntryCells.newEntry newFields
  refine wpAny_bind (wpAny_newObj_type ?_ (hpl.sizeOk5 _ _ _ _ _))
  obtain ⟨oe, vs, h1, h2, h3, h5, h4⟩ := a₁
  have hsz : 1 < vs.size := by
    cases T with
    | none => exact (Array.getElem?_eq_some_iff.mp h4).1
    | some t => exact (Array.getElem?_eq_some_iff.mp h4.1).1
  generalize hot : ({ cls := .type "traceback", dict := none, data := .fields ([head, .ref F.env.locals, .none, rawInt F.env.locals, .none] ++ (if pl.isEmpty then List.replicate 6 Value.none else pl)).toArray } : Obj) = ot
  have I₂ := I₁.push ot
  have he₂ := Heap.get?_push_of_some (h := h₁) ot h1
  have hof₂ : Off F H h₁.objs.size := I₁.ofSize K
  refine wpAny_setField he₂ h3 hsz (h _ ?_ ?_)
  · refine I₂.step (t := s.toks) fun b o hb hn => ?_
    rw [Heap.get?_update_other _ _ (show e ≠ b from fun q => hn (q ▸ hof))]
    exact hb
  · have hd := Obj.data_mapFields h3 (·.setIfInBounds 1 (Value.ref h₁.objs.size))
    have hne : h₁.objs.size ≠ e := Nat.ne_of_gt (Heap.lt_size h1)
    refine ⟨hb, hof, some h₁.objs.size, ⟨_, _, Heap.get?_update_self _ he₂ (Obj.isFreed_of_fields hd), (Obj.cls_mapFields _ _).trans h2, hd, ⟨(dict_mapFields _ _).trans h5.1, (Array.getElem?_setIfInBounds_ne (by decide)).trans h5.2⟩, by simp [hsz], hne, ot, ([head, .ref F.env.locals, .none, rawInt F.env.locals, .none] ++ (if pl.isEmpty then List.replicate 6 Value.none else pl)).toArray, ?_, ?_, ?_⟩, fun t ht => ?_, fun _ => rfl⟩
    · rw [Heap.get?_update_other _ _ (Ne.symm hne)]
      exact Heap.get?_push_size _ (by rw [← hot]; rfl)
    · rw [← hot]
    · simp only [List.size_toArray, List.length_append, List.length_cons, List.length_nil]; omega
    · cases ht; exact hof₂

theorem s_note (K : FmOk P F) (I : Inv P F l H s) (hro : F.ro = false) {e C : Addr} {b : Bool} (x : Exc P F H s e C b) {Q : Unit → Shared → Prop}
    (h : ∀ s', Inv P F l H s' → Exc P F H s' e C true → Q () s') : wpAny P.M F.A (noteFrame (.ref e) F.env) Q E s := by
  obtain ⟨fenv, outer, hfr, hown, hall⟩ := K.frames
  obtain ⟨_, hf⟩ := hown hro
  obtain ⟨hb, hof, T, ha, ht, _⟩ := x
  have ha' := ha
  obtain ⟨oe, vs, h1, h2, h3, h5, h4⟩ := ha
  unfold noteFrame
  simp only [hf]
  cases T with
  | none =>
    refine wpAny_bind (wpAny_field h1 h3 h4 ?_)
    rw [if_neg (by decide)]
    exact s_entry K I hro ha' hof hb h
  | some t =>
    obtain ⟨a1, a2, ot, ts, a3, a4, a5⟩ := h4
    refine wpAny_bind (wpAny_field h1 h3 a1 ?_)
    rw [if_pos (show (Value.ref t != Value.none) = true from by simp)]
    refine wpAny_bind (wpAny_field a3 a4 (Array.getElem?_eq_getElem a5) ?_)
    split
    · exact wpAny_pure (h s I ⟨hb, hof, some t, ha', ht, fun _ => rfl⟩)
    · refine wpAny_bind (wpAny_setField a3 a4 a5 ?_)
      have hoft := ht t rfl
      have other : ∀ c, c ≠ t → (s.heap.update t (Obj.mapFields (·.setIfInBounds 3 Value.none))).get? c = s.heap.get? c := fun c hc => Heap.get?_update_other _ _ (Ne.symm hc)
      have I₁ : Inv P F l H { s with heap := s.heap.update t (Obj.mapFields (·.setIfInBounds 3 Value.none)) } := I.step (t := s.toks) fun c o hc hn => (other c fun q => hn (q ▸ hoft)).trans hc
      have hd := Obj.data_mapFields a4 (·.setIfInBounds 3 Value.none)
      refine s_entry K I₁ hro (T := some t) ⟨oe, vs, (other e (Ne.symm a2)).trans h1, h2, h3, h5, a1, a2, _, _, Heap.get?_update_self _ a3 (Obj.isFreed_of_fields hd), hd, by simpa using a5⟩ hof hb h

theorem s_flight (I : Inv P F l H s) {e C : Addr} {b : Bool} (x : Exc P F H s e C b) {fo : Option Addr} {Q : Unit → Shared → Prop}
    (h : ∀ s', Inv P F l H s' → Exc P F H s' e C b → Q () s') : wpAny P.M F.A (setFlight (.ref e) fo) Q E s := by
  obtain ⟨hb, hof, T, ha, ht, hbt⟩ := x
  have ha' := ha
  obtain ⟨oe, vs, h1, h2, h3, h5, h4⟩ := ha
  unfold setFlight
  cases T with
  | none =>
    refine wpAny_bind (wpAny_field h1 h3 h4 ?_)
    rw [if_neg (by decide)]
    exact wpAny_pure (h s I ⟨hb, hof, none, ha', ht, hbt⟩)
  | some t =>
    obtain ⟨a1, a2, ot, ts, a3, a4, a5⟩ := h4
    refine wpAny_bind (wpAny_field h1 h3 a1 ?_)
    rw [if_pos (show (Value.ref t != Value.none) = true from by simp)]
    have hoft := ht t rfl
    have other : ∀ f c, c ≠ t → (s.heap.update t f).get? c = s.heap.get? c := fun f c hc => Heap.get?_update_other _ _ (Ne.symm hc)
    have hd := Obj.data_mapFields a4 (·.setIfInBounds 3 (fo.elim Value.none fun f => rawInt f))
    refine wpAny_setField a3 a4 a5 (h _ (I.step (t := s.toks) fun c o hc hn => (other _ c fun q => hn (q ▸ hoft)).trans hc) ⟨hb, hof, some t, ⟨oe, vs, (other _ e (Ne.symm a2)).trans h1, h2, h3, h5, a1, a2, _, _, Heap.get?_update_self _ a3 (Obj.isFreed_of_fields hd), hd, by simpa using a5⟩, ht, hbt⟩)

theorem s_leaving (K : FmOk P F) (I : Inv P F l H s) (hro : F.ro = false) {e C : Addr} {b : Bool} (x : Exc P F H s e C b) {Q : Unit → Shared → Prop}
    (h : ∀ s', Inv P F l H s' → Exc P F H s' e C true → Q () s') : wpAny P.M F.A (leaving F.env (.ref e)) Q E s := by
  unfold leaving
  exact wpAny_bind (s_note K I hro x fun s' I' x' => s_flight I' x' h)

theorem s_cameBack (I : Inv P F l H s) {e C : Addr} (x : Exc P F H s e C true) (h : ∀ s', Inv P F l H s' → Exc P F H s' e C true → E (.ref e) s') : cameBackBy P.M F.A F.env E (.ref e) s := by
  obtain ⟨hb, hof, T, ha, ht, hbt⟩ := x
  have ha' := ha
  obtain ⟨oe, vs, h1, h2, h3, h5, h4⟩ := ha
  unfold cameBackBy
  cases T with
  | none => simp at hbt
  | some t =>
    obtain ⟨a1, a2, r⟩ := h4
    refine wpAny_bind (wpAny_field h1 h3 a1 ?_)
    rw [if_neg (by simp)]
    exact s_flight I ⟨hb, hof, some t, ha', ht, fun _ => rfl⟩ h
end
end Mine
end

section
open PySem PyProof.Rows PySem.Calls
namespace Mine

/-! ## from the text to the small language -/
noncomputable def isLoc (sc : Scope) (x : Str) : Option Bool :=
  match sc.names.lookup x with
  | some .local | some .cell | some .free => if x == ("__classdict__" : Str) || x == ("__debug__" : Str) then none else some true
  | some .globalImplicit => if x == ("__debug__" : Str) then none else some false
  | _ => none

noncomputable def notSuper : Expr → Bool
  | .Call (.Name id _) _ _ _ => id != ("super" : Str)
  | _ => true

/-- the built-ins that the small language knows by name -/
noncomputable def bltL : List (Str × Value) := [("len", .builtin "len"), ("isinstance", .builtin "isinstance"), ("list", .type "list"), ("tuple", .type "tuple"), ("sorted", .builtin "sorted"), ("dict", .type "dict"), ("int", .type "int"), ("all", .builtin "all"), ("max", .builtin "max"), ("min", .builtin "min"), ("range", .type "range"), ("str", .type "str"), ("bool", .type "bool"), ("ValueError", .type "ValueError"), ("set", .type "set")]
noncomputable def bltTab (x : Str) : Option Value := bltL.lookup x

/-- a comprehension's own block -/
noncomputable def compFine (sc scope : Scope) (x : Str) : Bool :=
  scope.kind == .function && (scope.names.map (·.1)).Nodup && scope.names.all (fun y => y.2 != .cell && (y.2 != .local || y.1 == x || y.1 == (".0" : Str)) && (y.2 != .free || sc.names.lookup y.1 == some .cell)) && scope.names.lookup x == some .local

end Mine
end

section
open PySem PyProof.Rows PySem.Calls
namespace Mine

noncomputable def Room (n : Nat) (A : Around) : Prop := A.depth + 2 * n + 2 < recursionLimit ∧ A.units + 30 * n + 200 < cLine
/-- room for a call itself -/
noncomputable def RoomC (n : Nat) (A : Around) : Prop := A.depth + 2 * n + 1 < recursionLimit ∧ A.units + 30 * n + 190 < cLine
theorem Room.c {n : Nat} {A : Around} (R : Room n A) : RoomC n A := ⟨by have := R.1; omega, by have := R.2; omega⟩
/-- the exception that is handled, if one is, stays and has no context -/
noncomputable def HdK (F : Fm) : Prop := F.A.handled = none ∨ ∃ e o vs, F.A.handled = some (.ref e) ∧ F.g e = some o ∧ o.data = .fields vs ∧ vs[2]? = some Value.none
noncomputable def HmOk (hm : Bool) (F : Fm) : Prop := HdK F ∧ (hm = false → F.A.handled = none)

/-- a call's end -/
noncomputable def PostC (P : Pm) (F : Fm) (l : Loc) (Q : QV) (X : XV) : Result → Shared → Prop := fun r s' => match r with
  | .ok (.ret V) => PostE P F l Q V s'
  | .ok _ => False
  | .error EV => PostX P F l X EV s'

structure SndFn (P : Pm) (G : Gx) (n : Nat) : Prop where
  keep : ∀ {f hm args H Q X}, G.fn f hm args H Q X → PySem.W.keepIn P.K (.ref f) = true
  run : ∀ {f hm args H Q X}, G.fn f hm args H Q X → ∀ {F l s vals}, FmOk P F → RoomC n F.A → HmOk hm F → Inv P F l H s → vals.map er = args →
    codeAny P.M F.A (.call (.ref f) ⟨vals, []⟩) (PostC P F l Q X) s

structure BltOk (P : Pm) : Prop where
  blt : ∀ x v, bltTab x = some v → P.mg x = none ∧ P.mb x = some v

/-- the names of a block, as the env knows them -/
structure ScOk (sc : Scope) (F : Fm) : Prop where
  loc : ∀ x, isLoc sc x = some true → Own F.env x
  glob : ∀ x, isLoc sc x = some false → F.env.kindOf x = some .globalImplicit
  locl : ∀ x, sc.names.lookup x = some .local → F.env.kindOf x = some .local
  cell : ∀ x, sc.names.lookup x = some .cell → F.env.kindOf x = some .cell ∧ ∃ c, F.env.cells.lookup x = some c

section
variable {P : Pm} {F : Fm} {G : Gx} {n : Nat} {hm : Bool} {l : Loc} {H : Hp} {s : Shared}

theorem isLoc_true {sc : Scope} {x : Str} (h : isLoc sc x = some true) : (x == ("__debug__" : Str)) = false ∧ (x == ("__classdict__" : Str)) = false := by
  unfold isLoc at h
  split at h <;> first | (split at h <;> simp_all) | simp_all
theorem isLoc_false {sc : Scope} {x : Str} (h : isLoc sc x = some false) : (x == ("__debug__" : Str)) = false := by
  unfold isLoc at h
  split at h <;> first | (split at h <;> simp_all) | simp_all

/-- an expression keeps what its wp says -/
noncomputable def SE (P : Pm) (G : Gx) (n : Nat) (hm : Bool) (sc : Scope) (e : Expr) (e' : Ex) : Prop :=
  ∀ ⦃F : Fm⦄ ⦃l : Loc⦄, FmOk P F → ScOk sc F → Room n F.A → HmOk hm F → ∀ {H : Hp} {s : Shared} {Q : QV} {X : XV}, Inv P F l H s → wpE G hm e' l H Q X → wpAny P.M F.A (eval e F.env) (PostE P F l Q) (PostX P F l X) s
noncomputable def SEs (P : Pm) (G : Gx) (n : Nat) (hm : Bool) (sc : Scope) (es : List Expr) (es' : List Ex) : Prop :=
  ∀ ⦃F : Fm⦄ ⦃l : Loc⦄, FmOk P F → ScOk sc F → Room n F.A → HmOk hm F → ∀ {H : Hp} {s : Shared} {Q : List Value → Hp → Prop} {X : XV} {pos : Pos}, Inv P F l H s → wpEs G hm es' l H Q X →
    wpAny P.M F.A (spliced (backTo pos (starEach es F.env))) (fun Vs s' => ∃ H', Inv P F l H' s' ∧ Q (Vs.map er) H') (PostX P F l X) s
noncomputable def ST (P : Pm) (G : Gx) (n : Nat) (hm : Bool) (sc : Scope) (e : Expr) (e' : Ex) : Prop :=
  ∀ ⦃F : Fm⦄ ⦃l : Loc⦄, FmOk P F → ScOk sc F → Room n F.A → HmOk hm F → ∀ {H : Hp} {s : Shared} {k : Bool → Hp → Prop} {X : XV}, Inv P F l H s → wpE G hm e' l H (fun v H' => truthV v fun b => k b H') X →
    wpAny P.M F.A (isTrue e F.env (eval e F.env)) (fun b s' => ∃ H', Inv P F l H' s' ∧ k b H') (PostX P F l X) s

theorem truth_of {V : Value} {k : Bool → Prop} (h : truthV (er V) k) : ∃ b, V = .bool b ∧ k b := by
  unfold truthV at h
  split at h
  · rename_i b e; exact ⟨b, er_bool e, h⟩
  · exact h.elim

theorem SE.test {sc : Scope} {e : Expr} {e' : Ex} (h : SE P G n hm sc e e') (he : ∀ env whole, isTrue e env whole = (do let v ← whole; standAt e.pos; holding [v] (truthy v))) : ST P G n hm sc e e' := by
  intro F l K S R HM H s k X I q
  rw [he]
  refine wpAny_bind (wpAny_mono (h K S R HM I q) (fun V s' z => ?_) fun _ _ z => z)
  obtain ⟨H', I', z⟩ := z
  obtain ⟨b, rfl, z⟩ := truth_of z
  exact wpAny_bind (wpAny_standAt (wpAny_holding (wpAny_truthy_bool ⟨H', I', z⟩)))

theorem se_none {sc : Scope} {kk : Nat} {pos : Pos} : SE P G n hm sc (.Constant .none kk pos) .none := fun F l K S R HM H s Q X I q => wpAny_pure ⟨H, I, q⟩
theorem se_bool {sc : Scope} {b : Bool} {kk : Nat} {pos : Pos} : SE P G n hm sc (.Constant (.bool b) kk pos) (.bool b) := fun F l K S R HM H s Q X I q => wpAny_pure ⟨H, I, q⟩
theorem se_int {sc : Scope} {i : Int} {kk : Nat} {pos : Pos} : SE P G n hm sc (.Constant (.int i) kk pos) (.int i) := fun F l K S R HM H s Q X I q => wpAny_Constant_int ⟨H, I.toks _, q⟩
theorem se_str {sc : Scope} {x : Str} {kk : Nat} {pos : Pos} : SE P G n hm sc (.Constant (.str x) kk pos) (.str x) := fun F l K S R HM H s Q X I q => wpAny_Constant_str ⟨H, I.toks _, q⟩
theorem se_loc {sc : Scope} {x : Str} {pos : Pos} (hl : isLoc sc x = some true) : SE P G n hm sc (.Name x pos) (.loc x) := by
  intro F l K S R HM H s Q X I q
  have q : onSome (l x) (fun v => Q v H) := q
  cases hv : l x with
  | none => rw [hv] at q; exact (q : False).elim
  | some v => rw [hv] at q; exact ld_loc K I hv (S.loc x hl) (isLoc_true hl).1 (isLoc_true hl).2 fun V e => ⟨H, I, e ▸ q⟩
theorem se_glob (Y : PmOk P) (GO : GxOk P G) {sc : Scope} {x : Str} {pos : Pos} (hl : isLoc sc x = some false) : SE P G n hm sc (.Name x pos) (.glob x) := by
  intro F l K S R HM H s Q X I q
  have q : onSome (G.glob x) (fun v => Q v H) := q
  cases hv : G.glob x with
  | none => rw [hv] at q; exact (q : False).elim
  | some v =>
    rw [hv] at q
    obtain ⟨V, rfl, hV⟩ := GO.glob x v hv
    exact ld_glob Y K I hV (S.glob x hl) (isLoc_false hl) ⟨H, I, q⟩

theorem se_bin {sc : Scope} {x y : Expr} {x' y' : Ex} {op : Operator} {pos : Pos} (hx : SE P G n hm sc x x') (hy : SE P G n hm sc y y') : SE P G n hm sc (.BinOp x op y pos) (.bin op x' y') := by
  intro F l K S R HM H s Q X I q
  conv at q => whnf
  refine wpAny_BinOp (wpAny_mono (hx K S R HM I q) (fun V s' z => ?_) fun _ _ z => z)
  obtain ⟨H', I', z⟩ := z
  refine wpAny_mono (hy K S R HM I' z) (fun V' s'' z => ?_) fun _ _ z => z
  obtain ⟨H'', I'', z⟩ := z
  exact s_bin K I'' op rfl rfl z

theorem se_not {sc : Scope} {x : Expr} {x' : Ex} {pos : Pos} (hx : SE P G n hm sc x x') : SE P G n hm sc (.UnaryOp .Not x pos) (.not x') := by
  intro F l K S R HM H s Q X I q
  conv at q => whnf
  show wpAny P.M F.A (do let v ← eval x F.env; standAt pos; holding [v] (unaryOp .Not v)) _ _ s
  refine wpAny_bind (wpAny_mono (hx K S R HM I q) (fun V s' z => ?_) fun _ _ z => z)
  obtain ⟨H', I', z⟩ := z
  obtain ⟨b, rfl, z⟩ := truth_of z
  refine wpAny_bind (wpAny_standAt (wpAny_holding ?_))
  exact not_of (wpAny_truthy_bool ⟨H', I', z⟩)

theorem st_not {sc : Scope} {x : Expr} {x' : Ex} {pos : Pos} (hx : ST P G n hm sc x x') : ST P G n hm sc (.UnaryOp .Not x pos) (.not x') := by
  intro F l K S R HM H s k X I q
  conv at q => whnf
  show wpAny P.M F.A (do return !(← isTrue x F.env (eval x F.env))) _ _ s
  exact wpAny_bind (wpAny_mono (hx K S R HM I q) (fun V s' z => wpAny_pure z) fun _ _ z => z)

theorem se_cmp (Y : PmOk P) {sc : Scope} {x y : Expr} {x' y' : Ex} {op : CmpOp} {pos : Pos} (hx : SE P G n hm sc x x') (hy : SE P G n hm sc y y') (hb : behindInMarks op y = false) : SE P G n hm sc (.Compare x [op] [y] pos) (.cmp x' op y') := by
  intro F l K S R HM H s Q X I q
  conv at q => whnf
  refine wpAny_Compare1 (wpAny_mono (hx K S R HM I q) (fun V s' z => ?_) fun _ _ z => z) hb
  obtain ⟨H', I', z⟩ := z
  refine wpAny_mono (hy K S R HM I' z) (fun V' s'' z => ?_) fun _ _ z => z
  obtain ⟨H'', I'', z⟩ := z
  exact s_cmp Y I'' (by have := R.2; omega) op rfl rfl z

theorem st_cmp (Y : PmOk P) {sc : Scope} {x y : Expr} {x' y' : Ex} {op : CmpOp} {pos : Pos} (hx : SE P G n hm sc x x') (hy : SE P G n hm sc y y') (hb : behindInMarks op y = false) : ST P G n hm sc (.Compare x [op] [y] pos) (.cmp x' op y') := by
  intro F l K S R HM H s k X I q
  conv at q => whnf
  refine wpAny_isTrue_Compare1 (wpAny_mono (hx K S R HM I q) (fun V s' z => ?_) fun _ _ z => z) hb
  obtain ⟨H', I', z⟩ := z
  refine wpAny_mono (hy K S R HM I' z) (fun V' s'' z => ?_) fun _ _ z => z
  obtain ⟨H'', I'', z⟩ := z
  refine wpAny_mono (s_cmp Y I'' (by have := R.2; omega) op rfl rfl z) (fun V s' z => ?_) fun _ _ z => z
  obtain ⟨H', I', z⟩ := z
  obtain ⟨b, rfl, z⟩ := truth_of z
  exact wpAny_truthy_bool ⟨H', I', z⟩

theorem st_cmp2 (Y : PmOk P) {sc : Scope} {x y z : Expr} {x' y' z' : Ex} {op op2 : CmpOp} {pos : Pos} (hx : SE P G n hm sc x x') (hy : SE P G n hm sc y y') (hz : SE P G n hm sc z z') (hb : behindInMarks op2 z = false) :
    ST P G n hm sc (.Compare x [op, op2] [y, z] pos) (.cmp2 x' op y' op2 z') := by
  intro F l K S R HM H s k X I q
  conv at q => whnf
  refine isTrue_chain (wpAny_mono (hx K S R HM I q) (fun V s' q => ?_) fun _ _ z => z) hb
  obtain ⟨H1, I1, q⟩ := q
  unfold testChain
  refine wpAny_bind (wpAny_holding (wpAny_mono (hy K S R HM I1 q) (fun V2 s2 q => ?_) fun _ _ z => z))
  obtain ⟨H2, I2, q⟩ := q
  refine wpAny_bind (wpAny_standAt (wpAny_bind (wpAny_holding (wpAny_mono (s_cmp Y I2 (by have := R.2; omega) op rfl rfl q) (fun V3 s3 q => ?_) fun _ _ z => z))))
  obtain ⟨H3, I3, q⟩ := q
  obtain ⟨b, rfl, q⟩ := truth_of q
  refine wpAny_bind (wpAny_release' (wpAny_bind (wpAny_holding (wpAny_truthy_bool ?_))))
  cases b with
  | false =>
    simp only [Bool.false_eq_true, if_false] at q ⊢
    exact wpAny_pure ⟨H3, I3, q⟩
  | true =>
    simp only [if_true] at q ⊢
    unfold testChain
    refine wpAny_bind (wpAny_holding (wpAny_mono (hz K S R HM I3 q) (fun V4 s4 q => ?_) fun _ _ z => z))
    obtain ⟨H4, I4, q⟩ := q
    refine wpAny_bind (wpAny_standAt (wpAny_bind (wpAny_operate' (wpAny_mono (s_cmp Y I4 (by have := R.2; omega) op2 rfl rfl q) (fun V5 s5 q => ?_) fun _ _ z => z))))
    obtain ⟨H5, I5, q⟩ := q
    obtain ⟨b, rfl, q⟩ := truth_of q
    exact wpAny_holding (wpAny_truthy_bool ⟨H5, I5, q⟩)

theorem idx_type {Q : QV} {V k : Value} (I : Inv P F l H s) (q : idxV (er V) k H Q) : ∃ T id, s.TypeIs V T ∧ typeLookup (.type T) (Str.ofString "__getitem__") = pure (some (.builtin id)) := by
  unfold idxV at q
  split at q
  · rename_i a _ _ e; have := er_ref e; subst this
    split at q
    · rename_i hx; obtain ⟨vs, hl, _⟩ := I.objs _ _ hx; exact ⟨_, _, hl.typeIs, slot_list_getitem.lookup⟩
    · rename_i hx; obtain ⟨vs, hl, _⟩ := I.objs _ _ hx; exact ⟨_, _, hl.typeIs, slot_list_getitem.lookup⟩
    · rename_i hx; obtain ⟨vs, ⟨o, ho, hc, _⟩, _⟩ := I.objs _ _ hx; exact ⟨"tuple", _, ⟨o, ho, hc⟩, slot_tuple_getitem.lookup⟩
    · rename_i hx; obtain ⟨vs, hl, _⟩ := I.objs _ _ hx; exact ⟨_, _, hl.mapOf.typeIs, slot_dict_getitem.lookup⟩
    · exact q.elim
  · rename_i a _ _ e; have := er_ref e; subst this
    split at q
    · rename_i hx; obtain ⟨vs, hl, _⟩ := I.objs _ _ hx; exact ⟨_, _, hl.mapOf.typeIs, slot_dict_getitem.lookup⟩
    · exact q.elim
  · rename_i x _ _ _ e; obtain ⟨_, rfl⟩ := er_str e
    exact ⟨"str", _, rfl, PySem.F.slot_str_getitem.lookup⟩
  · exact q.elim

theorem se_idx {sc : Scope} {x y : Expr} {x' y' : Ex} {pos : Pos} (hx : SE P G n hm sc x x') (hy : SE P G n hm sc y y') (hsl : ∀ o i, subscripted y false o i = operate [o, i] (getItem o i)) : SE P G n hm sc (.Subscript x y pos) (.idx x' y') := by
  intro F l K S R HM H s Q X I q
  conv at q => whnf
  refine Subscript_ (wpAny_mono (hx K S R HM I q) (fun V s' q => ?_) fun _ _ z => z)
  obtain ⟨H1, I1, q⟩ := q
  refine wpAny_mono (hy K S R HM I1 q) (fun V2 s2 q => ?_) fun _ _ z => z
  obtain ⟨H2, I2, q⟩ := q
  obtain ⟨T, id, h1, h2⟩ := idx_type I2 q
  exact tail_any h1 h2 (s_idx I2 rfl rfl q) (hsl _ _)

noncomputable def SO (P : Pm) (G : Gx) (n : Nat) (hm : Bool) (sc : Scope) (e : Option Expr) (e' : Option Ex) : Prop :=
  ∀ ⦃F : Fm⦄ ⦃l : Loc⦄, FmOk P F → ScOk sc F → Room n F.A → HmOk hm F → ∀ {H : Hp} {s : Shared} {Q : QV} {X : XV}, Inv P F l H s → wpO G hm e' l H Q X → wpAny P.M F.A (evalPart e F.env) (PostE P F l Q) (PostX P F l X) s
theorem so_none {sc : Scope} : SO P G n hm sc none none := by
  intro F l K S R HM H s Q X I q
  simp only [wpO] at q
  exact wpAny_evalPart_none ⟨H, I, q⟩
theorem so_some {sc : Scope} {e : Expr} {e' : Ex} (h : SE P G n hm sc e e') : SO P G n hm sc (some e) (some e') := by
  intro F l K S R HM H s Q X I q
  simp only [wpO] at q
  exact wpAny_evalPart_some (h K S R HM I q)

theorem s_slice (K : FmOk P F) (I : Inv P F l H s) {E : Value → Shared → Prop} {Q : QV} {o lo hi : Value} {A' L' U' : Value} {sl : Addr} (hs : s.heap.IsSliceOf sl L' U' .none) (ha : er A' = o) (hl : er L' = lo) (hu : er U' = hi) (h : sliceV o lo hi H Q) :
    wpAny P.M F.A (getItem A' (.ref sl)) (PostE P F l Q) E s := by
  unfold sliceV at h
  split at h
  · rename_i a b ea eb
    have pa := partOf_er (V := L') (by rw [hl]; exact ea)
    have pb := partOf_er (V := U') (by rw [hu]; exact eb)
    split at h
    · rename_i x; have := er_ref ha; subst this
      split at h
      · rename_i xs hx
        obtain ⟨vs, hL, rfl, z⟩ := I.objs _ _ hx
        simp only [List.length_map, Array.length_toList] at h z
        refine wpAny_getItem_list_slice hL hs pa pb .none (by simp) ⟨_, I.alloc K (t := s.toks) (mt_list ⟨0, Heap.get?_push_size _ rfl⟩ ?_), ?_⟩ h.1
        · have h1 := pySlice_len vs.toList a b
          have h2 : slicePick vs a b none = (pySlice vs.toList a b).toArray := by
            unfold slicePick
            rw [← slicePick_eq]
            simp only [Array.getElem?_toList, Array.length_toList]
          rw [h2]
          simp only [Array.length_toList] at h1
          simp; omega
        · have h2 : slicePick vs a b none = (pySlice vs.toList a b).toArray := by
            unfold slicePick
            rw [← slicePick_eq]
            simp only [Array.getElem?_toList, Array.length_toList]
          have := h.2 _ I.fresh
          rw [pySlice_map] at this
          rw [h2]
          exact this
      · rename_i xs hx
        obtain ⟨vs, hL, rfl, z⟩ := I.objs _ _ hx
        simp only [List.length_map, Array.length_toList] at h z
        refine wpAny_getItem_list_slice hL hs pa pb .none (by simp) ⟨_, I.alloc K (t := s.toks) (mt_list ⟨0, Heap.get?_push_size _ rfl⟩ ?_), ?_⟩ h.1
        · have h1 := pySlice_len vs.toList a b
          have h2 : slicePick vs a b none = (pySlice vs.toList a b).toArray := by
            unfold slicePick
            rw [← slicePick_eq]
            simp only [Array.getElem?_toList, Array.length_toList]
          rw [h2]
          simp only [Array.length_toList] at h1
          simp; omega
        · have h2 : slicePick vs a b none = (pySlice vs.toList a b).toArray := by
            unfold slicePick
            rw [← slicePick_eq]
            simp only [Array.getElem?_toList, Array.length_toList]
          have := h.2 _ I.fresh
          rw [pySlice_map] at this
          rw [h2]
          exact this
      · exact h.elim
    · rename_i x _; obtain ⟨t, rfl⟩ := er_str ha
      have hp : ∀ {V : Value} {i : Option Int}, IsPart V i → ∃ l', partValue l' = V ∧ l'.map (·.1) = i := by
        intro V i hV
        cases hV with
        | none => exact ⟨none, rfl, rfl⟩
        | int i t => exact ⟨some (i, t), rfl, rfl⟩
      obtain ⟨l', e1, h2⟩ := hp pa
      obtain ⟨u', e2, h3⟩ := hp pb
      obtain ⟨o, o1, o2, o3⟩ := hs
      refine wpAny_getItem_str_slice (l := l') (u := u') (st := none) ⟨o, o1, o2, by rw [o3, e1, e2]; rfl⟩ rfl ?_
      have hlen : x.cps.toList.length = x.length := by simp [Str.length]
      have idx : slicePicked x l' u' none = (List.range (hiAt x.length b - loAt x.length a)).map fun k => loAt x.length a + k := by
        unfold slicePicked
        rw [h2, h3, ← sliceIdx]
        rfl
      have pk : (slicePicked x l' u' none).filterMap (x.cps[·]?) = pySlice x.cps.toList a b := by
        rw [← slicePick_eq, sliceIdx, hlen, idx]
        simp only [Array.getElem?_toList]
      have q := h.2
      unfold sliceMade
      split
      · rename_i hc
        have hc : (slicePicked x l' u' none).length = x.length := by simpa using hc
        rw [idx] at hc
        simp only [List.length_map, List.length_range] at hc
        have w := pySlice_whole x.cps.toList a b (by rw [hlen]; exact hc)
        rw [w] at q
        exact ⟨H, I, q⟩
      · rw [pk]
        refine ⟨?_, H, I.toks _, q⟩
        have := pySlice_len x.cps.toList a b
        have h1 := h.1
        rw [hlen] at this
        show (pySlice x.cps.toList a b).toArray.size ≤ sizeLine
        simp only [List.size_toArray]
        omega
    · exact h.elim
  · exact h.elim

theorem slice_type {Q : QV} {V a b : Value} (I : Inv P F l H s) (q : sliceV (er V) a b H Q) : ∃ T id, s.TypeIs V T ∧ typeLookup (.type T) (Str.ofString "__getitem__") = pure (some (.builtin id)) := by
  unfold sliceV at q
  split at q
  · split at q
    · rename_i e; have := er_ref e; subst this
      split at q
      · rename_i hx; obtain ⟨vs, hl, _⟩ := I.objs _ _ hx; exact ⟨_, _, hl.typeIs, slot_list_getitem.lookup⟩
      · rename_i hx; obtain ⟨vs, hl, _⟩ := I.objs _ _ hx; exact ⟨_, _, hl.typeIs, slot_list_getitem.lookup⟩
      · exact q.elim
    · rename_i e; obtain ⟨_, rfl⟩ := er_str e
      exact ⟨"str", _, rfl, PySem.F.slot_str_getitem.lookup⟩
    · exact q.elim
  · exact q.elim

theorem se_slice {sc : Scope} {x : Expr} {x' : Ex} {lo hi : Option Expr} {lo' hi' : Option Ex} {p pos : Pos} (hx : SE P G n hm sc x x') (hl : SO P G n hm sc lo lo') (hh : SO P G n hm sc hi hi') :
    SE P G n hm sc (.Subscript x (.Slice lo hi none p) pos) (.slice x' lo' hi') := by
  intro F l K S R HM H s Q X I q
  conv at q => whnf
  refine Subscript_ (wpAny_mono (hx K S R HM I q) (fun V s' q => ?_) fun _ _ z => z)
  obtain ⟨H1, I1, q⟩ := q
  refine wpAny_Slice (wpAny_mono (hl K S R HM I1 q) (fun V2 s2 q => ?_) fun _ _ z => z)
  obtain ⟨H2, I2, q⟩ := q
  refine wpAny_mono (hh K S R HM I2 q) (fun V3 s3 q => ?_) fun _ _ z => z
  obtain ⟨H3, I3, q⟩ := q
  refine wpAny_evalPart_none ?_
  have I4 := I3.push { cls := .type "slice", data := .fields #[V2, V3, .none] }
  have ty := slice_type I4 q
  obtain ⟨T, id, h1, h2⟩ := ty
  exact tail_any h1 h2 (s_slice K I4 (Heap.IsSliceOf.new _ _ _ _) rfl rfl rfl q) rfl

end
end Mine
end

section
open PySem PyProof.Rows PySem.Calls
namespace Mine

section
variable {P : Pm} {F : Fm} {G : Gx} {n : Nat} {hm : Bool} {l : Loc} {H : Hp} {s : Shared}

noncomputable def notStar : Expr → Bool
  | .Starred .. => false
  | _ => true
theorem star_cons {e : Expr} {es : List Expr} {env : Env} (h : notStar e = true) : starEach (e :: es) env = (false, eval e env) :: starEach es env := by
  cases e <;> first | rfl | cases h

theorem ses_nil {sc : Scope} : SEs P G n hm sc [] [] := by
  intro F l K S R HM H s Q X pos I q
  conv at q => whnf
  exact spliced_nil ⟨H, I, q⟩
theorem ses_cons {sc : Scope} {e : Expr} {e' : Ex} {es : List Expr} {es' : List Ex} (hn : notStar e = true) (h : SE P G n hm sc e e') (r : SEs P G n hm sc es es') : SEs P G n hm sc (e :: es) (e' :: es') := by
  intro F l K S R HM H s Q X pos I q
  conv at q => whnf
  rw [star_cons hn]
  refine spliced_cons (wpAny_mono (h K S R HM I q) (fun V s' q => ?_) fun _ _ z => z)
  obtain ⟨H1, I1, q⟩ := q
  exact wpAny_mono (r K S R HM I1 q) (fun Vs s'' z => z) fun _ _ z => z

/-- the values of a bool op -/
noncomputable def SBs (P : Pm) (G : Gx) (n : Nat) (hm : Bool) (sc : Scope) (es : List Expr) (es' : List Ex) : Prop :=
  ∀ ⦃F : Fm⦄ ⦃l : Loc⦄, FmOk P F → ScOk sc F → Room n F.A → HmOk hm F → ∀ {H : Hp} {s : Shared} {Q : QV} {X : XV} {pos : Pos} {op : BoolOp}, es ≠ [] → Inv P F l H s → wpB G hm (op == .And) es' l H Q X →
    wpAny P.M F.A (boolOp pos op (evalEach es F.env)) (PostE P F l Q) (PostX P F l X) s
noncomputable def STs (P : Pm) (G : Gx) (n : Nat) (hm : Bool) (sc : Scope) (es : List Expr) (es' : List Ex) : Prop :=
  ∀ ⦃F : Fm⦄ ⦃l : Loc⦄, FmOk P F → ScOk sc F → Room n F.A → HmOk hm F → ∀ {H : Hp} {s : Shared} {k : Bool → Hp → Prop} {X : XV} {op : BoolOp}, Inv P F l H s → wpB G hm (op == .And) es' l H (fun v H' => truthV v fun b => k b H') X →
    wpAny P.M F.A (allTrue op es F.env) (fun b s' => ∃ H', Inv P F l H' s' ∧ k b H') (PostX P F l X) s

theorem sbs_one {sc : Scope} {e : Expr} {e' : Ex} (h : SE P G n hm sc e e') : SBs P G n hm sc [e] [e'] := by
  intro F l K S R HM H s Q X pos op _ I q
  simp only [wpB] at q
  refine wpAny_mono (h K S R HM I q) (fun V s' q => ?_) fun _ _ z => z
  obtain ⟨H1, I1, q⟩ := q
  obtain ⟨b, hb, q2⟩ := truth_of q
  subst hb
  refine ⟨H1, I1, ?_⟩
  split at q2 <;> exact q2
theorem sbs_cons {sc : Scope} {e : Expr} {e' : Ex} {e2 : Expr} {es : List Expr} {e2' : Ex} {es' : List Ex} (h : SE P G n hm sc e e') (r : SBs P G n hm sc (e2 :: es) (e2' :: es')) : SBs P G n hm sc (e :: e2 :: es) (e' :: e2' :: es') := by
  intro F l K S R HM H s Q X pos op _ I q
  rw [wpB] at q
  show wpAny P.M F.A (boolOp pos op (eval e F.env :: eval e2 F.env :: evalEach es F.env)) _ _ s
  unfold boolOp
  refine wpAny_bind (wpAny_mono (h K S R HM I q) (fun V s' q => ?_) fun _ _ z => z)
  obtain ⟨H1, I1, q⟩ := q
  obtain ⟨b, hb, q2⟩ := truth_of q
  subst hb
  refine wpAny_bind (wpAny_standAt (wpAny_bind (wpAny_holding (wpAny_truthy_bool ?_))))
  cases op <;> cases b
  · exact wpAny_pure ⟨H1, I1, q2⟩
  · exact r K S R HM (by simp) I1 q2
  · exact r K S R HM (by simp) I1 q2
  · exact wpAny_pure ⟨H1, I1, q2⟩

theorem sts_nil {sc : Scope} : STs P G n hm sc [] [] := by
  intro F l K S R HM H s k X op I q
  simp only [wpB, truthV] at q
  exact wpAny_pure ⟨H, I, q⟩
theorem sts_cons {sc : Scope} {e : Expr} {e' : Ex} {es : List Expr} {es' : List Ex} (hl : es' = [] → es = []) (h : ST P G n hm sc e e') (r : STs P G n hm sc es es') : STs P G n hm sc (e :: es) (e' :: es') := by
  intro F l K S R HM H s k X op I q
  rw [wpB] at q
  show wpAny P.M F.A (do match op, ← isTrue e F.env (eval e F.env) with | .And, false => pure false | .Or, true => pure true | _, _ => allTrue op es F.env) _ _ s
  refine wpAny_bind (wpAny_mono (h K S R HM I q) (fun b s' q => ?_) fun _ _ z => z)
  obtain ⟨H1, I1, q⟩ := q
  cases op <;> cases b <;> simp only [beq_self_eq_true, if_true, show ((BoolOp.Or == BoolOp.And) = false) from rfl, Bool.false_eq_true, if_false, reduceCtorEq] at q ⊢
  · exact wpAny_pure ⟨H1, I1, q⟩
  · cases es' with
    | nil => rw [hl rfl]; exact wpAny_pure ⟨H1, I1, q⟩
    | cons a as => exact r K S R HM I1 q
  · cases es' with
    | nil => rw [hl rfl]; exact wpAny_pure ⟨H1, I1, q⟩
    | cons a as => exact r K S R HM I1 q
  · exact wpAny_pure ⟨H1, I1, q⟩

theorem se_bop {sc : Scope} {op : BoolOp} {es : List Expr} {es' : List Ex} {pos : Pos} (hne : es ≠ []) (h : SBs P G n hm sc es es') : SE P G n hm sc (.BoolOp op es pos) (.bop (op == .And) es') := by
  intro F l K S R HM H s Q X I q
  conv at q => whnf
  exact h K S R HM hne I q
theorem st_bop {sc : Scope} {op : BoolOp} {es : List Expr} {es' : List Ex} {pos : Pos} (h : STs P G n hm sc es es') : ST P G n hm sc (.BoolOp op es pos) (.bop (op == .And) es') := by
  intro F l K S R HM H s k X I q
  conv at q => whnf
  exact h K S R HM I q

theorem se_list {sc : Scope} {es : List Expr} {es' : List Ex} {pos : Pos} (h : SEs P G n hm sc es es') : SE P G n hm sc (.List es pos) (.list es') := by
  intro F l K S R HM H s Q X I q
  conv at q => whnf
  refine List_ (wpAny_mono (h K S R HM I q) (fun Vs s' q => ?_) fun _ _ z => z)
  obtain ⟨H1, I1, hz, q⟩ := q
  simp only [List.length_map] at hz
  have hz' := hz
  simp only [sizeLine] at hz'
  refine wpAny_newList ⟨_, I1.alloc K (t := s'.toks) (mt_list ⟨0, Heap.get?_push_size _ rfl⟩ ?_), q _ I1.fresh⟩ hz
  simp; omega
theorem se_tup {sc : Scope} {es : List Expr} {es' : List Ex} {pos : Pos} {kk : Nat} (h : SEs P G n hm sc es es') : SE P G n hm sc (.Tuple es kk pos) (.tup es') := by
  intro F l K S R HM H s Q X I q
  conv at q => whnf
  refine Tuple_ (wpAny_mono (h K S R HM I q) (fun Vs s' q => ?_) fun _ _ z => z)
  obtain ⟨H1, I1, hz, q⟩ := q
  simp only [List.length_map] at hz
  have hz' := hz
  simp only [sizeLine] at hz'
  refine wpAny_newTuple ⟨_, I1.alloc K (t := s'.toks) (mt_tup ⟨_, Heap.get?_push_size _ rfl, rfl, 0, rfl⟩ ?_), q _ I1.fresh⟩ hz
  simp; omega

/-! calls -/
theorem evalArgs_any {M : Model} {A : Around} {E : Value → Shared → Prop} {s : Shared} {f : Value} {env : Env} {es : List Expr} {pos : Pos} {Q : Args → Shared → Prop} (hs : es.all notStar = true)
    (h : wpAny M A (spliced (backTo pos (starEach es env))) (fun vs s' => Q ⟨vs, []⟩ s') E s) : wpAny M A (evalArgs f true (backTo pos (starEach es env)) []) Q E s := by
  cases es with
  | nil =>
    unfold evalArgs
    show wpAny M A (spliced [] >>= _) Q E s
    refine wpAny_bind (wpAny_mono h (fun vs s' z => ?_) fun _ _ z => z)
    refine wpAny_bind (wpAny_pure ?_)
    refine wpAny_holding ?_
    show wpAny M A (evalAll [] >>= _) Q E s'
    exact wpAny_bind (wpAny_pure (wpAny_bind (wpAny_pure (wpAny_pure z))))
  | cons e es =>
    rw [star_cons (by simp at hs; exact hs.1)] at h ⊢
    exact evalArgs_plain h
theorem backTo_plain {env : Env} {pos : Pos} : ∀ {es : List Expr}, es.all notStar = true → (backTo pos (starEach es env)).any (·.1) = false
  | [], _ => rfl
  | e :: es, h => by
    simp at h
    rw [star_cons h.1]
    show (false || (backTo pos (starEach es env)).any (·.1)) = false
    rw [backTo_plain (by simpa using h.2)]; rfl
/-- a call by its values -/
theorem callWith_any {M : Model} {A : Around} {E : Value → Shared → Prop} {s : Shared} {f : Value} {env : Env} {first : List Value} {es : List Expr} {pos : Pos} {Q : Value → Shared → Prop} (hs : es.all notStar = true)
    (h : wpAny M A (spliced (backTo pos (starEach es env))) (fun vs s' => (∃ k, (k = Keeper.frame ∨ k = Keeper.machine) ∧ PySem.W.Looks M s'.heap (keeperOf f) k) ∧ wpAny M A (call f (first ++ vs)) Q E s') E s) :
    wpAny M A (callWith pos f first (backTo pos (starEach es env)) []) Q E s := by
  unfold callWith
  refine wpAny_bind (wpAny_holding (evalArgs_any hs (wpAny_mono h (fun vs s' q => ?_) fun _ _ z => z)))
  refine wpAny_bind (wpAny_standAt ?_)
  obtain ⟨⟨k, hk, lk⟩, q⟩ := q
  simp only [backTo_plain hs, List.any_nil, Bool.or_false]
  refine wpAny_bind (lk.here ?_)
  rcases hk with rfl | rfl
  · dsimp only
    split
    · exact wpAny_bind (wpAny_mono q (fun v s'' z => wpAny_bind (wpAny_holding (wpAny_point (wpAny_pure z)))) fun _ _ z => z)
    · unfold callMarked
      exact wpAny_bind (wpAny_keep (wpAny_mono q (fun v s'' z => wpAny_bind (wpAny_holding (wpAny_point (wpAny_pure z)))) fun _ _ z => z))
  · exact wpAny_bind (wpAny_mono q (fun v s'' z => wpAny_bind (wpAny_holding (wpAny_point (wpAny_pure z)))) fun _ _ z => z)

end
end Mine
end

section
open PySem PyProof.Rows PySem.Calls
namespace Mine

theorem strs_vals : ∀ (vs xs : List Value) (ss : List Str), vs.map er = xs → strsOf xs = some ss → ∃ l : List (Str × Tok), vs = strValues l ∧ l.map (·.1) = ss
  | [], _, ss, e, h => by subst e; cases h; exact ⟨[], rfl, rfl⟩
  | V :: vs, _, ss, e, h => by
    subst e
    cases V <;> simp only [List.map_cons, er, strsOf] at h <;> first | (cases h; done) | skip
    obtain ⟨r, hr, rfl⟩ := Option.map_eq_some_iff.1 h
    obtain ⟨l, e1, e2⟩ := strs_vals vs _ r rfl hr
    rename_i x t
    exact ⟨(x, t) :: l, by rw [e1]; rfl, by rw [← e2]; rfl⟩

section
variable {P : Pm} {F : Fm} {G : Gx} {n : Nat} {hm : Bool} {l : Loc} {H : Hp} {s : Shared}

theorem Inv.withA (I : Inv P F l H s) (A : Around) : Inv P { F with A := A } l H s := ⟨I.gens, I.os, I.keep, I.frk, I.loc, I.cel, I.objs, I.free, I.big⟩
theorem Inv.ofA {A : Around} (I : Inv P { F with A := A } l H s) : Inv P F l H s := ⟨I.gens, I.os, I.keep, I.frk, I.loc, I.cel, I.objs, I.free, I.big⟩
theorem Off.ofA {A : Around} {a : Addr} (x : Off { F with A := A } H a) : Off F H a := ⟨x.h, x.g, x.fr, x.l, x.c⟩
theorem Exc.ofA {A : Around} {e C : Addr} {b : Bool} (x : Exc P { F with A := A } H s e C b) : Exc P F H s e C b := ⟨x.big, x.off.ofA, let ⟨T, h1, h2, h3⟩ := x.at_; ⟨T, h1, fun t ht => (h2 t ht).ofA, h3⟩⟩
theorem PostX.ofA {A : Around} {X : XV} {V : Value} (h : PostX P { F with A := A } l X V s) : PostX P F l X V s := let ⟨H', e, C, q, I, x, z⟩ := h; ⟨H', e, C, q, I.ofA, x.ofA, z⟩
theorem FmOk.withA (K : FmOk P F) {A : Around} (h : A.frames = F.A.frames) (hx : F.x = none ∨ A.handled = F.A.handled) : FmOk P { F with A := A } :=
  ⟨K.kind, K.glob, K.blt, K.base, K.above, K.lg, K.lf, K.cl, K.cg, K.apart, K.cn, K.cf, K.fg, let ⟨f, o, a, b, c⟩ := K.frames; ⟨f, o, h.trans a, b, c⟩, fun a e => ⟨(K.xg a e).1, hx.elim (fun z => by rw [z] at e; cases e) fun z => z.trans (K.xg a e).2⟩⟩

theorem tc_weight (a : Addr) (Vs : List Value) : (Code.builtin "type.__call__" ⟨.ref a :: Vs, []⟩).weight = 1 := by
  unfold Code.weight
  rw [show (Code.builtin "type.__call__" ⟨.ref a :: Vs, []⟩).frames = 0 from rfl, show (Code.builtin "type.__call__" ⟨.ref a :: Vs, []⟩).isCreation = true from rfl,
    show (Code.builtin "type.__call__" ⟨.ref a :: Vs, []⟩).isGuard = false from by show guardIds.contains "type.__call__" = false; decide +kernel, show (Code.builtin "type.__call__" ⟨.ref a :: Vs, []⟩).isCaller = false from rfl]
  rfl
theorem tc_room {A : Around} (R : Room n A) (a : Addr) (Vs : List Value) : RoomC n (A.under (.builtin "type.__call__" ⟨.ref a :: Vs, []⟩)) := by
  refine ⟨?_, ?_⟩
  · show A.depth + (Code.builtin "type.__call__" ⟨.ref a :: Vs, []⟩).weight + 2 * n + 1 < _
    rw [tc_weight]; have := R.1; omega
  · show A.units + 1 + 30 * n + 190 < _
    have := R.2; omega
theorem tc_frames {A : Around} (a : Addr) (Vs : List Value) : (A.under (.builtin "type.__call__" ⟨.ref a :: Vs, []⟩)).frames = A.frames := by
  show pushEnvs [] A.frames = A.frames
  cases A.frames <;> rfl

theorem s_call (Y : PmOk P) (GO : GxOk P G) (FN : SndFn P G n) (K : FmOk P F) (R : Room n F.A) (HM : HmOk hm F) (I : Inv P F l H s) {V : Value} {Vs : List Value} {Q : QV} {X : XV} (h : callV G hm (er V) (Vs.map er) H Q X) :
    (∃ k, (k = Keeper.frame ∨ k = Keeper.machine) ∧ PySem.W.Looks P.M s.heap (keeperOf V) k) ∧ wpAny P.M F.A (call V Vs) (PostE P F l Q) (PostX P F l X) s := by
  unfold callV at h
  split at h
  · rename_i a e; have := er_ref e; subst this
    split at h
    · rename_i fi hi
      obtain ⟨i1, i2, i3, i4⟩ := GO.init a fi hi
      have kin := I.kin Y K
      refine ⟨PySem.W.looks_keep i4 kin, wpAny_call ?_⟩
      have I1 := I.alloc K (O := PySem.W.emptyDict) (o := .ns []) (t := s.toks) ⟨#[], 0, Heap.get?_push_size _ rfl, .nil, .nil⟩
      have I2 := I1.alloc K (O := PySem.W.instObj a s.heap.objs.size) (o := .inst a s.heap.objs.size) (t := s.toks) (Heap.get?_push_size _ rfl)
      have hsz : (s.heap.push PySem.W.emptyDict).objs.size = s.heap.objs.size + 1 := Heap.size_push ..
      simp only [hsz] at I2
      have q := h s.heap.objs.size (s.heap.objs.size + 1) I.fresh (by
        have := I1.fresh
        simp only [hsz] at this
        rwa [Hp.upd_ne _ _ (Nat.succ_ne_self _)] at this) (Nat.ne_of_lt (Nat.lt_succ_self _))
      obtain ⟨hh, hg, hd, ht, ho⟩ := s
      refine PySem.W.make_core (PySem.W.makes_of kin i1) (PySem.W.looks_findIn kin i2) (fun self => PySem.W.bind_fn kin self (beq_iff_eq.mp i3)) (.inl (by simp)) ?_
      refine codeAny_mono (FN.run q (F := { F with A := F.A.under (.builtin "type.__call__" ⟨.ref a :: Vs, []⟩) }) (l := l) (K.withA (tc_frames _ _) (.inr rfl)) (tc_room R _ _) HM (I2.withA _) rfl) fun r s' z => ?_
      rcases r with e | (_ | _ | _ | v)
      · exact PostX.ofA z
      · exact z.elim
      · exact z.elim
      · exact z.elim
      · obtain ⟨H', I', q1, q2⟩ := z
        exact ⟨er_none q1, H', I'.ofA, q2⟩
    · refine ⟨PySem.W.looks_keep (FN.keep h) (I.kin Y K), wpAny_call (codeAny_mono (FN.run h K R.c HM I rfl) fun r s' z => ?_)⟩
      rcases r with e | (_ | _ | _ | v) <;> exact z
  · exact h.elim

theorem se_call (Y : PmOk P) (GO : GxOk P G) (FN : SndFn P G n) {sc : Scope} {f : Str} {p pos : Pos} {args : List Expr} {f' : Ex} {args' : List Ex} (hs : args.all notStar = true) (hf : SE P G n hm sc (.Name f p) f') (ha : SEs P G n hm sc args args') :
    SE P G n hm sc (.Call (.Name f p) args [] pos) (.call f' args') := by
  intro F l K S R HM H s Q X I q
  conv at q => whnf
  refine wpAny_Call_NameR (wpAny_mono (hf K S R HM I q) (fun V s' q => ?_) fun _ _ z => z)
  obtain ⟨H1, I1, q⟩ := q
  refine callWith_any hs (wpAny_mono (ha K S R HM I1 q) (fun Vs s2 q => ?_) fun _ _ z => z)
  obtain ⟨H2, I2, q⟩ := q
  exact s_call Y GO FN K R HM I2 q

theorem backTo_stars {env : Env} {pos : Pos} : ∀ {es : List Expr}, es.all notStar = true → (backTo pos (starEach es env)).all (fun x => !x.1) = true
  | [], _ => rfl
  | e :: es, h => by
    simp at h
    rw [star_cons h.1]
    show (true && (backTo pos (starEach es env)).all (fun x => !x.1)) = true
    rw [backTo_stars (by simpa using h.2)]; rfl

theorem attrBase_eq {o : Expr} {a : Str} {env : Env} {whole : Sem Value} (h : notSuper o = true) : attributeBase o a env whole = whole := by
  unfold attributeBase
  split
  · have h' : (_ != ("super" : Str)) = true := h
    rw [if_pos (by rw [h']; rfl)]
  · rfl

/-! methods of the built-in types -/
noncomputable def bmName : Bm → Str
  | .append => "append" | .pop => "pop" | .get => "get" | .join => "join" | .split => "split"
noncomputable def bmId : Bk → Bm → String
  | .list, .append => "list.append"
  | .list, _ => "list.pop"
  | .dict, .pop => "dict.pop"
  | .dict, _ => "dict.get"
  | .str, .join => "str.join"
  | .str, _ => "str.split"

theorem bm_get {M : Model} {A : Around} {E : Value → Shared → Prop} {s : Shared} {v : Value} {T : String} {name nm : Str} {id idd : String} {pl : Sem Bool} {Q : Value × List Value → Shared → Prop} (sl : Slot T nm idd) (hT : s.TypeIs v T) (pa : PlainAttrs T)
    (hty : typeOf (.builtin idd) = pure (.type "method_descriptor")) (hd : ∀ a, v = .ref a → ∃ o, s.heap.get? a = some o ∧ o.dict = none) (h : Q (.builtin id, [v]) s) (e1 : name = nm := by rfl) (e2 : id = idd := by rfl) : wpAny M A (getMethod v name pl) Q E s := by
  subst e1 e2
  exact getMethod_builtin hT pa sl hty hd h

theorem s_bmOn (I : Inv P F l H s) {E : Value → Shared → Prop} {V : Value} {m : Bm} {k : Bk → Prop} {pl : Sem Bool} {Q : Value × List Value → Shared → Prop} (h : bmOn m (er V) H k)
    (hq : ∀ b, k b → Q (.builtin (bmId b m), [V]) s) : wpAny P.M F.A (getMethod V (bmName m) pl) Q E s := by
  unfold bmOn at h
  split at h
  · rename_i x _ e; obtain ⟨t, rfl⟩ := er_str e
    obtain ⟨rfl | rfl, h⟩ := h
    · exact bm_get PySem.F.slot_str_join rfl PySem.F.plainAttrs_str PySem.F.type_str_join (fun _ e => nomatch e) (hq .str h)
    · exact bm_get PySem.F.slot_str_split rfl PySem.F.plainAttrs_str PySem.F.type_str_split (fun _ e => nomatch e) (hq .str h)
  · rename_i a e; have := er_ref e; subst this
    split at h
    · rename_i xs hx
      obtain ⟨vs, hl, _, _, n, e⟩ := I.objs _ _ hx
      have hd : ∀ b, Value.ref a = .ref b → ∃ o, s.heap.get? b = some o ∧ o.dict = none := fun b q => by cases q; exact ⟨_, e, rfl⟩
      obtain ⟨rfl | rfl, h⟩ := h
      · exact bm_get slot_list_append hl.typeIs PySem.F.plainAttrs_list type_list_append hd (hq .list h)
      · exact bm_get PySem.F.slot_list_pop hl.typeIs PySem.F.plainAttrs_list PySem.F.type_list_pop hd (hq .list h)
    · rename_i xs hx
      obtain ⟨vs, hl, _⟩ := I.objs _ _ hx
      obtain ⟨rfl | rfl, h⟩ := h
      · exact bm_get PySem.F.slot_dict_pop hl.mapOf.typeIs PySem.F.plainAttrs_dict PySem.F.type_dict_pop hl.mapOf.noDict (hq .dict h)
      · exact bm_get PySem.F.slot_dict_get hl.mapOf.typeIs PySem.F.plainAttrs_dict PySem.F.type_dict_get hl.mapOf.noDict (hq .dict h)
    · rename_i xs hx
      obtain ⟨vs, hl, _⟩ := I.objs _ _ hx
      obtain ⟨rfl | rfl, h⟩ := h
      · exact bm_get PySem.F.slot_dict_pop hl.mapOf.typeIs PySem.F.plainAttrs_dict PySem.F.type_dict_pop hl.mapOf.noDict (hq .dict h)
      · exact bm_get PySem.F.slot_dict_get hl.mapOf.typeIs PySem.F.plainAttrs_dict PySem.F.type_dict_get hl.mapOf.noDict (hq .dict h)
    · exact h.elim
  · exact h.elim

theorem mapSeq_exact (f : Array Value → Array Value) (vs : Array Value) (n : Nat) : ∃ n', Obj.mapSeq f { cls := .type "list", dict := none, data := .seq vs n, slots := #[] } = { cls := .type "list", dict := none, data := .seq (f vs) n', slots := #[] } := by
  unfold Obj.mapSeq
  exact ⟨_, rfl⟩

theorem IsL.update {h : Heap} {a : Addr} {vs : Array Value} (x : IsL h a vs) (f : Array Value → Array Value) : IsL (h.update a (Obj.mapSeq f)) a (f vs) := by
  obtain ⟨n, e⟩ := x
  obtain ⟨n', e'⟩ := mapSeq_exact f vs n
  exact ⟨n', by rw [Heap.get?_update_self _ e (by rw [e']; rfl), e']⟩

theorem without_er {K : Type} [DecidableEq K] (ks : List (K × Value)) (k : K) : (PySem.without ks k).map (fun p => (p.1, er p.2)) = PySem.without (ks.map fun p => (p.1, er p.2)) k := by
  unfold PySem.without
  rw [List.filter_map]
  rfl

/-- a text's parts, as a new list -/
theorem split_at {A : Around} {E : Value → Shared → Prop} {x y : Str} {t u : Tok} {Q : Value → Shared → Prop} (hy : (y.length == 0) = false) (hx : x.length ≤ sizeLine) (hn : (Builtin.Str.partsBetween x (Builtin.Str.occurrences x y 0 x.length (x.length + 1)) y.length).length ≤ sizeLine)
    (h : ∀ ls k, ls.map (·.1) = Txt.split x y → Q (.ref s.heap.objs.size) { s with heap := s.heap.push { cls := .type "list", data := .seq (strValues ls).toArray }, toks := k }) : wpAny P.M A (call (.builtin "str.split") [.str x t, .str y u]) Q E s := by
  have M := fun {W} (m : Meets (Builtin.«str.split» ⟨[.str x t, .str y u], []⟩) W) (z : W A (wants Q E) s) => call_meets (prog := P.prog) (w := P.w) PySem.F.slot_str_split (typeIs_str _ _ _) PySem.F.entry_str_split (PySem.F.args_str_split_2 _ _) m z
  cases h1 : (decide (x.length < y.length) || decide (Builtin.Str.strKind x < Builtin.Str.strKind y)) with
  | true => exact M (meets_str_split_cannot_occur x y t u h1) (h [(x, t)] s.toks (if_pos h1).symm)
  | false =>
    cases hf : (Builtin.Str.occurrences x y 0 x.length (x.length + 1)).isEmpty with
    | true => exact M (meets_str_split_not_found x y t u h1 hy hf) (h [(x, t)] s.toks ((if_neg (ne_true_of_eq_false h1)).trans (if_pos hf)).symm)
    | false =>
      refine M (meets_str_split_sep x y t u h1 hy hf hx hn) ?_
      show wants Q E _ { s with toks := _, heap := s.heap.push { cls := .type "list", data := .seq (strsFrom s.toks (Builtin.Str.partsBetween x (Builtin.Str.occurrences x y 0 x.length (x.length + 1)) y.length)).toArray } }
      rw [strsFrom_eq]
      exact h _ _ ((numbered_texts _ _).trans ((if_neg (ne_true_of_eq_false h1)).trans (if_neg (ne_true_of_eq_false hf))).symm)
theorem s_bm (K : FmOk P F) (I : Inv P F l H s) {E : Value → Shared → Prop} {V : Value} {Vs : List Value} {b : Bk} {m : Bm} {Q : QV} (h : bmV b m (er V) (Vs.map er) H Q) :
    wpAny P.M F.A (call (.builtin (bmId b m)) (V :: Vs)) (PostE P F l Q) E s := by
  unfold bmV at h
  split at h
  · split at h
    · obtain ⟨a, eV, h'⟩ := onRef_elim rfl h; clear h; subst eV
      obtain ⟨W, eW, h⟩ := on1_elim h'; clear h'; subst eW
      split at h
      · rename_i xs hx
        obtain ⟨hz, q⟩ := h
        obtain ⟨vs, hl, e, hz2, ex⟩ := I.objs _ _ hx
        have hsz : vs.size ≤ sizeLine := by rw [← e] at hz; simpa using hz
        obtain ⟨n, e0⟩ := id ex
        refine wpAny_call_entry slot_list_append hl.typeIs entry_list_append ?_ (args_list_append _ _)
        show wpAny _ _ (updateSeq a (·.push W) >>= fun _ => ret .none) _ _ s
        refine wpAny_bind (wpAny_updateSeq e0 rfl (wpAny_pure ⟨.none, rfl, ?_⟩) hsz)
        refine ⟨_, I.put (t := s.toks) hx (fun b hb => Heap.get?_update_other _ _ (Ne.symm hb)) (mt_list (ex.update _) ?_), ?_⟩
        · simp only [Array.size_push]; simp only [sizeLine] at hsz; omega
        · simpa [e, er] using q
      · exact h.elim
    · obtain ⟨a, eV, h'⟩ := onRef_elim rfl h; clear h; subst eV
      obtain ⟨eW, h⟩ := on0_elim h'; clear h'; subst eW
      split at h
      · rename_i xs hx
        obtain ⟨hz, q⟩ := h
        obtain ⟨vs, hl, e, hz2, ex⟩ := I.objs _ _ hx
        have hsz : vs.size ≤ sizeLine := by rw [← e] at hz; simpa using hz
        obtain ⟨n, e0⟩ := id ex
        split at q
        · rename_i v hv
          obtain ⟨y, hy, hyv⟩ : ∃ y, vs[vs.size - 1]? = some y ∧ er y = v := by
            rw [← e, List.getLast?_map] at hv
            obtain ⟨y, hy, e'⟩ := Option.map_eq_some_iff.mp hv
            refine ⟨y, ?_, e'⟩
            rw [List.getLast?_eq_getElem?] at hy
            simpa using hy
          subst hyv
          refine call_meets PySem.F.slot_list_pop hl.typeIs PySem.F.entry_list_pop (PySem.F.args_list_pop_1 _) (PySem.MeetsSeq.list_pop_last a vs n y hy hsz) ⟨e0, ?_⟩
          have dl : (vs.eraseIdxIfInBounds (vs.size - 1)).toList = vs.toList.dropLast := by
            obtain ⟨l⟩ := vs
            simp only [List.eraseIdxIfInBounds_toArray, List.size_toArray, List.eraseIdx_length_sub_one]
          refine ⟨_, I.put (t := s.toks) hx (fun b hb => Heap.get?_update_other _ _ (Ne.symm hb)) (mt_list (ex.update _) ?_), ?_⟩
          · rw [← Array.length_toList, dl]
            simp only [sizeLine] at hsz
            simp; omega
          · have : ((vs.eraseIdxIfInBounds (vs.size - 1)).toList.map er) = xs.dropLast := by
              rw [dl, ← e, List.map_dropLast]
            rw [this]; exact q
        · exact q.elim
      · exact h.elim
    · exact h.elim
  · split at h
    · obtain ⟨a, eV, h'⟩ := onRef_elim rfl h; clear h; subst eV
      obtain ⟨W, eW, h2⟩ := on1_elim h'; clear h'; subst eW
      obtain ⟨k, t, eW, h⟩ := onInt_elim rfl h2; clear h2; subst eW
      split at h
      · rename_i kvs hx
        obtain ⟨hz, q⟩ := h
        obtain ⟨ks, hd, e⟩ := I.objs _ _ hx
        split at q
        · rename_i v hv
          rw [← e] at hv
          rw [valueAt_er] at hv
          obtain ⟨W, hw, hwv⟩ := Option.map_eq_some_iff.mp hv
          subst hwv
          refine call_meetsIn PySem.F.slot_dict_pop hd.mapOf.typeIs PySem.F.entry_dict_pop (PySem.F.args_dict_pop_2 _ _) (meets_dict_pop_there _ a (intKind_is _ _ _ _) [] (.inl rfl) rfl) ⟨ks, W, hd, by rw [← e] at hz; simpa using hz, hw, fun h' hd' sb => ?_⟩
          refine ⟨_, I.put (t := s.toks + 1) (o' := .idict ((PySem.without ks k).map fun p => (p.1, er p.2))) hx (fun b hb => sb.2 b hb) ⟨_, hd', rfl⟩, ?_⟩
          have : (PySem.without ks k).map (fun p => (p.1, er p.2)) = PySem.without kvs k := by rw [← e, without_er]
          rw [this]; exact q
        · exact q.elim
      · exact h.elim
    · exact h.elim
  · split at h
    · obtain ⟨x, t, eV, h'⟩ := onStr_elim rfl h; clear h; subst eV
      obtain ⟨W, eW, h2⟩ := on1_elim h'; clear h'; subst eW
      obtain ⟨a, eW, h⟩ := onRef_elim rfl h2; clear h2; subst eW
      split at h
      · rename_i xs hx
        obtain ⟨vs, hl, e, _⟩ := I.objs _ _ hx
        split at h
        · rename_i ss hs
          obtain ⟨ok, q⟩ := h
          obtain ⟨ls, e1, e2⟩ := strs_vals _ _ _ e hs
          refine PySem.SC.join (l := ls) (by rw [← e1]; simpa using hl) e2 ok fun t' k => ⟨H, I.toks _, q⟩
        · exact h.elim
      · exact h.elim
    · obtain ⟨x, t, eV, h'⟩ := onStr_elim rfl h; clear h; subst eV
      obtain ⟨W, eW, h⟩ := on1_elim h'; clear h'; subst eW
      obtain ⟨y, u, eV, h'⟩ := onStr_elim rfl h; clear h; subst eV
      obtain ⟨hy, hx, hz, hn, q⟩ := h'
      refine split_at hy hx hn fun ls k e => ⟨_, I.alloc K (t := k) (mt_list (vs := (strValues ls).toArray) ⟨0, Heap.get?_push_size _ rfl⟩ ?_), ?_⟩
      · rw [← e] at hz; simpa [strValues] using hz
      · have e2 : (strValues ls).toArray.toList.map er = (Txt.split x y).map fun z => Value.str z 0 := by rw [← e]; simp [strValues, er]
        rw [e2]; exact q _ I.fresh
    · exact h.elim
end
end Mine
end

section
open PySem PyProof.Rows PySem.Calls
open PySem.W (Looks Frag InstAt findIn findObj mroIn subIn typeIn clsIn looks_findIn looks_find looks_mroIn looks_subIn looks_typeIn class_get handed_on)
namespace Mine

/-! ## isinstance of an exception of one's own -/
section
variable {prog : Program} {w : World} {A : Around} {E : Value → Shared → Prop} {s : Shared} {K : Frag} {x D : Addr} {ox : Obj}

theorem exc_check {M : Model} {nameV : Value} {Q : Unit → Shared → Prop} (C : ExcCls K D) (X : K.In s.heap) (I : InstAt s.heap x ox D none) (hq : Q () s) : wpAny M A (checkBuiltinCall "BaseException.__getattribute__" ⟨[.ref x, nameV], []⟩) Q E s := by
  have hk : builtinKind "BaseException.__getattribute__" = some .slot := by decide +kernel
  have hsplit : splitId "BaseException.__getattribute__" = some ("BaseException", "__getattribute__") := by decide +kernel
  have ha := PySem.F.args_bexc_ga (.ref x) nameV
  have L0 := I.type (M := M)
  have L1 : Looks M s.heap (isInstance (.ref x) (.type "BaseException")) true := L0.andThen (looks_mroIn X C.be)
  obtain ⟨hh, g, d, t, os⟩ := s
  simp only [checkBuiltinCall, hk, hsplit]
  refine wpAny_bind (L1.at ?_)
  repeat (any_goals (first | assumption | wp_step))

theorem exc_attr {tk : Tok} {fill expr : Bool} {Q : Value → Shared → Prop} (C : ExcCls K D) (X : K.In s.heap) (I : InstAt s.heap x ox D none) (hq : Q (.ref D) s) :
    wpAny (model prog w) A (getAttrBy (.ref x) (.str "__class__" tk) fill expr) Q E s := by
  have L0 := I.type (M := model prog w)
  have L1 := looks_findIn (M := model prog w) X C.ga
  have L2 := looks_findIn (M := model prog w) X C.gr
  have L3 := looks_find (M := model prog w) X I C.fo
  have I' := I
  have X' := X
  have CG := fun {A' : Around} {R : Result → Shared → Prop} (h : R (.ok (.ret (.ref D))) s) => class_get (prog := prog) (w := w) (A := A') (tp := .ref D) X I C.ob h
  have EC := fun {A' : Around} {E' : Value → Shared → Prop} {nameV : Value} {Q' : Unit → Shared → Prop} (hq : Q' () s) => exc_check (M := model prog w) (A := A') (E := E') (nameV := nameV) C X I hq
  obtain ⟨hh, g, d, t, os⟩ := s
  unfold getAttrBy
  refine wpAny_holding (wpAny_bind (L0.at (wpAny_bind (L1.at ?_))))
  show wpAny _ _ (getAttrByItsOwn _ _ _ _ _ _) _ _ _
  unfold getAttrByItsOwn hookBefore
  refine wpAny_bind ?_
  show wpAny _ _ (typeLookup (.ref D) "__getattr__") _ _ _
  refine L2.at ?_
  refine wpAny_bind (wpAny_attempt (wpAny_holding ?_))
  have hb : callGetattribute (.ref x) (.str "__class__" tk) (.builtin "BaseException.__getattribute__") expr = boundAndCalled (.builtin "BaseException.__getattribute__") (.ref x) (.str "__class__" tk) := by
    unfold callGetattribute
    rw [if_neg (by cases expr <;> decide)]
  rw [hb]
  unfold boundAndCalled
  refine wpAny_bind (wpAny_of_eq (PySem.F.excAttr_ValueError.ga.bind (.ref x)) ?_)
  refine wpAny_call ?_
  refine codeAny_call_builtin PySem.F.excAttr_ValueError.ga.plain PySem.F.entry_bexc_ga (EC ?_)
  unfold Builtin.«object.__getattribute__»
  repeat (any_goals (first | assumption | with_reducible refine L0.at ?_ | with_reducible refine L3.at ?_ | wp_step))
  refine CG ?_
  dsimp only
  refine wpAny_pure ?_
  dsimp only
  exact handed_on rfl hq

theorem exc_class {Q : Option Value → Shared → Prop} (C : ExcCls K D) (X : K.In s.heap) (I : InstAt s.heap x ox D none) (hq : Q (some (.ref D)) { s with toks := s.toks + 1 }) :
    wpAny (model prog w) A (getAttr? (.ref x) "__class__") Q E s := by
  unfold getAttr? getAttrBy?
  exact wpAny_bind (wpAny_mkText (wpAny_bind (wpAny_attempt (exc_attr (s := { s with toks := s.toks + 1 }) C X I (wpAny_pure hq)))))

/-- the class asked about is a plain one -/
structure AskCls (K : Frag) (c : Value) : Prop where
  ty : ∀ (M : Model) h', K.In h' → Looks M h' (typeOf c) (.type "type")
  is : ∀ (M : Model) h', K.In h' → Looks M h' (isType c) true

theorem exc_nested {c : Value} {dep : Int} {tk : Tok} {b : Bool} {Q : Fin → Shared → Prop} (C : ExcCls K D) (X : K.In s.heap) (I : InstAt s.heap x ox D none) (U : AskCls K c)
    (hne : (Value.ref D == c) = true → b = true) (hsub : ∀ (M : Model) h', K.In h' → Looks M h' (isSubtype (.ref D) c) b) (h : ∀ t, Q (.done (.ret (.bool b))) { s with toks := t }) :
    wpAny (model prog w) A (Builtin.«isinstance.nested» ⟨[.ref x, c, .int dep tk], []⟩) Q E s := by
  obtain ⟨cdD, hcD⟩ := Option.isSome_iff_exists.mp C.cl
  have hisD : Looks (model prog w) s.heap (isType (.ref D)) true := by
    unfold PySem.W.clsIn at hcD
    split at hcD
    · rename_i ho
      intro A' Q' E' s' k q
      unfold isType loadHead
      exact wpAny_bind (wpAny_loadPart (k _ _ (X _ _ ho)) (wpAny_pure q))
    · cases hcD
  have hty := U.ty (model prog w) _ X
  have his := U.is (model prog w) _ X
  have hs := hsub (model prog w) _ X
  have EC := fun {A' : Around} {E' : Value → Shared → Prop} {Q' : Option Value → Shared → Prop} (hq : Q' (some (.ref D)) { s with toks := s.toks + 1 }) => exc_class (prog := prog) (w := w) (A := A') (E := E') C X I hq
  have L0 := I.type (M := model prog w)
  obtain ⟨h0, g, d, tt, os⟩ := s
  have LI : Looks (model prog w) h0 (isInstance (.ref x) c) b := L0.andThen hs
  unfold Builtin.«isinstance.nested»
  refine wpAny_bind (L0.at ?_)
  by_cases q : (Value.ref D == c) = true
  · rw [if_pos q]
    have := hne q
    subst this
    exact wpAny_bind (wpAny_rule (wpAny_bind (wpAny_pure (wpAny_pure (h _)))))
  rw [if_neg q]
  refine wpAny_bind (hty.at ?_)
  rw [if_pos (by decide)]
  k_delta "plainIsInstance"
  refine wpAny_bind (wpAny_bind (his.at ?_))
  simp only [Bool.not_true, Bool.false_eq_true, if_false]
  refine wpAny_bind (LI.at ?_)
  cases b with
  | true =>
    simp only [if_true]
    exact wpAny_pure (wpAny_pure (h _))
  | false =>
    simp only [Bool.false_eq_true, if_false]
    refine wpAny_bind (EC ?_)
    refine wpAny_bind (hisD.at ?_)
    simp only [Bool.not_true, Bool.false_eq_true, if_false]
    refine wpAny_bind (wpAny_rule ?_)
    refine hs.at ?_
    first
      | exact wpAny_pure (h _)
      | exact wpAny_pure (wpAny_pure (h _))
      | exact wpAny_bind (wpAny_pure (wpAny_pure (h _)))

theorem exc_isi {c : Value} {b : Bool} {Q : Value → Shared → Prop} (C : ExcCls K D) (X : K.In s.heap) (I : InstAt s.heap x ox D none) (U : AskCls K c)
    (hne : (Value.ref D == c) = true → b = true) (hsub : ∀ (M : Model) h', K.In h' → Looks M h' (isSubtype (.ref D) c) b) (h : ∀ t, Q (.bool b) { s with toks := t }) :
    wpAny (model prog w) A (call (.builtin "isinstance") [.ref x, c]) Q E s :=
  call_isinstance (S := fun _ R s => (K.In s.heap ∧ InstAt s.heap x ox D none) ∧ ∀ t, R (.ok (.ret (.bool b))) { s with toks := t })
    (fun _ _ _ _ _ hs => isinstance_outer (exc_nested C hs.1.1 hs.1.2 U hne hsub hs.2) (by intro q; cases q)) ⟨⟨X, I⟩, h⟩
end
end Mine
end

section
open PySem PyProof.Rows PySem.Calls
open PySem.W (Looks looks_subIn looks_typeIn)
namespace Mine

section
variable {P : Pm} {F : Fm} {G : Gx} {n : Nat} {hm : Bool} {l : Loc} {H : Hp} {s : Shared}

noncomputable def Ty.val : Ty → Option Value
  | .str => some (.type "str") | .int => some (.type "int") | .bool => some (.type "bool") | .list => some (.type "list") | .tuple => some (.type "tuple") | .valueError => some (.type "ValueError")
  | _ => none

theorem ask_own (K : PySem.W.Frag) {D : Addr} (C : ExcCls K D) : AskCls K (.ref D) := by
  refine ⟨fun M h' X => looks_typeIn X C.ty, fun M h' X => ?_⟩
  obtain ⟨cd, hc⟩ := Option.isSome_iff_exists.mp C.cl
  unfold PySem.W.clsIn at hc
  split at hc
  · rename_i ho
    intro A' Q' E' s' k q
    unfold isType loadHead
    exact wpAny_bind (wpAny_loadPart (k _ _ (X _ _ ho)) (wpAny_pure q))
  · cases hc
theorem meta_VE : typeOf (.type "ValueError") = pure (.type "type") := by kernel_rfl
theorem ask_VE (K : PySem.W.Frag) : AskCls K (.type "ValueError") := ⟨fun _ _ _ => Looks.of_pure meta_VE, fun _ _ _ => Looks.of_pure rfl⟩

theorem exc_inst (I : Inv P F l H s) {x D : Addr} (h : H x = some (.exc D)) : ∃ ox, PySem.W.InstAt s.heap x ox D none := by
  obtain ⟨vs, sl, e⟩ := I.objs _ _ h
  exact ⟨_, e, rfl, rfl, trivial⟩

theorem s_isi (Y : PmOk P) (GO : GxOk P G) (K : FmOk P F) (I : Inv P F l H s) {E : Value → Shared → Prop} {V T : Value} {t : Ty} {Q : QV} (ht : t.val = some T) (h : isiV G (er V) t H Q) :
    wpAny P.M F.A (call (.builtin "isinstance") [V, T]) (PostE P F l Q) E s := by
  have R : ∀ {b : Bool} {u : Nat}, Q (.bool b) H → PostE P F l Q (.bool b) { s with toks := u } := fun q => ⟨H, I.toks _, q⟩
  unfold isiV at h
  split at h
  · rename_i e; have := er_none e; subst this
    obtain ⟨hb, q⟩ := h
    cases t <;> cases ht <;> first | cases hb | skip
    · exact IsiPair.NoneType_str (R q)
    · exact IsiPair.NoneType_int (R q)
    · exact IsiPair.NoneType_bool (R q)
    · exact IsiPair.NoneType_list (R q)
    · exact IsiPair.NoneType_tuple (R q)
  · rename_i e; have := er_bool e; subst this
    obtain ⟨hb, q⟩ := h
    cases t <;> cases ht <;> first | cases hb | skip
    · exact IsiPair.bool_str (R q)
    · exact IsiPair.bool_int (R (u := s.toks) q)
    · exact IsiPair.bool_bool (R (u := s.toks) q)
    · exact IsiPair.bool_list (R q)
    · exact IsiPair.bool_tuple (R q)
  · rename_i e; obtain ⟨u, rfl⟩ := er_int e
    obtain ⟨hb, q⟩ := h
    cases t <;> cases ht <;> first | cases hb | skip
    · exact IsiPair.int_str (R q)
    · exact IsiPair.int_int (R (u := s.toks) q)
    · exact IsiPair.int_bool (R q)
    · exact IsiPair.int_list (R q)
    · exact IsiPair.int_tuple (R q)
  · rename_i e; obtain ⟨u, rfl⟩ := er_str e
    obtain ⟨hb, q⟩ := h
    cases t <;> cases ht <;> first | cases hb | skip
    · exact IsiPair.str_str (R (u := s.toks) q)
    · exact IsiPair.str_int (R q)
    · exact IsiPair.str_bool (R q)
    · exact IsiPair.str_list (R q)
    · exact IsiPair.str_tuple (R q)
  · rename_i a e; have := er_ref e; subst this
    split at h
    · rename_i hx
      obtain ⟨hb, q⟩ := h
      obtain ⟨vs, ⟨o, ho, hc, _⟩, _⟩ := I.objs _ _ hx
      cases t <;> cases ht <;> first | cases hb | skip
      · exact IsiPair.list_str ho hc (R q)
      · exact IsiPair.list_int ho hc (R q)
      · exact IsiPair.list_bool ho hc (R q)
      · exact IsiPair.list_list ho hc (R (u := s.toks) q)
      · exact IsiPair.list_tuple ho hc (R q)
    · rename_i hx
      obtain ⟨hb, q⟩ := h
      obtain ⟨vs, ⟨o, ho, hc, _⟩, _⟩ := I.objs _ _ hx
      cases t <;> cases ht <;> first | cases hb | skip
      · exact IsiPair.tuple_str ho hc (R q)
      · exact IsiPair.tuple_int ho hc (R q)
      · exact IsiPair.tuple_bool ho hc (R q)
      · exact IsiPair.tuple_list ho hc (R q)
      · exact IsiPair.tuple_tuple ho hc (R (u := s.toks) q)
    · rename_i hx
      obtain ⟨hb, q⟩ := h
      obtain ⟨vs, ⟨o, es, ep, ho, hc, _⟩, _⟩ := I.objs _ _ hx
      cases t <;> cases ht <;> first | cases hb | skip
      · exact IsiPair.dict_str ho hc.1 (R q)
      · exact IsiPair.dict_int ho hc.1 (R q)
      · exact IsiPair.dict_bool ho hc.1 (R q)
      · exact IsiPair.dict_list ho hc.1 (R q)
      · exact IsiPair.dict_tuple ho hc.1 (R q)
    · rename_i hx
      obtain ⟨hb, q⟩ := h
      obtain ⟨vs, ⟨o, es, ep, ho, hc, _⟩, _⟩ := I.objs _ _ hx
      cases t <;> cases ht <;> first | cases hb | skip
      · exact IsiPair.dict_str ho hc.1 (R q)
      · exact IsiPair.dict_int ho hc.1 (R q)
      · exact IsiPair.dict_bool ho hc.1 (R q)
      · exact IsiPair.dict_list ho hc.1 (R q)
      · exact IsiPair.dict_tuple ho hc.1 (R q)
    · rename_i C hx
      obtain ⟨he, q⟩ := h
      obtain ⟨ox, II⟩ := exc_inst I hx
      cases t <;> cases ht <;> first | exact q.elim | skip
      exact exc_isi (GO.exc C he) (I.kin Y K) II (ask_VE _) (fun _ => rfl) (fun M h' X => looks_subIn X (GO.exc C he).ve) fun t => R q
    · exact h.elim
  · exact h.elim

theorem s_isi_cls (Y : PmOk P) (GO : GxOk P G) (K : FmOk P F) (I : Inv P F l H s) {E : Value → Shared → Prop} {V : Value} {x : Str} {D : Addr} {Q : QV} (hD : G.glob x = some (.ref D)) (h : isiV G (er V) (.cls x) H Q) :
    wpAny P.M F.A (call (.builtin "isinstance") [V, .ref D]) (PostE P F l Q) E s := by
  unfold isiV at h
  split at h
  · cases h.1
  · cases h.1
  · cases h.1
  · cases h.1
  · rename_i a e; have := er_ref e; subst this
    split at h
    · cases h.1
    · cases h.1
    · cases h.1
    · cases h.1
    · rename_i C hx
      obtain ⟨he, q⟩ := h
      dsimp only at q
      rw [hD] at q
      obtain ⟨hd, q⟩ := q
      obtain ⟨ox, II⟩ := exc_inst I hx
      refine exc_isi (GO.exc C he) (I.kin Y K) II (ask_own _ (GO.exc D hd)) (fun e => ?_) (fun M h' X => looks_subIn X (GO.sub C D he hd)) fun t => ⟨H, I.toks _, q⟩
      have : C = D := by simpa using e
      subst this; exact GO.self C he
    · exact h.elim
  · exact h.elim

theorem machine_builtin (M : Model) (h : Heap) (id : String) : ∃ k, (k = Keeper.frame ∨ k = Keeper.machine) ∧ Looks M h (keeperOf (.builtin id)) k := ⟨.machine, .inr rfl, Looks.of_pure rfl⟩
/-- a name of the built-ins -/
theorem ld_blt (Y : PmOk P) (B : BltOk P) {sc : Scope} (K : FmOk P F) (S : ScOk sc F) (I : Inv P F l H s) {E : Value → Shared → Prop} {x : Str} {p : Pos} {v : Value} {Q : Value → Shared → Prop} (hb : bltTab x = some v) (hl : isLoc sc x = some false) (h : Q v s) : wpAny P.M F.A (eval (.Name x p) F.env) Q E s :=
  ld_glob Y K I (.inr (B.blt x v hb)) (S.glob x hl) (isLoc_false hl) h

theorem se_isi (Y : PmOk P) (B : BltOk P) (GO : GxOk P G) {sc : Scope} {e : Expr} {e' : Ex} {x : Str} {t : Ty} {p p2 pos : Pos} (hn : notStar e = true) (hi : isLoc sc "isinstance" = some false) (hx : isLoc sc x = some false) {T : Value} (hT : t.val = some T) (hb : bltTab x = some T) (he : SE P G n hm sc e e') :
    SE P G n hm sc (.Call (.Name "isinstance" p) [e, .Name x p2] [] pos) (.isi e' t) := by
  intro F l K S R HM H s Q X I q
  conv at q => whnf
  refine wpAny_Call_NameR (ld_blt Y B K S I (v := .builtin "isinstance") (by decide +kernel) hi ?_)
  refine callWith_any (by rw [List.all_cons, hn]; rfl) ?_
  rw [star_cons hn]
  refine spliced_cons (wpAny_mono (he K S R HM I q) (fun V s' q => ?_) fun _ _ z => z)
  obtain ⟨H1, I1, q⟩ := q
  refine spliced_cons (ld_blt Y B K S I1 hb hx (spliced_nil ⟨machine_builtin _ _ _, ?_⟩))
  exact s_isi Y GO K I1 hT q

theorem se_isi_cls (Y : PmOk P) (B : BltOk P) (GO : GxOk P G) {sc : Scope} {e : Expr} {e' : Ex} {x : Str} {p p2 pos : Pos} (hn : notStar e = true) (hi : isLoc sc "isinstance" = some false) (hx : isLoc sc x = some false) (he : SE P G n hm sc e e') :
    SE P G n hm sc (.Call (.Name "isinstance" p) [e, .Name x p2] [] pos) (.isi e' (.cls x)) := by
  intro F l K S R HM H s Q X I q
  conv at q => whnf
  refine wpAny_Call_NameR (ld_blt Y B K S I (v := .builtin "isinstance") (by decide +kernel) hi ?_)
  refine callWith_any (by rw [List.all_cons, hn]; rfl) ?_
  rw [star_cons hn]
  refine spliced_cons (wpAny_mono (he K S R HM I q) (fun V s' q => ?_) fun _ _ z => z)
  obtain ⟨H1, I1, q⟩ := q
  have hD : ∃ D, G.glob x = some (.ref D) := by
    unfold isiV at q
    split at q <;> first | (cases q.1; done) | skip
    · split at q <;> first | (cases q.1; done) | skip
      · obtain ⟨_, q⟩ := q
        dsimp only at q
        split at q
        · rename_i hD; exact ⟨_, hD⟩
        · exact q.elim
      · exact q.elim
    · exact q.elim
  obtain ⟨D, hD⟩ := hD
  obtain ⟨W, hW, hV⟩ := GO.glob x _ hD
  have := er_ref hW; subst this
  refine spliced_cons (ld_glob Y K I1 hV (S.glob x hx) (isLoc_false hx) (spliced_nil ⟨machine_builtin _ _ _, ?_⟩))
  exact s_isi_cls Y GO K I1 hD q

theorem se_bm {sc : Scope} {o : Expr} {m : Str} {b : Bm} {ap pos : Pos} {args : List Expr} {o' : Ex} {args' : List Ex} (hb : m = bmName b) (hs : args.all notStar = true) (hsup : notSuper o = true) (hline : (ap.endLine == pos.line) = true) (hlen : args.length < 29)
    (ho : SE P G n hm sc o o') (ha : SEs P G n hm sc args args') :
    SE P G n hm sc (.Call (.Attribute o m ap) args [] pos) (.bm b o' args') := by
  intro F l K S R HM H s Q X I q
  subst hb
  conv at q => whnf
  rw [arm_eval_Call, attrBase_eq hsup]
  refine wpAny_bind (wpAny_mono (ho K S R HM I q) (fun V s' q => ?_) fun _ _ z => z)
  obtain ⟨H1, I1, q⟩ := q
  refine wpAny_bind (wpAny_standAt ?_)
  have hform : methodCallForm (args.length + ([] : List Keyword).length) (backTo pos (starEach args F.env)) (backToKw pos (keywordEach [] F.env)) = true := by
    unfold methodCallForm
    rw [backTo_stars hs]
    have : backToKw pos (keywordEach [] F.env) = [] := rfl
    simp [this]; omega
  have hpos : methodCallPos true o F.env ap pos = pure pos := by unfold methodCallPos; simp [hline]
  unfold methodCall
  rw [hform]
  refine wpAny_bind (wpAny_holding (s_bmOn I1 q fun b q => ?_))
  refine wpAny_bind (wpAny_of_eq hpos ?_)
  refine callWith_any hs (wpAny_mono (ha K S R HM I1 q) (fun Vs s2 q => ?_) fun _ _ z => z)
  obtain ⟨H2, I2, q⟩ := q
  exact ⟨machine_builtin _ _ _, s_bm K I2 q⟩
end
end Mine
end

section
open PySem PyProof.Rows PySem.Calls
namespace Mine

/-! ## an object that must stay for a while -/
noncomputable def Fm.also (F : Fm) (c : Addr) (o : Obj) : Fm := { F with g := fun b => if b = c then some o else F.g b }

section
variable {P : Pm} {F : Fm} {G : Gx} {n : Nat} {hm : Bool} {l : Loc} {H : Hp} {s : Shared} {c : Addr} {o : Obj}

theorem FmOk.also (K : FmOk P F) (x : Off F H c) : FmOk P (F.also c o) := by
  refine ⟨K.kind, K.glob, K.blt, fun b o' e => ?_, K.above, ?_, K.lf, K.cl, fun hr y d hy => ?_, K.apart, K.cn, K.cf, fun b d e => ?_, K.frames, fun a e => ?_⟩
  · show (if b = c then some o else F.g b) = some o'
    have := K.base b o' e
    rw [if_neg (fun q => by rw [q, x.g] at this; cases this)]
    exact this
  · show (if F.env.locals = c then some o else F.g F.env.locals) = none
    rw [if_neg (Ne.symm x.l)]; exact K.lg
  · obtain ⟨h1, h2⟩ := K.cg hr y d hy
    refine ⟨?_, h2⟩
    show (if d = c then some o else F.g d) = none
    rw [if_neg (Ne.symm (x.c y d hy))]; exact h1
  · obtain ⟨h1, h2⟩ := K.fg b d e
    refine ⟨?_, h2⟩
    show (if b = c then some o else F.g b) = none
    have e' : F.fr b = some d := e
    rw [if_neg (fun q => by rw [q, x.fr] at e'; cases e')]; exact h1
  · refine ⟨?_, (K.xg a e).2⟩
    show ∃ O, (if a = c then some o else F.g a) = some O
    split
    · exact ⟨_, rfl⟩
    · exact (K.xg a e).1

theorem Inv.also (I : Inv P F l H s) (x : Off F H c) (h : s.heap.get? c = some o) : Inv P (F.also c o) l H s := by
  refine ⟨I.gens, I.os, fun b o' e => ?_, I.frk, I.loc, I.cel, I.objs, fun a o' e => ?_, I.big⟩
  · by_cases q : b = c
    · have e : (if b = c then some o else F.g b) = some o' := e
      rw [if_pos q] at e; cases e; rw [q]; exact h
    · have e : (if b = c then some o else F.g b) = some o' := e
      rw [if_neg q] at e; exact I.keep b o' e
  · cases hr : o'.isR with
    | true => exact fre_r (F := F) (F' := F.also c o) hr rfl (I.free a o' e)
    | false =>
      obtain ⟨h1, h2⟩ := of_fre (I.free a o' e) hr
      refine fre_of hr ⟨?_, h2⟩
      show (if a = c then some o else F.g a) = none
      rw [if_neg (fun q => by rw [q, x.h] at e; cases e)]; exact h1

theorem Inv.back (K : FmOk P F) (x : Off F H c) {l' : Loc} {H' : Hp} (I : Inv P (F.also c o) l' H' s) : Inv P F l' H' s ∧ s.heap.get? c = some o ∧ Off F H' c := by
  refine ⟨⟨I.gens, I.os, fun b o' e => ?_, I.frk, I.loc, I.cel, I.objs, fun a o' e => ?_, I.big⟩, I.keep c o (by show (if c = c then some o else F.g c) = some o; rw [if_pos rfl]), ?_, x.g, x.fr, x.l, x.c⟩
  · refine I.keep b o' ?_
    show (if b = c then some o else F.g b) = some o'
    rw [if_neg (fun q => by rw [q, x.g] at e; cases e)]; exact e
  · cases hr : o'.isR with
    | true => exact fre_r (F := F.also c o) (F' := F) hr rfl (I.free a o' e)
    | false =>
      obtain ⟨h1, h2⟩ := of_fre (I.free a o' e) hr
      refine fre_of hr ⟨?_, h2⟩
      have h1 : (if a = c then some o else F.g a) = none := h1
      split at h1
      · cases h1
      · exact h1
  · cases e : H' c with
    | none => rfl
    | some o' =>
      cases hr : o'.isR with
      | true =>
        rcases r_fre (I.free c o' e) hr with ⟨O, e'⟩ | e'
        · have := K.base _ _ e'
          rw [x.g] at this; cases this
        · obtain ⟨O, e'⟩ := (K.xg c e').1
          rw [x.g] at e'; cases e'
      | false =>
        have := (of_fre (I.free c o' e) hr).1
        have this : (if c = c then some o else F.g c) = none := this
        rw [if_pos rfl] at this; cases this

theorem Off.back {H' : Hp} {a : Addr} (x : Off (F.also c o) H' a) : Off F H' a := by
  refine ⟨x.h, ?_, x.fr, x.l, x.c⟩
  have : (if a = c then some o else F.g a) = none := x.g
  split at this
  · cases this
  · exact this
theorem Exc.back {H' : Hp} {e C : Addr} {b : Bool} (x : Exc P (F.also c o) H' s e C b) : Exc P F H' s e C b :=
  ⟨x.big, x.off.back, let ⟨T, h1, h2, h3⟩ := x.at_; ⟨T, h1, fun t ht => (h2 t ht).back, h3⟩⟩
end

/-- the exception that is handled, if one is, has no context and is not at J -/
noncomputable def HdJ (A : Around) (J : Addr) (h : Heap) : Prop := A.handled = none ∨ ∃ e o vs, A.handled = some (.ref e) ∧ e ≠ J ∧ h.get? e = some o ∧ o.data = .fields vs ∧ vs[2]? = some Value.none
theorem HdK.at_ {P : Pm} {F : Fm} {l : Loc} {H : Hp} {s : Shared} (k : HdK F) (I : Inv P F l H s) {J : Addr} (hJ : F.g J = none) : HdJ F.A J s.heap :=
  k.imp id fun ⟨e, o, vs, h1, h2, h3, h4⟩ => ⟨e, o, vs, h1, (fun q => by rw [q, hJ] at h2; cases h2), I.keep e o h2, h3, h4⟩
theorem HdK.also {F : Fm} (k : HdK F) {c : Addr} {o : Obj} (hc : F.g c = none) : HdK (F.also c o) :=
  k.imp id fun ⟨e, o', vs, h1, h2, h3, h4⟩ => ⟨e, o', vs, h1, by show (if e = c then some o else F.g e) = some o'; rw [if_neg (fun q => by rw [q, hc] at h2; cases h2)]; exact h2, h3, h4⟩
theorem HmOk.also {F : Fm} {hm : Bool} (k : HmOk hm F) {c : Addr} {o : Obj} (hc : F.g c = none) : HmOk hm (F.also c o) := ⟨k.1.also hc, k.2⟩
/-! ## turns -/
structure Turns (P : Pm) (A : Around) (J : Addr) (guard : Hp → Prop) (items : List Value) (St : Nat → Heap → Prop) : Prop where
  at_ : ∀ i h, St i h → ∃ o, h.get? J = some o
  frame : ∀ i h h', St i h → (∀ o, h.get? J = some o → h'.get? J = some o) → St i h'
  item : ∀ i (s : Shared) (Q : Option Value → Shared → Prop) (E : Value → Shared → Prop) (H : Hp), (∀ a o, H a = some o → Mt P s.heap a o) → H J = none → guard H → St i s.heap → ∀ v, items[i]? = some v →
    (∀ V h' tk, er V = v → St (i + 1) h' → (∀ b o, b ≠ J → s.heap.get? b = some o → h'.get? b = some o) → Q (some V) { s with heap := h', toks := tk }) → wpAny P.M A (pyNext (.ref J)) Q E s
  done : ∀ (s : Shared) (Q : Option Value → Shared → Prop) (E : Value → Shared → Prop) (H : Hp), (∀ a o, H a = some o → Mt P s.heap a o) → H J = none → guard H → St items.length s.heap → HdJ A J s.heap →
    (∀ h' tk, (∀ b o, b ≠ J → s.heap.get? b = some o → h'.get? b = some o) → Q none { s with heap := h', toks := tk }) → wpAny P.M A (pyNext (.ref J)) Q E s
  self : ∀ i (s : Shared) (Q : Value → Shared → Prop) (E : Value → Shared → Prop), St i s.heap → Q (.ref J) s → wpAny P.M A (pyIter (.ref J)) Q E s

theorem turns_list {P : Pm} {A : Around} (hh : A.handled = none) (J a : Addr) (xs : List Value) : Turns P A J (fun H => H a = some (.list xs)) xs (fun i h => h.IsListIter J a i) where
  at_ := fun i h ⟨o, ho, _⟩ => ⟨o, ho⟩
  frame := fun i h h' ⟨o, ho, r⟩ k => ⟨o, k o ho, r⟩
  item := fun i s Q E H mt hJ g st v hv hq => by
    obtain ⟨vs, hl, e, _⟩ := mt a _ g
    have hne : a ≠ J := fun q => by rw [q, hJ] at g; cases g
    rw [← e, List.getElem?_map] at hv
    obtain ⟨V, hV, e2⟩ := Option.map_eq_some_iff.mp hv
    have hi : i < vs.size := by have := (List.getElem?_eq_some_iff.mp hV).1; simpa using this
    refine (Walks.list (prog := P.prog) (w := P.w) hh J a hne vs).item i s Q E hi ⟨st, hl⟩ fun V' h' tk hP st' k => hq V' h' tk ?_ st'.1 fun b o hb => k b o (by simp [hb])
    have : some V' = some V := by rw [← hP]; simpa using hV
    cases this; exact e2
  done := fun s Q E H mt hJ g st _ hq => by
    obtain ⟨vs, hl, e, _⟩ := mt a _ g
    have hne : a ≠ J := fun q => by rw [q, hJ] at g; cases g
    refine (Walks.list (prog := P.prog) (w := P.w) hh J a hne vs).done s Q E ⟨?_, hl⟩ fun h' tk k => hq h' tk fun b o hb => k b o (by simp [hb])
    have : vs.size = xs.length := by rw [← e]; simp
    rw [this]; exact st
  self := fun i s Q E st hq => wpAny_pyIter_listiter st hq

theorem turns_nil {P : Pm} {A : Around} (J a : Addr) : Turns P A J (fun H => H a = some (.list [])) [] (fun i h => h.IsListIter J a i) where
  at_ := fun i h ⟨o, ho, _⟩ => ⟨o, ho⟩
  frame := fun i h h' ⟨o, ho, r⟩ k => ⟨o, k o ho, r⟩
  item := fun i s Q E H mt hJ g st v hv hq => by cases hv
  done := fun s Q E H mt hJ g st hd hq => by
    obtain ⟨vs, hl, e, _⟩ := mt a _ g
    have e : vs.toList = [] := List.map_eq_nil_iff.1 e
    refine next_list_end (hd.imp id fun ⟨e, o, vs, h1, _, h2, h3, h4⟩ => ⟨e, o, vs, h1, h2, h3, h4⟩) (fun e h1 => ?_) st hl (by rw [← Array.getElem?_toList, e]; rfl) fun h' x => hq h' s.toks fun b o hb => x b o hb
    rcases hd with hd | ⟨e', _, _, h2, h3, _⟩
    · rw [hd] at h1; cases h1
    · rw [h2] at h1; cases h1; exact h3
  self := fun i s Q E st hq => wpAny_pyIter_listiter st hq

theorem turns_tup {P : Pm} {A : Around} (hh : A.handled = none) (J a : Addr) (xs : List Value) : Turns P A J (fun H => H a = some (.tup xs)) xs (fun i h => h.IsTupleIter J a i) where
  at_ := fun i h ⟨o, ho, _⟩ => ⟨o, ho⟩
  frame := fun i h h' ⟨o, ho, r⟩ k => ⟨o, k o ho, r⟩
  item := fun i s Q E H mt hJ g st v hv hq => by
    obtain ⟨vs, hl, e, _⟩ := mt a _ g
    have hne : a ≠ J := fun q => by rw [q, hJ] at g; cases g
    rw [← e, List.getElem?_map] at hv
    obtain ⟨V, hV, e2⟩ := Option.map_eq_some_iff.mp hv
    have hi : i < vs.size := by have := (List.getElem?_eq_some_iff.mp hV).1; simpa using this
    refine (Walks.tuple (prog := P.prog) (w := P.w) hh J a hne vs).item i s Q E hi ⟨st, hl⟩ fun V' h' tk hP st' k => hq V' h' tk ?_ st'.1 fun b o hb => k b o (by simp [hb])
    have : some V' = some V := by rw [← hP]; simpa using hV
    cases this; exact e2
  done := fun s Q E H mt hJ g st _ hq => by
    obtain ⟨vs, hl, e, _⟩ := mt a _ g
    have hne : a ≠ J := fun q => by rw [q, hJ] at g; cases g
    refine (Walks.tuple (prog := P.prog) (w := P.w) hh J a hne vs).done s Q E ⟨?_, hl⟩ fun h' tk k => hq h' tk fun b o hb => k b o (by simp [hb])
    have : vs.size = xs.length := by rw [← e]; simp
    rw [this]; exact st
  self := fun i s Q E st hq => wpAny_pyIter_tupleiter st hq

theorem turns_range {P : Pm} {A : Around} (hh : A.handled = none) (J : Addr) (lo hi st : Int) : Turns P A J (fun _ => True) (rangeL lo hi st) (fun i h => IsRangeIter h J (lo + (i : Nat) * st) (((Builtin.Range.rangeSize lo hi st).toNat : Int) - (i : Nat)) st) where
  at_ := fun i h r => ⟨_, r⟩
  frame := fun i h h' r k => k _ r
  item := fun i s Q E H mt hJ g r v hv hq => by
    have hi : i < (Builtin.Range.rangeSize lo hi st).toNat := by have := (List.getElem?_eq_some_iff.mp hv).1; simpa [rangeL] using this
    refine (Walks.range (prog := P.prog) (w := P.w) hh J lo st _).item i s Q E hi r fun V h' tk hP st' k => hq V h' tk ?_ st' fun b o hb => k b o (by simp [hb])
    obtain ⟨t, rfl⟩ := hP
    simp [rangeL, hi] at hv
    simp [er, hv]
  done := fun s Q E H mt hJ g r _ hq => by
    have : (rangeL lo hi st).length = (Builtin.Range.rangeSize lo hi st).toNat := by simp [rangeL]
    rw [this] at r
    exact (Walks.range (prog := P.prog) (w := P.w) hh J lo st (Builtin.Range.rangeSize lo hi st).toNat).done s Q E r fun h' tk k => hq h' tk fun b o hb => k b o (by simp [hb])
  self := fun i s Q E r hq => wpAny_pyIter_rangeiter r hq

theorem turns_str {P : Pm} {A : Around} {J : Addr} {x : Str} {St : Nat → Heap → Prop} (W : Walks P.prog P.w A J [J] [J] x.cps.size (SignAt x) St) (hat : ∀ i h, St i h → ∃ o, h.get? J = some o) : Turns P A J (fun _ => True) (x.cps.toList.map fun c => .str (chr1 c) 0) St where
  at_ := hat
  frame := fun i h h' r k => W.frame i h h' r fun b hb o e => by simp at hb; subst hb; exact k o e
  item := fun i s Q E H mt hJ g r v hv hq => by
    have hi : i < x.cps.size := by have := (List.getElem?_eq_some_iff.mp hv).1; simpa using this
    refine W.item i s Q E hi r fun V h' tk hP st' k => hq V h' tk ?_ st' fun b o hb => k b o (by simp [hb])
    obtain ⟨c, u, hc, rfl⟩ := hP
    simp at hv
    obtain ⟨c', hc', rfl⟩ := hv
    rw [hc] at hc'; cases hc'
    rfl
  done := fun s Q E H mt hJ g r _ hq => by
    refine W.done s Q E (by simpa using r) fun h' tk k => hq h' tk fun b o hb => k b o (by simp [hb])
  self := fun i s Q E r hq => W.self i s Q E r hq

section
variable {P : Pm} {F : Fm} {G : Gx} {n : Nat} {hm : Bool} {l : Loc} {H : Hp} {s : Shared}

theorem s_iter (K : FmOk P F) (HM : HmOk hm F) (I : Inv P F l H s) {E : Value → Shared → Prop} {V : Value} {k : (Hp → Prop) → List Value → Prop} (h : iterH hm (er V) H k) :
    wpAny P.M F.A (pyIter V) (fun it s' => ∃ guard items J St, k guard items ∧ it = .ref J ∧ Inv P F l H s' ∧ Off F H J ∧ P.base.objs.size ≤ J ∧ St 0 s'.heap ∧ ∀ A : Around, A.handled = F.A.handled → Turns P A J guard items St) E s := by
  have of := I.ofSize K
  have bz := I.base_le K
  rcases h with ⟨hf, h⟩ | ⟨_, a, e, hx, h⟩
  rotate_left
  · have := er_ref e; subst this
    obtain ⟨vs, hl, _⟩ := I.objs _ _ hx
    exact wpAny_pyIter_list hl ⟨_, _, _, _, h, rfl, I.push _, of, bz, ⟨_, Heap.get?_push_size _ rfl, rfl, rfl⟩, fun A _ => turns_nil _ a⟩
  have hn := HM.2 hf
  rw [hn]
  unfold iterV at h
  split at h
  · rename_i x _ e; obtain ⟨t, rfl⟩ := er_str e
    cases ha : x.cps.all (· < 128)
    · exact wpAny_pyIter_wide ha ⟨_, _, _, _, h, rfl, I.push _, of, bz, ⟨_, Heap.get?_push_size _ rfl, rfl, rfl⟩, fun A hA => turns_str (Walks.strWide hA _ x t) fun i h ⟨o, ho, _⟩ => ⟨o, ho⟩⟩
    · exact wpAny_pyIter_ascii ha ⟨_, _, _, _, h, rfl, I.push _, of, bz, ⟨_, Heap.get?_push_size _ rfl, rfl, rfl⟩, fun A hA => turns_str (Walks.strAscii hA _ x t) fun i h ⟨o, ho, _⟩ => ⟨o, ho⟩⟩
  · rename_i a e; have := er_ref e; subst this
    split at h
    · rename_i xs hx
      obtain ⟨vs, hl, _⟩ := I.objs _ _ hx
      exact wpAny_pyIter_list hl ⟨_, _, _, _, h, rfl, I.push _, of, bz, ⟨_, Heap.get?_push_size _ rfl, rfl, rfl⟩, fun A hA => turns_list hA _ a xs⟩
    · rename_i xs hx
      obtain ⟨vs, hl, _⟩ := I.objs _ _ hx
      exact wpAny_pyIter_tuple hl ⟨_, _, _, _, h, rfl, I.push _, of, bz, ⟨_, Heap.get?_push_size _ rfl, rfl, rfl⟩, fun A hA => turns_tup hA _ a xs⟩
    · rename_i lo hi st hx
      obtain ⟨t, u, v, hr⟩ := I.objs _ _ hx
      refine wpAny_pyIter_range hr h.1 ⟨_, _, _, _, h.2, rfl, I.push _, of, bz, ?_, fun A hA => turns_range hA _ lo hi st⟩
      have hz : ((Builtin.Range.rangeSize lo hi st).toNat : Int) = Builtin.Range.rangeSize lo hi st := (rangeSize_toNat lo hi st).symm
      show IsRangeIter _ _ (lo + ((0 : Nat) : Int) * st) (((Builtin.Range.rangeSize lo hi st).toNat : Int) - ((0 : Nat) : Int)) st
      rw [hz]
      have e1 : lo + ((0 : Nat) : Int) * st = lo := by simp
      have e2 : Builtin.Range.rangeSize lo hi st - ((0 : Nat) : Int) = Builtin.Range.rangeSize lo hi st := by simp
      rw [e1, e2]
      exact Heap.get?_push_size _ rfl
    · exact h.elim
  · exact h.elim
end
end Mine
end

section
open PySem PyProof.Rows PySem.Calls
open PySem.W (Looks looks_subIn looks_typeIn looks_mroIn)
namespace Mine

/-! ## statements -/
noncomputable def PostS (P : Pm) (F : Fm) (Q : QS) : Flow → Shared → Prop := fun f s' => ∃ l' H', Inv P F l' H' s' ∧ (match f with
  | .next => Q .next l' H'
  | .cont => Q .cont l' H'
  | .ret V => Q (.ret (er V)) l' H'
  | .brk => False)
noncomputable def PostSX (P : Pm) (F : Fm) (X : XS) : Value → Shared → Prop := fun EV s' => ∃ l' H' e C, EV = .ref e ∧ Inv P F l' H' s' ∧ Exc P F H' s' e C false ∧ X C l' H'

section
variable {P : Pm} {F : Fm} {G : Gx} {n : Nat} {hm : Bool} {l : Loc} {H : Hp} {s : Shared}

theorem PostX.toS {X : XS} {V : Value} {s' : Shared} (h : PostX P F l (fun C H' => X C l H') V s') : PostSX P F X V s' :=
  let ⟨H', e, C, q, I, x, z⟩ := h; ⟨l, H', e, C, q, I, x, z⟩

noncomputable def S1 (P : Pm) (G : Gx) (n : Nat) (hm : Bool) (sc : Scope) (st : Stmt) (st' : Sm) : Prop :=
  ∀ ⦃F : Fm⦄ ⦃l : Loc⦄, FmOk P F → ScOk sc F → Room n F.A → HmOk hm F → F.ro = false → ∀ {H : Hp} {s : Shared} {Q : QS} {X : XS}, Inv P F l H s → wpS G hm st' l H Q X → wpAny P.M F.A (exec st F.env) (PostS P F Q) (PostSX P F X) s
noncomputable def SS (P : Pm) (G : Gx) (n : Nat) (hm : Bool) (sc : Scope) (st : List Stmt) (st' : List Sm) : Prop :=
  ∀ ⦃F : Fm⦄ ⦃l : Loc⦄, FmOk P F → ScOk sc F → Room n F.A → HmOk hm F → F.ro = false → ∀ {H : Hp} {s : Shared} {Q : QS} {X : XS}, Inv P F l H s → wpSs G hm st' l H Q X → wpAny P.M F.A (execs st F.env) (PostS P F Q) (PostSX P F X) s

theorem ss_nil {sc : Scope} : SS P G n hm sc [] [] := by
  intro F l K S R HM ro H s Q X I q
  conv at q => whnf
  exact wpAny_execs_nil ⟨l, H, I, q⟩
theorem ss_cons {sc : Scope} {st : Stmt} {st' : Sm} {r : List Stmt} {r' : List Sm} (h : S1 P G n hm sc st st') (hr : SS P G n hm sc r r') : SS P G n hm sc (st :: r) (st' :: r') := by
  intro F l K S R HM ro H s Q X I q
  conv at q => whnf
  refine wpAny_execs_cons (wpAny_mono (h K S R HM ro I q) (fun f s' z => ?_) fun _ _ z => z)
  obtain ⟨l', H', I', z⟩ := z
  cases f with
  | next => exact hr K S R HM ro I' z
  | brk => exact z.elim
  | cont => exact ⟨l', H', I', z⟩
  | ret v => exact ⟨l', H', I', z⟩

noncomputable def notComp : Expr → Bool
  | .ListComp .. | .SetComp .. | .DictComp .. => false
  | _ => true
theorem swaps_no {v : Expr} {t : Option Expr} {line : Nat} {env : Env} (h : notComp v = true) : swapsWith v t line env = pure false := by
  cases v <;> first | rfl | cases h

theorem s1_expr {sc : Scope} {e : Expr} {e' : Ex} {pos : Pos} (hc : notComp e = true) (h : SE P G n hm sc e e') : S1 P G n hm sc (.Expr e pos) (.expr e') := by
  intro F l K S R HM ro H s Q X I q
  conv at q => whnf
  refine wpAny_Expr_any (wpAny_mono (h K S R HM I q) (fun V s' z => ?_) fun _ _ z => PostX.toS z) ?_ (swaps_no hc)
  · obtain ⟨H', I', z⟩ := z
    exact ⟨l, H', I', z⟩
  · unfold interactive; rw [K.kind]; rfl

theorem s1_ret {sc : Scope} {e : Expr} {e' : Ex} {pos : Pos} (h : SE P G n hm sc e e') : S1 P G n hm sc (.Return (some e) pos) (.ret e') := by
  intro F l K S R HM ro H s Q X I q
  conv at q => whnf
  rw [arm_exec_Return]
  refine wpAny_bind (wpAny_standAt ?_)
  show wpAny P.M F.A (do return Flow.ret (← eval e F.env)) _ _ s
  refine wpAny_bind (wpAny_mono (h K S R HM I q) (fun V s' z => wpAny_pure ?_) fun _ _ z => PostX.toS z)
  obtain ⟨H', I', z⟩ := z
  exact ⟨l, H', I', z⟩
/-- a name that may be bound here -/
noncomputable def isSt (sc : Scope) (x : Str) : Bool := match sc.names.lookup x with
  | some .local | some .cell => true
  | _ => false
theorem st_of {sc : Scope} (S : ScOk sc F) {x : Str} (h : isSt sc x = true) : F.env.kindOf x = some .local ∨ (F.env.kindOf x = some .cell ∧ ∃ c, F.env.cells.lookup x = some c) := by
  unfold isSt at h
  split at h
  · rename_i e; exact .inl (S.locl x e)
  · rename_i e; exact .inr (S.cell x e)
  · cases h

theorem s1_asg {sc : Scope} {x : Str} {p pos : Pos} {e : Expr} {e' : Ex} (hx : isSt sc x = true) (hc : notComp e = true) (h : SE P G n hm sc e e') : S1 P G n hm sc (.Assign [.Name x p] e pos) (.asg x e') := by
  intro F l K S R HM ro H s Q X I q
  conv at q => whnf
  refine wpAny_Assign_Name (wpAny_mono (h K S R HM I q) (fun V s' z => ?_) fun _ _ z => PostX.toS z) (swaps_no hc)
  obtain ⟨H', I', z⟩ := z
  exact st_loc K I' ro (st_of S hx) fun s'' I'' => ⟨_, _, I'', z⟩

theorem swaps_sub {v : Expr} {o i : Expr} {p : Pos} {line : Nat} {env : Env} : swapsWith v (some (.Subscript o i p)) line env = pure false := by
  cases v <;> rfl

theorem stored_er {K : Type} [DecidableEq K] (ks : List (K × Value)) (k : K) (v : Value) : (stored ks k v).map (fun p => (p.1, er p.2)) = stored (ks.map fun p => (p.1, er p.2)) k (er v) := by
  unfold stored
  have e1 : (ks.map fun p => (p.1, er p.2)).any (fun kv => decide (kv.1 = k)) = ks.any (fun kv => decide (kv.1 = k)) := by rw [List.any_map]; rfl
  rw [e1]
  split
  · rw [List.map_map, List.map_map]
    apply List.map_congr_left
    intro p _
    by_cases h : p.1 = k <;> simp [h]
  · simp

theorem s_setitem (Y : PmOk P) (I : Inv P F l H s) {E : Value → Shared → Prop} {O J V : Value} {k : Hp → Prop} (h : setItemV (er O) (er J) (er V) H k) : wpAny P.M F.A (setItem O J V) (fun _ s' => ∃ H', Inv P F l H' s' ∧ k H') E s := by
  unfold setItemV at h
  split at h
  · rename_i a i _ e1 e2; have := er_ref e1; subst this; obtain ⟨t, rfl⟩ := er_int e2
    split at h
    · rename_i kvs hx
      obtain ⟨hz, q⟩ := h
      obtain ⟨ks, hd, e⟩ := I.objs _ _ hx
      refine wpAny_setItem_pairs (intKind_is _ _ _ _) hd (fun h' hd' sb => ⟨_, I.put (t := s.toks + 1) (o' := .idict ((stored ks i V).map fun p => (p.1, er p.2))) hx (fun b hb => sb.2 b hb) ⟨_, hd', rfl⟩, ?_⟩) (by rw [← e] at hz; simpa using hz)
      rw [stored_er, e]; exact q
    · rename_i xs hx
      obtain ⟨h0, h1, q⟩ := h
      obtain ⟨vs, hl, e, hz, n, e0⟩ := I.objs _ _ hx
      have hsz : vs.size = xs.length := by rw [← e]; simp
      refine PySem.W.ki_setAt (n := n) e0 h0 (by omega) (by omega) ⟨_, I.put (t := s.toks) hx (fun b hb => Heap.get?_update_other _ _ (Ne.symm hb)) (mt_list (IsL.update ⟨n, e0⟩ _) (by simpa [hsz] using hz)), ?_⟩
      rw [show (vs.setIfInBounds i.toNat V).toList.map er = xs.set i.toNat (er V) by rw [← e]; simp [List.map_set]]
      exact q
    · exact h.elim
  · rename_i a x _ e1 e2; have := er_ref e1; subst this; obtain ⟨t, rfl⟩ := er_str e2
    split at h
    · rename_i kvs hx
      obtain ⟨hz, q⟩ := h
      obtain ⟨ks, hd, e⟩ := I.objs _ _ hx
      refine wpAny_setItem_pairs (strKind_is _ _ _ _) hd (fun h' hd' sb => ⟨_, I.put (t := s.toks + 1) (o' := .sdict ((stored ks x V).map fun p => (p.1, er p.2))) hx (fun b hb => sb.2 b hb) ⟨_, hd', rfl⟩, ?_⟩) (by rw [← e] at hz; simpa using hz)
      rw [stored_er, e]; exact q
    · rename_i kvs hx
      obtain ⟨hz, q⟩ := h
      obtain ⟨ks, hd, e⟩ := I.objs _ _ hx
      subst hz
      have : ks = [] := by cases ks with | nil => rfl | cons _ _ => simp at e
      subst this
      refine wpAny_setItem_pairs (strKind_is _ _ _ _) (empty_sdict hd) (fun h' hd' sb => ⟨_, I.put (t := s.toks + 1) (o' := .sdict ((stored ([] : List (Str × Value)) x V).map fun p => (p.1, er p.2))) hx (fun b hb => sb.2 b hb) ⟨_, hd', rfl⟩, ?_⟩) (by simp)
      rw [stored_er]; exact q
    · exact h.elim
  · exact h.elim

theorem s1_asgIdx (Y : PmOk P) {sc : Scope} {o i e : Expr} {p pos : Pos} {o' i' e' : Ex} (ho : SE P G n hm sc o o') (hi : SE P G n hm sc i i') (h : SE P G n hm sc e e') : S1 P G n hm sc (.Assign [.Subscript o i p] e pos) (.asgIdx o' i' e') := by
  intro F l K S R HM ro H s Q X I q
  conv at q => whnf
  refine wpAny_Assign_Subscript (wpAny_mono (h K S R HM I q) (fun V s' z => ?_) fun _ _ z => PostX.toS z) swaps_sub
  obtain ⟨H1, I1, z⟩ := z
  refine wpAny_mono (ho K S R HM I1 z) (fun V2 s2 z => ?_) fun _ _ z => PostX.toS z
  obtain ⟨H2, I2, z⟩ := z
  refine wpAny_mono (hi K S R HM I2 z) (fun V3 s3 z => ?_) fun _ _ z => PostX.toS z
  obtain ⟨H3, I3, z⟩ := z
  refine wpAny_mono (s_setitem Y I3 z) (fun _ s4 z => ?_) fun _ _ z => z
  obtain ⟨H4, I4, z⟩ := z
  exact ⟨l, H4, I4, z⟩

theorem s1_if {sc : Scope} {c : Expr} {c' : Ex} {t f : List Stmt} {t' f' : List Sm} {pos : Pos} (hc : ST P G n hm sc c c') (ht : SS P G n hm sc t t') (hf : SS P G n hm sc f f') : S1 P G n hm sc (.If c t f pos) (.ite c' t' f') := by
  intro F l K S R HM ro H s Q X I q
  conv at q => whnf
  refine wpAny_If (wpAny_mono (hc K S R HM (k := fun b H1 => if b then wpSs G hm t' l H1 Q X else wpSs G hm f' l H1 Q X) I q) (fun b s' z => ?_) fun _ _ z => PostX.toS z)
  obtain ⟨H', I', z⟩ := z
  cases b with
  | true => exact ht K S R HM ro I' z
  | false => exact hf K S R HM ro I' z

/-- an exception leaves a loop's body -/
theorem s_noted (K : FmOk P F) (ro : F.ro = false) {X : XS} {EV : Value} (z : PostSX P F X EV s) : notedBy P.M F.A F.env (fun e s' => cameBackBy P.M F.A F.env (PostSX P F X) e s') EV s := by
  obtain ⟨l', H', e, C, rfl, I, x, z⟩ := z
  exact s_note K I ro x fun s' I' x' => s_cameBack I' x' fun s'' I'' x'' => ⟨l', H', e, C, rfl, I'', x''.weak, z⟩

noncomputable def notSet : Expr → Bool
  | .Set .. => false
  | _ => true
theorem folded_no {e : Expr} {env : Env} {x : Value} (h : notSet e = true) : foldedSetIterable e env x = pure x := by
  cases e <;> first | rfl | cases h

/-- off our things, with an object that stays -/
theorem Inv.turn (K : FmOk P F) (I : Inv P F l H s) {J : Addr} (of : Off F H J) {h' : Heap} {t : Nat} (k : ∀ b o, b ≠ J → s.heap.get? b = some o → h'.get? b = some o) : Inv P F l H { s with heap := h', toks := t } :=
  I.step fun b o e hn => k b o (fun q => hn (q ▸ of)) e

theorem s1_for {sc : Scope} {x : Str} {px pos : Pos} {it : Expr} {it' : Ex} {b : List Stmt} {b' : List Sm} (hx : isSt sc x = true) (hset : notSet it = true) (hi : SE P G n hm sc it it') (hb : SS P G n hm sc b b') :
    S1 P G n hm sc (.For (.Name x px) it b [] pos) (.for_ x it' b') := by
  intro F l K S R HM ro H s Q X I q
  conv at q => whnf
  refine wpAny_For (wpAny_mono (hi K S R HM I q) (fun V s1 q => ?_) fun _ _ z => PostX.toS z) (fun _ => folded_no hset)
  obtain ⟨H1, I1, q⟩ := q
  refine wpAny_mono (s_iter K HM I1 q) (fun it s2 q => ?_) fun _ _ z => z
  obtain ⟨guard, items, J, St, q, rfl, I2, of, bz, st, T⟩ := q
  have T := T F.A rfl
  refine codeAny_forLoop (fun k s => ∃ i l H, Inv P F l H s ∧ Off F H J ∧ St i s.heap ∧ i ≤ items.length ∧ k = items.length - i + 1 ∧ forG guard x (fun l' H' K => wpSs G hm b' l' H' K X) (items.drop i) l H Q) ?_ (items.length + 1) ⟨0, l, H1, I2, of, st, Nat.zero_le _, rfl, q⟩
  rintro k s ⟨i, l, H, I, of, st, hle, hk, q⟩
  rcases Nat.lt_or_ge i items.length with hi | hi
  · obtain ⟨v, hv⟩ : ∃ v, items[i]? = some v := ⟨_, List.getElem?_eq_getElem hi⟩
    have hd : items.drop i = v :: items.drop (i + 1) := by
      rw [List.drop_eq_getElem_cons hi]
      have := List.getElem?_eq_getElem hi
      rw [hv] at this; cases this; rfl
    rw [hd] at q
    unfold forG at q
    obtain ⟨g, q⟩ := q
    refine T.item i s _ _ H I.objs of.h g st v hv fun V h' tk hV st' k' => ?_
    have I' := I.turn (t := tk) K of k'
    obtain ⟨o, ho⟩ := T.at_ _ _ st'
    dsimp only
    have KA := K.also (o := o) of
    have SA : ScOk sc (F.also J o) := ⟨S.loc, S.glob, S.locl, S.cell⟩
    refine wpAny_assign_Name (st_loc KA (I'.also of ho) ro (st_of SA hx) fun s3 I3 => ?_)
    rw [hV] at I3
    refine wpAny_mono (hb KA SA R (HM.also of.g) ro I3 q) (fun f s4 z => ?_) fun EV s4 z => ?_
    · obtain ⟨l4, H4, I4, z⟩ := z
      obtain ⟨I5, ho5, of5⟩ := I4.back K of
      have st5 : St (i + 1) s4.heap := T.frame _ _ _ st' fun o' e => by rw [ho] at e; cases e; exact ho5
      have nx : forG guard x (fun l' H' K => wpSs G hm b' l' H' K X) (items.drop (i + 1)) l4 H4 Q → ∃ m, m < k ∧ ∃ i l H, Inv P F l H s4 ∧ Off F H J ∧ St i s4.heap ∧ i ≤ items.length ∧ m = items.length - i + 1 ∧ forG guard x (fun l' H' K => wpSs G hm b' l' H' K X) (items.drop i) l H Q :=
        fun q => ⟨items.length - (i + 1) + 1, by omega, i + 1, l4, H4, I5, of5, st5, hi, rfl, q⟩
      cases f with
      | next => exact nx z
      | cont => exact nx z
      | brk => exact z.elim
      | ret v => exact ⟨l4, H4, I5, z⟩
    · obtain ⟨l', H', e, C, rfl, I4, x4, z⟩ := z
      exact s_noted K ro ⟨l', H', e, C, rfl, (I4.back K of).1, x4.back, z⟩
  · have : i = items.length := Nat.le_antisymm hle hi
    subst this
    rw [List.drop_length] at q
    unfold forG at q
    refine T.done s _ _ H I.objs of.h q.1 st (HM.1.at_ I of.g) fun h' tk k' => wpAny_execs_nil ⟨l, H, I.turn K of k', q.2⟩
end
end Mine
end

section
open PySem PyProof.Rows PySem.Calls
open PySem.W (Looks looks_subIn looks_typeIn looks_mroIn)
namespace Mine

section
variable {P : Pm} {F : Fm} {G : Gx} {n : Nat} {hm : Bool} {l : Loc} {H : Hp} {s : Shared}

theorem s1_raise (Y : PmOk P) (GO : GxOk P G) {sc : Scope} {x m : Str} {np cpos pos mp : Pos} {kk : Nat} (hl : isLoc sc x = some false) : S1 P G n hm sc (.Raise (some (.Call (.Name x np) [.Constant (.str m) kk mp] [] cpos)) none pos) (.raise x) := by
  intro F l K S R HM ro H s Q X I q
  conv at q => whnf
  obtain ⟨hmf, q⟩ := q
  split at q
  · rename_i C hC
    obtain ⟨he, q⟩ := q
    obtain ⟨V, hV, hg⟩ := GO.glob x _ hC
    have := er_ref hV; subst this
    obtain ⟨bm, N, nm, qn, bs, hdct, sn, sub, ab, col, dd, k0, k1, k2, k3, k5, mN, c1, c2, c3, c4⟩ := GO.own C he
    have FB := PySem.F.excBase_ValueError
    refine wpAny_Raise_call_subT (C := C) (nm := nm) (q := qn) (N := N) (bs := bs) (bm := bm) (hdct := hdct) (sn := sn) (sub := sub) (ab := ab) (col := col) (dd := dd) (k0 := k0) (k1 := k1) (k2 := k2) (k3 := k3) (k5 := k5)
      FB (mN := mN) (c4.hasType FB.hasBase) (HM.2 hmf) (backTo_plain rfl) c3 (ld_glob Y K I hg (S.glob x hl) (isLoc_false hl) ⟨rfl, ?_⟩)
    refine evalArgs_any rfl (spliced_cons (wpAny_Constant_str (k := kk) (pos := mp) (spliced_nil ?_)))
    have k : ∀ b o, P.base.get? b = some o → s.heap.get? b = some o := fun b o e => I.keep b o (K.base b o e)
    refine ⟨rfl, by simp [sizeLine], k _ _ c1, c2.keeps k, c4.keeps k, fun h' e M => ?_⟩
    obtain ⟨t, m1, m2, m3⟩ := M.there
    refine ⟨l, H, e, C, rfl, I.step (t := s.toks + 1) fun b o hb _ => M.keeps b o hb, ⟨trivial, I.off K M.new, none, ⟨_, _, m1, rfl, rfl, ⟨rfl, rfl⟩, rfl⟩, fun t q => (nomatch q), fun q => (nomatch q)⟩, q⟩
  · exact q.elim

/-! ## try -/
theorem s_matches (Y : PmOk P) (GO : GxOk P G) (K : FmOk P F) (I : Inv P F l H s) {A : Around} {E : Value → Shared → Prop} {e C D : Addr} {b : Bool} (x : Exc P F H s e C b) (hc : G.isExc C = true) (hd : G.isExc D = true) {Q : Bool → Shared → Prop} (h : Q (G.sub C D) s) :
    wpAny P.M A (excMatches (.ref e) (.ref D)) Q E s := by
  have X := I.kin Y K
  obtain ⟨T, ⟨oe, vs, h1, h2, h3, h5, h4⟩, _⟩ := x.at_
  have LT : Looks P.M s.heap (typeOf (.ref D)) (.type "type") := looks_typeIn X (GO.exc D hd).ty
  have L1 : Looks P.M s.heap (isInstance (.ref D) (.type "tuple")) false := LT.andThen (Looks.of_pure (by rw [isSubtype_type]; kernel_rfl))
  have L2 : Looks P.M s.heap (isExcClass (.ref D)) true := by
    have a := (ask_own _ (GO.exc D hd)).is P.M _ X
    unfold isExcClass
    exact a.andThen (looks_mroIn X (GO.exc D hd).be)
  have L3 : Looks P.M s.heap (typeOf (.ref e)) (.ref C) := by
    have II : PySem.W.InstAt s.heap e oe C none := ⟨h1, h2, by unfold PySem.W.notCls; rw [h3], by rw [h5.1]; trivial⟩
    exact II.type
  have L4 := looks_subIn (M := P.M) X (GO.sub C D hc hd)
  obtain ⟨hh, g, d, t, os⟩ := s
  unfold excMatches
  refine wpAny_bind (L1.at ?_)
  simp only [Bool.false_eq_true, if_false]
  refine wpAny_bind (wpAny_pure ?_)
  simp only [List.forIn_cons, List.forIn_nil, bind_assoc, pure_bind]
  refine wpAny_bind (L2.at ?_)
  simp only [Bool.not_true, Bool.false_eq_true, if_false]
  refine wpAny_bind (wpAny_pure (wpAny_bind (wpAny_pure (wpAny_bind (L3.at (wpAny_bind (L4.at ?_)))))))
  cases hb : G.sub C D with
  | true =>
    rw [hb] at h
    exact wpAny_bind (wpAny_pure (wpAny_bind (wpAny_pure (wpAny_pure h))))
  | false =>
    rw [hb] at h
    exact wpAny_bind (wpAny_pure (wpAny_bind (wpAny_pure (wpAny_pure h))))

theorem s_passOn (I : Inv P F l H s) {α : Type} {e C : Addr} (x : Exc P F H s e C true) {what : String} {Q : α → Shared → Prop} {E : Value → Shared → Prop} (h : ∀ s', Inv P F l H s' → Exc P F H s' e C true → E (.ref e) s') :
    wpAny P.M F.A (PySem.passOn (α := α) what (.ref e) F.env) Q E s := by
  obtain ⟨T, ha, ht, hbt⟩ := x.at_
  obtain ⟨oe, vs, h1, h2, h3, h5, h4⟩ := ha
  unfold PySem.passOn
  cases T with
  | none => simp at hbt
  | some t =>
    obtain ⟨a1, a2, r⟩ := h4
    refine wpAny_bind (wpAny_field h1 h3 a1 ?_)
    rw [if_neg (by simp)]
    exact wpAny_bind (s_flight I x fun s' I' x' => wpAny_throw (h s' I' x'))

/-- the handlers, as they stand -/
inductive SH (P : Pm) (G : Gx) (n : Nat) (sc : Scope) : List ExceptHandler → List Hd → Prop where
  | nil : SH P G n sc [] []
  | plain {x : Str} {xp pos : Pos} {b₀ : Stmt} {body : List Stmt} {body' : List Sm} {r : List ExceptHandler} {r' : List Hd} : isLoc sc x = some false → SS P G n true sc (b₀ :: body) body' → SH P G n sc r r' →
      SH P G n sc (.ExceptHandler (some (.Name x xp)) none (b₀ :: body) pos :: r) (.mk x none body' :: r')
  | as {x y : Str} {xp pos : Pos} {b₀ : Stmt} {body : List Stmt} {body' : List Sm} {r : List ExceptHandler} {r' : List Hd} : isLoc sc x = some false → sc.names.lookup y = some .local → SS P G n true sc (b₀ :: body) body' → SH P G n sc r r' →
      SH P G n sc (.ExceptHandler (some (.Name x xp)) (some y) (b₀ :: body) pos :: r) (.mk x (some y) body' :: r')

theorem Exc.withA {A : Around} {e C : Addr} {b : Bool} (x : Exc P F H s e C b) : Exc P { F with A := A } H s e C b := ⟨x.big, ⟨x.off.h, x.off.g, x.off.fr, x.off.l, x.off.c⟩, let ⟨T, h1, h2, h3⟩ := x.at_; ⟨T, h1, fun t ht => let z := h2 t ht; ⟨z.h, z.g, z.fr, z.l, z.c⟩, h3⟩⟩

theorem x_none (K : FmOk P F) (hh : F.A.handled = none) : F.x = none := by
  cases e : F.x with
  | none => rfl
  | some a => have := (K.xg a e).2; rw [hh] at this; cases this
/-- an exception with a name -/
noncomputable def Fm.named (F : Fm) (e : Addr) (o : Obj) : Fm := { F.also e o with x := some e }
theorem FmOk.named {o : Obj} {e : Addr} (K : FmOk P F) (x : Off F H e) (h : F.A.handled = some (.ref e)) : FmOk P (F.named e o) :=
  have K' := K.also (o := o) x
  ⟨K'.kind, K'.glob, K'.blt, K'.base, K'.above, K'.lg, K'.lf, K'.cl, K'.cg, K'.apart, K'.cn, K'.cf, K'.fg, K'.frames, fun a q => by
    have q : some e = some a := q
    cases q
    exact ⟨⟨o, if_pos rfl⟩, h⟩⟩
theorem Inv.named {e C : Addr} {vs : Array Value} {sl : Array (Option Value)} (I : Inv P F l H s) (hx : F.x = none) (x : Off F H e) (h : s.heap.get? e = some { cls := .ref C, dict := none, data := .fields vs, slots := sl }) : Inv P (F.named e { cls := .ref C, dict := none, data := .fields vs, slots := sl }) l (H.upd e (.exc C)) s := by
  have I' := I.also x h
  refine ⟨I'.gens, I'.os, I'.keep, I'.frk, I'.loc, I'.cel, fun a o q => ?_, fun a o q => ?_, fun a o q => ?_⟩
  · by_cases z : a = e
    · subst z; rw [Hp.upd_same] at q; cases q; exact ⟨vs, sl, h⟩
    · rw [Hp.upd_ne _ _ z] at q; exact I'.objs a o q
  · by_cases z : a = e
    · subst z; rw [Hp.upd_same] at q; cases q; exact rfl
    · rw [Hp.upd_ne _ _ z] at q
      cases hr : o.isR with
      | false =>
        have f := of_fre (I'.free a o q) hr
        exact fre_of hr f
      | true =>
        rcases r_fre (I.free a o q) hr with w | w
        · cases o <;> first | exact w | (cases hr; done) | skip
          have := I.free a _ q
          rw [show Fre P F a (.exc _) = (F.x = some a) from rfl, hx] at this; cases this
        · rw [hx] at w; cases w
  · by_cases z : a = e
    · subst z; rw [Hp.upd_same] at q; cases q; exact trivial
    · rw [Hp.upd_ne _ _ z] at q; exact I'.big a o q
theorem Inv.unnamed {e : Addr} {o : Obj} (K : FmOk P F) (hx : F.x = none) {H0 : Hp} (x : Off F H0 e) (I : Inv P (F.named e o) l H s) : Inv P F l (H.del e) s := by
  have sub : ∀ a o', (H.del e) a = some o' → a ≠ e ∧ H a = some o' := fun a o' q => by
    have q : (if a = e then none else H a) = some o' := q
    split at q
    · cases q
    · exact ⟨‹_›, q⟩
  refine ⟨I.gens, I.os, fun b o' q => I.keep b o' ?_, I.frk, I.loc, I.cel, fun a o' q => I.objs a o' (sub a o' q).2, fun a o' q => ?_, fun a o' q => I.big a o' (sub a o' q).2⟩
  · show (if b = e then some o else F.g b) = some o'
    rw [if_neg (fun z => by rw [z, x.g] at q; cases q)]; exact q
  · obtain ⟨ne, q⟩ := sub a o' q
    cases hr : o'.isR with
    | true =>
      have f := I.free a o' q
      cases o' <;> first | (cases hr; done) | skip
      · exact f
      have f : some e = some a := f
      cases f; exact absurd rfl ne
    | false =>
      obtain ⟨h1, h2⟩ := of_fre (I.free a o' q) hr
      refine fre_of hr ⟨?_, h2⟩
      have h1 : (if a = e then some o else F.g a) = none := h1
      rw [if_neg ne] at h1; exact h1
theorem s_unbind (K : FmOk P F) (I : Inv P F l H s) (ro : F.ro = false) {y : Str} (hy : F.env.kindOf y = some .local) {pos : Pos} {E : Value → Shared → Prop} {Q : Unit → Shared → Prop} (h : ∀ s', Inv P F (l.del y) H s' → Q () s') :
    wpAny P.M F.A (do bindName F.env y .none; unbindBehindTheSuite F.env y pos) Q E s := by
  refine wpAny_bind (wpAny_bindName (st_loc K I ro (.inl hy) fun s1 I1 => ?_))
  unfold unbindBehindTheSuite
  obtain ⟨m, hn, hm⟩ := I1.loc
  obtain ⟨V, hV, _⟩ := hm y .none (by simp [Loc.upd, er]) hy
  refine wpAny_onRaise (wpAny_unbindName_local hy hn hV (by rw [K.kind]; rfl) fun h' u hn' sb => h _ ?_)
  refine I1.stepL (t := s1.toks) (fun b o e hb _ => sb.extBut b o hb e) hn' K (fun x v hx hk => ?_) fun x v hx hk => ?_
  · by_cases q : x = y
    · simp [Loc.del, q] at hx
    · simp [Loc.del, q] at hx
      simp only [if_neg q]
      exact hm x v (by simpa [Loc.upd, q] using hx) hk
  · by_cases q : x = y
    · simp [Loc.del, q] at hx
    · simpa [Loc.upd, Loc.del, q] using hx

theorem s_handle (Y : PmOk P) (GO : GxOk P G) {sc : Scope} {hs : List ExceptHandler} {hs' : List Hd} (h : SH P G n sc hs hs') (K : FmOk P F) (S : ScOk sc F) (R : Room n F.A) (hh : F.A.handled = none) (ro : F.ro = false) {e C : Addr} (hc : G.isExc C = true) {Q : QS} {X : XS} :
    ∀ {l H s}, Inv P F l H s → Exc P F H s e C true → wpH G hs' C l H Q X → wpAny P.M F.A (handleBy (.ref e) F.env hs) (PostS P F Q) (PostSX P F X) s := by
  induction h with
  | nil =>
    intro l H s I x q
    simp only [wpH] at q
    exact wpAny_handleBy_nil (s_passOn I x fun s' I' x' => ⟨l, H, e, C, rfl, I', x'.weak, q⟩)
  | @plain y xp pos b₀ body body' r r' hy hb hr ih =>
    intro l H s I x q
    simp only [wpH] at q
    split at q
    · rename_i D hD
      obtain ⟨V, hV, hg⟩ := GO.glob y _ hD
      have := er_ref hV; subst this
      have KM : FmOk P { F with A := F.A.mark (some (.ref e)) } := K.withA rfl (.inl (x_none K hh))
      refine wpAny_handleBy_cons (codeAny_handlers_test ?_) (by intro q; cases q)
      obtain ⟨hdD, q⟩ := q
      refine ld_glob (F := { F with A := F.A.mark (some (.ref e)) }) Y KM (I.withA _) hg (S.glob y hy) (isLoc_false hy) (s_matches Y GO K I x hc hdD ?_)
      cases hsub : G.sub C D with
      | false =>
        rw [hsub] at q
        exact ih I x q
      | true =>
        rw [hsub] at q
        simp only [if_true] at q ⊢
        refine codeAny_handlers_suite (s_flight (F := { F with A := F.A.mark (some (.ref e)) }) (I.withA _) x.withA fun s1 I1 x1 => ?_)
        obtain ⟨T, ⟨oe, vs, h1, h2, h3, h5, h4⟩, _⟩ := x1.at_
        have hd : HdK (Fm.also { F with A := F.A.mark (some (.ref e)) } e oe) := .inr ⟨e, oe, vs, rfl, if_pos rfl, h3, h5.2⟩
        refine wpAny_mono (hb (KM.also x1.off) ⟨S.loc, S.glob, S.locl, S.cell⟩ R ⟨hd, fun z => nomatch z⟩ ro (I1.also x1.off h1) q) (fun f s2 z => ?_) fun EV s2 z => ?_
        · obtain ⟨l2, H2, I2, z⟩ := z
          exact ⟨l2, H2, (I2.back KM x1.off).1.ofA, z⟩
        · obtain ⟨_, _, _, _, _, _, _, z⟩ := z
          exact z.elim
    · exact q.elim
  | @as x y xp pos b₀ body body' r r' hx hy hb hr ih =>
    intro l H s I ex q
    simp only [wpH] at q
    split at q
    · rename_i D hD
      obtain ⟨V, hV, hg⟩ := GO.glob x _ hD
      have := er_ref hV; subst this
      have KM : FmOk P { F with A := F.A.mark (some (.ref e)) } := K.withA rfl (.inl (x_none K hh))
      refine wpAny_handleBy_cons (codeAny_handlers_test ?_) (by intro q; cases q)
      obtain ⟨hdD, q⟩ := q
      refine ld_glob (F := { F with A := F.A.mark (some (.ref e)) }) Y KM (I.withA _) hg (S.glob x hx) (isLoc_false hx) (s_matches Y GO K I ex hc hdD ?_)
      cases hsub : G.sub C D with
      | false =>
        rw [hsub] at q
        exact ih I ex q
      | true =>
        rw [hsub] at q
        simp only [if_true] at q ⊢
        refine codeAny_handlers_suite_as (s_flight (F := { F with A := F.A.mark (some (.ref e)) }) (I.withA _) ex.withA fun s1 I1 x1 => ?_)
        obtain ⟨T, ⟨⟨c, d, dt, sl⟩, vs, h1, h2, h3, h5, h4⟩, _⟩ := x1.at_
        have h2 : c = .ref C := h2
        have h3 : dt = .fields vs := h3
        have h6 : d = none := h5.1
        subst h2 h3 h6
        have hx0 := x_none K hh
        have hxn : (Fm.mk F.env (F.A.mark (some (.ref e))) F.g F.fr F.ro F.x).x = none := hx0
        have KX := KM.named (o := { cls := .ref C, dict := none, data := .fields vs, slots := sl }) x1.off rfl
        have hd : HdK (Fm.named { F with A := F.A.mark (some (.ref e)) } e { cls := .ref C, dict := none, data := .fields vs, slots := sl }) := .inr ⟨e, _, vs, rfl, if_pos rfl, rfl, h5.2⟩
        refine st_loc KX (I1.named hxn x1.off h1) ro (.inl (S.locl y hy)) fun s2 I2 => ?_
        refine wpAny_mono (hb KX ⟨S.loc, S.glob, S.locl, S.cell⟩ R ⟨hd, fun z => nomatch z⟩ ro I2 (q e x1.off.h)) (fun f s3 z => ?_) fun EV s3 z => ?_
        · obtain ⟨l3, H3, I3, z⟩ := z
          refine s_unbind K (I3.unnamed KM hxn x1.off).ofA ro (S.locl y hy) fun s4 I4 => ⟨_, _, I4, ?_⟩
          cases f <;> exact z
        · obtain ⟨_, _, _, _, _, _, _, z⟩ := z
          exact z.elim
    · exact q.elim

theorem s1_try (Y : PmOk P) (GO : GxOk P G) {sc : Scope} {body : List Stmt} {body' : List Sm} {h₀ : ExceptHandler} {hs : List ExceptHandler} {hs' : List Hd} {pos : Pos} (hb : SS P G n hm sc body body') (hh : SH P G n sc (h₀ :: hs) hs') :
    S1 P G n hm sc (.Try body (h₀ :: hs) [] [] pos) (.try_ body' hs') := by
  intro F l K S R HM ro H s Q X I q
  conv at q => whnf
  refine wpAny_Try_except (wpAny_mono (hb K S R HM ro I q) (fun f s1 z => ?_) fun EV s1 z => ?_)
  · obtain ⟨l1, H1, I1, z⟩ := z
    cases f with
    | next => exact wpAny_execs_nil ⟨l1, H1, I1, z⟩
    | brk => exact z.elim
    | cont => exact ⟨l1, H1, I1, z⟩
    | ret v => exact ⟨l1, H1, I1, z⟩
  · obtain ⟨l1, H1, e, C, rfl, I1, x1, hf, hc, z⟩ := z
    refine s_note K I1 ro x1 fun s2 I2 x2 => s_flight I2 x2 fun s3 I3 x3 => ?_
    exact s_handle Y GO hh K S R (HM.2 hf) ro hc I3 x3 z
end
end Mine
end

section
open PySem PyProof.Rows PySem.Calls
namespace Mine

/-! ## a call of a def of one's own -/
noncomputable def isCell (F : Fm) (b : Addr) : Bool := F.env.cells.any fun x => x.2 == b
theorem isCell_mem {F : Fm} {x : Str} {c : Addr} (h : (x, c) ∈ F.env.cells) : isCell F c = true := by
  unfold isCell
  exact List.any_eq_true.mpr ⟨_, h, by simp⟩
theorem mem_isCell {F : Fm} {c : Addr} (h : isCell F c = true) : ∃ x, (x, c) ∈ F.env.cells := by
  unfold isCell at h
  obtain ⟨⟨x, c'⟩, hm, e⟩ := List.any_eq_true.mp h
  have : c' = c := by simpa using e
  subst this; exact ⟨x, hm⟩

/-- the frame of a call -/
noncomputable def Fm.call (F : Fm) (h : Heap) (env : Env) : Fm where
  env := env
  A := F.A.deeper env
  g := fun b => if isCell F b then h.get? b else F.g b
  fr := fun b => if b = F.env.locals then (h.get? b).map (·.data) else F.fr b
  ro := false
  x := F.x

theorem HdK.call {P : Pm} {F : Fm} {l : Loc} {H : Hp} {s : Shared} (k : HdK F) (I : Inv P F l H s) (env : Env) : HdK (F.call s.heap env) :=
  k.imp id fun ⟨e, o, vs, h1, h2, h3, h4⟩ => ⟨e, o, vs, h1, (by
    show (if isCell F e then s.heap.get? e else F.g e) = some o
    split
    · exact I.keep e o h2
    · exact h2), h3, h4⟩

noncomputable def scFine (sc : Scope) (params : List Str) : Bool :=
  sc.kind == .function && !sc.isCoroutine && !sc.isGenerator && (sc.names.map (·.1)).Nodup && sc.names.all (fun x => x.2 != .free) && params.all (fun x => sc.names.lookup x == some .local || sc.names.lookup x == some .cell) && params.Nodup

structure FnAt (P : Pm) (f : Addr) (params : List Str) (sc : Scope) (body : List Stmt) : Prop where
  at_ : ∃ o fd, P.base.get? f = some o ∧ o.data = .func fd ∧ P.base.CodeRec fd.code fd.qualname ∧ fd.body = .stmts body ∧ fd.scope = sc ∧ fd.closure = [] ∧ fd.globals = mainGlobals ∧ fd.builtins = builtinsNs ∧
    ∀ vals, vals.length = params.length → bindArgs fd ⟨vals, []⟩ = pure (params.zip vals)
  fine : scFine sc params = true
  keep : PySem.W.keepIn P.K (.ref f) = true

/-! the cells -/
theorem cells_lookup_acc {x : Str} : ∀ (names : List (Str × NameKind)) (k : Nat) (acc : List (Str × Addr)), (∃ c, acc.lookup x = some c) → ∃ c, (cellsFrom k names acc).lookup x = some c
  | [], k, acc, h => h
  | (y, kind) :: r, k, acc, h => by
    unfold cellsFrom
    split
    · refine cells_lookup_acc r _ _ ?_
      rw [List.lookup_cons]
      split
      · exact ⟨_, rfl⟩
      · exact h
    · exact cells_lookup_acc r _ _ h
theorem cells_lookup {x : Str} : ∀ (names : List (Str × NameKind)) (k : Nat) (acc : List (Str × Addr)), names.lookup x = some .cell → ∃ c, (cellsFrom k names acc).lookup x = some c
  | [], k, acc, h => by cases h
  | (y, kind) :: r, k, acc, h => by
    rw [List.lookup_cons] at h
    unfold cellsFrom
    split at h
    · rename_i e
      cases h
      rw [if_pos (by decide)]
      refine cells_lookup_acc r _ _ ⟨k, ?_⟩
      rw [List.lookup_cons, e]
    · split
      · exact cells_lookup r _ _ h
      · exact cells_lookup r _ _ h

theorem cells_names : ∀ (names : List (Str × NameKind)) (k : Nat) (acc : List (Str × Addr)), (names.map (·.1)).Nodup → (acc.map (·.1)).Nodup → (∀ x ∈ names.map (·.1), x ∉ acc.map (·.1)) → ((cellsFrom k names acc).map (·.1)).Nodup
  | [], k, acc, _, h, _ => h
  | (y, kind) :: r, k, acc, hn, h, hd => by
    rw [List.map_cons, List.nodup_cons] at hn
    unfold cellsFrom
    split
    · refine cells_names r _ _ hn.2 ?_ ?_
      · rw [List.map_cons, List.nodup_cons]
        exact ⟨hd y (by simp), h⟩
      · intro x hx hm
        rw [List.map_cons, List.mem_cons] at hm
        rcases hm with rfl | hm
        · exact hn.1 hx
        · exact hd x (by rw [List.map_cons]; exact .tail _ hx) hm
    · exact cells_names r _ _ hn.2 h fun x hx => hd x (by rw [List.map_cons]; exact .tail _ hx)
theorem lookup_of_mem {α : Type} {x : Str} {c : α} : ∀ {l : List (Str × α)}, (l.map (·.1)).Nodup → (x, c) ∈ l → l.lookup x = some c
  | (y, d) :: r, hn, hm => by
    rw [List.map_cons, List.nodup_cons] at hn
    rw [List.lookup_cons]
    rcases List.mem_cons.mp hm with q | q
    · cases q; simp
    · have : (x == y) = false := by
        apply beq_eq_false_iff_ne.mpr
        intro e
        exact hn.1 (List.mem_map.mpr ⟨(x, c), q, e⟩)
      rw [this]
      exact lookup_of_mem hn.2 q

/-! what is bound -/
theorem bindL_get {k : Str → Option NameKind} {x : Str} (hk : k x = some .local) : ∀ (ps : List Str) (vs : List Value) (m : Str → Option Value), ps.Nodup → ∀ v, ((ps.zip (vs.map er)).lookup x = some v → ∃ V, bindL k (ps.zip vs) m x = some V ∧ er V = v) ∧ ((ps.zip vs).lookup x = none → bindL k (ps.zip vs) m x = m x)
  | [], vs, m, _, v => ⟨fun h => by simp at h, fun _ => rfl⟩
  | p :: ps, [], m, _, v => ⟨fun h => by simp at h, fun _ => rfl⟩
  | p :: ps, V :: vs, m, hn, v => by
    rw [List.nodup_cons] at hn
    obtain ⟨h1, h2⟩ := bindL_get hk ps vs (if k p = some .local then fun y => if y = p then some V else m y else m) hn.2 v
    constructor
    · intro h
      rw [List.map_cons, List.zip_cons_cons, List.lookup_cons] at h
      show ∃ W, bindL k (ps.zip vs) (if k p = some .local then fun y => if y = p then some V else m y else m) x = some W ∧ _
      split at h
      · rename_i e
        have : x = p := by simpa using e
        subst this
        cases h
        have no : (ps.zip vs).lookup x = none := by
          apply List.lookup_eq_none_iff.mpr
          intro q hq
          have := (List.of_mem_zip hq).1
          refine bne_iff_ne.mpr ?_
          rintro rfl
          exact hn.1 this
        have := (bindL_get hk ps vs (if k x = some .local then fun y => if y = x then some V else m y else m) hn.2 (er V)).2 no
        rw [this, if_pos hk]
        exact ⟨V, by simp, rfl⟩
      · exact h1 h
    · intro h
      rw [List.zip_cons_cons, List.lookup_cons] at h
      show bindL k (ps.zip vs) (if k p = some .local then fun y => if y = p then some V else m y else m) x = m x
      split at h
      · cases h
      · rename_i e
        rw [h2 h]
        have : x ≠ p := by simpa using e
        split
        · simp [this]
        · rfl
theorem bindC_get {k : Str → Option NameKind} {x : Str} (hk : k x ≠ some .local) : ∀ (ps : List Str) (vs : List Value) (m : Str → Option Value), ps.Nodup → ∀ v, ((ps.zip (vs.map er)).lookup x = some v → ∃ V, bindC k (ps.zip vs) m x = some V ∧ er V = v) ∧ ((ps.zip vs).lookup x = none → bindC k (ps.zip vs) m x = m x)
  | [], vs, m, _, v => ⟨fun h => by simp at h, fun _ => rfl⟩
  | p :: ps, [], m, _, v => ⟨fun h => by simp at h, fun _ => rfl⟩
  | p :: ps, V :: vs, m, hn, v => by
    rw [List.nodup_cons] at hn
    obtain ⟨h1, h2⟩ := bindC_get hk ps vs (if k p = some .local then m else fun y => if y = p then some V else m y) hn.2 v
    constructor
    · intro h
      rw [List.map_cons, List.zip_cons_cons, List.lookup_cons] at h
      show ∃ W, bindC k (ps.zip vs) (if k p = some .local then m else fun y => if y = p then some V else m y) x = some W ∧ _
      split at h
      · rename_i e
        have : x = p := by simpa using e
        subst this
        cases h
        have no : (ps.zip vs).lookup x = none := by
          apply List.lookup_eq_none_iff.mpr
          intro q hq
          have := (List.of_mem_zip hq).1
          refine bne_iff_ne.mpr ?_
          rintro rfl
          exact hn.1 this
        have := (bindC_get hk ps vs (if k x = some .local then m else fun y => if y = x then some V else m y) hn.2 (er V)).2 no
        rw [this, if_neg hk]
        exact ⟨V, by simp, rfl⟩
      · exact h1 h
    · intro h
      rw [List.zip_cons_cons, List.lookup_cons] at h
      show bindC k (ps.zip vs) (if k p = some .local then m else fun y => if y = p then some V else m y) x = m x
      split at h
      · cases h
      · rename_i e
        rw [h2 h]
        have : x ≠ p := by simpa using e
        split
        · rfl
        · simp [this]

section
variable {P : Pm} {F : Fm} {G : Gx} {n : Nat} {hm : Bool} {l : Loc} {H : Hp} {s : Shared}

theorem call_xg (K : FmOk P F) (I : Inv P F l H s) (env : Env) : ∀ a, (F.call s.heap env).x = some a → (∃ O, (F.call s.heap env).g a = some O) ∧ F.A.handled = some (.ref a) := fun a e => by
  obtain ⟨⟨O, h⟩, h2⟩ := K.xg a e
  refine ⟨⟨O, ?_⟩, h2⟩
  show (if isCell F a then s.heap.get? a else F.g a) = some O
  split
  · exact I.keep a O h
  · exact h
theorem call_frame (K : FmOk P F) (I : Inv P F l H s) {env : Env} (hk : env.scope.kind = .function) (hg : env.globals = mainGlobals) (hb : env.builtins = builtinsNs) (hL : env.locals = s.heap.objs.size) (hf : env.frame = some env.locals)
    (ab : ∀ x c, (x, c) ∈ env.cells → env.locals < c) (ap : env.cells.Pairwise fun x y => x.2 ≠ y.2) (cn : ∀ x c, (x, c) ∈ env.cells → env.cells.lookup x = some c) : FmOk P (F.call s.heap env) := by
  have nn : ∀ b, s.heap.objs.size ≤ b → s.heap.get? b = none := fun b hb => Heap.get?_none_of_le hb
  have g0 : ∀ b, s.heap.objs.size ≤ b → (F.call s.heap env).g b = none := fun b hb => by
    show (if isCell F b then s.heap.get? b else F.g b) = none
    split
    · exact nn b hb
    · exact (I.off K (nn b hb)).g
  have f0 : ∀ b, s.heap.objs.size ≤ b → (F.call s.heap env).fr b = none := fun b hb => by
    show (if b = F.env.locals then (s.heap.get? b).map (·.data) else F.fr b) = none
    rw [if_neg (I.off K (nn b hb)).l]
    exact (I.off K (nn b hb)).fr
  refine ⟨hk, hg, hb, fun b o e => ?_, ?_, ?_, ?_, fun x c hm => Nat.ne_of_gt (ab x c hm), fun _ x c hm => ⟨g0 c ?_, f0 c ?_⟩, ap, cn, fun x c hm => f0 c ?_, fun b d e => ?_, ?_, call_xg K I env⟩
  · show (if isCell F b then s.heap.get? b else F.g b) = some o
    split
    · exact I.keep b o (K.base b o e)
    · exact K.base b o e
  · show P.base.objs.size ≤ env.locals
    rw [hL]; exact I.base_le K
  · exact g0 _ (by show s.heap.objs.size ≤ env.locals; rw [hL]; exact Nat.le_refl _)
  · exact f0 _ (by show s.heap.objs.size ≤ env.locals; rw [hL]; exact Nat.le_refl _)
  · have := ab x c hm; rw [hL] at this; exact Nat.le_of_lt this
  · have := ab x c hm; rw [hL] at this; exact Nat.le_of_lt this
  · have := ab x c hm; rw [hL] at this; exact Nat.le_of_lt this
  · have e : (if b = F.env.locals then (s.heap.get? b).map (·.data) else F.fr b) = some d := e
    show (if isCell F b then s.heap.get? b else F.g b) = none ∧ _
    by_cases q : b = F.env.locals
    · rw [if_pos q] at e
      subst q
      constructor
      · split
        · rename_i hc
          obtain ⟨x, hm⟩ := mem_isCell hc
          exact absurd rfl (K.cl x _ hm)
        · exact K.lg
      · obtain ⟨m, ⟨o, es, ep, ho, hd, _⟩, _⟩ := I.loc
        rw [ho] at e
        cases e
        intro vs q
        have q : o.data = .fields vs := q
        rw [hd] at q; cases q
    · rw [if_neg q] at e
      obtain ⟨h1, h2⟩ := K.fg b d e
      refine ⟨?_, h2⟩
      split
      · rename_i hc
        obtain ⟨x, hm⟩ := mem_isCell hc
        rw [K.cf x b hm] at e; cases e
      · exact h1
  · obtain ⟨fenv, outer, h1, h2, h3⟩ := K.frames
    refine ⟨env, fenv :: outer, ?_, fun _ => ⟨rfl, hf⟩, fun e he => ?_⟩
    · show F.A.frames.map (env :: ·) = _
      rw [h1]; rfl
    · rcases List.mem_cons.mp he with rfl | he
      · exact ⟨by rw [hk]; decide, _, hf, .inl rfl⟩
      · obtain ⟨k1, b, k2, k3⟩ := h3 e he
        refine ⟨k1, b, k2, .inr ?_⟩
        show ((if b = F.env.locals then (s.heap.get? b).map (·.data) else F.fr b)).isSome = true
        obtain ⟨m, ⟨o, es, ep, ho, hd, _⟩, _⟩ := I.loc
        rcases k3 with rfl | k3
        · rw [if_pos rfl, ho]; rfl
        · split
          · rename_i q; rw [q, ho]; rfl
          · exact k3

theorem Off.up (K : FmOk P F) {l0 : Loc} {H0 : Hp} (I : Inv P F l0 H0 s) {env : Env} {H' : Hp} {a : Addr} (x : Off (F.call s.heap env) H' a) : Off F H' a := by
  have gx : (if isCell F a then s.heap.get? a else F.g a) = none := x.g
  have fx : (if a = F.env.locals then (s.heap.get? a).map (·.data) else F.fr a) = none := x.fr
  have c0 : ∀ y c, (y, c) ∈ F.env.cells → a ≠ c := by
    rintro y c hm rfl
    rw [if_pos (isCell_mem hm)] at gx
    obtain ⟨vo, ⟨o, ho, _⟩, _⟩ := I.cel y a (K.cn y a hm)
    rw [ho] at gx; cases gx
  have l0 : a ≠ F.env.locals := by
    rintro rfl
    obtain ⟨m, ⟨o, es, ep, ho, hd, _⟩, _⟩ := I.loc
    rw [if_pos rfl, ho] at fx; cases fx
  refine ⟨x.h, ?_, ?_, l0, c0⟩
  · split at gx
    · rename_i hc
      obtain ⟨y, hm⟩ := mem_isCell hc
      exact absurd rfl (c0 y a hm)
    · exact gx
  · rw [if_neg l0] at fx; exact fx

theorem Exc.up (K : FmOk P F) {l0 : Loc} {H0 : Hp} (I : Inv P F l0 H0 s) {env : Env} {H' : Hp} {s' : Shared} {e C : Addr} {b : Bool} (x : Exc P (F.call s.heap env) H' s' e C b) : Exc P F H' s' e C b :=
  ⟨x.big, x.off.up K I, let ⟨T, h1, h2, h3⟩ := x.at_; ⟨T, h1, fun t ht => (h2 t ht).up K I, h3⟩⟩

theorem Inv.up (K : FmOk P F) (I : Inv P F l H s) {env : Env} {l' : Loc} {H' : Hp} {s' : Shared} (I' : Inv P (F.call s.heap env) l' H' s') : Inv P F l H' s' := by
  have gc : ∀ y c, (y, c) ∈ F.env.cells → s'.heap.get? c = s.heap.get? c := fun y c hm => by
    obtain ⟨vo, ⟨o, ho, _⟩, _⟩ := I.cel y c (K.cn y c hm)
    rw [ho]
    refine I'.keep c o ?_
    show (if isCell F c then s.heap.get? c else F.g c) = some o
    rw [if_pos (isCell_mem hm)]; exact ho
  refine ⟨I'.gens, I'.os, fun b o e => I'.keep b o ?_, fun b d e => I'.frk b d ?_, ?_, fun x c e => ?_, I'.objs, fun a o e => ?_, I'.big⟩
  · show (if isCell F b then s.heap.get? b else F.g b) = some o
    split
    · exact I.keep b o e
    · exact e
  · show (if b = F.env.locals then (s.heap.get? b).map (·.data) else F.fr b) = some d
    rw [if_neg (fun q => by rw [q, K.lf] at e; cases e)]; exact e
  · obtain ⟨m, ⟨o, es, ep, ho, hd, r⟩, q⟩ := I.loc
    obtain ⟨o', ho', hd'⟩ := I'.frk F.env.locals o.data (by show (if F.env.locals = F.env.locals then (s.heap.get? F.env.locals).map (·.data) else F.fr F.env.locals) = _; rw [if_pos rfl, ho]; rfl)
    exact ⟨m, ⟨o', es, ep, ho', hd'.trans hd, r⟩, q⟩
  · obtain ⟨vo, ⟨o, ho, r⟩, q⟩ := I.cel x c e
    exact ⟨vo, ⟨o, (gc x c (mem_of_lookup e)).trans ho, r⟩, q⟩
  · cases hr : o.isR with
    | true => exact fre_r (F := F.call s.heap env) (F' := F) hr rfl (I'.free a o e)
    | false =>
    obtain ⟨h1, h2, h3, h4⟩ := of_fre (I'.free a o e) hr
    refine fre_of hr ?_
    have := Off.up K I (env := env) (H' := fun _ => none) (a := a) ⟨rfl, h1, h2, h3, h4⟩
    exact ⟨this.g, this.fr, this.l, this.c⟩

theorem call_inv (K : FmOk P F) (I : Inv P F l H s) {env : Env} {ps : List Str} {vs : List Value} {s₁ : Shared} (hL : env.locals = s.heap.objs.size) (nd : ps.Nodup)
    (x : InCallC s env.locals (bindL env.kindOf (ps.zip vs) fun _ => none) env.cells (bindC env.kindOf (ps.zip vs) fun _ => none) s₁) : Inv P (F.call s.heap env) (fun y => (ps.zip (vs.map er)).lookup y) H s₁ := by
  obtain ⟨⟨⟨h, tk, rfl⟩, ns, keep, fresh⟩, cell, apart, above⟩ := x
  have up : ∀ a o, H a = some o → a < env.locals := fun a o e => by rw [hL]; exact I.lt_of e
  refine ⟨I.gens, I.os, fun b o e => ?_, fun b d e => ?_, ⟨_, ns, fun y v hy hk => ((bindL_get hk ps vs _ nd v).1 hy)⟩, fun y c e => ⟨_, cell y c e, fun v hy hk => ((bindC_get (fun q => ?_) ps vs _ nd v).1 hy)⟩, fun a o e => ?_, fun a o e => ?_, I.big⟩
  · have e : (if isCell F b then s.heap.get? b else F.g b) = some o := e
    split at e
    · exact keep b o e
    · exact keep b o (I.keep b o e)
  · have e : (if b = F.env.locals then (s.heap.get? b).map (·.data) else F.fr b) = some d := e
    split at e
    · obtain ⟨o, ho, hd⟩ := Option.map_eq_some_iff.mp e
      exact ⟨o, keep b o ho, hd⟩
    · obtain ⟨o, ho, hd⟩ := I.frk b d e
      exact ⟨o, keep b o ho, hd⟩
  · have hk : env.kindOf y = some .cell ∨ env.kindOf y = some .free := hk
    rw [q] at hk; simp at hk
  · obtain ⟨O, ho⟩ := (I.objs a o e).some
    exact (I.objs a o e).congr ((keep a O ho).trans ho.symm)
  · cases hr : o.isR with
    | true => exact fre_r (F := F) (F' := F.call s.heap env) hr rfl (I.free a o e)
    | false =>
    obtain ⟨h1, h2, h3, h4⟩ := of_fre (I.free a o e) hr
    refine fre_of hr ⟨?_, ?_, Nat.ne_of_lt (up a o e), fun y c hm => Nat.ne_of_lt (Nat.lt_trans (up a o e) (above y c hm))⟩
    · show (if isCell F a then s.heap.get? a else F.g a) = none
      rw [if_neg (fun q => by obtain ⟨y, hm⟩ := mem_isCell q; exact h4 y a hm rfl)]; exact h1
    · show (if a = F.env.locals then (s.heap.get? a).map (·.data) else F.fr a) = none
      rw [if_neg h3]; exact h2

/-- a def's call, by the text of its body -/
theorem call_def (Y : PmOk P) {f : Addr} {ps : List Str} {sc : Scope} {body : List Stmt} {body' : List Sm} (D : FnAt P f ps sc body) (hb : SS P G n hm sc body body') {args : List Value} {Q : QV} {X : XV} (q : wpF G hm ps body' args H Q X)
    (K : FmOk P F) (R : RoomC (n + 1) F.A) (HM : HmOk hm F) (I : Inv P F l H s) {vals : List Value} (hv : vals.map er = args) : codeAny P.M F.A (.call (.ref f) ⟨vals, []⟩) (PostC P F l Q X) s := by
  subst hv
  obtain ⟨hlen, q⟩ := q
  obtain ⟨o, fd, d1, d2, d3, d4, d5, d6, d7, d8, d9⟩ := D.at_
  have fine := D.fine
  unfold scFine at fine
  simp only [Bool.and_eq_true, beq_iff_eq, Bool.not_eq_true', decide_eq_true_eq, List.all_eq_true, Bool.or_eq_true, bne_iff_ne, ne_eq] at fine
  obtain ⟨⟨⟨⟨⟨⟨f1, f2⟩, f3⟩, f4⟩, f5⟩, f6⟩, f7⟩ := fine
  have k : ∀ b o, P.base.get? b = some o → s.heap.get? b = some o := fun b o e => I.keep b o (K.base b o e)
  have kd : ∀ x, (callEnvC fd s.heap.objs.size f).kindOf x = sc.names.lookup x := fun x => by show fd.scope.names.lookup x = _; rw [d5]
  have cl : ∀ x, sc.names.lookup x = some .cell → ∃ c, (callEnvC fd s.heap.objs.size f).cells.lookup x = some c := fun x hx => by
    show ∃ c, (cellsFrom _ fd.scope.names []).lookup x = some c
    rw [d5]; exact cells_lookup _ _ _ hx
  have nf : ∀ x, sc.names.lookup x ≠ some .free := fun x hx => f5 _ (mem_of_lookup hx) rfl
  refine codeAny_call_cells (binds := ps.zip vals) (by have := R.1; omega) (k _ _ d1) d2 (Y.lim.keeps k) (d3.keeps k) d4 (d9 vals (by simpa using hlen.symm)) d6 (fun x hx => ?_) (fun s₁ x => ?_) (by rw [d5]; exact f2) (by rw [d5]; exact f3) (by rw [d5]; exact f1)
  · have := f6 x.1 (List.of_mem_zip (a := x.1) (b := x.2) hx).1
    rw [d5]
    rcases this with h | h
    · exact .inl h
    · obtain ⟨c, hc⟩ := cells_lookup (x := x.1) sc.names (s.heap.objs.size + 1) [] h
      exact .inr ⟨h, by rw [hc]; rfl⟩
  · have K' : FmOk P (F.call s.heap (callEnvC fd s.heap.objs.size f)) := call_frame K I (by show fd.scope.kind = _; rw [d5]; exact f1) d7 d8 rfl rfl x.above x.apart fun y c hm => lookup_of_mem (cells_names _ _ _ (by rw [d5]; exact f4) .nil (by simp)) hm
    have I' := call_inv K I (env := callEnvC fd s.heap.objs.size f) rfl f7 x
    have S' : ScOk sc (F.call s.heap (callEnvC fd s.heap.objs.size f)) := by
      refine ⟨fun y hy => ?_, fun y hy => ?_, fun y hy => (kd y).trans hy, fun y hy => ⟨(kd y).trans hy, cl y hy⟩⟩
      · unfold isLoc at hy
        split at hy
        · rename_i e; exact .inl ((kd y).trans e)
        · rename_i e; exact .inr ⟨.inl ((kd y).trans e), cl y e⟩
        · rename_i e; exact absurd e (nf y)
        · split at hy <;> cases hy
        · cases hy
      · unfold isLoc at hy
        split at hy
        · split at hy <;> cases hy
        · split at hy <;> cases hy
        · split at hy <;> cases hy
        · rename_i e; exact (kd y).trans e
        · cases hy
    refine wpAny_mono (hb K' S' ⟨?_, ?_⟩ ⟨HM.1.call I _, HM.2⟩ rfl I' q) (fun fl s' z => ?_) fun EV s' z => ?_
    · show F.A.depth + 1 + 2 * n + 2 < _
      have := R.1; omega
    · show F.A.units + 3 + 30 * n + 200 < _
      have := R.2; omega
    · obtain ⟨l2, H2, I2, z⟩ := z
      have I3 := Inv.up K I I2
      cases fl with
      | next => exact ⟨H2, I3, z⟩
      | brk => exact z.elim
      | cont => exact z.elim
      | ret v => exact ⟨H2, I3, z⟩
    · obtain ⟨l2, H2, e, C, rfl, I2, x2, z⟩ := z
      exact s_leaving K' I2 rfl x2 fun s3 I3 x3 => ⟨H2, e, C, rfl, Inv.up K I I3, (Exc.up K I x3).weak, z⟩
end
end Mine
end

section
open PySem PyProof.Rows PySem.Calls
namespace Mine

/-! ## the built-in functions -/
section
variable {P : Pm} {F : Fm} {G : Gx} {n : Nat} {hm : Bool} {l : Loc} {H : Hp} {s : Shared} {E : Value → Shared → Prop} {Q : QV}

/-- what is kept stays ours -/
theorem Inv.kept (I : Inv P F l H s) {h' : Heap} {t : Nat} (k : ∀ b o, s.heap.get? b = some o → h'.get? b = some o) : Inv P F l H { s with heap := h', toks := t } := I.step fun b o e _ => k b o e

theorem s_list_new (K : FmOk P F) (I : Inv P F l H s) {h' : Heap} {t : Nat} {vs : Array Value} {D : Addr} (hD : s.heap.get? D = none) (hz : P.base.objs.size ≤ D) (k : ∀ b o, s.heap.get? b = some o → h'.get? b = some o) (e : IsL h' D vs) (hs : vs.size ≤ 2 ^ 25) (q : newV (.list (vs.toList.map er)) H Q) :
    PostE P F l Q (.ref D) { s with heap := h', toks := t } :=
  ⟨_, I.more K hD (bigs_of hz) k (mt_list e hs), q D (I.off K hD).h⟩

theorem szl {n : Nat} (h : n ≤ sizeLine) : n ≤ 2 ^ 25 := by simp only [sizeLine] at h; omega

theorem s_copy (K : FmOk P F) (I : Inv P F l H s) {T : String} {a : Addr} {vs : Array Value} (hT : T = "list" ∨ T = "tuple") {o : Obj} {n : Nat} (ho : s.heap.get? a = some o) (hc : o.cls = .type T) (hd : o.data = .seq vs n) (hz : vs.size ≤ sizeLine) (q : newV (.list (vs.toList.map er)) H Q) :
    wpAny P.M F.A (call (.type "list") [.ref a]) (PostE P F l Q) E s :=
  call_list_seq (hsz := hz) a hT ho hc hd fun h' c' hk hD => s_list_new K I (t := s.toks) (Heap.get?_none_of_le (Nat.le_refl _)) (I.base_le K) hk ⟨c', hD⟩ (szl hz) q

theorem s_range (K : FmOk P F) (I : Inv P F l H s) {Vs : List Value} (h : rangeV (Vs.map er) H Q) : wpAny P.M F.A (call (.type "range") Vs) (PostE P F l Q) E s := by
  unfold rangeV at h
  split at h
  · rename_i hi _ e
    obtain ⟨t, rfl⟩ : ∃ t, Vs = [.int hi t] := by
      cases Vs with
      | nil => cases e
      | cons W r => cases r with
        | nil => simp at e; obtain ⟨t, rfl⟩ := er_int e; exact ⟨t, rfl⟩
        | cons _ _ => simp at e
    exact call_range_1 ⟨_, I.alloc K (o := .range 0 hi 1) (t := s.toks + 1 + 1) ⟨_, _, _, IsRange.new ..⟩, h.2.2 _ I.fresh⟩
  · rename_i lo _ hi _ e
    obtain ⟨t, u, rfl⟩ : ∃ t u, Vs = [.int lo t, .int hi u] := by
      cases Vs with
      | nil => cases e
      | cons W r => cases r with
        | nil => simp at e
        | cons W2 r => cases r with
          | nil => simp at e; obtain ⟨t, rfl⟩ := er_int e.1; obtain ⟨u, rfl⟩ := er_int e.2; exact ⟨t, u, rfl⟩
          | cons _ _ => simp at e
    exact call_range_2 ⟨_, I.alloc K (o := .range lo hi 1) (t := s.toks + 1) ⟨_, _, _, IsRange.new ..⟩, h.2.2.2.2 _ I.fresh⟩
  · rename_i lo _ hi _ st _ e
    obtain ⟨t, u, v, rfl⟩ : ∃ t u v, Vs = [.int lo t, .int hi u, .int st v] := by
      cases Vs with
      | nil => cases e
      | cons W r => cases r with
        | nil => simp at e
        | cons W2 r => cases r with
          | nil => simp at e
          | cons W3 r => cases r with
            | nil => simp at e; obtain ⟨t, rfl⟩ := er_int e.1; obtain ⟨u, rfl⟩ := er_int e.2.1; obtain ⟨v, rfl⟩ := er_int e.2.2; exact ⟨t, u, v, rfl⟩
            | cons _ _ => simp at e
    obtain ⟨h0, h1, h2, h3, h4, h5, h6, q⟩ := h
    exact call_range_3 h0 ⟨_, I.alloc K (o := .range lo hi st) (t := s.toks) ⟨_, _, _, IsRange.new ..⟩, q _ I.fresh⟩ (.inl (PyProof.noPylong_small (by omega)))
  · exact h.elim

theorem bools_of : ∀ {vs : List Value} {bs : List Bool}, vs.map er = bs.map Value.bool → vs = bs.map Value.bool
  | [], [], _ => rfl
  | [], _ :: _, e => by simp at e
  | _ :: _, [], e => by simp at e
  | v :: vs, b :: bs, e => by
    simp at e
    have h1 := er_bool e.1
    have h2 := bools_of (vs := vs) (bs := bs) (by simpa using e.2)
    rw [List.map_cons, h1, h2]

/-- an empty list's turns while an exception is handled -/
theorem walks_nil {prog : Program} {w : World} {A : Around} {J a e : Addr} (he : A.handled = some (.ref e)) (h1 : e ≠ J) : Walks prog w A J [J, a, e] [J] 0 (fun _ _ => False) (fun i h => h.IsListIter J a i ∧ h.IsList a #[] ∧ ∃ o vs, h.get? e = some o ∧ o.data = .fields vs ∧ vs[2]? = some Value.none) where
  sub := fun b hb => by simp at hb; simp [hb]
  frame := fun _ _ _ st hk => ⟨st.1.at fun o e => hk J (by simp) o e, st.2.1.at fun o e => hk a (by simp) o e, let ⟨o, vs, e1, e2, e3⟩ := st.2.2; ⟨o, vs, hk e (by simp) o e1, e2, e3⟩⟩
  item := fun i s Q E hi st hQ => absurd hi (Nat.not_lt_zero _)
  done := fun s Q E st hQ => by
    obtain ⟨s1, s2, o, vs, e1, e2, e3⟩ := st
    exact next_list_end (.inr ⟨e, o, vs, he, e1, e2, e3⟩) (fun e' q => by rw [he] at q; cases q; exact h1) s1 s2 rfl fun h' x => hQ h' s.toks fun b o hb q => x b o (fun z => hb (by simp [z])) q
  self := fun _ _ _ _ st hQ => wpAny_pyIter_listiter st.1 hQ

theorem s_all (K : FmOk P F) (I : Inv P F l H s) (hh : F.A.handled = none) {a : Addr} {xs : List Value} (hx : H a = some (.list xs)) {bs : List Bool} (hb : xs = bs.map Value.bool) (q : Q (.bool (bs.all id)) H) :
    wpAny P.M F.A (call (.builtin "all") [.ref a]) (PostE P F l Q) E s := by
  obtain ⟨vs, hl, e, _⟩ := I.objs _ _ hx
  subst hb
  have ev := bools_of e
  refine call_all_walk (wpAny_pyIter_list hl ⟨s.heap.objs.size, _, _, _, _, _, fun i => bs.getD i true, rfl, Walks.list (A := F.A.in1) hh _ a (Nat.ne_of_lt (I.lt_of hx)) vs, ⟨⟨_, Heap.get?_push_size _ rfl, rfl, rfl⟩, hl.at fun o e => Heap.get?_push_of_some _ e⟩, ?_, fun h' tk k => ?_⟩)
  · intro i v s' Q' E' hP hQ
    have : vs.toList[i]? = some v := by simpa using hP
    rw [ev, List.getElem?_map] at this
    obtain ⟨b, hb, rfl⟩ := Option.map_eq_some_iff.mp this
    have : bs.getD i true = b := by simp [List.getD, hb]
    have hQ : Q' (bs.getD i true) s' := hQ
    rw [this] at hQ
    exact wpAny_truthy_bool hQ
  · refine ⟨H, (I.push _).turn (J := s.heap.objs.size) K (I.ofSize K) fun b o hb e => k b o (by simpa using hb) e, ?_⟩
    have hz : vs.size = bs.length := by have := congrArg List.length ev; simpa using this
    have : (List.range vs.size).all (fun i => bs.getD i true) = bs.all id := by
      rw [hz]
      apply Bool.eq_iff_iff.mpr
      simp only [List.all_eq_true, List.mem_range, id]
      constructor
      · intro h b hb
        obtain ⟨i, hi, rfl⟩ := List.getElem_of_mem hb
        have := h i hi
        simpa [List.getD, hi] using this
      · intro h i hi
        simp only [List.getD, List.getElem?_eq_getElem hi, Option.getD_some]
        exact h _ (List.getElem_mem hi)
    rw [this]; exact q

theorem s_all_nil (K : FmOk P F) (hd : HdK F) (I : Inv P F l H s) {a : Addr} (hx : H a = some (.list [])) (q : Q (.bool true) H) :
    wpAny P.M F.A (call (.builtin "all") [.ref a]) (PostE P F l Q) E s := by
  obtain ⟨vs, hl, e, _⟩ := I.objs _ _ hx
  have e : vs.toList = [] := List.map_eq_nil_iff.1 e
  have e : vs = #[] := Array.toList_eq_nil_iff.1 e
  subst e
  have of := I.ofSize K
  have nJ : a ≠ s.heap.objs.size := Nat.ne_of_lt (I.lt_of hx)
  rcases hd with hh | ⟨ee, oe, ve, h1, h2, h3, h4⟩
  · exact s_all K I hh hx (bs := []) rfl q
  · have he := I.keep ee oe h2
    refine call_all_walk (wpAny_pyIter_list hl ⟨s.heap.objs.size, _, _, _, _, _, fun i => true, rfl, walks_nil (A := F.A.in1) (a := a) (e := ee) h1 (Nat.ne_of_lt (Heap.lt_size he)), ⟨⟨_, Heap.get?_push_size _ rfl, rfl, rfl⟩, hl.at fun o e => Heap.get?_push_of_some _ e, oe, ve, Heap.get?_push_of_some _ he, h3, h4⟩, fun i v s' Q' E' hP hQ => hP.elim, fun h' tk k => ?_⟩)
    exact ⟨H, (I.push _).turn (J := s.heap.objs.size) K of fun b o hb e => k b o (by simpa using hb) e, q⟩

theorem s_max2 (I : Inv P F l H s) (hh : F.A.handled = none) {a b : Int} {t u : Tok} (q : Q (.int (max a b) 0) H) : wpAny P.M F.A (call (.builtin "max") [.int a t, .int b u]) (PostE P F l Q) E s := by
  refine max_two_ints hh fun h' tk k => ⟨H, I.kept k, ?_⟩
  by_cases hc : b > a
  · rw [if_pos hc]; have : max a b = b := by omega
    rw [this] at q; exact q
  · rw [if_neg hc]; have : max a b = a := by omega
    rw [this] at q; exact q
theorem s_min2 (I : Inv P F l H s) (hh : F.A.handled = none) {a b : Int} {t u : Tok} (q : Q (.int (min a b) 0) H) : wpAny P.M F.A (call (.builtin "min") [.int a t, .int b u]) (PostE P F l Q) E s := by
  refine min_two_ints hh fun h' tk k => ⟨H, I.kept k, ?_⟩
  by_cases hc : b < a
  · rw [if_pos hc]; have : min a b = b := by omega
    rw [this] at q; exact q
  · rw [if_neg hc]; have : min a b = a := by omega
    rw [this] at q; exact q

theorem seq_ints : ∀ {vs : List Value} {ns : List Int}, IntsAre vs ns → vs.map er = ns.map fun n => Value.int n 0
  | _, _, .nil => rfl
  | _, _, .cons i t r => by
    rw [List.map_cons, List.map_cons, seq_ints r]; rfl

theorem dictAt_of {K : Type} [DecidableEq K] {knd : PySem.KeyKind P.prog P.w K} {h : Heap} {a : Addr} {kvs : List (K × Value)} (x : h.DictOf knd a kvs) : ∃ ep, h.DictAt knd a kvs ep := by
  obtain ⟨o, es, ep, r⟩ := x
  exact ⟨ep, o, es, r⟩

theorem isInt_val {k : Int} {v : Value} (h : Value.isInt k v = true) : ∃ t, v = .int k t := by
  unfold Value.isInt at h
  split at h
  · rename_i i t
    have : i = k := by simpa using h
    exact ⟨t, by rw [this]⟩
  · cases h

theorem ints_by {vs : List Value} {kvs : List (Int × Value)} (hl : vs.length = kvs.length) (hp : ∀ (j : Nat) (v : Value), vs[j]? = some v → ∃ k x, kvs[j]? = some (k, x) ∧ (intKind P.prog P.w).is k v = true) : IntsAre vs (kvs.map (·.1)) := by
  apply ints_of
  apply List.ext_getElem?
  intro j
  rw [List.getElem?_map, List.getElem?_map, List.getElem?_map]
  rcases Nat.lt_or_ge j vs.length with h | h
  · obtain ⟨k, x, e1, e2⟩ := hp j vs[j] (List.getElem?_eq_getElem h)
    rw [List.getElem?_eq_getElem h, e1]
    obtain ⟨t, ht⟩ := isInt_val (show Value.isInt k vs[j] = true from e2)
    rw [ht]; rfl
  · rw [List.getElem?_eq_none h, List.getElem?_eq_none (by omega)]; rfl

theorem s_sorted (Y : PmOk P) (K : FmOk P F) (I : Inv P F l H s) (hh : F.A.handled = none) {V : Value} (h : sortedV (er V) H Q) : wpAny P.M F.A (call (.builtin "sorted") [V]) (PostE P F l Q) E s := by
  unfold sortedV at h
  split at h
  · rename_i a e; have := er_ref e; subst this
    obtain ⟨m, Fr, hmm⟩ := I.fr K
    split at h
    · rename_i xs hx
      obtain ⟨ns, hn, h64, q⟩ := h
      have h64 : xs.length < 64 := by rw [hn]; simpa using h64
      · obtain ⟨vs, hl, e, _⟩ := I.objs _ _ hx
        refine sorted_N Fr (news_all _ _ _) (vs := vs.toList) (by simpa using hl) (ints_of (e.trans hn)) (by rw [← e] at h64; simpa using h64) fun h' vs' ns' ep F' N' a1 a2 a3 => ?_
        have I' := I.after K (t := s.toks) hmm F' N' fun _ hp => .tail _ hp
        have nn : s.heap.get? (s.heap.objs.size + 1) = none := Heap.get?_none_of_le (Nat.le_succ _)
        refine ⟨_, I'.track (o := .list (ns'.map fun n => Value.int n 0)) (I.off K nn) trivial ?_, q ns' a2 a3 _ (I.off K nn).h⟩
        rw [← seq_ints a1]
        have hz : vs'.toArray.size ≤ 2 ^ 25 := by
          have : vs'.length = ns'.length := by have := congrArg List.length (seq_ints a1); simpa using this
          have h2 := a2.length_eq
          rw [hn] at h64
          simp at h64 ⊢; omega
        exact mt_list (vs := vs'.toArray) ⟨ep, (N' _ (.head _)).1⟩ hz
    · rename_i kvs hx
      obtain ⟨hzz, ns, hn, h64, q⟩ := h
      · obtain ⟨ks, hd, e⟩ := I.objs _ _ hx
        obtain ⟨ep, hd⟩ := dictAt_of hd
        have hns : ns = ks.map (·.1) := by
          rw [← e] at hn
          rw [List.map_map] at hn
          have := congrArg (List.map fun v => match v with | Value.int i _ => i | _ => 0) hn
          simpa [Function.comp_def] using this.symm
        have hlen : ks.length ≤ sizeLine := by rw [← e] at hzz; simpa using hzz
        refine PySem.W.kdu_sorted (PySem.W.kdl_dict (not_modules Y I hx)) hh Fr (news_all _ _ _) hd hlen fun D h' tk vs F' N' lt hl hp => ?_
        have oD : h'.get? D = some (seqObj "list" vs.toArray 0) := (N' _ (.head _)).1
        have ia := ints_by hl hp
        refine wpAny_call_entry slot_list_sort ⟨_, oD, rfl⟩ entry_list_sort (sort_ints oD ia (by rw [hl]; exact hlen) (by
          rw [hns] at h64
          rcases h64 with z | z
          · exact .inl (by rw [hl]; simpa using z)
          · exact .inr z) fun out ns' a1 a2 a3 => ⟨_, rfl, ?_⟩) (args_list_sort _)
        have I' := I.after K (t := tk) hmm F' N' fun _ hp => .tail _ hp
        have nn : s.heap.get? D = none := by
          cases q : s.heap.get? D with
          | none => rfl
          | some o => exact absurd (lt _ (mem_allNews q (N' _ (.head _)).2.1 (N' _ (.head _)).2.2)) (Nat.lt_irrefl _)
        have of := I.off K nn
        obtain ⟨ep2, hat⟩ := sortedHeap_at (out := out) oD
        refine ⟨_, (I'.turn (t := tk) (h' := sortedHeap h' D vs out) K of fun b o hb e => by rw [sortedHeap_old hb (Heap.lt_size e)]; exact e).track (o := .list (ns'.map fun n => Value.int n 0)) of trivial ?_, q ns' (by rw [hns]; exact a2) a3 _ of.h⟩
        rw [← seq_ints a1]
        have hz : out.size ≤ 2 ^ 25 := by
          have h1 : out.toList.length = ns'.length := by have := congrArg List.length (seq_ints a1); simpa using this
          have h2 := a2.length_eq
          have := szl hlen
          simp at h1 h2; omega
        exact mt_list (vs := out) ⟨ep2, hat⟩ hz
    · exact h.elim
  · exact h.elim

/-- list(d): its keys -/
theorem s_keys (Y : PmOk P) (K : FmOk P F) (I : Inv P F l H s) (hh : F.A.handled = none) {a : Addr} {kvs : List (Int × Value)} (hx : H a = some (.idict kvs)) (hz : (kvs.map fun p => Value.int p.1 0).length ≤ sizeLine) (q : newV (.list (kvs.map fun p => Value.int p.1 0)) H Q) : wpAny P.M F.A (call (.type "list") [.ref a]) (PostE P F l Q) E s := by
  obtain ⟨m, Fr, hmm⟩ := I.fr K
  obtain ⟨ks, hd, e⟩ := I.objs _ _ hx
  obtain ⟨ep, hd⟩ := dictAt_of hd
  have hlen : ks.length ≤ sizeLine := by rw [← e] at hz; simpa using hz
  refine PySem.W.kdl_N (PySem.W.kdl_dict (not_modules Y I hx)) hh Fr (news_all _ _ _) hd hlen fun D c h' tk vs F' N' lt hl hp => ?_
  have ia := ints_by hl hp
  have I' := I.after K (t := tk) hmm F' N' fun _ hp => .tail _ hp
  have nn : s.heap.get? D = none := by
    cases q : s.heap.get? D with
    | none => rfl
    | some o => exact absurd (lt _ (mem_allNews q (N' _ (.head _)).2.1 (N' _ (.head _)).2.2)) (Nat.lt_irrefl _)
  have of := I.off K nn
  refine ⟨_, I'.track (o := .list (kvs.map fun (p : Int × Value) => Value.int p.1 0)) of trivial ?_, q _ of.h⟩
  have e2 : (kvs.map fun p => Value.int p.1 0) = vs.toArray.toList.map er := by
    rw [← e, List.map_map]
    have := seq_ints ia
    rw [List.map_map] at this
    exact this.symm
  rw [e2]
  exact mt_list (vs := vs.toArray) ⟨c, (N' _ (.head _)).1⟩ (by have := szl hlen; simp; omega)
end
end Mine
end

section
open PySem PyProof.Rows PySem.Calls
namespace Mine

/-! ## comprehensions -/
theorem closure_loop {env : Env} : ∀ (names : List (Str × NameKind)) (acc : List (Str × Addr)), (names.map (·.1)).Nodup → (acc.map (·.1)).Nodup → (∀ x ∈ names.map (·.1), x ∉ acc.map (·.1)) → (∀ y, (y, NameKind.free) ∈ names → ∃ c, env.cells.lookup y = some c) →
    ∃ cl, (forIn names acc (fun (x : Str × NameKind) (r : List (Str × Addr)) => match x with | (name, kind) => if (kind == .free) = true then do let c ← cellOf env name; pure (ForInStep.yield ((name, c) :: r)) else pure (ForInStep.yield r)) : Sem (List (Str × Addr))) = pure cl ∧
      (cl.map (·.1)).Nodup ∧ (∀ p ∈ acc, p ∈ cl) ∧ (∀ y c, (y, c) ∈ cl → (y, c) ∈ acc ∨ env.cells.lookup y = some c) ∧ ∀ y, (y, NameKind.free) ∈ names → ∃ c, (y, c) ∈ cl
  | [], acc, _, h, _, _ => ⟨acc, by rw [List.forIn_nil], h, fun _ hp => hp, fun _ _ hp => .inl hp, fun _ hy => by cases hy⟩
  | (y, kind) :: r, acc, hn, h, hd, hf => by
    rw [List.map_cons, List.nodup_cons] at hn
    by_cases hk : kind = .free
    · subst hk
      obtain ⟨c, hc⟩ := hf y (.head _)
      obtain ⟨cl, e, h1, h2, h3, h4⟩ := closure_loop (env := env) r ((y, c) :: acc) hn.2 (by rw [List.map_cons, List.nodup_cons]; exact ⟨hd y (by simp), h⟩) (fun x hx hm => by
        rw [List.map_cons, List.mem_cons] at hm
        rcases hm with rfl | hm
        · exact hn.1 hx
        · exact hd x (by rw [List.map_cons]; exact .tail _ hx) hm) (fun z hz => hf z (.tail _ hz))
      refine ⟨cl, ?_, h1, fun p hp => h2 p (.tail _ hp), fun z d hz => ?_, fun z hz => ?_⟩
      · rw [List.forIn_cons]
        have : cellOf env y = pure c := by unfold cellOf; rw [hc]
        simp only [beq_self_eq_true, if_true, this]
        exact e
      · rcases h3 z d hz with q | q
        · rcases List.mem_cons.mp q with q | q
          · cases q; exact .inr hc
          · exact .inl q
        · exact .inr q
      · rcases List.mem_cons.mp hz with q | q
        · cases q; exact ⟨c, h2 _ (.head _)⟩
        · exact h4 z q
    · obtain ⟨cl, e, h1, h2, h3, h4⟩ := closure_loop (env := env) r acc hn.2 h (fun x hx => hd x (by rw [List.map_cons]; exact .tail _ hx)) (fun z hz => hf z (.tail _ hz))
      refine ⟨cl, ?_, h1, h2, h3, fun z hz => ?_⟩
      · rw [List.forIn_cons]
        have : (kind == NameKind.free) = false := beq_eq_false_iff_ne.mpr hk
        simp only [this, Bool.false_eq_true, if_false]
        exact e
      · rcases List.mem_cons.mp hz with q | q
        · cases q; exact absurd rfl hk
        · exact h4 z q

theorem closure_ok {env : Env} {scope : Scope} (hn : (scope.names.map (·.1)).Nodup) (hf : ∀ y, (y, NameKind.free) ∈ scope.names → ∃ c, env.cells.lookup y = some c) :
    ∃ cl, closureFor scope env = pure cl ∧ (cl.map (·.1)).Nodup ∧ (∀ y c, (y, c) ∈ cl → env.cells.lookup y = some c) ∧ ∀ y, (y, NameKind.free) ∈ scope.names → ∃ c, (y, c) ∈ cl := by
  obtain ⟨cl, e, h1, h2, h3, h4⟩ := closure_loop (env := env) scope.names [] hn .nil (by simp) hf
  refine ⟨cl, ?_, h1, fun y c hy => (h3 y c hy).resolve_left (by simp), h4⟩
  simp only [closureFor]
  rw [show (forIn scope.names [] _ : Sem (List (Str × Addr))) = pure cl from e]
  rfl

theorem lookup_relabel {env : Env} {scope : Scope} (x : Str) : (relabel scope env).names.lookup x = (scope.names.lookup x).map fun k => if (k == NameKind.free && env.scope.kind == .function && env.kindOf x == some .cell) then NameKind.cell else k := by
  show (scope.names.map fun (n, k) => if (k == NameKind.free && env.scope.kind == .function && env.kindOf n == some .cell) then (n, NameKind.cell) else (n, k)).lookup x = _
  induction scope.names with
  | nil => rfl
  | cons p r ih =>
    obtain ⟨n, k⟩ := p
    rw [List.map_cons]
    by_cases hx : x = n
    · subst hx
      by_cases hc : (k == NameKind.free && env.scope.kind == .function && env.kindOf x == some .cell) = true
      · simp only [List.lookup_cons, beq_self_eq_true, Option.map_some, if_pos hc]
      · simp only [List.lookup_cons, beq_self_eq_true, Option.map_some, if_neg hc]
    · have : (x == n) = false := beq_eq_false_iff_ne.mpr hx
      simp only [List.lookup_cons, this]
      split <;> simp only [List.lookup_cons, this] <;> exact ih

/-- the frame of a comprehension -/
noncomputable def Fm.comp (F : Fm) (h : Heap) (env : Env) : Fm := { F.call h env with A := F.A, ro := true }

section
variable {P : Pm} {F : Fm} {G : Gx} {n : Nat} {hm : Bool} {l : Loc} {H : Hp} {s : Shared}

theorem comp_frame (K : FmOk P F) (I : Inv P F l H s) {env : Env} (hk : env.scope.kind = .function) (hg : env.globals = mainGlobals) (hb : env.builtins = builtinsNs) (hL : s.heap.objs.size ≤ env.locals)
    (nd : (env.cells.map (·.1)).Nodup) (cs : ∀ y c, (y, c) ∈ env.cells → F.env.cells.lookup y = some c) : FmOk P (F.comp s.heap env) := by
  have nn : ∀ b, s.heap.objs.size ≤ b → s.heap.get? b = none := fun b hb => Heap.get?_none_of_le hb
  have cm : ∀ y c, (y, c) ∈ env.cells → (y, c) ∈ F.env.cells := fun y c h => mem_of_lookup (cs y c h)
  have cx : ∀ y c, (y, c) ∈ env.cells → ∃ o, s.heap.get? c = some o := fun y c h => by
    obtain ⟨vo, ⟨o, ho, _⟩, _⟩ := I.cel y c (cs y c h); exact ⟨o, ho⟩
  refine ⟨hk, hg, hb, fun b o e => ?_, ?_, ?_, ?_, fun y c h => ?_, fun q => (nomatch q), ?_, fun y c h => lookup_of_mem nd h, fun y c h => ?_, fun b d e => ?_, ?_, call_xg K I env⟩
  · show (if isCell F b then s.heap.get? b else F.g b) = some o
    split
    · exact I.keep b o (K.base b o e)
    · exact K.base b o e
  · exact Nat.le_trans (I.base_le K) hL
  · show (if isCell F env.locals then s.heap.get? env.locals else F.g env.locals) = none
    split
    · exact nn _ hL
    · exact (I.off K (nn _ hL)).g
  · show (if env.locals = F.env.locals then (s.heap.get? env.locals).map (·.data) else F.fr env.locals) = none
    rw [if_neg (I.off K (nn _ hL)).l]
    exact (I.off K (nn _ hL)).fr
  · obtain ⟨o, ho⟩ := cx y c h
    exact Nat.ne_of_lt (Nat.lt_of_lt_of_le (Heap.lt_size ho) hL)
  · refine List.Pairwise.imp_of_mem ?_ (List.pairwise_map.mp nd)
    rintro ⟨y, c⟩ ⟨z, d⟩ h1 h2 hne e
    have e : c = d := e
    subst e
    exact hne (name_of_addr K.apart (cm y c h1) (cm z c h2))
  · show (if c = F.env.locals then (s.heap.get? c).map (·.data) else F.fr c) = none
    rw [if_neg (K.cl y c (cm y c h))]; exact K.cf y c (cm y c h)
  · have e : (if b = F.env.locals then (s.heap.get? b).map (·.data) else F.fr b) = some d := e
    show (if isCell F b then s.heap.get? b else F.g b) = none ∧ _
    by_cases q : b = F.env.locals
    · rw [if_pos q] at e
      subst q
      constructor
      · split
        · rename_i hc
          obtain ⟨x, hm⟩ := mem_isCell hc
          exact absurd rfl (K.cl x _ hm)
        · exact K.lg
      · obtain ⟨m, ⟨o, es, ep, ho, hd, _⟩, _⟩ := I.loc
        rw [ho] at e
        cases e
        intro vs q
        have q : o.data = .fields vs := q
        rw [hd] at q; cases q
    · rw [if_neg q] at e
      obtain ⟨h1, h2⟩ := K.fg b d e
      refine ⟨?_, h2⟩
      split
      · rename_i hc
        obtain ⟨x, hm⟩ := mem_isCell hc
        rw [K.cf x b hm] at e; cases e
      · exact h1
  · obtain ⟨fenv, outer, h1, h2, h3⟩ := K.frames
    refine ⟨fenv, outer, h1, fun q => (nomatch q), fun e he => ?_⟩
    obtain ⟨k1, b, k2, k3⟩ := h3 e he
    refine ⟨k1, b, k2, .inr ?_⟩
    show ((if b = F.env.locals then (s.heap.get? b).map (·.data) else F.fr b)).isSome = true
    obtain ⟨m, ⟨o, es, ep, ho, hd, _⟩, _⟩ := I.loc
    rcases k3 with rfl | k3
    · rw [if_pos rfl, ho]; rfl
    · split
      · rename_i q; rw [q, ho]; rfl
      · exact k3

theorem Inv.compUp (K : FmOk P F) (I : Inv P F l H s) {env : Env} {l' : Loc} {H' : Hp} {s' : Shared} (I' : Inv P (F.comp s.heap env) l' H' s') : Inv P F l H' s' :=
  Inv.up K I (env := env) ⟨I'.gens, I'.os, I'.keep, I'.frk, I'.loc, I'.cel, I'.objs, I'.free, I'.big⟩
theorem Off.compUp (K : FmOk P F) (I : Inv P F l H s) {env : Env} {H' : Hp} {a : Addr} (x : Off (F.comp s.heap env) H' a) : Off F H' a :=
  Off.up K I (env := env) ⟨x.h, x.g, x.fr, x.l, x.c⟩

/-- the tests -/
inductive STall (P : Pm) (G : Gx) (n : Nat) (hm : Bool) (sc : Scope) : List Expr → List Ex → Prop where
  | nil : STall P G n hm sc [] []
  | cons {e : Expr} {e' : Ex} {r : List Expr} {r' : List Ex} : ST P G n hm sc e e' → STall P G n hm sc r r' → STall P G n hm sc (e :: r) (e' :: r')

theorem tests_false {env : Env} : ∀ (r : List Expr), (forIn r false (fun (c : Expr) (r : Bool) => if r = true then do let ok ← PySem.isTrue c env (eval c env); pure (ForInStep.yield ok) else pure (ForInStep.yield r)) : Sem Bool) = pure false
  | [] => by rw [List.forIn_nil]
  | c :: r => by
    rw [List.forIn_cons]
    show (forIn r false _ : Sem Bool) = _
    exact tests_false r

theorem s_tests {sc : Scope} {es : List Expr} {es' : List Ex} (h : STall P G n hm sc es es') (K : FmOk P F) (S : ScOk sc F) (R : Room n F.A) (HM : HmOk hm F) {X : XV} {k : Bool → Hp → Prop} : ∀ {H : Hp} {s : Shared}, Inv P F l H s → wpB G hm true es' l H (fun v H' => truthV v fun b => k b H') X →
    wpAny P.M F.A (forIn es true (fun (c : Expr) (r : Bool) => if r = true then do let ok ← PySem.isTrue c F.env (eval c F.env); pure (ForInStep.yield ok) else pure (ForInStep.yield r))) (fun b s' => ∃ H', Inv P F l H' s' ∧ k b H') (PostX P F l X) s := by
  induction h with
  | nil =>
    intro H s I q
    simp only [wpB, truthV] at q
    rw [List.forIn_nil]
    exact wpAny_pure ⟨H, I, q⟩
  | @cons e e' r r' he hr ih =>
    intro H s I q
    rw [wpB] at q
    rw [List.forIn_cons]
    simp only [if_true]
    refine wpAny_bind (wpAny_bind (wpAny_mono (he K S R HM I q) (fun b s1 z => wpAny_pure ?_) fun _ _ z => z))
    obtain ⟨H1, I1, z⟩ := z
    cases b with
    | true =>
      simp only [if_true] at z
      cases hr with
      | nil =>
        dsimp only
        rw [List.forIn_nil]
        exact wpAny_pure ⟨H1, I1, z⟩
      | cons a b => exact ih I1 z
    | false =>
      simp only [Bool.false_eq_true, if_false, truthV] at z
      dsimp only
      rw [tests_false]
      exact wpAny_pure ⟨H1, I1, z⟩

/-- what a comprehension sees of the names -/
theorem comp_names {sc scope : Scope} {x : Str} (S : ScOk sc F) (hk : F.env.scope.kind = .function) (hf : compFine sc scope x = true) :
    scope.kind = .function ∧ (scope.names.map (·.1)).Nodup ∧ (∀ y ∈ scope.names, y.2 ≠ .cell) ∧ (∀ y, scope.names.lookup y = some .local → y = x ∨ y = (".0" : Str)) ∧
      (∀ y, (y, NameKind.free) ∈ scope.names → F.env.kindOf y = some .cell ∧ ∃ c, F.env.cells.lookup y = some c) ∧ scope.names.lookup x = some .local := by
  unfold compFine at hf
  simp only [Bool.and_eq_true, beq_iff_eq, decide_eq_true_eq, List.all_eq_true, Bool.or_eq_true, bne_iff_ne, ne_eq] at hf
  obtain ⟨⟨⟨h1, h2⟩, h3⟩, h4⟩ := hf
  refine ⟨h1, h2, fun y hy => (h3 y hy).1.1, fun y hy => ?_, fun y hy => ?_, h4⟩
  · have := (h3 _ (mem_of_lookup hy)).1.2
    rcases this with (q | q) | q
    · exact absurd rfl q
    · exact .inl q
    · exact .inr q
  · have := (h3 _ hy).2
    rcases this with q | q
    · exact absurd rfl q
    · exact S.cell y q

theorem comp_sc {sc scope : Scope} {x : Str} (S : ScOk sc F) (hk : F.env.scope.kind = .function) (hf : compFine sc scope x = true) {cl : List (Str × Addr)} (nd : (cl.map (·.1)).Nodup) (hcl : ∀ y, (y, NameKind.free) ∈ scope.names → ∃ c, (y, c) ∈ cl) {h : Heap} {C : Addr} :
    ScOk scope (F.comp h (compEnvC scope cl C F.env)) := by
  obtain ⟨n1, n2, n3, n4, n5, n6⟩ := comp_names S hk hf
  have kd : ∀ y k, scope.names.lookup y = some k → (compEnvC scope cl C F.env).kindOf y = some (if (k == NameKind.free && F.env.scope.kind == .function && F.env.kindOf y == some .cell) then NameKind.cell else k) := fun y k hy => by
    show (relabel scope F.env).names.lookup y = _
    rw [lookup_relabel, hy]; rfl
  refine ⟨fun y hy => ?_, fun y hy => ?_, fun y hy => ?_, fun y hy => ?_⟩
  · unfold isLoc at hy
    split at hy
    · rename_i e; exact .inl (kd y _ e)
    · rename_i e; exact absurd rfl (n3 _ (mem_of_lookup e))
    · rename_i e
      obtain ⟨q, _⟩ := n5 y (mem_of_lookup e)
      obtain ⟨c, hc⟩ := hcl y (mem_of_lookup e)
      refine .inr ⟨.inl ?_, c, lookup_of_mem nd hc⟩
      have := kd y _ e
      rw [hk, q] at this
      exact this
    · split at hy <;> cases hy
    · cases hy
  · unfold isLoc at hy
    split at hy
    · split at hy <;> cases hy
    · split at hy <;> cases hy
    · split at hy <;> cases hy
    · rename_i e; exact kd y _ e
    · cases hy
  · exact kd y _ hy
  · exact absurd rfl (n3 _ (mem_of_lookup hy))

theorem Inv.weak {l' : Loc} (I : Inv P F l H s) (h : ∀ y v, l' y = some v → l y = some v) : Inv P F l' H s :=
  ⟨I.gens, I.os, I.keep, I.frk, let ⟨m, hn, q⟩ := I.loc; ⟨m, hn, fun y v hy hk => q y v (h y v hy) hk⟩, fun y c e => let ⟨vo, hc, q⟩ := I.cel y c e; ⟨vo, hc, fun v hy hk => q v (h y v hy) hk⟩, I.objs, I.free, I.big⟩

theorem st_local (K : FmOk P F) (I : Inv P F l H s) {x : Str} {V : Value} {E : Value → Shared → Prop} {Q : Unit → Shared → Prop} (hl : F.env.kindOf x = some .local)
    (h : ∀ s', Inv P F (l.upd x (er V)) H s' → Q () s') : wpAny P.M F.A (storeName F.env x V) Q E s := by
  obtain ⟨m, hn, q⟩ := I.loc
  refine wpAny_storeName_local hl hn (fun h' hn' hs => h _ (I.stepL (t := s.toks + 1) (fun b o e hb _ => hs.extBut b o hb e) hn' K (fun y v hy hky => ?_) fun y v hy hky => ?_)) (by rw [K.kind]; rfl)
  · by_cases e : y = x
    · subst e; simp [Loc.upd] at hy; subst hy; exact ⟨V, by simp, rfl⟩
    · simp [Loc.upd, e] at hy; simp [e]; exact q y v hy hky
  · by_cases e : y = x
    · subst e; rw [hl] at hky; simp at hky
    · simpa [Loc.upd, e] using hy

theorem append_at {A : Around} {E : Value → Shared → Prop} {D : Addr} {vs : Array Value} {V : Value} {Q : Value → Shared → Prop} (e : IsL s.heap D vs) (hz : vs.size ≤ sizeLine) (h : Q .none { s with heap := s.heap.update D (Obj.mapSeq (·.push V)) }) :
    wpAny P.M A (call (.builtin "list.append") [.ref D, V]) Q E s := by
  obtain ⟨n, e0⟩ := id e
  refine wpAny_call_entry slot_list_append e.isList.typeIs entry_list_append ?_ (args_list_append _ _)
  show wpAny _ _ (updateSeq D (·.push V) >>= fun _ => ret .none) _ _ s
  exact wpAny_bind (wpAny_updateSeq e0 rfl (wpAny_pure ⟨.none, rfl, h⟩) hz)

/-- the comprehension's frame at its start -/
theorem comp_inv {sc scope : Scope} {x : Str} (K : FmOk P F) (S : ScOk sc F) (hf : compFine sc scope x = true) (I : Inv P F l H s) {cl : List (Str × Addr)} (c1 : ∀ y c, (y, c) ∈ cl → F.env.cells.lookup y = some c) {C : Addr} {h₁ : Heap} {t : Nat} (hC : s.heap.objs.size ≤ C)
    (k : ∀ b o, s.heap.get? b = some o → h₁.get? b = some o) {m : Str → Option Value} (hn : h₁.Ns C m) : Inv P (F.comp s.heap (compEnvC scope cl C F.env)) ((l.del (".0" : Str)).del x) H { s with heap := h₁, toks := t } := by
  obtain ⟨n1, n2, n3, n4, n5, n6⟩ := comp_names S K.kind hf
  have lt : ∀ a o, H a = some o → a < C := fun a o e => Nat.lt_of_lt_of_le (I.lt_of e) hC
  refine ⟨I.gens, I.os, fun b o e => ?_, fun b d e => ?_, ⟨m, hn, fun y v hy hk => ?_⟩, fun y c e => ?_, fun a o e => ?_, fun a o e => ?_, I.big⟩
  · have e : (if isCell F b then s.heap.get? b else F.g b) = some o := e
    split at e
    · exact k b o e
    · exact k b o (I.keep b o e)
  · have e : (if b = F.env.locals then (s.heap.get? b).map (·.data) else F.fr b) = some d := e
    split at e
    · obtain ⟨o, ho, hd⟩ := Option.map_eq_some_iff.mp e
      exact ⟨o, k b o ho, hd⟩
    · obtain ⟨o, ho, hd⟩ := I.frk b d e
      exact ⟨o, k b o ho, hd⟩
  · exfalso
    have hk : (relabel scope F.env).names.lookup y = some .local := hk
    rw [lookup_relabel] at hk
    obtain ⟨kk, e1, e2⟩ := Option.map_eq_some_iff.mp hk
    have : kk = .local := by
      split at e2
      · cases e2
      · exact e2
    subst this
    rcases n4 y e1 with rfl | rfl
    · simp [Loc.del] at hy
    · simp only [Loc.del] at hy
      split at hy
      · cases hy
      · simp at hy
  · have hc := c1 y c (mem_of_lookup e)
    obtain ⟨vo, ⟨o, ho, hd⟩, q⟩ := I.cel y c hc
    refine ⟨vo, ⟨o, k c o ho, hd⟩, fun v hy hk => q v ?_ ?_⟩
    · simp only [Loc.del] at hy
      split at hy
      · cases hy
      · split at hy
        · cases hy
        · exact hy
    · have hk : (relabel scope F.env).names.lookup y = some .cell ∨ (relabel scope F.env).names.lookup y = some .free := hk
      rw [lookup_relabel] at hk
      have hfr : (y, NameKind.free) ∈ scope.names := by
        rcases hk with hk | hk
        · obtain ⟨kk, e1, e2⟩ := Option.map_eq_some_iff.mp hk
          split at e2
          · rename_i hc
            simp only [Bool.and_eq_true, beq_iff_eq] at hc
            have := hc.1.1
            subst this
            exact mem_of_lookup e1
          · subst e2; exact absurd rfl (n3 _ (mem_of_lookup e1))
        · obtain ⟨kk, e1, e2⟩ := Option.map_eq_some_iff.mp hk
          split at e2
          · cases e2
          · subst e2; exact mem_of_lookup e1
      exact .inl (n5 y hfr).1
  · obtain ⟨O, ho⟩ := (I.objs a o e).some
    exact (I.objs a o e).congr ((k a O ho).trans ho.symm)
  · cases hr : o.isR with
    | true => exact fre_r (F := F) (F' := F.comp s.heap (compEnvC scope cl C F.env)) hr rfl (I.free a o e)
    | false =>
    obtain ⟨h1, h2, h3, h4⟩ := of_fre (I.free a o e) hr
    refine fre_of hr ⟨?_, ?_, Nat.ne_of_lt (lt a o e), fun y c hm => ?_⟩
    · show (if isCell F a then s.heap.get? a else F.g a) = none
      rw [if_neg (fun q => by obtain ⟨y, hm⟩ := mem_isCell q; exact h4 y a hm rfl)]; exact h1
    · show (if a = F.env.locals then (s.heap.get? a).map (·.data) else F.fr a) = none
      rw [if_neg h3]; exact h2
    · exact h4 y c (mem_of_lookup (c1 y c hm))

/-- the turn's frame: the iterator and the list stay -/
theorem s_comp_core {sc scope : Scope} {x : Str} {px pos : Pos} {elt it : Expr} {ifs : List Expr} {elt' it' : Ex} {ifs' : List Ex} (hf : compFine sc scope x = true) (hset : notSet it = true) (hi : SE P G n hm sc it it') (he : SE P G n hm scope elt elt') (ht : STall P G n hm scope ifs ifs')
    (K : FmOk P F) (S : ScOk sc F) (R : Room n F.A) (HM : HmOk hm F) (I : Inv P F l H s) {Q : QV} {X : XV} (q : wpE G hm (.comp elt' x it' ifs') l H Q X)
    {cp : Pos} {use : Option (Value → Sem Unit)} {Q' E' : Value → Shared → Prop} (hE : ∀ V s', PostX P F l X V s' → E' V s')
    (fin : ∀ {Hc : Hp} {s' : Shared} {us : Array Value} {D C : Addr} {m : Str → Option Value} {r : Flow}, Inv P F l Hc s' → Off F Hc D → Off F Hc C → D ≠ C → s'.heap.Ns C m → IsL s'.heap D us → us.size ≤ sizeLine → Q (.ref D) (Hc.upd D (.list (us.toList.map er))) → compPost P.M F.A E' use Q' (.ref D) C (.ok r) s') :
    wpAny P.M F.A (comprehension (.ListComp elt [⟨.Name x px, it, ifs, 0⟩] scope pos) scope F.env cp (newList []) false (eval it F.env) use) Q' E' s := by
  obtain ⟨n1, n2, n3, n4, n5, n6⟩ := comp_names S K.kind hf
  obtain ⟨cl, hcl, nd, c1, c2⟩ := closure_ok (env := F.env) n2 fun y hy => (n5 y hy).2
  conv at q => whnf
  refine wpAny_comprehension_free (use := use) rfl (fun _ => folded_no hset) hcl n1 (fun y hy hl => ?_) (wpAny_mono (hi K S R HM I q) (fun V s1 q => ?_) hE)
  · obtain ⟨y, k⟩ := y
    have hl : k = .local := hl
    subst hl
    exact lookup_of_mem n2 hy
  obtain ⟨H1, I1, q⟩ := q
  refine wpAny_mono (s_iter K HM I1 q) (fun itv s2 q => ?_) fun _ _ z => z
  obtain ⟨guard, items, J, St, ⟨hz, q⟩, rfl, I2, of, bz, st, T⟩ := q
  have T := T F.A rfl
  refine wpAny_newObj_type (wpAny_newFunctionEnv n3 (by intro y hy; simp at hy) (fun h₁ hns hsb => ?_) n1)
  dsimp only at hns hsb ⊢
  generalize hH2 : s2.heap.push { cls := .type "list", dict := none, data := .seq ([] : List Value).toArray } = hp2 at hns hsb ⊢
  have hC : hp2.objs.size = s2.heap.objs.size + 1 := by rw [← hH2, Heap.size_push]
  have hDC : s2.heap.objs.size ≠ hp2.objs.size := by rw [hC]; exact Nat.ne_of_lt (Nat.lt_succ_self _)
  have k1 : ∀ b o, s2.heap.get? b = some o → h₁.get? b = some o := fun b o e =>
    hsb.extBut b o (by rw [hC]; exact Nat.ne_of_lt (Nat.lt_succ_of_lt (Heap.lt_size e))) (Heap.get?_push_of_some _ (hH2 ▸ Heap.get?_push_of_some _ e))
  have hD1 : IsL h₁ s2.heap.objs.size #[] := ⟨0, hsb.extBut _ _ hDC (Heap.get?_push_of_some _ (hH2 ▸ Heap.get?_push_size _ rfl))⟩
  have I3 := comp_inv (t := s2.toks + ([] : List (Str × Value)).length) K S hf I2 c1 (C := hp2.objs.size) (by rw [hC]; exact Nat.le_succ _) k1 hns
  have KC : FmOk P (F.comp s2.heap (compEnvC scope cl hp2.objs.size F.env)) := comp_frame K I2 (env := compEnvC scope cl hp2.objs.size F.env) n1 K.glob K.blt (by show s2.heap.objs.size ≤ hp2.objs.size; rw [hC]; exact Nat.le_succ _) nd c1
  have SC : ScOk scope (F.comp s2.heap (compEnvC scope cl hp2.objs.size F.env)) := comp_sc S K.kind hf nd c2
  have kx : (compEnvC scope cl hp2.objs.size F.env).kindOf x = some .local := SC.locl x n6
  have oJ : Off (F.comp s2.heap (compEnvC scope cl hp2.objs.size F.env)) H1 J := by
    have hJ : J < s2.heap.objs.size := by obtain ⟨o, ho⟩ := T.at_ _ _ st; exact Heap.lt_size ho
    refine ⟨of.h, ?_, ?_, ?_, fun y c hm => of.c y c (mem_of_lookup (c1 y c hm))⟩
    · show (if isCell F J then s2.heap.get? J else F.g J) = none
      rw [if_neg (fun q => by obtain ⟨y, hm⟩ := mem_isCell q; exact of.c y J hm rfl)]; exact of.g
    · show (if J = F.env.locals then (s2.heap.get? J).map (·.data) else F.fr J) = none
      rw [if_neg of.l]; exact of.fr
    · show J ≠ hp2.objs.size
      rw [hC]; exact Nat.ne_of_lt (Nat.lt_succ_of_lt hJ)
  have ofD := I2.ofSize K
  have oD : Off (F.comp s2.heap (compEnvC scope cl hp2.objs.size F.env)) H1 s2.heap.objs.size := by
    refine ⟨ofD.h, ?_, ?_, hDC, fun y c hm => ofD.c y c (mem_of_lookup (c1 y c hm))⟩
    · show (if isCell F s2.heap.objs.size then s2.heap.get? s2.heap.objs.size else F.g s2.heap.objs.size) = none
      rw [if_neg (fun q => by obtain ⟨y, hm⟩ := mem_isCell q; exact ofD.c y _ hm rfl)]; exact ofD.g
    · show (if s2.heap.objs.size = F.env.locals then (s2.heap.get? s2.heap.objs.size).map (·.data) else F.fr s2.heap.objs.size) = none
      rw [if_neg ofD.l]; exact ofD.fr
  have hJD : J ≠ s2.heap.objs.size := by obtain ⟨o, ho⟩ := T.at_ _ _ st; exact Nat.ne_of_lt (Heap.lt_size ho)
  have HC : HdK (F.comp s2.heap (compEnvC scope cl hp2.objs.size F.env)) := HM.1.call I2 (compEnvC scope cl hp2.objs.size F.env)
  generalize hFc : F.comp s2.heap (compEnvC scope cl hp2.objs.size F.env) = Fc at *
  have eA : Fc.A = F.A := by rw [← hFc]; rfl
  have eE : Fc.env = compEnvC scope cl hp2.objs.size F.env := by rw [← hFc]; rfl
  generalize hstep : (fun v H2 k => wpB G hm true ifs' ((l.del (".0" : Str)).upd x v) H2 (fun c H3 => truthV c fun r =>
        if r then wpE G hm elt' ((l.del (".0" : Str)).upd x v) H3 (fun u H4 => k (some u) H4) (fun _ _ => False) else k none H3) (fun _ _ => False) : Value → Hp → (Option Value → Hp → Prop) → Prop) = step at q
  have loop : ∀ s3 : Shared, s3 = { s2 with heap := h₁, toks := s2.toks + ([] : List (Str × Value)).length } →
      codeAny P.M F.A (.compLoop (.ListComp elt [⟨.Name x px, it, ifs, 0⟩] scope pos) 0 (.ref J) (.ref s2.heap.objs.size) (compEnvC scope cl hp2.objs.size F.env))
        (compPost P.M F.A E' use Q' (.ref s2.heap.objs.size) hp2.objs.size) s3 := by
    rintro s3 rfl
    refine codeAny_compLoop_tests (fun k s => ∃ i Hc us, Inv P Fc ((l.del (".0" : Str)).del x) Hc s ∧ Off Fc Hc J ∧ Off Fc Hc s2.heap.objs.size ∧ St i s.heap ∧ IsL s.heap s2.heap.objs.size us ∧ us.size ≤ i ∧ i ≤ items.length ∧ k = items.length - i + 1 ∧
      compG guard step (items.drop i) (us.toList.map er) Hc fun us H' => newV (.list us) H' Q) ?_ (items.length + 1) ⟨0, H1, #[], I3, oJ, oD, T.frame _ _ _ st fun o e => k1 _ _ e, hD1, Nat.le_refl _, Nat.zero_le _, rfl, q⟩
    rintro k s ⟨i, Hc, us, I, ofJ, ofD, st, eD, hus, hle, hk, q⟩
    rcases Nat.lt_or_ge i items.length with hi | hi
    · obtain ⟨v, hv⟩ : ∃ v, items[i]? = some v := ⟨_, List.getElem?_eq_getElem hi⟩
      have hd : items.drop i = v :: items.drop (i + 1) := by
        rw [List.drop_eq_getElem_cons hi]
        have := List.getElem?_eq_getElem hi
        rw [hv] at this; cases this; rfl
      rw [hd] at q
      unfold compG at q
      obtain ⟨g, q⟩ := q
      refine T.item i s _ _ Hc I.objs ofJ.h g st v hv fun V h' tk hV st' k' => ?_
      have I' := I.turn (t := tk) KC ofJ k'
      obtain ⟨oj, hoj⟩ := T.at_ _ _ st'
      obtain ⟨nD, hoD⟩ := eD
      have hoD' := k' _ _ hJD.symm hoD
      dsimp only
      have ofD1 : Off (Fc.also J oj) Hc s2.heap.objs.size := ⟨ofD.h, by show (if s2.heap.objs.size = J then some oj else Fc.g s2.heap.objs.size) = none; rw [if_neg hJD.symm]; exact ofD.g, ofD.fr, ofD.l, ofD.c⟩
      have K1 := KC.also (o := oj) ofJ
      have K2 := K1.also (o := { cls := .type "list", dict := none, data := .seq us nD, slots := #[] }) ofD1
      have I2' := (I'.also ofJ hoj).also ofD1 hoD'
      generalize hF2 : (Fc.also J oj).also s2.heap.objs.size { cls := .type "list", dict := none, data := .seq us nD, slots := #[] } = F2 at K2 I2'
      have eA2 : F2.A = F.A := by rw [← hF2]; exact eA
      have eE2 : F2.env = compEnvC scope cl hp2.objs.size F.env := by rw [← hF2]; exact eE
      have HM2 : HmOk hm F2 := ⟨by rw [← hF2]; exact (HC.also ofJ.g).also ofD1.g, fun z => by rw [eA2]; exact HM.2 z⟩
      have S2 : ScOk scope F2 := by rw [← hF2]; exact ⟨SC.loc, SC.glob, SC.locl, SC.cell⟩
      rw [← eE2, ← eA2]
      refine wpAny_assign_Name (st_local K2 I2' (S2.locl x n6) fun s4 I4 => ?_)
      rw [hV] at I4
      have eL : (((l.del (".0" : Str)).del x).upd x v) = ((l.del (".0" : Str)).upd x v) := by
        funext y
        by_cases q : y = x <;> simp [Loc.upd, Loc.del, q]
      rw [eL] at I4
      subst hstep
      -- what a turn leaves
      have back : ∀ {H5 : Hp} {s5 : Shared}, Inv P F2 ((l.del (".0" : Str)).upd x v) H5 s5 → Inv P Fc ((l.del (".0" : Str)).del x) H5 s5 ∧ Off Fc H5 J ∧ Off Fc H5 s2.heap.objs.size ∧ St (i + 1) s5.heap ∧ IsL s5.heap s2.heap.objs.size us := by
        intro H5 s5 I5
        rw [← hF2] at I5
        obtain ⟨I6, e6, o6⟩ := I5.back K1 ofD1
        obtain ⟨I7, e7, o7⟩ := I6.back KC ofJ
        refine ⟨I7.weak fun y v' hy => ?_, o7, ⟨o6.h, ofD.g, o6.fr, o6.l, o6.c⟩, T.frame _ _ _ st' fun o' e => by rw [hoj] at e; cases e; exact e7, nD, e6⟩
        simp only [Loc.del] at hy
        split at hy
        · cases hy
        · rename_i hne
          simp only [Loc.upd, if_neg hne, Loc.del]
          exact hy
      refine wpAny_mono (s_tests ht K2 S2 (by rw [eA2]; exact R) HM2 I4 q) (fun b s5 z => ?_) fun _ _ z => ?_
      · obtain ⟨H5, I5, z⟩ := z
        cases b with
        | false =>
          simp only [Bool.false_eq_true, if_false] at z ⊢
          obtain ⟨b1, b2, b3, b4, b5⟩ := back I5
          exact ⟨items.length - (i + 1) + 1, by omega, i + 1, H5, us, b1, b2, b3, b4, b5, by omega, hi, rfl, z⟩
        | true =>
          simp only [if_true] at z ⊢
          refine wpAny_mono (he K2 S2 (by rw [eA2]; exact R) HM2 I5 z) (fun V6 s6 z => ?_) fun _ _ z => ?_
          · obtain ⟨H6, I6, z⟩ := z
            obtain ⟨b1, b2, b3, b4, b5⟩ := back I6
            refine append_at b5 (by omega) ?_
            have kD : ∀ b o, b ≠ s2.heap.objs.size → s6.heap.get? b = some o → (s6.heap.update s2.heap.objs.size (Obj.mapSeq (·.push V6))).get? b = some o := fun b o hb e => by rw [Heap.get?_update_other _ _ (Ne.symm hb)]; exact e
            refine ⟨items.length - (i + 1) + 1, by omega, i + 1, H6, us.push V6, b1.turn (t := s6.toks) KC b3 kD, b2, b3, T.frame _ _ _ b4 fun o e => kD _ _ hJD e, b5.update _, by simp; omega, hi, rfl, ?_⟩
            simpa using z
          · obtain ⟨_, _, _, _, _, _, z⟩ := z
            exact z.elim
      · obtain ⟨_, _, _, _, _, _, z⟩ := z
        exact z.elim
    · have : i = items.length := Nat.le_antisymm hle hi
      subst this
      rw [List.drop_length] at q
      unfold compG at q
      refine T.done s _ _ Hc I.objs ofJ.h q.1 st (eA ▸ HC.at_ I ofJ.g) fun h' tk k' => ?_
      have I' := I.turn (t := tk) KC ofJ k'
      have eD' : IsL h' s2.heap.objs.size us := let ⟨nD, e⟩ := eD; ⟨nD, k' _ _ hJD.symm e⟩
      obtain ⟨m, hnC, _⟩ := I'.loc
      rw [eE] at hnC
      have nC : Hc hp2.objs.size = none := by
        cases e : Hc hp2.objs.size with
        | none => rfl
        | some o =>
          have := I'.neL KC e
          rw [eE] at this
          exact absurd rfl this
      rw [← hFc] at I' ofD
      have IF := Inv.compUp K I2 I'
      have ofDF := Off.compUp K I2 ofD
      have ofC0 := I2.off K (a := hp2.objs.size) (Heap.get?_none_of_le (by rw [hC]; exact Nat.le_succ _))
      exact fin IF ofDF ⟨nC, ofC0.g, ofC0.fr, ofC0.l, ofC0.c⟩ hDC hnC eD' (Nat.le_trans hus hz) (q.2 _ ofDF.h)
  exact codeAny_compStart_list (loop _ rfl) (T.self 0 _ _ _ (T.frame _ _ _ st fun o e => k1 _ _ e) (loop _ rfl))

theorem s_comp {sc scope : Scope} {x : Str} {px pos : Pos} {elt it : Expr} {ifs : List Expr} {elt' it' : Ex} {ifs' : List Ex} (hf : compFine sc scope x = true) (hset : notSet it = true) (hi : SE P G n hm sc it it') (he : SE P G n hm scope elt elt') (ht : STall P G n hm scope ifs ifs')
    (K : FmOk P F) (S : ScOk sc F) (R : Room n F.A) (HM : HmOk hm F) (I : Inv P F l H s) {Q : QV} {X : XV} (q : wpE G hm (.comp elt' x it' ifs') l H Q X) :
    wpAny P.M F.A (eval (.ListComp elt [⟨.Name x px, it, ifs, 0⟩] scope pos) F.env) (PostE P F l Q) (PostX P F l X) s := by
  rw [eval_ListComp]
  refine s_comp_core hf hset hi he ht K S R HM I q (use := none) (fun _ _ z => z) fun {Hc s' us D C m r} IF oD oC hDC hn eD hz q => ⟨m, hn, fun h'' sb => ?_⟩
  have IG := IF.turn (t := s'.toks) (h' := h'') K oC fun b o hb e => sb.extBut b o hb e
  exact ⟨_, IG.track (o := .list (us.toList.map er)) oD trivial (mt_list (let ⟨nD, e⟩ := eD; ⟨nD, sb.extBut _ _ hDC e⟩) (szl hz)), q⟩

/-- a comprehension that is stored in a plain local on its own line -/
noncomputable def swapFine (sc scope : Scope) (y : Str) : Bool := sc.names.lookup y == some .local && !(scope.names.any fun z => z.1 == y && (z.2 == .local || z.2 == .cell))
theorem s1_asgComp_ok {sc scope : Scope} {x y : Str} {px py pos spos : Pos} {elt it : Expr} {ifs : List Expr} {elt' it' : Ex} {ifs' : List Ex} (hs : (swapFine sc scope y && py.line == pos.line) = true) (hf : compFine sc scope x = true) (hset : notSet it = true) (hi : SE P G n hm sc it it') (he : SE P G n hm scope elt elt') (ht : STall P G n hm scope ifs ifs')
    (K : FmOk P F) (S : ScOk sc F) (R : Room n F.A) (HM : HmOk hm F) (ro : F.ro = false) (I : Inv P F l H s) {Q : QS} {X : XS} (q : wpS G hm (.asg y (.comp elt' x it' ifs')) l H Q X) :
    wpAny P.M F.A (exec (.Assign [.Name y py] (.ListComp elt [⟨.Name x px, it, ifs, 0⟩] scope pos) spos) F.env) (PostS P F Q) (PostSX P F X) s := by
  simp only [swapFine, Bool.and_eq_true, beq_iff_eq, Bool.not_eq_true'] at hs
  obtain ⟨⟨h1, h2⟩, h3⟩ := hs
  have ky : F.env.kindOf y = some .local := S.locl y h1
  have hsw : swapsWith (.ListComp elt [⟨.Name x px, it, ifs, 0⟩] scope pos) (some (.Name y py)) spos.line F.env = pure true := by
    have : (F.env.blockKind == .function && F.env.kindOf y == some .local && py.line == pos.line && !(scope.names.any fun (n, k) => n == y && (k == .local || k == .cell))) = true := by
      rw [ky]
      have e : F.env.blockKind = .function := by unfold Env.blockKind; rw [K.kind]; rfl
      rw [e, h3]
      have e2 : (scope.names.any fun (n, k) => n == y && (k == .local || k == .cell)) = false := h2
      rw [e2]; simp
    show (pure (F.env.blockKind == .function && F.env.kindOf y == some .local && py.line == pos.line && !(scope.names.any fun (n, k) => n == y && (k == .local || k == .cell))) : Sem Bool) = pure true
    rw [this]
  rw [exec_Assign_Name_used _ _ _ _ hsw]
  conv at q => whnf
  refine wpAny_bind (wpAny_standAt (wpAny_bind ?_))
  show wpAny _ F.A (do let _ ← comprehension (.ListComp elt [⟨.Name x px, it, ifs, 0⟩] scope pos) scope F.env _ (newList []) false (eval it F.env) (some (assign (.Name y py) F.env))) _ _ s
  refine wpAny_bind (wpAny_mono (s_comp_core hf hset hi he ht K S R HM I q (use := some (assign (.Name y py) F.env)) (Q' := fun _ s' => PostS P F Q .next s') (fun _ _ z => PostX.toS z) fun {Hc s' us D C m r} IF oD oC hDC hn eD hz q => ?_) (fun _ s' hq => wpAny_pure (wpAny_pure hq)) fun _ _ e => e)
  show wpAny P.M F.A (assign (.Name y py) F.env (.ref D)) (fun _ s'' => ∃ m, s''.heap.Ns C m ∧ ∀ h', Heap.SameBut C s''.heap h' → PostS P F Q .next { s'' with heap := h' }) (PostSX P F X) s'
  obtain ⟨oc, es, ep, hoc, hrest⟩ := id hn
  have I1 := IF.track (o := .list (us.toList.map er)) oD trivial (mt_list eD (szl hz))
  have oC1 : Off F (Hc.upd D (.list (us.toList.map er))) C := ⟨(Hp.upd_ne _ _ (Ne.symm hDC)).trans oC.h, oC.g, oC.fr, oC.l, oC.c⟩
  have I2 := I1.also oC1 hoc
  refine wpAny_assign_Name (st_local (F := F.also C oc) (K.also oC1) I2 ky fun s4 I4 => ?_)
  obtain ⟨I5, hC5, oC5⟩ := Inv.back K oC1 I4
  refine ⟨m, ⟨oc, es, ep, hC5, hrest⟩, fun h' sb => ⟨_, _, I5.turn (t := s4.toks) (h' := h') K oC5 fun b o hb e => sb.extBut b o hb e, q⟩⟩

end
end Mine
end

section
open PySem PyProof.Rows PySem.Calls
namespace Mine

section
variable {P : Pm} {F : Fm} {G : Gx} {n : Nat} {hm : Bool} {l : Loc} {H : Hp} {s : Shared} {E : Value → Shared → Prop} {Q : QV}

noncomputable def bfVal : Bf → Option Value
  | .len => some (.builtin "len") | .list => some (.type "list") | .tuple => some (.type "tuple") | .sorted => some (.builtin "sorted") | .int => some (.type "int") | .all => some (.builtin "all")
  | .max2 => some (.builtin "max") | .max1 => some (.builtin "max") | .min2 => some (.builtin "min") | .range => some (.type "range") | .dict => some (.type "dict")
  | _ => none
theorem s_bf (Y : PmOk P) (K : FmOk P F) (HM : HmOk hm F) (I : Inv P F l H s) {b : Bf} {v : Value} {Vs : List Value} (hv : bfVal b = some v) (hf : bfH hm b (Vs.map er) H) (h : bfV b (Vs.map er) H Q) : wpAny P.M F.A (call v Vs) (PostE P F l Q) E s := by
  have hh : b ≠ .len → b ≠ .list → b ≠ .all → F.A.handled = none := fun n1 n2 n3 => by
    rcases hf with z | z | z | z
    · exact absurd z n1
    · exact HM.2 z
    · exact absurd z.1 n2
    · exact absurd z.1 n3
  unfold bfV at h
  split at h
  · obtain ⟨V, eV, h'⟩ := on1_elim h; clear h; subst eV; have h := h'; clear h'
    cases hv
    exact s_len I rfl h
  · obtain ⟨V, eV, h'⟩ := on1_elim h; clear h; subst eV; have h := h'; clear h'
    cases hv
    unfold seqV at h
    split at h
    · rename_i a e; have := er_ref e; subst this
      split at h
      · rename_i hx
        obtain ⟨vs, ⟨o, ho, hc, n, hd⟩, e2, _⟩ := I.objs _ _ hx
        rw [← e2] at h
        exact s_copy K I (.inl rfl) ho hc hd (by simpa using h.1) h.2
      · rename_i hx
        obtain ⟨vs, ⟨o, ho, hc, n, hd⟩, e2, _⟩ := I.objs _ _ hx
        rw [← e2] at h
        exact s_copy K I (.inr rfl) ho hc hd (by simpa using h.1) h.2
      · rename_i kvs hx
        have hn : F.A.handled = none := by
          rcases hf with z | z | ⟨_, a', xs, e1, e2⟩ | z
          · cases z
          · exact HM.2 z
          · injection e1 with e1 _
            injection e1 with e1
            rw [← e1, hx] at e2; cases e2
          · cases z.1
        exact s_keys Y K I hn hx h.1 h.2
      · exact h.elim
    · exact h.elim
  · obtain ⟨V, eV, h'⟩ := on1_elim h; clear h; subst eV; have h := h'; clear h'
    cases hv
    obtain ⟨a, eV, h'⟩ := onRef_elim rfl h; clear h; subst eV; have h := h'; clear h'
    split at h
    · rename_i xs hx
      obtain ⟨hz, q⟩ := h
      obtain ⟨vs, hl, e2, _⟩ := I.objs _ _ hx
      have hz' : vs.size ≤ sizeLine := by rw [← e2] at hz; simpa using hz
      refine call_tuple_list hl (fun h' hk => ?_) hz'
      have nn : s.heap.get? h'.objs.size = none := by
        cases q : s.heap.get? h'.objs.size with
        | none => rfl
        | some o => exact absurd (Heap.lt_size (hk _ _ q)) (Nat.lt_irrefl _)
      have of := I.off K nn
      have I' : Inv P F l H { s with heap := h'.push { cls := .type "tuple", data := .seq vs }, toks := s.toks } := I.step fun b o e _ => Heap.get?_push_of_some _ (hk b o e)
      have q := q _ of.h
      rw [← e2] at q
      exact ⟨_, I'.track (o := .tup (vs.toList.map er)) of trivial (mt_tup ⟨_, Heap.get?_push_size _ rfl, rfl, 0, rfl⟩ (by simp only [sizeLine] at hz'; omega)), q⟩
    · rename_i xs hx
      obtain ⟨vs, hl, e2, _⟩ := I.objs _ _ hx
      exact call_tuple_same hl ⟨H, I, h⟩
    · exact h.elim
  · obtain ⟨V, eV, h'⟩ := on1_elim h; clear h; subst eV; have h := h'; clear h'
    cases hv
    exact s_sorted Y K I (hh nofun nofun nofun) h
  · obtain ⟨V, eV, h'⟩ := on1_elim h; clear h; subst eV; have h := h'; clear h'
    cases hv
    obtain ⟨b, eV, h'⟩ := onBool_elim rfl h; clear h; subst eV; have h := h'; clear h'
    exact call_int_bool ⟨H, I.toks _, h⟩
  · obtain ⟨V, eV, h'⟩ := on1_elim h; clear h; subst eV; have h := h'; clear h'
    cases hv
    obtain ⟨a, eV, h'⟩ := onRef_elim rfl h; clear h; subst eV; have h := h'; clear h'
    split at h
    · rename_i hx
      obtain ⟨bs, hb, q⟩ := h
      rcases hf with z | z | z | ⟨_, a', e1, e2⟩
      · cases z
      · exact s_all K I (HM.2 z) hx hb q
      · cases z.1
      · injection e1 with e1 _
        injection e1 with e1
        rw [← e1, hx] at e2
        injection e2 with e2; injection e2 with e2
        subst e2
        have : bs = [] := List.map_eq_nil_iff.1 hb.symm
        subst this
        exact s_all_nil K HM.1 I hx q
    · exact h.elim
  · obtain ⟨V, W, eV, h'⟩ := on2_elim h; clear h; subst eV; have h := h'; clear h'
    cases hv
    obtain ⟨x, _, eV, h'⟩ := onInt_elim rfl h; clear h; subst eV; have h := h'; clear h'
    obtain ⟨y, _, eV, h'⟩ := onInt_elim rfl h; clear h; subst eV; have h := h'; clear h'
    exact s_max2 I (hh nofun nofun nofun) h
  · obtain ⟨V, W, eV, h'⟩ := on2_elim h; clear h; subst eV; have h := h'; clear h'
    cases hv
    obtain ⟨x, _, eV, h'⟩ := onInt_elim rfl h; clear h; subst eV; have h := h'; clear h'
    obtain ⟨y, _, eV, h'⟩ := onInt_elim rfl h; clear h; subst eV; have h := h'; clear h'
    exact s_min2 I (hh nofun nofun nofun) h
  · cases hv
    exact s_range K I h
  · exact h.elim

theorem se_bf (Y : PmOk P) (B : BltOk P) {sc : Scope} {f : Str} {b : Bf} {p pos : Pos} {args : List Expr} {args' : List Ex} {v : Value} (hv : bfVal b = some v) (hbt : bltTab f = some v) (hs : args.all notStar = true) (hl : isLoc sc f = some false) (ha : SEs P G n hm sc args args') :
    SE P G n hm sc (.Call (.Name f p) args [] pos) (.bf b args') := by
  intro F l K S R HM H s Q X I q
  conv at q => whnf
  refine wpAny_Call_NameR (ld_blt Y B K S I hbt hl ?_)
  refine callWith_any hs (wpAny_mono (ha K S R HM I q) (fun Vs s2 q => ?_) fun _ _ z => z)
  obtain ⟨H2, I2, hf, q⟩ := q
  refine ⟨?_, s_bf Y K HM I2 hv hf q⟩
  cases b <;> cases hv <;> exact ⟨.machine, .inr rfl, PySem.W.Looks.of_pure rfl⟩

theorem se_dict0 {sc : Scope} {pos : Pos} : SE P G n hm sc (.Dict [] [] pos) (.dict [] []) := by
  intro F l K S R HM H s Q X I q
  conv at q => whnf
  refine wpAny_Dict_empty ⟨_, I.alloc K (o := .idict []) (t := s.toks) ⟨[], ⟨_, #[], 0, Heap.get?_push_size _ rfl, ?_, rfl, ?_, ?_, by simp⟩, rfl⟩, ?_⟩
  · exact ⟨rfl, rfl, rfl⟩
  · intro e he; simp at he
  · exact Pairs.nil
  · rcases q with ⟨_, _, q⟩ | ⟨ss, e, _, _, _, hne, _⟩
    · exact q _ I.fresh
    · simp at e; exact absurd e hne
theorem se_dict1 {sc : Scope} {x : Str} {b : Bool} {kx kb : Nat} {xp bp pos : Pos} : SE P G n hm sc (.Dict [some (.Constant (.str x) kx xp)] [.Constant (.bool b) kb bp] pos) (.dict [.str x] [.bool b]) := by
  intro F l K S R HM H s Q X I q
  conv at q => whnf
  refine wpAny_Dict_pairs (knd := PySem.strKind P.prog P.w) (pairs := [(eval (.Constant (.str x) kx xp) F.env, do let v ← eval (.Constant (.bool b) kb bp) F.env; standAt pos; pure v)]) rfl (by simp) (by simp) ?_
  unfold evalPairs
  refine wpAny_bind (wpAny_Constant_str ?_)
  refine wpAny_bind (wpAny_holding (wpAny_bind (wpAny_pure (wpAny_bind (wpAny_standAt (wpAny_pure ?_))))))
  refine wpAny_bind (wpAny_holding ?_)
  unfold evalPairs
  refine wpAny_pure (wpAny_pure ⟨[(x, .bool b)], ⟨strKind_is _ _ _ _, rfl, trivial⟩, ?_, fun h' hd sb => ?_⟩)
  · exact ⟨_, #[], 0, Heap.get?_push_size _ rfl, ⟨rfl, rfl, rfl⟩, rfl, (fun e he => by simp at he), Pairs.nil, by simp⟩
  · have k : ∀ c o, s.heap.get? c = some o → h'.get? c = some o := fun c o e => sb.extBut c o (Nat.ne_of_lt (Heap.lt_size e)) (Heap.get?_push_of_some _ e)
    refine ⟨_, I.more K (o := .sdict [(x, .bool b)]) (Heap.get?_none_of_le (Nat.le_refl _)) (I.base_le K) k ⟨_, hd, rfl⟩, ?_⟩
    rcases q with ⟨e, _⟩ | ⟨ss, e, _, _, _, _, q⟩
    · cases e
    · cases ss with
      | nil => cases e
      | cons y ys =>
        injection e with e1 e2
        injection e1 with e1
        subst e1
        have : ys = [] := List.map_eq_nil_iff.1 e2.symm
        subst this
        exact q _ I.fresh
end
end Mine
end

section
open PySem PyProof.Rows PySem.Calls
namespace Mine

/-! ## every translated text keeps what its wp says -/
theorem se_comp {P : Pm} {G : Gx} {n : Nat} {hm : Bool} {sc scope : Scope} {x : Str} {px pos : Pos} {elt it : Expr} {ifs : List Expr} {elt' it' : Ex} {ifs' : List Ex} (hf : compFine sc scope x = true) (hset : notSet it = true) (hi : SE P G n hm sc it it') (he : SE P G n hm scope elt elt') (ht : STall P G n hm scope ifs ifs') :
    SE P G n hm sc (.ListComp elt [⟨.Name x px, it, ifs, 0⟩] scope pos) (.comp elt' x it' ifs') := by
  intro F l K S R HM H s Q X I q
  exact s_comp hf hset hi he ht K S R HM I q
theorem s1_asgComp {P : Pm} {G : Gx} {n : Nat} {hm : Bool} {sc scope : Scope} {x y : Str} {px py pos spos : Pos} {elt it : Expr} {ifs : List Expr} {elt' it' : Ex} {ifs' : List Ex} (hs : (swapFine sc scope y && py.line == pos.line) = true) (hf : compFine sc scope x = true) (hset : notSet it = true) (hi : SE P G n hm sc it it') (he : SE P G n hm scope elt elt') (ht : STall P G n hm scope ifs ifs') :
    S1 P G n hm sc (.Assign [.Name y py] (.ListComp elt [⟨.Name x px, it, ifs, 0⟩] scope pos) spos) (.asg y (.comp elt' x it' ifs')) :=
  fun _ _ K S R HM ro _ _ _ _ I q => s1_asgComp_ok hs hf hset hi he ht K S R HM ro I q

section
variable {P : Pm} {F : Fm} {G : Gx} {n : Nat} {hm : Bool} {l : Loc} {H : Hp} {s : Shared}
theorem ans2 {Ps : Shared → Prop} {x c d : Value} {a b : Bool} (h1 : Answers Ps x c a) (h2 : Answers Ps x d b) : AnswersAll Ps x [c, d] [a, b] := .cons h1 (.cons h2 .nil)
theorem s_isi_lt (I : Inv P F l H s) {E : Value → Shared → Prop} {V : Value} {tp : Addr} {Q : QV} (ht : s.heap.get? tp = some { cls := .type "tuple", data := .seq #[.type "list", .type "tuple"] }) (h : isiV G (er V) .listOrTuple H Q) :
    wpAny P.M F.A (call (.builtin "isinstance") [V, .ref tp]) (PostE P F l Q) E s := by
  have R : ∀ {b : Bool}, Q (.bool b) H → ∀ u, PostE P F l Q (.bool b) { s with toks := u } := fun q _ => ⟨H, I.toks _, q⟩
  unfold isiV at h
  cases V with
  | none => exact IsiPair.tupleOfB (Tx := "NoneType") (ans2 (Answers.of_false_none (by decide +kernel) PySem.F.isi_meta_list PySem.F.sub_NoneType_list) (Answers.of_false_none (by decide +kernel) PySem.F.isi_meta_tuple PySem.F.sub_NoneType_tuple)) rfl ht rfl (R h.2)
  | bool b => exact IsiPair.tupleOfB (Tx := "bool") (ans2 (Answers.of_false_bool (by decide +kernel) PySem.F.isi_meta_list PySem.F.sub_bool_list) (Answers.of_false_bool (by decide +kernel) PySem.F.isi_meta_tuple PySem.F.sub_bool_tuple)) rfl ht rfl (R h.2)
  | int i t => exact IsiPair.tupleOfB (Tx := "int") (ans2 (Answers.of_false_int (by decide +kernel) PySem.F.isi_meta_list PySem.F.sub_int_list) (Answers.of_false_int (by decide +kernel) PySem.F.isi_meta_tuple PySem.F.sub_int_tuple)) rfl ht rfl (R h.2)
  | str x t => exact IsiPair.tupleOfB (Tx := "str") (ans2 (Answers.of_false_str (by decide +kernel) PySem.F.isi_meta_list PySem.F.sub_str_list) (Answers.of_false_str (by decide +kernel) PySem.F.isi_meta_tuple PySem.F.sub_str_tuple)) rfl ht rfl (R h.2)
  | ref a =>
    simp only [er] at h
    cases hx : H a with
    | none => rw [hx] at h; exact h.elim
    | some o =>
      rw [hx] at h
      cases o with
      | list xs =>
        obtain ⟨vs, ⟨o, ho, hc, _⟩, _⟩ := I.objs _ _ hx
        exact IsiPair.tupleOfB (Tx := "list") (ans2 (Answers.of_true PySem.F.isi_meta_list PySem.F.sub_list_list) (Answers.of_false_list (by decide +kernel) PySem.F.isi_meta_tuple PySem.F.sub_list_tuple)) ⟨o, ho, hc⟩ ht rfl (R h.2)
      | tup xs =>
        obtain ⟨vs, ⟨o, ho, hc, _⟩, _⟩ := I.objs _ _ hx
        exact IsiPair.tupleOfB (Tx := "tuple") (ans2 (Answers.of_false_tuple (by decide +kernel) PySem.F.isi_meta_list PySem.F.sub_tuple_list) (Answers.of_true PySem.F.isi_meta_tuple PySem.F.sub_tuple_tuple)) ⟨o, ho, hc⟩ ht rfl (R h.2)
      | idict kvs =>
        obtain ⟨vs, ⟨o, es, ep, ho, hc, _⟩, _⟩ := I.objs _ _ hx
        exact IsiPair.tupleOfB (Tx := "dict") (ans2 (Answers.of_false_dict (by decide +kernel) PySem.F.isi_meta_list PySem.F.sub_dict_list) (Answers.of_false_dict (by decide +kernel) PySem.F.isi_meta_tuple PySem.F.sub_dict_tuple)) ⟨o, ho, hc.1⟩ ht rfl (R h.2)
      | sdict kvs =>
        obtain ⟨vs, ⟨o, es, ep, ho, hc, _⟩, _⟩ := I.objs _ _ hx
        exact IsiPair.tupleOfB (Tx := "dict") (ans2 (Answers.of_false_dict (by decide +kernel) PySem.F.isi_meta_list PySem.F.sub_dict_list) (Answers.of_false_dict (by decide +kernel) PySem.F.isi_meta_tuple PySem.F.sub_dict_tuple)) ⟨o, ho, hc.1⟩ ht rfl (R h.2)
      | exc C => exact h.2.elim
      | rlist _ => exact h.elim
      | inst _ _ => exact h.elim
      | ns _ => exact h.elim
      | range _ _ _ => exact h.elim
  | _ => exact h.elim

theorem se_isi_lt (Y : PmOk P) (B : BltOk P) {sc : Scope} {e : Expr} {e' : Ex} {p p2 p3 p4 pos : Pos} {kk : Nat} (hn : notStar e = true) (hi : isLoc sc "isinstance" = some false) (hx : isLoc sc "list" = some false) (hy : isLoc sc "tuple" = some false) (he : SE P G n hm sc e e') :
    SE P G n hm sc (.Call (.Name "isinstance" p) [e, .Tuple [.Name "list" p2, .Name "tuple" p3] kk p4] [] pos) (.isi e' .listOrTuple) := by
  intro F l K S R HM H s Q X I q
  conv at q => whnf
  refine wpAny_Call_NameR (ld_blt Y B K S I (v := .builtin "isinstance") (by decide +kernel) hi ?_)
  refine callWith_any (by rw [List.all_cons, hn]; rfl) ?_
  rw [star_cons hn]
  refine spliced_cons (wpAny_mono (he K S R HM I q) (fun V s' q => ?_) fun _ _ z => z)
  obtain ⟨H1, I1, q⟩ := q
  refine spliced_cons (Tuple_ (k := kk) (spliced_cons (ld_blt Y B K S I1 (v := .type "list") (by decide +kernel) hx (spliced_cons (ld_blt Y B K S I1 (v := .type "tuple") (by decide +kernel) hy (spliced_nil (wpAny_newTuple ?_ (by simp [sizeLine]))))))))
  refine spliced_nil ⟨machine_builtin _ _ _, ?_⟩
  have I2 := I1.step (t := s'.toks) (h' := s'.heap.push { cls := .type "tuple", data := .seq #[.type "list", .type "tuple"] }) fun b o e _ => Heap.get?_push_of_some _ e
  exact s_isi_lt I2 (Heap.get?_push_size _ rfl) q
end

section
variable {P : Pm} {G : Gx} {n : Nat} {hm : Bool} {sc : Scope}
theorem sts_one {e : Expr} {e' : Ex} (h : ST P G n hm sc e e') : STs P G n hm sc [e] [e'] := sts_cons (fun _ => rfl) h sts_nil
theorem sts_more {e e2 : Expr} {e' e2' : Ex} {es : List Expr} {es' : List Ex} (h : ST P G n hm sc e e') (r : STs P G n hm sc (e2 :: es) (e2' :: es')) : STs P G n hm sc (e :: e2 :: es) (e' :: e2' :: es') := sts_cons (fun q => nomatch q) h r
theorem se_bop1 {op : BoolOp} {e : Expr} {e' : Ex} {es : List Expr} {es' : List Ex} {pos : Pos} (h : SBs P G n hm sc (e :: es) (e' :: es')) : SE P G n hm sc (.BoolOp op (e :: es) pos) (.bop (op == .And) (e' :: es')) := se_bop (List.cons_ne_nil _ _) h
theorem se_idx1 {x y : Expr} {x' y' : Ex} {pos : Pos} (hx : SE P G n hm sc x x') (hy : SE P G n hm sc y y') (hsl : (fun o i => subscripted y false o i) = fun o i => operate [o, i] (getItem o i)) : SE P G n hm sc (.Subscript x y pos) (.idx x' y') := se_idx hx hy fun o i => congrFun (congrFun hsl o) i
theorem st_of_se {e : Expr} {e' : Ex} (h : SE P G n hm sc e e') (he : (fun env whole => PySem.isTrue e env whole) = fun env whole => (do let v ← whole; standAt e.pos; holding [v] (truthy v))) : ST P G n hm sc e e' := SE.test h fun env w => congrFun (congrFun he env) w
end
theorem len1 {vals : List Value} (h : vals.length = 1) : ∃ a, vals = [a] := by
  cases vals with
  | nil => cases h
  | cons a r => cases r with
    | nil => exact ⟨a, rfl⟩
    | cons _ _ => simp at h
theorem len2 {vals : List Value} (h : vals.length = 2) : ∃ a b, vals = [a, b] := by
  cases vals with
  | nil => cases h
  | cons a r =>
    obtain ⟨b, rfl⟩ := len1 (vals := r) (by simpa using h)
    exact ⟨a, b, rfl⟩
theorem len3 {vals : List Value} (h : vals.length = 3) : ∃ a b c, vals = [a, b, c] := by
  cases vals with
  | nil => cases h
  | cons a r =>
    obtain ⟨b, c, rfl⟩ := len2 (vals := r) (by simpa using h)
    exact ⟨a, b, c, rfl⟩
noncomputable def bodyOf : Stmt → List Stmt
  | .FunctionDef _ _ b _ _ _ _ _ _ _ => b
  | _ => []
noncomputable def scOf : Stmt → Scope
  | .FunctionDef _ _ _ _ _ _ sc _ _ _ => sc
  | _ => default
end Mine
end

section
open PySem PyProof.Rows PySem.Calls
namespace Mine

/-! ## the defs of a text, by the depth of their calls -/
noncomputable abbrev Tab := Addr → Option (List Str × List Sm)

noncomputable def GG (g : Gx) (tab : Tab) : Nat → Gx
  | 0 => { g with fn := fun _ _ _ _ _ _ => False }
  | n + 1 => { g with fn := fun f hm args H Q X => match tab f with
      | some (ps, sm) => wpF (GG g tab n) hm ps sm args H Q X
      | none => False }

structure TabOk (P : Pm) (tab : Tab) : Prop where
  ok : ∀ f ps sm, tab f = some (ps, sm) → ∃ sc body, FnAt P f ps sc body ∧ ∀ {G : Gx} {n : Nat}, GxOk P G → SndFn P G n → ∀ hm, SS P G n hm sc body sm

section
variable {P : Pm} {g : Gx} {tab : Tab}

theorem gg_ok (GO : GxOk P g) (n : Nat) : GxOk P (GG g tab n) := by
  cases n <;> exact ⟨GO.glob, GO.fld, GO.meth, GO.init, GO.exc, GO.sub, GO.self, GO.own⟩

theorem gg_snd (Y : PmOk P) (B : BltOk P) (GO : GxOk P g) (T : TabOk P tab) : ∀ n, SndFn P (GG g tab n) n
  | 0 => ⟨fun h => h.elim, fun h => h.elim⟩
  | n + 1 => by
    have ih := gg_snd Y B GO T n
    refine ⟨fun {f hm args H Q X} h => ?_, fun {f hm args H Q X} h {F l s vals} K R HM I hv => ?_⟩
    · have h : (match tab f with | some (ps, sm) => wpF (GG g tab n) hm ps sm args H Q X | none => False) := h
      split at h
      · rename_i ps sm e
        obtain ⟨sc, body, D, _⟩ := T.ok f ps sm e
        exact D.keep
      · exact h.elim
    · have h : (match tab f with | some (ps, sm) => wpF (GG g tab n) hm ps sm args H Q X | none => False) := h
      split at h
      · rename_i ps sm e
        obtain ⟨sc, body, D, htr⟩ := T.ok f ps sm e
        exact call_def Y D (htr (gg_ok GO n) ih hm) h K R HM I hv
      · exact h.elim

/-- the call of the law itself -/
theorem call_top (Y : PmOk P) (B : BltOk P) (GO : GxOk P g) (T : TabOk P tab) {n : Nat} {f : Addr} {A : Around} (hA : A.frames = some []) (hh : A.handled = none) (R : RoomC (n + 1) A) {vals : List Value} {Q : QV} {H₀ : Hp} (hH : ∀ a o, H₀ a = some o → o.isRL = true ∧ Mt P P.base a o)
    (q : (GG g tab (n + 1)).fn f false (vals.map er) H₀ Q (fun _ _ => False)) :
    codeAny P.M A (.call (.ref f) ⟨vals, []⟩) (fun r s' => ∃ V H', r = .ok (.ret V) ∧ Q (er V) H' ∧ s'.gens = P.s₀.gens ∧ s'.os = P.s₀.os ∧ ∀ b o, P.base.get? b = some o → s'.heap.get? b = some o) P.s₀ := by
  have q : (match tab f with | some (ps, sm) => wpF (GG g tab n) false ps sm (vals.map er) H₀ Q (fun _ _ => False) | none => False) := q
  split at q
  · rename_i ps sm e
    obtain ⟨sc, body, D, htr⟩ := T.ok f ps sm e
    have hb : SS P (GG g tab n) n false sc body sm := htr (gg_ok GO n) (gg_snd Y B GO T n) false
    obtain ⟨hlen, q⟩ := q
    obtain ⟨o, fd, d1, d2, d3, d4, d5, d6, d7, d8, d9⟩ := D.at_
    have fine := D.fine
    unfold scFine at fine
    simp only [Bool.and_eq_true, beq_iff_eq, Bool.not_eq_true', decide_eq_true_eq, List.all_eq_true, Bool.or_eq_true, bne_iff_ne, ne_eq] at fine
    obtain ⟨⟨⟨⟨⟨⟨f1, f2⟩, f3⟩, f4⟩, f5⟩, f6⟩, f7⟩ := fine
    have kd : ∀ x, (callEnvC fd P.s₀.heap.objs.size f).kindOf x = sc.names.lookup x := fun x => by show fd.scope.names.lookup x = _; rw [d5]
    have cl : ∀ x, sc.names.lookup x = some .cell → ∃ c, (callEnvC fd P.s₀.heap.objs.size f).cells.lookup x = some c := fun x hx => by
      show ∃ c, (cellsFrom _ fd.scope.names []).lookup x = some c
      rw [d5]; exact cells_lookup _ _ _ hx
    have nf : ∀ x, sc.names.lookup x ≠ some .free := fun x hx => f5 _ (mem_of_lookup hx) rfl
    refine codeAny_call_cells (binds := ps.zip vals) (by have := R.1; omega) d1 d2 Y.lim d3 d4 (d9 vals (by simpa using hlen.symm)) d6 (fun x hx => ?_) (fun s₁ x => ?_) (by rw [d5]; exact f2) (by rw [d5]; exact f3) (by rw [d5]; exact f1)
    · have := f6 x.1 (List.of_mem_zip (a := x.1) (b := x.2) hx).1
      rw [d5]
      rcases this with h | h
      · exact .inl h
      · obtain ⟨c, hc⟩ := cells_lookup (x := x.1) sc.names (P.s₀.heap.objs.size + 1) [] h
        exact .inr ⟨h, by rw [hc]; rfl⟩
    · let F : Fm := { env := callEnvC fd P.s₀.heap.objs.size f, A := A.deeper (callEnvC fd P.s₀.heap.objs.size f), g := fun b => P.base.get? b, fr := fun _ => none, ro := false }
      have nn : ∀ b, P.s₀.heap.objs.size ≤ b → P.base.get? b = none := fun b hb => Heap.get?_none_of_le hb
      have ab : ∀ y c, (y, c) ∈ F.env.cells → P.s₀.heap.objs.size < c := x.above
      have K : FmOk P F := by
        refine ⟨by show fd.scope.kind = _; rw [d5]; exact f1, d7, d8, fun b o e => e, Nat.le_refl _, nn _ (Nat.le_refl _), rfl, fun y c hm => Nat.ne_of_gt (ab y c hm), fun _ y c hm => ⟨nn c (Nat.le_of_lt (ab y c hm)), rfl⟩, x.apart,
          fun y c hm => lookup_of_mem (cells_names _ _ _ (by rw [d5]; exact f4) .nil (by simp)) hm, fun _ _ _ => rfl, fun b d e => (nomatch e), ?_, fun a e => (nomatch e)⟩
        refine ⟨F.env, [], ?_, fun _ => ⟨rfl, rfl⟩, fun e he => ?_⟩
        · show A.frames.map _ = _
          rw [hA]; rfl
        · rcases List.mem_cons.mp he with rfl | he
          · exact ⟨by show fd.scope.kind ≠ _; rw [d5, f1]; decide, _, rfl, .inl rfl⟩
          · cases he
      have S : ScOk sc F := by
        refine ⟨fun y hy => ?_, fun y hy => ?_, fun y hy => (kd y).trans hy, fun y hy => ⟨(kd y).trans hy, cl y hy⟩⟩
        · unfold isLoc at hy
          split at hy
          · rename_i e; exact .inl ((kd y).trans e)
          · rename_i e; exact .inr ⟨.inl ((kd y).trans e), cl y e⟩
          · rename_i e; exact absurd e (nf y)
          · split at hy <;> cases hy
          · cases hy
        · unfold isLoc at hy
          split at hy
          · split at hy <;> cases hy
          · split at hy <;> cases hy
          · split at hy <;> cases hy
          · rename_i e; exact (kd y).trans e
          · cases hy
      have I : Inv P F (fun y => (ps.zip (vals.map er)).lookup y) H₀ s₁ := by
        obtain ⟨⟨⟨h, tk, rfl⟩, ns, keep, fresh⟩, cell, apart, above⟩ := x
        refine ⟨rfl, rfl, keep, fun b d e => (nomatch e), ⟨_, ns, fun y v hy hk => ((bindL_get hk ps vals _ f7 v).1 hy)⟩, fun y c e => ⟨_, cell y c e, fun v hy hk => ((bindC_get (fun q => ?_) ps vals _ f7 v).1 hy)⟩, fun a o e => ?_, fun a o e => ?_, fun a o e => ?_⟩
        · have hk : (callEnvC fd P.s₀.heap.objs.size f).kindOf y = some .cell ∨ (callEnvC fd P.s₀.heap.objs.size f).kindOf y = some .free := hk
          rw [q] at hk; simp at hk
        · obtain ⟨O, ho⟩ := (hH a o e).2.some
          exact (hH a o e).2.congr ((keep a O ho).trans ho.symm)
        · have hr := (hH a o e).1
          cases o <;> first | exact (hH a _ e).2.some | cases hr
        · have := (hH a o e).1
          cases o <;> first | trivial | cases this
      refine wpAny_mono (hb K S ⟨?_, ?_⟩ ⟨.inl hh, fun _ => hh⟩ rfl I q) (fun fl s' z => ?_) fun EV s' z => ?_
      · show A.depth + 1 + 2 * n + 2 < _
        have := R.1; omega
      · show A.units + 3 + 30 * n + 200 < _
        have := R.2; omega
      · obtain ⟨l2, H2, I2, z⟩ := z
        cases fl with
        | next => exact ⟨_, H2, rfl, z, I2.gens, I2.os, I2.keep⟩
        | brk => exact z.elim
        | cont => exact z.elim
        | ret v => exact ⟨_, H2, rfl, z, I2.gens, I2.os, I2.keep⟩
      · obtain ⟨_, _, _, _, _, _, _, z⟩ := z
        exact z.elim
  · exact q.elim
end
end Mine
end

section
open PySem PyProof.Rows PySem.Calls
open PySem.W (Frag nsIn mg_of ns_none_of findIn plainGet hasDictIn isFn plainOver takerIn makesIn subIn mroIn clsIn typeIn findObj excIn keepIn codeIn codeRec_of own_of_in TopRead)
namespace Mine

/-! ## what a fragment of the heap says -/
noncomputable def excOk (K : Frag) (names : List Str) (C : Addr) : Bool :=
  findIn K (.ref C) "__getattribute__" == some (some (.builtin "BaseException.__getattribute__")) && findIn K (.ref C) "__getattr__" == some none &&
  (match findObj K C none "__class__" with | some (.bind g a) => g == .builtin "getset_descriptor.__get__" && a == .builtin "object.__class__" | _ => false) &&
  mroIn K C (.type "object") == some true && mroIn K C (.type "BaseException") == some true && (clsIn K C).isSome && typeIn K (.ref C) == some (.type "type") && subIn K (.ref C) (.type "ValueError") == some true &&
  subIn K (.ref C) (.ref C) == some true && excIn K C veMro "ValueError.__new__" && names.any fun x => nsIn K mainGlobals x == some (some (.ref C))

/-- the small text's top, as a fragment tells it -/
noncomputable def gOf (K : Frag) (names : List Str) : Gx where
  glob := fun x => match nsIn K mainGlobals x with | some (some v) => some (er v) | _ => none
  fn := fun _ _ _ _ _ _ => False
  meth := fun C m => match findIn K (.ref C) m with | some (some (.ref f)) => if plainGet K C m && isFn K (.ref f) then some f else none | _ => none
  init := fun C => match findIn K (.ref C) "__init__" with | some (some (.ref f)) => if makesIn K C && isFn K (.ref f) && keepIn K (.ref C) then some f else none | _ => none
  isExc := excOk K names
  sub := fun C D => subIn K (.ref C) (.ref D) == some true
  fld := fun C a => plainGet K C a && hasDictIn K C && findIn K (.ref C) a == some none && findIn K (.ref C) "__setattr__" == some (some (.builtin "object.__setattr__")) && plainOver K C && takerIn K C a == some none

theorem g_ok {P : Pm} {names : List Str} {p : Program} {loose : List Str} (Y : PmOk P) (T : TopRead p loose P.mg P.mb P.base) : GxOk P (gOf P.K names) := by
  refine ⟨fun x v h => ?_, fun C a h => ?_, fun C m f h => ?_, fun C f h => ?_, fun C h => ?_, fun C D h _ => ?_, fun C h => ?_, fun C h => ?_⟩
  · have h : (match nsIn P.K mainGlobals x with | some (some v) => some (er v) | _ => none) = some v := h
    split at h
    · rename_i V e
      cases h
      exact ⟨V, rfl, .inl (mg_of Y.kin T.g e)⟩
    · cases h
  · simp only [gOf, Bool.and_eq_true, beq_iff_eq] at h
    obtain ⟨⟨⟨⟨⟨h1, h2⟩, h3⟩, h4⟩, h5⟩, h6⟩ := h
    exact ⟨h1, h2, h3, h4, h5, h6⟩
  · have h : (match findIn P.K (.ref C) m with | some (some (.ref f)) => if plainGet P.K C m && isFn P.K (.ref f) then some f else none | _ => none) = some f := h
    split at h
    · rename_i f' e
      split at h
      · rename_i q
        simp only [Bool.and_eq_true] at q
        cases h
        exact ⟨q.1, e, q.2⟩
      · cases h
    · cases h
  · have h : (match findIn P.K (.ref C) "__init__" with | some (some (.ref f)) => if makesIn P.K C && isFn P.K (.ref f) && keepIn P.K (.ref C) then some f else none | _ => none) = some f := h
    split at h
    · rename_i f' e
      split at h
      · rename_i q
        simp only [Bool.and_eq_true] at q
        cases h
        exact ⟨q.1.1, e, q.1.2, q.2⟩
      · cases h
    · cases h
  · have h : excOk P.K names C = true := h
    unfold excOk at h
    simp only [Bool.and_eq_true, beq_iff_eq] at h
    obtain ⟨⟨⟨⟨⟨⟨⟨⟨⟨⟨h1, h2⟩, h3⟩, h4⟩, h5⟩, h6⟩, h7⟩, h8⟩, h9⟩, h10⟩, h11⟩ := h
    refine ⟨h1, h2, ?_, h4, h5, h6, h7, h8⟩
    split at h3
    · rename_i g a e
      simp only [Bool.and_eq_true, beq_iff_eq] at h3
      rw [e, h3.1, h3.2]
    · cases h3
  · have h : excOk P.K names C = true := h
    unfold excOk at h
    simp only [Bool.and_eq_true, beq_iff_eq] at h
    obtain ⟨⟨⟨⟨⟨⟨⟨⟨⟨⟨h1, h2⟩, h3⟩, h4⟩, h5⟩, h6⟩, h7⟩, h8⟩, h9⟩, h10⟩, h11⟩ := h
    show subIn P.K (.ref C) (.ref D) = some (subIn P.K (.ref C) (.ref D) == some true)
    show mroIn P.K C (.ref D) = some (mroIn P.K C (.ref D) == some true)
    unfold mroIn at h4 ⊢
    obtain ⟨cd, hc, h4⟩ := Option.bind_eq_some_iff.mp h4
    rw [hc]
    simp only [Option.bind_some]
    split at h4
    · cases h4
    · rename_i q
      rw [if_neg q]
      cases cd.mro.contains (Value.ref D) <;> rfl
  · have h : excOk P.K names C = true := h
    unfold excOk at h
    simp only [Bool.and_eq_true, beq_iff_eq] at h
    obtain ⟨⟨⟨⟨⟨⟨⟨⟨⟨⟨h1, h2⟩, h3⟩, h4⟩, h5⟩, h6⟩, h7⟩, h8⟩, h9⟩, h10⟩, h11⟩ := h
    exact beq_iff_eq.mpr h9
  · have h : excOk P.K names C = true := h
    unfold excOk at h
    simp only [Bool.and_eq_true] at h
    obtain ⟨⟨_, h10⟩, h11⟩ := h
    obtain ⟨x, _, hx⟩ := List.any_eq_true.mp h11
    exact (own_of_in Y.kin T (beq_iff_eq.mp hx) h10).obj

noncomputable def bltNames : List Str := ["len", "isinstance", "list", "tuple", "sorted", "dict", "int", "all", "max", "min", "range", "str", "bool", "ValueError", "set"]
theorem blt_mem {x : Str} {v : Value} (h : bltTab x = some v) : x ∈ bltNames ∧ bootBuiltins x = some v ∧ x ≠ "__name__" := by
  have hm : (x, v) ∈ bltL := mem_of_lookup h
  have := List.all_eq_true.1 (show (bltL.all fun p => bltNames.contains p.1 && bootBuiltins p.1 == some p.2 && p.1 != "__name__") = true by decide +kernel) _ hm
  simp only [Bool.and_eq_true, beq_iff_eq, bne_iff_ne, List.contains_iff_mem] at this
  exact ⟨this.1.1, this.1.2, this.2⟩

theorem blt_ok {P : Pm} {p : Program} {loose : List Str} (Y : PmOk P) (T : TopRead p loose P.mg P.mb P.base) (h : bltNames.all (fun x => nsIn P.K mainGlobals x == some none) = true) : BltOk P := by
  refine ⟨fun x v hx => ?_⟩
  obtain ⟨h1, h2, h3⟩ := blt_mem hx
  have := List.all_eq_true.mp h x h1
  exact ⟨ns_none_of Y.kin T.g (beq_iff_eq.mp this), (T.builtins x h3).trans h2⟩

theorem tab_mem {α : Type} {a : Addr} {b : α} : ∀ {l : List (Addr × α)}, l.lookup a = some b → (a, b) ∈ l
  | [], h => by cases h
  | (c, d) :: r, h => by
    rw [List.lookup_cons] at h
    split at h
    · rename_i e
      cases h
      have : a = c := by simpa using e
      rw [this]; exact .head _
    · exact .tail _ (tab_mem h)

/-- a def of the fragment -/
theorem fn_at {P : Pm} {f : Addr} {o : Obj} {fd : FuncData} {ps : List Str} {body : List Stmt} (Y : PmOk P) (h1 : P.K.lookup f = some o) (h2 : o.data = .func fd) (h3 : codeIn P.K fd.code fd.qualname = true) (h4 : fd.body = .stmts body) (h5 : fd.closure = []) (h6 : fd.globals = mainGlobals) (h7 : fd.builtins = builtinsNs)
    (h8 : ∀ vals, vals.length = ps.length → bindArgs fd ⟨vals, []⟩ = pure (ps.zip vals)) (h9 : scFine fd.scope ps = true) (h10 : keepIn P.K (.ref f) = true) : FnAt P f ps fd.scope body :=
  ⟨⟨o, fd, Y.kin _ _ h1, h2, codeRec_of Y.kin h3, h4, rfl, h5, h6, h7, h8⟩, h9, h10⟩
/-! ## a table, row by row -/
noncomputable def RowOk (P : Pm) (e : Addr × (List Str × List Sm)) : Prop := ∃ sc body, FnAt P e.1 e.2.1 sc body ∧ ∀ {G : Gx} {n : Nat}, GxOk P G → SndFn P G n → ∀ hm, SS P G n hm sc body e.2.2
inductive RowsOk (P : Pm) : List (Addr × (List Str × List Sm)) → Prop where
  | nil : RowsOk P []
  | cons {e : Addr × (List Str × List Sm)} {r : List (Addr × (List Str × List Sm))} : RowOk P e → RowsOk P r → RowsOk P (e :: r)
theorem RowsOk.mem {P : Pm} {L : List (Addr × (List Str × List Sm))} (h : RowsOk P L) : ∀ {e}, e ∈ L → RowOk P e := by
  induction h with
  | nil => intro e h; cases h
  | cons h1 _ ih =>
    intro e h
    cases h with
    | head => exact h1
    | tail _ h => exact ih h
theorem tabOk_of {P : Pm} {L : List (Addr × (List Str × List Sm))} (h : RowsOk P L) : TabOk P (fun f => L.lookup f) := ⟨fun _ _ _ e => h.mem (tab_mem e)⟩
end Mine
end

section
open PySem PyProof.Rows PySem.Calls
open PySem.W (Frag nsIn mg_of TopRead)
namespace Mine

/-- the script, as the law may read it -/
noncomputable def hOf (a : Addr) (ns : List Int) : Hp := fun b => if b = a then some (.rlist (ns.map fun n => Value.int n 0)) else none

/-- what is to be shown of a law: its small text tells True, whatever the script -/
noncomputable def LawTells (K : Params → Frag) (names : List Str) (tab : Tab) (f : Addr) : Prop :=
  ∀ (p : Params) (a : Addr) (ns : List Int), ns.length ≤ 63 → (GG (gOf (K p) names) tab 13).fn f false [.ref a] (hOf a ns) (fun v _ => v = .bool true) (fun _ _ => False)

theorem law_runs {prog vp : Program} {w : World} {s : Shared} {mg mb : Str → Option Value} {K : Params → Frag} {names loose : List Str} {tab : Tab} {f fa a : Addr} {nm : Str} {vs : List Value} {ns : List Int} {Q : Value → Shared → Prop} {E : Value → Shared → Prop}
    (KX : (K w.params).In s.heap) (T : TopRead vp loose mg mb s.heap) (hmg : mg nm = some (.ref fa)) (hf : nsIn (K w.params) mainGlobals nm = some (some (.ref f))) (hb : bltNames.all (fun x => nsIn (K w.params) mainGlobals x == some none) = true)
    (TO : ∀ {P : Pm}, PmOk P → BltOk P → P.K = K P.w.params → TabOk P tab) (hL : s.heap.IsList a vs.toArray) (hI : IntsAre vs ns) (hl : ¬ (63 : Int) < (ns.length : Int)) (law : LawTells K names tab f)
    (q : ∀ s', s'.gens = s.gens → s'.os = s.os → (∀ b o, s.heap.get? b = some o → s'.heap.get? b = some o) → Q (.bool true) s') :
    wpAny (model prog w) callerA (call (.ref fa) [.ref a]) Q E s := by
  let P : Pm := { prog := prog, w := w, s₀ := s, mg := mg, mb := mb, K := K w.params }
  have Y : PmOk P := ⟨T.g, T.b, T.nolimit, KX⟩
  have T' : TopRead vp loose P.mg P.mb P.base := T
  have GO : GxOk P (gOf P.K names) := g_ok Y T'
  have hH : ∀ b o, hOf a ns b = some o → o.isRL = true ∧ Mt P P.base b o := fun b o h => by
    unfold hOf at h
    split at h
    · rename_i e
      cases h
      subst e
      exact ⟨rfl, vs.toArray, hL, seq_ints hI, by simp; omega⟩
    · cases h
  have B : BltOk P := blt_ok Y T' hb
  have e : fa = f := by
    have := mg_of KX T.g hf
    rw [hmg] at this
    cases this; rfl
  subst e
  have L := law w.params a ns (by omega)
  refine wpAny_call (codeAny_mono (call_top (P := P) Y B GO (TO Y B rfl) (n := 12) rfl rfl ?_ (vals := [.ref a]) hH L) fun r s' z => ?_)
  · exact ⟨by decide, by decide⟩
  · obtain ⟨V, H', rfl, hV, h1, h2, h3⟩ := z
    have := er_bool hV
    subst this
    exact q s' h1 h2 h3
end Mine
end

section
open PySem PyProof.Rows PySem.Calls PySem.W
namespace Mine
/-! ## rows of a table, by the number of parameters -/
section
variable {P : Pm} {K : List (Addr × Obj)} {f : Addr} {fd : FuncData} {body : List Stmt} {b : List Sm} {x y z u v : Str}
theorem row_of {ps : List Str} (Y : PmOk P) (hK : P.K = K) (h1 : K.lookup f = some { cls := .type "function", data := .func fd }) (h2 : fd.body = .stmts body) (h3 : (codeIn K fd.code fd.qualname && scFine fd.scope ps && keepIn K (.ref f)) = true) (h5 : fd.closure = [] ∧ fd.globals = mainGlobals ∧ fd.builtins = builtinsNs)
    (d : ∀ {G : Gx} {n : Nat}, GxOk P G → SndFn P G n → ∀ hm, SS P G n hm fd.scope body b) (h8 : ∀ vals, vals.length = ps.length → bindArgs fd ⟨vals, []⟩ = pure (ps.zip vals)) : RowOk P (f, (ps, b)) := by
  subst hK
  have h3 := Bool.and_eq_true_iff.1 h3
  have h4 := Bool.and_eq_true_iff.1 h3.1
  exact ⟨_, _, fn_at Y h1 rfl h4.1 h2 h5.1 h5.2.1 h5.2.2 h8 h4.2 h3.2, d⟩
theorem row1 (Y : PmOk P) (hK : P.K = K) (h1 : K.lookup f = some { cls := .type "function", data := .func fd }) (h2 : fd.body = .stmts body) (h3 : (codeIn K fd.code fd.qualname && scFine fd.scope [x] && keepIn K (.ref f)) = true) (h5 : fd.closure = [] ∧ fd.globals = mainGlobals ∧ fd.builtins = builtinsNs)
    (d : ∀ {G : Gx} {n : Nat}, GxOk P G → SndFn P G n → ∀ hm, SS P G n hm fd.scope body b) (h8 : ∀ a, bindArgs fd ⟨[a], []⟩ = pure [(x, a)]) : RowOk P (f, ([x], b)) :=
  row_of Y hK h1 h2 h3 h5 d fun vals h => by obtain ⟨a, rfl⟩ := len1 h; exact h8 a
theorem row2 (Y : PmOk P) (hK : P.K = K) (h1 : K.lookup f = some { cls := .type "function", data := .func fd }) (h2 : fd.body = .stmts body) (h3 : (codeIn K fd.code fd.qualname && scFine fd.scope [x, y] && keepIn K (.ref f)) = true) (h5 : fd.closure = [] ∧ fd.globals = mainGlobals ∧ fd.builtins = builtinsNs)
    (d : ∀ {G : Gx} {n : Nat}, GxOk P G → SndFn P G n → ∀ hm, SS P G n hm fd.scope body b) (h8 : ∀ a c, bindArgs fd ⟨[a, c], []⟩ = pure [(x, a), (y, c)]) : RowOk P (f, ([x, y], b)) :=
  row_of Y hK h1 h2 h3 h5 d fun vals h => by obtain ⟨a, c, rfl⟩ := len2 h; exact h8 a c
theorem row3 (Y : PmOk P) (hK : P.K = K) (h1 : K.lookup f = some { cls := .type "function", data := .func fd }) (h2 : fd.body = .stmts body) (h3 : (codeIn K fd.code fd.qualname && scFine fd.scope [x, y, z] && keepIn K (.ref f)) = true) (h5 : fd.closure = [] ∧ fd.globals = mainGlobals ∧ fd.builtins = builtinsNs)
    (d : ∀ {G : Gx} {n : Nat}, GxOk P G → SndFn P G n → ∀ hm, SS P G n hm fd.scope body b) (h8 : ∀ a c e, bindArgs fd ⟨[a, c, e], []⟩ = pure [(x, a), (y, c), (z, e)]) : RowOk P (f, ([x, y, z], b)) :=
  row_of Y hK h1 h2 h3 h5 d fun vals h => by obtain ⟨a, c, e, rfl⟩ := len3 h; exact h8 a c e
end
end Mine
end

section
open PySem PySem.W PyProof.Rows
namespace Mine

/-! ## the top, run over a tree -/
noncomputable def topRunT (tb : String → Option Builtin) (p : Program) (w : World) (n₀ : Nat) (ann : Option Value) : Nat → SharedT → Thread → Option SharedT
  | 0, _, _ => none
  | n + 1, s, t => match through t with
    | true => some s
    | false => match stepOk n₀ ann t with
      | false => none
      | true => match stepT (denote tb) p w s t with
        | some (s', t') => topRunT tb p w n₀ ann n s' t'
        | none => none
theorem topRun_of {tb : String → Option Builtin} {p : Program} {w : World} {n₀ : Nat} {ann : Option Value} : ∀ {n : Nat} {s s' : SharedT} {t : Thread}, topRunT tb p w n₀ ann n s t = some s' → topRun tb p w n₀ ann n s.abs t = some s'.abs
  | 0, _, _, _, h => by cases h
  | n + 1, s, s', t, h => by
    unfold topRunT at h
    unfold topRun
    cases he : through t with
    | true => rw [he] at h; cases h; rfl
    | false =>
      rw [he] at h
      cases hk : stepOk n₀ ann t with
      | false => rw [hk] at h; cases h
      | true =>
        rw [hk] at h
        cases hs : stepT (denote tb) p w s t with
        | none => rw [hs] at h; cases h
        | some r => obtain ⟨s₂, t₂⟩ := r; rw [hs] at h; rw [stepT_spec hs]; exact topRun_of h

noncomputable def fillT : List Obj → BT → Nat → Option (BT × Nat)
  | [], t, n => some (t, n)
  | o :: r, t, n => match ((t.ins n o).get n).isSome with
    | true => fillT r (t.ins n o) (n + 1)
    | false => none
theorem fill_abs {life : Life} : ∀ (l : List Obj) (t : BT) (n : Nat) {t' : BT} {n' : Nat}, fillT l t n = some (t', n') → (absHeap t' n' life).objs.toList = (absHeap t n life).objs.toList ++ l
  | [], t, n, t', n', h => by cases h; simp
  | o :: r, t, n, t', n', h => by
    unfold fillT at h
    cases g : ((t.ins n o).get n).isSome with
    | false => rw [g] at h; cases h
    | true =>
      rw [g] at h
      rw [fill_abs r _ _ h, absHeap_ins g]
      show ((absHeap t n life).objs.push o).toList ++ r = _
      simp
noncomputable def toT (s : Shared) : Option SharedT := match fillT s.heap.objs.toList .nil 0 with
  | some (t, n) => some ⟨t, n, s.heap.life, s.gens, s.drawn, s.toks, s.os⟩
  | none => none
theorem toT_abs {s : Shared} {x : SharedT} (h : toT s = some x) : x.abs = s := by
  unfold toT at h
  cases e : fillT s.heap.objs.toList .nil 0 with
  | none => rw [e] at h; cases h
  | some r =>
    obtain ⟨t, n⟩ := r
    rw [e] at h
    cases h
    have := fill_abs (life := s.heap.life) _ _ _ e
    obtain ⟨⟨objs, life⟩, gens, drawn, toks, os⟩ := s
    show Shared.mk (absHeap t n life) gens drawn toks os = _
    congr 1
    have e2 : (absHeap t n life).objs.toList = objs.toList := by simpa [absHeap, BT.list] using this
    have e3 : (absHeap t n life).objs = objs := Array.toList_inj.mp e2
    show Heap.mk (absHeap t n life).objs life = _
    rw [e3]

noncomputable def topFromT (tb : String → Option Builtin) (p : Program) (w : World) (N : Nat) (s₀ : Shared) : Option Shared :=
  match s₀.heap.isNs mainGlobals && s₀.gens.size == 0 with
  | true => match toT s₀ with
    | some x => (topRunT tb p w s₀.heap.objs.size (s₀.heap.nsMap mainGlobals "__annotations__") N x (topStub p)).bind fun s₁ => match staticsOk (importedModules p.main.body) s₀.heap s₁.abs.heap && namesBound p s₁.abs.heap && gensDone s₁.abs && laidKept s₀.heap s₁.abs.heap with
      | true => some s₁.abs
      | false => none
    | none => none
  | false => none
theorem topFrom_of {tb : String → Option Builtin} {p : Program} {w : World} {N : Nat} {s₀ r : Shared} (h : topFromT tb p w N s₀ = some r) : topFrom tb p w N s₀ = some r := by
  unfold topFromT at h
  unfold topFrom
  cases e : s₀.heap.isNs mainGlobals && s₀.gens.size == 0 with
  | false => rw [e] at h; cases h
  | true =>
    rw [e] at h
    dsimp only at h ⊢
    cases ex : toT s₀ with
    | none => rw [ex] at h; cases h
    | some x =>
      rw [ex] at h
      dsimp only at h
      cases er : topRunT tb p w s₀.heap.objs.size (s₀.heap.nsMap mainGlobals "__annotations__") N x (topStub p) with
      | none => rw [er] at h; cases h
      | some s₁ =>
        rw [er] at h
        have := topRun_of er
        rw [toT_abs ex] at this
        rw [this]
        exact h

theorem left_of {p q : Program} {loose : List Str} {Xt : Shared → Bool} {α : Type} {Yf : Shared → α} {Ya : World → α} {N : Nat}
    (h : ∀ w : World, Option.map (fun s => (openSeen q loose (importedModules p.main.body) Xt true s, Yf s)) ((fencedOpening treeTable p w N).bind (topFromT treeTable p w N)) = some (openGood q loose, Ya w)) : LeftO p q loose Xt Yf Ya N := by
  intro w
  have h := h w
  unfold openEnds
  cases e : fencedOpening treeTable p w N with
  | none => rw [e] at h; cases h
  | some s₀ =>
    rw [e] at h
    simp only [Option.bind_some] at h ⊢
    cases e2 : topFromT treeTable p w N s₀ with
    | none => rw [e2] at h; cases h
    | some r => rw [e2] at h; rw [topFrom_of e2]; exact h
end Mine
end

section
open PySem PyProof.Rows
namespace Mine

/-! ## loops, in the small wp -/
theorem rsize_nat (n : Nat) : Builtin.Range.rangeSize 0 (n : Int) 1 = n := by
  unfold Builtin.Range.rangeSize
  rw [if_pos (by decide)]
  split <;> omega
theorem rangeL_nat (n : Nat) : rangeL 0 (n : Int) 1 = (List.range n).map fun (k : Nat) => Value.int (k : Int) 0 := by
  unfold rangeL
  rw [rsize_nat]
  refine List.map_congr_left fun k _ => ?_
  congr 1; omega
theorem rangeL_len (n : Nat) : (rangeL 0 (n : Int) 1).length = n := by rw [rangeL_nat]; simp
theorem small_nat {n : Nat} (h : n < 2 ^ 60) : Builtin.Range.small 0 (n : Int) 1 = true := by
  unfold Builtin.Range.small
  rw [rsize_nat]
  simp [Builtin.Range.rangeFitsLong]
  omega

end Mine
namespace Mine
/-! ## locals and dicts, in the small wp -/
noncomputable def Ls (l : Loc) : List (Str × Value) → Prop
  | [] => True
  | (x, v) :: r => l x = some v ∧ Ls l r
section
variable {K : Type} [DecidableEq K]
end

end Mine
namespace Mine
theorem forG_list {guard : Hp → Prop} {x : Str} {body : Loc → Hp → QS → Prop} {Q : QS} (I : List Value → Loc → Hp → Prop) (hg : ∀ r l H, I r l H → guard H)
    (hb : ∀ v r l H, I (v :: r) l H → ∀ K : QS, (∀ l' H', I r l' H' → K .next l' H' ∧ K .cont l' H') → (∀ ρ l' H', Q (.ret ρ) l' H' → K (.ret ρ) l' H') → body (l.upd x v) H K)
    (hq : ∀ l H, I [] l H → Q .next l H) : ∀ (xs : List Value) (l : Loc) (H : Hp), I xs l H → forG guard x body xs l H Q
  | [], l, H, h => ⟨hg _ _ _ h, hq _ _ h⟩
  | v :: r, l, H, h => ⟨hg _ _ _ h, hb v r l H h _ (fun l' H' h' => ⟨forG_list I hg hb hq r l' H' h', forG_list I hg hb hq r l' H' h'⟩) fun _ _ _ q => q⟩

/-- a comprehension's turns, with what is left and what was made -/
theorem compG_list {guard : Hp → Prop} {step : Value → Hp → (Option Value → Hp → Prop) → Prop} {k : List Value → Hp → Prop} (I : List Value → List Value → Hp → Prop) (hg : ∀ r acc H, I r acc H → guard H)
    (hb : ∀ v r acc H, I (v :: r) acc H → ∀ K : Option Value → Hp → Prop, (∀ u H', (match u with | some u => I r (acc ++ [u]) H' | none => I r acc H') → K u H') → step v H K)
    (hk : ∀ acc H, I [] acc H → k acc H) : ∀ (xs acc : List Value) (H : Hp), I xs acc H → compG guard step xs acc H k
  | [], acc, H, h => ⟨hg _ _ _ h, hk _ _ h⟩
  | v :: r, acc, H, h => ⟨hg _ _ _ h, hb v r acc H h _ fun u H' h' => by
      cases u with
      | none => exact compG_list I hg hb hk r acc H' h'
      | some u => exact compG_list I hg hb hk r (acc ++ [u]) H' h'⟩
end Mine
namespace Mine
end Mine
end

section
open PySem PyProof.Rows
namespace Mine

/-! ## rules of the small wp -/
structure Ev (G : Gx) (hm : Bool) (e : Ex) (l : Loc) (H : Hp) (v : Value) : Prop where
  run : ∀ (Q : QV) (X : XV), Q v H → wpE G hm e l H Q X
structure EvL (G : Gx) (hm : Bool) (es : List Ex) (l : Loc) (H : Hp) (vs : List Value) : Prop where
  run : ∀ (Q : List Value → Hp → Prop) (X : XV), Q vs H → wpEs G hm es l H Q X

section
variable {G : Gx} {hm : Bool} {l : Loc} {H : Hp}

theorem some_at {α : Type} {o : Option α} {v : α} {k : α → Prop} (h : o = some v) (q : k v) : onSome o k := by subst h; exact q
theorem ev_none : Ev G hm .none l H .none := .mk fun _ _ q => q
theorem ev_bool {b : Bool} : Ev G hm (.bool b) l H (.bool b) := .mk fun _ _ q => q
theorem ev_int {i : Int} : Ev G hm (.int i) l H (.int i 0) := .mk fun _ _ q => q
theorem ev_str {x : Str} : Ev G hm (.str x) l H (.str x 0) := .mk fun _ _ q => q
theorem ev_loc {x : Str} {v : Value} (h : l x = some v) : Ev G hm (.loc x) l H v := .mk fun _ _ q => some_at h q
theorem ev_glob {x : Str} {v : Value} (h : G.glob x = some v) : Ev G hm (.glob x) l H v := .mk fun _ _ q => some_at h q

noncomputable def nb : Value → Bool
  | .builtin _ => false
  | _ => true
section
variable {x y : Ex} {a b : Int} {t u : Tok}
theorem ev_bin {op : Operator} {v w r : Value} (hx : Ev G hm x l H v) (hy : Ev G hm y l H w) (h : ∀ Q : QV, Q r H → binV op v w H Q) : Ev G hm (.bin op x y) l H r :=
  .mk fun Q X q => hx.run (fun a H1 => wpE G hm y l H1 (fun b H2 => binV op a b H2 Q) X) X (hy.run (fun b H2 => binV op v b H2 Q) X (h Q q))
theorem ev_add (hx : Ev G hm x l H (.int a t)) (hy : Ev G hm y l H (.int b u)) : Ev G hm (.bin .Add x y) l H (.int (a + b) 0) := ev_bin hx hy fun _ q => q
theorem ev_mul (hx : Ev G hm x l H (.int a t)) (hy : Ev G hm y l H (.int b u)) (h : a.natAbs < 2 ^ 63 ∨ b.natAbs < 2 ^ 63) : Ev G hm (.bin .Mult x y) l H (.int (a * b) 0) := ev_bin hx hy fun _ q => ⟨h, q⟩
theorem ev_div (hx : Ev G hm x l H (.int a t)) (hy : Ev G hm y l H (.int b u)) (h : 0 < b) (h2 : b < 2 ^ 63) : Ev G hm (.bin .FloorDiv x y) l H (.int (a / b) 0) := ev_bin hx hy fun _ q => ⟨h, h2, q⟩
theorem ev_mod (hx : Ev G hm x l H (.int a t)) (hy : Ev G hm y l H (.int b u)) (h : 0 < b) : Ev G hm (.bin .Mod x y) l H (.int (a % b) 0) := ev_bin hx hy fun _ q => ⟨h, q⟩
theorem ev_cat {p r : Str} (hx : Ev G hm x l H (.str p t)) (hy : Ev G hm y l H (.str r u)) (h : p.length + r.length ≤ sizeLine) : Ev G hm (.bin .Add x y) l H (.str (p ++ r) 0) := ev_bin hx hy fun _ q => ⟨h, q⟩
theorem ev_not {b : Bool} (hx : Ev G hm x l H (.bool b)) {z : Bool} (hz : (!b) = z) : Ev G hm (.not x) l H (.bool z) := by subst hz; exact .mk fun Q X q => hx.run (fun a H1 => truthV a fun b => Q (.bool (!b)) H1) X q
theorem ev_cmp {op : CmpOp} {v w r : Value} (hx : Ev G hm x l H v) (hy : Ev G hm y l H w) (h : ∀ Q : QV, Q r H → cmpV op v w H Q) : Ev G hm (.cmp x op y) l H r :=
  .mk fun Q X q => hx.run (fun a H1 => wpE G hm y l H1 (fun b H2 => cmpV op a b H2 Q) X) X (hy.run (fun b H2 => cmpV op v b H2 Q) X (h Q q))
theorem ev_eq (hx : Ev G hm x l H (.int a t)) (hy : Ev G hm y l H (.int b u)) {z : Bool} (hz : (decide (a = b)) = z) : Ev G hm (.cmp x .Eq y) l H (.bool z) := by subst hz; exact ev_cmp hx hy fun _ q => q
theorem ev_ne (hx : Ev G hm x l H (.int a t)) (hy : Ev G hm y l H (.int b u)) {z : Bool} (hz : (!decide (a = b)) = z) : Ev G hm (.cmp x .NotEq y) l H (.bool z) := by subst hz; exact ev_cmp hx hy fun _ q => q
theorem ev_lt (hx : Ev G hm x l H (.int a t)) (hy : Ev G hm y l H (.int b u)) {z : Bool} (hz : (decide (a < b)) = z) : Ev G hm (.cmp x .Lt y) l H (.bool z) := by subst hz; exact ev_cmp hx hy fun _ q => q
theorem ev_gt (hx : Ev G hm x l H (.int a t)) (hy : Ev G hm y l H (.int b u)) {z : Bool} (hz : (decide (b < a)) = z) : Ev G hm (.cmp x .Gt y) l H (.bool z) := by subst hz; exact ev_cmp hx hy fun _ q => q
theorem ev_le (hx : Ev G hm x l H (.int a t)) (hy : Ev G hm y l H (.int b u)) {z : Bool} (hz : (decide (a ≤ b)) = z) : Ev G hm (.cmp x .LtE y) l H (.bool z) := by subst hz; exact ev_cmp hx hy fun _ q => q
section
variable {p r : Str}
theorem ev_eqs (hx : Ev G hm x l H (.str p t)) (hy : Ev G hm y l H (.str r u)) {z : Bool} (hz : (decide (p = r)) = z) : Ev G hm (.cmp x .Eq y) l H (.bool z) := by subst hz; exact ev_cmp hx hy fun _ q => q
theorem ev_nes (hx : Ev G hm x l H (.str p t)) (hy : Ev G hm y l H (.str r u)) {z : Bool} (hz : (!decide (p = r)) = z) : Ev G hm (.cmp x .NotEq y) l H (.bool z) := by subst hz; exact ev_cmp hx hy fun _ q => q
theorem ev_ins (hx : Ev G hm x l H (.str p t)) (hy : Ev G hm y l H (.str r u)) {z : Bool} (hz : (Txt.contains r p) = z) : Ev G hm (.cmp x .In y) l H (.bool z) := by subst hz; exact ev_cmp hx hy fun _ q => q
end
theorem ev_cmp2 {z : Ex} {op op2 : CmpOp} {v w s r : Value} (hx : Ev G hm x l H v) (hy : Ev G hm y l H w) (h1 : ∀ Q : QV, Q (.bool true) H → cmpV op v w H Q) (hz : Ev G hm z l H s) (h2 : ∀ Q : QV, Q r H → cmpV op2 w s H Q) : Ev G hm (.cmp2 x op y op2 z) l H r :=
  .mk fun Q X q => hx.run (fun a H1 => wpE G hm y l H1 (fun b H2 => cmpV op a b H2 fun c H3 => truthV c fun r =>
      if r then wpE G hm z l H3 (fun d H4 => cmpV op2 b d H4 Q) X else Q (.bool false) H3) X) X (hy.run (fun b H2 => cmpV op v b H2 fun c H3 => truthV c fun r =>
      if r then wpE G hm z l H3 (fun d H4 => cmpV op2 b d H4 Q) X else Q (.bool false) H3) X (h1 _ (hz.run (fun d H4 => cmpV op2 w d H4 Q) X (h2 Q q))))
theorem cmp_le {a b : Int} {t u : Tok} (h : decide (a ≤ b) = true) (Q : QV) (q : Q (.bool true) H) : cmpV .LtE (.int a t) (.int b u) H Q := by
  show Q (.bool (decide (a ≤ b))) H
  rw [h]; exact q
noncomputable def isN : Value → Option Bool
  | .none => some true
  | .builtin _ => none
  | _ => some false
theorem ev_is {v : Value} {b : Bool} (hx : Ev G hm x l H v) (h : isN v = some b) : Ev G hm (.cmp x .Is .none) l H (.bool b) := ev_cmp hx ev_none fun _ q => by cases v <;> first | (cases h; exact q) | cases h
/-! and, or -/
theorem ev_one {k : Bool} {b : Bool} (hx : Ev G hm x l H (.bool b)) : Ev G hm (.bop k [x]) l H (.bool b) := .mk fun Q X q => show wpB G hm k [x] l H Q X from hx.run _ _ (by
  show if b = k then Q (.bool b) H else Q (.bool b) H
  split <;> exact q)
theorem ev_stop {k : Bool} {es : List Ex} (hx : Ev G hm x l H (.bool (!k))) : Ev G hm (.bop k (x :: es)) l H (.bool (!k)) := .mk fun Q X q => show wpB G hm k (x :: es) l H Q X from hx.run _ _ (by
  show if (!k) = k then _ else Q (.bool (!k)) H
  rw [if_neg (by cases k <;> exact nofun)]; exact q)
theorem ev_go {k b : Bool} {es : List Ex} (hx : Ev G hm x l H (.bool k)) (hr : Ev G hm (.bop k (y :: es)) l H (.bool b)) : Ev G hm (.bop k (x :: y :: es)) l H (.bool b) := .mk fun Q X q => hx.run (fun v H1 => truthV v fun b => if b = k then wpB G hm k (y :: es) l H1 Q X else Q (.bool b) H1) X (by
  show if k = k then wpB G hm k (y :: es) l H Q X else Q (.bool k) H
  rw [if_pos rfl]; exact hr.run Q X q)

/-! isinstance -/
noncomputable def isiOf (t : Ty) : Value → Option Bool
  | .none => if t.blt then some false else none
  | .bool _ => if t.blt then some (t == .bool || t == .int) else none
  | .int _ _ => if t.blt then some (t == .int) else none
  | .str _ _ => if t.blt then some (t == .str) else none
  | _ => none
theorem ev_isi {ty : Ty} {v : Value} {b : Bool} (hx : Ev G hm x l H v) (h : isiOf ty v = some b) : Ev G hm (.isi x ty) l H (.bool b) := .mk fun Q X q => hx.run (fun v H1 => isiV G v ty H1 Q) X (by
  cases v <;> simp only [isiOf] at h <;> first
    | (split at h <;> first | (cases h; exact ⟨‹_›, q⟩) | cases h)
    | cases h)
noncomputable def isiObj (t : Ty) : AObj → Option Bool
  | .list _ => if t.blt then some (t == .list || t == .listOrTuple) else none
  | .tup _ => if t.blt then some (t == .tuple || t == .listOrTuple) else none
  | .idict _ => if t.blt then some false else none
  | .sdict _ => if t.blt then some false else none
  | _ => none
theorem ev_isir {ty : Ty} {c : Addr} {o : AObj} {b : Bool} (hx : Ev G hm x l H (.ref c)) (hc : H c = some o) (h : isiObj ty o = some b) : Ev G hm (.isi x ty) l H (.bool b) := .mk fun Q X q => hx.run (fun v H1 => isiV G v ty H1 Q) X (by
  show isiV G (.ref c) ty H Q
  conv => whnf
  rw [hc]
  cases o <;> simp only [isiObj] at h <;> first
    | (split at h <;> first | (cases h; exact ⟨‹_›, q⟩) | cases h)
    | cases h)

/-! items -/
theorem ev_idx {v w r : Value} (hx : Ev G hm x l H v) (hy : Ev G hm y l H w) (h : ∀ Q : QV, Q r H → idxV v w H Q) : Ev G hm (.idx x y) l H r :=
  .mk fun Q X q => hx.run (fun v H1 => wpE G hm y l H1 (fun k H2 => idxV v k H2 Q) X) X (hy.run (fun k H2 => idxV v k H2 Q) X (h Q q))
noncomputable def seqO : AObj → Option (List Value)
  | .list xs => some xs
  | .rlist xs => some xs
  | .tup xs => some xs
  | _ => none
theorem idx_at {c : Addr} {o : AObj} {xs : List Value} {r : Value} {Q : QV} (hc : H c = some o) (hs : seqO o = some xs) (h : at? xs a = some r) (q : Q r H) : idxV (.ref c) (.int a t) H Q := by
  conv => whnf
  rw [hc]
  cases o <;> cases hs <;> (conv => whnf) <;> rw [h] <;> exact q
theorem ev_at {c : Addr} {o : AObj} {xs : List Value} {r : Value} (hx : Ev G hm x l H (.ref c)) (hy : Ev G hm y l H (.int a t)) (hc : H c = some o) (hs : seqO o = some xs) (h : at? xs a = some r) : Ev G hm (.idx x y) l H r := ev_idx hx hy fun _ q => idx_at hc hs h q
theorem ev_chr {p : Str} {c : Nat} (hx : Ev G hm x l H (.str p t)) (hy : Ev G hm y l H (.int a u)) (h : at? p.cps.toList a = some c) (hz : p.length ≤ sizeLine) : Ev G hm (.idx x y) l H (.str (chr1 c) 0) := ev_idx hx hy fun Q q => by
  conv => whnf
  rw [h]
  exact ⟨hz, q⟩
end

/-! lists of things -/
theorem evl_nil : EvL G hm [] l H [] := .mk fun _ _ q => q
theorem evl_cons {e : Ex} {es : List Ex} {v : Value} {vs : List Value} (he : Ev G hm e l H v) (hs : EvL G hm es l H vs) : EvL G hm (e :: es) l H (v :: vs) :=
  .mk fun Q X q => he.run (fun v H1 => wpEs G hm es l H1 (fun vs H2 => Q (v :: vs) H2) X) X (hs.run (fun vs H2 => Q (v :: vs) H2) X q)

/-! built-ins -/
theorem ev_bf {f : Bf} {es : List Ex} {vs : List Value} {r : Value} (hs : EvL G hm es l H vs) (hh : bfH hm f vs H) (h : ∀ Q : QV, Q r H → bfV f vs H Q) : Ev G hm (.bf f es) l H r :=
  .mk fun Q X q => hs.run (fun vs H1 => bfH hm f vs H1 ∧ bfV f vs H1 Q) X ⟨hh, h Q q⟩
theorem len_at {c : Addr} {o : AObj} {xs : List Value} {Q : QV} (hc : H c = some o) (hs : seqO o = some xs) (q : Q (.int xs.length 0) H) : lenV (.ref c) H Q := by
  conv => whnf
  rw [hc]
  cases o <;> cases hs <;> exact q
theorem ev_len {x : Ex} {c : Addr} {o : AObj} {xs : List Value} (hx : Ev G hm x l H (.ref c)) (hc : H c = some o) (hs : seqO o = some xs) : Ev G hm (.bf .len [x]) l H (.int xs.length 0) := ev_bf (evl_cons hx evl_nil) (.inl rfl) fun _ q => len_at hc hs q
theorem ev_lens {x : Ex} {p : Str} {t : Tok} (hx : Ev G hm x l H (.str p t)) (hz : p.length ≤ sizeLine) : Ev G hm (.bf .len [x]) l H (.int p.length 0) := ev_bf (evl_cons hx evl_nil) (.inl rfl) fun _ q => ⟨hz, q⟩
section
variable {x y : Ex} {a b : Int} {t u : Tok}
end
end
end Mine
end

section
open PySem PyProof.Rows
namespace Mine

section
variable {G : Gx} {hm : Bool} {l : Loc} {H : Hp} {Q : QV} {X : XV}

/-! ## calls and new things -/
theorem w_ev {e : Ex} {v : Value} (h : Ev G hm e l H v) (q : Q v H) : wpE G hm e l H Q X := h.run Q X q
theorem w_callW {g : Ex} {args : List Ex} {a : Addr} (hg : Ev G hm g l H (.ref a)) (hi : G.init a = none) (q : wpEs G hm args l H (fun vs H2 => G.fn a hm vs H2 Q X) X) : wpE G hm (.call g args) l H Q X :=
  hg.run (fun v H1 => wpEs G hm args l H1 (fun vs H2 => callV G hm v vs H2 Q X) X) X (by
    have : (fun vs H2 => callV G hm (.ref a) vs H2 Q X) = fun vs H2 => G.fn a hm vs H2 Q X := by
      funext vs H2
      show (match G.init a with | some fi => _ | none => _) = _
      rw [hi]
    show wpEs G hm args l H (fun vs H2 => callV G hm (.ref a) vs H2 Q X) X
    rw [this]; exact q)
theorem w_call {g : Ex} {args : List Ex} {a : Addr} {vs : List Value} (hg : Ev G hm g l H (.ref a)) (hi : G.init a = none) (ha : EvL G hm args l H vs) (q : G.fn a hm vs H Q X) : wpE G hm (.call g args) l H Q X := w_callW hg hi (ha.run (fun vs H2 => G.fn a hm vs H2 Q X) X q)
theorem wl_nil {Q : List Value → Hp → Prop} (q : Q [] H) : wpEs G hm [] l H Q X := q
theorem wl_cons {e : Ex} {es : List Ex} {Q : List Value → Hp → Prop} (q : wpE G hm e l H (fun v H1 => wpEs G hm es l H1 (fun vs H2 => Q (v :: vs) H2) X) X) : wpEs G hm (e :: es) l H Q X := q

theorem w_list {es : List Ex} {vs : List Value} (ha : EvL G hm es l H vs) (hz : vs.length ≤ sizeLine) (q : ∀ c, H c = none → Q (.ref c) (H.upd c (.list vs))) : wpE G hm (.list es) l H Q X := ha.run (fun vs H1 => vs.length ≤ sizeLine ∧ newV (.list vs) H1 Q) X ⟨hz, q⟩
theorem w_tup {es : List Ex} {vs : List Value} (ha : EvL G hm es l H vs) (hz : vs.length ≤ sizeLine) (q : ∀ c, H c = none → Q (.ref c) (H.upd c (.tup vs))) : wpE G hm (.tup es) l H Q X := ha.run (fun vs H1 => vs.length ≤ sizeLine ∧ newV (.tup vs) H1 Q) X ⟨hz, q⟩
theorem w_listW {es : List Ex} (q : wpEs G hm es l H (fun vs H1 => vs.length ≤ sizeLine ∧ newV (.list vs) H1 Q) X) : wpE G hm (.list es) l H Q X := q
theorem w_dict0 (q : ∀ c, H c = none → Q (.ref c) (H.upd c (.idict []))) : wpE G hm (.dict [] []) l H Q X := Or.inl ⟨rfl, rfl, q⟩

noncomputable def seqI : AObj → Option (List Value)
  | .list xs => some xs
  | .tup xs => some xs
  | _ => none
noncomputable def seqS : AObj → Option (List Value)
  | .list xs => some xs
  | .rlist xs => some xs
  | _ => none
theorem ev_to {x e : Ex} {p : Str} {k : Int} {t u : Tok} (hx : Ev G hm x l H (.str p u)) (he : Ev G hm e l H (.int k t)) (hz : p.length ≤ sizeLine) : Ev G hm (.slice x none (some e)) l H (.str ⟨(pySlice p.cps.toList none (some k)).toArray⟩ 0) :=
  .mk fun Q X q => hx.run (fun v H1 => wpO G hm none l H1 (fun a H2 => wpO G hm (some e) l H2 (fun b H3 => sliceV v a b H3 Q) X) X) X (he.run (fun b H3 => sliceV (.str p u) .none b H3 Q) X ⟨hz, q⟩)
theorem ev_from {x e : Ex} {p : Str} {k : Int} {t u : Tok} (hx : Ev G hm x l H (.str p u)) (he : Ev G hm e l H (.int k t)) (hz : p.length ≤ sizeLine) : Ev G hm (.slice x (some e) none) l H (.str ⟨(pySlice p.cps.toList (some k) none).toArray⟩ 0) :=
  .mk fun Q X q => hx.run (fun v H1 => wpO G hm (some e) l H1 (fun a H2 => wpO G hm none l H2 (fun b H3 => sliceV v a b H3 Q) X) X) X (he.run (fun b H3 => sliceV (.str p u) b .none H3 Q) X ⟨hz, q⟩)

theorem addl_at {a b : Addr} {xs ys : List Value} (ha : H a = some (.list xs)) (hb : H b = some (.list ys)) (hz : xs.length + ys.length ≤ sizeLine) (q : ∀ c, H c = none → Q (.ref c) (H.upd c (.list (xs ++ ys)))) : binV .Add (.ref a) (.ref b) H Q := by
  show addR a b H Q
  unfold addR
  rw [ha]
  dsimp only
  rw [hb]
  exact ⟨hz, q⟩
theorem w_binW {op : Operator} {x y : Ex} (q : wpE G hm x l H (fun a H1 => wpE G hm y l H1 (fun b H2 => binV op a b H2 Q) X) X) : wpE G hm (.bin op x y) l H Q X := q
theorem w_cmpW {op : CmpOp} {x y : Ex} (q : wpE G hm x l H (fun a H1 => wpE G hm y l H1 (fun b H2 => cmpV op a b H2 Q) X) X) : wpE G hm (.cmp x op y) l H Q X := q
theorem w_idxW {x y : Ex} (q : wpE G hm x l H (fun v H1 => wpE G hm y l H1 (fun k H2 => idxV v k H2 Q) X) X) : wpE G hm (.idx x y) l H Q X := q
theorem w_bopW {k : Bool} {es : List Ex} (q : wpB G hm k es l H Q X) : wpE G hm (.bop k es) l H Q X := q
/-- and, or: one part at a time -/
theorem wb_cons {k : Bool} {e e2 : Ex} {es : List Ex} (q : wpE G hm e l H (fun v H1 => truthV v fun b => if b = k then wpB G hm k (e2 :: es) l H1 Q X else Q (.bool b) H1) X) : wpB G hm k (e :: e2 :: es) l H Q X := q
theorem wb_one {k : Bool} {e : Ex} (q : wpE G hm e l H (fun v H1 => truthV v fun b => Q (.bool b) H1) X) : wpB G hm k [e] l H Q X := by
  have : (fun v (H1 : Hp) => truthV v fun b => if b = k then Q (.bool b) H1 else Q (.bool b) H1) = fun v H1 => truthV v fun b => Q (.bool b) H1 := by
    funext v H1; congr 1; funext b; split <;> rfl
  show wpE G hm e l H (fun v H1 => truthV v fun b => if b = k then Q (.bool b) H1 else Q (.bool b) H1) X
  rw [this]; exact q

theorem wb_go {k : Bool} {e e2 : Ex} {es : List Ex} (he : Ev G hm e l H (.bool k)) (q : wpB G hm k (e2 :: es) l H Q X) : wpB G hm k (e :: e2 :: es) l H Q X := wb_cons (he.run _ _ (by
  show if k = k then wpB G hm k (e2 :: es) l H Q X else Q (.bool k) H
  rw [if_pos rfl]; exact q))
theorem w_bfW {f : Bf} {es : List Ex} (q : wpEs G hm es l H (fun vs H1 => bfH hm f vs H1 ∧ bfV f vs H1 Q) X) : wpE G hm (.bf f es) l H Q X := q
theorem w_range {e : Ex} {n : Int} {t : Tok} (he : Ev G false e l H (.int n t)) (h1 : n < 2 ^ 60) (h2 : -(2 ^ 60) < n) (q : ∀ c, H c = none → Q (.ref c) (H.upd c (.range 0 n 1))) : wpE G false (.bf .range [e]) l H Q X :=
  (evl_cons he evl_nil).run (fun vs H1 => bfH false .range vs H1 ∧ bfV .range vs H1 Q) X ⟨.inr (.inl rfl), h1, h2, q⟩
theorem blist_at {a : Addr} {o : AObj} {xs : List Value} (ha : H a = some o) (hs : seqI o = some xs) (hz : xs.length ≤ sizeLine) (q : ∀ c, H c = none → Q (.ref c) (H.upd c (.list xs))) : bfV .list [.ref a] H Q := by
  conv => whnf
  rw [ha]
  cases o <;> cases hs <;> exact ⟨hz, q⟩
theorem w_blist {e : Ex} {a : Addr} {o : AObj} {xs : List Value} (he : Ev G false e l H (.ref a)) (ha : H a = some o) (hs : seqI o = some xs) (hz : xs.length ≤ sizeLine) (q : ∀ c, H c = none → Q (.ref c) (H.upd c (.list xs))) : wpE G false (.bf .list [e]) l H Q X :=
  (evl_cons he evl_nil).run (fun vs H1 => bfH false .list vs H1 ∧ bfV .list vs H1 Q) X ⟨.inr (.inl rfl), blist_at ha hs hz q⟩
theorem w_btup {e : Ex} {a : Addr} {xs : List Value} (he : Ev G false e l H (.ref a)) (ha : H a = some (.list xs)) (hz : xs.length ≤ sizeLine) (q : ∀ c, H c = none → Q (.ref c) (H.upd c (.tup xs))) : wpE G false (.bf .tuple [e]) l H Q X :=
  (evl_cons he evl_nil).run (fun vs H1 => bfH false .tuple vs H1 ∧ bfV .tuple vs H1 Q) X ⟨.inr (.inl rfl), by
    conv => whnf
    rw [ha]
    exact ⟨hz, q⟩⟩

/-! methods of built-ins -/
theorem app_at {a : Addr} {xs : List Value} {v : Value} (ha : H a = some (.list xs)) (hz : xs.length ≤ sizeLine) (q : Q .none (H.upd a (.list (xs ++ [v])))) : bmV .list .append (.ref a) [v] H Q := by
  conv => whnf
  rw [ha]
  exact ⟨hz, q⟩
theorem w_appendW {o e : Ex} {a : Addr} {xs : List Value} (ho : Ev G hm o l H (.ref a)) (ha : H a = some (.list xs)) (q : wpE G hm e l H (fun v H1 => bmV .list .append (.ref a) [v] H1 Q) X) : wpE G hm (.bm .append o [e]) l H Q X :=
  ho.run (fun v H1 => bmOn .append v H1 fun b => wpEs G hm [e] l H1 (fun vs H2 => bmV b .append v vs H2 Q) X) X (by
    conv => whnf
    rw [ha]
    exact ⟨.inl rfl, q⟩)
theorem join_at {x : Str} {t : Tok} {a : Addr} {xs : List Value} {ss : List Str} (ha : H a = some (.list xs)) (hs : strsOf xs = some ss) (hj : JoinOk x ss = true) (q : Q (.str (Txt.join x ss) 0) H) : bmV .str .join (.str x t) [.ref a] H Q := by
  conv => whnf
  rw [ha]
  conv => whnf
  rw [hs]
  exact ⟨hj, q⟩
theorem w_joinW {o e : Ex} {x : Str} {t : Tok} (ho : Ev G hm o l H (.str x t)) (q : wpE G hm e l H (fun v H1 => bmV .str .join (.str x t) [v] H1 Q) X) : wpE G hm (.bm .join o [e]) l H Q X :=
  ho.run (fun v H1 => bmOn .join v H1 fun b => wpEs G hm [e] l H1 (fun vs H2 => bmV b .join v vs H2 Q) X) X ⟨.inl rfl, q⟩
theorem ev_join {o e : Ex} {x : Str} {t : Tok} {a : Addr} {xs : List Value} {ss : List Str} (ho : Ev G hm o l H (.str x t)) (he : Ev G hm e l H (.ref a)) (ha : H a = some (.list xs)) (hs : strsOf xs = some ss) (hj : JoinOk x ss = true) : Ev G hm (.bm .join o [e]) l H (.str (Txt.join x ss) 0) :=
  .mk fun Q X q => ho.run (fun v H1 => bmOn .join v H1 fun b => wpEs G hm [e] l H1 (fun vs H2 => bmV b .join v vs H2 Q) X) X ⟨.inl rfl, (evl_cons he evl_nil).run _ _ (by
    conv => whnf
    rw [ha]
    conv => whnf
    rw [hs]
    exact ⟨hj, q⟩)⟩

/-! comprehensions -/
noncomputable def ca (l : Loc) (x : Str) (v : Value) : Loc := (l.del ".0").upd x v
theorem iter_at {a : Addr} {o : AObj} {xs : List Value} {k : (Hp → Prop) → List Value → Prop} (ha : H a = some o) (hs : seqI o = some xs) (q : k (fun H' => H' a = some o) xs) : iterV (.ref a) H k := by
  conv => whnf
  rw [ha]
  cases o <;> cases hs <;> exact q
theorem comp_run {guard : Hp → Prop} {step : Value → Hp → (Option Value → Hp → Prop) → Prop} {p : Value → Bool} {f : Value → Value} (hg : guard H) : ∀ (items acc : List Value) {k : List Value → Hp → Prop},
    (∀ v ∈ items, ∀ k' : Option Value → Hp → Prop, (if p v then k' (some (f v)) H else k' none H) → step v H k') → k (acc ++ (items.filter p).map f) H → compG guard step items acc H k
  | [], acc, k, _, h => ⟨hg, by simpa using h⟩
  | v :: vs, acc, k, hs, h => ⟨hg, hs v (List.mem_cons_self ..) _ (by
      have ih := comp_run (p := p) (f := f) hg (step := step) vs
      cases e : p v with
      | true =>
        rw [List.filter_cons, if_pos e] at h
        exact ih (acc ++ [f v]) (fun u hu => hs u (List.mem_cons_of_mem _ hu)) (by simpa using h)
      | false =>
        rw [List.filter_cons, if_neg (by rw [e]; exact nofun)] at h
        exact ih acc (fun u hu => hs u (List.mem_cons_of_mem _ hu)) h)⟩
/-- no heap is changed: a list of f v for all v with p v -/
theorem w_comp {elt src : Ex} {x : Str} {ifs : List Ex} {a : Addr} {o : AObj} {xs : List Value} (p : Value → Bool) (f : Value → Value) (he : Ev G false src l H (.ref a)) (ha : H a = some o) (hs : seqI o = some xs) (hz : xs.length ≤ sizeLine)
    (hp : ∀ v ∈ xs, Ev G false (.bop true ifs) (ca l x v) H (.bool (p v))) (hf : ∀ v ∈ xs, p v = true → Ev G false elt (ca l x v) H (f v)) (q : ∀ c, H c = none → Q (.ref c) (H.upd c (.list ((xs.filter p).map f)))) : wpE G false (.comp elt x src ifs) l H Q X :=
  he.run (fun v H1 => iterH false v H1 fun guard items => items.length ≤ sizeLine ∧
      compG guard (fun v H2 k => wpB G false true ifs ((l.del ".0").upd x v) H2 (fun c H3 => truthV c fun r =>
        if r then wpE G false elt ((l.del ".0").upd x v) H3 (fun u H4 => k (some u) H4) (fun _ _ => False) else k none H3) (fun _ _ => False)) items [] H1
        fun us H' => newV (.list us) H' Q) X (.inl ⟨rfl, iter_at ha hs ⟨hz, comp_run (p := p) (f := f) ha xs [] (fun v hv k' hk => (hp v hv).run _ _ (by
      show if p v = true then _ else _
      cases e : p v with
      | true => rw [e] at hk; exact (hf v hv e).run _ _ hk
      | false => rw [e] at hk; exact hk)) (by rw [List.nil_append]; exact q)⟩⟩)
theorem ev_all0 : Ev G hm (.bop true []) l H (.bool true) := .mk fun _ _ q => q
theorem comp_runM {β : Type} {R : Value → β → Prop} {guard : Hp → Prop} {step : Value → Hp → (Option Value → Hp → Prop) → Prop} {g : β → Value} (hg : guard H) {items : List Value} {ys : List β} (hr : All2 R items ys) : ∀ (acc : List Value) {k : List Value → Hp → Prop},
    (∀ v y, R v y → ∀ k' : Option Value → Hp → Prop, k' (some (g y)) H → step v H k') → k (acc ++ ys.map g) H → compG guard step items acc H k := by
  induction hr with
  | nil => intro acc k _ h; exact ⟨hg, by simpa using h⟩
  | @cons v y vs ys e _ ih =>
    intro acc k hs h
    exact ⟨hg, hs v y e _ (ih (acc ++ [g y]) hs (by simpa using h))⟩
/-- over a text's signs -/
theorem w_compS {elt src : Ex} {x : Str} {p : Str} {t : Tok} (g : Nat → Value) (he : Ev G false src l H (.str p t)) (hz : p.cps.toList.length ≤ sizeLine) (hf : ∀ c ∈ p.cps.toList, Ev G false elt (ca l x (.str (chr1 c) 0)) H (g c)) (q : ∀ c, H c = none → Q (.ref c) (H.upd c (.list (p.cps.toList.map g)))) : wpE G false (.comp elt x src []) l H Q X :=
  he.run (fun v H1 => iterH false v H1 fun guard items => items.length ≤ sizeLine ∧
      compG guard (fun v H2 k => wpB G false true [] ((l.del ".0").upd x v) H2 (fun c H3 => truthV c fun r =>
        if r then wpE G false elt ((l.del ".0").upd x v) H3 (fun u H4 => k (some u) H4) (fun _ _ => False) else k none H3) (fun _ _ => False)) items [] H1
        fun us H' => newV (.list us) H' Q) X (.inl ⟨rfl, by rw [List.length_map]; exact hz, comp_runM (R := fun v c => v = .str (chr1 c) 0 ∧ c ∈ p.cps.toList) (g := g) trivial (by
          have : ∀ L : List Nat, (∀ c ∈ L, c ∈ p.cps.toList) → All2 (fun v c => v = Value.str (chr1 c) 0 ∧ c ∈ p.cps.toList) (L.map fun c => Value.str (chr1 c) 0) L := by
            intro L
            induction L with
            | nil => intro _; exact .nil
            | cons c L ih => intro h; exact .cons ⟨rfl, h c (List.mem_cons_self ..)⟩ (ih fun d hd => h d (List.mem_cons_of_mem _ hd))
          exact this _ fun c hc => hc) [] (fun v c e k' hk => by rw [e.1]; exact (hf c e.2).run _ _ hk) (by rw [List.nil_append]; exact q)⟩)
/-- with calls in it -/
theorem w_compI {elt src : Ex} {x : Str} {a : Addr} {o : AObj} {xs : List Value} (I : List Value → List Value → Hp → Prop) (he : Ev G false src l H (.ref a)) (ha : H a = some o) (hs : seqI o = some xs) (hz : xs.length ≤ sizeLine)
    (hg : ∀ r acc H', I r acc H' → H' a = some o) (hb : ∀ v r acc H', I (v :: r) acc H' → ∀ K : QV, (∀ u H'', I r (acc ++ [u]) H'' → K u H'') → wpE G false elt (ca l x v) H' K (fun _ _ => False)) (h0 : I xs [] H) (q : ∀ acc H', I [] acc H' → ∀ c, H' c = none → Q (.ref c) (H'.upd c (.list acc))) : wpE G false (.comp elt x src []) l H Q X :=
  he.run (fun v H1 => iterH false v H1 fun guard items => items.length ≤ sizeLine ∧
      compG guard (fun v H2 k => wpB G false true [] ((l.del ".0").upd x v) H2 (fun c H3 => truthV c fun r =>
        if r then wpE G false elt ((l.del ".0").upd x v) H3 (fun u H4 => k (some u) H4) (fun _ _ => False) else k none H3) (fun _ _ => False)) items [] H1
        fun us H' => newV (.list us) H' Q) X (.inl ⟨rfl, iter_at ha hs ⟨hz, compG_list I hg (fun v r acc H' h K hK => hb v r acc H' h (fun u H4 => K (some u) H4) fun u H'' h' => hK (some u) H'' h') q xs [] H h0⟩⟩)
theorem w_compRI {elt n : Ex} {x : Str} {k : Nat} {t : Tok} (I : Nat → List Value → Hp → Prop) (hn : Ev G false n l H (.int (k : Int) t)) (hz : k ≤ sizeLine)
    (hb : ∀ i < k, ∀ acc H', I i acc H' → ∀ K : QV, (∀ u H'', I (i + 1) (acc ++ [u]) H'' → K u H'') → wpE G false elt (ca l x (.int (i : Int) 0)) H' K (fun _ _ => False)) (h0 : ∀ d, H d = none → I 0 [] (H.upd d (.range 0 k 1))) (q : ∀ acc H', I k acc H' → ∀ c, H' c = none → Q (.ref c) (H'.upd c (.list acc))) : wpE G false (.comp elt x (.bf .range [n]) []) l H Q X := by
  have hz2 : (k : Int) < 2 ^ 60 := by have : k ≤ sizeLine := hz; simp [sizeLine] at this; omega
  refine w_range (Q := fun v H1 => iterH false v H1 fun guard items => items.length ≤ sizeLine ∧
      compG guard (fun v H2 k => wpB G false true [] ((l.del ".0").upd x v) H2 (fun c H3 => truthV c fun r =>
        if r then wpE G false elt ((l.del ".0").upd x v) H3 (fun u H4 => k (some u) H4) (fun _ _ => False) else k none H3) (fun _ _ => False)) items [] H1
        fun us H' => newV (.list us) H' Q) hn hz2 (by omega) fun d hd => .inl ⟨rfl, ?_⟩
  have h1 := h0 d hd
  have hdd : (H.upd d (.range 0 k 1)) d = some (.range 0 k 1) := Hp.upd_same _ _ _
  generalize H.upd d (.range 0 k 1) = H1 at *
  conv => whnf
  rw [hdd]
  refine ⟨small_nat (by omega), by rw [rangeL_len]; exact hz, ?_⟩
  rw [rangeL_nat, List.range_eq_range']
  have key : ∀ (m j : Nat) (acc : List Value) (H' : Hp), j + m = k → I j acc H' → compG (fun _ => True) (fun v H2 k => wpB G false true [] ((l.del ".0").upd x v) H2 (fun c H3 => truthV c fun r =>
        if r then wpE G false elt ((l.del ".0").upd x v) H3 (fun u H4 => k (some u) H4) (fun _ _ => False) else k none H3) (fun _ _ => False)) ((List.range' j m).map fun (i : Nat) => Value.int (i : Int) 0) acc H' fun us H' => newV (.list us) H' Q := by
    intro m
    induction m with
    | zero => intro j acc H' hj hI; exact ⟨trivial, q acc H' (by rw [Nat.add_zero] at hj; rw [← hj]; exact hI)⟩
    | succ m ih =>
      intro j acc H' hj hI
      exact ⟨trivial, hb j (by omega) acc H' hI _ fun u H'' hI' => ih (j + 1) (acc ++ [u]) H'' (by omega) hI'⟩
  exact key k 0 [] H1 (by omega) h1
/-- the same over a range from nought -/
theorem w_compr {elt n : Ex} {x : Str} {ifs : List Ex} {k : Nat} {t : Tok} (p : Value → Bool) (f : Value → Value) (hn : Ev G false n l H (.int (k : Int) t)) (hz : k ≤ sizeLine)
    (hp : ∀ i < k, ∀ H', (∀ a o, H a = some o → H' a = some o) → Ev G false (.bop true ifs) (ca l x (.int (i : Int) 0)) H' (.bool (p (.int (i : Int) 0)))) (hf : ∀ i < k, ∀ H', (∀ a o, H a = some o → H' a = some o) → p (.int (i : Int) 0) = true → Ev G false elt (ca l x (.int (i : Int) 0)) H' (f (.int (i : Int) 0)))
    (q : ∀ d c, H d = none → H c = none → c ≠ d → Q (.ref c) ((H.upd d (.range 0 k 1)).upd c (.list ((((List.range k).map fun (i : Nat) => Value.int (i : Int) 0).filter p).map f)))) : wpE G false (.comp elt x (.bf .range [n]) ifs) l H Q X := by
  have hz2 : (k : Int) < 2 ^ 60 := by have : k ≤ sizeLine := hz; simp [sizeLine] at this; omega
  refine w_range (Q := fun v H1 => iterH false v H1 fun guard items => items.length ≤ sizeLine ∧
      compG guard (fun v H2 k => wpB G false true ifs ((l.del ".0").upd x v) H2 (fun c H3 => truthV c fun r =>
        if r then wpE G false elt ((l.del ".0").upd x v) H3 (fun u H4 => k (some u) H4) (fun _ _ => False) else k none H3) (fun _ _ => False)) items [] H1
        fun us H' => newV (.list us) H' Q) hn hz2 (by omega) fun d hd => .inl ⟨rfl, ?_⟩
  have hk : ∀ a o, H a = some o → (H.upd d (.range 0 k 1)) a = some o := fun a o e => (Hp.upd_ne _ _ fun z => by rw [z, hd] at e; cases e).trans e
  have hdd : (H.upd d (.range 0 k 1)) d = some (.range 0 k 1) := Hp.upd_same _ _ _
  have q' : ∀ c, (H.upd d (.range 0 k 1)) c = none → Q (.ref c) ((H.upd d (.range 0 k 1)).upd c (.list ((((List.range k).map fun (i : Nat) => Value.int (i : Int) 0).filter p).map f))) := fun c hc => by
    have hcd : c ≠ d := fun z => by rw [z, hdd] at hc; cases hc
    refine q d c hd ?_ hcd
    rw [Hp.upd_ne _ _ hcd] at hc; exact hc
  generalize H.upd d (.range 0 k 1) = H1 at *
  conv => whnf
  rw [hdd]
  refine ⟨small_nat (by omega), ?_⟩
  rw [rangeL_nat]
  refine ⟨by simpa using hz, comp_run (p := p) (f := f) trivial _ [] (fun v hv k' hk' => ?_) (by rw [List.nil_append]; exact q')⟩
  obtain ⟨i, hi, rfl⟩ := List.mem_map.1 hv
  have hi := List.mem_range.1 hi
  refine (hp i hi H1 hk).run _ _ ?_
  show if p (.int (i : Int) 0) = true then _ else _
  cases e : p (.int (i : Int) 0) with
  | true => rw [e] at hk'; exact (hf i hi H1 hk e).run _ _ hk'
  | false => rw [e] at hk'; exact hk'
end
end Mine
end

section
open PySem PyProof.Rows
namespace Mine

section
variable {G : Gx} {hm : Bool} {l : Loc} {H : Hp} {Q : QS} {X : XS} {r : List Sm}

/-! ## statements -/
noncomputable def sq (G : Gx) (hm : Bool) (r : List Sm) (Q : QS) (X : XS) : QS := fun f l' H' => match f with | .next => wpSs G hm r l' H' Q X | f => Q f l' H'
theorem ss_nl (q : Q .next l H) : wpSs G hm [] l H Q X := q
theorem sq_next (q : wpSs G hm r l H Q X) : sq G hm r Q X .next l H := q
theorem ss_sq (q : wpSs G hm r l H Q X) : wpSs G hm [] l H (sq G hm r Q X) X := q
theorem ss_asgW {x : Str} {e : Ex} (q : wpE G hm e l H (fun v H' => wpSs G hm r (l.upd x v) H' Q X) (fun C H' => X C l H')) : wpSs G hm (.asg x e :: r) l H Q X := q
theorem ss_asg {x : Str} {e : Ex} {v : Value} (he : Ev G hm e l H v) (q : wpSs G hm r (l.upd x v) H Q X) : wpSs G hm (.asg x e :: r) l H Q X := ss_asgW (w_ev he q)
theorem ss_exprW {e : Ex} (q : wpE G hm e l H (fun _ H' => wpSs G hm r l H' Q X) (fun C H' => X C l H')) : wpSs G hm (.expr e :: r) l H Q X := q
theorem ss_retW {e : Ex} (q : wpE G hm e l H (fun v H' => Q (.ret v) l H') (fun C H' => X C l H')) : wpSs G hm (.ret e :: r) l H Q X := q
theorem ss_ret {e : Ex} {v : Value} (he : Ev G hm e l H v) (q : Q (.ret v) l H) : wpSs G hm (.ret e :: r) l H Q X := ss_retW (w_ev he q)
theorem ss_ifW {c : Ex} {t f : List Sm} (q : wpE G hm c l H (fun v H1 => truthV v fun b => if b then wpSs G hm t l H1 (sq G hm r Q X) X else wpSs G hm f l H1 (sq G hm r Q X) X) (fun C H' => X C l H')) : wpSs G hm (.ite c t f :: r) l H Q X := q
theorem ss_if {c : Ex} {t f : List Sm} {b : Bool} (hc : Ev G hm c l H (.bool b)) (ht : b = true → wpSs G hm t l H (sq G hm r Q X) X) (hf : b = false → wpSs G hm f l H (sq G hm r Q X) X) : wpSs G hm (.ite c t f :: r) l H Q X := ss_ifW (w_ev hc (by
  show if b = true then _ else _
  cases b
  · exact hf rfl
  · exact ht rfl))
theorem ss_ift {c : Ex} {t f : List Sm} (hc : Ev G hm c l H (.bool true)) (q : wpSs G hm t l H (sq G hm r Q X) X) : wpSs G hm (.ite c t f :: r) l H Q X := ss_if hc (fun _ => q) nofun
theorem ss_iff {c : Ex} {t f : List Sm} (hc : Ev G hm c l H (.bool false)) (q : wpSs G hm f l H (sq G hm r Q X) X) : wpSs G hm (.ite c t f :: r) l H Q X := ss_if hc nofun (fun _ => q)
theorem ss_iff0 {c : Ex} {t : List Sm} (hc : Ev G hm c l H (.bool false)) (q : wpSs G hm r l H Q X) : wpSs G hm (.ite c t [] :: r) l H Q X := ss_iff hc q
theorem ss_raise {c : Str} {C : Addr} (hh : hm = false) (hg : G.glob c = some (.ref C)) (he : G.isExc C = true) (q : X C l H) : wpSs G hm (.raise c :: r) l H Q X := by
  show hm = false ∧ (match G.glob c with | some (.ref C) => G.isExc C = true ∧ X C l H | _ => False)
  rw [hg]; exact ⟨hh, he, q⟩
theorem ss_keyW {o i e : Ex} (q : wpE G hm e l H (fun v H1 => wpE G hm o l H1 (fun ov H2 => wpE G hm i l H2 (fun iv H3 => setItemV ov iv v H3 fun H' => wpSs G hm r l H' Q X) (fun C H' => X C l H')) (fun C H' => X C l H')) (fun C H' => X C l H')) : wpSs G hm (.asgIdx o i e :: r) l H Q X := q
theorem tv_t {t f : Prop} (q : t) : truthV (.bool true) fun b => if b = true then t else f := by
  show if true = true then t else f
  rw [if_pos rfl]; exact q
theorem tv_f {t f : Prop} (q : f) : truthV (.bool false) fun b => if b = true then t else f := by
  show if false = true then t else f
  rw [if_neg nofun]; exact q
theorem bo_go {k : Bool} {t : Prop} {f : Bool → Prop} (q : t) : truthV (.bool k) fun b => if b = k then t else f b := by
  show if k = k then t else f k
  rw [if_pos rfl]; exact q
/-! loops -/
theorem ss_forW {x : Str} {src : Ex} {body : List Sm} (q : wpE G hm src l H (fun v H1 => iterH hm v H1 fun guard items => forG guard x (fun l' H' K => wpSs G hm body l' H' K X) items l H1 (sq G hm r Q X)) (fun C H' => X C l H')) : wpSs G hm (.for_ x src body :: r) l H Q X := q
/-! try -/
theorem ss_tryW {body : List Sm} {hs : List Hd} (q : wpSs G hm body l H (sq G hm r Q X) fun C l' H' => hm = false ∧ G.isExc C = true ∧ wpH G hs C l' H' (sq G hm r Q X) X) : wpSs G hm (.try_ body hs :: r) l H Q X := q
/-! a def's call -/
noncomputable def fq (Q : QV) : QS := fun f _ H' => match f with | .next => Q .none H' | .ret v => Q v H' | .cont => False
noncomputable def fx (X : XV) : XS := fun C _ H' => X C H'
theorem f_in {ps : List Str} {body : List Sm} {args : List Value} {Q : QV} {X : XV} (hl : ps.length = args.length) (q : wpSs G hm body (fun x => (ps.zip args).lookup x) H (fq Q) (fx X)) : wpF G hm ps body args H Q X := ⟨hl, q⟩
end
end Mine
end

section
open PySem PyProof.Rows
namespace Mine.St
open Mine

noncomputable def b_is_name : List Sm := [.ite (.bop false [.not (.isi (.loc "thing") .str), .not (.cmp2 (.int 1) .LtE (.bf .len [.loc "thing"]) .LtE (.glob "MOST"))]) [.ret (.bool false)] [], .ret (.bf .all [.comp (.cmp (.loc "sign") .In (.glob "LETTERS")) "sign" (.loc "thing") []])]
noncomputable def b_checked : List Sm := [.ite (.bop false [.not (.isi (.loc "path") .listOrTuple), .cmp (.bf .len [.loc "path"]) .Gt (.glob "MOST")]) [.raise "BadPath"] [], .ite (.not (.bf .all [.comp (.call (.glob "is_name") [.loc "one"]) "one" (.loc "path") []])) [.raise "BadPath"] [], .ret (.bf .list [.loc "path"])]
noncomputable def b_Pile___init__ : List Sm := [.asgAttr (.loc "self") "boxes" (.dict [] []), .asgAttr (.loc "self") "counts" (.dict [] []), .asgAttr (.loc "self") "made" (.int 0)]
noncomputable def b_Pile_need : List Sm := [.ite (.bop false [.isi (.loc "box") .bool, .not (.isi (.loc "box") .int), .cmp (.loc "box") .NotIn (.attr (.loc "self") "boxes")]) [.raise "NoBox"] [], .ret (.loc "box")]
noncomputable def b_Pile_fresh : List Sm := [.asgAttr (.loc "self") "made" (.bin .Add (.attr (.loc "self") "made") (.int 1)), .asgIdx (.attr (.loc "self") "boxes") (.attr (.loc "self") "made") (.loc "what"), .asgIdx (.attr (.loc "self") "counts") (.attr (.loc "self") "made") (.int 0), .ret (.attr (.loc "self") "made")]
noncomputable def b_Pile_leaf : List Sm := [.ret (.meth (.loc "self") "fresh" [.tup [.str "leaf", .loc "number"]])]
noncomputable def b_Pile_branch : List Sm := [.for_ "row" (.loc "rows") [.expr (.meth (.loc "self") "need" [.idx (.loc "row") (.int 1)])], .for_ "row" (.loc "rows") [.expr (.meth (.loc "self") "hold" [.idx (.loc "row") (.int 1)])], .ret (.meth (.loc "self") "fresh" [.tup [.str "branch", .bf .list [.loc "rows"]]])]
noncomputable def b_Pile_content : List Sm := [.asg "what" (.idx (.attr (.loc "self") "boxes") (.meth (.loc "self") "need" [.loc "box"])), .ite (.cmp (.idx (.loc "what") (.int 0)) .Eq (.str "branch")) [.ret (.tup [.str "branch", .bf .list [.idx (.loc "what") (.int 1)]])] [], .ret (.loc "what")]
noncomputable def b_Pile_hold : List Sm := [.expr (.meth (.loc "self") "need" [.loc "box"]), .asgIdx (.attr (.loc "self") "counts") (.loc "box") (.bin .Add (.idx (.attr (.loc "self") "counts") (.loc "box")) (.int 1))]
noncomputable def b_Pile_holders : List Sm := [.ret (.idx (.attr (.loc "self") "counts") (.meth (.loc "self") "need" [.loc "box"]))]
noncomputable def b_Pile_let_go : List Sm := [.asg "waiting" (.list [.meth (.loc "self") "need" [.loc "box"]]), .asg "gone" (.int 0), .while_ (.cmp (.loc "waiting") .NotEq (.list [])) [.asg "one" (.bm .pop (.loc "waiting") []), .ite (.cmp (.loc "one") .NotIn (.attr (.loc "self") "boxes")) [.cont] [], .asgIdx (.attr (.loc "self") "counts") (.loc "one") (.bf .max2 [.int 0, .bin .Sub (.idx (.attr (.loc "self") "counts") (.loc "one")) (.int 1)]), .ite (.cmp (.idx (.attr (.loc "self") "counts") (.loc "one")) .Eq (.int 0)) [.asg "what" (.bm .pop (.attr (.loc "self") "boxes") [.loc "one"]), .expr (.bm .pop (.attr (.loc "self") "counts") [.loc "one"]), .asg "gone" (.bin .Add (.loc "gone") (.int 1)), .ite (.cmp (.idx (.loc "what") (.int 0)) .Eq (.str "branch")) [.asg "waiting" (.bin .Add (.loc "waiting") (.comp (.idx (.loc "row") (.int 1)) "row" (.idx (.loc "what") (.int 1)) []))] []] []], .ret (.loc "gone")]
noncomputable def b_Pile_kept : List Sm := [.ret (.bf .sorted [.attr (.loc "self") "boxes"])]
noncomputable def b_box_of : List Sm := [.for_ "row" (.loc "rows") [.ite (.cmp (.idx (.loc "row") (.int 0)) .Eq (.loc "name")) [.ret (.idx (.loc "row") (.int 1))] []], .ret (.none)]
noncomputable def b_without : List Sm := [.ret (.comp (.loc "row") "row" (.loc "rows") [.cmp (.idx (.loc "row") (.int 0)) .NotEq (.loc "name")])]
noncomputable def b_placed : List Sm := [.asg "ahead" (.comp (.loc "row") "row" (.loc "rows") [.cmp (.idx (.loc "row") (.int 0)) .Lt (.loc "name")]), .asg "behind" (.comp (.loc "row") "row" (.loc "rows") [.cmp (.idx (.loc "row") (.int 0)) .Gt (.loc "name")]), .ret (.bin .Add (.bin .Add (.loc "ahead") (.list [.tup [.loc "name", .loc "box"]])) (.loc "behind"))]
noncomputable def b_need_way : List Sm := [.asg "names" (.call (.glob "checked") [.loc "path"]), .ite (.cmp (.loc "names") .Eq (.list [])) [.raise "BadPath"] [], .ret (.loc "names")]
noncomputable def b_need_number : List Sm := [.ite (.bop false [.isi (.loc "number") .bool, .not (.isi (.loc "number") .int), .not (.cmp2 (.neg (.glob "BOUND")) .Lt (.loc "number") .Lt (.glob "BOUND"))]) [.raise "BadNumber"] []]
noncomputable def b_Store___init__ : List Sm := [.asgAttr (.loc "self") "pile" (.call (.glob "Pile") []), .asgAttr (.loc "self") "tree" (.meth (.attr (.loc "self") "pile") "branch" [.list []]), .expr (.meth (.attr (.loc "self") "pile") "hold" [.attr (.loc "self") "tree"]), .asgAttr (.loc "self") "shots" (.dict [] []), .asgAttr (.loc "self") "last" (.int 0)]
noncomputable def b_Store_top : List Sm := [.ite (.cmp (.loc "view") .Is (.none)) [.ret (.attr (.loc "self") "tree")] [], .ite (.bop false [.isi (.loc "view") .bool, .not (.isi (.loc "view") .int), .cmp (.loc "view") .NotIn (.attr (.loc "self") "shots")]) [.raise "NoShot"] [], .ret (.idx (.attr (.loc "self") "shots") (.loc "view"))]
noncomputable def b_Store_found : List Sm := [.for_ "name" (.loc "names") [.asg "what" (.meth (.attr (.loc "self") "pile") "content" [.loc "box"]), .ite (.cmp (.idx (.loc "what") (.int 0)) .Eq (.str "leaf")) [.ret (.none)] [], .asg "box" (.call (.glob "box_of") [.idx (.loc "what") (.int 1), .loc "name"]), .ite (.cmp (.loc "box") .Is (.none)) [.ret (.none)] []], .ret (.loc "box")]
noncomputable def b_Store_ways : List Sm := [.asg "found" (.list []), .for_ "k" (.bf .range [.bf .len [.loc "names"]]) [.asg "box" (.meth (.loc "self") "found" [.attr (.loc "self") "tree", .slice (.loc "names") none (some (.loc "k"))]), .ite (.cmp (.loc "box") .Is (.none)) [.expr (.bm .append (.loc "found") [.list []])] [.expr (.bm .append (.loc "found") [.idx (.meth (.attr (.loc "self") "pile") "content" [.loc "box"]) (.int 1)])]], .ret (.loc "found")]
noncomputable def b_Store_changed : List Sm := [.asg "old" (.attr (.loc "self") "tree"), .expr (.meth (.attr (.loc "self") "pile") "hold" [.loc "box"]), .asgAttr (.loc "self") "tree" (.loc "box"), .ret (.meth (.attr (.loc "self") "pile") "let_go" [.loc "old"])]
noncomputable def b_Store_put : List Sm := [.asg "names" (.call (.glob "need_way") [.loc "path"]), .expr (.call (.glob "need_number") [.loc "number"]), .for_ "k" (.bf .range [.int 1, .bf .len [.loc "names"]]) [.ite (.cmp (.meth (.loc "self") "kind" [.none, .slice (.loc "names") none (some (.loc "k"))]) .Eq (.str "leaf")) [.raise "LeafThere"] []], .asg "kind" (.meth (.loc "self") "kind" [.none, .loc "names"]), .ite (.cmp (.loc "kind") .Eq (.str "branch")) [.raise "BranchThere"] [], .ite (.bop true [.cmp (.loc "kind") .Eq (.str "leaf"), .cmp (.meth (.loc "self") "value" [.none, .loc "names"]) .Eq (.loc "number")]) [.ret (.int 0)] [], .asg "ways" (.meth (.loc "self") "ways" [.loc "names"]), .asg "box" (.meth (.attr (.loc "self") "pile") "leaf" [.loc "number"]), .for_ "k" (.bf .range [.bin .Sub (.bf .len [.loc "names"]) (.int 1), .neg (.int 1), .neg (.int 1)]) [.asg "box" (.meth (.attr (.loc "self") "pile") "branch" [.call (.glob "placed") [.idx (.loc "ways") (.loc "k"), .idx (.loc "names") (.loc "k"), .loc "box"]])], .ret (.meth (.loc "self") "changed" [.loc "box"])]
noncomputable def b_Store_cut : List Sm := [.asg "names" (.call (.glob "need_way") [.loc "path"]), .ite (.cmp (.meth (.loc "self") "found" [.attr (.loc "self") "tree", .loc "names"]) .Is (.none)) [.raise "Nothing"] [], .asg "ways" (.meth (.loc "self") "ways" [.loc "names"]), .asg "box" (.meth (.attr (.loc "self") "pile") "branch" [.call (.glob "without") [.idx (.loc "ways") (.neg (.int 1)), .idx (.loc "names") (.neg (.int 1))]]), .for_ "k" (.bf .range [.bin .Sub (.bf .len [.loc "names"]) (.int 2), .neg (.int 1), .neg (.int 1)]) [.asg "box" (.meth (.attr (.loc "self") "pile") "branch" [.call (.glob "placed") [.idx (.loc "ways") (.loc "k"), .idx (.loc "names") (.loc "k"), .loc "box"]])], .ret (.meth (.loc "self") "changed" [.loc "box"])]
noncomputable def b_Store_snap : List Sm := [.asgAttr (.loc "self") "last" (.bin .Add (.attr (.loc "self") "last") (.int 1)), .asgIdx (.attr (.loc "self") "shots") (.attr (.loc "self") "last") (.attr (.loc "self") "tree"), .expr (.meth (.attr (.loc "self") "pile") "hold" [.attr (.loc "self") "tree"]), .ret (.attr (.loc "self") "last")]
noncomputable def b_Store_shot : List Sm := [.ite (.cmp (.loc "number") .Is (.none)) [.raise "NoShot"] [], .ret (.meth (.loc "self") "top" [.loc "number"])]
noncomputable def b_Store_drop : List Sm := [.asg "box" (.meth (.loc "self") "shot" [.loc "shot"]), .expr (.bm .pop (.attr (.loc "self") "shots") [.loc "shot"]), .ret (.meth (.attr (.loc "self") "pile") "let_go" [.loc "box"])]
noncomputable def b_Store_back : List Sm := [.ret (.meth (.loc "self") "changed" [.meth (.loc "self") "shot" [.loc "shot"]])]
noncomputable def b_Store_shot_numbers : List Sm := [.ret (.bf .sorted [.attr (.loc "self") "shots"])]
noncomputable def b_Store_kind : List Sm := [.asg "box" (.meth (.loc "self") "found" [.meth (.loc "self") "top" [.loc "view"], .call (.glob "checked") [.loc "path"]]), .ite (.cmp (.loc "box") .Is (.none)) [.ret (.none)] [], .ret (.idx (.meth (.attr (.loc "self") "pile") "content" [.loc "box"]) (.int 0))]
noncomputable def b_Store_value : List Sm := [.asg "kind" (.meth (.loc "self") "kind" [.loc "view", .loc "path"]), .ite (.cmp (.loc "kind") .Is (.none)) [.raise "Nothing"] [], .ite (.cmp (.loc "kind") .Eq (.str "branch")) [.raise "BranchThere"] [], .ret (.idx (.meth (.attr (.loc "self") "pile") "content" [.meth (.loc "self") "found" [.meth (.loc "self") "top" [.loc "view"], .call (.glob "checked") [.loc "path"]]]) (.int 1))]
noncomputable def b_Store_names : List Sm := [.asg "kind" (.meth (.loc "self") "kind" [.loc "view", .loc "path"]), .ite (.cmp (.loc "kind") .Is (.none)) [.raise "Nothing"] [], .ite (.cmp (.loc "kind") .Eq (.str "leaf")) [.raise "LeafThere"] [], .asg "rows" (.idx (.meth (.attr (.loc "self") "pile") "content" [.meth (.loc "self") "found" [.meth (.loc "self") "top" [.loc "view"], .call (.glob "checked") [.loc "path"]]]) (.int 1)), .ret (.comp (.idx (.loc "row") (.int 0)) "row" (.loc "rows") [])]
noncomputable def b_Store_both : List Sm := [.ite (.cmp (.loc "box") .Is (.none)) [.ret (.tup [.none, .list []])] [], .asg "what" (.meth (.attr (.loc "self") "pile") "content" [.loc "box"]), .ite (.cmp (.idx (.loc "what") (.int 0)) .Eq (.str "leaf")) [.ret (.tup [.idx (.loc "what") (.int 1), .list []])] [], .ret (.tup [.none, .idx (.loc "what") (.int 1)])]
/-! ## dicts as lists of pairs -/
section
variable {α : Type}
noncomputable def get (l : List (Int × α)) (i : Int) : Option α := (l.find? fun p => p.1 = i).map (·.2)
noncomputable def put (l : List (Int × α)) (i : Int) (a : α) : List (Int × α) := if l.any (fun p => p.1 = i) then l.map (fun p => if p.1 = i then (p.1, a) else p) else l ++ [(i, a)]
noncomputable def del (l : List (Int × α)) (i : Int) : List (Int × α) := l.filter fun p => decide (p.1 ≠ i)

end

noncomputable abbrev Ad := Str → Str → Addr
noncomputable def has (x : Str) (l : List Str) : Bool := l.any fun y => decide (y = x)
structure Env (G : Gx) (A : Ad) : Prop where
  nobox : G.glob "NoBox" = some (.ref (A "NoBox" ""))
  nobe : G.isExc (A "NoBox" "") = true
  pm : ∀ {m : Str}, has m ["need", "fresh", "leaf", "branch", "content", "hold", "holders", "let_go", "kept"] = true → G.meth (A "Pile" "") m = some (A "Pile" m)
  pf : ∀ {a : Str}, has a ["boxes", "counts", "made"] = true → G.fld (A "Pile" "") a = true
structure EnvS (G : Gx) (A : Ad) : Prop where
  p : Env G A
  ex : ∀ {x : Str}, has x ["SnapError", "BadPath", "BadNumber", "Nothing", "LeafThere", "BranchThere", "NoShot"] = true → G.glob x = some (.ref (A x "")) ∧ G.isExc (A x "") = true
  fn : ∀ {x : Str}, has x ["is_name", "checked", "box_of", "placed", "need_way", "need_number"] = true → G.glob x = some (.ref (A x "")) ∧ G.init (A x "") = none
  letters : G.glob "LETTERS" = some (.str "abcdefghijklmnopqrstuvwxyz" 0)
  most : G.glob "MOST" = some (.int 8 0)
  bound : G.glob "BOUND" = some (.int (10 ^ 30) 0)
  pile : G.glob "Pile" = some (.ref (A "Pile" ""))
  ipile : G.init (A "Pile" "") = some (A "Pile" "__init__")
  store : G.glob "Store" = some (.ref (A "Store" ""))
  istore : G.init (A "Store" "") = some (A "Store" "__init__")
  sm : ∀ {m : Str}, has m ["top", "found", "ways", "changed", "put", "cut", "snap", "shot", "drop", "back", "shot_numbers", "kind", "value", "names", "both", "changes"] = true → G.meth (A "Store" "") m = some (A "Store" m)
  sf : ∀ {a : Str}, has a ["pile", "tree", "shots", "last"] = true → G.fld (A "Store" "") a = true

structure PileAt (A : Ad) (H : Hp) (x d bx ct : Addr) (bs cs : List (Int × Value)) (mk : Int) : Prop where
  i : H x = some (.inst (A "Pile" "") d)
  n : H d = some (.ns [("boxes", .ref bx), ("counts", .ref ct), ("made", .int mk 0)])
  b : H bx = some (.idict bs)
  c : H ct = some (.idict cs)
  ne : bx ≠ ct

inductive Ct where
  | leaf (n : Int)
  | br (rows : List (Str × Int))

noncomputable def chg : AObj → Bool
  | .ns _ => true
  | .idict _ => true
  | .sdict _ => true
  | _ => false
/-- what there is stays, but for the changing things of M -/
noncomputable def Kp (M : List Addr) (H H' : Hp) : Prop := ∀ a o, H a = some o → (chg o = false ∨ a ∉ M) → H' a = some o
theorem Kp.refl (M : List Addr) (H : Hp) : Kp M H H := fun _ _ h _ => h
theorem Kp.trans {M : List Addr} {H H1 H2 : Hp} (h1 : Kp M H H1) (h2 : Kp M H1 H2) : Kp M H H2 := fun a o h n => h2 a o (h1 a o h n) n
theorem kp_new {M : List Addr} {H : Hp} {c : Addr} (hc : H c = none) (o : AObj) : Kp M H (H.upd c o) := fun a o' h _ => (Hp.upd_ne _ _ fun e => by rw [e, hc] at h; cases h).trans h
theorem Kp.list {M : List Addr} {H H' : Hp} (h : Kp M H H') {a : Addr} {xs : List Value} (e : H a = some (.list xs)) : H' a = some (.list xs) := h a _ e (.inl rfl)
theorem Kp.rlist {M : List Addr} {H H' : Hp} (h : Kp M H H') {a : Addr} {xs : List Value} (e : H a = some (.rlist xs)) : H' a = some (.rlist xs) := h a _ e (.inl rfl)
noncomputable def RRow (H : Hp) (v : Value) (r : Str × Int) : Prop := ∃ a, v = .ref a ∧ H a = some (.tup [.str r.1 0, .int r.2 0])
noncomputable def RCt (H : Hp) (v : Value) : Ct → Prop
  | .leaf n => ∃ a, v = .ref a ∧ H a = some (.tup [.str (Str.ofString "leaf") 0, .int n 0])
  | .br rows => ∃ a l xs, v = .ref a ∧ H a = some (.tup [.str (Str.ofString "branch") 0, .ref l]) ∧ H l = some (.list xs) ∧ All2 (RRow H) xs rows
structure PA where
  x : Addr
  d : Addr
  bx : Addr
  ct : Addr
noncomputable abbrev PA.M (π : PA) : List Addr := [π.d, π.bx, π.ct]
noncomputable def vints (cs : List (Int × Int)) : List (Int × Value) := cs.map fun p => (p.1, .int p.2 0)


structure PileR (A : Ad) (H : Hp) (π : PA) (bs : List (Int × Ct)) (cs : List (Int × Int)) (mk : Int) : Prop where
  ex : ∃ bvs, PileAt A H π.x π.d π.bx π.ct bvs (vints cs) mk ∧ All2 (fun p q => p.1 = q.1 ∧ RCt H p.2 q.2) bvs bs

end Mine.St
end

section
open PySem PyProof.Rows Mine Mine.St
local macro_rules | `(tactic| got_up) => `(tactic| first | assumption | exact PileAt.i ‹_› | exact PileAt.n ‹_› | exact PileAt.b ‹_› | exact PileAt.c ‹_›)
local macro_rules | `(tactic| nest_cls) => `(tactic| first
  | assumption | exact Env.pf ‹_› rfl | exact Env.pm ‹_› rfl
  | exact Env.pf (EnvS.p ‹_›) rfl | exact Env.pm (EnvS.p ‹_›) rfl | exact EnvS.sf ‹_› rfl | exact EnvS.sm ‹_› rfl
  | exact EnvS.letters ‹_› | exact EnvS.most ‹_› | exact EnvS.bound ‹_› | exact EnvS.pile ‹_› | exact EnvS.store ‹_› | exact EnvS.ipile ‹_› | exact EnvS.istore ‹_›
  | exact (EnvS.fn ‹_› rfl).1 | exact (EnvS.fn ‹_› rfl).2 | exact (EnvS.ex ‹_› rfl).1 | exact (EnvS.ex ‹_› rfl).2 | exact Env.nobox ‹_› | exact Env.nobe ‹_›)
local macro_rules | `(tactic| mem_news) => `(tactic| first
  | exact ev_loc rfl | exact ev_loc (by assumption) | exact ev_int | exact ev_str | exact ev_none | exact ev_bool
  | (apply ev_glob; nest_cls)
  | (apply ev_attr; mem_news; got_up; got_up; nest_cls; rfl; rfl)
  | (apply ev_at; mem_news; mem_news; got_up; rfl; (first | rfl | assumption))
  | (apply ev_key; mem_news; mem_news; got_up; assumption)
  | ((first | apply ev_not | apply ev_isi); mem_news; rfl)
  | ((first | apply ev_isir | apply ev_len); mem_news; got_up; rfl)
  | ((first | apply ev_is | apply ev_isnot); mem_news; (first | rfl | assumption))
  | ((first | apply ev_add | apply ev_sub | apply ev_max | apply ev_min | apply ev_go | apply evl_cons); mem_news; mem_news)
  | (apply ev_stop; mem_news)
  | ((first | apply ev_neg | apply ev_one); mem_news)
  | ((first | apply ev_eq | apply ev_ne | apply ev_lt | apply ev_gt); mem_news; mem_news; (first | rfl | assumption))
  | ((first | apply ev_eqs | apply ev_nes | apply ev_lts | apply ev_gts | apply ev_ins); mem_news; mem_news; (first | rfl | assumption))
  | ((first | apply ev_in | apply ev_notin); mem_news; mem_news; got_up; (first | rfl | assumption))
  | exact evl_nil)

section
open PySem PyProof.Rows
namespace Mine.St
open Mine
theorem ev_cast {G : Gx} {hm : Bool} {e : Ex} {l : Loc} {H : Hp} {v w : Value} (h : Ev G hm e l H v) (q : v = w) : Ev G hm e l H w := q ▸ h
section
variable {A : Ad} {G : Gx} {H : Hp} {π : PA} {bs : List (Int × Ct)} {cs : List (Int × Int)} {mk : Int} {Q : QV} {X : XV}

noncomputable def HasF (tab : Tab) (f : Addr) (ps : List Str) (b : List Sm) : Prop := tab f = some (ps, b)
theorem fn_gg {g : Gx} {tab : Tab} {n : Nat} {f : Addr} {ps : List Str} {b : List Sm} (e : HasF tab f ps b) {hm : Bool} {args : List Value} {H : Hp} {Q : QV} {X : XV} (h : wpF (GG g tab n) hm ps b args H Q X) : (GG g tab (n + 1)).fn f hm args H Q X := by
  show (match tab f with | some (ps, sm) => wpF (GG g tab n) hm ps sm args H Q X | none => False)
  have e : tab f = some (ps, b) := e
  rw [e]; exact h
/-! ### Pile -/
noncomputable def C_need (G : Gx) (A : Ad) : Prop := ∀ ⦃H : Hp⦄ ⦃π : PA⦄ ⦃bs : List (Int × Ct)⦄ ⦃cs : List (Int × Int)⦄ ⦃mk : Int⦄, PileR A H π bs cs mk → ∀ ⦃i : Int⦄ ⦃t : Tok⦄ ⦃c : Ct⦄, get bs i = some c → ∀ ⦃hm : Bool⦄ ⦃Q : QV⦄ ⦃X : XV⦄, Q (.int i t) H → G.fn (A "Pile" "need") hm [.ref π.x, .int i t] H Q X
noncomputable def C_fresh (G : Gx) (A : Ad) : Prop := ∀ ⦃H : Hp⦄ ⦃π : PA⦄ ⦃bs : List (Int × Ct)⦄ ⦃cs : List (Int × Int)⦄ ⦃mk : Int⦄, PileR A H π bs cs mk → ∀ ⦃v : Value⦄ ⦃c : Ct⦄, RCt H v c → bs.length ≤ sizeLine → cs.length ≤ sizeLine → ∀ ⦃Q : QV⦄ ⦃X : XV⦄,
  (∀ H', PileR A H' π (put bs (mk + 1) c) (put cs (mk + 1) 0) (mk + 1) → Kp π.M H H' → Q (.int (mk + 1) 0) H') → G.fn (A "Pile" "fresh") false [.ref π.x, v] H Q X
noncomputable def C_hold (G : Gx) (A : Ad) : Prop := ∀ ⦃H : Hp⦄ ⦃π : PA⦄ ⦃bs : List (Int × Ct)⦄ ⦃cs : List (Int × Int)⦄ ⦃mk : Int⦄, PileR A H π bs cs mk → ∀ ⦃i k : Int⦄ ⦃t : Tok⦄ ⦃c : Ct⦄, get bs i = some c → get cs i = some k → cs.length ≤ sizeLine → ∀ ⦃Q : QV⦄ ⦃X : XV⦄,
  (∀ H', PileR A H' π bs (put cs i (k + 1)) mk → Kp π.M H H' → Q .none H') → G.fn (A "Pile" "hold") false [.ref π.x, .int i t] H Q X
noncomputable def C_holders (G : Gx) (A : Ad) : Prop := ∀ ⦃H : Hp⦄ ⦃π : PA⦄ ⦃bs : List (Int × Ct)⦄ ⦃cs : List (Int × Int)⦄ ⦃mk : Int⦄, PileR A H π bs cs mk → ∀ ⦃i k : Int⦄ ⦃t : Tok⦄ ⦃c : Ct⦄, get bs i = some c → get cs i = some k → ∀ ⦃Q : QV⦄ ⦃X : XV⦄,
  Q (.int k 0) H → G.fn (A "Pile" "holders") false [.ref π.x, .int i t] H Q X
noncomputable def C_leaf (G : Gx) (A : Ad) : Prop := ∀ ⦃H : Hp⦄ ⦃π : PA⦄ ⦃bs : List (Int × Ct)⦄ ⦃cs : List (Int × Int)⦄ ⦃mk : Int⦄, PileR A H π bs cs mk → ∀ ⦃n : Int⦄, bs.length ≤ sizeLine → cs.length ≤ sizeLine → ∀ ⦃Q : QV⦄ ⦃X : XV⦄,
  (∀ H', PileR A H' π (put bs (mk + 1) (.leaf n)) (put cs (mk + 1) 0) (mk + 1) → Kp π.M H H' → Q (.int (mk + 1) 0) H') → G.fn (A "Pile" "leaf") false [.ref π.x, .int n 0] H Q X
/-- what a box's content is told as: where it is a branch, its list is new -/
noncomputable def C_content (G : Gx) (A : Ad) : Prop := ∀ ⦃H : Hp⦄ ⦃π : PA⦄ ⦃bs : List (Int × Ct)⦄ ⦃cs : List (Int × Int)⦄ ⦃mk : Int⦄, PileR A H π bs cs mk → ∀ ⦃i : Int⦄ ⦃t : Tok⦄ ⦃c : Ct⦄, get bs i = some c → (∀ rows, c = .br rows → rows.length ≤ sizeLine) → ∀ ⦃hm : Bool⦄ ⦃Q : QV⦄ ⦃X : XV⦄,
  (∀ v H', RCt H' v c → Kp [] H H' → (∀ a l u, v = .ref a → H' a = some (.tup [u, .ref l]) → H l = none) → Q v H') → G.fn (A "Pile" "content") hm [.ref π.x, .int i t] H Q X
end
end Mine.St
end

section
open PySem PyProof.Rows
namespace Mine.St
open Mine
section
variable {A : Ad} {G : Gx} {H : Hp} {π : PA} {bs : List (Int × Ct)} {cs : List (Int × Int)} {mk : Int} {Q : QV} {X : XV}

noncomputable def holdAll (cs : List (Int × Int)) : List (Str × Int) → Option (List (Int × Int))
  | [] => some cs
  | r :: rows => match get cs r.2 with
    | some k => holdAll (put cs r.2 (k + 1)) rows
    | none => none
noncomputable def C_branch (G : Gx) (A : Ad) : Prop := ∀ ⦃H : Hp⦄ ⦃π : PA⦄ ⦃bs : List (Int × Ct)⦄ ⦃cs : List (Int × Int)⦄ ⦃mk : Int⦄, PileR A H π bs cs mk → ∀ ⦃rl : Addr⦄ ⦃xs : List Value⦄ ⦃rows : List (Str × Int)⦄ ⦃cs' : List (Int × Int)⦄, H rl = some (.list xs) → All2 (RRow H) xs rows → (∀ r ∈ rows, ∃ c, get bs r.2 = some c) → holdAll cs rows = some cs' →
  bs.length ≤ sizeLine → cs.length ≤ sizeLine → rows.length ≤ sizeLine → ∀ ⦃Q : QV⦄ ⦃X : XV⦄, (∀ H', PileR A H' π (put bs (mk + 1) (.br rows)) (put cs' (mk + 1) 0) (mk + 1) → Kp π.M H H' → Q (.int (mk + 1) 0) H') → G.fn (A "Pile" "branch") false [.ref π.x, .ref rl] H Q X
section
variable {rl : Addr} {xs : List Value} {rows : List (Str × Int)} {cs' : List (Int × Int)} {l : Loc} {H0 : Hp}
structure BrI (A : Ad) (π : PA) (mk : Int) (H0 : Hp) (bs : List (Int × Ct)) (cs' : List (Int × Int)) (rl : Addr) (r : List Value) (rs : List (Str × Int)) (cs1 : List (Int × Int)) (l : Loc) (H : Hp) : Prop where
  g1 : l "self" = some (.ref π.x)
  g2 : l "rows" = some (.ref rl)
  k : Kp π.M H0 H
  w : All2 (RRow H0) r rs
  b : ∀ x ∈ rs, ∃ c, get bs x.2 = some c
  h : PileR A H π bs cs1 mk
  hh : holdAll cs1 rs = some cs'
  z : cs1.length ≤ sizeLine
structure BrJ (π : PA) (H0 : Hp) (bs : List (Int × Ct)) (rl : Addr) (r : List Value) (rs : List (Str × Int)) (l : Loc) (H : Hp) : Prop where
  e : H = H0
  g1 : l "self" = some (.ref π.x)
  g2 : l "rows" = some (.ref rl)
  w : All2 (RRow H0) r rs
  b : ∀ x ∈ rs, ∃ c, get bs x.2 = some c
end

noncomputable def kids : Ct → List Int
  | .leaf _ => []
  | .br rows => rows.map (·.2)
noncomputable abbrev LgV := Option (List (Int × Ct) × List (Int × Int) × Int)
noncomputable def lgoB (rec : List Int → List (Int × Ct) → List (Int × Int) → Int → LgV) (one : Int) (w : List Int) (bs : List (Int × Ct)) (cs : List (Int × Int)) (g : Int) : LgV := match get bs one with
  | none => rec w bs cs g
  | some c => match get cs one with
    | none => none
    | some k => if max 0 (k - 1) = 0 then (if (kids c).length ≤ 2 ^ 20 then rec (w ++ kids c) (del bs one) (del (put cs one (max 0 (k - 1))) one) (g + 1) else none) else rec w bs (put cs one (max 0 (k - 1))) g
noncomputable def lgo : Nat → List Int → List (Int × Ct) → List (Int × Int) → Int → LgV
  | 0, _, _, _, _ => none
  | n + 1, w, bs, cs, g => if w.length ≤ 2 ^ 20 ∧ bs.length ≤ 2 ^ 20 ∧ cs.length ≤ 2 ^ 20 then (match w.getLast? with
    | none => some (bs, cs, g)
    | some one => lgoB (lgo n) one w.dropLast bs cs g) else none
section
variable {n : Nat} {one g k : Int} {w : List Int} {bs : List (Int × Ct)} {cs : List (Int × Int)} {c : Ct} {r : List (Int × Ct) × List (Int × Int) × Int} {rec : List Int → List (Int × Ct) → List (Int × Int) → Int → LgV}
end

theorem eqv_nil (w : List PyData) : PyData.eqv (.list w) (.list []) = w.isEmpty := by
  cases w <;> rfl

noncomputable def lgC : Ex := .cmp (.loc "waiting") .NotEq (.list [])
noncomputable def lgG : List Sm := [.asg "what" (.bm .pop (.attr (.loc "self") "boxes") [.loc "one"]), .expr (.bm .pop (.attr (.loc "self") "counts") [.loc "one"]), .asg "gone" (.bin .Add (.loc "gone") (.int 1)), .ite (.cmp (.idx (.loc "what") (.int 0)) .Eq (.str "branch")) [.asg "waiting" (.bin .Add (.loc "waiting") (.comp (.idx (.loc "row") (.int 1)) "row" (.idx (.loc "what") (.int 1)) []))] []]
noncomputable def lgB : List Sm := [.asg "one" (.bm .pop (.loc "waiting") []), .ite (.cmp (.loc "one") .NotIn (.attr (.loc "self") "boxes")) [.cont] [], .asgIdx (.attr (.loc "self") "counts") (.loc "one") (.bf .max2 [.int 0, .bin .Sub (.idx (.attr (.loc "self") "counts") (.loc "one")) (.int 1)]), .ite (.cmp (.idx (.attr (.loc "self") "counts") (.loc "one")) .Eq (.int 0)) lgG []]

theorem Kp.fresh {M : List Addr} {H H1 : Hp} (k : Kp M H H1) {c : Addr} (hc : H c = none) (o : AObj) : Kp M H (H1.upd c o) := fun a p h n => (Hp.upd_ne _ _ fun e => by rw [e, hc] at h; cases h).trans (k a p h n)
/-- the list that waits, and the pile behind it -/
structure LgI (A : Ad) (π : PA) (mk : Int) (H0 : Hp) (w : List Int) (bs : List (Int × Ct)) (cs : List (Int × Int)) (g : Int) (wl : Addr) (bvs : List (Int × Value)) (l : Loc) (H : Hp) : Prop where
  s : l "self" = some (.ref π.x)
  g : l "gone" = some (.int g 0)
  wa : l "waiting" = some (.ref wl)
  hw : H wl = some (.list (w.map fun n => Value.int n 0))
  h0 : H0 wl = none
  p : PileAt A H π.x π.d π.bx π.ct bvs (vints cs) mk
  r : All2 (fun p q => p.1 = q.1 ∧ RCt H0 p.2 q.2) bvs bs
  k : Kp π.M H0 H
section
variable {H0 : Hp} {w : List Int} {bs : List (Int × Ct)} {cs : List (Int × Int)} {g : Int} {wl : Addr} {bvs : List (Int × Value)} {l : Loc} {X : XS} {K : QS} {one : Int} {fin : List (Int × Ct) × List (Int × Int) × Int} {n : Nat}
end
/-- what the loop asks at n -/
noncomputable def LgW (G : Gx) (X : XS) (Q : QS) (n : Nat) (l : Loc) (H : Hp) : Prop := whileN (fun l' H' K => wpE G false lgC l' H' (fun v H1 => truthV v fun b => K b H1) (fun C H' => X C l' H')) (fun l' H' K => wpSs G false lgB l' H' K X) Q n l H
section
variable {H0 : Hp} {w : List Int} {bs : List (Int × Ct)} {cs : List (Int × Int)} {g : Int} {wl : Addr} {bvs : List (Int × Value)} {l : Loc} {X : XS} {Q : QS} {r : List (Int × Ct) × List (Int × Int) × Int} {n : Nat}
end

noncomputable def C_let_go (G : Gx) (A : Ad) : Prop := ∀ ⦃H : Hp⦄ ⦃π : PA⦄ ⦃bs : List (Int × Ct)⦄ ⦃cs : List (Int × Int)⦄ ⦃mk : Int⦄, PileR A H π bs cs mk → ∀ ⦃i : Int⦄ ⦃c : Ct⦄, get bs i = some c → ∀ ⦃n : Nat⦄ ⦃bs' : List (Int × Ct)⦄ ⦃cs' : List (Int × Int)⦄ ⦃g' : Int⦄, lgo n [i] bs cs 0 = some (bs', cs', g') → ∀ ⦃Q : QV⦄ ⦃X : XV⦄,
  (∀ H', PileR A H' π bs' cs' mk → Kp π.M H H' → Q (.int g' 0) H') → G.fn (A "Pile" "let_go") false [.ref π.x, .int i 0] H Q X
structure TabP (tab : Tab) (A : Ad) : Prop where
  need : HasF tab (A "Pile" "need") ["self", "box"] b_Pile_need
  fresh : HasF tab (A "Pile" "fresh") ["self", "what"] b_Pile_fresh
  hold : HasF tab (A "Pile" "hold") ["self", "box"] b_Pile_hold
  leaf : HasF tab (A "Pile" "leaf") ["self", "number"] b_Pile_leaf
  content : HasF tab (A "Pile" "content") ["self", "box"] b_Pile_content
  branch : HasF tab (A "Pile" "branch") ["self", "rows"] b_Pile_branch
  let_go : HasF tab (A "Pile" "let_go") ["self", "box"] b_Pile_let_go

section
variable {g : Gx} {tab : Tab} (f : Env g A) (t : TabP tab A) (n : Nat)
include f t
end
end
end Mine.St
end

section
open PySem PyProof.Rows
namespace Mine.St
open Mine
section
variable {A : Ad} {G : Gx} {H : Hp} {Q : QV} {X : XV}
/-! ### names -/
noncomputable def LET : Str := "abcdefghijklmnopqrstuvwxyz"
structure Good (x : Str) : Prop where
  lo : 1 ≤ x.cps.toList.length
  hi : x.cps.toList.length ≤ 8
  cs : ∀ c ∈ x.cps.toList, 97 ≤ c ∧ c ≤ 122
noncomputable def C_is_name (G : Gx) (A : Ad) : Prop := ∀ ⦃H : Hp⦄ ⦃x : Str⦄ ⦃t : Tok⦄, Good x → ∀ ⦃Q : QV⦄ ⦃X : XV⦄, (∀ H', Kp [] H H' → Q (.bool true) H') → G.fn (A "is_name" "") false [.str x t] H Q X
structure PathAt (H : Hp) (a : Addr) (xs : List Str) : Prop where
  at_ : ∃ o, H a = some o ∧ chg o = false ∧ (o = .list (xs.map fun x => Value.str x 0) ∨ o = .tup (xs.map fun x => Value.str x 0))
  good : ∀ x ∈ xs, Good x
  len : xs.length ≤ 8
noncomputable def C_checked (G : Gx) (A : Ad) : Prop := ∀ ⦃H : Hp⦄ ⦃a : Addr⦄ ⦃xs : List Str⦄, PathAt H a xs → ∀ ⦃Q : QV⦄ ⦃X : XV⦄, (∀ b H', Kp [] H H' → H' b = some (.list (xs.map fun x => Value.str x 0)) → H b = none → Q (.ref b) H') → G.fn (A "checked" "") false [.ref a] H Q X
theorem rd_strs {H : Hp} : ∀ w : List Str, RdAll H (w.map fun n => Value.str n 0) (w.map PyData.str)
  | [] => .nil
  | n :: w => .cons (.str n 0) (rd_strs w)
noncomputable def C_need_way (G : Gx) (A : Ad) : Prop := ∀ ⦃H : Hp⦄ ⦃a : Addr⦄ ⦃xs : List Str⦄, PathAt H a xs → xs ≠ [] → ∀ ⦃Q : QV⦄ ⦃X : XV⦄, (∀ b H', Kp [] H H' → H' b = some (.list (xs.map fun x => Value.str x 0)) → H b = none → Q (.ref b) H') → G.fn (A "need_way" "") false [.ref a] H Q X
noncomputable def C_need_number (G : Gx) (A : Ad) : Prop := ∀ ⦃H : Hp⦄ ⦃n : Int⦄ ⦃t : Tok⦄, -(10 ^ 30) < n → n < 10 ^ 30 → ∀ ⦃Q : QV⦄ ⦃X : XV⦄, Q .none H → G.fn (A "need_number" "") false [.int n t] H Q X
noncomputable def rowOf (rows : List (Str × Int)) (n : Str) : Option Int := (rows.find? fun r => decide (r.1 = n)).map (·.2)
noncomputable def optV : Option Int → Value
  | some i => .int i 0
  | none => .none
noncomputable def C_box_of (G : Gx) (A : Ad) : Prop := ∀ ⦃H : Hp⦄ ⦃rl : Addr⦄ ⦃xs : List Value⦄ ⦃rows : List (Str × Int)⦄ ⦃n : Str⦄ ⦃t : Tok⦄, H rl = some (.list xs) → All2 (RRow H) xs rows → ∀ ⦃Q : QV⦄ ⦃X : XV⦄, Q (optV (rowOf rows n)) H → G.fn (A "box_of" "") false [.ref rl, .str n t] H Q X
noncomputable def lessS (a b : Str) : Bool := decide (a.cps.toList < b.cps.toList)
/-- rows with one put in its place -/
noncomputable def placedR (rows : List (Str × Int)) (n : Str) (b : Int) : List (Str × Int) := rows.filter (fun r => lessS r.1 n) ++ [(n, b)] ++ rows.filter (fun r => lessS n r.1)
noncomputable def C_placed (G : Gx) (A : Ad) : Prop := ∀ ⦃H : Hp⦄ ⦃rl : Addr⦄ ⦃xs : List Value⦄ ⦃rows : List (Str × Int)⦄ ⦃n : Str⦄ ⦃b : Int⦄, H rl = some (.list xs) → All2 (RRow H) xs rows → rows.length ≤ 2 ^ 20 → ∀ ⦃Q : QV⦄ ⦃X : XV⦄, (∀ c ys H', Kp [] H H' → H' c = some (.list ys) → All2 (RRow H') ys (placedR rows n b) → Q (.ref c) H') → G.fn (A "placed" "") false [.ref rl, .str n 0, .int b 0] H Q X
end
end Mine.St
end

section
open PySem PyProof.Rows
namespace Mine.Lw
open Mine Mine.St
theorem join_chars : ∀ cs : List Nat, (Str.join "" (cs.map chr1)).cps.toList = cs
  | [] => rfl
  | [c] => rfl
  | c :: d :: r => by
    have ih := join_chars (d :: r)
    show ((chr1 c ++ ("" : Str)) ++ Str.join "" ((d :: r).map chr1)).cps.toList = _
    show ((chr1 c).cps ++ ("" : Str).cps ++ (Str.join "" ((d :: r).map chr1)).cps).toList = _
    rw [Array.toList_append, ih]; rfl
theorem tjoin (cs : List Nat) : (Txt.join "" (cs.map chr1)).cps.toList = cs := by
  show (Builtin.Str.glued "" (cs.map chr1)).cps.toList = cs
  rw [StrLaws.glued_eq_join]; exact join_chars cs
theorem fold_len : ∀ (cs : List Nat) (a : Nat), (cs.map chr1).foldl (fun n x => n + x.length + ("" : Str).length) a = a + cs.length
  | [], a => rfl
  | c :: r, a => by
    rw [List.map_cons, List.foldl_cons, fold_len r]
    exact Nat.add_right_comm a 1 r.length
theorem join_ok {cs : List Nat} (h : cs.length ≤ 100) : JoinOk "" (cs.map chr1) = true := by
  unfold JoinOk
  rw [← Array.foldl_toList, fold_len]
  simp [Builtin.Str.tooLong, sizeLine]
  omega
theorem strs_chars : ∀ cs : List Nat, strsOf ((cs.map chr1).map fun x => Value.str x 0) = some (cs.map chr1)
  | [] => rfl
  | c :: r => by
    rw [List.map_cons, List.map_cons, strsOf, strs_chars r]; rfl
theorem let_at : ∀ k < 26, at? LET.cps.toList ((k : Nat) : Int) = some (97 + k) := by decide +kernel
theorem at_lt {α : Type} {xs : List α} {k : Int} (h0 : 0 ≤ k) (h1 : k < xs.length) : ∃ v, at? xs k = some v ∧ v ∈ xs := by
  have h2 : k.toNat < xs.length := (Int.toNat_lt h0).2 h1
  refine ⟨xs[k.toNat], ?_, List.getElem_mem h2⟩
  unfold at?
  rw [if_pos h0, List.getElem?_eq_getElem h2]
theorem mod_lt (a : Int) {b : Int} (h : 0 < b) : 0 ≤ a % b ∧ a % b < b := ⟨Int.emod_nonneg _ (Int.ne_of_gt h), Int.emod_lt_of_pos _ h⟩
theorem app_cps (a b : Str) : (a ++ b).cps.toList = a.cps.toList ++ b.cps.toList := by
  show (a.cps ++ b.cps).toList = _
  simp
theorem lt26 (a : Int) : (a % 26).toNat < 26 := (Int.toNat_lt (mod_lt a (by decide)).1).2 (mod_lt a (b := 26) (by decide)).2
theorem letAt (a : Int) : at? LET.cps.toList (a % 26) = some (97 + (a % 26).toNat) := by
  have := let_at _ (lt26 a)
  rwa [Int.toNat_of_nonneg (mod_lt a (b := 26) (by decide)).1] at this
theorem let_good (a : Int) : 97 ≤ 97 + (a % 26).toNat ∧ 97 + (a % 26).toNat ≤ 122 := ⟨Nat.le_add_right _ _, Nat.add_le_add_left (Nat.le_of_lt_succ (lt26 a)) 97⟩
theorem line100 {n : Nat} (h : n ≤ 100) : n ≤ sizeLine := Nat.le_trans h (by decide)
end Mine.Lw
namespace Mine.St
theorem at_nat {α : Type} (xs : List α) (k : Nat) : at? xs (k : Int) = xs[k]? := by
  unfold at?
  rw [if_pos (by omega)]; rfl
end Mine.St
end

section
open PySem PyProof.Rows
namespace Mine.L1
open Mine Mine.St
noncomputable def b_written : List Sm := [.asg "names" (.call (.glob "checked") [.loc "path"]), .ite (.cmp (.loc "names") .Eq (.list [])) [.ret (.str "/")] [], .ret (.bm .join (.str "") [.comp (.bin .Add (.str "/") (.loc "one")) "one" (.loc "names") []])]
noncomputable def b_read : List Sm := [.ite (.bop false [.not (.isi (.loc "line") .str), .cmp (.slice (.loc "line") none (some (.int 1))) .NotEq (.str "/")]) [.raise "BadPath"] [], .ite (.cmp (.loc "line") .Eq (.str "/")) [.ret (.list [])] [], .ret (.call (.glob "checked") [.bm .split (.slice (.loc "line") (some (.int 1)) none) [.str "/"]])]
noncomputable def b__law_cell_at : List Sm := [.ite (.cmp (.loc "_law_k") .Lt (.bf .len [.loc "_law_script"])) [.ret (.idx (.loc "_law_script") (.loc "_law_k"))] [], .ret (.int 0)]
noncomputable def b__law_name_by : List Sm := [.asg "_law_letters" (.str "abcdefghijklmnopqrstuvwxyz"), .ret (.bm .join (.str "") [.comp (.idx (.loc "_law_letters") (.bin .Mod (.bin .Add (.bin .FloorDiv (.loc "_law_cell") (.int 9)) (.bin .Mult (.loc "_law_k") (.bin .Add (.int 1) (.bin .Mod (.bin .FloorDiv (.loc "_law_cell") (.int 234)) (.int 25))))) (.int 26))) "_law_k" (.bf .range [.bin .Add (.int 1) (.bin .Mod (.loc "_law_cell") (.int 9))]) []])]
noncomputable def b__law_sign_by : List Sm := [.asg "_law_some" (.str " !\"#$&'()*+,-./0123456789:;<=>?@ABCDEFGHIJKLMNOPQRSTUVWXYZ[\\]^_`"), .asg "_law_some" (.bin .Add (.loc "_law_some") (.str "abcdefghijklmnopqrstuvwxyz{|}~\n\t")), .ret (.idx (.loc "_law_some") (.bin .Mod (.loc "_law_cell") (.int 96)))]
noncomputable def b__law_is_name : List Sm := [.ite (.bop false [.not (.isi (.loc "_law_thing") .str), .cmp (.bf .len [.loc "_law_thing"]) .Lt (.int 1), .cmp (.bf .len [.loc "_law_thing"]) .Gt (.int 8)]) [.ret (.bool false)] [], .ret (.bf .all [.comp (.cmp (.loc "_law_sign") .In (.str "abcdefghijklmnopqrstuvwxyz")) "_law_sign" (.loc "_law_thing") []])]
noncomputable def b__law_refused : List Sm := [.try_ [.expr (.call (.loc "_law_ask") [.loc "_law_thing"])] [.mk "BadPath" (some "e") [.ret (.bop true [.isi (.loc "e") (.cls "SnapError"), .isi (.loc "e") .valueError])]], .ret (.bool false)]
noncomputable def b__law_names : List Sm := [.ite (.bop false [.not (.isi (.loc "_law_seen") .list), .cmp (.bf .len [.loc "_law_seen"]) .NotEq (.bf .len [.loc "_law_due"])]) [.ret (.bool false)] [], .ret (.bf .all [.comp (.bop true [.isi (.idx (.loc "_law_seen") (.loc "_law_k")) .str, .cmp (.idx (.loc "_law_seen") (.loc "_law_k")) .Eq (.idx (.loc "_law_due") (.loc "_law_k"))]) "_law_k" (.bf .range [.bf .len [.loc "_law_due"]]) []])]
noncomputable def b__law_text_due : List Sm := [.ite (.cmp (.loc "_law_line_here") .Eq (.str "/")) [.ret (.list [])] [], .ite (.cmp (.slice (.loc "_law_line_here") none (some (.int 1))) .NotEq (.str "/")) [.ret (.none)] [], .asg "_law_names_here" (.bm .split (.slice (.loc "_law_line_here") (some (.int 1)) none) [.str "/"]), .ite (.bop false [.cmp (.bf .len [.loc "_law_names_here"]) .Gt (.int 8), .not (.bf .all [.comp (.call (.glob "_law_is_name") [.loc "_law_name"]) "_law_name" (.loc "_law_names_here") []])]) [.ret (.none)] [], .ret (.loc "_law_names_here")]
noncomputable def b__law_checked : List Sm := [.asg "_law_good" (.bop true [.cmp (.bf .len [.loc "_law_names_here"]) .LtE (.int 8), .bf .all [.comp (.call (.glob "_law_is_name") [.loc "_law_name"]) "_law_name" (.loc "_law_names_here") []]]), .ite (.not (.loc "_law_good")) [.ret (.bop true [.call (.glob "_law_refused") [.glob "checked", .loc "_law_handed"], .call (.glob "_law_refused") [.glob "written", .loc "_law_handed"]])] [], .ite (.bop false [.call (.glob "_law_refused") [.glob "checked", .loc "_law_handed"], .call (.glob "_law_refused") [.glob "written", .loc "_law_handed"]]) [.ret (.bool false)] [], .asg "_law_seen" (.call (.glob "checked") [.loc "_law_handed"]), .asg "_law_line_here" (.call (.glob "written") [.loc "_law_handed"]), .ite (.bop false [.not (.call (.glob "_law_names") [.loc "_law_seen", .loc "_law_names_here"]), .not (.isi (.loc "_law_line_here") .str), .cmp (.loc "_law_line_here") .NotEq (.bin .Add (.str "/") (.bm .join (.str "/") [.loc "_law_names_here"]))]) [.ret (.bool false)] [], .expr (.bm .append (.loc "_law_seen") [.str "more"]), .ret (.bop true [.cmp (.bf .len [.loc "_law_handed"]) .Eq (.bf .len [.loc "_law_names_here"]), .call (.glob "_law_names") [.bf .list [.loc "_law_handed"], .loc "_law_names_here"]])]
noncomputable def b__law_line : List Sm := [.asg "_law_line_here" (.bin .Add (.str "/") (.bm .join (.str "/") [.comp (.loc "_law_name") "_law_name" (.loc "_law_names_here") [.isi (.loc "_law_name") .str]])), .asg "_law_at" (.bin .Mod (.loc "_law_place") (.bin .Add (.bf .len [.loc "_law_line_here"]) (.int 1))), .ite (.cmp (.bin .Mod (.loc "_law_cell") (.int 3)) .Eq (.int 1)) [.ret (.bin .Add (.bin .Add (.slice (.loc "_law_line_here") none (some (.loc "_law_at"))) (.idx (.list [.call (.glob "_law_sign_by") [.bin .FloorDiv (.loc "_law_cell") (.int 6)], .str "/"]) (.bin .Mod (.bin .FloorDiv (.loc "_law_cell") (.int 3)) (.int 2)))) (.slice (.loc "_law_line_here") (some (.loc "_law_at")) none))] [], .ite (.cmp (.bin .Mod (.loc "_law_cell") (.int 3)) .Eq (.int 2)) [.ret (.bin .Add (.slice (.loc "_law_line_here") none (some (.loc "_law_at"))) (.slice (.loc "_law_line_here") (some (.bin .Add (.loc "_law_at") (.int 1))) none))] [], .ret (.loc "_law_line_here")]
noncomputable def b_law : List Sm := [.asg "_law_odd" (.list [.str "", .str "A", .str "abcdefghi", .int 7, .none, .bool true, .list [.str "a"], .tup [.str "a", .str "b"], .dict [.str "a"] [.bool true]]), .asg "_law_sign" (.call (.glob "_law_sign_by") [.bin .FloorDiv (.call (.glob "_law_cell_at") [.loc "_law_script", .int 2]) (.int 8)]), .asg "_law_odd" (.bin .Add (.loc "_law_odd") (.list [.loc "_law_sign", .bin .Add (.str "a") (.loc "_law_sign"), .bin .Add (.loc "_law_sign") (.str "b"), .bin .Add (.bin .Add (.str "abc") (.loc "_law_sign")) (.str "d")])), .asg "_law_names_here" (.comp (.call (.glob "_law_name_by") [.call (.glob "_law_cell_at") [.loc "_law_script", .bin .Add (.int 3) (.loc "_law_k")]]) "_law_k" (.bf .range [.bin .Mod (.call (.glob "_law_cell_at") [.loc "_law_script", .int 0]) (.int 11)]) []), .asg "_law_way" (.bin .FloorDiv (.call (.glob "_law_cell_at") [.loc "_law_script", .int 0]) (.int 11)), .ite (.bop true [.cmp (.bin .Mod (.loc "_law_way") (.int 3)) .Eq (.int 1), .cmp (.loc "_law_names_here") .NotEq (.list [])]) [.asgIdx (.loc "_law_names_here") (.bin .Mod (.call (.glob "_law_cell_at") [.loc "_law_script", .int 1]) (.bf .len [.loc "_law_names_here"])) (.idx (.loc "_law_odd") (.bin .Mod (.bin .FloorDiv (.call (.glob "_law_cell_at") [.loc "_law_script", .int 1]) (.int 11)) (.int 13)))] [], .for_ "_law_name" (.bin .Add (.loc "_law_names_here") (.list [.idx (.loc "_law_odd") (.bin .Mod (.call (.glob "_law_cell_at") [.loc "_law_script", .int 2]) (.int 13))])) [.asg "_law_told" (.call (.glob "is_name") [.loc "_law_name"]), .ite (.bop false [.not (.isi (.loc "_law_told") .bool), .cmp (.loc "_law_told") .NotEq (.call (.glob "_law_is_name") [.loc "_law_name"])]) [.ret (.bool false)] []], .asg "_law_handed" (.bf .list [.loc "_law_names_here"]), .ite (.cmp (.bin .Mod (.bin .FloorDiv (.loc "_law_way") (.int 3)) (.int 2)) .Eq (.int 1)) [.asg "_law_handed" (.bf .tuple [.loc "_law_names_here"])] [], .ite (.not (.call (.glob "_law_checked") [.loc "_law_names_here", .loc "_law_handed"])) [.ret (.bool false)] [], .asg "_law_other" (.idx (.list [.none, .str "a", .int 5, .dict [.str "a"] [.bool true], .dict [] [], .bool true]) (.bin .Mod (.call (.glob "_law_cell_at") [.loc "_law_script", .int 2]) (.int 6))), .ite (.bop false [.not (.call (.glob "_law_refused") [.glob "checked", .loc "_law_other"]), .not (.call (.glob "_law_refused") [.glob "written", .loc "_law_other"])]) [.ret (.bool false)] [], .ite (.not (.call (.glob "_law_refused") [.glob "read", .idx (.list [.int 5, .none, .list [.str "/a"], .tup [.str "/", .str "a"], .bool true, .dict [] []]) (.bin .Mod (.call (.glob "_law_cell_at") [.loc "_law_script", .int 2]) (.int 6))])) [.ret (.bool false)] [], .asg "_law_line_here" (.call (.glob "_law_line") [.loc "_law_names_here", .bin .FloorDiv (.call (.glob "_law_cell_at") [.loc "_law_script", .int 2]) (.int 12), .call (.glob "_law_cell_at") [.loc "_law_script", .int 1]]), .asg "_law_due" (.call (.glob "_law_text_due") [.loc "_law_line_here"]), .asg "_law_refused_here" (.call (.glob "_law_refused") [.glob "read", .loc "_law_line_here"]), .ite (.cmp (.loc "_law_due") .Is (.none)) [.ret (.loc "_law_refused_here")] [], .ret (.bop true [.not (.loc "_law_refused_here"), .call (.glob "_law_names") [.call (.glob "read") [.loc "_law_line_here"], .loc "_law_due"]])]

noncomputable abbrev FS : List Str := ["is_name", "checked", "written", "read", "_law_cell_at", "_law_name_by", "_law_sign_by", "_law_is_name", "_law_refused", "_law_names", "_law_text_due", "_law_checked", "_law_line"]
noncomputable def LET : Str := "abcdefghijklmnopqrstuvwxyz"
/-- the names that the law and the text use -/
structure E1 (G : Gx) (A : Ad) : Prop where
  fn : ∀ {x : Str}, has x FS = true → G.glob x = some (.ref (A x "")) ∧ G.init (A x "") = none
  letters : G.glob "LETTERS" = some (.str LET 0)
  most : G.glob "MOST" = some (.int 8 0)
  bad : G.glob "BadPath" = some (.ref (A "BadPath" "")) ∧ G.isExc (A "BadPath" "") = true
  snap : G.glob "SnapError" = some (.ref (A "SnapError" "")) ∧ G.isExc (A "SnapError" "") = true
  sub : G.sub (A "BadPath" "") (A "BadPath" "") = true ∧ G.sub (A "BadPath" "") (A "SnapError" "") = true
theorem E1.gg {g : Gx} {A : Ad} (f : E1 g A) (tab : Tab) (n : Nat) : E1 (GG g tab n) A := by cases n <;> exact ⟨f.fn, f.letters, f.most, f.bad, f.snap, f.sub⟩
section
variable {A : Ad} {G : Gx} {H H' : Hp} {Q : QV} {X : XV} {l : Loc} {hm : Bool} {x y z : Ex} {a b c : Int} {t u v : Tok}
theorem not_t {b : Bool} (h : (!b) = true) : b = false := by cases b <;> first | rfl | cases h
theorem not_f {b : Bool} (h : (!b) = false) : b = true := by cases b <;> first | rfl | cases h
/-! ### things -/
/-- what a name may be -/
noncomputable def goodB (x : Str) : Bool := (decide (1 ≤ (x.length : Int)) && decide ((x.length : Int) ≤ 8)) && x.cps.toList.all fun c => Txt.contains LET (chr1 c)
noncomputable def nmB : Value → Bool
  | .str x _ => goodB x
  | _ => false
inductive Thing (H : Hp) : Value → Prop where
  | str (x : Str) : x.length ≤ 1000 → Thing H (.str x 0)
  | int (i : Int) : Thing H (.int i 0)
  | none : Thing H .none
  | bool (b : Bool) : Thing H (.bool b)
  | ref {a : Addr} {o : AObj} : H a = some o → chg o = false → isiObj .str o = some false → Thing H (.ref a)
  | dict {a : Addr} {kvs : List (Str × Value)} : H a = some (.sdict kvs) → Thing H (.ref a)
  | edict {a : Addr} {kvs : List (Int × Value)} : H a = some (.idict kvs) → Thing H (.ref a)
theorem Thing.kp {w : Value} (h : Thing H w) (k : Kp [] H H') : Thing H' w := by
  cases h with
  | str x h => exact .str x h
  | int i => exact .int i
  | none => exact .none
  | bool b => exact .bool b
  | ref h c i => exact .ref (k _ _ h (.inl c)) c i
  | dict h => exact .dict (k _ _ h (.inr (by simp)))
  | edict h => exact .edict (k _ _ h (.inr (by simp)))
noncomputable def isS : Value → Bool
  | .str _ _ => true
  | _ => false
theorem ev_isS {w : Value} (h : Thing H w) (he : Ev G hm x l H w) : Ev G hm (.isi x .str) l H (.bool (isS w)) := by
  cases h with
  | str x h => exact ev_isi he rfl
  | int i => exact ev_isi he rfl
  | none => exact ev_isi he rfl
  | bool b => exact ev_isi he rfl
  | ref h c i => exact ev_isir he h i
  | dict h => exact ev_isir he h rfl
  | edict h => exact ev_isir he h rfl
theorem ev_between (hx : Ev G hm x l H (.int a t)) (hy : Ev G hm y l H (.int b u)) (hz : Ev G hm z l H (.int c v)) : Ev G hm (.cmp2 x .LtE y .LtE z) l H (.bool (decide (a ≤ b) && decide (b ≤ c))) := by
  cases h1 : decide (a ≤ b) with
  | true => exact ev_cmp2 hx hy (cmp_le h1) hz fun Q q => q
  | false =>
    refine .mk fun Q X q => hx.run (fun a H1 => wpE G hm y l H1 (fun b H2 => cmpV .LtE a b H2 fun c H3 => truthV c fun r =>
      if r then wpE G hm z l H3 (fun d H4 => cmpV .LtE b d H4 Q) X else Q (.bool false) H3) X) X (hy.run (fun b H2 => cmpV .LtE (.int a t) b H2 fun c H3 => truthV c fun r =>
      if r then wpE G hm z l H3 (fun d H4 => cmpV .LtE b d H4 Q) X else Q (.bool false) H3) X ?_)
    have hq : ∀ Q : QV, Q (.bool false) H → cmpV .LtE (.int a t) (.int b u) H Q := fun Q q => by
      show Q (.bool (decide (a ≤ b))) H
      rw [h1]; exact q
    exact hq _ q
/-- all the signs of a text are letters -/
theorem w_signs {src let' : Ex} {s : Str} {p : Str} (he : Ev G false src l H (.str p 0)) (hz : p.length ≤ 1000) (hl : ∀ l : Loc, l s = none ∨ True → ∀ c, Ev G false let' (ca l s (.str (chr1 c) 0)) H (.str LET 0)) (q : ∀ H', Kp [] H H' → Q (.bool (p.cps.toList.all fun c => Txt.contains LET (chr1 c))) H') :
    wpE G false (.bf .all [.comp (.cmp (.loc s) .In let') s src []]) l H Q X := by
  refine w_bfW (wl_cons (w_compS (fun c => .bool (Txt.contains LET (chr1 c))) he (Nat.le_trans hz (by decide)) (fun c hc => ev_ins (ev_loc (v := .str (chr1 c) 0) (by unfold ca; simp [Loc.upd])) (hl l (.inr trivial) c) rfl) fun b hb => ?_))
  refine wl_nil ⟨.inr (.inl rfl), ?_⟩
  have k1 := kp_new (M := []) hb (.list (p.cps.toList.map fun c => Value.bool (Txt.contains LET (chr1 c))))
  have e1 := Hp.upd_same H b (.list (p.cps.toList.map fun c => Value.bool (Txt.contains LET (chr1 c))))
  generalize H.upd b (.list (p.cps.toList.map fun c => Value.bool (Txt.contains LET (chr1 c)))) = H1 at k1 e1 ⊢
  conv => whnf
  rw [e1]
  refine ⟨p.cps.toList.map fun c => Txt.contains LET (chr1 c), by rw [List.map_map]; rfl, ?_⟩
  rw [List.all_map]
  exact q _ k1
noncomputable def C_isn (G : Gx) (A : Ad) (f : Str) : Prop := ∀ ⦃H : Hp⦄ ⦃w : Value⦄, Thing H w → ∀ ⦃Q : QV⦄ ⦃X : XV⦄, (∀ H', Kp [] H H' → Q (.bool (nmB w)) H') → G.fn (A f "") false [w] H Q X
theorem isn_ok (F : E1 G A) {w : Value} (h : Thing H w) (q : ∀ H', Kp [] H H' → Q (.bool (nmB w)) H') : wpF G false ["thing"] b_is_name [w] H Q X := by
  refine f_in rfl ?_
  cases hs : isS w with
  | false =>
    refine ss_ift (ev_stop (k := false) (ev_not (ev_isS h (ev_loc rfl)) (by rw [hs]))) (ss_ret ev_bool ?_)
    have : nmB w = false := by cases w <;> first | rfl | cases hs
    rw [← this]; exact q _ (Kp.refl _ _)
  | true =>
    cases h with
    | str p hp =>
      have hp' : p.length ≤ sizeLine := Nat.le_trans hp (by decide)
      refine ss_if (b := !(decide (1 ≤ (p.length : Int)) && decide ((p.length : Int) ≤ 8))) (ev_go (ev_not (ev_isi (ev_loc rfl) rfl) rfl) (ev_one (ev_not (ev_between ev_int (ev_lens (ev_loc rfl) hp') (ev_glob F.most)) rfl))) (fun hb => ?_) fun hb => ss_sq ?_
      · refine ss_ret ev_bool ?_
        have q := q _ (Kp.refl _ _)
        have : nmB (.str p 0) = false := by show goodB p = false; unfold goodB; rw [not_t hb]; rfl
        rw [this] at q; exact q
      · refine ss_retW (w_signs (ev_loc rfl) hp (fun l _ c => ev_glob F.letters) fun H' k' => ?_)
        have q := q H' k'
        have hb := not_f hb
        have : nmB (.str p 0) = p.cps.toList.all fun c => Txt.contains LET (chr1 c) := by show goodB p = _; unfold goodB; rw [hb, Bool.true_and]
        rw [this] at q; exact q
    | _ => cases hs
end
end Mine.L1
end

section
open PySem PyProof.Rows
namespace Mine.L1
open Mine Mine.St
section
variable {A : Ad} {G : Gx} {H H' : Hp} {Q : QV} {X : XV} {l : Loc} {hm : Bool} {x y z : Ex} {a b c : Int} {t u v : Tok}
noncomputable def nv (Q : QV) : QV := fun a H1 => truthV a fun b => Q (.bool (!b)) H1
theorem w_notN (q : wpE G hm x l H (nv Q) X) : wpE G hm (.not x) l H Q X := q
theorem nv_t (q : Q (.bool false) H) : nv Q (.bool true) H := q
theorem nv_f (q : Q (.bool true) H) : nv Q (.bool false) H := q
theorem le_not {n : Int} : (decide (1 ≤ n) && decide (n ≤ 8)) = (!decide (n < 1) && !decide (8 < n)) := by
  rw [← decide_not, ← decide_not, decide_eq_decide.2 Int.not_lt, decide_eq_decide.2 Int.not_lt]
theorem lisn_ok (F : E1 G A) {w : Value} (h : Thing H w) (q : ∀ H', Kp [] H H' → Q (.bool (nmB w)) H') : wpF G false ["_law_thing"] b__law_is_name [w] H Q X := by
  refine f_in rfl ?_
  cases hs : isS w with
  | false =>
    refine ss_ift (ev_stop (k := false) (ev_not (ev_isS h (ev_loc rfl)) (by rw [hs]))) (ss_ret ev_bool ?_)
    have : nmB w = false := by cases w <;> first | rfl | cases hs
    rw [← this]; exact q _ (Kp.refl _ _)
  | true =>
    cases h with
    | str p hp =>
      have hp' : p.length ≤ sizeLine := Nat.le_trans hp (by decide)
      have no : (decide ((p.length : Int) < 1) || decide (8 < (p.length : Int))) = true → Q (.bool false) H := fun hb => by
        have q := q _ (Kp.refl _ _)
        have : nmB (.str p 0) = false := by
          show goodB p = false
          unfold goodB
          rw [le_not, ← Bool.not_or, hb]; rfl
        rw [this] at q; exact q
      cases h1 : decide ((p.length : Int) < 1) with
      | true => exact ss_ift (ev_go (ev_not (ev_isi (ev_loc rfl) rfl) rfl) (ev_stop (k := false) (ev_lt (ev_lens (ev_loc rfl) hp') ev_int h1))) (ss_ret ev_bool (no (by rw [h1]; rfl)))
      | false =>
      refine ss_if (b := decide (8 < (p.length : Int))) (ev_go (ev_not (ev_isi (ev_loc rfl) rfl) rfl) (ev_go (k := false) (ev_lt (ev_lens (ev_loc rfl) hp') ev_int h1) (ev_one (ev_gt (ev_lens (ev_loc rfl) hp') ev_int rfl)))) (fun hb => ss_ret ev_bool (no (by rw [hb, Bool.or_true]))) fun hb => ss_sq ?_
      refine ss_retW (w_signs (ev_loc rfl) hp (fun l _ c => ev_str) fun H' k' => ?_)
      have q := q H' k'
      have : nmB (.str p 0) = p.cps.toList.all fun c => Txt.contains LET (chr1 c) := by
        show goodB p = _
        unfold goodB
        rw [le_not, h1, hb]; rfl
      rw [this] at q; exact q
    | _ => cases hs
theorem Kp.none0 (k : Kp [] H H') {c : Addr} (hc : H' c = none) : H c = none := by
  cases e : H c with
  | none => rfl
  | some p => rw [k c p e (.inr (by simp))] at hc; cases hc
/-! ### all of a list -/
theorem w_allNm {f xn : Str} (C : C_isn G A f) (hg : G.glob f = some (.ref (A f "")) ∧ G.init (A f "") = none) {src : Ex} {ad : Addr} {o : AObj} {xs : List Value} (he : Ev G false src l H (.ref ad)) (ha : H ad = some o) (hs : seqI o = some xs) (hc : chg o = false) (hz : xs.length ≤ 2000) (ht : ∀ v ∈ xs, Thing H v) (q : ∀ H', Kp [] H H' → Q (.bool (xs.all nmB)) H') :
    wpE G false (.bf .all [.comp (.call (.glob f) [.loc xn]) xn src []]) l H Q X := by
  refine w_bfW (wl_cons (w_compI (fun r acc H' => Kp [] H H' ∧ ∃ done, xs = done ++ r ∧ acc = done.map fun v => Value.bool (nmB v)) he ha hs (Nat.le_trans hz (by decide)) (fun r acc H' h => h.1 ad o ha (.inl hc)) ?_ ⟨Kp.refl _ _, [], rfl, rfl⟩ ?_))
  · rintro w r acc H' ⟨k, done, hd, rfl⟩ K hK
    refine w_call (ev_glob hg.1) hg.2 (evl_cons (ev_loc (v := w) (by unfold ca; simp [Loc.upd])) evl_nil) (C ((ht w (by rw [hd]; simp)).kp k) fun H2 k2 => hK _ _ ⟨k.trans k2, done ++ [w], by rw [hd]; simp, by simp⟩)
  · rintro acc H' ⟨k, done, hd, rfl⟩ d hdn
    rw [List.append_nil] at hd
    subst hd
    refine wl_nil ⟨.inr (.inl rfl), ?_⟩
    have k1 := k.fresh (by
      cases e : H d with
      | none => rfl
      | some p => rw [k d p e (.inr (by simp))] at hdn; cases hdn) (.list (xs.map fun v => Value.bool (nmB v)))
    have e1 := Hp.upd_same H' d (.list (xs.map fun v => Value.bool (nmB v)))
    generalize H'.upd d (.list (xs.map fun v => Value.bool (nmB v))) = H1 at k1 e1 ⊢
    conv => whnf
    rw [e1]
    refine ⟨xs.map nmB, by rw [List.map_map]; rfl, ?_⟩
    rw [List.all_map]
    exact q _ k1
/-! ### checked -/
/-- what a path may be -/
inductive Pth (H : Hp) : Value → Option (List Value) → Prop where
  | seq {a : Addr} {o : AObj} {xs : List Value} : H a = some o → (o = .list xs ∨ o = .tup xs) → xs.length ≤ 2000 → (∀ v ∈ xs, Thing H v) → Pth H (.ref a) (some xs)
  | str (x : Str) : Pth H (.str x 0) none
  | int (i : Int) : Pth H (.int i 0) none
  | none : Pth H .none none
  | bool (b : Bool) : Pth H (.bool b) none
  | dict {a : Addr} {kvs : List (Str × Value)} : H a = some (.sdict kvs) → Pth H (.ref a) none
  | edict {a : Addr} {kvs : List (Int × Value)} : H a = some (.idict kvs) → Pth H (.ref a) none
theorem Pth.kp {w : Value} {p : Option (List Value)} (h : Pth H w p) (k : Kp [] H H') : Pth H' w p := by
  cases h with
  | seq h o z ht => exact .seq (k _ _ h (.inr (by simp))) o z fun v hv => (ht v hv).kp k
  | str x => exact .str x
  | int i => exact .int i
  | none => exact .none
  | bool b => exact .bool b
  | dict h => exact .dict (k _ _ h (.inr (by simp)))
  | edict h => exact .edict (k _ _ h (.inr (by simp)))
noncomputable def okB (xs : List Value) : Bool := !decide (8 < (xs.length : Int)) && xs.all nmB
noncomputable def okP : Option (List Value) → Bool
  | some xs => okB xs
  | none => false
noncomputable def C_chk (G : Gx) (A : Ad) : Prop := ∀ ⦃H : Hp⦄ ⦃w : Value⦄ ⦃p : Option (List Value)⦄, Pth H w p → ∀ ⦃Q : QV⦄ ⦃X : XV⦄, (∀ xs, p = some xs → okB xs = true → ∀ b H', Kp [] H H' → H' b = some (.list xs) → H b = none → Q (.ref b) H') → (okP p = false → ∀ H', Kp [] H H' → X (A "BadPath" "") H') → G.fn (A "checked" "") false [w] H Q X
theorem chk_ok (F : E1 G A) (N : C_isn G A "is_name") {w : Value} {p : Option (List Value)} (h : Pth H w p) (q : ∀ xs, p = some xs → okB xs = true → ∀ b H', Kp [] H H' → H' b = some (.list xs) → H b = none → Q (.ref b) H') (qX : okP p = false → ∀ H', Kp [] H H' → X (A "BadPath" "") H') : wpF G false ["path"] b_checked [w] H Q X := by
  refine f_in rfl ?_
  have no : okP p = false → Ev G false (.isi (.loc "path") .listOrTuple) (fun x => ((["path"] : List Str).zip [w]).lookup x) H (.bool false) → wpSs G false b_checked (fun x => ((["path"] : List Str).zip [w]).lookup x) H (fq Q) (fx X) := fun ho he =>
    ss_ift (ev_stop (k := false) (ev_not he rfl)) (ss_raise rfl F.bad.1 F.bad.2 (qX ho _ (Kp.refl _ _)))
  cases h with
  | str x => exact no rfl (ev_isi (ev_loc rfl) rfl)
  | int i => exact no rfl (ev_isi (ev_loc rfl) rfl)
  | none => exact no rfl (ev_isi (ev_loc rfl) rfl)
  | bool b => exact no rfl (ev_isi (ev_loc rfl) rfl)
  | dict h => exact no rfl (ev_isir (ev_loc rfl) h rfl)
  | edict h => exact no rfl (ev_isir (ev_loc rfl) h rfl)
  | @seq ad o xs h ho hz ht =>
    have hseq : seqO o = some xs ∧ seqI o = some xs ∧ isiObj .listOrTuple o = some true ∧ chg o = false := by rcases ho with rfl | rfl <;> exact ⟨rfl, rfl, rfl, rfl⟩
    refine ss_if (b := decide (8 < (xs.length : Int))) (ev_go (ev_not (ev_isir (ev_loc rfl) h hseq.2.2.1) rfl) (ev_one (ev_gt (ev_len (ev_loc rfl) h hseq.1) (ev_glob F.most) rfl))) (fun hb => ss_raise rfl F.bad.1 F.bad.2 (qX (by show okB xs = false; unfold okB; rw [hb]; rfl) _ (Kp.refl _ _))) fun hb => ss_sq ?_
    refine ss_ifW (w_notN (w_allNm N (F.fn rfl) (ev_loc rfl) h hseq.2.1 hseq.2.2.2 hz ht fun H1 k1 => ?_))
    cases hal : xs.all nmB with
    | false => exact nv_f (tv_t (ss_raise rfl F.bad.1 F.bad.2 (qX (by show okB xs = false; unfold okB; rw [hal, Bool.and_false]) _ k1)))
    | true =>
      refine nv_t (tv_f (ss_sq (ss_retW (w_blist (ev_loc rfl) (k1 _ _ h (.inl hseq.2.2.2)) hseq.2.1 (Nat.le_trans hz (by decide)) fun b hbn => ?_))))
      exact q xs rfl (by unfold okB; rw [hb, hal]; rfl) b _ (k1.trans (kp_new hbn _)) (Hp.upd_same _ _ _) (Kp.none0 k1 hbn)
/-! ### refused -/
noncomputable def Ends (G : Gx) (A : Ad) (f : Addr) (w : Value) (H : Hp) (b : Bool) : Prop := ∀ ⦃Q : QV⦄ ⦃X : XV⦄, (b = false → ∀ r H', Kp [] H H' → Q r H') → (b = true → ∀ H', Kp [] H H' → X (A "BadPath" "") H') → G.fn f false [w] H Q X
theorem wh_named {c y : Str} {body : List Sm} {hs : List Hd} {C D : Addr} {Q : QS} {X : XS} (hg : G.glob c = some (.ref D)) (he : G.isExc D = true) (hsub : G.sub C D = true) (q : ∀ e, H e = none → wpSs G true body (l.upd y (.ref e)) (H.upd e (.exc C)) (fun f l' H' => Q f (l'.del y) (H'.del e)) (fun _ _ _ => False)) : wpH G (.mk c (some y) body :: hs) C l H Q X := by
  show (match G.glob c with | some (.ref D) => _ | _ => False)
  rw [hg]
  refine ⟨he, ?_⟩
  rw [hsub]
  exact q
theorem del_upd {e : Addr} {o : AObj} (h : H e = none) : (H.upd e o).del e = H := by
  funext b
  show (if b = e then none else (if b = e then some o else H b)) = H b
  split
  · rename_i q; rw [q, h]
  · rfl
theorem ev_isx {C D : Addr} {e : Addr} {cn : Str} (he : Ev G hm x l H (.ref e)) (hh : H e = some (.exc C)) (hc : G.isExc C = true) (hg : G.glob cn = some (.ref D)) (hd : G.isExc D = true) : Ev G hm (.isi x (.cls cn)) l H (.bool (G.sub C D)) := .mk fun Q X q => he.run (fun v H1 => isiV G v (.cls cn) H1 Q) X (by
  conv => whnf
  rw [hh]
  refine ⟨hc, ?_⟩
  show (match G.glob cn with | some (.ref D) => _ | _ => False)
  rw [hg]
  exact ⟨hd, q⟩)
theorem ev_isv {C : Addr} {e : Addr} (he : Ev G hm x l H (.ref e)) (hh : H e = some (.exc C)) (hc : G.isExc C = true) : Ev G hm (.isi x .valueError) l H (.bool true) := .mk fun Q X q => he.run (fun v H1 => isiV G v .valueError H1 Q) X (by
  conv => whnf
  rw [hh]
  exact ⟨hc, q⟩)
noncomputable def C_ref (G G0 : Gx) (A : Ad) : Prop := ∀ ⦃H : Hp⦄ ⦃f : Addr⦄ ⦃w : Value⦄ ⦃b : Bool⦄, G.init f = none → Ends G0 A f w H b → ∀ ⦃Q : QV⦄ ⦃X : XV⦄, (∀ H', Kp [] H H' → Q (.bool b) H') → G.fn (A "_law_refused" "") false [.ref f, w] H Q X
theorem ref_ok (F : E1 G A) {f : Addr} {w : Value} {b : Bool} (hi : G.init f = none) (E : Ends G A f w H b) (q : ∀ H', Kp [] H H' → Q (.bool b) H') : wpF G false ["_law_ask", "_law_thing"] b__law_refused [.ref f, w] H Q X := by
  refine f_in rfl ?_
  refine ss_tryW (ss_exprW (w_call (ev_loc rfl) hi (evl_cons (ev_loc rfl) evl_nil) (E (fun hb r H' k' => ?_) fun hb H' k' => ?_)))
  · subst hb
    exact ss_nl (Q := sq G false [.ret (.bool false)] (fq Q) (fx X)) (sq_next (ss_ret ev_bool (q H' k')))
  · subst hb
    refine ⟨rfl, F.bad.2, wh_named F.bad.1 F.bad.2 F.sub.1 fun e he => ?_⟩
    refine ss_ret (r := []) (v := .bool true) (ev_go (k := true) (ev_cast (ev_isx (ev_loc rfl) (Hp.upd_same _ _ _) F.bad.2 F.snap.1 F.snap.2) (by rw [F.sub.2])) (ev_one (ev_isv (ev_loc rfl) (Hp.upd_same _ _ _) F.bad.2))) ?_
    show Q (.bool true) ((H'.upd e (.exc (A "BadPath" ""))).del e)
    rw [del_upd he]
    exact q H' k'
end
end Mine.L1
end

section
open PySem PyProof.Rows
namespace Mine.L1
open Mine Mine.St
section
variable {A : Ad} {G : Gx} {H H' : Hp} {Q : QV} {X : XV} {l : Loc} {hm : Bool} {x y z : Ex}
noncomputable abbrev vS (ss : List Str) : List Value := ss.map fun x => Value.str x 0
/-! ### texts -/
theorem app_assoc (a b c : Str) : a ++ b ++ c = a ++ (b ++ c) := by
  show Str.mk ((a.cps ++ b.cps) ++ c.cps) = Str.mk (a.cps ++ (b.cps ++ c.cps))
  rw [Array.append_assoc]
theorem app_none (a : Str) : a ++ ("" : Str) = a := by
  show Str.mk (a.cps ++ #[]) = a
  rw [Array.append_empty]
theorem app_len (a b : Str) : (a ++ b).length = a.length + b.length := by
  show (a.cps ++ b.cps).size = _
  rw [Array.size_append]; rfl
theorem join_eq (p : Str) (ss : List Str) : Txt.join p ss = Str.join p ss := StrLaws.glued_eq_join ..
theorem wr_join : ∀ ss : List Str, ss ≠ [] → Str.join "" (ss.map fun x => "/" ++ x) = "/" ++ Str.join "/" ss
  | [], h => absurd rfl h
  | [x], _ => rfl
  | x :: y :: r, _ => by
    have ih := wr_join (y :: r) (List.cons_ne_nil _ _)
    show ("/" ++ x) ++ ("" : Str) ++ Str.join "" ((y :: r).map fun x => "/" ++ x) = "/" ++ (x ++ "/" ++ Str.join "/" (y :: r))
    rw [ih, app_none, app_assoc, app_assoc, ← app_assoc x]
theorem join_len (p : Str) (n : Nat) : ∀ ss : List Str, (∀ x ∈ ss, x.length ≤ n) → (Str.join p ss).length ≤ ss.length * (n + p.length)
  | [], _ => Nat.zero_le _
  | [x], h => by
    rw [List.length_singleton, Nat.one_mul]
    exact Nat.le_trans (h x (List.mem_cons_self ..)) (Nat.le_add_right _ _)
  | x :: y :: r, h => by
    have ih := join_len p n (y :: r) fun z hz => h z (List.mem_cons_of_mem _ hz)
    show (x ++ p ++ Str.join p (y :: r)).length ≤ _
    rw [app_len, app_len, List.length_cons, Nat.add_mul, Nat.one_mul, Nat.add_comm]
    exact Nat.add_le_add ih (Nat.add_le_add_right (h x (List.mem_cons_self ..)) _)
theorem fold_le (p : Str) (n : Nat) : ∀ (ss : List Str) (a : Nat), (∀ x ∈ ss, x.length ≤ n) → ss.foldl (fun m x => m + x.length + p.length) a ≤ a + ss.length * (n + p.length)
  | [], a, _ => Nat.le_add_right _ _
  | x :: r, a, h => by
    refine Nat.le_trans (fold_le p n r _ fun z hz => h z (List.mem_cons_of_mem _ hz)) ?_
    rw [List.length_cons, Nat.add_mul, Nat.one_mul, Nat.add_comm (r.length * _), ← Nat.add_assoc]
    refine Nat.add_le_add_right ?_ _
    show a + x.length + p.length ≤ _
    rw [Nat.add_assoc]
    exact Nat.add_le_add_left (Nat.add_le_add_right (h x (List.mem_cons_self ..)) _) _
theorem join_small {p : Str} {ss : List Str} (h : ∀ x ∈ ss, x.length ≤ 1000) (hp : p.length ≤ 1) (hz : ss.length ≤ 100) : JoinOk p ss = true := by
  have f := fold_le p 1000 ss 0 h
  have f2 : ss.length * (1000 + p.length) ≤ 100 * 1001 := Nat.mul_le_mul hz (Nat.add_le_add_left hp _)
  have f3 := Nat.le_trans f (Nat.le_trans (Nat.le_of_eq (Nat.zero_add _)) f2)
  unfold JoinOk
  rw [← Array.foldl_toList]
  simp only [List.toList_toArray]
  generalize List.foldl (fun m (x : Str) => m + x.length + p.length) 0 ss = m at f3
  simp [Builtin.Str.tooLong, sizeLine]
  omega
theorem strs_vs : ∀ ss : List Str, strsOf (vS ss) = some ss
  | [] => rfl
  | x :: r => by rw [vS, List.map_cons, strsOf, strs_vs r]; rfl
theorem nm_strs {xs : List Value} : (∀ v ∈ xs, Thing H v) → xs.all nmB = true → ∃ ss, xs = vS ss ∧ ∀ x ∈ ss, x.length ≤ 8 := by
  induction xs with
  | nil => intro _ _; exact ⟨[], rfl, fun x h => nomatch h⟩
  | cons v r ih =>
    intro ht ha
    rw [List.all_cons, Bool.and_eq_true] at ha
    obtain ⟨ss, e, hs⟩ := ih (fun w hw => ht w (List.mem_cons_of_mem _ hw)) ha.2
    have hv := ht v (List.mem_cons_self ..)
    cases hv with
    | str x hx =>
      have hg : goodB x = true := ha.1
      refine ⟨x :: ss, by rw [e]; rfl, fun y hy => ?_⟩
      rcases List.mem_cons.1 hy with rfl | hy
      · unfold goodB at hg
        rw [Bool.and_eq_true, Bool.and_eq_true] at hg
        exact Int.ofNat_le.1 (of_decide_eq_true hg.1.2)
      · exact hs y hy
    | _ => exact absurd ha.1 (fun q => nomatch (show false = true from q))
noncomputable def wrt (ss : List Str) : Str := "/" ++ Str.join "/" ss
theorem lay_ok : ∀ ss : List Str, (∀ x ∈ ss, PyData.strOk x = true) → PyData.canLayAll0 (ss.map PyData.str) = true
  | [], _ => rfl
  | x :: r, h => Bool.and_eq_true_iff.2 ⟨h x (List.mem_cons_self ..), lay_ok r fun y hy => h y (List.mem_cons_of_mem _ hy)⟩
theorem depth_ok : ∀ ss : List Str, PyData.depthAll (ss.map PyData.str) ≤ 1
  | [] => Nat.zero_le 1
  | _ :: r => Nat.max_le.2 ⟨Nat.zero_le 1, depth_ok r⟩
theorem shaped_ok {ss : List Str} (h : ∀ x ∈ ss, PyData.strOk x = true) : SeqAt.shaped (.list (ss.map PyData.str)) = true :=
  Bool.and_eq_true_iff.2 ⟨lay_ok ss h, decide_eq_true (Nat.le_trans (Nat.succ_le_succ (depth_ok ss)) (by decide))⟩
/-- a list of texts against the empty list -/
theorem w_eq_nil {b : Addr} {ss : List Str} (hx : Ev G false x l H (.ref b)) (hb : H b = some (.list (vS ss))) (ho : ∀ x ∈ ss, PyData.strOk x = true) (q : ∀ H', Kp [] H H' → Q (.bool ss.isEmpty) H') : wpE G false (.cmp x .Eq (.list [])) l H Q X := by
  refine w_cmpW (w_ev hx (w_list evl_nil (Nat.zero_le _) fun e he => ?_))
  have k1 := kp_new (M := []) he (.list [])
  refine ⟨.list (ss.map PyData.str), .list [], .list (k1.list hb) (rd_strs ss), .list (Hp.upd_same _ _ _) .nil, shaped_ok ho, rfl, ?_⟩
  rw [eqv_nil, List.isEmpty_map]
  exact q _ k1
theorem w_ne_nil {b : Addr} {ss : List Str} (hx : Ev G false x l H (.ref b)) (hb : H b = some (.list (vS ss))) (ho : ∀ x ∈ ss, PyData.strOk x = true) (q : ∀ H', Kp [] H H' → Q (.bool (!ss.isEmpty)) H') : wpE G false (.cmp x .NotEq (.list [])) l H Q X := by
  refine w_cmpW (w_ev hx (w_list evl_nil (Nat.zero_le _) fun e he => ?_))
  have k1 := kp_new (M := []) he (.list [])
  refine ⟨.list (ss.map PyData.str), .list [], .list (k1.list hb) (rd_strs ss), .list (Hp.upd_same _ _ _) .nil, shaped_ok ho, rfl, ?_⟩
  rw [eqv_nil, List.isEmpty_map]
  exact q _ k1
noncomputable def OkS (p : Option (List Value)) : Prop := ∀ xs, p = some xs → ∀ x t, Value.str x t ∈ xs → PyData.strOk x = true
noncomputable def C_wr (G : Gx) (A : Ad) : Prop := ∀ ⦃H : Hp⦄ ⦃w : Value⦄ ⦃p : Option (List Value)⦄, Pth H w p → OkS p → ∀ ⦃Q : QV⦄ ⦃X : XV⦄, (∀ ss, p = some (vS ss) → okB (vS ss) = true → ∀ H', Kp [] H H' → Q (.str (wrt ss) 0) H') → (okP p = false → ∀ H', Kp [] H H' → X (A "BadPath" "") H') → G.fn (A "written" "") false [w] H Q X
theorem ok_all {xs : List Value} (h : okB xs = true) : xs.length ≤ 8 ∧ xs.all nmB = true := by
  unfold okB at h
  rw [Bool.and_eq_true] at h
  refine ⟨?_, h.2⟩
  have := not_t h.1
  exact Int.ofNat_le.1 (Int.not_lt.1 (of_decide_eq_false this))
theorem wr_ok (F : E1 G A) (C : C_chk G A) {w : Value} {p : Option (List Value)} (h : Pth H w p) (ho : OkS p) (q : ∀ ss, p = some (vS ss) → okB (vS ss) = true → ∀ H', Kp [] H H' → Q (.str (wrt ss) 0) H') (qX : okP p = false → ∀ H', Kp [] H H' → X (A "BadPath" "") H') : wpF G false ["path"] b_written [w] H Q X := by
  refine f_in rfl ?_
  refine ss_asgW (w_call (ev_glob (F.fn rfl).1) (F.fn rfl).2 (evl_cons (ev_loc rfl) evl_nil) (C h (fun xs e hok b H1 k1 hb _ => ?_) qX))
  subst e
  have ht : ∀ v ∈ xs, Thing H v := by cases h with | seq _ _ _ ht => exact ht
  obtain ⟨ss, rfl, h8⟩ := nm_strs ht (ok_all hok).2
  have hz : ss.length ≤ 8 := by have := (ok_all hok).1; rwa [List.length_map] at this
  have hso : ∀ x ∈ ss, PyData.strOk x = true := fun x hx => ho _ rfl x 0 (List.mem_map.2 ⟨x, hx, rfl⟩)
  have q := fun H' k' => q ss rfl hok H' k'
  refine ss_ifW (w_eq_nil (ev_loc rfl) hb hso fun H2 k2 => ?_)
  cases ss with
  | nil => exact tv_t (ss_ret ev_str (q _ (k1.trans k2)))
  | cons x0 r0 =>
  refine tv_f (ss_sq (ss_retW (w_joinW ev_str (w_comp (fun _ => true) (fun v => match v with | .str x _ => .str ("/" ++ x) 0 | v => v) (ev_loc rfl) (k2.list hb) rfl (by rw [List.length_map]; exact Nat.le_trans hz (by decide)) (fun v hv => ev_all0) (fun v hv _ => ?_) fun c hc => ?_))))
  · obtain ⟨y, hy, rfl⟩ := List.mem_map.1 hv
    exact ev_cat ev_str (ev_loc rfl) (Nat.le_trans (Nat.add_le_add_left (h8 y hy) 1) (by decide))
  · have e : ((vS (x0 :: r0)).filter fun _ => true).map (fun v => match v with | .str x _ => Value.str ("/" ++ x) 0 | v => v) = vS ((x0 :: r0).map fun x => "/" ++ x) := by
      rw [List.filter_eq_self.2 fun _ _ => rfl, List.map_map, vS, List.map_map]; rfl
    rw [e]
    refine join_at (Hp.upd_same _ _ _) (strs_vs _) (join_small (fun y hy => ?_) (Nat.zero_le _) (by rw [List.length_map]; exact Nat.le_trans hz (by decide))) ?_
    · obtain ⟨z, hz, rfl⟩ := List.mem_map.1 hy
      rw [app_len]
      exact Nat.le_trans (Nat.add_le_add_left (h8 z hz) _) (by decide)
    · rw [join_eq, wr_join _ (List.cons_ne_nil _ _)]
      exact q _ ((k1.trans k2).trans (kp_new hc _))
end
end Mine.L1
end

section
open PySem PyProof.Rows
namespace Mine.L1
open Mine Mine.St
section
variable {A : Ad} {G : Gx} {H H' : Hp} {Q : QV} {X : XV} {l : Loc} {hm : Bool} {x y z : Ex} {xs : List Value} {ss : List Str}
theorem at_vs {j : Nat} (h : j < ss.length) : at? (vS ss) ((j : Nat) : Int) = some (.str (ss.getD j "") 0) := by
  rw [at_nat, List.getElem?_map, List.getD_eq_getElem?_getD, List.getElem?_eq_getElem h]; rfl
/-! ### two lists of names -/
noncomputable def C_nms (G : Gx) (A : Ad) : Prop := ∀ ⦃H : Hp⦄ ⦃a b : Addr⦄ ⦃ss : List Str⦄, H a = some (.list (vS ss)) → H b = some (.list (vS ss)) → ss.length ≤ 100 → ∀ ⦃Q : QV⦄ ⦃X : XV⦄, (∀ H', Kp [] H H' → Q (.bool true) H') → G.fn (A "_law_names" "") false [.ref a, .ref b] H Q X
theorem nms_ok {a b : Addr} (ha : H a = some (.list (vS ss))) (hb : H b = some (.list (vS ss))) (hz : ss.length ≤ 100) (q : ∀ H', Kp [] H H' → Q (.bool true) H') : wpF G false ["_law_seen", "_law_due"] b__law_names [.ref a, .ref b] H Q X := by
  refine f_in rfl ?_
  refine ss_iff0 (ev_go (ev_not (ev_isir (ev_loc rfl) ha rfl) rfl) (ev_one (ev_ne (ev_len (ev_loc rfl) ha rfl) (ev_len (ev_loc rfl) hb rfl) (by rw [decide_eq_true rfl]; rfl)))) ?_
  refine ss_retW (w_bfW (wl_cons (w_compRI (k := ss.length) (t := 0) (fun i acc H' => Kp [] H H' ∧ acc = List.replicate i (.bool true)) (ev_cast (ev_len (ev_loc rfl) hb rfl) (by rw [List.length_map])) (Lw.line100 hz) ?_ (fun d hd => ⟨kp_new hd _, rfl⟩) ?_)))
  · rintro i hi acc H' ⟨k, rfl⟩ K hK
    have e1 : ∀ l : Loc, l "_law_seen" = some (.ref a) → l "_law_k" = some (.int (i : Int) 0) → Ev G false (.idx (.loc "_law_seen") (.loc "_law_k")) l H' (.str (ss.getD i "") 0) := fun l h1 h2 => ev_at (ev_loc h1) (ev_loc h2) (k.list ha) rfl (at_vs hi)
    have e2 : ∀ l : Loc, l "_law_due" = some (.ref b) → l "_law_k" = some (.int (i : Int) 0) → Ev G false (.idx (.loc "_law_due") (.loc "_law_k")) l H' (.str (ss.getD i "") 0) := fun l h1 h2 => ev_at (ev_loc h1) (ev_loc h2) (k.list hb) rfl (at_vs hi)
    exact w_ev (v := .bool true) (ev_go (k := true) (ev_isi (e1 _ rfl rfl) rfl) (ev_one (ev_eqs (e1 _ rfl rfl) (e2 _ rfl rfl) (decide_eq_true rfl)))) (hK _ _ ⟨k, by rw [List.replicate_succ']⟩)
  · rintro acc H' ⟨k, rfl⟩ c hc
    refine wl_nil ⟨.inr (.inl rfl), ?_⟩
    have k2 := k.fresh (Kp.none0 k hc) (.list (List.replicate ss.length (.bool true)))
    have e2 : (H'.upd c (.list (List.replicate ss.length (.bool true)))) c = some (.list (List.replicate ss.length (.bool true))) := Hp.upd_same _ _ _
    generalize H'.upd c (.list (List.replicate ss.length (.bool true))) = H2 at k2 e2 ⊢
    conv => whnf
    rw [e2]
    refine ⟨List.replicate ss.length true, by rw [List.map_replicate], ?_⟩
    rw [show (List.replicate ss.length true).all id = true by simp]
    exact q _ k2
/-! ### how the calls end -/
theorem ends_chk (C : C_chk G A) {w : Value} {p : Option (List Value)} (h : Pth H w p) : Ends G A (A "checked" "") w H (!okP p) := fun Q X q qX =>
  C h (fun xs e hok b H' k' _ _ => q (by subst e; show (!okB xs) = false; rw [hok]; rfl) _ H' k') fun ho H' k' => qX (by rw [ho]; rfl) H' k'
theorem ends_wr (C : C_wr G A) {w : Value} {p : Option (List Value)} (h : Pth H w p) (ho : OkS p) : Ends G A (A "written" "") w H (!okP p) := fun Q X q qX =>
  C h ho (fun ss e hok H' k' => q (by subst e; show (!okB (vS ss)) = false; rw [hok]; rfl) _ H' k') fun ho H' k' => qX (by rw [ho]; rfl) H' k'
theorem w_ref (F : E1 G A) {G0 : Gx} (R : C_ref G G0 A) {f : Str} {w : Value} {b : Bool} (hf : has f FS = true) (hx : Ev G false x l H w) (E : Ends G0 A (A f "") w H b) (q : ∀ H', Kp [] H H' → Q (.bool b) H') : wpE G false (.call (.glob "_law_refused") [.glob f, x]) l H Q X :=
  w_call (ev_glob (F.fn rfl).1) (F.fn rfl).2 (evl_cons (ev_glob (F.fn hf).1) (evl_cons hx evl_nil)) (R (F.fn hf).2 E q)
/-! ### checked and written, told by the law -/
structure C1 (G G0 : Gx) (A : Ad) : Prop where
  lisn : C_isn G A "_law_is_name"
  ref : C_ref G G0 A
  chk0 : C_chk G0 A
  wr0 : C_wr G0 A
  chk : C_chk G A
  wr : C_wr G A
  nms : C_nms G A
theorem ok_eq : okB xs = (decide ((xs.length : Int) ≤ 8) && xs.all nmB) := by
  unfold okB
  rw [← decide_not, decide_eq_decide.2 Int.not_lt]
theorem w_good (F : E1 G A) {G0 : Gx} (C : C1 G G0 A) {nl : Addr} {xn : Str} (hx : Ev G false x l H (.ref nl)) (hn : H nl = some (.list xs)) (hz : xs.length ≤ 2000) (ht : ∀ v ∈ xs, Thing H v) (q : ∀ H', Kp [] H H' → Q (.bool (okB xs)) H') :
    wpE G false (.bop true [.cmp (.bf .len [x]) .LtE (.int 8), .bf .all [.comp (.call (.glob "_law_is_name") [.loc xn]) xn x []]]) l H Q X := by
  cases h1 : decide ((xs.length : Int) ≤ 8) with
  | false =>
    have q := q H (Kp.refl _ _)
    rw [ok_eq, h1, Bool.false_and] at q
    exact w_ev (ev_stop (k := true) (ev_le (ev_len hx hn rfl) ev_int h1)) q
  | true =>
    refine w_bopW (wb_go (ev_le (ev_len hx hn rfl) ev_int h1) (wb_one (w_allNm C.lisn (F.fn rfl) hx hn rfl rfl hz ht fun H1 k1 => ?_)))
    have q := q H1 k1
    rw [ok_eq, h1, Bool.true_and] at q
    exact q
noncomputable def C_lc (G : Gx) (A : Ad) : Prop := ∀ ⦃H : Hp⦄ ⦃nl hd : Addr⦄ ⦃o : AObj⦄ ⦃xs : List Value⦄, H nl = some (.list xs) → H hd = some o → (o = .list xs ∨ o = .tup xs) → xs.length ≤ 2000 → (∀ v ∈ xs, Thing H v) → OkS (some xs) → ∀ ⦃Q : QV⦄ ⦃X : XV⦄, (∀ H', Kp [] H H' → Q (.bool true) H') → G.fn (A "_law_checked" "") false [.ref nl, .ref hd] H Q X
theorem lc_ok (F : E1 G A) {G0 : Gx} (C : C1 G G0 A) {nl hd : Addr} {o : AObj} (hn : H nl = some (.list xs)) (hh : H hd = some o) (ho : o = .list xs ∨ o = .tup xs) (hz : xs.length ≤ 2000) (ht : ∀ v ∈ xs, Thing H v) (hs : OkS (some xs)) (q : ∀ H', Kp [] H H' → Q (.bool true) H') : wpF G false ["_law_names_here", "_law_handed"] b__law_checked [.ref nl, .ref hd] H Q X := by
  have P : ∀ {H'}, Kp [] H H' → Pth H' (.ref hd) (some xs) := fun k => Pth.kp (.seq hh ho hz ht) k
  have hc : chg o = false ∧ seqO o = some xs ∧ seqI o = some xs := by rcases ho with rfl | rfl <;> exact ⟨rfl, rfl, rfl⟩
  refine f_in rfl ?_
  refine ss_asgW (w_good F C (ev_loc rfl) hn hz ht fun H1 k1 => ?_)
  cases hok : okB xs with
  | false =>
    refine ss_ift (ev_not (ev_loc (v := .bool false) rfl) rfl) (ss_retW (w_bopW (wb_cons (w_ref F C.ref rfl (ev_loc rfl) (ends_chk C.chk0 (P k1)) fun H2 k2 => ?_))))
    rw [show (!okP (some xs)) = true by show (!okB xs) = true; rw [hok]; rfl]
    refine bo_go (k := true) (wb_one (w_ref F C.ref rfl (ev_loc rfl) (ends_wr C.wr0 (P (k1.trans k2)) hs) fun H3 k3 => ?_))
    rw [show (!okP (some xs)) = true by show (!okB xs) = true; rw [hok]; rfl]
    exact q _ ((k1.trans k2).trans k3)
  | true =>
  have hb : (!okP (some xs)) = false := by show (!okB xs) = false; rw [hok]; rfl
  refine ss_iff0 (ev_not (ev_loc (v := .bool true) rfl) rfl) ?_
  refine ss_ifW (w_bopW (wb_cons (w_ref F C.ref rfl (ev_loc rfl) (ends_chk C.chk0 (P k1)) fun H2 k2 => ?_)))
  rw [hb]
  refine bo_go (k := false) (wb_one (w_ref F C.ref rfl (ev_loc rfl) (ends_wr C.wr0 (P (k1.trans k2)) hs) fun H3 k3 => ?_))
  rw [hb]
  refine tv_f (ss_sq ?_)
  have k03 := (k1.trans k2).trans k3
  obtain ⟨ss, e, h8⟩ := nm_strs ht (ok_all hok).2
  have hz8 := (ok_all hok).1
  subst e
  rw [List.length_map] at hz8
  refine ss_asgW (w_call (ev_glob (F.fn rfl).1) (F.fn rfl).2 (evl_cons (ev_loc rfl) evl_nil) (C.chk (P k03) (fun ys e _ sl H4 k4 hsl hs0 => ?_) fun hf => ?_))
  rotate_left
  · have hf : okB (vS ss) = false := hf
    rw [hok] at hf; cases hf
  cases e
  have k04 := k03.trans k4
  refine ss_asgW (w_call (ev_glob (F.fn rfl).1) (F.fn rfl).2 (evl_cons (ev_loc rfl) evl_nil) (C.wr (P k04) hs (fun s2 e _ H5 k5 => ?_) fun hf => ?_))
  rotate_left
  · have hf : okB (vS ss) = false := hf
    rw [hok] at hf; cases hf
  have e : s2 = ss := by
    have e : vS ss = vS s2 := by injection e
    exact ((List.map_inj_right (fun a b h => by injection h)).1 e).symm
  subst e
  have k05 := k04.trans k5
  refine ss_ifW (w_bopW (wb_cons (w_notN (w_call (ev_glob (F.fn rfl).1) (F.fn rfl).2 (evl_cons (ev_loc (v := .ref sl) rfl) (evl_cons (ev_loc rfl) evl_nil)) (C.nms (k5.list hsl) (k05.list hn) (Nat.le_trans hz8 (by decide)) fun H6 k6 => nv_t (bo_go (k := false) (wb_go (ev_not (ev_isi (ev_loc (v := .str (wrt s2) 0) rfl) rfl) rfl) (wb_one ?_))))))))
  have k06 := k05.trans k6
  refine w_ev (v := .bool false) (ev_nes (p := wrt s2) (t := 0) (ev_loc rfl) (ev_cat ev_str (ev_join ev_str (ev_loc rfl) (k06.list hn) (strs_vs s2) (join_small (p := "/") (fun x hx => Nat.le_trans (h8 x hx) (by decide)) (by decide +kernel) (Nat.le_trans hz8 (by decide)))) ?_) ?_) (tv_f (ss_sq ?_))
  · rw [join_eq]
    exact Nat.le_trans (Nat.add_le_add_left (join_len "/" 8 s2 h8) 1) (Nat.le_trans (Nat.add_le_add_left (Nat.mul_le_mul_right _ hz8) 1) (by decide))
  · rw [join_eq]
    show (!decide (wrt s2 = wrt s2)) = false
    rw [decide_eq_true rfl]; rfl
  refine ss_exprW (w_appendW (a := sl) (ev_loc rfl) (k6.list (k5.list hsl)) (w_ev ev_str (app_at (k6.list (k5.list hsl)) (by rw [List.length_map]; exact Nat.le_trans hz8 (by decide)) ?_)))
  have k07 := k06.fresh (Kp.none0 k03 hs0) (.list (vS s2 ++ [.str (Str.ofString "more") 0]))
  show wpSs G false _ _ (H6.upd sl (.list (vS s2 ++ [.str (Str.ofString "more") 0]))) _ _
  generalize H6.upd sl (.list (vS s2 ++ [.str (Str.ofString "more") 0])) = H7 at k07 ⊢
  have h7 := k07 _ _ hh (.inl hc.1)
  refine ss_retW (w_bopW (wb_go (ev_eq (ev_len (ev_loc rfl) h7 hc.2.1) (ev_len (ev_loc rfl) (k07.list hn) rfl) (decide_eq_true rfl)) (wb_one (w_callW (ev_glob (F.fn rfl).1) (F.fn rfl).2 (wl_cons (w_blist (ev_loc rfl) h7 hc.2.2 (by rw [List.length_map]; exact Nat.le_trans hz8 (by decide)) fun d hdn => wl_cons (w_ev (ev_loc rfl) (wl_nil ?_))))))))
  have k8 := kp_new (M := []) hdn (.list (vS s2))
  exact C.nms (Hp.upd_same _ _ _) ((k07.trans k8).list hn) (Nat.le_trans hz8 (by decide)) fun H9 k9 => q _ ((k07.trans k8).trans k9)
end
end Mine.L1
end

section
open PySem PyProof.Rows
namespace Mine.L1
open Mine Mine.St
section
variable {A : Ad} {G : Gx} {H H' : Hp} {Q : QV} {X : XV} {l : Loc} {hm : Bool} {x y z : Ex} {xs : List Value} {ss : List Str}
/-! ### a text's parts -/
noncomputable def headOf (p : Str) : Str := ⟨(pySlice p.cps.toList none (some 1)).toArray⟩
noncomputable def tailOf (p : Str) : Str := ⟨(pySlice p.cps.toList (some 1) none).toArray⟩
noncomputable def parts (p : Str) : List Str := Txt.split (tailOf p) "/"
theorem slice_le {α : Type} (xs : List α) (p q : Option Int) : (pySlice xs p q).length ≤ xs.length := by
  unfold pySlice
  rw [List.length_drop]
  exact Nat.le_trans (Nat.sub_le ..) (Nat.le_trans (Nat.le_of_eq (List.length_take ..)) (Nat.min_le_right ..))
theorem tail_le (p : Str) : (tailOf p).length ≤ p.length := by
  show ((pySlice p.cps.toList (some 1) none).toArray).size ≤ p.cps.size
  rw [List.size_toArray]
  exact slice_le _ _ _
theorem between_le (p y : Str) : (Builtin.Str.partsBetween p (Builtin.Str.occurrences p y 0 p.length (p.length + 1)) y.length).length ≤ p.length + 2 := by
  rw [length_partsBetween]
  exact Nat.succ_le_succ (StrLaws.occ_length_le ..)
theorem split_le (p y : Str) : (Txt.split p y).length ≤ p.length + 2 := by
  unfold Txt.split
  split
  · exact Nat.le_add_left 1 (p.length + 1)
  · split
    · exact Nat.le_add_left 1 (p.length + 1)
    · exact between_le p y
theorem split_part (p y : Str) : ∀ x ∈ Txt.split p y, x.length ≤ p.length := by
  unfold Txt.split
  split
  · intro x hx; rw [List.mem_singleton.1 hx]; exact Nat.le_refl _
  · split
    · intro x hx; rw [List.mem_singleton.1 hx]; exact Nat.le_refl _
    · intro x hx
      unfold Builtin.Str.partsBetween at hx
      obtain ⟨⟨i, j⟩, _, rfl⟩ := List.mem_map.1 hx
      show (p.cps.extract i j).size ≤ p.cps.size
      rw [Array.size_extract]
      exact Nat.le_trans (Nat.sub_le ..) (Nat.min_le_right ..)
/-- what a line is to be read as -/
noncomputable def dueL (p : Str) : Option (List Str) := if p = "/" then some [] else if headOf p = "/" then (if okB (vS (parts p)) = true then some (parts p) else none) else none
theorem head_slash : headOf "/" = "/" := by decide +kernel
theorem parts_th {p : Str} (hp : p.length ≤ 1000) : (vS (parts p)).length ≤ 2000 ∧ ∀ v ∈ vS (parts p), Thing H v := by
  refine ⟨?_, fun v hv => ?_⟩
  · rw [List.length_map]
    exact Nat.le_trans (split_le _ _) (Nat.le_trans (Nat.add_le_add_right (Nat.le_trans (tail_le p) hp) 2) (by decide))
  · obtain ⟨x, hx, rfl⟩ := List.mem_map.1 hv
    exact .str x (Nat.le_trans (split_part _ _ x hx) (Nat.le_trans (tail_le p) hp))
theorem w_split {p : Str} (hx : Ev G hm x l H (.str p 0)) (hp : p.length ≤ 1000) (q : ∀ c, H c = none → Q (.ref c) (H.upd c (.list (vS (parts p))))) : wpE G hm (.bm .split (.slice x (some (.int 1)) none) [.str "/"]) l H Q X := by
  have hp' : p.length ≤ sizeLine := Nat.le_trans hp (by decide)
  have ht := tail_le p
  have hs := split_le (tailOf p) "/"
  have hb := between_le (tailOf p) "/"
  exact (ev_from hx (ev_int (i := 1)) hp').run (fun v H1 => bmOn .split v H1 fun b => wpEs G hm [.str "/"] l H1 (fun vs H2 => bmV b .split v vs H2 Q) X) X ⟨.inr rfl, (by decide +kernel), Nat.le_trans ht hp', Nat.le_trans hs (Nat.le_trans (Nat.add_le_add_right (Nat.le_trans ht hp) 2) (by decide)), Nat.le_trans hb (Nat.le_trans (Nat.add_le_add_right (Nat.le_trans ht hp) 2) (by decide)), q⟩
noncomputable def C_rd (G : Gx) (A : Ad) : Prop := ∀ ⦃H : Hp⦄ ⦃p : Str⦄, p.length ≤ 1000 → ∀ ⦃Q : QV⦄ ⦃X : XV⦄, (∀ ss, dueL p = some ss → ∀ b H', Kp [] H H' → H' b = some (.list (vS ss)) → Q (.ref b) H') → (dueL p = none → ∀ H', Kp [] H H' → X (A "BadPath" "") H') → G.fn (A "read" "") false [.str p 0] H Q X
theorem rd_ok (F : E1 G A) (C : C_chk G A) {p : Str} (hp : p.length ≤ 1000) (q : ∀ ss, dueL p = some ss → ∀ b H', Kp [] H H' → H' b = some (.list (vS ss)) → Q (.ref b) H') (qX : dueL p = none → ∀ H', Kp [] H H' → X (A "BadPath" "") H') : wpF G false ["line"] b_read [.str p 0] H Q X := by
  have hp' : p.length ≤ sizeLine := Nat.le_trans hp (by decide)
  refine f_in rfl ?_
  refine ss_if (b := !decide (headOf p = "/")) (ev_go (ev_not (ev_isi (ev_loc rfl) rfl) rfl) (ev_one (ev_nes (p := headOf p) (t := 0) (ev_to (ev_loc rfl) ev_int hp') ev_str rfl))) (fun hb => ?_) fun hb => ss_sq ?_
  · have hne := of_decide_eq_false (not_t hb)
    refine ss_raise rfl F.bad.1 F.bad.2 (qX ?_ _ (Kp.refl _ _))
    unfold dueL
    rw [if_neg (fun e => hne (by rw [e]; exact head_slash)), if_neg hne]
  · have he := of_decide_eq_true (not_f hb)
    refine ss_if (ev_eqs (ev_loc rfl) ev_str rfl) (fun hb => ?_) fun hb => ss_sq ?_
    · have e := of_decide_eq_true hb
      exact ss_retW (w_list evl_nil (Nat.zero_le _) fun b hbn => q [] (by unfold dueL; rw [if_pos e]) b _ (kp_new hbn _) (Hp.upd_same _ _ _))
    · have hne := of_decide_eq_false hb
      have hd : dueL p = if okB (vS (parts p)) = true then some (parts p) else none := by unfold dueL; rw [if_neg hne, if_pos he]
      refine ss_retW (w_callW (ev_glob (F.fn rfl).1) (F.fn rfl).2 (wl_cons (w_split (ev_loc rfl) hp fun c hc => wl_nil ?_)))
      have k1 := kp_new (M := []) hc (.list (vS (parts p)))
      have pt := parts_th (H := H.upd c (.list (vS (parts p)))) hp
      refine C (.seq (Hp.upd_same _ _ _) (.inl rfl) pt.1 pt.2) (fun ys e hok b H' k' hb' _ => ?_) fun ho H' k' => ?_
      · cases e
        exact q (parts p) (by rw [hd, if_pos hok]) b H' (k1.trans k') hb'
      · have ho : okB (vS (parts p)) = false := ho
        exact qX (by rw [hd, if_neg (by rw [ho]; exact nofun)]) H' (k1.trans k')
theorem ends_rd (C : C_rd G A) {p : Str} (hp : p.length ≤ 1000) : Ends G A (A "read" "") (.str p 0) H (dueL p).isNone := fun Q X q qX =>
  C hp (fun ss e b H' k' _ => q (by rw [e]; rfl) _ H' k') fun e H' k' => qX (by rw [e]; rfl) H' k'
/-- what is no text is refused -/
theorem rdn_ok (F : E1 G A) {w : Value} (h : Thing H w) (hs : isS w = false) (qX : ∀ H', Kp [] H H' → X (A "BadPath" "") H') : wpF G false ["line"] b_read [w] H Q X :=
  f_in rfl (ss_ift (ev_stop (k := false) (ev_not (ev_isS h (ev_loc rfl)) (by rw [hs]))) (ss_raise rfl F.bad.1 F.bad.2 (qX _ (Kp.refl _ _))))
noncomputable def C_td (G : Gx) (A : Ad) : Prop := ∀ ⦃H : Hp⦄ ⦃p : Str⦄, p.length ≤ 1000 → ∀ ⦃Q : QV⦄ ⦃X : XV⦄, (∀ ss, dueL p = some ss → ∀ b H', Kp [] H H' → H' b = some (.list (vS ss)) → Q (.ref b) H') → (dueL p = none → ∀ H', Kp [] H H' → Q .none H') → G.fn (A "_law_text_due" "") false [.str p 0] H Q X
end
end Mine.L1
end

section
open PySem PyProof.Rows
namespace Mine.L1
open Mine Mine.St
section
variable {A : Ad} {G : Gx} {H H' : Hp} {Q : QV} {X : XV} {l : Loc} {hm : Bool} {x y z : Ex} {xs : List Value} {ss : List Str}
theorem td_ok (F : E1 G A) (N : C_isn G A "_law_is_name") {p : Str} (hp : p.length ≤ 1000) (q : ∀ ss, dueL p = some ss → ∀ b H', Kp [] H H' → H' b = some (.list (vS ss)) → Q (.ref b) H') (q0 : dueL p = none → ∀ H', Kp [] H H' → Q .none H') : wpF G false ["_law_line_here"] b__law_text_due [.str p 0] H Q X := by
  have hp' : p.length ≤ sizeLine := Nat.le_trans hp (by decide)
  refine f_in rfl ?_
  refine ss_if (ev_eqs (ev_loc rfl) ev_str rfl) (fun hb => ?_) fun hb => ss_sq ?_
  · have e := of_decide_eq_true hb
    exact ss_retW (w_list evl_nil (Nat.zero_le _) fun b hbn => q [] (by unfold dueL; rw [if_pos e]) b _ (kp_new hbn _) (Hp.upd_same _ _ _))
  have hne := of_decide_eq_false hb
  refine ss_if (b := !decide (headOf p = "/")) (ev_nes (p := headOf p) (t := 0) (ev_to (ev_loc rfl) ev_int hp') ev_str rfl) (fun hb => ?_) fun hb => ss_sq ?_
  · have hn := of_decide_eq_false (not_t hb)
    exact ss_ret ev_none (q0 (by unfold dueL; rw [if_neg hne, if_neg hn]) _ (Kp.refl _ _))
  have he := of_decide_eq_true (not_f hb)
  have hd : dueL p = if okB (vS (parts p)) = true then some (parts p) else none := by unfold dueL; rw [if_neg hne, if_pos he]
  refine ss_asgW (w_split (ev_loc rfl) hp fun c hc => ?_)
  have k1 := kp_new (M := []) hc (.list (vS (parts p)))
  have e1 := Hp.upd_same H c (.list (vS (parts p)))
  have pt := parts_th (H := H.upd c (.list (vS (parts p)))) hp
  generalize H.upd c (.list (vS (parts p))) = H1 at k1 e1 pt ⊢
  have no : okB (vS (parts p)) = false → ∀ H', Kp [] H H' → Q .none H' := fun ho H' k' => q0 (by rw [hd, if_neg (by rw [ho]; exact nofun)]) H' k'
  cases h8 : decide (8 < ((vS (parts p)).length : Int)) with
  | true => exact ss_ift (ev_stop (k := false) (ev_gt (ev_len (ev_loc rfl) e1 rfl) ev_int h8)) (ss_ret ev_none (no (by unfold okB; rw [h8]; rfl) _ k1))
  | false =>
  refine ss_ifW (w_bopW (wb_go (ev_gt (ev_len (ev_loc rfl) e1 rfl) ev_int h8) (wb_one (w_notN (w_allNm N (F.fn rfl) (ev_loc rfl) e1 rfl rfl pt.1 pt.2 fun H2 k2 => ?_)))))
  cases hal : (vS (parts p)).all nmB with
  | false => exact nv_f (tv_t (ss_ret ev_none (no (by unfold okB; rw [hal, Bool.and_false]) _ (k1.trans k2))))
  | true => exact nv_t (tv_f (ss_sq (ss_ret (ev_loc rfl) (q (parts p) (by rw [hd, if_pos (by unfold okB; rw [h8, hal]; rfl)]) c _ (k1.trans k2) (k2.list e1)))))
/-! ### the script's cells -/
noncomputable abbrev vI (w : List Int) : List Value := w.map fun n => Value.int n 0
theorem at_ns {ns : List Int} {j : Nat} (h : j < ns.length) : at? (vI ns) ((j : Nat) : Int) = some (.int (ns.getD j 0) 0) := by
  rw [at_nat, List.getElem?_map, List.getD_eq_getElem?_getD, List.getElem?_eq_getElem h]; rfl
noncomputable def C_cell (G : Gx) (A : Ad) : Prop := ∀ ⦃H : Hp⦄ ⦃a : Addr⦄ ⦃ns : List Int⦄, H a = some (.rlist (vI ns)) → ∀ ⦃k : Nat⦄ ⦃t : Tok⦄ ⦃Q : QV⦄ ⦃X : XV⦄, Q (.int (ns.getD k 0) 0) H → G.fn (A "_law_cell_at" "") false [.ref a, .int (k : Int) t] H Q X
theorem cell_ok {a : Addr} {ns : List Int} (ha : H a = some (.rlist (vI ns))) {k : Nat} {t : Tok} (q : Q (.int (ns.getD k 0) 0) H) : wpF G false ["_law_script", "_law_k"] b__law_cell_at [.ref a, .int (k : Int) t] H Q X := by
  refine f_in rfl ?_
  refine ss_if (b := decide ((k : Int) < (vI ns).length)) (ev_lt (ev_loc rfl) (ev_len (ev_loc rfl) ha rfl) rfl) (fun hb => ?_) fun hb => ss_sq ?_
  · have hk : k < ns.length := by have := of_decide_eq_true hb; rw [List.length_map] at this; exact Int.ofNat_lt.1 this
    exact ss_ret (ev_at (ev_loc rfl) (ev_loc rfl) ha rfl (at_ns hk)) q
  · have hk : ns.length ≤ k := by have := of_decide_eq_false hb; rw [List.length_map] at this; exact Int.ofNat_le.1 (Int.not_lt.1 this)
    rw [List.getD_eq_getElem?_getD, List.getElem?_eq_none hk] at q
    exact ss_ret ev_int q
theorem ev_cell (F : E1 G A) (C : C_cell G A) {a : Addr} {ns : List Int} (ha : H a = some (.rlist (vI ns))) {k : Nat} {t : Tok} (hx : Ev G false x l H (.ref a)) (he : Ev G false y l H (.int (k : Int) t)) : Ev G false (.call (.glob "_law_cell_at") [x, y]) l H (.int (ns.getD k 0) 0) :=
  .mk fun _ _ q => w_call (ev_glob (F.fn rfl).1) (F.fn rfl).2 (evl_cons hx (evl_cons he evl_nil)) (C ha q)
/-! ### signs -/
noncomputable def sg1 : Str := " !\"#$&'()*+,-./0123456789:;<=>?@ABCDEFGHIJKLMNOPQRSTUVWXYZ[\\]^_`"
noncomputable def sg2 : Str := "abcdefghijklmnopqrstuvwxyz{|}~\n\t"
theorem sg_len : ((sg1 ++ sg2).cps.toList.length : Int) = 96 := by decide +kernel
theorem sg_ok : ∀ c ∈ (sg1 ++ sg2).cps.toList, c < 1114112 := by decide +kernel
theorem sg_fit : sg1.length + sg2.length ≤ sizeLine := by decide +kernel
theorem sg_fit2 : (sg1 ++ sg2).length ≤ sizeLine := by decide +kernel
theorem ok_chr {c : Nat} (h : c < 1114112) : PyData.strOk (chr1 c) = true := by
  unfold PyData.strOk
  rw [← Array.all_toList, List.all_eq_true]
  intro d hd
  rw [List.mem_singleton.1 hd]
  exact decide_eq_true h
noncomputable def C_sg (G : Gx) (A : Ad) : Prop := ∀ ⦃H : Hp⦄ ⦃c : Int⦄ ⦃t : Tok⦄ ⦃Q : QV⦄ ⦃X : XV⦄, (∀ d, d < 1114112 → Q (.str (chr1 d) 0) H) → G.fn (A "_law_sign_by" "") false [.int c t] H Q X
theorem sg_by {c : Int} {t : Tok} (q : ∀ d, d < 1114112 → Q (.str (chr1 d) 0) H) : wpF G false ["_law_cell"] b__law_sign_by [.int c t] H Q X := by
  have m := Lw.mod_lt c (b := 96) (by decide)
  obtain ⟨d, hd, hm⟩ := Lw.at_lt (xs := (sg1 ++ sg2).cps.toList) m.1 (by rw [sg_len]; exact m.2)
  refine f_in rfl (ss_asg (v := .str sg1 0) ev_str (ss_asg (ev_cat (r := sg2) (ev_loc rfl) ev_str sg_fit) (ss_ret (ev_chr (ev_loc rfl) (ev_mod (ev_loc rfl) ev_int (by decide)) hd sg_fit2) (q d (sg_ok d hm)))))
end
end Mine.L1
end

section
open PySem PyProof.Rows
namespace Mine.L1
open Mine Mine.St
section
variable {A : Ad} {G : Gx} {H H' : Hp} {Q : QV} {X : XV} {l : Loc} {hm : Bool} {x y z : Ex} {xs : List Value} {ss : List Str}
/-! ### names -/
noncomputable def letN (c : Int) (n : Nat) : List Nat := (List.range n).map fun (j : Nat) => 97 + ((c / 9 + (j : Int) * (1 + c / 234 % 25)) % 26).toNat
theorem letN_len (c : Int) (n : Nat) : (letN c n).length = n := by unfold letN; rw [List.length_map, List.length_range]
noncomputable def letW (c : Int) : Value → Value
  | .int i _ => .str (chr1 (97 + ((c / 9 + i * (1 + c / 234 % 25)) % 26).toNat)) 0
  | v => v
theorem letN_map (c : Int) (n : Nat) : (((List.range n).map fun (i : Nat) => Value.int (i : Int) 0).filter fun _ => true).map (letW c) = ((letN c n).map chr1).map fun x => Value.str x 0 := by
  unfold letN
  rw [List.filter_eq_self.2 fun _ _ => rfl, List.map_map, List.map_map, List.map_map]; rfl
/-- a name that the law makes -/
structure Nm (z : Str) : Prop where
  len : z.length ≤ 12
  ok : PyData.strOk z = true
noncomputable def C_nb (G : Gx) (A : Ad) : Prop := ∀ ⦃H : Hp⦄ ⦃c : Int⦄ ⦃t : Tok⦄ ⦃Q : QV⦄ ⦃X : XV⦄, (∀ z, Nm z → ∀ H', Kp [] H H' → Q (.str z 0) H') → G.fn (A "_law_name_by" "") false [.int c t] H Q X
theorem letN_nm (c : Int) {n : Nat} (h : n ≤ 9) : Nm (Txt.join "" ((letN c n).map chr1)) := by
  refine ⟨?_, ?_⟩
  · show (Txt.join "" ((letN c n).map chr1)).cps.toList.length ≤ 12
    rw [Lw.tjoin, letN_len]; exact Nat.le_trans h (by decide)
  · unfold PyData.strOk
    rw [← Array.all_toList, Lw.tjoin, List.all_eq_true]
    intro d hd
    obtain ⟨j, _, rfl⟩ := List.mem_map.1 hd
    exact decide_eq_true (Nat.lt_of_le_of_lt (Lw.let_good _).2 (by decide))
theorem nb_ok {c : Int} {t : Tok} (q : ∀ z, Nm z → ∀ H', Kp [] H H' → Q (.str z 0) H') : wpF G false ["_law_cell"] b__law_name_by [.int c t] H Q X := by
  have m9 := Lw.mod_lt c (b := 9) (by decide)
  obtain ⟨n, hn⟩ := Int.eq_ofNat_of_zero_le (Int.add_nonneg (by decide : (0 : Int) ≤ 1) m9.1)
  have hn : 1 + c % 9 = (n : Int) := hn
  have n9 : n ≤ 9 := Int.ofNat_le.1 (hn ▸ Int.add_le_add_left (Int.le_sub_one_of_lt m9.2) 1)
  have n100 : n ≤ 100 := Nat.le_trans n9 (by decide)
  refine f_in rfl (ss_asg ev_str ?_)
  refine ss_retW (w_joinW ev_str (w_compr (fun _ => true) (letW c) (k := n) (t := 0) (ev_cast (ev_add ev_int (ev_mod (ev_loc rfl) ev_int (by decide))) (by rw [hn])) (Lw.line100 n100) (fun i hi H1 _ => ev_all0) (fun i hi H1 _ _ => ?_) fun r b hr hb hne => ?_))
  · exact ev_chr (ev_loc rfl) (ev_mod (ev_add (ev_div (ev_loc rfl) ev_int (by decide) (by decide)) (ev_mul (ev_loc rfl) (ev_add ev_int (ev_mod (ev_div (ev_loc rfl) ev_int (by decide) (by decide)) ev_int (by decide))) (.inl (Nat.lt_of_lt_of_le hi (Nat.le_trans n100 (by decide)))))) ev_int (by decide)) (Lw.letAt _) (by decide +kernel)
  · rw [letN_map]
    have k1 : Kp [] H (H.upd r (.range 0 n 1)) := kp_new hr _
    have k2 := k1.trans (kp_new (M := []) (c := b) (by rw [Hp.upd_ne _ _ hne]; exact hb) (.list (((letN c n).map chr1).map fun x => Value.str x 0)))
    exact join_at (Hp.upd_same _ _ _) (Lw.strs_chars _) (Lw.join_ok (by rw [letN_len]; exact n100)) (q _ (letN_nm c n9) _ k2)
/-! ### the line -/
/-- a thing of the law's: texts are short -/
structure Sh (H : Hp) (v : Value) : Prop where
  th : Thing H v
  nm : ∀ x t, v = .str x t → Nm x
theorem Sh.kp {v : Value} (h : Sh H v) (k : Kp [] H H') : Sh H' v := ⟨h.th.kp k, h.nm⟩
theorem sh_strs : ∀ {xs : List Value}, (∀ v ∈ xs, Sh H v) → ∃ ss, (xs.filter isS).map (fun v => v) = vS ss ∧ ss.length ≤ xs.length ∧ ∀ x ∈ ss, x.length ≤ 12
  | [], _ => ⟨[], rfl, Nat.le_refl _, fun x h => nomatch h⟩
  | v :: r, h => by
    obtain ⟨ss, e, hz, hs⟩ := sh_strs (xs := r) fun w hw => h w (List.mem_cons_of_mem _ hw)
    have hv := h v (List.mem_cons_self ..)
    cases hi : isS v with
    | false => exact ⟨ss, by rw [List.filter_cons, if_neg (by rw [hi]; exact nofun), e], Nat.le_succ_of_le hz, hs⟩
    | true =>
      cases hv.th with
      | str x hx => exact ⟨x :: ss, by rw [List.filter_cons, if_pos hi, List.map_cons, e]; rfl, Nat.succ_le_succ hz, List.forall_mem_cons.2 ⟨(hv.nm x 0 rfl).len, hs⟩⟩
      | _ => cases hi
noncomputable def C_ln (G : Gx) (A : Ad) : Prop := ∀ ⦃H : Hp⦄ ⦃nl : Addr⦄ ⦃xs : List Value⦄ ⦃c p : Int⦄, H nl = some (.list xs) → xs.length ≤ 20 → (∀ v ∈ xs, Sh H v) → ∀ ⦃Q : QV⦄ ⦃X : XV⦄, (∀ z : Str, z.length ≤ 1000 → ∀ H', Kp [] H H' → Q (.str z 0) H') → G.fn (A "_law_line" "") false [.ref nl, .int c 0, .int p 0] H Q X
theorem cut_le (p : Str) (i j : Option Int) : (Str.mk (pySlice p.cps.toList i j).toArray).length ≤ p.length := by
  show ((pySlice p.cps.toList i j).toArray).size ≤ p.cps.size
  rw [List.size_toArray]
  exact slice_le _ _ _
theorem line_fit {a b : Nat} (ha : a ≤ 400) (hb : b ≤ 500) : a + b ≤ 1000 := Nat.le_trans (Nat.add_le_add ha hb) (by decide)
theorem line_fit2 {a : Nat} (h : a ≤ 1000) : a ≤ sizeLine := Nat.le_trans h (by decide)
theorem ln_ok (F : E1 G A) (C : C_sg G A) {nl : Addr} {c p : Int} (hn : H nl = some (.list xs)) (hz : xs.length ≤ 20) (hs : ∀ v ∈ xs, Sh H v) (q : ∀ z : Str, z.length ≤ 1000 → ∀ H', Kp [] H H' → Q (.str z 0) H') : wpF G false ["_law_names_here", "_law_cell", "_law_place"] b__law_line [.ref nl, .int c 0, .int p 0] H Q X := by
  obtain ⟨ss, es, hl, h12⟩ := sh_strs hs
  have hl := Nat.le_trans hl hz
  refine f_in rfl ?_
  refine ss_asgW (w_binW (w_ev ev_str (w_joinW ev_str (w_comp isS (fun v => v) (ev_loc rfl) hn rfl (Nat.le_trans hz (by decide)) (fun v hv => ev_one (ev_isS (hs v hv).th (ev_loc rfl))) (fun v hv _ => ev_loc rfl) fun b hb => ?_))))
  rw [es]
  have k1 := kp_new (M := []) hb (.list (vS ss))
  have e1 := Hp.upd_same H b (.list (vS ss))
  generalize H.upd b (.list (vS ss)) = H1 at k1 e1 ⊢
  have jl : (Txt.join "/" ss).length ≤ 399 := by
    rw [join_eq]
    exact Nat.le_trans (join_len "/" 12 ss h12) (Nat.le_trans (Nat.mul_le_mul_right _ hl) (by decide))
  refine join_at e1 (strs_vs ss) (join_small (p := "/") (fun x hx => Nat.le_trans (h12 x hx) (by decide)) (by decide +kernel) (Nat.le_trans hl (by decide))) ⟨line_fit2 (Nat.le_trans (Nat.add_le_add_left jl 1) (by decide)), ?_⟩
  have wl : ("/" ++ Txt.join "/" ss).length ≤ 400 := by rw [app_len]; exact Nat.add_le_add_left jl 1
  show wpSs G false _ (_ : Loc) H1 _ _
  generalize "/" ++ Txt.join "/" ss = w at wl ⊢
  have wz : w.length ≤ sizeLine := Nat.le_trans wl (by decide)
  have c4 : ∀ i j, (Str.mk (pySlice w.cps.toList i j).toArray).length ≤ 400 := fun i j => Nat.le_trans (cut_le w i j) wl
  refine ss_asg (ev_mod (ev_loc rfl) (ev_add (ev_lens (ev_loc rfl) wz) ev_int) (Int.lt_add_one_of_le (Int.natCast_nonneg _))) ?_
  refine ss_if (ev_eq (ev_mod (ev_loc rfl) ev_int (by decide)) ev_int rfl) (fun _ => ?_) fun _ => ss_sq ?_
  · refine ss_retW (w_binW (w_binW (w_ev (ev_to (ev_loc rfl) (ev_loc rfl) wz) (w_idxW (w_listW (wl_cons (w_call (ev_glob (F.fn rfl).1) (F.fn rfl).2 (evl_cons (ev_div (ev_loc rfl) ev_int (by decide) (by decide)) evl_nil) (C fun d hd => wl_cons (w_ev ev_str (wl_nil ⟨Nat.le_of_ble_eq_true rfl, fun a ha => ?_⟩))))))))))
    have m := Lw.mod_lt (c / 3) (b := 2) (by decide)
    obtain ⟨v, hv, hm⟩ := Lw.at_lt (xs := [Value.str (chr1 d) 0, .str "/" 0]) m.1 m.2
    have hv1 : ∃ y : Str, v = .str y 0 ∧ y.length ≤ 1 := by
      rcases List.mem_cons.1 hm with e | hm
      · exact ⟨chr1 d, e, Nat.le_refl _⟩
      · exact ⟨"/", List.mem_singleton.1 hm, by decide +kernel⟩
    obtain ⟨y, rfl, hy⟩ := hv1
    have k2 := k1.trans (kp_new (M := []) ha (.list [Value.str (chr1 d) 0, .str "/" 0]))
    have e2 := Hp.upd_same H1 a (.list [Value.str (chr1 d) 0, .str "/" 0])
    show wpE G false _ _ (H1.upd a (.list [Value.str (chr1 d) 0, .str "/" 0])) _ _
    generalize H1.upd a (.list [Value.str (chr1 d) 0, .str "/" 0]) = H2 at k2 e2 ⊢
    refine w_ev (ev_mod (ev_div (ev_loc rfl) ev_int (by decide) (by decide)) ev_int (by decide)) (idx_at e2 rfl hv ⟨line_fit2 (line_fit (c4 ..) (Nat.le_trans hy (by decide))), w_ev (ev_from (ev_loc rfl) (ev_loc rfl) wz) ?_⟩)
    have h3 : ∀ u : Str, u.length ≤ 400 → ∀ i j, (u ++ y).length + (Str.mk (pySlice w.cps.toList i j).toArray).length ≤ 1000 := fun u hu i j => by
      rw [app_len]
      exact Nat.le_trans (Nat.add_le_add (Nat.add_le_add hu hy) (c4 i j)) (by decide)
    exact ⟨line_fit2 (h3 _ (c4 ..) _ _), q _ (by rw [app_len]; exact h3 _ (c4 ..) _ _) _ k2⟩
  refine ss_if (ev_eq (ev_mod (ev_loc rfl) ev_int (by decide)) ev_int rfl) (fun _ => ?_) fun _ => ss_sq ?_
  · exact ss_ret (ev_cat (ev_to (ev_loc rfl) (ev_loc rfl) wz) (ev_from (ev_loc rfl) (ev_add (ev_loc rfl) ev_int) wz) (line_fit2 (line_fit (c4 ..) (Nat.le_trans (c4 ..) (by decide))))) (q _ (by rw [app_len]; exact line_fit (c4 ..) (Nat.le_trans (c4 ..) (by decide))) _ k1)
  · exact ss_ret (ev_loc rfl) (q _ (Nat.le_trans wl (by decide)) _ k1)
end
end Mine.L1
end

section
open PySem PyProof.Rows
namespace Mine.L1
open Mine Mine.St
section
variable {A : Ad} {G : Gx} {H H' : Hp} {Q : QV} {X : XV} {l : Loc} {hm : Bool} {x y z : Ex} {xs : List Value} {ss : List Str}
/-! ### the odd things -/
theorem w_dict1 {k : Str} {b : Bool} (q : ∀ c, H c = none → Q (.ref c) (H.upd c (.sdict [(k, .bool b)]))) : wpE G hm (.dict [.str k] [.bool b]) l H Q X := Or.inr ⟨[k], rfl, List.nodup_cons.2 ⟨nofun, List.nodup_nil⟩, rfl, Nat.le_of_ble_eq_true rfl, nofun, q⟩
theorem sh_str {z : Str} (h : Nm z) : Sh H (.str z 0) := ⟨.str z (Nat.le_trans h.len (by decide)), fun x t e => by injection e with e; exact e ▸ h⟩
theorem sh_no {v : Value} (h : Thing H v) (hs : isS v = false) : Sh H v := ⟨h, fun x t e => by subst e; cases hs⟩
noncomputable abbrev ShL (H : Hp) (xs : List Value) : Prop := ∀ v ∈ xs, Sh H v
theorem sl_nil : ShL H [] := fun _ h => nomatch h
theorem sl_cons {v : Value} {r : List Value} (h : Sh H v) (hr : ShL H r) : ShL H (v :: r) := List.forall_mem_cons.2 ⟨h, hr⟩
theorem sl_kp (h : ShL H xs) (k : Kp [] H H') : ShL H' xs := fun v hv => (h v hv).kp k
theorem sl_app {r : List Value} (h : ShL H xs) (hr : ShL H r) : ShL H (xs ++ r) := fun v hv => (List.mem_append.1 hv).elim (h v) (hr v)
theorem sl_strs (h : ∀ x ∈ ss, Nm x) : ShL H (vS ss) := fun v hv => by
  obtain ⟨y, hy, rfl⟩ := List.mem_map.1 hv
  exact sh_str (h y hy)
/-- a list of such things -/
structure Odd (H : Hp) (o : Addr) (n : Nat) (xs : List Value) : Prop where
  here : H o = some (.list xs)
  len : xs.length = n
  sh : ShL H xs
theorem Odd.kp {o : Addr} {n : Nat} (h : Odd H o n xs) (k : Kp [] H H') : Odd H' o n xs := ⟨k.list h.here, h.len, sl_kp h.sh k⟩
theorem th_new (H : Hp) (a : Addr) {o : AObj} (h : chg o = false) (i : isiObj .str o = some false) : Thing (H.upd a o) (.ref a) := .ref (Hp.upd_same ..) h i
theorem w_odd (q : ∀ o xs H', Kp [] H H' → Odd H' o 9 xs → Q (.ref o) H') : wpE G false (.list [.str "", .str "A", .str "abcdefghi", .int 7, .none, .bool true, .list [.str "a"], .tup [.str "a", .str "b"], .dict [.str "a"] [.bool true]]) l H Q X := by
  refine w_listW (wl_cons (w_ev ev_str (wl_cons (w_ev ev_str (wl_cons (w_ev ev_str (wl_cons (w_ev ev_int (wl_cons (w_ev ev_none (wl_cons (w_ev ev_bool (wl_cons (w_list (evl_cons ev_str evl_nil) (Nat.le_of_ble_eq_true rfl) fun a ha => wl_cons (w_tup (evl_cons ev_str (evl_cons ev_str evl_nil)) (Nat.le_of_ble_eq_true rfl) fun t ht => wl_cons (w_dict1 fun d hd => wl_nil ⟨Nat.le_of_ble_eq_true rfl, fun o ho => ?_⟩))))))))))))))))
  have k1 := kp_new (M := []) ha (.list [.str "a" 0])
  have t1 := th_new H a (o := .list [.str "a" 0]) rfl rfl
  generalize H.upd a (.list [.str "a" 0]) = H1 at ht hd ho k1 t1 ⊢
  have k2 := kp_new (M := []) ht (.tup [.str "a" 0, .str "b" 0])
  have t2 := th_new H1 t (o := .tup [.str "a" 0, .str "b" 0]) rfl rfl
  generalize H1.upd t (.tup [.str "a" 0, .str "b" 0]) = H2 at hd ho k2 t2 ⊢
  have k3 := kp_new (M := []) hd (.sdict [("a", .bool true)])
  have t3 : Thing (H2.upd d (.sdict [("a", .bool true)])) (.ref d) := .dict (Hp.upd_same ..)
  generalize H2.upd d (.sdict [("a", .bool true)]) = H3 at ho k3 t3 ⊢
  have k4 := kp_new (M := []) ho (.list [.str "" 0, .str "A" 0, .str "abcdefghi" 0, .int 7 0, .none, .bool true, .ref a, .ref t, .ref d])
  have k34 := k3.trans k4
  have k24 := k2.trans k34
  exact q o _ _ (k1.trans k24) ⟨Hp.upd_same .., rfl, sl_cons (sh_str ⟨by decide +kernel, by decide +kernel⟩) (sl_cons (sh_str ⟨by decide +kernel, by decide +kernel⟩) (sl_cons (sh_str ⟨by decide +kernel, by decide +kernel⟩) (sl_cons (sh_no (.int 7) rfl) (sl_cons (sh_no .none rfl) (sl_cons (sh_no (.bool true) rfl) (sl_cons (sh_no (t1.kp k24) rfl) (sl_cons (sh_no (t2.kp k34) rfl) (sl_cons (sh_no (t3.kp k4) rfl) sl_nil))))))))⟩
theorem ok_app {a b : Str} (ha : PyData.strOk a = true) (hb : PyData.strOk b = true) : PyData.strOk (a ++ b) = true := by
  unfold PyData.strOk at *
  rw [← Array.all_toList, Lw.app_cps, List.all_append, Array.all_toList, Array.all_toList, ha, hb]; rfl
theorem nm_app {a b : Str} (ha : PyData.strOk a = true) (hb : PyData.strOk b = true) (h : a.length + b.length ≤ 12) : Nm (a ++ b) := ⟨by rw [app_len]; exact h, ok_app ha hb⟩
theorem w_odd2 {o : Addr} {d : Nat} (hd : d < 1114112) (O : Odd H o 9 xs) (ho : Ev G false x l H (.ref o)) (hs : Ev G false y l H (.str (chr1 d) 0)) (q : ∀ o xs H', Kp [] H H' → Odd H' o 13 xs → Q (.ref o) H') :
    wpE G false (.bin .Add x (.list [y, .bin .Add (.str "a") y, .bin .Add y (.str "b"), .bin .Add (.bin .Add (.str "abc") y) (.str "d")])) l H Q X := by
  have hc := ok_chr hd
  refine w_binW (w_ev ho (w_list (evl_cons hs (evl_cons (ev_cat ev_str hs (Nat.le_of_ble_eq_true rfl)) (evl_cons (ev_cat hs ev_str (Nat.le_of_ble_eq_true rfl)) (evl_cons (ev_cat (ev_cat ev_str hs (Nat.le_of_ble_eq_true rfl)) ev_str (Nat.le_of_ble_eq_true rfl)) evl_nil)))) (Nat.le_of_ble_eq_true rfl) fun b hb => ?_))
  have k1 := kp_new (M := []) hb (.list [.str (chr1 d) 0, .str ("a" ++ chr1 d) 0, .str (chr1 d ++ "b") 0, .str ("abc" ++ chr1 d ++ "d") 0])
  refine addl_at (k1.list O.here) (Hp.upd_same _ _ _) ?_ fun c hcn => ?_
  · rw [O.len]; exact Nat.le_of_ble_eq_true rfl
  · have k2 := kp_new (M := []) hcn (.list (xs ++ [.str (chr1 d) 0, .str ("a" ++ chr1 d) 0, .str (chr1 d ++ "b") 0, .str ("abc" ++ chr1 d ++ "d") 0]))
    refine q c _ _ (k1.trans k2) ⟨Hp.upd_same _ _ _, by rw [List.length_append, O.len]; rfl, sl_app (sl_kp O.sh (k1.trans k2)) (sl_cons (sh_str ⟨Nat.le_of_ble_eq_true rfl, hc⟩) (sl_cons (sh_str (nm_app (by decide +kernel) hc (Nat.le_of_ble_eq_true rfl))) (sl_cons (sh_str (nm_app hc (by decide +kernel) (Nat.le_of_ble_eq_true rfl))) (sl_cons (sh_str (nm_app (ok_app (by decide +kernel) hc) (by decide +kernel) (Nat.le_of_ble_eq_true rfl))) sl_nil))))⟩
theorem Odd.at {o : Addr} {n : Nat} (h : Odd H o n xs) (c : Int) (hn : 0 < n) : ∃ v, at? xs (c % (n : Int)) = some v ∧ Sh H v := by
  have m := Lw.mod_lt c (b := (n : Int)) (Int.ofNat_lt.2 hn)
  obtain ⟨v, hv, hm⟩ := Lw.at_lt (xs := xs) m.1 (by rw [h.len]; exact m.2)
  exact ⟨v, hv, h.sh v hm⟩
/-! ### the names -/
theorem w_names (F : E1 G A) (C : C_cell G A) (N : C_nb G A) {a : Addr} {ns : List Int} (ha : H a = some (.rlist (vI ns))) (hl : l "_law_script" = some (.ref a)) (q : ∀ nl ss H', Kp [] H H' → H nl = none → H' nl = some (.list (vS ss)) → ss.length ≤ 10 → (∀ x ∈ ss, Nm x) → Q (.ref nl) H') :
    wpE G false (.comp (.call (.glob "_law_name_by") [.call (.glob "_law_cell_at") [.loc "_law_script", .bin .Add (.int 3) (.loc "_law_k")]]) "_law_k" (.bf .range [.bin .Mod (.call (.glob "_law_cell_at") [.loc "_law_script", .int 0]) (.int 11)]) []) l H Q X := by
  have m := Lw.mod_lt (ns.getD 0 0) (b := 11) (by decide)
  obtain ⟨n, hn⟩ := Int.eq_ofNat_of_zero_le m.1
  have hn : ns.getD 0 0 % 11 = (n : Int) := hn
  have n10 : n ≤ 10 := Int.ofNat_le.1 (Int.le_of_lt_add_one (hn ▸ m.2))
  refine w_compRI (k := n) (t := 0) (fun i acc H' => Kp [] H H' ∧ ∃ ss, acc = vS ss ∧ ss.length = i ∧ ∀ x ∈ ss, Nm x) (ev_cast (ev_mod (ev_cell F C ha (ev_loc hl) (ev_int (i := 0)) (k := 0)) ev_int (by decide)) (by rw [hn])) (Nat.le_trans n10 (by decide)) ?_ (fun d hd => ⟨kp_new hd _, [], rfl, rfl, fun _ h => nomatch h⟩) ?_
  · rintro i hi acc H' ⟨k, ss, rfl, hz, hm⟩ K hK
    have hl' : ca l "_law_k" (.int (i : Int) 0) "_law_script" = some (.ref a) := hl
    refine w_call (ev_glob (F.fn rfl).1) (F.fn rfl).2 (evl_cons (ev_cell F C (k.rlist ha) (ev_loc hl') (k := 3 + i) (ev_cast (ev_add ev_int (ev_loc (v := .int (i : Int) 0) rfl)) (by rw [Int.natCast_add]; rfl))) evl_nil) (N fun z hz2 H2 k2 => hK _ _ ⟨k.trans k2, ss ++ [z], (by rw [vS, vS, List.map_append]; rfl), by rw [List.length_append, hz]; rfl, fun y hy => ?_⟩)
    rcases List.mem_append.1 hy with hy | hy
    · exact hm y hy
    · rw [List.mem_singleton.1 hy]; exact hz2
  · rintro acc H' ⟨k, ss, rfl, hz, hm⟩ c hc
    exact q c ss _ (k.fresh (Kp.none0 k hc) _) (Kp.none0 k hc) (Hp.upd_same _ _ _) (by rw [hz]; exact n10) hm
theorem setlist_at {d : Addr} {n : Int} {t : Tok} {v : Value} {k : Hp → Prop} (hd : H d = some (.list xs)) (h0 : 0 ≤ n) (h1 : n < xs.length) (q : k (H.upd d (.list (xs.set n.toNat v)))) : setItemV (.ref d) (.int n t) v H k := by
  conv => whnf
  rw [hd]
  exact ⟨h0, h1, q⟩
theorem ss_put (F : E1 G A) (C : C_cell G A) {a o nl : Addr} {ns : List Int} {w : Int} {os : List Value} {r : List Sm} {Q : QS} {X : XS} {H0 : Hp} (ha : H0 a = some (.rlist (vI ns))) (k : Kp [] H0 H) (hnl : H0 nl = none) (hn : H nl = some (.list (vS ss))) (hz : ss.length ≤ 10) (hm : ∀ x ∈ ss, Nm x) (O : Odd H0 o 13 os)
    (l1 : l "_law_script" = some (.ref a)) (l2 : l "_law_names_here" = some (.ref nl)) (l3 : l "_law_odd" = some (.ref o)) (l4 : l "_law_way" = some (.int w 0)) (q : ∀ xs H', Kp [] H0 H' → H' nl = some (.list xs) → xs.length ≤ 10 → ShL H' xs → wpSs G false r l H' Q X) :
    wpSs G false (.ite (.bop true [.cmp (.bin .Mod (.loc "_law_way") (.int 3)) .Eq (.int 1), .cmp (.loc "_law_names_here") .NotEq (.list [])]) [.asgIdx (.loc "_law_names_here") (.bin .Mod (.call (.glob "_law_cell_at") [.loc "_law_script", .int 1]) (.bf .len [.loc "_law_names_here"])) (.idx (.loc "_law_odd") (.bin .Mod (.bin .FloorDiv (.call (.glob "_law_cell_at") [.loc "_law_script", .int 1]) (.int 11)) (.int 13)))] [] :: r) l H Q X := by
  have no : ∀ H', Kp [] H H' → wpSs G false r l H' Q X := fun H' k' => q (vS ss) H' (k.trans k') (k'.list hn) (by rw [List.length_map]; exact hz) (sl_strs hm)
  cases hw : decide (w % 3 = 1) with
  | false => exact ss_iff0 (ev_stop (k := true) (ev_eq (ev_mod (ev_loc l4) ev_int (by decide)) ev_int hw)) (no H (Kp.refl _ _))
  | true =>
  refine ss_ifW (w_bopW (wb_go (ev_eq (ev_mod (ev_loc l4) ev_int (by decide)) ev_int hw) (wb_one (w_ne_nil (ev_loc l2) hn (fun y hy => (hm y hy).ok) fun H1 k1 => ?_))))
  cases hs : ss.isEmpty with
  | true => exact tv_f (ss_sq (no H1 k1))
  | false =>
    have hpos : 0 < (vS ss).length := by
      rw [List.length_map]
      exact List.length_pos_iff.2 fun e => by rw [e] at hs; cases hs
    have mi := Lw.mod_lt (ns.getD 1 0) (b := ((vS ss).length : Int)) (Int.ofNat_lt.2 hpos)
    have k01 := k.trans k1
    obtain ⟨v, hv, sv⟩ := O.at (ns.getD 1 0 / 11) (by decide)
    refine tv_t (ss_keyW (w_ev (ev_at (ev_loc l3) (ev_mod (ev_div (ev_cell F C (k01.rlist ha) (ev_loc l1) (ev_int (i := 1)) (k := 1)) ev_int (by decide) (by decide)) ev_int (by decide)) (k01.list O.here) rfl hv) (w_ev (ev_loc l2) (w_ev (ev_mod (ev_cell F C (k01.rlist ha) (ev_loc l1) (ev_int (i := 1)) (k := 1)) (ev_len (ev_loc l2) (k1.list hn) rfl) (Int.ofNat_lt.2 hpos)) (setlist_at (k1.list hn) mi.1 mi.2 (ss_sq ?_))))))
    have k2 := k01.fresh hnl (.list ((vS ss).set (ns.getD 1 0 % ((vS ss).length : Int)).toNat v))
    refine q _ _ k2 (Hp.upd_same _ _ _) (by rw [List.length_set, List.length_map]; exact hz) fun u hu => ?_
    rcases List.mem_or_eq_of_mem_set hu with hu | rfl
    · exact sl_strs hm u hu
    · exact sv.kp k2
end
end Mine.L1
end

section
open PySem PyProof.Rows
namespace Mine.L1
open Mine Mine.St
section
variable {A : Ad} {G : Gx} {H H' : Hp} {Q : QV} {X : XV} {l : Loc} {hm : Bool} {x y z : Ex} {xs : List Value} {ss : List Str}
/-- what the law calls -/
structure C2 (G G0 : Gx) (A : Ad) : Prop where
  isn : C_isn G A "is_name"
  lisn : C_isn G A "_law_is_name"
  ref : C_ref G G0 A
  chk0 : C_chk G0 A
  wr0 : C_wr G0 A
  rd0 : C_rd G0 A
  chk : C_chk G A
  wr : C_wr G A
  nms : C_nms G A
  rd : C_rd G A
  rdn : ∀ {H : Hp} {w : Value}, Thing H w → isS w = false → Ends G0 A (A "read" "") w H true
  td : C_td G A
  cell : C_cell G A
  sg : C_sg G A
  nb : C_nb G A
  lc : C_lc G A
  ln : C_ln G A
/-! ### the loop -/
structure Lk (l : Loc) (a nl : Addr) (w : Int) : Prop where
  s : l "_law_script" = some (.ref a)
  n : l "_law_names_here" = some (.ref nl)
  w : l "_law_way" = some (.int w 0)
theorem eqv_bool (b : Bool) : PyData.eqv (.bool b) (.bool b) = true := by cases b <;> rfl
theorem one_name (F : E1 G A) {G0 : Gx} (C : C2 G G0 A) {v : Value} {r : List Sm} {Q : QS} {X : XS} (h : Sh H v) (hv : l "_law_name" = some v) (q : ∀ b H', Kp [] H H' → wpSs G false r (l.upd "_law_told" b) H' Q X) :
    wpSs G false (.asg "_law_told" (.call (.glob "is_name") [.loc "_law_name"]) :: .ite (.bop false [.not (.isi (.loc "_law_told") .bool), .cmp (.loc "_law_told") .NotEq (.call (.glob "_law_is_name") [.loc "_law_name"])]) [.ret (.bool false)] [] :: r) l H Q X := by
  refine ss_asgW (w_call (ev_glob (F.fn rfl).1) (F.fn rfl).2 (evl_cons (ev_loc hv) evl_nil) (C.isn h.th fun H1 k1 => ?_))
  refine ss_ifW (w_bopW (wb_go (ev_not (ev_isi (ev_loc (v := .bool (nmB v)) rfl) rfl) rfl) (wb_one (w_cmpW (w_ev (ev_loc (v := .bool (nmB v)) rfl) (w_call (ev_glob (F.fn rfl).1) (F.fn rfl).2 (evl_cons (ev_loc hv) evl_nil) (C.lisn (h.th.kp k1) fun H2 k2 => ?_)))))))
  refine ⟨.bool (nmB v), .bool (nmB v), .bool _, .bool _, rfl, rfl, ?_⟩
  rw [eqv_bool]
  exact tv_f (ss_sq (q _ H2 (k1.trans k2)))
theorem ss_loop (F : E1 G A) {G0 : Gx} (C : C2 G G0 A) {a o nl : Addr} {ns : List Int} {w : Int} {os : List Value} {r : List Sm} {Q : QS} {X : XS} (ha : H a = some (.rlist (vI ns))) (hn : H nl = some (.list xs)) (hz : xs.length ≤ 10) (hs : ShL H xs) (O : Odd H o 13 os)
    (L : Lk l a nl w) (l3 : l "_law_odd" = some (.ref o)) (q : ∀ l' H', Kp [] H H' → Lk l' a nl w → wpSs G false r l' H' Q X) :
    wpSs G false (.for_ "_law_name" (.bin .Add (.loc "_law_names_here") (.list [.idx (.loc "_law_odd") (.bin .Mod (.call (.glob "_law_cell_at") [.loc "_law_script", .int 2]) (.int 13))])) [.asg "_law_told" (.call (.glob "is_name") [.loc "_law_name"]), .ite (.bop false [.not (.isi (.loc "_law_told") .bool), .cmp (.loc "_law_told") .NotEq (.call (.glob "_law_is_name") [.loc "_law_name"])]) [.ret (.bool false)] []] :: r) l H Q X := by
  obtain ⟨v, hv, sv⟩ := O.at (ns.getD 2 0) (by decide)
  refine ss_forW (w_binW (w_ev (ev_loc L.n) (w_list (evl_cons (ev_at (ev_loc l3) (ev_mod (ev_cell F C.cell ha (ev_loc L.s) (ev_int (i := 2)) (k := 2)) ev_int (by decide)) O.here rfl hv) evl_nil) (Nat.le_of_ble_eq_true rfl) fun b hb => ?_)))
  have k1 := kp_new (M := []) hb (.list [v])
  refine addl_at (k1.list hn) (Hp.upd_same _ _ _) (Nat.le_trans (Nat.add_le_add_right hz 1) (by decide)) fun c hc => ?_
  have k2 := k1.trans (kp_new (M := []) hc (.list (xs ++ [v])))
  have e2 := Hp.upd_same (H.upd b (.list [v])) c (.list (xs ++ [v]))
  show iterH _ _ ((H.upd b (.list [v])).upd c (.list (xs ++ [v]))) _
  generalize (H.upd b (.list [v])).upd c (.list (xs ++ [v])) = H2 at k2 e2 ⊢
  have s2 := sl_kp (sl_app hs (sl_cons sv sl_nil)) k2
  refine .inl ⟨rfl, iter_at e2 rfl (forG_list (fun rs l' H' => Kp [] H2 H' ∧ Lk l' a nl w ∧ ∀ u ∈ rs, u ∈ xs ++ [v]) (fun r l H h => h.1.list e2) ?_ (fun l' H' h => q l' H' (k2.trans h.1) h.2.1) _ _ _ ⟨Kp.refl _ _, L, fun _ h => h⟩)⟩
  rintro u rs l' H' ⟨k3, L', hm⟩ K hK _
  refine one_name (v := u) F C ((s2 u (hm u (List.mem_cons_self ..))).kp k3) rfl fun b H4 k4 => ss_nl (hK ((l'.upd "_law_name" u).upd "_law_told" b) H4 ⟨k3.trans k4, ⟨L'.s, L'.n, L'.w⟩, fun y hy => hm y (List.mem_cons_of_mem _ hy)⟩).1
/-! ### other things -/
theorem w_oth (F : E1 G A) (C : C_cell G A) {a : Addr} {ns : List Int} (ha : H a = some (.rlist (vI ns))) (l1 : l "_law_script" = some (.ref a)) (q : ∀ v H', Kp [] H H' → Pth H' v none → Q v H') :
    wpE G false (.idx (.list [.none, .str "a", .int 5, .dict [.str "a"] [.bool true], .dict [] [], .bool true]) (.bin .Mod (.call (.glob "_law_cell_at") [.loc "_law_script", .int 2]) (.int 6))) l H Q X := by
  refine w_idxW (w_listW (wl_cons (w_ev ev_none (wl_cons (w_ev ev_str (wl_cons (w_ev ev_int (wl_cons (w_dict1 fun d hd => wl_cons (w_dict0 fun e he => wl_cons (w_ev ev_bool (wl_nil ⟨Nat.le_of_ble_eq_true rfl, fun o ho => ?_⟩))))))))))))
  have k1 := kp_new (M := []) hd (.sdict [("a", .bool true)])
  have p1 : Pth (H.upd d (.sdict [("a", .bool true)])) (.ref d) none := .dict (Hp.upd_same ..)
  generalize H.upd d (.sdict [("a", .bool true)]) = H1 at he ho k1 p1 ⊢
  have k2 := kp_new (M := []) he (.idict [])
  have p2 : Pth (H1.upd e (.idict [])) (.ref e) none := .edict (Hp.upd_same ..)
  generalize H1.upd e (.idict []) = H2 at ho k2 p2 ⊢
  have k3 := kp_new (M := []) ho (.list [.none, .str "a" 0, .int 5 0, .ref d, .ref e, .bool true])
  have e3 := Hp.upd_same H2 o (.list [.none, .str "a" 0, .int 5 0, .ref d, .ref e, .bool true])
  show wpE G false _ _ (H2.upd o (.list [.none, .str "a" 0, .int 5 0, .ref d, .ref e, .bool true])) _ _
  generalize H2.upd o (.list [.none, .str "a" 0, .int 5 0, .ref d, .ref e, .bool true]) = H3 at k3 e3 ⊢
  have al : ∀ v ∈ [Value.none, .str "a" 0, .int 5 0, .ref d, .ref e, .bool true], Pth H3 v none :=
    List.forall_mem_cons.2 ⟨.none, List.forall_mem_cons.2 ⟨.str _, List.forall_mem_cons.2 ⟨.int _, List.forall_mem_cons.2 ⟨p1.kp (k2.trans k3), List.forall_mem_cons.2 ⟨p2.kp k3, List.forall_mem_cons.2 ⟨.bool _, fun _ h => nomatch h⟩⟩⟩⟩⟩⟩
  have m := Lw.mod_lt (ns.getD 2 0) (b := 6) (by decide)
  obtain ⟨v, hv, hmv⟩ := Lw.at_lt (xs := [Value.none, .str "a" 0, .int 5 0, .ref d, .ref e, .bool true]) m.1 m.2
  have k13 := (k1.trans k2).trans k3
  exact w_ev (ev_mod (ev_cell F C (k13.rlist ha) (ev_loc l1) (ev_int (i := 2)) (k := 2)) ev_int (by decide)) (idx_at e3 rfl hv (q v H3 k13 (al v hmv)))
structure Nt (H : Hp) (v : Value) : Prop where
  th : Thing H v
  no : isS v = false
theorem Nt.kp {v : Value} (h : Nt H v) (k : Kp [] H H') : Nt H' v := ⟨h.th.kp k, h.no⟩
theorem w_nont (F : E1 G A) (C : C_cell G A) {a : Addr} {ns : List Int} (ha : H a = some (.rlist (vI ns))) (l1 : l "_law_script" = some (.ref a)) (q : ∀ v H', Kp [] H H' → Nt H' v → Q v H') :
    wpE G false (.idx (.list [.int 5, .none, .list [.str "/a"], .tup [.str "/", .str "a"], .bool true, .dict [] []]) (.bin .Mod (.call (.glob "_law_cell_at") [.loc "_law_script", .int 2]) (.int 6))) l H Q X := by
  refine w_idxW (w_listW (wl_cons (w_ev ev_int (wl_cons (w_ev ev_none (wl_cons (w_list (evl_cons ev_str evl_nil) (Nat.le_of_ble_eq_true rfl) fun b hb => wl_cons (w_tup (evl_cons ev_str (evl_cons ev_str evl_nil)) (Nat.le_of_ble_eq_true rfl) fun t ht => wl_cons (w_ev ev_bool (wl_cons (w_dict0 fun e he => wl_nil ⟨Nat.le_of_ble_eq_true rfl, fun o ho => ?_⟩)))))))))))
  have k1 := kp_new (M := []) hb (.list [.str "/a" 0])
  have p1 : Nt (H.upd b (.list [.str "/a" 0])) (.ref b) := ⟨th_new _ _ rfl rfl, rfl⟩
  generalize H.upd b (.list [.str "/a" 0]) = H1 at ht he ho k1 p1 ⊢
  have k2 := kp_new (M := []) ht (.tup [.str "/" 0, .str "a" 0])
  have p2 : Nt (H1.upd t (.tup [.str "/" 0, .str "a" 0])) (.ref t) := ⟨th_new _ _ rfl rfl, rfl⟩
  generalize H1.upd t (.tup [.str "/" 0, .str "a" 0]) = H2 at he ho k2 p2 ⊢
  have k3 := kp_new (M := []) he (.idict [])
  have p3 : Nt (H2.upd e (.idict [])) (.ref e) := ⟨.edict (Hp.upd_same ..), rfl⟩
  generalize H2.upd e (.idict []) = H3 at ho k3 p3 ⊢
  have k4 := kp_new (M := []) ho (.list [.int 5 0, .none, .ref b, .ref t, .bool true, .ref e])
  have e4 := Hp.upd_same H3 o (.list [.int 5 0, .none, .ref b, .ref t, .bool true, .ref e])
  show wpE G false _ _ (H3.upd o (.list [.int 5 0, .none, .ref b, .ref t, .bool true, .ref e])) _ _
  generalize H3.upd o (.list [.int 5 0, .none, .ref b, .ref t, .bool true, .ref e]) = H4 at k4 e4 ⊢
  have k34 := k3.trans k4
  have al : ∀ v ∈ [Value.int 5 0, .none, .ref b, .ref t, .bool true, .ref e], Nt H4 v :=
    List.forall_mem_cons.2 ⟨⟨.int _, rfl⟩, List.forall_mem_cons.2 ⟨⟨.none, rfl⟩, List.forall_mem_cons.2 ⟨p1.kp (k2.trans k34), List.forall_mem_cons.2 ⟨p2.kp k34, List.forall_mem_cons.2 ⟨⟨.bool _, rfl⟩, List.forall_mem_cons.2 ⟨p3.kp k4, fun _ h => nomatch h⟩⟩⟩⟩⟩⟩
  have m := Lw.mod_lt (ns.getD 2 0) (b := 6) (by decide)
  obtain ⟨v, hv, hmv⟩ := Lw.at_lt (xs := [Value.int 5 0, .none, .ref b, .ref t, .bool true, .ref e]) m.1 m.2
  have k14 := (k1.trans k2).trans k34
  exact w_ev (ev_mod (ev_cell F C (k14.rlist ha) (ev_loc l1) (ev_int (i := 2)) (k := 2)) ev_int (by decide)) (idx_at e4 rfl hv (q v H4 k14 (al v hmv)))
end
end Mine.L1
end

section
open PySem PyProof.Rows
namespace Mine.L1
open Mine Mine.St
section
variable {A : Ad} {G : Gx} {H H' : Hp} {Q : QV} {X : XV} {l : Loc} {hm : Bool} {x y z : Ex} {xs : List Value} {ss : List Str}
theorem due_len {p : Str} (h : dueL p = some ss) : ss.length ≤ 100 := by
  unfold dueL at h
  split at h
  · cases h; exact Nat.zero_le _
  · split at h
    · split at h
      · rename_i ho
        cases h
        have := (ok_all ho).1
        rw [List.length_map] at this
        exact Nat.le_trans this (by decide)
      · cases h
    · cases h
/-- the line -/
theorem rest3 (F : E1 G A) {G0 : Gx} (C : C2 G G0 A) {a nl : Addr} {ns : List Int} {w : Int} (ha : H a = some (.rlist (vI ns))) (hn : H nl = some (.list xs)) (hz : xs.length ≤ 10) (hs : ShL H xs) (L : Lk l a nl w) (q : ∀ H', Q (.bool true) H') :
    wpSs G false [.asg "_law_line_here" (.call (.glob "_law_line") [.loc "_law_names_here", .bin .FloorDiv (.call (.glob "_law_cell_at") [.loc "_law_script", .int 2]) (.int 12), .call (.glob "_law_cell_at") [.loc "_law_script", .int 1]]), .asg "_law_due" (.call (.glob "_law_text_due") [.loc "_law_line_here"]), .asg "_law_refused_here" (.call (.glob "_law_refused") [.glob "read", .loc "_law_line_here"]), .ite (.cmp (.loc "_law_due") .Is (.none)) [.ret (.loc "_law_refused_here")] [], .ret (.bop true [.not (.loc "_law_refused_here"), .call (.glob "_law_names") [.call (.glob "read") [.loc "_law_line_here"], .loc "_law_due"]])] l H (fq Q) (fx X) := by
  refine ss_asgW (w_call (ev_glob (F.fn rfl).1) (F.fn rfl).2 (evl_cons (ev_loc L.n) (evl_cons (ev_div (ev_cell F C.cell ha (ev_loc L.s) (ev_int (i := 2)) (k := 2)) ev_int (by decide) (by decide)) (evl_cons (ev_cell F C.cell ha (ev_loc L.s) (ev_int (i := 1)) (k := 1)) evl_nil))) (C.ln hn (Nat.le_trans hz (by decide)) hs fun p hp H1 k1 => ?_))
  refine ss_asgW (w_call (ev_glob (F.fn rfl).1) (F.fn rfl).2 (evl_cons (ev_loc (v := .str p 0) rfl) evl_nil) (C.td hp (fun ss e b H2 k2 hb => ?_) fun e H2 k2 => ?_))
  · refine ss_asgW (w_ref F C.ref rfl (ev_loc (v := .str p 0) rfl) (ends_rd C.rd0 hp) fun H3 k3 => ?_)
    rw [e]
    refine ss_iff0 (ev_is (ev_loc (v := .ref b) rfl) rfl) ?_
    refine ss_retW (w_bopW (wb_go (ev_not (ev_loc (v := .bool false) rfl) rfl) (wb_one (w_callW (ev_glob (F.fn rfl).1) (F.fn rfl).2 (wl_cons (w_call (ev_glob (F.fn rfl).1) (F.fn rfl).2 (evl_cons (ev_loc (v := .str p 0) rfl) evl_nil) (C.rd hp (fun s2 e2 c H4 k4 hc => ?_) fun e2 => ?_)))))))
    · rw [e] at e2
      cases e2
      exact wl_cons (w_ev (ev_loc (v := .ref b) rfl) (wl_nil (C.nms hc (k4.list (k3.list hb)) (due_len e) fun H5 _ => q H5)))
    · rw [e] at e2; cases e2
  · refine ss_asgW (w_ref F C.ref rfl (ev_loc (v := .str p 0) rfl) (ends_rd C.rd0 hp) fun H3 k3 => ?_)
    rw [e]
    exact ss_ift (ev_is (ev_loc (v := .none) rfl) rfl) (ss_ret (ev_loc (v := .bool true) rfl) (q H3))
/-- what is no path, what is no text -/
theorem rest2 (F : E1 G A) {G0 : Gx} (C : C2 G G0 A) {a : Addr} {ns : List Int} {r : List Sm} {Q : QS} {X : XS} (ha : H a = some (.rlist (vI ns))) (l1 : l "_law_script" = some (.ref a)) (q : ∀ v H', Kp [] H H' → wpSs G false r (l.upd "_law_other" v) H' Q X) :
    wpSs G false (.asg "_law_other" (.idx (.list [.none, .str "a", .int 5, .dict [.str "a"] [.bool true], .dict [] [], .bool true]) (.bin .Mod (.call (.glob "_law_cell_at") [.loc "_law_script", .int 2]) (.int 6))) :: .ite (.bop false [.not (.call (.glob "_law_refused") [.glob "checked", .loc "_law_other"]), .not (.call (.glob "_law_refused") [.glob "written", .loc "_law_other"])]) [.ret (.bool false)] [] :: .ite (.not (.call (.glob "_law_refused") [.glob "read", .idx (.list [.int 5, .none, .list [.str "/a"], .tup [.str "/", .str "a"], .bool true, .dict [] []]) (.bin .Mod (.call (.glob "_law_cell_at") [.loc "_law_script", .int 2]) (.int 6))])) [.ret (.bool false)] [] :: r) l H Q X := by
  refine ss_asgW (w_oth F C.cell ha l1 fun v H1 k1 pv => ?_)
  have l1' : (l.upd "_law_other" v) "_law_script" = some (.ref a) := l1
  refine ss_ifW (w_bopW (wb_cons (w_notN (w_ref F C.ref rfl (ev_loc (v := v) rfl) (ends_chk C.chk0 pv) fun H2 k2 => nv_t (bo_go (k := false) (wb_one (w_notN (w_ref F C.ref rfl (ev_loc (v := v) rfl) (ends_wr C.wr0 (pv.kp k2) fun xs e => nomatch e) fun H3 k3 => nv_t (tv_f (ss_sq ?_))))))))))
  have k13 := (k1.trans k2).trans k3
  refine ss_ifW (w_notN (w_callW (ev_glob (F.fn rfl).1) (F.fn rfl).2 (wl_cons (w_ev (ev_glob (F.fn (x := "read") rfl).1) (wl_cons (w_nont F C.cell (k13.rlist ha) l1' fun u H4 k4 nt => wl_nil (C.ref (F.fn (x := "read") rfl).2 (C.rdn nt.th nt.no) fun H5 k5 => nv_t (tv_f (ss_sq ?_)))))))))
  exact q v H5 ((k13.trans k4).trans k5)
/-- a list or a tuple -/
theorem rest1 (F : E1 G A) {G0 : Gx} (C : C2 G G0 A) {a nl : Addr} {w : Int} {r : List Sm} {Q : QS} {X : XS} (hn : H nl = some (.list xs)) (hz : xs.length ≤ 10) (hs : ShL H xs) (L : Lk l a nl w) (q : ∀ l' H', Kp [] H H' → Lk l' a nl w → wpSs G false r l' H' Q X) :
    wpSs G false (.asg "_law_handed" (.bf .list [.loc "_law_names_here"]) :: .ite (.cmp (.bin .Mod (.bin .FloorDiv (.loc "_law_way") (.int 3)) (.int 2)) .Eq (.int 1)) [.asg "_law_handed" (.bf .tuple [.loc "_law_names_here"])] [] :: .ite (.not (.call (.glob "_law_checked") [.loc "_law_names_here", .loc "_law_handed"])) [.ret (.bool false)] [] :: r) l H Q X := by
  have hz' : xs.length ≤ sizeLine := Nat.le_trans hz (by decide)
  have ok : OkS (some xs) := fun ys e x t hx => by cases e; exact ((hs _ hx).nm x t rfl).ok
  have go : ∀ (l : Loc) (hd : Addr) (o : AObj) (H' : Hp), l "_law_handed" = some (.ref hd) → Lk l a nl w → Kp [] H H' → H' hd = some o → (o = .list xs ∨ o = .tup xs) → wpSs G false (.ite (.not (.call (.glob "_law_checked") [.loc "_law_names_here", .loc "_law_handed"])) [.ret (.bool false)] [] :: r) l H' Q X := fun l hd o H' lh L k ho hoo =>
    ss_ifW (w_notN (w_call (ev_glob (F.fn rfl).1) (F.fn rfl).2 (evl_cons (ev_loc L.n) (evl_cons (ev_loc lh) evl_nil)) (C.lc (k.list hn) ho hoo (Nat.le_trans hz (by decide)) (fun v hv => ((hs v hv).kp k).th) ok fun H2 k2 => nv_t (tv_f (ss_sq (q l H2 (k.trans k2) L))))))
  refine ss_asgW (w_blist (ev_loc L.n) hn rfl hz' fun b hb => ?_)
  have k1 := kp_new (M := []) hb (.list xs)
  have L1 : Lk (l.upd "_law_handed" (.ref b)) a nl w := ⟨L.s, L.n, L.w⟩
  refine ss_if (ev_eq (ev_mod (ev_div (ev_loc L1.w) ev_int (by decide) (by decide)) ev_int (by decide)) ev_int rfl) (fun _ => ?_) fun _ => ss_sq (go _ b _ _ rfl L1 k1 (Hp.upd_same ..) (.inl rfl))
  refine ss_asgW (w_btup (ev_loc L1.n) (k1.list hn) hz' fun t ht => ss_sq (go _ t (.tup xs) _ rfl ⟨L.s, L.n, L.w⟩ (k1.trans (kp_new ht _)) (Hp.upd_same ..) (.inr rfl)))
theorem law_ok (F : E1 G A) {G0 : Gx} (C : C2 G G0 A) {a : Addr} {ns : List Int} (ha : H a = some (.rlist (vI ns))) (q : ∀ H', Q (.bool true) H') : wpF G false ["_law_script"] b_law [.ref a] H Q X := by
  refine f_in rfl ?_
  refine ss_asgW (w_odd fun o1 os1 H1 k1 O1 => ?_)
  refine ss_asgW (w_call (ev_glob (F.fn rfl).1) (F.fn rfl).2 (evl_cons (ev_div (ev_cell F C.cell (k1.rlist ha) (ev_loc rfl) (ev_int (i := 2)) (k := 2)) ev_int (by decide) (by decide)) evl_nil) (C.sg fun d hd => ?_))
  refine ss_asgW (w_odd2 hd O1 (ev_loc rfl) (ev_loc rfl) fun o os H2 k2 O => ?_)
  have ha2 := (k1.trans k2).rlist ha
  refine ss_asgW (w_names F C.cell C.nb ha2 rfl fun nl ss H3 k3 hnl hn hz hm => ?_)
  refine ss_asg (ev_div (ev_cell F C.cell (k3.rlist ha2) (ev_loc rfl) (ev_int (i := 0)) (k := 0)) ev_int (by decide) (by decide)) ?_
  refine ss_put F C.cell ha2 k3 hnl hn hz hm O rfl rfl rfl rfl fun xs H4 k4 hn4 hz4 hs4 => ?_
  refine ss_loop F C (k4.rlist ha2) hn4 hz4 hs4 (O.kp k4) ⟨rfl, rfl, rfl⟩ rfl fun l5 H5 k5 L5 => ?_
  refine rest1 F C (k5.list hn4) hz4 (sl_kp hs4 k5) L5 fun l6 H6 k6 L6 => ?_
  have k46 := k4.trans (k5.trans k6)
  refine rest2 F C (k46.rlist ha2) L6.s fun v H7 k7 => ?_
  exact rest3 F C ((k46.trans k7).rlist ha2) (k7.list (k6.list (k5.list hn4))) hz4 (sl_kp hs4 ((k5.trans k6).trans k7)) ⟨L6.s, L6.n, L6.w⟩ q
end
end Mine.L1
end

section
open PySem PyProof.Rows
namespace Mine.L1
open Mine Mine.St
section
variable {A : Ad}
structure TabL (tab : Tab) (A : Ad) : Prop where
  is_name : HasF tab (A "is_name" "") ["thing"] b_is_name
  checked : HasF tab (A "checked" "") ["path"] b_checked
  written : HasF tab (A "written" "") ["path"] b_written
  read : HasF tab (A "read" "") ["line"] b_read
  cell_at : HasF tab (A "_law_cell_at" "") ["_law_script", "_law_k"] b__law_cell_at
  name_by : HasF tab (A "_law_name_by" "") ["_law_cell"] b__law_name_by
  sign_by : HasF tab (A "_law_sign_by" "") ["_law_cell"] b__law_sign_by
  lis_name : HasF tab (A "_law_is_name" "") ["_law_thing"] b__law_is_name
  refused : HasF tab (A "_law_refused" "") ["_law_ask", "_law_thing"] b__law_refused
  names : HasF tab (A "_law_names" "") ["_law_seen", "_law_due"] b__law_names
  text_due : HasF tab (A "_law_text_due" "") ["_law_line_here"] b__law_text_due
  lchecked : HasF tab (A "_law_checked" "") ["_law_names_here", "_law_handed"] b__law_checked
  line : HasF tab (A "_law_line" "") ["_law_names_here", "_law_cell", "_law_place"] b__law_line
  law : HasF tab (A "law" "") ["_law_script"] b_law
section
variable {g : Gx} {tab : Tab} (f : E1 g A) (t : TabL tab A) (n : Nat)
include f t
theorem isn_at : C_isn (GG g tab (n + 1)) A "is_name" := fun _ _ h _ _ q => fn_gg t.is_name (isn_ok (f.gg tab _) h q)
theorem lisn_at : C_isn (GG g tab (n + 1)) A "_law_is_name" := fun _ _ h _ _ q => fn_gg t.lis_name (lisn_ok (f.gg tab _) h q)
theorem chk_at : C_chk (GG g tab (n + 2)) A := fun _ _ _ h _ _ q qX => fn_gg t.checked (chk_ok (f.gg tab _) (isn_at f t n) h q qX)
theorem wr_at : C_wr (GG g tab (n + 3)) A := fun _ _ _ h ho _ _ q qX => fn_gg t.written (wr_ok (f.gg tab _) (chk_at f t n) h ho q qX)
theorem rd_at : C_rd (GG g tab (n + 3)) A := fun _ _ hp _ _ q qX => fn_gg t.read (rd_ok (f.gg tab _) (chk_at f t n) hp q qX)
theorem rdn_at {H : Hp} {w : Value} (h : Thing H w) (hs : isS w = false) : Ends (GG g tab (n + 1)) A (A "read" "") w H true := fun _ _ _ qX => fn_gg t.read (rdn_ok (f.gg tab _) h hs (qX rfl))
theorem ref_at : C_ref (GG g tab (n + 1)) (GG g tab n) A := fun _ _ _ _ hi E _ _ q => fn_gg t.refused (ref_ok (f.gg tab _) (by cases n <;> exact hi) E q)
omit f in
theorem nms_at : C_nms (GG g tab (n + 1)) A := fun _ _ _ _ ha hb hz _ _ q => fn_gg t.names (nms_ok ha hb hz q)
theorem td_at : C_td (GG g tab (n + 2)) A := fun _ _ hp _ _ q q0 => fn_gg t.text_due (td_ok (f.gg tab _) (lisn_at f t n) hp q q0)
omit f in
theorem cell_at : C_cell (GG g tab (n + 1)) A := fun _ _ _ ha _ _ _ _ q => fn_gg t.cell_at (cell_ok ha q)
omit f in
theorem sg_at : C_sg (GG g tab (n + 1)) A := fun _ _ _ _ _ q => fn_gg t.sign_by (sg_by q)
omit f in
theorem nb_at : C_nb (GG g tab (n + 1)) A := fun _ _ _ _ _ q => fn_gg t.name_by (nb_ok q)
theorem lc_at : C_lc (GG g tab (n + 5)) A := fun _ _ _ _ _ hn hh ho hz ht hs _ _ q => fn_gg t.lchecked (lc_ok (f.gg tab _) ⟨lisn_at f t (n + 3), ref_at f t (n + 3), chk_at f t (n + 1), wr_at f t n, chk_at f t (n + 2), wr_at f t (n + 1), nms_at t (n + 3)⟩ hn hh ho hz ht hs q)
theorem ln_at : C_ln (GG g tab (n + 2)) A := fun _ _ _ _ _ hn hz hs _ _ q => fn_gg t.line (ln_ok (f.gg tab _) (sg_at t n) hn hz hs q)
theorem law_tells {a : Addr} {ns : List Int} {H : Hp} (ha : H a = some (.rlist (ns.map fun n => Value.int n 0))) : (GG g tab 13).fn (A "law" "") false [.ref a] H (fun v _ => v = .bool true) (fun _ _ => False) :=
  fn_gg t.law (law_ok (f.gg tab 12) ⟨isn_at f t 11, lisn_at f t 11, ref_at f t 11, chk_at f t 9, wr_at f t 8, rd_at f t 8, chk_at f t 10, wr_at f t 9, nms_at t 11, rd_at f t 9, rdn_at f t 10, td_at f t 10, cell_at t 11, sg_at t 11, nb_at t 11, lc_at f t 7, ln_at f t 10⟩ ha fun _ => rfl)
end
end
end Mine.L1
end

end

section
open PySem PySem.W PyProof.Rows PySem.Challenge
set_option maxHeartbeats 0
set_option maxRecDepth 1000000
namespace Mine.L1
section
/-- the text's statements -/
noncomputable def stA (i : Nat) : Stmt := pw_uf040010_01.main.body.getD i (.Pass default)
noncomputable def inA (i j : Nat) : Stmt := match stA i with
  | .ClassDef _ _ _ b _ _ _ _ _ _ _ => b.getD j (.Pass default)
  | s => s
noncomputable def fo (st : Stmt) (q : String) (m : Value) (c : Nat) : FuncData := match st with
  | .FunctionDef n a b _ _ _ sc _ _ _ => { name := n, qualname := q, params := a, body := .stmts b, scope := sc, globals := 3, closure := [], defaults := .none, kwdefaults := .none, pyModule := m, code := .ref c }
  | _ => default
noncomputable def en (P : Params) (x : String) (t : Nat) (v : Value) : DictEntry := { hash := PyData.keyHash P x, key := .str x t, val := v }
/-- what the top leaves -/
noncomputable def KK (P : Params) : Frag := [
  (2, { cls := Value.none, data := Data.dict #[] }),
  (3, { cls := Value.type "dict", data := Data.dict #[en P "__name__" 165 (Value.str (Str.ofString "law_uf040010_01") 254), en P "__doc__" 166 (Value.none), en P "__package__" 167 (Value.none), en P "__loader__" 168 (Value.builtin "__main__.__loader__#opaque"), en P "__spec__" 169 (Value.none), en P "__annotations__" 170 (Value.ref 6), en P "__builtins__" 171 (Value.ref 4), en P "__file__" 173 (Value.str (Str.ofString "/claim/cut.py") 172), en P "__cached__" 174 (Value.none), en P "SnapError" 206 (Value.ref 24), en P "BadPath" 222 (Value.ref 37), en P "LETTERS" 226 (Value.str (Str.ofString "abcdefghijklmnopqrstuvwxyz") 225), en P "MOST" 228 (Value.int 8 227), en P "is_name" 234 (Value.ref 44), en P "checked" 240 (Value.ref 49), en P "written" 246 (Value.ref 54), en P "read" 253 (Value.ref 61), en P "_law_cell_at" 263 (Value.ref 68), en P "_law_name_by" 269 (Value.ref 73), en P "_law_sign_by" 277 (Value.ref 80), en P "_law_is_name" 283 (Value.ref 85), en P "_law_refused" 292 (Value.ref 92), en P "_law_names" 298 (Value.ref 97), en P "_law_text_due" 304 (Value.ref 102), en P "_law_checked" 310 (Value.ref 107), en P "_law_line" 316 (Value.ref 112), en P "law" 322 (Value.ref 117)] 27 }),
  (6, { cls := Value.type "dict", data := Data.dict #[] }),
  (15, { cls := Value.type "tuple", data := Data.seq #[Value.type "ValueError"] }),
  (22, { cls := Value.type "tuple", data := Data.seq #[] }),
  (23, { cls := Value.type "dict", data := Data.dict #[en P "__module__" 196 (Value.str (Str.ofString "snaptree.errors") 187), en P "__firstlineno__" 200 (Value.int 2 199), en P "__static_attributes__" 201 (Value.ref 22), en P "__weakref__" 203 (Value.ref 25), en P "__doc__" 204 (Value.none)] 3 }),
  (24, { cls := Value.type "type", data := Data.cls { name := Str.ofString "SnapError", bases := [Value.type "ValueError"], mro := [Value.ref 24, Value.type "ValueError", Value.type "Exception", Value.type "BaseException", Value.type "object"], ns := 23, qualname := Str.ofString "SnapError", subclasses := [Value.ref 37] }, slots := #[some (Value.ref 15), none, some (Value.str (Str.ofString "SnapError") 189), some (Value.str (Str.ofString "SnapError") 197), some (Value.builtin "ValueError.__new__"), some (Value.bool true)] }),
  (25, { cls := Value.type "getset_descriptor", data := Data.fields #[Value.str (Str.ofString "__weakref__") 202, Value.ref 24, Value.builtin "ExceptionGroup.__weakref__", Value.none] }),
  (28, { cls := Value.type "tuple", data := Data.seq #[Value.ref 24] }),
  (35, { cls := Value.type "tuple", data := Data.seq #[] }),
  (36, { cls := Value.type "dict", data := Data.dict #[en P "__module__" 214 (Value.str (Str.ofString "snaptree.errors") 187), en P "__firstlineno__" 218 (Value.int 4 217), en P "__static_attributes__" 219 (Value.ref 35), en P "__doc__" 220 (Value.none)] 2 }),
  (37, { cls := Value.type "type", data := Data.cls { name := Str.ofString "BadPath", bases := [Value.ref 24], mro := [Value.ref 37, Value.ref 24, Value.type "ValueError", Value.type "Exception", Value.type "BaseException", Value.type "object"], ns := 36, qualname := Str.ofString "BadPath" }, slots := #[some (Value.ref 28), none, some (Value.str (Str.ofString "BadPath") 207), some (Value.str (Str.ofString "BadPath") 215), some (Value.builtin "ValueError.__new__"), some (Value.bool true)] }),
  (40, { cls := Value.type "tuple", data := Data.seq #[] }),
  (43, { cls := Value.type "code", data := Data.fields #[Value.str (Str.ofString "is_name") 229, Value.str (Str.ofString "is_name") 230, Value.str (Str.ofString "/claim/cut.py") 231, Value.int 9 0, Value.int 1 0, Value.int 0 0, Value.int 0 0, Value.int 3 0, Value.ref 40, Value.bool true, Value.int 181 0, Value.ref 41, Value.none, Value.none, Value.none, Value.ref 42, Value.int 232 0, Value.int 9 0, Value.str (Str.ofString "/claim/cut.py") 233] }),
  (44, { cls := .type "function", data := .func (fo (stA 6) "is_name" (Value.str (Str.ofString "snaptree.paths") 223) 43) }),
  (45, { cls := Value.type "tuple", data := Data.seq #[] }),
  (48, { cls := Value.type "code", data := Data.fields #[Value.str (Str.ofString "checked") 235, Value.str (Str.ofString "checked") 236, Value.str (Str.ofString "/claim/cut.py") 237, Value.int 13 0, Value.int 1 0, Value.int 0 0, Value.int 0 0, Value.int 3 0, Value.ref 45, Value.bool true, Value.int 181 0, Value.ref 46, Value.none, Value.none, Value.none, Value.ref 47, Value.int 238 0, Value.int 13 0, Value.str (Str.ofString "/claim/cut.py") 239] }),
  (49, { cls := .type "function", data := .func (fo (stA 7) "checked" (Value.str (Str.ofString "snaptree.paths") 223) 48) }),
  (50, { cls := Value.type "tuple", data := Data.seq #[] }),
  (53, { cls := Value.type "code", data := Data.fields #[Value.str (Str.ofString "written") 241, Value.str (Str.ofString "written") 242, Value.str (Str.ofString "/claim/cut.py") 243, Value.int 19 0, Value.int 1 0, Value.int 0 0, Value.int 0 0, Value.int 3 0, Value.ref 50, Value.bool true, Value.int 181 0, Value.ref 51, Value.none, Value.none, Value.none, Value.ref 52, Value.int 244 0, Value.int 19 0, Value.str (Str.ofString "/claim/cut.py") 245] }),
  (54, { cls := .type "function", data := .func (fo (stA 8) "written" (Value.str (Str.ofString "snaptree.paths") 223) 53) }),
  (55, { cls := Value.type "tuple", data := Data.seq #[] }),
  (57, { cls := Value.type "tuple", data := Data.seq #[Value.str (Str.ofString "line") 250] }),
  (58, { cls := Value.type "tuple", data := Data.seq #[] }),
  (60, { cls := Value.type "code", data := Data.fields #[Value.str (Str.ofString "read") 247, Value.str (Str.ofString "read") 248, Value.str (Str.ofString "/claim/cut.py") 249, Value.int 24 0, Value.int 1 0, Value.int 0 0, Value.int 0 0, Value.int 3 0, Value.ref 55, Value.bool true, Value.int 181 0, Value.ref 56, Value.none, Value.ref 57, Value.ref 58, Value.ref 59, Value.int 251 0, Value.int 24 0, Value.str (Str.ofString "/claim/cut.py") 252] }),
  (61, { cls := .type "function", data := .func (fo (stA 9) "read" (Value.str (Str.ofString "snaptree.paths") 223) 60) }),
  (62, { cls := Value.type "tuple", data := Data.seq #[] }),
  (64, { cls := Value.type "tuple", data := Data.seq #[Value.str (Str.ofString "_law_script") 259, Value.str (Str.ofString "_law_k") 260] }),
  (65, { cls := Value.type "tuple", data := Data.seq #[] }),
  (67, { cls := Value.type "code", data := Data.fields #[Value.str (Str.ofString "_law_cell_at") 256, Value.str (Str.ofString "_law_cell_at") 257, Value.str (Str.ofString "/claim/cut.py") 258, Value.int 31 0, Value.int 2 0, Value.int 0 0, Value.int 0 0, Value.int 3 0, Value.ref 62, Value.bool true, Value.int 181 0, Value.ref 63, Value.none, Value.ref 64, Value.ref 65, Value.ref 66, Value.int 261 0, Value.int 31 0, Value.str (Str.ofString "/claim/cut.py") 262] }),
  (68, { cls := .type "function", data := .func (fo (stA 11) "_law_cell_at" (Value.str (Str.ofString "law_uf040010_01") 254) 67) }),
  (69, { cls := Value.type "tuple", data := Data.seq #[] }),
  (72, { cls := Value.type "code", data := Data.fields #[Value.str (Str.ofString "_law_name_by") 264, Value.str (Str.ofString "_law_name_by") 265, Value.str (Str.ofString "/claim/cut.py") 266, Value.int 35 0, Value.int 1 0, Value.int 0 0, Value.int 0 0, Value.int 3 0, Value.ref 69, Value.bool true, Value.int 181 0, Value.ref 70, Value.none, Value.none, Value.none, Value.ref 71, Value.int 267 0, Value.int 35 0, Value.str (Str.ofString "/claim/cut.py") 268] }),
  (73, { cls := .type "function", data := .func (fo (stA 12) "_law_name_by" (Value.str (Str.ofString "law_uf040010_01") 254) 72) }),
  (74, { cls := Value.type "tuple", data := Data.seq #[] }),
  (76, { cls := Value.type "tuple", data := Data.seq #[Value.str (Str.ofString "_law_cell") 273, Value.str (Str.ofString "_law_some") 274] }),
  (77, { cls := Value.type "tuple", data := Data.seq #[] }),
  (79, { cls := Value.type "code", data := Data.fields #[Value.str (Str.ofString "_law_sign_by") 270, Value.str (Str.ofString "_law_sign_by") 271, Value.str (Str.ofString "/claim/cut.py") 272, Value.int 38 0, Value.int 1 0, Value.int 0 0, Value.int 0 0, Value.int 3 0, Value.ref 74, Value.bool true, Value.int 181 0, Value.ref 75, Value.none, Value.ref 76, Value.ref 77, Value.ref 78, Value.int 275 0, Value.int 38 0, Value.str (Str.ofString "/claim/cut.py") 276] }),
  (80, { cls := .type "function", data := .func (fo (stA 13) "_law_sign_by" (Value.str (Str.ofString "law_uf040010_01") 254) 79) }),
  (81, { cls := Value.type "tuple", data := Data.seq #[] }),
  (84, { cls := Value.type "code", data := Data.fields #[Value.str (Str.ofString "_law_is_name") 278, Value.str (Str.ofString "_law_is_name") 279, Value.str (Str.ofString "/claim/cut.py") 280, Value.int 42 0, Value.int 1 0, Value.int 0 0, Value.int 0 0, Value.int 3 0, Value.ref 81, Value.bool true, Value.int 181 0, Value.ref 82, Value.none, Value.none, Value.none, Value.ref 83, Value.int 281 0, Value.int 42 0, Value.str (Str.ofString "/claim/cut.py") 282] }),
  (85, { cls := .type "function", data := .func (fo (stA 14) "_law_is_name" (Value.str (Str.ofString "law_uf040010_01") 254) 84) }),
  (86, { cls := Value.type "tuple", data := Data.seq #[] }),
  (88, { cls := Value.type "tuple", data := Data.seq #[Value.str (Str.ofString "_law_ask") 287, Value.str (Str.ofString "_law_thing") 288, Value.str (Str.ofString "e") 289] }),
  (89, { cls := Value.type "tuple", data := Data.seq #[] }),
  (91, { cls := Value.type "code", data := Data.fields #[Value.str (Str.ofString "_law_refused") 284, Value.str (Str.ofString "_law_refused") 285, Value.str (Str.ofString "/claim/cut.py") 286, Value.int 46 0, Value.int 2 0, Value.int 0 0, Value.int 0 0, Value.int 3 0, Value.ref 86, Value.bool true, Value.int 181 0, Value.ref 87, Value.none, Value.ref 88, Value.ref 89, Value.ref 90, Value.int 290 0, Value.int 46 0, Value.str (Str.ofString "/claim/cut.py") 291] }),
  (92, { cls := .type "function", data := .func (fo (stA 15) "_law_refused" (Value.str (Str.ofString "law_uf040010_01") 254) 91) }),
  (93, { cls := Value.type "tuple", data := Data.seq #[] }),
  (96, { cls := Value.type "code", data := Data.fields #[Value.str (Str.ofString "_law_names") 293, Value.str (Str.ofString "_law_names") 294, Value.str (Str.ofString "/claim/cut.py") 295, Value.int 52 0, Value.int 2 0, Value.int 0 0, Value.int 0 0, Value.int 3 0, Value.ref 93, Value.bool true, Value.int 181 0, Value.ref 94, Value.none, Value.none, Value.none, Value.ref 95, Value.int 296 0, Value.int 52 0, Value.str (Str.ofString "/claim/cut.py") 297] }),
  (97, { cls := .type "function", data := .func (fo (stA 16) "_law_names" (Value.str (Str.ofString "law_uf040010_01") 254) 96) }),
  (98, { cls := Value.type "tuple", data := Data.seq #[] }),
  (101, { cls := Value.type "code", data := Data.fields #[Value.str (Str.ofString "_law_text_due") 299, Value.str (Str.ofString "_law_text_due") 300, Value.str (Str.ofString "/claim/cut.py") 301, Value.int 56 0, Value.int 1 0, Value.int 0 0, Value.int 0 0, Value.int 3 0, Value.ref 98, Value.bool true, Value.int 181 0, Value.ref 99, Value.none, Value.none, Value.none, Value.ref 100, Value.int 302 0, Value.int 56 0, Value.str (Str.ofString "/claim/cut.py") 303] }),
  (102, { cls := .type "function", data := .func (fo (stA 17) "_law_text_due" (Value.str (Str.ofString "law_uf040010_01") 254) 101) }),
  (103, { cls := Value.type "tuple", data := Data.seq #[] }),
  (106, { cls := Value.type "code", data := Data.fields #[Value.str (Str.ofString "_law_checked") 305, Value.str (Str.ofString "_law_checked") 306, Value.str (Str.ofString "/claim/cut.py") 307, Value.int 65 0, Value.int 2 0, Value.int 0 0, Value.int 0 0, Value.int 3 0, Value.ref 103, Value.bool true, Value.int 181 0, Value.ref 104, Value.none, Value.none, Value.none, Value.ref 105, Value.int 308 0, Value.int 65 0, Value.str (Str.ofString "/claim/cut.py") 309] }),
  (107, { cls := .type "function", data := .func (fo (stA 18) "_law_checked" (Value.str (Str.ofString "law_uf040010_01") 254) 106) }),
  (108, { cls := Value.type "tuple", data := Data.seq #[] }),
  (111, { cls := Value.type "code", data := Data.fields #[Value.str (Str.ofString "_law_line") 311, Value.str (Str.ofString "_law_line") 312, Value.str (Str.ofString "/claim/cut.py") 313, Value.int 77 0, Value.int 3 0, Value.int 0 0, Value.int 0 0, Value.int 3 0, Value.ref 108, Value.bool true, Value.int 181 0, Value.ref 109, Value.none, Value.none, Value.none, Value.ref 110, Value.int 314 0, Value.int 77 0, Value.str (Str.ofString "/claim/cut.py") 315] }),
  (112, { cls := .type "function", data := .func (fo (stA 19) "_law_line" (Value.str (Str.ofString "law_uf040010_01") 254) 111) }),
  (113, { cls := Value.type "tuple", data := Data.seq #[] }),
  (116, { cls := Value.type "code", data := Data.fields #[Value.str (Str.ofString "law") 317, Value.str (Str.ofString "law") 318, Value.str (Str.ofString "/claim/cut.py") 319, Value.int 85 0, Value.int 1 0, Value.int 0 0, Value.int 0 0, Value.int 3 0, Value.ref 113, Value.bool true, Value.int 181 0, Value.ref 114, Value.none, Value.none, Value.none, Value.ref 115, Value.int 320 0, Value.int 85 0, Value.str (Str.ofString "/claim/cut.py") 321] }),
  (117, { cls := .type "function", data := .func (fo (stA 20) "law" (Value.str (Str.ofString "law_uf040010_01") 254) 116) })]
noncomputable def asK : List Nat := [2, 3, 6, 15, 22, 23, 24, 25, 28, 35, 36, 37, 40, 43, 44, 45, 48, 49, 50, 53, 54, 55, 57, 58, 60, 61, 62, 64, 65, 67, 68, 69, 72, 73, 74, 76, 77, 79, 80, 81, 84, 85, 86, 88, 89, 91, 92, 93, 96, 97, 98, 101, 102, 103, 106, 107, 108, 111, 112, 113, 116, 117]
noncomputable def kept : Stmt → Bool
  | .Assign [.Name x _] _ _ => x != "__name__"
  | _ => true
noncomputable def view : Program := { pw_uf040010_01 with main := { pw_uf040010_01.main with body := pw_uf040010_01.main.body.filter kept } }
noncomputable def lawD : DefRec := match (stA 20) with
  | .FunctionDef n a b _ _ _ sc _ _ p => ⟨n, a, b, sc, p⟩
  | _ => ⟨"law", default, [], default, default⟩
noncomputable abbrev hook : Hook := kHook KK asK (fun _ => by kernel_rfl)
theorem left : LeftO rw_uf040010_01.row.prog view [] (fun s => xlAt view [] s && recOk (RowW.records rw_uf040010_01.row.toRowW) s) hook.obs hook.val 1774 := left_of (by
  intro w
  kernel_rfl)
theorem said : rw_uf040010_01.wellSaid = true := by kernel_rfl
end
end Mine.L1
end

section
open PySem PyProof.Rows PySem.Calls
set_option maxHeartbeats 4000000
set_option linter.unusedVariables false
namespace Mine.L1
open Mine Mine.St
noncomputable abbrev fd_is_name : FuncData := (fo (stA 6) "is_name" (Value.str (Str.ofString "snaptree.paths") 223) 43)
noncomputable abbrev fd_checked : FuncData := (fo (stA 7) "checked" (Value.str (Str.ofString "snaptree.paths") 223) 48)
noncomputable abbrev fd_written : FuncData := (fo (stA 8) "written" (Value.str (Str.ofString "snaptree.paths") 223) 53)
noncomputable abbrev fd_read : FuncData := (fo (stA 9) "read" (Value.str (Str.ofString "snaptree.paths") 223) 60)
noncomputable abbrev fd__law_cell_at : FuncData := (fo (stA 11) "_law_cell_at" (Value.str (Str.ofString "law_uf040010_01") 254) 67)
noncomputable abbrev fd__law_name_by : FuncData := (fo (stA 12) "_law_name_by" (Value.str (Str.ofString "law_uf040010_01") 254) 72)
noncomputable abbrev fd__law_sign_by : FuncData := (fo (stA 13) "_law_sign_by" (Value.str (Str.ofString "law_uf040010_01") 254) 79)
noncomputable abbrev fd__law_is_name : FuncData := (fo (stA 14) "_law_is_name" (Value.str (Str.ofString "law_uf040010_01") 254) 84)
noncomputable abbrev fd__law_refused : FuncData := (fo (stA 15) "_law_refused" (Value.str (Str.ofString "law_uf040010_01") 254) 91)
noncomputable abbrev fd__law_names : FuncData := (fo (stA 16) "_law_names" (Value.str (Str.ofString "law_uf040010_01") 254) 96)
noncomputable abbrev fd__law_text_due : FuncData := (fo (stA 17) "_law_text_due" (Value.str (Str.ofString "law_uf040010_01") 254) 101)
noncomputable abbrev fd__law_checked : FuncData := (fo (stA 18) "_law_checked" (Value.str (Str.ofString "law_uf040010_01") 254) 106)
noncomputable abbrev fd__law_line : FuncData := (fo (stA 19) "_law_line" (Value.str (Str.ofString "law_uf040010_01") 254) 111)
noncomputable abbrev fd_law : FuncData := (fo (stA 20) "law" (Value.str (Str.ofString "law_uf040010_01") 254) 116)
theorem d_is_name {P : Pm} {G : Gx} {n : Nat} (Y : PmOk P) (B : BltOk P) (GO : GxOk P G) (FN : SndFn P G n) (hm : Bool) : SS P G n hm (scOf (stA 6)) (bodyOf (stA 6)) b_is_name := (ss_cons (s1_if (st_bop (sts_more (st_not (st_of_se (se_isi Y B GO rfl rfl rfl rfl rfl (se_loc rfl)) rfl)) (sts_one (st_not (st_cmp2 Y se_int (se_bf Y B rfl rfl rfl rfl (ses_cons rfl (se_loc rfl) ses_nil)) (se_glob Y GO rfl) rfl))))) (ss_cons (s1_ret se_bool) ss_nil) ss_nil) (ss_cons (s1_ret (se_bf Y B rfl rfl rfl rfl (ses_cons rfl (se_comp rfl rfl (se_loc rfl) (se_cmp Y (se_loc rfl) (se_glob Y GO rfl) rfl) STall.nil) ses_nil))) ss_nil))
theorem at_is_name {P : Pm} (Y : PmOk P) (B : BltOk P) (hK : P.K = KK P.w.params) : RowOk P (44, (["thing"], b_is_name)) :=
  row1 (fd := fd_is_name) (body := bodyOf (stA 6)) Y hK (by kernel_rfl) (by kernel_rfl) (by kernel_rfl) ⟨rfl, rfl, rfl⟩ (fun GO FN hm => d_is_name Y B GO FN hm) (fun _ => rfl)
theorem d_checked {P : Pm} {G : Gx} {n : Nat} (Y : PmOk P) (B : BltOk P) (GO : GxOk P G) (FN : SndFn P G n) (hm : Bool) : SS P G n hm (scOf (stA 7)) (bodyOf (stA 7)) b_checked := (ss_cons (s1_if (st_bop (sts_more (st_not (st_of_se (se_isi_lt Y B rfl rfl rfl rfl (se_loc rfl)) rfl)) (sts_one (st_cmp Y (se_bf Y B rfl rfl rfl rfl (ses_cons rfl (se_loc rfl) ses_nil)) (se_glob Y GO rfl) rfl)))) (ss_cons (s1_raise Y GO rfl) ss_nil) ss_nil) (ss_cons (s1_if (st_not (st_of_se (se_bf Y B rfl rfl rfl rfl (ses_cons rfl (se_comp rfl rfl (se_loc rfl) (se_call Y GO FN rfl (se_glob Y GO rfl) (ses_cons rfl (se_loc rfl) ses_nil)) STall.nil) ses_nil)) rfl)) (ss_cons (s1_raise Y GO rfl) ss_nil) ss_nil) (ss_cons (s1_ret (se_bf Y B rfl rfl rfl rfl (ses_cons rfl (se_loc rfl) ses_nil))) ss_nil)))
theorem at_checked {P : Pm} (Y : PmOk P) (B : BltOk P) (hK : P.K = KK P.w.params) : RowOk P (49, (["path"], b_checked)) :=
  row1 (fd := fd_checked) (body := bodyOf (stA 7)) Y hK (by kernel_rfl) (by kernel_rfl) (by kernel_rfl) ⟨rfl, rfl, rfl⟩ (fun GO FN hm => d_checked Y B GO FN hm) (fun _ => rfl)
theorem d_written {P : Pm} {G : Gx} {n : Nat} (Y : PmOk P) (B : BltOk P) (GO : GxOk P G) (FN : SndFn P G n) (hm : Bool) : SS P G n hm (scOf (stA 8)) (bodyOf (stA 8)) b_written := (ss_cons (s1_asg rfl rfl (se_call Y GO FN rfl (se_glob Y GO rfl) (ses_cons rfl (se_loc rfl) ses_nil))) (ss_cons (s1_if (st_cmp Y (se_loc rfl) (se_list ses_nil) rfl) (ss_cons (s1_ret se_str) ss_nil) ss_nil) (ss_cons (s1_ret (se_bm rfl rfl rfl rfl (Nat.le_of_ble_eq_true rfl) se_str (ses_cons rfl (se_comp rfl rfl (se_loc rfl) (se_bin se_str (se_loc rfl)) STall.nil) ses_nil))) ss_nil)))
theorem at_written {P : Pm} (Y : PmOk P) (B : BltOk P) (hK : P.K = KK P.w.params) : RowOk P (54, (["path"], b_written)) :=
  row1 (fd := fd_written) (body := bodyOf (stA 8)) Y hK (by kernel_rfl) (by kernel_rfl) (by kernel_rfl) ⟨rfl, rfl, rfl⟩ (fun GO FN hm => d_written Y B GO FN hm) (fun _ => rfl)
theorem d_read {P : Pm} {G : Gx} {n : Nat} (Y : PmOk P) (B : BltOk P) (GO : GxOk P G) (FN : SndFn P G n) (hm : Bool) : SS P G n hm (scOf (stA 9)) (bodyOf (stA 9)) b_read := (ss_cons (s1_if (st_bop (sts_more (st_not (st_of_se (se_isi Y B GO rfl rfl rfl rfl rfl (se_loc rfl)) rfl)) (sts_one (st_cmp Y (se_slice (se_loc rfl) so_none (so_some se_int)) se_str rfl)))) (ss_cons (s1_raise Y GO rfl) ss_nil) ss_nil) (ss_cons (s1_if (st_cmp Y (se_loc rfl) se_str rfl) (ss_cons (s1_ret (se_list ses_nil)) ss_nil) ss_nil) (ss_cons (s1_ret (se_call Y GO FN rfl (se_glob Y GO rfl) (ses_cons rfl (se_bm rfl rfl rfl rfl (Nat.le_of_ble_eq_true rfl) (se_slice (se_loc rfl) (so_some se_int) so_none) (ses_cons rfl se_str ses_nil)) ses_nil))) ss_nil)))
theorem at_read {P : Pm} (Y : PmOk P) (B : BltOk P) (hK : P.K = KK P.w.params) : RowOk P (61, (["line"], b_read)) :=
  row1 (fd := fd_read) (body := bodyOf (stA 9)) Y hK (by kernel_rfl) (by kernel_rfl) (by kernel_rfl) ⟨rfl, rfl, rfl⟩ (fun GO FN hm => d_read Y B GO FN hm) (fun _ => rfl)
theorem d__law_cell_at {P : Pm} {G : Gx} {n : Nat} (Y : PmOk P) (B : BltOk P) (GO : GxOk P G) (FN : SndFn P G n) (hm : Bool) : SS P G n hm (scOf (stA 11)) (bodyOf (stA 11)) b__law_cell_at := (ss_cons (s1_if (st_cmp Y (se_loc rfl) (se_bf Y B rfl rfl rfl rfl (ses_cons rfl (se_loc rfl) ses_nil)) rfl) (ss_cons (s1_ret (se_idx1 (se_loc rfl) (se_loc rfl) rfl)) ss_nil) ss_nil) (ss_cons (s1_ret se_int) ss_nil))
theorem at__law_cell_at {P : Pm} (Y : PmOk P) (B : BltOk P) (hK : P.K = KK P.w.params) : RowOk P (68, (["_law_script", "_law_k"], b__law_cell_at)) :=
  row2 (fd := fd__law_cell_at) (body := bodyOf (stA 11)) Y hK (by kernel_rfl) (by kernel_rfl) (by kernel_rfl) ⟨rfl, rfl, rfl⟩ (fun GO FN hm => d__law_cell_at Y B GO FN hm) (fun _ _ => rfl)
theorem d__law_name_by {P : Pm} {G : Gx} {n : Nat} (Y : PmOk P) (B : BltOk P) (GO : GxOk P G) (FN : SndFn P G n) (hm : Bool) : SS P G n hm (scOf (stA 12)) (bodyOf (stA 12)) b__law_name_by := (ss_cons (s1_asg rfl rfl se_str) (ss_cons (s1_ret (se_bm rfl rfl rfl rfl (Nat.le_of_ble_eq_true rfl) se_str (ses_cons rfl (se_comp rfl rfl (se_bf Y B rfl rfl rfl rfl (ses_cons rfl (se_bin se_int (se_bin (se_loc rfl) se_int)) ses_nil)) (se_idx1 (se_loc rfl) (se_bin (se_bin (se_bin (se_loc rfl) se_int) (se_bin (se_loc rfl) (se_bin se_int (se_bin (se_bin (se_loc rfl) se_int) se_int)))) se_int) rfl) STall.nil) ses_nil))) ss_nil))
theorem at__law_name_by {P : Pm} (Y : PmOk P) (B : BltOk P) (hK : P.K = KK P.w.params) : RowOk P (73, (["_law_cell"], b__law_name_by)) :=
  row1 (fd := fd__law_name_by) (body := bodyOf (stA 12)) Y hK (by kernel_rfl) (by kernel_rfl) (by kernel_rfl) ⟨rfl, rfl, rfl⟩ (fun GO FN hm => d__law_name_by Y B GO FN hm) (fun _ => rfl)
theorem d__law_sign_by {P : Pm} {G : Gx} {n : Nat} (Y : PmOk P) (B : BltOk P) (GO : GxOk P G) (FN : SndFn P G n) (hm : Bool) : SS P G n hm (scOf (stA 13)) (bodyOf (stA 13)) b__law_sign_by := (ss_cons (s1_asg rfl rfl se_str) (ss_cons (s1_asg rfl rfl (se_bin (se_loc rfl) se_str)) (ss_cons (s1_ret (se_idx1 (se_loc rfl) (se_bin (se_loc rfl) se_int) rfl)) ss_nil)))
theorem at__law_sign_by {P : Pm} (Y : PmOk P) (B : BltOk P) (hK : P.K = KK P.w.params) : RowOk P (80, (["_law_cell"], b__law_sign_by)) :=
  row1 (fd := fd__law_sign_by) (body := bodyOf (stA 13)) Y hK (by kernel_rfl) (by kernel_rfl) (by kernel_rfl) ⟨rfl, rfl, rfl⟩ (fun GO FN hm => d__law_sign_by Y B GO FN hm) (fun _ => rfl)
theorem d__law_is_name {P : Pm} {G : Gx} {n : Nat} (Y : PmOk P) (B : BltOk P) (GO : GxOk P G) (FN : SndFn P G n) (hm : Bool) : SS P G n hm (scOf (stA 14)) (bodyOf (stA 14)) b__law_is_name := (ss_cons (s1_if (st_bop (sts_more (st_not (st_of_se (se_isi Y B GO rfl rfl rfl rfl rfl (se_loc rfl)) rfl)) (sts_more (st_cmp Y (se_bf Y B rfl rfl rfl rfl (ses_cons rfl (se_loc rfl) ses_nil)) se_int rfl) (sts_one (st_cmp Y (se_bf Y B rfl rfl rfl rfl (ses_cons rfl (se_loc rfl) ses_nil)) se_int rfl))))) (ss_cons (s1_ret se_bool) ss_nil) ss_nil) (ss_cons (s1_ret (se_bf Y B rfl rfl rfl rfl (ses_cons rfl (se_comp rfl rfl (se_loc rfl) (se_cmp Y (se_loc rfl) se_str rfl) STall.nil) ses_nil))) ss_nil))
theorem at__law_is_name {P : Pm} (Y : PmOk P) (B : BltOk P) (hK : P.K = KK P.w.params) : RowOk P (85, (["_law_thing"], b__law_is_name)) :=
  row1 (fd := fd__law_is_name) (body := bodyOf (stA 14)) Y hK (by kernel_rfl) (by kernel_rfl) (by kernel_rfl) ⟨rfl, rfl, rfl⟩ (fun GO FN hm => d__law_is_name Y B GO FN hm) (fun _ => rfl)
theorem d__law_refused {P : Pm} {G : Gx} {n : Nat} (Y : PmOk P) (B : BltOk P) (GO : GxOk P G) (FN : SndFn P G n) (hm : Bool) : SS P G n hm (scOf (stA 15)) (bodyOf (stA 15)) b__law_refused := (ss_cons (s1_try Y GO (ss_cons (s1_expr rfl (se_call Y GO FN rfl (se_loc rfl) (ses_cons rfl (se_loc rfl) ses_nil))) ss_nil) (SH.as rfl rfl (ss_cons (s1_ret (se_bop1 (sbs_cons (se_isi_cls Y B GO rfl rfl rfl (se_loc rfl)) (sbs_one (se_isi Y B GO rfl rfl rfl rfl rfl (se_loc rfl)))))) ss_nil) SH.nil)) (ss_cons (s1_ret se_bool) ss_nil))
theorem at__law_refused {P : Pm} (Y : PmOk P) (B : BltOk P) (hK : P.K = KK P.w.params) : RowOk P (92, (["_law_ask", "_law_thing"], b__law_refused)) :=
  row2 (fd := fd__law_refused) (body := bodyOf (stA 15)) Y hK (by kernel_rfl) (by kernel_rfl) (by kernel_rfl) ⟨rfl, rfl, rfl⟩ (fun GO FN hm => d__law_refused Y B GO FN hm) (fun _ _ => rfl)
theorem d__law_names {P : Pm} {G : Gx} {n : Nat} (Y : PmOk P) (B : BltOk P) (GO : GxOk P G) (FN : SndFn P G n) (hm : Bool) : SS P G n hm (scOf (stA 16)) (bodyOf (stA 16)) b__law_names := (ss_cons (s1_if (st_bop (sts_more (st_not (st_of_se (se_isi Y B GO rfl rfl rfl rfl rfl (se_loc rfl)) rfl)) (sts_one (st_cmp Y (se_bf Y B rfl rfl rfl rfl (ses_cons rfl (se_loc rfl) ses_nil)) (se_bf Y B rfl rfl rfl rfl (ses_cons rfl (se_loc rfl) ses_nil)) rfl)))) (ss_cons (s1_ret se_bool) ss_nil) ss_nil) (ss_cons (s1_ret (se_bf Y B rfl rfl rfl rfl (ses_cons rfl (se_comp rfl rfl (se_bf Y B rfl rfl rfl rfl (ses_cons rfl (se_bf Y B rfl rfl rfl rfl (ses_cons rfl (se_loc rfl) ses_nil)) ses_nil)) (se_bop1 (sbs_cons (se_isi Y B GO rfl rfl rfl rfl rfl (se_idx1 (se_loc rfl) (se_loc rfl) rfl)) (sbs_one (se_cmp Y (se_idx1 (se_loc rfl) (se_loc rfl) rfl) (se_idx1 (se_loc rfl) (se_loc rfl) rfl) rfl)))) STall.nil) ses_nil))) ss_nil))
theorem at__law_names {P : Pm} (Y : PmOk P) (B : BltOk P) (hK : P.K = KK P.w.params) : RowOk P (97, (["_law_seen", "_law_due"], b__law_names)) :=
  row2 (fd := fd__law_names) (body := bodyOf (stA 16)) Y hK (by kernel_rfl) (by kernel_rfl) (by kernel_rfl) ⟨rfl, rfl, rfl⟩ (fun GO FN hm => d__law_names Y B GO FN hm) (fun _ _ => rfl)
theorem d__law_text_due {P : Pm} {G : Gx} {n : Nat} (Y : PmOk P) (B : BltOk P) (GO : GxOk P G) (FN : SndFn P G n) (hm : Bool) : SS P G n hm (scOf (stA 17)) (bodyOf (stA 17)) b__law_text_due := (ss_cons (s1_if (st_cmp Y (se_loc rfl) se_str rfl) (ss_cons (s1_ret (se_list ses_nil)) ss_nil) ss_nil) (ss_cons (s1_if (st_cmp Y (se_slice (se_loc rfl) so_none (so_some se_int)) se_str rfl) (ss_cons (s1_ret se_none) ss_nil) ss_nil) (ss_cons (s1_asg rfl rfl (se_bm rfl rfl rfl rfl (Nat.le_of_ble_eq_true rfl) (se_slice (se_loc rfl) (so_some se_int) so_none) (ses_cons rfl se_str ses_nil))) (ss_cons (s1_if (st_bop (sts_more (st_cmp Y (se_bf Y B rfl rfl rfl rfl (ses_cons rfl (se_loc rfl) ses_nil)) se_int rfl) (sts_one (st_not (st_of_se (se_bf Y B rfl rfl rfl rfl (ses_cons rfl (se_comp rfl rfl (se_loc rfl) (se_call Y GO FN rfl (se_glob Y GO rfl) (ses_cons rfl (se_loc rfl) ses_nil)) STall.nil) ses_nil)) rfl))))) (ss_cons (s1_ret se_none) ss_nil) ss_nil) (ss_cons (s1_ret (se_loc rfl)) ss_nil)))))
theorem at__law_text_due {P : Pm} (Y : PmOk P) (B : BltOk P) (hK : P.K = KK P.w.params) : RowOk P (102, (["_law_line_here"], b__law_text_due)) :=
  row1 (fd := fd__law_text_due) (body := bodyOf (stA 17)) Y hK (by kernel_rfl) (by kernel_rfl) (by kernel_rfl) ⟨rfl, rfl, rfl⟩ (fun GO FN hm => d__law_text_due Y B GO FN hm) (fun _ => rfl)
theorem d__law_checked {P : Pm} {G : Gx} {n : Nat} (Y : PmOk P) (B : BltOk P) (GO : GxOk P G) (FN : SndFn P G n) (hm : Bool) : SS P G n hm (scOf (stA 18)) (bodyOf (stA 18)) b__law_checked := (ss_cons (s1_asg rfl rfl (se_bop1 (sbs_cons (se_cmp Y (se_bf Y B rfl rfl rfl rfl (ses_cons rfl (se_loc rfl) ses_nil)) se_int rfl) (sbs_one (se_bf Y B rfl rfl rfl rfl (ses_cons rfl (se_comp rfl rfl (se_loc rfl) (se_call Y GO FN rfl (se_glob Y GO rfl) (ses_cons rfl (se_loc rfl) ses_nil)) STall.nil) ses_nil)))))) (ss_cons (s1_if (st_not (st_of_se (se_loc rfl) rfl)) (ss_cons (s1_ret (se_bop1 (sbs_cons (se_call Y GO FN rfl (se_glob Y GO rfl) (ses_cons rfl (se_glob Y GO rfl) (ses_cons rfl (se_loc rfl) ses_nil))) (sbs_one (se_call Y GO FN rfl (se_glob Y GO rfl) (ses_cons rfl (se_glob Y GO rfl) (ses_cons rfl (se_loc rfl) ses_nil))))))) ss_nil) ss_nil) (ss_cons (s1_if (st_bop (sts_more (st_of_se (se_call Y GO FN rfl (se_glob Y GO rfl) (ses_cons rfl (se_glob Y GO rfl) (ses_cons rfl (se_loc rfl) ses_nil))) rfl) (sts_one (st_of_se (se_call Y GO FN rfl (se_glob Y GO rfl) (ses_cons rfl (se_glob Y GO rfl) (ses_cons rfl (se_loc rfl) ses_nil))) rfl)))) (ss_cons (s1_ret se_bool) ss_nil) ss_nil) (ss_cons (s1_asg rfl rfl (se_call Y GO FN rfl (se_glob Y GO rfl) (ses_cons rfl (se_loc rfl) ses_nil))) (ss_cons (s1_asg rfl rfl (se_call Y GO FN rfl (se_glob Y GO rfl) (ses_cons rfl (se_loc rfl) ses_nil))) (ss_cons (s1_if (st_bop (sts_more (st_not (st_of_se (se_call Y GO FN rfl (se_glob Y GO rfl) (ses_cons rfl (se_loc rfl) (ses_cons rfl (se_loc rfl) ses_nil))) rfl)) (sts_more (st_not (st_of_se (se_isi Y B GO rfl rfl rfl rfl rfl (se_loc rfl)) rfl)) (sts_one (st_cmp Y (se_loc rfl) (se_bin se_str (se_bm rfl rfl rfl rfl (Nat.le_of_ble_eq_true rfl) se_str (ses_cons rfl (se_loc rfl) ses_nil))) rfl))))) (ss_cons (s1_ret se_bool) ss_nil) ss_nil) (ss_cons (s1_expr rfl (se_bm rfl rfl rfl rfl (Nat.le_of_ble_eq_true rfl) (se_loc rfl) (ses_cons rfl se_str ses_nil))) (ss_cons (s1_ret (se_bop1 (sbs_cons (se_cmp Y (se_bf Y B rfl rfl rfl rfl (ses_cons rfl (se_loc rfl) ses_nil)) (se_bf Y B rfl rfl rfl rfl (ses_cons rfl (se_loc rfl) ses_nil)) rfl) (sbs_one (se_call Y GO FN rfl (se_glob Y GO rfl) (ses_cons rfl (se_bf Y B rfl rfl rfl rfl (ses_cons rfl (se_loc rfl) ses_nil)) (ses_cons rfl (se_loc rfl) ses_nil))))))) ss_nil))))))))
theorem at__law_checked {P : Pm} (Y : PmOk P) (B : BltOk P) (hK : P.K = KK P.w.params) : RowOk P (107, (["_law_names_here", "_law_handed"], b__law_checked)) :=
  row2 (fd := fd__law_checked) (body := bodyOf (stA 18)) Y hK (by kernel_rfl) (by kernel_rfl) (by kernel_rfl) ⟨rfl, rfl, rfl⟩ (fun GO FN hm => d__law_checked Y B GO FN hm) (fun _ _ => rfl)
theorem d__law_line {P : Pm} {G : Gx} {n : Nat} (Y : PmOk P) (B : BltOk P) (GO : GxOk P G) (FN : SndFn P G n) (hm : Bool) : SS P G n hm (scOf (stA 19)) (bodyOf (stA 19)) b__law_line := (ss_cons (s1_asg rfl rfl (se_bin se_str (se_bm rfl rfl rfl rfl (Nat.le_of_ble_eq_true rfl) se_str (ses_cons rfl (se_comp rfl rfl (se_loc rfl) (se_loc rfl) (STall.cons (st_of_se (se_isi Y B GO rfl rfl rfl rfl rfl (se_loc rfl)) rfl) STall.nil)) ses_nil)))) (ss_cons (s1_asg rfl rfl (se_bin (se_loc rfl) (se_bin (se_bf Y B rfl rfl rfl rfl (ses_cons rfl (se_loc rfl) ses_nil)) se_int))) (ss_cons (s1_if (st_cmp Y (se_bin (se_loc rfl) se_int) se_int rfl) (ss_cons (s1_ret (se_bin (se_bin (se_slice (se_loc rfl) so_none (so_some (se_loc rfl))) (se_idx1 (se_list (ses_cons rfl (se_call Y GO FN rfl (se_glob Y GO rfl) (ses_cons rfl (se_bin (se_loc rfl) se_int) ses_nil)) (ses_cons rfl se_str ses_nil))) (se_bin (se_bin (se_loc rfl) se_int) se_int) rfl)) (se_slice (se_loc rfl) (so_some (se_loc rfl)) so_none))) ss_nil) ss_nil) (ss_cons (s1_if (st_cmp Y (se_bin (se_loc rfl) se_int) se_int rfl) (ss_cons (s1_ret (se_bin (se_slice (se_loc rfl) so_none (so_some (se_loc rfl))) (se_slice (se_loc rfl) (so_some (se_bin (se_loc rfl) se_int)) so_none))) ss_nil) ss_nil) (ss_cons (s1_ret (se_loc rfl)) ss_nil)))))
theorem at__law_line {P : Pm} (Y : PmOk P) (B : BltOk P) (hK : P.K = KK P.w.params) : RowOk P (112, (["_law_names_here", "_law_cell", "_law_place"], b__law_line)) :=
  row3 (fd := fd__law_line) (body := bodyOf (stA 19)) Y hK (by kernel_rfl) (by kernel_rfl) (by kernel_rfl) ⟨rfl, rfl, rfl⟩ (fun GO FN hm => d__law_line Y B GO FN hm) (fun _ _ _ => rfl)
theorem d_law {P : Pm} {G : Gx} {n : Nat} (Y : PmOk P) (B : BltOk P) (GO : GxOk P G) (FN : SndFn P G n) (hm : Bool) : SS P G n hm (scOf (stA 20)) (bodyOf (stA 20)) b_law := (ss_cons (s1_asg rfl rfl (se_list (ses_cons rfl se_str (ses_cons rfl se_str (ses_cons rfl se_str (ses_cons rfl se_int (ses_cons rfl se_none (ses_cons rfl se_bool (ses_cons rfl (se_list (ses_cons rfl se_str ses_nil)) (ses_cons rfl (se_tup (ses_cons rfl se_str (ses_cons rfl se_str ses_nil))) (ses_cons rfl se_dict1 ses_nil))))))))))) (ss_cons (s1_asg rfl rfl (se_call Y GO FN rfl (se_glob Y GO rfl) (ses_cons rfl (se_bin (se_call Y GO FN rfl (se_glob Y GO rfl) (ses_cons rfl (se_loc rfl) (ses_cons rfl se_int ses_nil))) se_int) ses_nil))) (ss_cons (s1_asg rfl rfl (se_bin (se_loc rfl) (se_list (ses_cons rfl (se_loc rfl) (ses_cons rfl (se_bin se_str (se_loc rfl)) (ses_cons rfl (se_bin (se_loc rfl) se_str) (ses_cons rfl (se_bin (se_bin se_str (se_loc rfl)) se_str) ses_nil))))))) (ss_cons (s1_asgComp rfl rfl rfl (se_bf Y B rfl rfl rfl rfl (ses_cons rfl (se_bin (se_call Y GO FN rfl (se_glob Y GO rfl) (ses_cons rfl (se_loc rfl) (ses_cons rfl se_int ses_nil))) se_int) ses_nil)) (se_call Y GO FN rfl (se_glob Y GO rfl) (ses_cons rfl (se_call Y GO FN rfl (se_glob Y GO rfl) (ses_cons rfl (se_loc rfl) (ses_cons rfl (se_bin se_int (se_loc rfl)) ses_nil))) ses_nil)) STall.nil) (ss_cons (s1_asg rfl rfl (se_bin (se_call Y GO FN rfl (se_glob Y GO rfl) (ses_cons rfl (se_loc rfl) (ses_cons rfl se_int ses_nil))) se_int)) (ss_cons (s1_if (st_bop (sts_more (st_cmp Y (se_bin (se_loc rfl) se_int) se_int rfl) (sts_one (st_cmp Y (se_loc rfl) (se_list ses_nil) rfl)))) (ss_cons (s1_asgIdx Y (se_loc rfl) (se_bin (se_call Y GO FN rfl (se_glob Y GO rfl) (ses_cons rfl (se_loc rfl) (ses_cons rfl se_int ses_nil))) (se_bf Y B rfl rfl rfl rfl (ses_cons rfl (se_loc rfl) ses_nil))) (se_idx1 (se_loc rfl) (se_bin (se_bin (se_call Y GO FN rfl (se_glob Y GO rfl) (ses_cons rfl (se_loc rfl) (ses_cons rfl se_int ses_nil))) se_int) se_int) rfl)) ss_nil) ss_nil) (ss_cons (s1_for rfl rfl (se_bin (se_loc rfl) (se_list (ses_cons rfl (se_idx1 (se_loc rfl) (se_bin (se_call Y GO FN rfl (se_glob Y GO rfl) (ses_cons rfl (se_loc rfl) (ses_cons rfl se_int ses_nil))) se_int) rfl) ses_nil))) (ss_cons (s1_asg rfl rfl (se_call Y GO FN rfl (se_glob Y GO rfl) (ses_cons rfl (se_loc rfl) ses_nil))) (ss_cons (s1_if (st_bop (sts_more (st_not (st_of_se (se_isi Y B GO rfl rfl rfl rfl rfl (se_loc rfl)) rfl)) (sts_one (st_cmp Y (se_loc rfl) (se_call Y GO FN rfl (se_glob Y GO rfl) (ses_cons rfl (se_loc rfl) ses_nil)) rfl)))) (ss_cons (s1_ret se_bool) ss_nil) ss_nil) ss_nil))) (ss_cons (s1_asg rfl rfl (se_bf Y B rfl rfl rfl rfl (ses_cons rfl (se_loc rfl) ses_nil))) (ss_cons (s1_if (st_cmp Y (se_bin (se_bin (se_loc rfl) se_int) se_int) se_int rfl) (ss_cons (s1_asg rfl rfl (se_bf Y B rfl rfl rfl rfl (ses_cons rfl (se_loc rfl) ses_nil))) ss_nil) ss_nil) (ss_cons (s1_if (st_not (st_of_se (se_call Y GO FN rfl (se_glob Y GO rfl) (ses_cons rfl (se_loc rfl) (ses_cons rfl (se_loc rfl) ses_nil))) rfl)) (ss_cons (s1_ret se_bool) ss_nil) ss_nil) (ss_cons (s1_asg rfl rfl (se_idx1 (se_list (ses_cons rfl se_none (ses_cons rfl se_str (ses_cons rfl se_int (ses_cons rfl se_dict1 (ses_cons rfl se_dict0 (ses_cons rfl se_bool ses_nil))))))) (se_bin (se_call Y GO FN rfl (se_glob Y GO rfl) (ses_cons rfl (se_loc rfl) (ses_cons rfl se_int ses_nil))) se_int) rfl)) (ss_cons (s1_if (st_bop (sts_more (st_not (st_of_se (se_call Y GO FN rfl (se_glob Y GO rfl) (ses_cons rfl (se_glob Y GO rfl) (ses_cons rfl (se_loc rfl) ses_nil))) rfl)) (sts_one (st_not (st_of_se (se_call Y GO FN rfl (se_glob Y GO rfl) (ses_cons rfl (se_glob Y GO rfl) (ses_cons rfl (se_loc rfl) ses_nil))) rfl))))) (ss_cons (s1_ret se_bool) ss_nil) ss_nil) (ss_cons (s1_if (st_not (st_of_se (se_call Y GO FN rfl (se_glob Y GO rfl) (ses_cons rfl (se_glob Y GO rfl) (ses_cons rfl (se_idx1 (se_list (ses_cons rfl se_int (ses_cons rfl se_none (ses_cons rfl (se_list (ses_cons rfl se_str ses_nil)) (ses_cons rfl (se_tup (ses_cons rfl se_str (ses_cons rfl se_str ses_nil))) (ses_cons rfl se_bool (ses_cons rfl se_dict0 ses_nil))))))) (se_bin (se_call Y GO FN rfl (se_glob Y GO rfl) (ses_cons rfl (se_loc rfl) (ses_cons rfl se_int ses_nil))) se_int) rfl) ses_nil))) rfl)) (ss_cons (s1_ret se_bool) ss_nil) ss_nil) (ss_cons (s1_asg rfl rfl (se_call Y GO FN rfl (se_glob Y GO rfl) (ses_cons rfl (se_loc rfl) (ses_cons rfl (se_bin (se_call Y GO FN rfl (se_glob Y GO rfl) (ses_cons rfl (se_loc rfl) (ses_cons rfl se_int ses_nil))) se_int) (ses_cons rfl (se_call Y GO FN rfl (se_glob Y GO rfl) (ses_cons rfl (se_loc rfl) (ses_cons rfl se_int ses_nil))) ses_nil))))) (ss_cons (s1_asg rfl rfl (se_call Y GO FN rfl (se_glob Y GO rfl) (ses_cons rfl (se_loc rfl) ses_nil))) (ss_cons (s1_asg rfl rfl (se_call Y GO FN rfl (se_glob Y GO rfl) (ses_cons rfl (se_glob Y GO rfl) (ses_cons rfl (se_loc rfl) ses_nil)))) (ss_cons (s1_if (st_cmp Y (se_loc rfl) se_none rfl) (ss_cons (s1_ret (se_loc rfl)) ss_nil) ss_nil) (ss_cons (s1_ret (se_bop1 (sbs_cons (se_not (se_loc rfl)) (sbs_one (se_call Y GO FN rfl (se_glob Y GO rfl) (ses_cons rfl (se_call Y GO FN rfl (se_glob Y GO rfl) (ses_cons rfl (se_loc rfl) ses_nil)) (ses_cons rfl (se_loc rfl) ses_nil))))))) ss_nil))))))))))))))))))
theorem at_law {P : Pm} (Y : PmOk P) (B : BltOk P) (hK : P.K = KK P.w.params) : RowOk P (117, (["_law_script"], b_law)) :=
  row1 (fd := fd_law) (body := bodyOf (stA 20)) Y hK (by kernel_rfl) (by kernel_rfl) (by kernel_rfl) ⟨rfl, rfl, rfl⟩ (fun GO FN hm => d_law Y B GO FN hm) (fun _ => rfl)
noncomputable def tabL : List (Addr × (List Str × List Sm)) := [((44 : Addr), ((["thing"] : List Str), b_is_name)), ((49 : Addr), ((["path"] : List Str), b_checked)), ((54 : Addr), ((["path"] : List Str), b_written)), ((61 : Addr), ((["line"] : List Str), b_read)), ((68 : Addr), ((["_law_script", "_law_k"] : List Str), b__law_cell_at)), ((73 : Addr), ((["_law_cell"] : List Str), b__law_name_by)), ((80 : Addr), ((["_law_cell"] : List Str), b__law_sign_by)), ((85 : Addr), ((["_law_thing"] : List Str), b__law_is_name)), ((92 : Addr), ((["_law_ask", "_law_thing"] : List Str), b__law_refused)), ((97 : Addr), ((["_law_seen", "_law_due"] : List Str), b__law_names)), ((102 : Addr), ((["_law_line_here"] : List Str), b__law_text_due)), ((107 : Addr), ((["_law_names_here", "_law_handed"] : List Str), b__law_checked)), ((112 : Addr), ((["_law_names_here", "_law_cell", "_law_place"] : List Str), b__law_line)), ((117 : Addr), ((["_law_script"] : List Str), b_law))]
noncomputable def tab : Tab := fun f => tabL.lookup f
theorem tab_ok {P : Pm} (Y : PmOk P) (B : BltOk P) (hK : P.K = KK P.w.params) : TabOk P tab := tabOk_of (L := tabL) (.cons (at_is_name Y B hK) (.cons (at_checked Y B hK) (.cons (at_written Y B hK) (.cons (at_read Y B hK) (.cons (at__law_cell_at Y B hK) (.cons (at__law_name_by Y B hK) (.cons (at__law_sign_by Y B hK) (.cons (at__law_is_name Y B hK) (.cons (at__law_refused Y B hK) (.cons (at__law_names Y B hK) (.cons (at__law_text_due Y B hK) (.cons (at__law_checked Y B hK) (.cons (at__law_line Y B hK) (.cons (at_law Y B hK) RowsOk.nil))))))))))))))
end Mine.L1
end

section
open PySem PySem.W PyProof.Rows PySem.Challenge
set_option maxHeartbeats 0
namespace Mine.L1
theorem holds_of {names : List Str} (h : LawTells KK names tab 117) : rw_uf040010_01.Holds :=
  holds_law said fun said => holds_open (q := view) (d := lawD) (kwd := []) left (Hook.of hook) (Hook.keeps hook) (fun s e => xl_of s (Bool.and_eq_true_iff.mp e).1) XL.keeps (by kernel_rfl) (by kernel_rfl) (by kernel_rfl) (fun s e => recFacts_of (Bool.and_eq_true_iff.mp e).2) (by rfl) said (by decide +kernel) ⟨rfl, rfl, rfl, rfl, rfl, by decide +kernel⟩ (by w_witness2) (by
  intro w s₀ s₁ mg mb G Y fa o pm cd doc dV kV ho hd hcd hD hmg hg args vals as hpre hlay hrd hwl hlo
  have KX := kIn_of Y
  clear ho hd hcd hD
  refine Ground.open G ?_
  intro T B D TE TW
  wrow_args hpre hlay hrd hwl hlo
  rename_i hL ra w1 r0 hI hr hc hc'
  refine law_runs (K := KK) (names := names) (tab := tab) KX (topRead_of T) hmg rfl (by kernel_rfl) tab_ok hL hI hc h fun s' h1 h2 h3 => GoodW.toG ⟨.inl ⟨.bool true, .bool true, [], rfl, fun _ => rfl, .bool true, by kernel_rfl, fun _ => ⟨.nil, fun _ h => (nomatch h)⟩⟩, h3, h2, h1.trans hg⟩)
end Mine.L1
end

section
open PySem PyProof.Rows
set_option maxHeartbeats 0
namespace Mine.L1
open Mine Mine.St
noncomputable def ae (c m : Str) (a : Addr) : (Str × Str) × Addr := ((c, m), a)
noncomputable def adL : List ((Str × Str) × Addr) := [ae "SnapError" "" 24, ae "BadPath" "" 37, ae "is_name" "" 44, ae "checked" "" 49, ae "written" "" 54, ae "read" "" 61, ae "_law_cell_at" "" 68, ae "_law_name_by" "" 73, ae "_law_sign_by" "" 80, ae "_law_is_name" "" 85, ae "_law_refused" "" 92, ae "_law_names" "" 97, ae "_law_text_due" "" 102, ae "_law_checked" "" 107, ae "_law_line" "" 112, ae "law" "" 117]
noncomputable def ad : Ad := fun c m => (adL.lookup (c, m)).getD 0
noncomputable def names : List Str := ["SnapError", "BadPath"]
noncomputable def Al (P : Str → Prop) : List Str → Prop
  | [] => True
  | x :: r => P x ∧ Al P r
theorem has_al {P : Str → Prop} {m : Str} : ∀ {L : List Str}, has m L = true → Al P L → P m
  | [], h, _ => by cases h
  | x :: r, h, ⟨h1, h2⟩ => by
    have h : (decide (x = m) || has m r) = true := h
    rw [Bool.or_eq_true] at h
    rcases h with h | h
    · rw [← of_decide_eq_true h]; exact h1
    · exact has_al h h2
theorem el (p : Params) : E1 (gOf (KK p) names) ad where
  fn := fun h => has_al (P := fun x => (gOf (KK p) names).glob x = some (.ref (ad x "")) ∧ (gOf (KK p) names).init (ad x "") = none) h ⟨⟨by kernel_rfl, by kernel_rfl⟩, ⟨by kernel_rfl, by kernel_rfl⟩, ⟨by kernel_rfl, by kernel_rfl⟩, ⟨by kernel_rfl, by kernel_rfl⟩, ⟨by kernel_rfl, by kernel_rfl⟩, ⟨by kernel_rfl, by kernel_rfl⟩, ⟨by kernel_rfl, by kernel_rfl⟩, ⟨by kernel_rfl, by kernel_rfl⟩, ⟨by kernel_rfl, by kernel_rfl⟩, ⟨by kernel_rfl, by kernel_rfl⟩, ⟨by kernel_rfl, by kernel_rfl⟩, ⟨by kernel_rfl, by kernel_rfl⟩, ⟨by kernel_rfl, by kernel_rfl⟩, trivial⟩
  letters := by kernel_rfl
  most := by kernel_rfl
  bad := ⟨by kernel_rfl, by kernel_rfl⟩
  snap := ⟨by kernel_rfl, by kernel_rfl⟩
  sub := ⟨by kernel_rfl, by kernel_rfl⟩
theorem tl : TabL tab ad where
  is_name := by unfold HasF; kernel_rfl
  checked := by unfold HasF; kernel_rfl
  written := by unfold HasF; kernel_rfl
  read := by unfold HasF; kernel_rfl
  cell_at := by unfold HasF; kernel_rfl
  name_by := by unfold HasF; kernel_rfl
  sign_by := by unfold HasF; kernel_rfl
  lis_name := by unfold HasF; kernel_rfl
  refused := by unfold HasF; kernel_rfl
  names := by unfold HasF; kernel_rfl
  text_due := by unfold HasF; kernel_rfl
  lchecked := by unfold HasF; kernel_rfl
  line := by unfold HasF; kernel_rfl
  law := by unfold HasF; kernel_rfl
end Mine.L1
end

theorem PySem.Challenge.cw_uf040010_01_holds : PySem.Challenge.rw_uf040010_01.Holds :=
  Mine.L1.holds_of fun p a ns _ => Mine.L1.law_tells (Mine.L1.el p) Mine.L1.tl (H := Mine.hOf a ns) (by unfold Mine.hOf; exact if_pos rfl)
