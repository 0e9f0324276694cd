import PyProof.Rows.All
import OpenK.KMake
import OpenK.KWalk
import OpenK.KMore
import OpenK.KOwn
import KE.KDictSum
import KE.KDictList
import PySem.Challenge.RW_uf040010_04
set_option Elab.async false
set_option linter.unusedVariables false
set_option linter.unusedSimpArgs false
set_option linter.unusedSectionVars false
set_option maxRecDepth 100000

section
open PySem PyProof.Rows PySem.Calls
namespace Mine

/-- a value without its token -/
noncomputable def er : Value → Value
  | .int i _ => .int i 0
  | .float b _ => .float b 0
  | .str x _ => .str x 0
  | .bytes b _ => .bytes b 0
  | v => v

theorem er_int {V : Value} {i : Int} {t : Tok} (h : er V = .int i t) : ∃ u, V = .int i u := by
  cases V <;> simp [er] at h; exact ⟨_, by rw [h.1]⟩
theorem er_str {V : Value} {x : Str} {t : Tok} (h : er V = .str x t) : ∃ u, V = .str x u := by
  cases V <;> simp [er] at h; exact ⟨_, by rw [h.1]⟩
theorem er_bool {V : Value} {b : Bool} (h : er V = .bool b) : V = .bool b := by
  cases V <;> simp [er] at h; rw [h]
theorem er_none {V : Value} (h : er V = .none) : V = .none := by
  cases V <;> simp [er] at h; rfl
theorem er_ref {V : Value} {a : Addr} (h : er V = .ref a) : V = .ref a := by
  cases V <;> simp [er] at h; rw [h]
/-- what an object of the call's own holds (values without tokens) -/
inductive AObj where
  | list (xs : List Value)
  | rlist (xs : List Value)
  | tup (xs : List Value)
  | idict (kvs : List (Int × Value))
  | sdict (kvs : List (Str × Value))
  | inst (C d : Addr)
  | ns (kvs : List (Str × Value))
  | range (lo hi st : Int)
  | exc (C : Addr)

noncomputable abbrev Hp := Addr → Option AObj
noncomputable abbrev Loc := Str → Option Value
noncomputable abbrev QV := Value → Hp → Prop
noncomputable abbrev XV := Addr → Hp → Prop

noncomputable def Hp.upd (H : Hp) (a : Addr) (o : AObj) : Hp := fun b => if b = a then some o else H b
noncomputable def Loc.upd (l : Loc) (x : Str) (v : Value) : Loc := fun y => if y = x then some v else l y
noncomputable def Loc.del (l : Loc) (x : Str) : Loc := fun y => if y = x then none else l y

theorem Hp.upd_same (H : Hp) (a : Addr) (o : AObj) : H.upd a o a = some o := by simp [Hp.upd]
theorem Hp.upd_ne (H : Hp) {a b : Addr} (o : AObj) (h : b ≠ a) : H.upd a o b = H b := by simp [Hp.upd, h]

/-- classes that isinstance is asked about -/
inductive Ty where
  | str | int | bool | list | tuple | listOrTuple | valueError
  | cls (x : Str)
  deriving DecidableEq

inductive Bf where
  | len | list | tuple | sorted | sortedSet | sortedKey0 | dict | int | all | max1 | max2 | min2 | range
  deriving DecidableEq
inductive Bm where
  | append | pop | get | join | split
  deriving DecidableEq

inductive Ex where
  | none
  | bool (b : Bool)
  | int (i : Int)
  | str (x : Str)
  | loc (x : Str)
  | glob (x : Str)
  | attr (o : Ex) (a : Str)
  | bin (op : Operator) (l r : Ex)
  | neg (e : Ex)
  | not (e : Ex)
  | bop (isAnd : Bool) (es : List Ex)
  | cmp (l : Ex) (op : CmpOp) (r : Ex)
  | cmp2 (l : Ex) (op : CmpOp) (m : Ex) (op2 : CmpOp) (r : Ex)
  | isi (e : Ex) (t : Ty)
  | bf (f : Bf) (args : List Ex)
  | bm (m : Bm) (o : Ex) (args : List Ex)
  | call (f : Ex) (args : List Ex)
  | meth (o : Ex) (m : Str) (args : List Ex)
  | idx (o i : Ex)
  | slice (o : Ex) (lo hi : Option Ex)
  | list (es : List Ex)
  | tup (es : List Ex)
  | dict (ks vs : List Ex)
  | comp (elt : Ex) (x : Str) (src : Ex) (ifs : List Ex)

mutual
inductive Sm where
  | expr (e : Ex)
  | asg (x : Str) (e : Ex)
  | asgAttr (o : Ex) (a : Str) (e : Ex)
  | asgIdx (o i e : Ex)
  | ite (c : Ex) (t f : List Sm)
  | for_ (x : Str) (src : Ex) (body : List Sm)
  | while_ (c : Ex) (body : List Sm)
  | ret (e : Ex)
  | raise (c : Str)
  | try_ (body : List Sm) (hs : List Hd)
  | cont
  | pass
inductive Hd where
  | mk (c : Str) (n : Option Str) (body : List Sm)
end

/-! ## what holds of a state -/

/-- fixed for the whole call of the law -/
structure Pm where
  prog : Program
  w : World
  s₀ : Shared
  mg : Str → Option Value
  mb : Str → Option Value
  K : PySem.W.Frag

noncomputable abbrev Pm.base (P : Pm) : Heap := P.s₀.heap
noncomputable abbrev Pm.M (P : Pm) : Model := model P.prog P.w

structure PmOk (P : Pm) : Prop where
  g : P.base.Ns mainGlobals P.mg
  b : P.base.Ns builtinsNs P.mb
  lim : P.base.NoLimit
  kin : P.K.In P.base

/-- the entries of an instance's dict -/
inductive All2 {α β : Type} (R : α → β → Prop) : List α → List β → Prop where
  | nil : All2 R [] []
  | cons {a b as bs} : R a b → All2 R as bs → All2 R (a :: as) (b :: bs)

noncomputable def NsEs (w : World) (es : List DictEntry) (kvs : List (Str × Value)) : Prop :=
  All2 (fun e p => (∃ t, e.key = .str p.1 t) ∧ er e.val = p.2 ∧ e.hash = PyData.keyHash w.params p.1) es kvs

noncomputable def IsL (h : Heap) (a : Addr) (vs : Array Value) : Prop := ∃ n, h.get? a = some { cls := .type "list", dict := none, data := .seq vs n, slots := #[] }

noncomputable def Mt (P : Pm) (h : Heap) (a : Addr) : AObj → Prop
  | .list xs => ∃ vs, h.IsList a vs ∧ vs.toList.map er = xs ∧ xs.length ≤ 2 ^ 25 ∧ IsL h a vs
  | .rlist xs => ∃ vs, h.IsList a vs ∧ vs.toList.map er = xs ∧ xs.length ≤ 2 ^ 25
  | .tup xs => ∃ vs, h.IsTuple a vs ∧ vs.toList.map er = xs ∧ xs.length ≤ 2 ^ 25
  | .idict kvs => ∃ ks, h.DictOf (intKind P.prog P.w) a ks ∧ ks.map (fun p => (p.1, er p.2)) = kvs
  | .sdict kvs => ∃ ks, h.DictOf (PySem.strKind P.prog P.w) a ks ∧ ks.map (fun p => (p.1, er p.2)) = kvs
  | .inst C d => h.get? a = some { cls := .ref C, dict := some d, data := .plain }
  | .ns kvs => ∃ es n, h.get? a = some { cls := .type "dict", data := .dict es n } ∧ NsEs P.w es.toList kvs ∧ (kvs.map (·.1)).Nodup
  | .range lo hi st => ∃ t u v, IsRange h a lo hi st t u v
  | .exc C => ∃ vs sl, h.get? a = some { cls := .ref C, dict := none, data := .fields vs, slots := sl }

theorem Mt.congr {P : Pm} {h h' : Heap} {a : Addr} {o : AObj} (e : h'.get? a = h.get? a) (m : Mt P h a o) : Mt P h' a o := by
  cases o with
  | list xs => obtain ⟨vs, ⟨o, ho, r⟩, q1, q2, n, q3⟩ := m; exact ⟨vs, ⟨o, e.trans ho, r⟩, q1, q2, n, e.trans q3⟩
  | rlist xs => obtain ⟨vs, ⟨o, ho, r⟩, q⟩ := m; exact ⟨vs, ⟨o, e.trans ho, r⟩, q⟩
  | tup xs => obtain ⟨vs, ⟨o, ho, r⟩, q⟩ := m; exact ⟨vs, ⟨o, e.trans ho, r⟩, q⟩
  | idict xs => obtain ⟨vs, ⟨o, es, ep, ho, r⟩, q⟩ := m; exact ⟨vs, ⟨o, es, ep, e.trans ho, r⟩, q⟩
  | sdict xs => obtain ⟨vs, ⟨o, es, ep, ho, r⟩, q⟩ := m; exact ⟨vs, ⟨o, es, ep, e.trans ho, r⟩, q⟩
  | inst C d => exact e.trans m
  | ns kvs => obtain ⟨es, n, ho, r⟩ := m; exact ⟨es, n, e.trans ho, r⟩
  | range lo hi st => obtain ⟨t, u, v, ho⟩ := m; exact ⟨t, u, v, e.trans ho⟩
  | exc C => obtain ⟨vs, sl, ho⟩ := m; exact ⟨vs, sl, e.trans ho⟩

theorem Mt.some {P : Pm} {h : Heap} {a : Addr} {o : AObj} (m : Mt P h a o) : ∃ O, h.get? a = some O := by
  cases o with
  | list xs => obtain ⟨vs, ⟨o, ho, r⟩, q⟩ := m; exact ⟨o, ho⟩
  | rlist xs => obtain ⟨vs, ⟨o, ho, r⟩, q⟩ := m; exact ⟨o, ho⟩
  | tup xs => obtain ⟨vs, ⟨o, ho, r⟩, q⟩ := m; exact ⟨o, ho⟩
  | idict xs => obtain ⟨vs, ⟨o, es, ep, ho, r⟩, q⟩ := m; exact ⟨o, ho⟩
  | sdict xs => obtain ⟨vs, ⟨o, es, ep, ho, r⟩, q⟩ := m; exact ⟨o, ho⟩
  | inst C d => exact ⟨_, m⟩
  | ns kvs => obtain ⟨es, n, ho, r⟩ := m; exact ⟨_, ho⟩
  | range lo hi st => obtain ⟨t, u, v, ho⟩ := m; exact ⟨_, ho⟩
  | exc C => obtain ⟨vs, sl, ho⟩ := m; exact ⟨_, ho⟩

/-- an activation: its env, what stands around, the objects that must stay, the frames that must keep their data -/
structure Fm where
  env : Env
  A : Around
  g : Addr → Option Obj
  fr : Addr → Option Data
  ro : Bool

structure FmOk (P : Pm) (F : Fm) : Prop where
  kind : F.env.scope.kind = .function
  glob : F.env.globals = mainGlobals
  blt : F.env.builtins = builtinsNs
  base : ∀ b o, P.base.get? b = some o → F.g b = some o
  above : P.base.objs.size ≤ F.env.locals
  lg : F.g F.env.locals = none
  lf : F.fr F.env.locals = none
  cl : ∀ x c, (x, c) ∈ F.env.cells → c ≠ F.env.locals
  cg : F.ro = false → ∀ x c, (x, c) ∈ F.env.cells → F.g c = none ∧ F.fr c = none
  apart : F.env.cells.Pairwise (fun x y => x.2 ≠ y.2)
  cn : ∀ x c, (x, c) ∈ F.env.cells → F.env.cells.lookup x = some c
  cf : ∀ x c, (x, c) ∈ F.env.cells → F.fr c = none
  fg : ∀ b d, F.fr b = some d → F.g b = none ∧ ∀ vs, d ≠ .fields vs
  frames : ∃ fenv outer, F.A.frames = some (fenv :: outer) ∧ (F.ro = false → fenv = F.env ∧ F.env.frame = some F.env.locals) ∧
    ∀ e ∈ fenv :: outer, e.scope.kind ≠ .module ∧ ∃ b, e.frame = some b ∧ (b = F.env.locals ∨ (F.fr b).isSome = true)

/-- none of the base's addresses -/
noncomputable def Bigs (P : Pm) (a : Addr) : AObj → Prop
  | .idict _ | .sdict _ => P.base.objs.size ≤ a
  | _ => True
theorem bigs_of {P : Pm} {a : Addr} {o : AObj} (h : P.base.objs.size ≤ a) : Bigs P a o := by cases o <;> first | exact h | trivial

/-- a list that is only read -/
noncomputable def AObj.isR : AObj → Bool
  | .rlist _ => true
  | _ => false
/-- none of the frame's own; or of the base, where it is only read -/
noncomputable def Fre (P : Pm) (F : Fm) (a : Addr) : AObj → Prop
  | .rlist _ => ∃ O, P.base.get? a = some O
  | _ => F.g a = none ∧ F.fr a = none ∧ a ≠ F.env.locals ∧ ∀ x c, (x, c) ∈ F.env.cells → a ≠ c
theorem fre_of {P : Pm} {F : Fm} {a : Addr} {o : AObj} (hr : o.isR = false) (h : F.g a = none ∧ F.fr a = none ∧ a ≠ F.env.locals ∧ ∀ x c, (x, c) ∈ F.env.cells → a ≠ c) : Fre P F a o := by cases o <;> first | exact h | cases hr
theorem of_fre {P : Pm} {F : Fm} {a : Addr} {o : AObj} (h : Fre P F a o) (hr : o.isR = false) : F.g a = none ∧ F.fr a = none ∧ a ≠ F.env.locals ∧ ∀ x c, (x, c) ∈ F.env.cells → a ≠ c := by cases o <;> first | exact h | cases hr
theorem r_fre {P : Pm} {F : Fm} {a : Addr} {o : AObj} (h : Fre P F a o) (hr : o.isR = true) : ∃ O, P.base.get? a = some O := by cases o <;> first | exact h | cases hr
theorem fre_r {P : Pm} {F : Fm} {a : Addr} {o : AObj} (hr : o.isR = true) (h : ∃ O, P.base.get? a = some O) : Fre P F a o := by cases o <;> first | exact h | cases hr

structure Inv (P : Pm) (F : Fm) (l : Loc) (H : Hp) (s : Shared) : Prop where
  gens : s.gens = P.s₀.gens
  os : s.os = P.s₀.os
  keep : ∀ b o, F.g b = some o → s.heap.get? b = some o
  frk : ∀ b d, F.fr b = some d → ∃ o, s.heap.get? b = some o ∧ o.data = d
  loc : ∃ m, s.heap.Ns F.env.locals m ∧ ∀ x v, l x = some v → F.env.kindOf x = some .local → ∃ V, m x = some V ∧ er V = v
  cel : ∀ x c, F.env.cells.lookup x = some c → ∃ vo, s.heap.IsCell c vo ∧
    ∀ v, l x = some v → (F.env.kindOf x = some .cell ∨ F.env.kindOf x = some .free) → ∃ V, vo = some V ∧ er V = v
  objs : ∀ a o, H a = some o → Mt P s.heap a o
  free : ∀ a o, H a = some o → Fre P F a o
  big : ∀ a o, H a = some o → Bigs P a o

section
variable {P : Pm} {F : Fm} {l : Loc} {H : Hp} {s : Shared}

theorem Inv.toks (I : Inv P F l H s) (t : Nat) : Inv P F l H { s with toks := t } := ⟨I.gens, I.os, I.keep, I.frk, I.loc, I.cel, I.objs, I.free, I.big⟩

theorem Inv.lt_of (I : Inv P F l H s) {a : Addr} {o : AObj} (h : H a = some o) : a < s.heap.objs.size := let ⟨_, e⟩ := (I.objs a o h).some; Heap.lt_size e
theorem Inv.fresh (I : Inv P F l H s) : H s.heap.objs.size = none := by
  cases e : H s.heap.objs.size with
  | none => rfl
  | some o => exact absurd (I.lt_of e) (Nat.lt_irrefl _)

/-- an address that nothing of ours is at -/
structure Off (F : Fm) (H : Hp) (a : Addr) : Prop where
  h : H a = none
  g : F.g a = none
  fr : F.fr a = none
  l : a ≠ F.env.locals
  c : ∀ x c, (x, c) ∈ F.env.cells → a ≠ c

theorem Inv.off (K : FmOk P F) (I : Inv P F l H s) {a : Addr} (n : s.heap.get? a = none) : Off F H a := by
  refine ⟨?_, ?_, ?_, ?_, ?_⟩
  · cases e : H a with
    | none => rfl
    | some o => obtain ⟨_, e'⟩ := (I.objs a o e).some; rw [n] at e'; cases e'
  · cases e : F.g a with
    | none => rfl
    | some o => have := I.keep a o e; rw [n] at this; cases this
  · cases e : F.fr a with
    | none => rfl
    | some o => obtain ⟨_, e', _⟩ := I.frk a o e; rw [n] at e'; cases e'
  · rintro rfl
    obtain ⟨m, ⟨o, es, ep, ho, _⟩, _⟩ := I.loc
    rw [n] at ho; cases ho
  · rintro x c hm rfl
    obtain ⟨vo, ⟨o, ho, _⟩, _⟩ := I.cel x a (K.cn x a hm)
    rw [n] at ho; cases ho

/-- the heap changes off our things -/
theorem Inv.step (I : Inv P F l H s) {h' : Heap} {t : Nat} (k : ∀ b o, s.heap.get? b = some o → ¬ Off F H b → h'.get? b = some o) : Inv P F l H { s with heap := h', toks := t } := by
  refine ⟨I.gens, I.os, fun b o e => k b o (I.keep b o e) fun q => ?_, fun b d e => ?_, ?_, fun x c e => ?_, fun a o e => ?_, I.free, I.big⟩
  · rw [q.g] at e; cases e
  · obtain ⟨o, ho, hd⟩ := I.frk b d e
    exact ⟨o, k b o ho fun q => (by rw [q.fr] at e; cases e), hd⟩
  · obtain ⟨m, ⟨o, es, ep, ho, r⟩, q⟩ := I.loc
    exact ⟨m, ⟨o, es, ep, k _ _ ho fun q => q.l rfl, r⟩, q⟩
  · obtain ⟨vo, ⟨o, ho, r⟩, q⟩ := I.cel x c e
    exact ⟨vo, ⟨o, k _ _ ho fun q => q.c x c (mem_of_lookup e) rfl, r⟩, q⟩
  · obtain ⟨O, ho⟩ := (I.objs a o e).some
    refine (I.objs a o e).congr ((k _ _ ho fun q => ?_).trans ho.symm)
    rw [q.h] at e; cases e

theorem Inv.neL (K : FmOk P F) (I : Inv P F l H s) {a : Addr} {o : AObj} (h : H a = some o) : a ≠ F.env.locals := by
  cases hr : o.isR with
  | false => exact (of_fre (I.free a o h) hr).2.2.1
  | true =>
    obtain ⟨O, e⟩ := r_fre (I.free a o h) hr
    rintro rfl
    have := K.base _ _ e
    rw [K.lg] at this; cases this
theorem Inv.frN (K : FmOk P F) (I : Inv P F l H s) {a : Addr} {o : AObj} (h : H a = some o) : F.fr a = none := by
  cases hr : o.isR with
  | false => exact (of_fre (I.free a o h) hr).2.1
  | true =>
    obtain ⟨O, e⟩ := r_fre (I.free a o h) hr
    cases q : F.fr a with
    | none => rfl
    | some d =>
      have := K.base _ _ e
      rw [(K.fg a d q).1] at this; cases this
theorem Inv.neC (K : FmOk P F) (I : Inv P F l H s) {a : Addr} {o : AObj} (h : H a = some o) {x : Str} {c : Addr} (hm : (x, c) ∈ F.env.cells) : a ≠ c := by
  cases hr : o.isR with
  | false => exact (of_fre (I.free a o h) hr).2.2.2 x c hm
  | true =>
    rintro rfl
    obtain ⟨vo, ⟨oc, ho, hd⟩, _⟩ := I.cel x a (K.cn x a hm)
    have m := I.objs a o h
    cases o <;> first | (cases hr; done) | skip
    obtain ⟨vs, ⟨ol, hl, _, n, hs⟩, _⟩ := m
    rw [ho] at hl; cases hl
    rw [hd] at hs; cases hs
end

end Mine
end

section
open PySem PyProof.Rows PySem.Calls
namespace Mine

/-- all objects but L and the base's -/
noncomputable def allNews (base h : Heap) (L : Addr) : List (Addr × Obj) :=
  (List.range h.objs.size).filterMap fun a => if a = L then none else match base.get? a with
    | some _ => none
    | none => (h.get? a).map fun o => (a, o)
theorem mem_allNews {base h : Heap} {L a : Addr} {o : Obj} (ho : h.get? a = some o) (hl : a ≠ L) (hb : base.get? a = none) : (a, o) ∈ allNews base h L := by
  refine List.mem_filterMap.mpr ⟨a, List.mem_range.mpr (Heap.lt_size ho), ?_⟩
  rw [if_neg hl, hb, ho]; rfl
theorem allNews_mem {base h : Heap} {L : Addr} {p : Addr × Obj} (hp : p ∈ allNews base h L) : h.get? p.1 = some p.2 ∧ p.1 ≠ L ∧ base.get? p.1 = none := by
  obtain ⟨a, _, e⟩ := List.mem_filterMap.mp hp
  by_cases hl : a = L
  · rw [if_pos hl] at e; cases e
  · rw [if_neg hl] at e
    cases hb : base.get? a with
    | some o => rw [hb] at e; cases e
    | none =>
      rw [hb] at e
      cases ho : h.get? a with
      | none => simp [ho] at e
      | some o =>
        simp [ho] at e
        subst e
        exact ⟨ho, hl, hb⟩
theorem news_all (base h : Heap) (L : Addr) : News base L h (allNews base h L) := fun _ hp => allNews_mem hp

section
variable {P : Pm} {F : Fm} {l : Loc} {H : Hp} {s : Shared}

theorem Inv.fr (K : FmOk P F) (I : Inv P F l H s) : ∃ m, Fr P.base F.env.locals s.heap m ∧ ∀ x v, l x = some v → F.env.kindOf x = some .local → ∃ V, m x = some V ∧ er V = v := by
  obtain ⟨m, hn, q⟩ := I.loc
  exact ⟨m, ⟨hn, fun b o e => I.keep b o (K.base b o e), K.above⟩, q⟩

/-- what a rule over Fr and the whole ledger leaves -/
theorem kept_all {base h h' : Heap} {L : Addr} {m : Str → Option Value} {news : List (Addr × Obj)} (F : Fr base L h' m) (N : News base L h' news) (hsub : ∀ p ∈ allNews base h L, p ∈ news)
    (hb : base.StaysIn h) {b : Addr} {o : Obj} (e : h.get? b = some o) (hl : b ≠ L) : h'.get? b = some o := by
  cases q : base.get? b with
  | some o' => have := hb b o' q; rw [e] at this; cases this; exact F.keep b o q
  | none => exact (N _ (hsub _ (mem_allNews e hl q))).1

/-- the locals' dict may have moved, all else stays -/
theorem Inv.stepL (I : Inv P F l H s) {h' : Heap} {t : Nat} (k : ∀ b o, s.heap.get? b = some o → b ≠ F.env.locals → ¬ Off F H b → h'.get? b = some o)
    {m : Str → Option Value} (hn : h'.Ns F.env.locals m) (K : FmOk P F) {l' : Loc}
    (hm : ∀ x v, l' x = some v → F.env.kindOf x = some .local → ∃ V, m x = some V ∧ er V = v)
    (hc : ∀ x v, l' x = some v → (F.env.kindOf x = some .cell ∨ F.env.kindOf x = some .free) → l x = some v) : Inv P F l' H { s with heap := h', toks := t } := by
  refine ⟨I.gens, I.os, fun b o e => k b o (I.keep b o e) (fun q => ?_) fun q => ?_, fun b d e => ?_, ⟨m, hn, hm⟩, fun x c e => ?_, fun a o e => ?_, I.free, I.big⟩
  · rw [q, K.lg] at e; cases e
  · rw [q.g] at e; cases e
  · obtain ⟨o, ho, hd⟩ := I.frk b d e
    exact ⟨o, k b o ho (fun q => by rw [q, K.lf] at e; cases e) fun q => (by rw [q.fr] at e; cases e), hd⟩
  · obtain ⟨vo, ⟨o, ho, r⟩, q⟩ := I.cel x c e
    exact ⟨vo, ⟨o, k _ _ ho (K.cl x c (mem_of_lookup e)) fun q => q.c x c (mem_of_lookup e) rfl, r⟩, fun v hv hk => q v (hc x v hv hk) hk⟩
  · obtain ⟨O, ho⟩ := (I.objs a o e).some
    refine (I.objs a o e).congr ((k _ _ ho (I.neL K e) fun q => ?_).trans ho.symm)
    rw [q.h] at e; cases e

theorem Inv.push (I : Inv P F l H s) (o : Obj) : Inv P F l H { s with heap := s.heap.push o } :=
  I.step (t := s.toks) fun _ _ e _ => Heap.get?_push_of_some o e

/-- a new object of ours -/
theorem Inv.more (K : FmOk P F) (I : Inv P F l H s) {h' : Heap} {t : Nat} {a : Addr} {o : AObj} (n : s.heap.get? a = none) (hz : Bigs P a o) (k : ∀ b o, s.heap.get? b = some o → h'.get? b = some o) (m : Mt P h' a o) (hr : o.isR = false := by rfl) :
    Inv P F l (H.upd a o) { s with heap := h', toks := t } := by
  have I' := I.step (t := t) (h' := h') fun b o e _ => k b o e
  have of := I.off K n
  refine ⟨I'.gens, I'.os, I'.keep, I'.frk, I'.loc, I'.cel, fun b o' e => ?_, fun b o' e => ?_, fun b o' e => ?_⟩
  · by_cases q : b = a
    · subst q; rw [Hp.upd_same] at e; cases e; exact m
    · rw [Hp.upd_ne _ _ q] at e; exact I'.objs b o' e
  · by_cases q : b = a
    · subst q; rw [Hp.upd_same] at e; cases e; exact fre_of hr ⟨of.g, of.fr, of.l, of.c⟩
    · rw [Hp.upd_ne _ _ q] at e; exact I.free b o' e
  · by_cases q : b = a
    · subst q; rw [Hp.upd_same] at e; cases e; exact hz
    · rw [Hp.upd_ne _ _ q] at e; exact I.big b o' e
theorem Inv.base_le (K : FmOk P F) (I : Inv P F l H s) : P.base.objs.size ≤ s.heap.objs.size := by
  obtain ⟨m, hn, _⟩ := I.loc
  exact Nat.le_of_lt (Nat.lt_of_le_of_lt K.above hn.lt)
theorem Inv.alloc (K : FmOk P F) (I : Inv P F l H s) {O : Obj} {o : AObj} {t : Nat} (m : Mt P (s.heap.push O) s.heap.objs.size o) (hr : o.isR = false := by rfl) : Inv P F l (H.upd s.heap.objs.size o) { s with heap := s.heap.push O, toks := t } :=
  I.more K (Heap.get?_none_of_le (Nat.le_refl _)) (bigs_of (I.base_le K)) (fun _ _ e => Heap.get?_push_of_some O e) m hr

/-- an address becomes ours -/
theorem Inv.track (I : Inv P F l H s) {a : Addr} {o : AObj} (of : Off F H a) (hz : Bigs P a o) (m : Mt P s.heap a o) (hr : o.isR = false := by rfl) : Inv P F l (H.upd a o) s := by
  refine ⟨I.gens, I.os, I.keep, I.frk, I.loc, I.cel, fun b o' e => ?_, fun b o' e => ?_, fun b o' e => ?_⟩
  · by_cases q : b = a
    · subst q; rw [Hp.upd_same] at e; cases e; exact m
    · rw [Hp.upd_ne _ _ q] at e; exact I.objs b o' e
  · by_cases q : b = a
    · subst q; rw [Hp.upd_same] at e; cases e; exact fre_of hr ⟨of.g, of.fr, of.l, of.c⟩
    · rw [Hp.upd_ne _ _ q] at e; exact I.free b o' e
  · by_cases q : b = a
    · subst q; rw [Hp.upd_same] at e; cases e; exact hz
    · rw [Hp.upd_ne _ _ q] at e; exact I.big b o' e

/-- behind a rule over Fr and the whole ledger -/
theorem Inv.after (K : FmOk P F) (I : Inv P F l H s) {h' : Heap} {t : Nat} {m : Str → Option Value} {news : List (Addr × Obj)}
    (hm : ∀ x v, l x = some v → F.env.kindOf x = some .local → ∃ V, m x = some V ∧ er V = v) (F' : Fr P.base F.env.locals h' m) (N' : News P.base F.env.locals h' news)
    (hsub : ∀ p ∈ allNews P.base s.heap F.env.locals, p ∈ news) : Inv P F l H { s with heap := h', toks := t } :=
  I.stepL (fun _ _ e hb _ => kept_all F' N' hsub (fun b o e => I.keep b o (K.base b o e)) e hb) F'.ns K hm fun _ _ h _ => h

theorem Inv.ofSize (K : FmOk P F) (I : Inv P F l H s) : Off F H s.heap.objs.size := I.off K (Heap.get?_none_of_le (Nat.le_refl _))

/-- an object of ours is changed -/
theorem Inv.put (I : Inv P F l H s) {h' : Heap} {t : Nat} {a : Addr} {o o' : AObj} (ha : H a = some o) (k : ∀ b, b ≠ a → h'.get? b = s.heap.get? b) (m : Mt P h' a o') (hb : Bigs P a o → Bigs P a o' := by exact id) (hr : o.isR = false := by rfl) (hr' : o'.isR = false := by rfl) :
    Inv P F l (H.upd a o') { s with heap := h', toks := t } := by
  obtain ⟨fg, ff, fl, fc⟩ := of_fre (I.free a o ha) hr
  refine ⟨I.gens, I.os, fun b O e => (k b fun q => ?_).trans (I.keep b O e), fun b d e => ?_, ?_, fun x c e => ?_, fun b O e => ?_, fun b O e => ?_, fun b O e => ?_⟩
  · rw [q, fg] at e; cases e
  · obtain ⟨O, ho, hd⟩ := I.frk b d e
    exact ⟨O, (k b fun q => by rw [q, ff] at e; cases e).trans ho, hd⟩
  · obtain ⟨m', ⟨O, es, ep, ho, r⟩, q⟩ := I.loc
    exact ⟨m', ⟨O, es, ep, (k _ (Ne.symm fl)).trans ho, r⟩, q⟩
  · obtain ⟨vo, ⟨O, ho, r⟩, q⟩ := I.cel x c e
    exact ⟨vo, ⟨O, (k _ (Ne.symm (fc x c (mem_of_lookup e)))).trans ho, r⟩, q⟩
  · by_cases q : b = a
    · subst q; rw [Hp.upd_same] at e; cases e; exact m
    · rw [Hp.upd_ne _ _ q] at e; exact (I.objs b O e).congr (k b q)
  · by_cases q : b = a
    · subst q; rw [Hp.upd_same] at e; cases e; exact fre_of hr' ⟨fg, ff, fl, fc⟩
    · rw [Hp.upd_ne _ _ q] at e; exact I.free b O e
  · by_cases q : b = a
    · subst q; rw [Hp.upd_same] at e; cases e; exact hb (I.big _ _ ha)
    · rw [Hp.upd_ne _ _ q] at e; exact I.big b O e

/-- an object of ours is changed, the locals' dict may have moved -/
theorem Inv.putL (K : FmOk P F) (I : Inv P F l H s) {h' : Heap} {t : Nat} {a : Addr} {o o' : AObj} (ha : H a = some o) (k : ∀ b O, s.heap.get? b = some O → b ≠ a → b ≠ F.env.locals → h'.get? b = some O)
    {m : Str → Option Value} (hn : h'.Ns F.env.locals m) (hm : ∀ x v, l x = some v → F.env.kindOf x = some .local → ∃ V, m x = some V ∧ er V = v) (mt : Mt P h' a o') (hb : Bigs P a o → Bigs P a o' := by exact id) (hr : o.isR = false := by rfl) (hr' : o'.isR = false := by rfl) :
    Inv P F l (H.upd a o') { s with heap := h', toks := t } := by
  obtain ⟨fg, ff, fl, fc⟩ := of_fre (I.free a o ha) hr
  refine ⟨I.gens, I.os, fun b O e => k b O (I.keep b O e) (fun q => ?_) fun q => ?_, fun b d e => ?_, ⟨m, hn, hm⟩, fun x c e => ?_, fun b O e => ?_, fun b O e => ?_, fun b O e => ?_⟩
  · rw [q, fg] at e; cases e
  · rw [q, K.lg] at e; cases e
  · obtain ⟨O, ho, hd⟩ := I.frk b d e
    exact ⟨O, k b O ho (fun q => by rw [q, ff] at e; cases e) (fun q => by rw [q, K.lf] at e; cases e), hd⟩
  · obtain ⟨vo, ⟨O, ho, r⟩, q⟩ := I.cel x c e
    exact ⟨vo, ⟨O, k _ _ ho (Ne.symm (fc x c (mem_of_lookup e))) (K.cl x c (mem_of_lookup e)), r⟩, q⟩
  · by_cases q : b = a
    · subst q; rw [Hp.upd_same] at e; cases e; exact mt
    · rw [Hp.upd_ne _ _ q] at e
      obtain ⟨O', ho⟩ := (I.objs b O e).some
      exact (I.objs b O e).congr ((k b O' ho q (I.neL K e)).trans ho.symm)
  · by_cases q : b = a
    · subst q; rw [Hp.upd_same] at e; cases e; exact fre_of hr' ⟨fg, ff, fl, fc⟩
    · rw [Hp.upd_ne _ _ q] at e; exact I.free b O e
  · by_cases q : b = a
    · subst q; rw [Hp.upd_same] at e; cases e; exact hb (I.big _ _ ha)
    · rw [Hp.upd_ne _ _ q] at e; exact I.big b O e

theorem filterMap_ne {f : Nat → Option (Addr × Obj)} (hf : ∀ a p, f a = some p → p.1 = a) : ∀ xs : List Nat, xs.Pairwise (· ≠ ·) → (xs.filterMap f).Pairwise fun p q => p.1 ≠ q.1
  | [], _ => .nil
  | x :: xs, h => by
    obtain ⟨h1, h2⟩ := List.pairwise_cons.mp h
    rw [List.filterMap_cons]
    split
    · exact filterMap_ne hf xs h2
    · rename_i p hp
      refine List.pairwise_cons.mpr ⟨fun q hq e => ?_, filterMap_ne hf xs h2⟩
      obtain ⟨y, hy, e'⟩ := List.mem_filterMap.mp hq
      have e1 : p.1 = x := hf _ _ hp
      have e2 : q.1 = y := hf _ _ e'
      exact h1 y hy (e1.symm.trans (e.trans e2))
theorem allNews_split {base h : Heap} {L a : Addr} {o : Obj} (hm : (a, o) ∈ allNews base h L) : ∃ pre post, allNews base h L = pre ++ (a, o) :: post ∧ (∀ p ∈ pre, p.1 ≠ a) ∧ ∀ p ∈ post, p.1 ≠ a := by
  obtain ⟨pre, post, e⟩ := List.append_of_mem hm
  have hp : (allNews base h L).Pairwise fun p q => p.1 ≠ q.1 := by
    refine filterMap_ne (fun b p hb => ?_) _ (List.Pairwise.imp (fun h => Nat.ne_of_lt h) List.pairwise_lt_range)
    by_cases e : b = L
    · rw [if_pos e] at hb; cases hb
    · rw [if_neg e] at hb
      cases q : base.get? b with
      | some o => rw [q] at hb; cases hb
      | none =>
        rw [q] at hb
        obtain ⟨o, _, rfl⟩ := Option.map_eq_some_iff.mp hb
        rfl
  rw [e] at hp
  obtain ⟨_, h2, h3⟩ := List.pairwise_append.mp hp
  exact ⟨pre, post, e, fun p hp => h3 p hp (a, o) (.head _), fun p hp => ((List.pairwise_cons.mp h2).1 p hp).symm⟩
end

/-! ## names -/
section
variable {P : Pm} {F : Fm} {l : Loc} {H : Hp} {s : Shared} {E : Value → Shared → Prop}

/-- a name that is bound in the block -/
noncomputable def Own (env : Env) (x : Str) : Prop := env.kindOf x = some .local ∨ ((env.kindOf x = some .cell ∨ env.kindOf x = some .free) ∧ ∃ c, env.cells.lookup x = some c)

theorem ld_loc (K : FmOk P F) (I : Inv P F l H s) {x : Str} {pos : Pos} {v : Value} {Q : Value → Shared → Prop} (hv : l x = some v) (ho : Own F.env x) (hd : (x == ("__debug__" : Str)) = false) (hcd : (x == ("__classdict__" : Str)) = false)
    (h : ∀ V, er V = v → Q V s) : wpAny P.M F.A (eval (.Name x pos) F.env) Q E s := by
  refine wpAny_Name ?_ hd
  rcases ho with hl | ⟨hk, c, hc⟩
  · obtain ⟨m, hn, q⟩ := I.loc
    obtain ⟨V, hV, e⟩ := q x v hv hl
    exact wpAny_loadName_local K.kind hl hn hV (h V e)
  · obtain ⟨vo, hi, q⟩ := I.cel x c hc
    obtain ⟨V, rfl, e⟩ := q v hv hk
    rcases hk with hk | hk
    · exact wpAny_loadName_cell K.kind hk hc hi (h V e)
    · exact wpAny_loadName_free K.kind hk hc hi (h V e) hcd

theorem ld_glob (Y : PmOk P) (K : FmOk P F) (I : Inv P F l H s) {x : Str} {pos : Pos} {v : Value} {Q : Value → Shared → Prop} (hv : P.mg x = some v ∨ (P.mg x = none ∧ P.mb x = some v)) (hk : F.env.kindOf x = some .globalImplicit) (hd : (x == ("__debug__" : Str)) = false)
    (h : Q v s) : wpAny P.M F.A (eval (.Name x pos) F.env) Q E s := by
  have k : ∀ b o, P.base.get? b = some o → s.heap.get? b = some o := fun b o e => I.keep b o (K.base b o e)
  refine Calls.Name_function_global K.kind hk ?_ hd
  rcases hv with hv | ⟨h1, h2⟩
  · exact Calls.loadGlobal_global (by rw [K.glob]; exact Y.g.keeps k) hv h
  · exact Calls.loadGlobal_builtin (by rw [K.glob]; exact Y.g.keeps k) h1 (by rw [K.blt]; exact Y.b.keeps k) h2 h

theorem st_loc (K : FmOk P F) (I : Inv P F l H s) (hro : F.ro = false) {x : Str} {V : Value} {Q : Unit → Shared → Prop} (ho : F.env.kindOf x = some .local ∨ (F.env.kindOf x = some .cell ∧ ∃ c, F.env.cells.lookup x = some c))
    (h : ∀ s', Inv P F (l.upd x (er V)) H s' → Q () s') : wpAny P.M F.A (storeName F.env x V) Q E s := by
  rcases ho with hl | ⟨hk, c, hc⟩
  · obtain ⟨m, hn, q⟩ := I.loc
    refine wpAny_storeName_local hl hn (fun h' hn' hs => h _ (I.stepL (t := s.toks + 1) (fun b o e hb _ => hs.extBut b o hb e) hn' K (fun y v hy hky => ?_) fun y v hy hky => ?_)) (by rw [K.kind]; rfl)
    · by_cases e : y = x
      · subst e; simp [Loc.upd] at hy; subst hy; exact ⟨V, by simp, rfl⟩
      · simp [Loc.upd, e] at hy; simp [e]; exact q y v hy hky
    · by_cases e : y = x
      · subst e; rw [hl] at hky; simp at hky
      · simpa [Loc.upd, e] using hy
  · obtain ⟨vo, hi, q⟩ := I.cel x c hc
    have hm := mem_of_lookup hc
    refine wpAny_storeName_cell K.kind hk hc hi fun h' hi' hs => h _ ?_
    have other : ∀ b o, s.heap.get? b = some o → b ≠ c → h'.get? b = some o := fun b o e hb => (hs.2 b hb).trans e
    have g1 := (K.cg hro x c hm)
    refine ⟨I.gens, I.os, fun b o e => other b o (I.keep b o e) fun z => ?_, fun b d e => ?_, ?_, fun y c' e => ?_, fun a o e => ?_, I.free, I.big⟩
    · rw [z, g1.1] at e; cases e
    · obtain ⟨o, ho, hd⟩ := I.frk b d e
      exact ⟨o, other b o ho (fun z => by rw [z, g1.2] at e; cases e), hd⟩
    · obtain ⟨m, ⟨o, es, ep, ho, r⟩, q⟩ := I.loc
      refine ⟨m, ⟨o, es, ep, other _ _ ho (Ne.symm (K.cl x c hm)), r⟩, fun y v hy hky => q y v ?_ hky⟩
      by_cases z : y = x
      · subst z; rw [hk] at hky; cases hky
      · simpa [Loc.upd, z] using hy
    · by_cases z : y = x
      · subst z
        rw [hc] at e; cases e
        exact ⟨some V, hi', fun v hv _ => ⟨V, rfl, by simpa [Loc.upd] using hv⟩⟩
      · obtain ⟨vo', ⟨o, ho, r⟩, q'⟩ := I.cel y c' e
        refine ⟨vo', ⟨o, other _ _ ho fun w => z ?_, r⟩, fun v hv hky => q' v (by simpa [Loc.upd, z] using hv) hky⟩
        exact name_of_addr K.apart (mem_of_lookup e) (w ▸ hm)
    · obtain ⟨O, ho⟩ := (I.objs a o e).some
      exact (I.objs a o e).congr ((other a O ho (I.neC K e hm)).trans ho.symm)
end

end Mine
end

section
open PySem PyProof.Rows PySem.Calls
namespace Mine

/-! ## the small wp -/

/-- what the text's top names -/
structure Gx where
  glob : Str → Option Value
  fn : Addr → Bool → List Value → Hp → QV → XV → Prop
  meth : Addr → Str → Option Addr
  init : Addr → Option Addr
  isExc : Addr → Bool
  sub : Addr → Addr → Bool
  fld : Addr → Str → Bool

/-- an item by an index, from behind where it is below nought -/
noncomputable def at? {α : Type} (xs : List α) (k : Int) : Option α :=
  if 0 ≤ k then xs[k.toNat]? else if -(xs.length : Int) ≤ k then xs[(k + xs.length).toNat]? else none

noncomputable def cutAt (n : Nat) (i : Int) : Nat := if i < 0 then (i + n).toNat else min i.toNat n
noncomputable def hiAt (n : Nat) : Option Int → Nat
  | none => n
  | some i => cutAt n i
noncomputable def loAt (n : Nat) : Option Int → Nat
  | none => 0
  | some i => cutAt n i
noncomputable def pySlice {α : Type} (xs : List α) (lo hi : Option Int) : List α := (xs.take (hiAt xs.length hi)).drop (loAt xs.length lo)

mutual
inductive Rd (H : Hp) : Value → PyData → Prop where
  | none : Rd H .none .none
  | bool (b : Bool) : Rd H (.bool b) (.bool b)
  | int (i : Int) (t : Tok) : Rd H (.int i t) (.int i)
  | str (x : Str) (t : Tok) : Rd H (.str x t) (.str x)
  | list {a : Addr} {xs : List Value} {ds : List PyData} : H a = some (.list xs) → RdAll H xs ds → Rd H (.ref a) (.list ds)
  | tup {a : Addr} {xs : List Value} {ds : List PyData} : H a = some (.tup xs) → RdAll H xs ds → Rd H (.ref a) (.tuple ds)
inductive RdAll (H : Hp) : List Value → List PyData → Prop where
  | nil : RdAll H [] []
  | cons {v : Value} {vs : List Value} {d : PyData} {ds : List PyData} : Rd H v d → RdAll H vs ds → RdAll H (v :: vs) (d :: ds)
end

noncomputable def newV (o : AObj) (H : Hp) (Q : QV) : Prop := ∀ c, H c = none → Q (.ref c) (H.upd c o)

/-- a tuple: a new one, or one that is there -/
noncomputable def newT (xs : List Value) (H : Hp) (Q : QV) : Prop := (∀ c, H c = none → Q (.ref c) (H.upd c (.tup xs))) ∧ ∀ c, H c = some (.tup xs) → Q (.ref c) H

noncomputable def chr1 (c : Nat) : Str := ⟨#[c]⟩

noncomputable def onInt (v : Value) (k : Int → Prop) : Prop := match v with | .int i _ => k i | _ => False
noncomputable def onStr (v : Value) (k : Str → Prop) : Prop := match v with | .str x _ => k x | _ => False
noncomputable def onRef (v : Value) (k : Addr → Prop) : Prop := match v with | .ref a => k a | _ => False
noncomputable def onBool (v : Value) (k : Bool → Prop) : Prop := match v with | .bool b => k b | _ => False
noncomputable def on1 (xs : List Value) (k : Value → Prop) : Prop := match xs with | v :: r => (match r with | [] => k v | _ :: _ => False) | [] => False
noncomputable def on2 (xs : List Value) (k : Value → Value → Prop) : Prop := match xs with | v :: r => on1 r (k v) | [] => False
theorem onInt_elim {V v : Value} {k : Int → Prop} (e : er V = v) (h : onInt v k) : ∃ i t, V = .int i t ∧ k i := by
  subst e; cases V <;> first | exact h.elim | exact ⟨_, _, rfl, h⟩
theorem onStr_elim {V v : Value} {k : Str → Prop} (e : er V = v) (h : onStr v k) : ∃ i t, V = .str i t ∧ k i := by
  subst e; cases V <;> first | exact h.elim | exact ⟨_, _, rfl, h⟩
theorem onRef_elim {V v : Value} {k : Addr → Prop} (e : er V = v) (h : onRef v k) : ∃ a, V = .ref a ∧ k a := by
  subst e; cases V <;> first | exact h.elim | exact ⟨_, rfl, h⟩
theorem onBool_elim {V v : Value} {k : Bool → Prop} (e : er V = v) (h : onBool v k) : ∃ a, V = .bool a ∧ k a := by
  subst e; cases V <;> first | exact h.elim | exact ⟨_, rfl, h⟩
theorem on1_elim {Vs : List Value} {k : Value → Prop} (h : on1 (Vs.map er) k) : ∃ V, Vs = [V] ∧ k (er V) := by
  cases Vs with
  | nil => exact h.elim
  | cons V r => cases r with
    | nil => exact ⟨V, rfl, h⟩
    | cons _ _ => exact h.elim
theorem on2_elim {Vs : List Value} {k : Value → Value → Prop} (h : on2 (Vs.map er) k) : ∃ V W, Vs = [V, W] ∧ k (er V) (er W) := by
  cases Vs with
  | nil => exact h.elim
  | cons V r =>
    obtain ⟨W, rfl, h⟩ := on1_elim (Vs := r) (k := k (er V)) h
    exact ⟨V, W, rfl, h⟩

noncomputable def on0 (xs : List Value) (k : Prop) : Prop := match xs with | [] => k | _ :: _ => False
theorem on0_elim {Vs : List Value} {k : Prop} (h : on0 (Vs.map er) k) : Vs = [] ∧ k := by
  cases Vs with
  | nil => exact ⟨rfl, h⟩
  | cons _ _ => exact h.elim
/-- two lists or two tuples -/
noncomputable def addR (a b : Addr) (H : Hp) (Q : QV) : Prop := match H a with
  | some (.list xs) => (match H b with | some (.list ys) => xs.length + ys.length ≤ sizeLine ∧ newV (.list (xs ++ ys)) H Q | _ => False)
  | some (.tup xs) => (match H b with | some (.tup ys) => xs.length + ys.length ≤ sizeLine ∧ newT (xs ++ ys) H Q | _ => False)
  | _ => False
noncomputable def addV (a b : Value) (H : Hp) (Q : QV) : Prop := match a with
  | .int x _ => onInt b fun y => Q (.int (x + y) 0) H
  | .str x _ => onStr b fun y => x.length + y.length ≤ sizeLine ∧ Q (.str (x ++ y) 0) H
  | .ref a => onRef b fun b => addR a b H Q
  | _ => False
noncomputable def multV (a b : Value) (H : Hp) (Q : QV) : Prop := match a with
  | .int x _ => onInt b fun y => (x.natAbs < 2 ^ 63 ∨ y.natAbs < 2 ^ 63) ∧ Q (.int (x * y) 0) H
  | .str x _ => onInt b fun n => x.length ≤ 1000 ∧ n ≤ 1000 ∧ -1000 ≤ n ∧ Q (.str (Txt.mul x n) 0) H
  | _ => False
noncomputable def binV (op : Operator) (a b : Value) (H : Hp) (Q : QV) : Prop :=
  match op with
  | .Add => addV a b H Q
  | .Sub => onInt a fun x => onInt b fun y => Q (.int (x - y) 0) H
  | .Mult => multV a b H Q
  | .FloorDiv => onInt a fun x => onInt b fun y => 0 < y ∧ y < 2 ^ 63 ∧ Q (.int (x / y) 0) H
  | .Mod => onInt a fun x => onInt b fun y => 0 < y ∧ Q (.int (x % y) 0) H
  | .Pow => onInt a fun x => onInt b fun y => 0 ≤ y ∧ y ≤ 100 ∧ x.natAbs < 2 ^ 63 ∧ Q (.int (x ^ y.toNat) 0) H
  | _ => False

noncomputable def eqV (a b : Value) (H : Hp) (k : Bool → Prop) : Prop :=
  match a, b with
  | .int x _, .int y _ => k (decide (x = y))
  | .str x _, .str y _ => k (decide (x = y))
  | .none, .none => k true
  | .none, .int _ _ => k false
  | .int _ _, .none => k false
  | .none, .str _ _ => k false
  | .str _ _, .none => k false
  | a, b => ∃ da db, Rd H a da ∧ Rd H b db ∧ SeqAt.shaped da = true ∧ SeqAt.shaped db = true ∧ k (PyData.eqv da db)

noncomputable def inV (a b : Value) (H : Hp) (k : Bool → Prop) : Prop :=
  match a, b with
  | .str x _, .str y _ => k (Txt.contains y x)
  | .int i _, .ref d => match H d with
    | some (.idict kvs) => k (valueAt kvs i).isSome
    | some (.list xs) => ∃ ns : List Int, xs = ns.map (fun n => Value.int n 0) ∧ k (decide (i ∈ ns))
    | _ => False
  | .str x _, .ref d => match H d with
    | some (.sdict kvs) => k (valueAt kvs x).isSome
    | some (.idict kvs) => kvs = [] ∧ k false
    | _ => False
  | _, _ => False

noncomputable def cmpV (op : CmpOp) (a b : Value) (H : Hp) (Q : QV) : Prop :=
  match op with
  | .Eq => eqV a b H fun r => Q (.bool r) H
  | .NotEq => eqV a b H fun r => Q (.bool (!r)) H
  | .In => inV a b H fun r => Q (.bool r) H
  | .NotIn => inV a b H fun r => Q (.bool (!r)) H
  | .Is => match b with
    | .none => (match a with | .none => Q (.bool true) H | .builtin _ => False | _ => Q (.bool false) H)
    | _ => False
  | .IsNot => match b with
    | .none => (match a with | .none => Q (.bool false) H | .builtin _ => False | _ => Q (.bool true) H)
    | _ => False
  | .Lt => match a, b with
    | .int x _, .int y _ => Q (.bool (decide (x < y))) H
    | .str x _, .str y _ => Q (.bool (decide (x.cps.toList < y.cps.toList))) H
    | _, _ => False
  | .Gt => match a, b with
    | .int x _, .int y _ => Q (.bool (decide (y < x))) H
    | .str x _, .str y _ => Q (.bool (decide (y.cps.toList < x.cps.toList))) H
    | _, _ => False
  | .LtE => match a, b with
    | .int x _, .int y _ => Q (.bool (decide (x ≤ y))) H
    | _, _ => False
  | .GtE => match a, b with
    | .int x _, .int y _ => Q (.bool (decide (y ≤ x))) H
    | _, _ => False

noncomputable def idxV (o i : Value) (H : Hp) (Q : QV) : Prop :=
  match o, i with
  | .ref a, .int k _ => match H a with
    | some (.list xs) => (match at? xs k with | some v => Q v H | none => False)
    | some (.rlist xs) => (match at? xs k with | some v => Q v H | none => False)
    | some (.tup xs) => (match at? xs k with | some v => Q v H | none => False)
    | some (.idict kvs) => (match valueAt kvs k with | some v => Q v H | none => False)
    | _ => False
  | .ref a, .str x _ => match H a with
    | some (.sdict kvs) => (match valueAt kvs x with | some v => Q v H | none => False)
    | _ => False
  | .str x _, .int k _ => (match at? x.cps.toList k with | some c => x.length ≤ sizeLine ∧ Q (.str (chr1 c) 0) H | none => False)
  | _, _ => False

noncomputable def partOf (v : Value) : Option (Option Int) :=
  match v with
  | .none => some none
  | .int i _ => some (some i)
  | _ => none

noncomputable def sliceV (o lo hi : Value) (H : Hp) (Q : QV) : Prop :=
  match partOf lo, partOf hi with
  | some l, some h => match o with
    | .ref a => (match H a with
      | some (.list xs) => xs.length ≤ sizeLine ∧ newV (.list (pySlice xs l h)) H Q
      | some (.rlist xs) => xs.length ≤ sizeLine ∧ newV (.list (pySlice xs l h)) H Q
      | _ => False)
    | .str x _ => x.length ≤ sizeLine ∧ Q (.str ⟨(pySlice x.cps.toList l h).toArray⟩ 0) H
    | _ => False
  | _, _ => False

noncomputable def attrV (G : Gx) (o : Value) (a : Str) (H : Hp) (Q : QV) : Prop :=
  match o with
  | .ref x => match H x with
    | some (.inst C d) => (match H d with
      | some (.ns kvs) => G.fld C a = true ∧ (match valueAt kvs a with | some (.builtin _) => False | some v => Q v H | none => False)
      | _ => False)
    | _ => False
  | _ => False

noncomputable def truthV (v : Value) (k : Bool → Prop) : Prop := match v with | .bool b => k b | _ => False

noncomputable def lenV (v : Value) (H : Hp) (Q : QV) : Prop :=
  match v with
  | .str x _ => x.length ≤ sizeLine ∧ Q (.int x.length 0) H
  | .ref a => match H a with
    | some (.list xs) => Q (.int xs.length 0) H
    | some (.rlist xs) => Q (.int xs.length 0) H
    | some (.tup xs) => Q (.int xs.length 0) H
    | _ => False
  | _ => False

noncomputable def Ty.blt : Ty → Bool
  | .str | .int | .bool | .list | .tuple | .listOrTuple => true
  | _ => false

noncomputable def isiV (G : Gx) (v : Value) (t : Ty) (H : Hp) (Q : QV) : Prop :=
  match v with
  | .none => t.blt = true ∧ Q (.bool false) H
  | .bool _ => t.blt = true ∧ Q (.bool (t == .bool || t == .int)) H
  | .int _ _ => t.blt = true ∧ Q (.bool (t == .int)) H
  | .str _ _ => t.blt = true ∧ Q (.bool (t == .str)) H
  | .ref a => match H a with
    | some (.list _) => t.blt = true ∧ Q (.bool (t == .list || t == .listOrTuple)) H
    | some (.tup _) => t.blt = true ∧ Q (.bool (t == .tuple || t == .listOrTuple)) H
    | some (.idict _) => t.blt = true ∧ Q (.bool false) H
    | some (.sdict _) => t.blt = true ∧ Q (.bool false) H
    | some (.exc C) => G.isExc C = true ∧ (match t with
      | .valueError => Q (.bool true) H
      | .cls x => (match G.glob x with | some (.ref D) => G.isExc D = true ∧ Q (.bool (G.sub C D)) H | _ => False)
      | _ => False)
    | _ => False
  | _ => False

noncomputable def rangeL (lo hi st : Int) : List Value :=
  (List.range (Builtin.Range.rangeSize lo hi st).toNat).map fun (k : Nat) => .int (lo + (k : Int) * st) 0

/-- the items that a loop takes, and what must stay meanwhile -/
noncomputable def iterV (v : Value) (H : Hp) (k : (Hp → Prop) → List Value → Prop) : Prop :=
  match v with
  | .str x _ => k (fun _ => True) (x.cps.toList.map fun c => .str (chr1 c) 0)
  | .ref a => match H a with
    | some (.list xs) => k (fun H' => H' a = some (.list xs)) xs
    | some (.tup xs) => k (fun H' => H' a = some (.tup xs)) xs
    | some (.range lo hi st) => Builtin.Range.small lo hi st = true ∧ k (fun _ => True) (rangeL lo hi st)
    | _ => False
  | _ => False

/-- the items that a built-in takes at once -/
noncomputable def seqV (v : Value) (H : Hp) (k : List Value → Prop) : Prop :=
  match v with
  | .ref a => match H a with
    | some (.list xs) => k xs
    | some (.tup xs) => k xs
    | _ => False
  | _ => False

noncomputable def rangeV (args : List Value) (H : Hp) (Q : QV) : Prop :=
  match args with
  | [.int hi _] => hi < 2 ^ 60 ∧ -(2 ^ 60) < hi ∧ newV (.range 0 hi 1) H Q
  | [.int lo _, .int hi _] => hi < 2 ^ 60 ∧ -(2 ^ 60) < hi ∧ lo < 2 ^ 60 ∧ -(2 ^ 60) < lo ∧ newV (.range lo hi 1) H Q
  | [.int lo _, .int hi _, .int st _] => st ≠ 0 ∧ -1000 < st ∧ st < 1000 ∧ hi < 2 ^ 60 ∧ -(2 ^ 60) < hi ∧ lo < 2 ^ 60 ∧ -(2 ^ 60) < lo ∧ newV (.range lo hi st) H Q
  | _ => False

noncomputable def strLe (x y : Str) : Prop := ¬ (y.cps.toList < x.cps.toList)

/-- ints in order -/
noncomputable def sortedV (v : Value) (H : Hp) (Q : QV) : Prop :=
  match v with
  | .ref a => match H a with
    | some (.list xs) => xs.length < 64 ∧ ∃ ns : List Int, xs = ns.map (fun n => Value.int n 0) ∧ ∀ ms : List Int, ms.Perm ns → ms.Pairwise (· ≤ ·) → newV (.list (ms.map fun n => Value.int n 0)) H Q
    | some (.idict kvs) => kvs.length < 64 ∧ ∃ ns : List Int, (kvs.map fun p => Value.int p.1 0) = ns.map (fun n => Value.int n 0) ∧ ∀ ms : List Int, ms.Perm ns → ms.Pairwise (· ≤ ·) → newV (.list (ms.map fun n => Value.int n 0)) H Q
    | _ => False
  | _ => False

noncomputable def strsOf : List Value → Option (List Str)
  | [] => some []
  | .str x _ :: r => (strsOf r).map (x :: ·)
  | _ :: _ => none

noncomputable def bfV (f : Bf) (args : List Value) (H : Hp) (Q : QV) : Prop :=
  match f with
  | .len => on1 args fun v => lenV v H Q
  | .list => on1 args fun v => seqV v H fun xs => xs.length ≤ sizeLine ∧ newV (.list xs) H Q
  | .tuple => on1 args fun v => onRef v fun a => (match H a with
    | some (.list xs) => xs.length ≤ sizeLine ∧ newV (.tup xs) H Q
    | some (.tup _) => Q (.ref a) H
    | _ => False)
  | .sorted => on1 args fun v => sortedV v H Q
  | .int => on1 args fun v => onBool v fun b => Q (.int (if b then 1 else 0) 0) H
  | .all => on1 args fun v => onRef v fun a => (match H a with
    | some (.list xs) => ∃ bs : List Bool, xs = bs.map Value.bool ∧ Q (.bool (bs.all id)) H
    | _ => False)
  | .max2 => on2 args fun v w => onInt v fun x => onInt w fun y => Q (.int (max x y) 0) H
  | .min2 => on2 args fun v w => onInt v fun x => onInt w fun y => Q (.int (min x y) 0) H
  | .range => rangeV args H Q
  | _ => False

inductive Bk where
  | list | dict | str

noncomputable def bmV (b : Bk) (m : Bm) (o : Value) (args : List Value) (H : Hp) (Q : QV) : Prop :=
  match b with
  | .list => (match m with
    | .append => onRef o fun a => on1 args fun v => (match H a with
      | some (.list xs) => xs.length ≤ sizeLine ∧ Q .none (H.upd a (.list (xs ++ [v])))
      | _ => False)
    | .pop => onRef o fun a => on0 args (match H a with
      | some (.list xs) => xs.length ≤ sizeLine ∧ (match xs.getLast? with | some v => Q v (H.upd a (.list xs.dropLast)) | none => False)
      | _ => False)
    | _ => False)
  | .dict => (match m with
    | .pop => onRef o fun a => on1 args fun v => onInt v fun k => (match H a with
      | some (.idict kvs) => kvs.length ≤ sizeLine ∧ (match valueAt kvs k with | some v => Q v (H.upd a (.idict (PySem.without kvs k))) | none => False)
      | _ => False)
    | _ => False)
  | .str => (match m with
    | .join => onStr o fun x => on1 args fun v => onRef v fun a => (match H a with
      | some (.list xs) => (match strsOf xs with
        | some ss => JoinOk x ss = true ∧ Q (.str (Txt.join x ss) 0) H
        | none => False)
      | _ => False)
    | _ => False)

noncomputable def callV (G : Gx) (hm : Bool) (f : Value) (args : List Value) (H : Hp) (Q : QV) (X : XV) : Prop :=
  match f with
  | .ref a => match G.init a with
    | some fi => ∀ d x, H d = none → H x = none → d ≠ x → G.fn fi hm (.ref x :: args) ((H.upd d (.ns [])).upd x (.inst a d)) (fun r H' => r = .none ∧ Q (.ref x) H') X
    | none => G.fn a hm args H Q X
  | _ => False

/-- which function a method's name tells -/
noncomputable def methV (G : Gx) (o : Value) (m : Str) (H : Hp) (k : Addr → Prop) : Prop :=
  match o with
  | .ref x => match H x with
    | some (.inst C d) => (match H d, G.meth C m with
      | some (.ns kvs), some f => valueAt kvs m = none ∧ k f
      | _, _ => False)
    | _ => False
  | _ => False

/-- a built-in's method is there -/
noncomputable def bmOn (m : Bm) (v : Value) (H : Hp) (k : Bk → Prop) : Prop :=
  match v with
  | .str _ _ => (m = .join ∨ m = .split) ∧ k .str
  | .ref a => (match H a with
    | some (.list _) => (m = .append ∨ m = .pop) ∧ k .list
    | some (.idict _) => (m = .pop ∨ m = .get) ∧ k .dict
    | some (.sdict _) => (m = .pop ∨ m = .get) ∧ k .dict
    | _ => False)
  | _ => False

/-- a comprehension's turns -/
noncomputable def compG (guard : Hp → Prop) (step : Value → Hp → (Option Value → Hp → Prop) → Prop) : List Value → List Value → Hp → (List Value → Hp → Prop) → Prop
  | [], acc, H, k => guard H ∧ k acc H
  | v :: vs, acc, H, k => guard H ∧ step v H fun r H' => compG guard step vs (match r with | some u => acc ++ [u] | none => acc) H' k

noncomputable def dictV : List Value → List Value → Hp → QV → Prop := fun ks vs H Q =>
  (ks = [] ∧ vs = [] ∧ newV (.idict []) H Q) ∨
  (∃ ss : List Str, ks = ss.map (fun x => Value.str x 0) ∧ ss.Nodup ∧ ss.length = vs.length ∧ ss.length ≤ 15 ∧ ss ≠ [] ∧ newV (.sdict (ss.zip vs)) H Q)

mutual
noncomputable def wpE (G : Gx) (hm : Bool) : Ex → Loc → Hp → QV → XV → Prop
  | .none, _, H, Q, _ => Q .none H
  | .bool b, _, H, Q, _ => Q (.bool b) H
  | .int i, _, H, Q, _ => Q (.int i 0) H
  | .str x, _, H, Q, _ => Q (.str x 0) H
  | .loc x, l, H, Q, _ => match l x with | some v => Q v H | none => False
  | .glob x, _, H, Q, _ => match G.glob x with | some v => Q v H | none => False
  | .attr o a, l, H, Q, X => wpE G hm o l H (fun v H1 => attrV G v a H1 Q) X
  | .bin op x y, l, H, Q, X => wpE G hm x l H (fun a H1 => wpE G hm y l H1 (fun b H2 => binV op a b H2 Q) X) X
  | .neg x, l, H, Q, X => wpE G hm x l H (fun a H1 => match a with | .int i _ => Q (.int (-i) 0) H1 | _ => False) X
  | .not x, l, H, Q, X => wpE G hm x l H (fun a H1 => truthV a fun b => Q (.bool (!b)) H1) X
  | .bop a es, l, H, Q, X => wpB G hm a es l H Q X
  | .cmp x op y, l, H, Q, X => wpE G hm x l H (fun a H1 => wpE G hm y l H1 (fun b H2 => cmpV op a b H2 Q) X) X
  | .cmp2 x op y op2 z, l, H, Q, X => wpE G hm x l H (fun a H1 => wpE G hm y l H1 (fun b H2 => cmpV op a b H2 fun c H3 => truthV c fun r =>
      if r then wpE G hm z l H3 (fun d H4 => cmpV op2 b d H4 Q) X else Q (.bool false) H3) X) X
  | .isi e t, l, H, Q, X => wpE G hm e l H (fun v H1 => isiV G v t H1 Q) X
  | .bf f args, l, H, Q, X => wpEs G hm args l H (fun vs H1 => (f = .len ∨ hm = false) ∧ bfV f vs H1 Q) X
  | .bm m o args, l, H, Q, X => wpE G hm o l H (fun v H1 => bmOn m v H1 fun b => wpEs G hm args l H1 (fun vs H2 => bmV b m v vs H2 Q) X) X
  | .call f args, l, H, Q, X => wpE G hm f l H (fun v H1 => wpEs G hm args l H1 (fun vs H2 => callV G hm v vs H2 Q X) X) X
  | .meth o m args, l, H, Q, X => wpE G hm o l H (fun v H1 => methV G v m H1 fun f => wpEs G hm args l H1 (fun vs H2 => G.fn f hm (v :: vs) H2 Q X) X) X
  | .idx o i, l, H, Q, X => wpE G hm o l H (fun v H1 => wpE G hm i l H1 (fun k H2 => idxV v k H2 Q) X) X
  | .slice o lo hi, l, H, Q, X => wpE G hm o l H (fun v H1 => wpO G hm lo l H1 (fun a H2 => wpO G hm hi l H2 (fun b H3 => sliceV v a b H3 Q) X) X) X
  | .list es, l, H, Q, X => wpEs G hm es l H (fun vs H1 => vs.length ≤ sizeLine ∧ newV (.list vs) H1 Q) X
  | .tup es, l, H, Q, X => wpEs G hm es l H (fun vs H1 => vs.length ≤ sizeLine ∧ newV (.tup vs) H1 Q) X
  | .dict ks vs, l, H, Q, X => wpEs G hm ks l H (fun a H1 => wpEs G hm vs l H1 (fun b H2 => dictV a b H2 Q) X) X
  | .comp elt x src ifs, l, H, Q, X => wpE G hm src l H (fun v H1 => hm = false ∧ iterV v H1 fun guard items => items.length ≤ sizeLine ∧
      compG guard (fun v H2 k => wpB G hm true ifs ((l.del ".0").upd x v) H2 (fun c H3 => truthV c fun r =>
        if r then wpE G hm elt ((l.del ".0").upd x v) H3 (fun u H4 => k (some u) H4) (fun _ _ => False) else k none H3) (fun _ _ => False)) items [] H1
        fun us H' => newV (.list us) H' Q) X
noncomputable def wpEs (G : Gx) (hm : Bool) : List Ex → Loc → Hp → (List Value → Hp → Prop) → XV → Prop
  | [], _, H, Q, _ => Q [] H
  | e :: es, l, H, Q, X => wpE G hm e l H (fun v H1 => wpEs G hm es l H1 (fun vs H2 => Q (v :: vs) H2) X) X
noncomputable def wpO (G : Gx) (hm : Bool) : Option Ex → Loc → Hp → QV → XV → Prop
  | none, _, H, Q, _ => Q .none H
  | some e, l, H, Q, X => wpE G hm e l H Q X
noncomputable def wpB (G : Gx) (hm : Bool) (isAnd : Bool) : List Ex → Loc → Hp → QV → XV → Prop
  | [], _, H, Q, _ => Q (.bool isAnd) H
  | e :: es, l, H, Q, X => wpE G hm e l H (fun v H1 => truthV v fun b => if b = isAnd then (match es with | [] => Q (.bool b) H1 | _ => wpB G hm isAnd es l H1 Q X) else Q (.bool b) H1) X
end

noncomputable def setAttrV (G : Gx) (o : Value) (a : Str) (v : Value) (H : Hp) (k : Hp → Prop) : Prop :=
  match o with
  | .ref x => match H x with
    | some (.inst C d) => (match H d with
      | some (.ns kvs) => G.fld C a = true ∧ kvs.length ≤ 100 ∧ k (H.upd d (.ns (stored kvs a v)))
      | _ => False)
    | _ => False
  | _ => False

noncomputable def setItemV (o i v : Value) (H : Hp) (k : Hp → Prop) : Prop :=
  match o, i with
  | .ref a, .int n _ => match H a with
    | some (.idict kvs) => kvs.length ≤ sizeLine ∧ k (H.upd a (.idict (stored kvs n v)))
    | _ => False
  | .ref a, .str x _ => match H a with
    | some (.sdict kvs) => kvs.length ≤ sizeLine ∧ k (H.upd a (.sdict (stored kvs x v)))
    | some (.idict kvs) => kvs = [] ∧ k (H.upd a (.sdict [(x, v)]))
    | _ => False
  | _, _ => False

inductive Fl where
  | next | cont
  | ret (v : Value)

noncomputable abbrev QS := Fl → Loc → Hp → Prop
noncomputable abbrev XS := Addr → Loc → Hp → Prop

/-- a for's turns -/
noncomputable def forG (guard : Hp → Prop) (x : Str) (body : Loc → Hp → QS → Prop) : List Value → Loc → Hp → QS → Prop
  | [], l, H, Q => guard H ∧ Q .next l H
  | v :: vs, l, H, Q => guard H ∧ body (l.upd x v) H fun f l' H' => match f with
    | .next | .cont => forG guard x body vs l' H' Q
    | .ret r => Q (.ret r) l' H'

/-- a while's turns, at most so many -/
noncomputable def whileN (test : Loc → Hp → (Bool → Hp → Prop) → Prop) (body : Loc → Hp → QS → Prop) (Q : QS) : Nat → Loc → Hp → Prop
  | 0, _, _ => False
  | n + 1, l, H => test l H fun b H1 => if b then body l H1 (fun f l' H' => match f with
      | .next | .cont => whileN test body Q n l' H'
      | .ret r => Q (.ret r) l' H') else Q .next l H1

mutual
noncomputable def wpS (G : Gx) (hm : Bool) : Sm → Loc → Hp → QS → XS → Prop
  | .expr e, l, H, Q, X => wpE G hm e l H (fun _ H' => Q .next l H') (fun C H' => X C l H')
  | .asg x e, l, H, Q, X => wpE G hm e l H (fun v H' => Q .next (l.upd x v) H') (fun C H' => X C l H')
  | .asgAttr o a e, l, H, Q, X => wpE G hm e l H (fun v H1 => wpE G hm o l H1 (fun ov H2 => setAttrV G ov a v H2 fun H' => Q .next l H') (fun C H' => X C l H')) (fun C H' => X C l H')
  | .asgIdx o i e, l, H, Q, X => wpE G hm e l H (fun v H1 => wpE G hm o l H1 (fun ov H2 => wpE G hm i l H2 (fun iv H3 => setItemV ov iv v H3 fun H' => Q .next l H') (fun C H' => X C l H')) (fun C H' => X C l H')) (fun C H' => X C l H')
  | .ite c t f, l, H, Q, X => wpE G hm c l H (fun v H1 => truthV v fun b => if b then wpSs G hm t l H1 Q X else wpSs G hm f l H1 Q X) (fun C H' => X C l H')
  | .for_ x src body, l, H, Q, X => wpE G hm src l H (fun v H1 => hm = false ∧ iterV v H1 fun guard items => forG guard x (fun l' H' K => wpSs G hm body l' H' K X) items l H1 Q) (fun C H' => X C l H')
  | .while_ c body, l, H, Q, X => ∃ n, whileN (fun l' H' K => wpE G hm c l' H' (fun v H1 => truthV v fun b => K b H1) (fun C H' => X C l' H')) (fun l' H' K => wpSs G hm body l' H' K X) Q n l H
  | .ret e, l, H, Q, X => wpE G hm e l H (fun v H' => Q (.ret v) l H') (fun C H' => X C l H')
  | .raise c, l, H, _, X => hm = false ∧ (match G.glob c with | some (.ref C) => G.isExc C = true ∧ X C l H | _ => False)
  | .try_ body hs, l, H, Q, X => wpSs G hm body l H Q fun C l' H' => hm = false ∧ G.isExc C = true ∧ wpH G hs C l' H' Q X
  | .cont, l, H, Q, _ => Q .cont l H
  | .pass, l, H, Q, _ => Q .next l H
noncomputable def wpSs (G : Gx) (hm : Bool) : List Sm → Loc → Hp → QS → XS → Prop
  | [], l, H, Q, _ => Q .next l H
  | st :: r, l, H, Q, X => wpS G hm st l H (fun f l' H' => match f with | .next => wpSs G hm r l' H' Q X | f => Q f l' H') X
noncomputable def wpH (G : Gx) : List Hd → Addr → Loc → Hp → QS → XS → Prop
  | [], C, l, H, _, X => X C l H
  | .mk c n body :: r, C, l, H, Q, X => match G.glob c with
    | some (.ref D) => G.isExc D = true ∧ if G.sub C D then (match n with
        | none => wpSs G true body l H Q (fun _ _ _ => False)
        | some y => ∀ e, H e = none → wpSs G true body (l.upd y (.ref e)) (H.upd e (.exc C)) (fun f l' H' => Q f (l'.del y) H') (fun _ _ _ => False))
      else wpH G r C l H Q X
    | _ => False
end

/-- a def's call -/
noncomputable def wpF (G : Gx) (hm : Bool) (params : List Str) (body : List Sm) (args : List Value) (H : Hp) (Q : QV) (X : XV) : Prop :=
  params.length = args.length ∧ wpSs G hm body (fun x => (params.zip args).lookup x) H
    (fun f _ H' => match f with | .next => Q .none H' | .ret v => Q v H' | .cont => False) (fun C _ H' => X C H')

end Mine
end

section
open PySem PyProof.Rows PySem.Calls
namespace Mine

noncomputable def PostE (P : Pm) (F : Fm) (l : Loc) (Q : QV) : Value → Shared → Prop := fun V s' => ∃ H', Inv P F l H' s' ∧ Q (er V) H'

section
variable {P : Pm} {F : Fm} {l : Loc} {H : Hp} {s : Shared} {E : Value → Shared → Prop} {Q : QV} {A' B' a b : Value}

theorem same_int {x : Int} {t : Nat} (I : Inv P F l H s) (h : Q (.int x 0) H) (u : Tok) : PostE P F l Q (.int x u) { s with toks := t } := ⟨H, I.toks t, h⟩

theorem IsL.isList {h : Heap} {a : Addr} {vs : Array Value} (x : IsL h a vs) : h.IsList a vs := let ⟨n, e⟩ := x; ⟨_, e, rfl, n, rfl⟩
theorem mt_list {h : Heap} {a : Addr} {vs : Array Value} (hl : IsL h a vs) (hz : vs.size ≤ 2 ^ 25) : Mt P h a (.list (vs.toList.map er)) := ⟨vs, hl.isList, rfl, by simpa using hz, hl⟩
theorem mt_tup {h : Heap} {a : Addr} {vs : Array Value} (hl : h.IsTuple a vs) (hz : vs.size ≤ 2 ^ 25) : Mt P h a (.tup (vs.toList.map er)) := ⟨vs, hl, rfl, by simpa using hz⟩

theorem new_list (K : FmOk P F) (I : Inv P F l H s) {h' : Heap} {t : Nat} {m : Str → Option Value} {vs : Array Value} {n : Nat}
    (hm : ∀ x v, l x = some v → F.env.kindOf x = some .local → ∃ V, m x = some V ∧ er V = v) (F' : Fr P.base F.env.locals h' m)
    (N' : News P.base F.env.locals h' ((s.heap.objs.size, { cls := .type "list", data := .seq vs n }) :: allNews P.base s.heap F.env.locals))
    (hz : vs.size ≤ 2 ^ 25) (h : newV (.list (vs.toList.map er)) H Q) : PostE P F l Q (.ref s.heap.objs.size) { s with heap := h', toks := t } :=
  ⟨_, (I.after K hm F' N' fun _ hp => .tail _ hp).track (I.ofSize K) (bigs_of (I.base_le K)) (mt_list ⟨n, (N' _ (.head _)).1⟩ hz), h _ I.fresh⟩
theorem intBits_lt {x : Int} (h : x.natAbs < 2 ^ 63) : Builtin.Int.intBits x ≤ 64 := by
  unfold Builtin.Int.intBits
  split
  · omega
  · have := (Nat.log2_lt (n := x.natAbs) (k := 63) (by intro q; simp_all)).mpr h
    omega

theorem s_bin (K : FmOk P F) (I : Inv P F l H s) (op : Operator) (ha : er A' = a) (hb : er B' = b) (h : binV op a b H Q) : wpAny P.M F.A (binaryOp op A' B') (PostE P F l Q) E s := by
  unfold binV at h
  split at h
  · unfold addV at h
    split at h
    · obtain ⟨_, rfl⟩ := er_int ha; obtain ⟨y, _, rfl, h⟩ := onInt_elim hb h
      exact add_int (same_int I h _)
    · obtain ⟨_, rfl⟩ := er_str ha; obtain ⟨y, _, rfl, h⟩ := onStr_elim hb h
      exact add_str (fun t' tk => ⟨H, I.toks tk, h.2⟩) h.1
    · have := er_ref ha; subst this; obtain ⟨y, rfl, h⟩ := onRef_elim hb h
      obtain ⟨m, Fr, hm⟩ := I.fr K
      unfold addR at h
      split at h
      · rename_i xs hx
        split at h
        · rename_i ys hy
          obtain ⟨vs, hl, rfl, z1⟩ := I.objs _ _ hx
          obtain ⟨ws, hl', rfl, z2⟩ := I.objs _ _ hy
          simp only [List.length_map, Array.length_toList] at h z1 z2
          refine add_arrays Fr (news_all _ _ _) hl hl' (fun h' F' N' => new_list K I (t := s.toks) hm F' N' ?_ ?_) h.1
          · simp; have := h.1; simp [sizeLine] at this; omega
          · simpa using h.2
        · exact h.elim
      · rename_i xs hx
        split at h
        · rename_i ys hy
          obtain ⟨vs, hl, rfl, z1⟩ := I.objs _ _ hx
          obtain ⟨ws, hl', rfl, z2⟩ := I.objs _ _ hy
          simp only [List.length_map, Array.length_toList] at h z1 z2
          obtain ⟨vs⟩ := vs
          obtain ⟨ws⟩ := ws
          refine add_tuples Fr (news_all _ _ _) hl hl' (fun e => ?_) (fun _ e => ?_) (fun _ _ h' F' N' => ?_) h.1
          · subst e; exact ⟨H, I, h.2.2 _ (by simpa using hy)⟩
          · subst e; exact ⟨H, I, h.2.2 _ (by simpa using hx)⟩
          · have z := h.1
            simp [sizeLine] at z
            exact ⟨_, (I.after K hm F' N' (t := s.toks) fun _ hp => .tail _ hp).track (I.ofSize K) (bigs_of (I.base_le K)) (mt_tup ⟨_, (N' _ (.head _)).1, rfl, 0, rfl⟩ (by simp; omega)), by have := h.2.1 _ I.fresh; rw [← List.map_append] at this; exact this⟩
        · exact h.elim
      · exact h.elim
    · exact h.elim
  · obtain ⟨x, _, rfl, h⟩ := onInt_elim ha h; obtain ⟨y, _, rfl, h⟩ := onInt_elim hb h
    exact sub_int (same_int I h _)
  · unfold multV at h
    split at h
    · rename_i x _; obtain ⟨_, rfl⟩ := er_int ha; obtain ⟨y, _, rfl, h⟩ := onInt_elim hb h
      refine mul_int (same_int I h.2 _) ?_
      unfold IntMulOk shortFactorBits
      rcases h.1 with q | q
      · have := intBits_lt q; simp; omega
      · have := intBits_lt q; simp; omega
    · rename_i x _; obtain ⟨_, rfl⟩ := er_str ha; obtain ⟨n, _, rfl, h⟩ := onInt_elim hb h
      refine SB.mul ?_ (fun t' tk => ⟨H, I.toks tk, h.2.2.2⟩)
      obtain ⟨h1, h2, h3, _⟩ := h
      refine ⟨by simp; omega, fun q _ => ?_, fun q _ => ?_⟩
      · have : (1000 : Int) ≤ (2 ^ 63 - 1) / n := by
          apply Int.le_ediv_of_mul_le (by omega)
          have : 1000 * n ≤ 1000 * 1000 := Int.mul_le_mul_of_nonneg_left h2 (by omega)
          omega
        omega
      · have : x.length * n.toNat ≤ 1000 * 1000 := Nat.mul_le_mul h1 (by omega)
        simp [Builtin.Str.tooLong, sizeLine]; omega
    · exact h.elim
  · obtain ⟨x, _, rfl, h⟩ := onInt_elim ha h; obtain ⟨y, _, rfl, h⟩ := onInt_elim hb h
    refine floordiv_int (by omega) ?_ (.inl ?_)
    · rw [Int.fdiv_eq_ediv_of_nonneg _ (by omega)]; exact same_int I h.2.2 _
    · unfold Builtin.divisionGoesByPylong
      have : y.natAbs.log2 < 63 := by
        by_cases hy : y.natAbs = 0
        · rw [hy]; decide
        · exact (Nat.log2_lt hy).mpr (by omega)
      have h0 : ¬ y = 0 := by omega
      simp [h0]
      omega
  · obtain ⟨x, _, rfl, h⟩ := onInt_elim ha h; obtain ⟨y, _, rfl, h⟩ := onInt_elim hb h
    refine mod_int (by omega) ?_
    rw [Int.fmod_eq_emod_of_nonneg _ (by omega)]; exact same_int I h.2 _
  · obtain ⟨x, _, rfl, h⟩ := onInt_elim ha h; obtain ⟨y, _, rfl, h⟩ := onInt_elim hb h
    have := intBits_lt h.2.2.1
    refine pow_int h.1 ?_ (same_int I h.2.2.2 _)
    have h1 : (Builtin.Int.intBits x : Int) * y ≤ 64 * 100 := Int.mul_le_mul (by omega) h.2.1 h.1 (by omega)
    omega
  · exact h.elim


mutual
theorem reads_of (I : Inv P F l H s) : ∀ {v : Value} {d : PyData}, Rd H v d → ∀ V, er V = v → ∃ as, Reads s.heap V d as
  | _, _, .none, V, e => ⟨[], by rw [er_none e]; exact .none⟩
  | _, _, .bool b, V, e => ⟨[], by rw [er_bool e]; exact .bool b⟩
  | _, _, .int i t, V, e => ⟨[], by obtain ⟨u, rfl⟩ := er_int e; exact .int i u⟩
  | _, _, .str x t, V, e => ⟨[], by obtain ⟨u, rfl⟩ := er_str e; exact .str x u⟩
  | _, _, .list (a := a) ha hr, V, e => by
    have := er_ref e; subst this
    obtain ⟨vs, ⟨o, ho, hc, n, hd⟩, q, _⟩ := I.objs _ _ ha
    obtain ⟨as, r⟩ := readsAll_of I hr vs.toList q
    exact ⟨_, .list ho hc hd r⟩
  | _, _, .tup (a := a) ha hr, V, e => by
    have := er_ref e; subst this
    obtain ⟨vs, ⟨o, ho, hc, n, hd⟩, q, _⟩ := I.objs _ _ ha
    obtain ⟨as, r⟩ := readsAll_of I hr vs.toList q
    exact ⟨_, .tuple ho hc hd r⟩
theorem readsAll_of (I : Inv P F l H s) : ∀ {vs : List Value} {ds : List PyData}, RdAll H vs ds → ∀ Vs : List Value, Vs.map er = vs → ∃ as, ReadsAll s.heap Vs ds as
  | _, _, .nil, Vs, e => by
    cases Vs with
    | nil => exact ⟨[], .nil⟩
    | cons => simp at e
  | _, _, .cons h r, Vs, e => by
    cases Vs with
    | nil => simp at e
    | cons V Vs =>
      simp only [List.map_cons, List.cons.injEq] at e
      obtain ⟨as, p⟩ := reads_of I h V e.1
      obtain ⟨bs, q⟩ := readsAll_of I r Vs e.2
      exact ⟨_, .cons p q⟩
end

theorem beq_dec {α : Type} [DecidableEq α] (x y : α) : (x == y) = decide (x = y) := by rw [Bool.eq_iff_iff]; simp

theorem s_eq (I : Inv P F l H s) (hu : F.A.units + 64 < cLine) (ha : er A' = a) (hb : er B' = b) (h : eqV a b H fun r => Q (.bool r) H) : wpAny P.M F.A (compareOp .Eq A' B') (PostE P F l Q) E s := by
  unfold eqV at h
  split at h
  · obtain ⟨_, rfl⟩ := er_int ha; obtain ⟨_, rfl⟩ := er_int hb
    exact eq_int ⟨H, I, by rw [beq_dec]; exact h⟩
  · obtain ⟨_, rfl⟩ := er_str ha; obtain ⟨_, rfl⟩ := er_str hb
    exact eq_str ⟨H, I, by rw [beq_dec]; exact h⟩
  · rw [er_none ha, er_none hb]; exact EqNone.eq_none_none ⟨H, I, h⟩
  · rw [er_none ha]; obtain ⟨_, rfl⟩ := er_int hb; exact EqNone.eq_none_int ⟨H, I, h⟩
  · rw [er_none hb]; obtain ⟨_, rfl⟩ := er_int ha; exact EqNone.eq_int_none ⟨H, I, h⟩
  · rw [er_none ha]; obtain ⟨_, rfl⟩ := er_str hb; exact EqNone.eq_none_str ⟨H, I, h⟩
  · rw [er_none hb]; obtain ⟨_, rfl⟩ := er_str ha; exact EqNone.eq_str_none ⟨H, I, h⟩
  · obtain ⟨da, db, ra, rb, sa, sb, q⟩ := h
    obtain ⟨as, ra⟩ := reads_of I ra A' ha
    obtain ⟨bs, rb⟩ := reads_of I rb B' hb
    exact SeqAt.compareEq_shaped ra rb sa sb hu ⟨H, I, q⟩

theorem s_ne (I : Inv P F l H s) (hu : F.A.units + 64 < cLine) (ha : er A' = a) (hb : er B' = b) (h : eqV a b H fun r => Q (.bool (!r)) H) : wpAny P.M F.A (compareOp .NotEq A' B') (PostE P F l Q) E s := by
  unfold eqV at h
  split at h
  · obtain ⟨_, rfl⟩ := er_int ha; obtain ⟨_, rfl⟩ := er_int hb
    exact ne_int ⟨H, I, by show Q (.bool (_ != _)) H; unfold bne; rw [beq_dec]; exact h⟩
  · obtain ⟨_, rfl⟩ := er_str ha; obtain ⟨_, rfl⟩ := er_str hb
    exact ne_str ⟨H, I, by show Q (.bool (_ != _)) H; unfold bne; rw [beq_dec]; exact h⟩
  · rw [er_none ha, er_none hb]; exact EqNone.ne_none_none ⟨H, I, h⟩
  · rw [er_none ha]; obtain ⟨_, rfl⟩ := er_int hb; exact EqNone.ne_none_int ⟨H, I, h⟩
  · rw [er_none hb]; obtain ⟨_, rfl⟩ := er_int ha; exact EqNone.ne_int_none ⟨H, I, h⟩
  · rw [er_none ha]; obtain ⟨_, rfl⟩ := er_str hb; exact EqNone.ne_none_str ⟨H, I, h⟩
  · rw [er_none hb]; obtain ⟨_, rfl⟩ := er_str ha; exact EqNone.ne_str_none ⟨H, I, h⟩
  · obtain ⟨da, db, ra, rb, sa, sb, q⟩ := h
    obtain ⟨as, ra⟩ := reads_of I ra A' ha
    obtain ⟨bs, rb⟩ := reads_of I rb B' hb
    exact SeqAt.compareNe_shaped ra rb sa sb hu ⟨H, I, q⟩

theorem valueAt_er {K : Type} [DecidableEq K] (ks : List (K × Value)) (k : K) : valueAt (ks.map fun p => (p.1, er p.2)) k = (valueAt ks k).map er := by
  unfold valueAt
  induction ks with
  | nil => rfl
  | cons p r ih =>
    simp only [List.map_cons, List.find?_cons]
    by_cases e : p.1 = k
    · simp [e]
    · simp [e]; simpa using ih

theorem not_modules (Y : PmOk P) (I : Inv P F l H s) {a : Addr} {o : AObj} (h : H a = some o) (hb : Bigs P a o → P.base.objs.size ≤ a := by exact id) : (a == sysModules) = false := by
  have h3 : sysModules < mainGlobals := by decide
  exact beq_eq_false_iff_ne.mpr (Nat.ne_of_gt (Nat.lt_of_lt_of_le (Nat.lt_trans h3 Y.g.lt) (hb (I.big a o h))))

theorem ints_of : ∀ {vs : List Value} {ns : List Int}, vs.map er = ns.map (fun n => Value.int n 0) → IntsAre vs ns
  | [], [], _ => .nil
  | [], _ :: _, e => by simp at e
  | _ :: _, [], e => by simp at e
  | v :: vs, n :: ns, e => by
    simp only [List.map_cons, List.cons.injEq] at e
    obtain ⟨t, rfl⟩ := er_int e.1
    exact .cons n t (ints_of e.2)
theorem any_mem (ns : List Int) (i : Int) : ns.any (· == i) = decide (i ∈ ns) := by
  rw [Bool.eq_iff_iff]; simp

theorem empty_sdict {h : Heap} {a : Addr} (x : h.DictOf (intKind P.prog P.w) a []) : h.DictOf (PySem.strKind P.prog P.w) a [] := by
  obtain ⟨o, es, ep, h1, h2, h3, h4, h5, h6⟩ := x
  have : es = #[] := by
    cases hq : es.toList with
    | nil => simpa using hq
    | cons => rw [hq] at h5; cases h5
  subst this
  exact ⟨o, #[], ep, h1, h2, h3, fun e he => by simp at he, .nil, .nil⟩

theorem s_in (Y : PmOk P) (I : Inv P F l H s) (ha : er A' = a) (hb : er B' = b) (h : inV a b H fun r => Q (.bool r) H) : wpAny P.M F.A (compareOp .In A' B') (PostE P F l Q) E s := by
  unfold inV at h
  split at h
  · obtain ⟨_, rfl⟩ := er_str ha; obtain ⟨_, rfl⟩ := er_str hb
    exact in_str ⟨H, I, h⟩
  · obtain ⟨_, rfl⟩ := er_int ha; have := er_ref hb; subst this
    split at h
    · rename_i hx
      obtain ⟨ks, hd, rfl⟩ := I.objs _ _ hx
      refine wpAny_in_of (intKind_is _ _ _ _) (not_modules Y I hx) hd.mapOf ⟨H, I.toks _, ?_⟩
      rw [valueAt_er] at h
      simpa [er] using h
    · rename_i hx
      obtain ⟨ns, rfl, h⟩ := h
      obtain ⟨⟨vs⟩, hl, q, _⟩ := I.objs _ _ hx
      exact in_list_ints hl (ints_of q) ⟨H, I, by rw [any_mem]; exact h⟩
    · exact h.elim
  · obtain ⟨_, rfl⟩ := er_str ha; have := er_ref hb; subst this
    split at h
    · rename_i hx
      obtain ⟨ks, hd, rfl⟩ := I.objs _ _ hx
      refine wpAny_in_of (strKind_is _ _ _ _) (not_modules Y I hx) hd.mapOf ⟨H, I.toks _, ?_⟩
      rw [valueAt_er] at h
      simpa [er] using h
    · rename_i hx
      obtain ⟨ks, hd, q⟩ := I.objs _ _ hx
      obtain ⟨e, h⟩ := h
      obtain rfl : ks = [] := by rw [e] at q; simpa using q
      exact wpAny_in_of (strKind_is _ _ _ _) (not_modules Y I hx) (empty_sdict hd).mapOf ⟨H, I.toks _, h⟩
    · exact h.elim
  · exact h.elim

theorem s_notin (Y : PmOk P) (I : Inv P F l H s) (ha : er A' = a) (hb : er B' = b) (h : inV a b H fun r => Q (.bool (!r)) H) : wpAny P.M F.A (compareOp .NotIn A' B') (PostE P F l Q) E s := by
  unfold inV at h
  split at h
  · obtain ⟨_, rfl⟩ := er_str ha; obtain ⟨_, rfl⟩ := er_str hb
    exact notIn_str ⟨H, I, h⟩
  · obtain ⟨_, rfl⟩ := er_int ha; have := er_ref hb; subst this
    split at h
    · rename_i hx
      obtain ⟨ks, hd, rfl⟩ := I.objs _ _ hx
      refine wpAny_notIn_of (intKind_is _ _ _ _) (not_modules Y I hx) hd.mapOf ⟨H, I.toks _, ?_⟩
      rw [valueAt_er] at h
      simpa [er] using h
    · rename_i hx
      obtain ⟨ns, rfl, h⟩ := h
      obtain ⟨⟨vs⟩, hl, q, _⟩ := I.objs _ _ hx
      exact notin_list_ints hl (ints_of q) ⟨H, I, by rw [any_mem]; exact h⟩
    · exact h.elim
  · obtain ⟨_, rfl⟩ := er_str ha; have := er_ref hb; subst this
    split at h
    · rename_i hx
      obtain ⟨ks, hd, rfl⟩ := I.objs _ _ hx
      refine wpAny_notIn_of (strKind_is _ _ _ _) (not_modules Y I hx) hd.mapOf ⟨H, I.toks _, ?_⟩
      rw [valueAt_er] at h
      simpa [er] using h
    · rename_i hx
      obtain ⟨ks, hd, q⟩ := I.objs _ _ hx
      obtain ⟨e, h⟩ := h
      obtain rfl : ks = [] := by rw [e] at q; simpa using q
      exact wpAny_notIn_of (strKind_is _ _ _ _) (not_modules Y I hx) (empty_sdict hd).mapOf ⟨H, I.toks _, h⟩
    · exact h.elim
  · exact h.elim

theorem s_is (I : Inv P F l H s) (h : match er A' with | .none => Q (.bool true) H | .builtin _ => False | _ => Q (.bool false) H) : wpAny P.M F.A (compareOp .Is A' .none) (PostE P F l Q) E s := by
  cases A' <;> dsimp only [er] at h
  case none => exact wpAny_is_plain rfl ⟨H, I, h⟩
  all_goals exact wpAny_is_other rfl (by simp) ⟨H, I, h⟩
theorem s_isnot (I : Inv P F l H s) (h : match er A' with | .none => Q (.bool false) H | .builtin _ => False | _ => Q (.bool true) H) : wpAny P.M F.A (compareOp .IsNot A' .none) (PostE P F l Q) E s := by
  cases A' <;> dsimp only [er] at h
  case none => exact wpAny_isNot_self rfl ⟨H, I, h⟩
  all_goals exact wpAny_isNot_other rfl (by simp) ⟨H, I, h⟩

theorem s_cmp (Y : PmOk P) (I : Inv P F l H s) (hu : F.A.units + 64 < cLine) (op : CmpOp) (ha : er A' = a) (hb : er B' = b) (h : cmpV op a b H Q) : wpAny P.M F.A (compareOp op A' B') (PostE P F l Q) E s := by
  unfold cmpV at h
  cases op <;> dsimp only at h
  · exact s_eq I hu ha hb h
  · exact s_ne I hu ha hb h
  · split at h
    · obtain ⟨_, rfl⟩ := er_int ha; obtain ⟨_, rfl⟩ := er_int hb; exact lt_int ⟨H, I, h⟩
    · obtain ⟨_, rfl⟩ := er_str ha; obtain ⟨_, rfl⟩ := er_str hb; exact lt_str ⟨H, I, h⟩
    · exact h.elim
  · split at h
    · obtain ⟨_, rfl⟩ := er_int ha; obtain ⟨_, rfl⟩ := er_int hb; exact le_int ⟨H, I, h⟩
    · exact h.elim
  · split at h
    · obtain ⟨_, rfl⟩ := er_int ha; obtain ⟨_, rfl⟩ := er_int hb; exact gt_int ⟨H, I, h⟩
    · obtain ⟨_, rfl⟩ := er_str ha; obtain ⟨_, rfl⟩ := er_str hb; exact PySem.P.gt_str ⟨H, I, h⟩
    · exact h.elim
  · split at h
    · obtain ⟨_, rfl⟩ := er_int ha; obtain ⟨_, rfl⟩ := er_int hb; exact ge_int ⟨H, I, h⟩
    · exact h.elim
  · split at h
    · rw [er_none hb]; subst ha; exact s_is I h
    · exact h.elim
  · split at h
    · rw [er_none hb]; subst ha; exact s_isnot I h
    · exact h.elim
  · exact s_in Y I ha hb h
  · exact s_notin Y I ha hb h

end
end Mine
end

section
open PySem PyProof.Rows PySem.Calls
namespace Mine

/-! ## slices -/
theorem slice_core {α : Type} (xs : List α) (a : Nat) : ∀ n : Nat, a + n ≤ xs.length → ((List.range n).map (fun k => a + k)).filterMap (fun i => xs[i]?) = (xs.take (a + n)).drop a
  | 0, _ => by simp
  | n + 1, h => by
    have ih := slice_core xs a n (by omega)
    rw [List.range_succ, List.map_append, List.filterMap_append, ih]
    have hl : a + n < xs.length := by omega
    simp only [List.map_cons, List.map_nil, List.filterMap_cons, List.getElem?_eq_getElem hl, List.filterMap_nil]
    have : xs.take (a + (n + 1)) = xs.take (a + n) ++ [xs[a + n]] := by rw [← Nat.add_assoc]; exact List.take_succ_eq_append_getElem hl
    rw [this, List.drop_append_of_le_length]
    simp; omega

theorem clip_eq (n : Nat) (i : Int) : (max 0 (min (if i < 0 then i + n else i) (n : Int))) = (cutAt n i : Int) := by
  unfold cutAt
  split <;> omega
theorem cutAt_le (n : Nat) (i : Int) : cutAt n i ≤ n := by unfold cutAt; split <;> omega
theorem hiAt_le (n : Nat) (i : Option Int) : hiAt n i ≤ n := by cases i <;> simp [hiAt, cutAt_le]

theorem sliceRange_one (a b : Nat) : sliceRange (a : Int) (b : Int) 1 = (List.range (b - a)).map fun k => a + k := by
  have e : (if (1 : Int) > 0 then (if (a : Int) < b then ((b : Int) - a + 1 - 1) / 1 else 0) else (if (a : Int) > b then ((a : Int) - b - 1 - 1) / (-1) else 0)).toNat = b - a := by
    rw [if_pos (by omega)]
    split <;> omega
  unfold sliceRange
  simp only [e]
  apply List.map_congr_left
  intro k _
  omega
theorem sliceIdx (n : Nat) (lo hi : Option Int) : sliceRange (sliceBounds lo hi none n).1 (sliceBounds lo hi none n).2.1 (sliceBounds lo hi none n).2.2 = (List.range (hiAt n hi - loAt n lo)).map fun k => loAt n lo + k := by
  have h1 : (sliceBounds lo hi none n).1 = (loAt n lo : Int) := by
    cases lo with
    | none => simp [sliceBounds, loAt]
    | some i => simp only [sliceBounds, Option.getD, loAt]; rw [if_pos (by omega)]; exact clip_eq _ _
  have h2 : (sliceBounds lo hi none n).2.1 = (hiAt n hi : Int) := by
    cases hi with
    | none => simp [sliceBounds, hiAt]
    | some i => simp only [sliceBounds, Option.getD, hiAt]; rw [if_pos (by omega)]; exact clip_eq _ _
  have h3 : (sliceBounds lo hi none n).2.2 = 1 := rfl
  rw [h1, h2, h3, sliceRange_one]

theorem slicePick_eq {α : Type} (xs : List α) (lo hi : Option Int) :
    (sliceRange (sliceBounds lo hi none xs.length).1 (sliceBounds lo hi none xs.length).2.1 (sliceBounds lo hi none xs.length).2.2).filterMap (fun i => xs[i]?) = pySlice xs lo hi := by
  have key : ∀ a b : Nat, b ≤ xs.length → ((List.range (b - a)).map fun k => a + k).filterMap (fun i => xs[i]?) = (xs.take b).drop a := by
    intro a b hb
    by_cases hab : b ≤ a
    · have : b - a = 0 := by omega
      rw [this]
      rw [List.drop_eq_nil_of_le (by simp; omega)]
      simp
    · rw [slice_core xs a (b - a) (by omega)]
      congr 2
      omega
  rw [sliceIdx]
  exact key _ _ (hiAt_le _ _)
theorem pySlice_whole {α : Type} (xs : List α) (lo hi : Option Int) (h : hiAt xs.length hi - loAt xs.length lo = xs.length) : pySlice xs lo hi = xs := by
  have := hiAt_le xs.length hi
  unfold pySlice
  by_cases z : xs.length = 0
  · have := List.eq_nil_of_length_eq_zero z; subst this; simp
  · have h1 : loAt xs.length lo = 0 := by omega
    have h2 : hiAt xs.length hi = xs.length := by omega
    rw [h1, h2]; simp

theorem pySlice_len {α : Type} (xs : List α) (lo hi : Option Int) : (pySlice xs lo hi).length ≤ xs.length := by
  unfold pySlice; simp; omega
theorem pySlice_map {α β : Type} (f : α → β) (xs : List α) (lo hi : Option Int) : pySlice (xs.map f) lo hi = (pySlice xs lo hi).map f := by
  unfold pySlice
  simp [List.map_take, List.map_drop]

theorem at_map {α β : Type} (f : α → β) (xs : List α) (k : Int) {v : β} (h : at? (xs.map f) k = some v) : ∃ u, at? xs k = some u ∧ f u = v := by
  unfold at? at *
  simp only [List.length_map, List.getElem?_map] at h
  split at h
  · rename_i q; rw [if_pos q]; exact Option.map_eq_some_iff.mp h
  · rename_i q; rw [if_neg q]
    split at h
    · rename_i q; rw [if_pos q]; exact Option.map_eq_some_iff.mp h
    · cases h

theorem at_seqIndex {α : Type} (xs : List α) (k : Int) {v : α} (h : at? xs k = some v) : ∃ j, seqIndex? k xs.length = some j ∧ xs[j]? = some v ∧ -(xs.length : Int) ≤ k ∧ k < xs.length := by
  unfold at? at h
  split at h
  · rename_i q
    have := (List.getElem?_eq_some_iff.mp h).1
    refine ⟨k.toNat, ?_, h, by omega, by omega⟩
    simp only [seqIndex?, if_neg (show ¬ k < 0 by omega)]
    rw [if_pos (by simp; omega)]
  · split at h
    · rename_i q1 q2
      refine ⟨(k + xs.length).toNat, ?_, h, by omega, by omega⟩
      simp only [seqIndex?, if_pos (show k < 0 by omega)]
      rw [if_pos (by simp; omega)]
    · cases h

section
variable {P : Pm} {F : Fm} {l : Loc} {H : Hp} {s : Shared} {E : Value → Shared → Prop} {Q : QV} {A' B' a b : Value}

theorem s_idx (I : Inv P F l H s) (ha : er A' = a) (hb : er B' = b) (h : idxV a b H Q) : wpAny P.M F.A (getItem A' B') (PostE P F l Q) E s := by
  unfold idxV at h
  split at h
  · rename_i x k _; have := er_ref ha; subst this; obtain ⟨_, rfl⟩ := er_int hb
    split at h
    · rename_i xs hx
      obtain ⟨⟨vs⟩, hl, q, z, _⟩ := I.objs _ _ hx
      split at h
      · rename_i v hv
        subst q
        obtain ⟨V, hV, rfl⟩ := at_map er vs k hv
        simp only [List.length_map] at z
        obtain ⟨j, e1, e2, e3, e4⟩ := at_seqIndex vs k hV
        by_cases hk : 0 ≤ k
        · refine wpAny_getItem_list hl hk (by omega) (x := V) ?_ ⟨H, I, h⟩
          simp only [at?, if_pos hk] at hV
          simpa using hV
        · refine wpAny_getItem_list_neg hl (by omega) (by simpa using e3) (by omega) (x := V) ?_ ⟨H, I, h⟩
          simp only [at?, if_neg hk, if_pos e3] at hV
          simpa using hV
      · exact h.elim
    · rename_i xs hx
      obtain ⟨⟨vs⟩, hl, q, z⟩ := I.objs _ _ hx
      split at h
      · rename_i v hv
        subst q
        obtain ⟨V, hV, rfl⟩ := at_map er vs k hv
        simp only [List.length_map] at z
        obtain ⟨j, e1, e2, e3, e4⟩ := at_seqIndex vs k hV
        by_cases hk : 0 ≤ k
        · refine wpAny_getItem_list hl hk (by omega) (x := V) ?_ ⟨H, I, h⟩
          simp only [at?, if_pos hk] at hV
          simpa using hV
        · refine wpAny_getItem_list_neg hl (by omega) (by simpa using e3) (by omega) (x := V) ?_ ⟨H, I, h⟩
          simp only [at?, if_neg hk, if_pos e3] at hV
          simpa using hV
      · exact h.elim
    · rename_i xs hx
      obtain ⟨⟨vs⟩, hl, q, z⟩ := I.objs _ _ hx
      split at h
      · rename_i v hv
        subst q
        obtain ⟨V, hV, rfl⟩ := at_map er vs k hv
        simp only [List.length_map] at z
        obtain ⟨j, e1, e2, e3, e4⟩ := at_seqIndex vs k hV
        exact getItem_tuple hl (by omega) (by omega) (j := j) (by simpa using e1) (x := V) (by simpa using e2) ⟨H, I, h⟩
      · exact h.elim
    · rename_i kvs hx
      obtain ⟨ks, hd, rfl⟩ := I.objs _ _ hx
      split at h
      · rename_i v hv
        rw [valueAt_er] at hv
        obtain ⟨V, hV, rfl⟩ := Option.map_eq_some_iff.mp hv
        exact wpAny_getItem_of (intKind_is _ _ _ _) hd.mapOf hV ⟨H, I.toks _, h⟩
      · exact h.elim
    · exact h.elim
  · rename_i x k _; have := er_ref ha; subst this; obtain ⟨_, rfl⟩ := er_str hb
    split at h
    · rename_i kvs hx
      obtain ⟨ks, hd, rfl⟩ := I.objs _ _ hx
      split at h
      · rename_i v hv
        rw [valueAt_er] at hv
        obtain ⟨V, hV, rfl⟩ := Option.map_eq_some_iff.mp hv
        exact wpAny_getItem_of (strKind_is _ _ _ _) hd.mapOf hV ⟨H, I.toks _, h⟩
      · exact h.elim
    · exact h.elim
  · rename_i x _ k _; obtain ⟨_, rfl⟩ := er_str ha; obtain ⟨_, rfl⟩ := er_int hb
    split at h
    · rename_i c hc
      obtain ⟨j, e1, e2, e3, e4⟩ := at_seqIndex _ k hc
      have hz := h.1
      have hlen : x.cps.toList.length = x.length := by simp [Str.length]
      rw [hlen] at e1 e3 e4
      simp only [sizeLine] at hz
      refine getItem_str (c := c) (by simp; omega) ?_ ⟨H, I.toks _, h.2⟩
      rw [e1]
      simpa using e2
    · exact h.elim
  · exact h.elim

theorem partOf_er {V : Value} {i : Option Int} (h : partOf (er V) = some i) : IsPart V i := by
  cases V <;> simp [er, partOf] at h <;> subst h
  · exact .none
  · exact .int _ _
theorem s_len (I : Inv P F l H s) (ha : er A' = a) (h : lenV a H Q) : wpAny P.M F.A (call (.builtin "len") [A']) (PostE P F l Q) E s := by
  unfold lenV at h
  split at h
  · obtain ⟨_, rfl⟩ := er_str ha
    have := h.1
    simp only [sizeLine] at this
    exact len_str (by omega) ⟨H, I.toks _, h.2⟩
  · have := er_ref ha; subst this
    split at h
    · rename_i hx
      obtain ⟨vs, hl, rfl, z, _⟩ := I.objs _ _ hx
      simp only [List.length_map, Array.length_toList] at h z
      exact len_list hl (by omega) ⟨H, I.toks _, h⟩
    · rename_i hx
      obtain ⟨vs, hl, rfl, z⟩ := I.objs _ _ hx
      simp only [List.length_map, Array.length_toList] at h z
      exact len_list hl (by omega) ⟨H, I.toks _, h⟩
    · rename_i hx
      obtain ⟨vs, hl, rfl, z⟩ := I.objs _ _ hx
      simp only [List.length_map, Array.length_toList] at h z
      exact len_tuple hl (by omega) ⟨H, I.toks _, h⟩
    · exact h.elim
  · exact h.elim

end
end Mine
end

section
open PySem PyProof.Rows PySem.Calls
open PySem.W (dictOf getL putL putN plainGet hasDictIn findIn isFn noGet plainOver takerIn makesIn subIn)
namespace Mine

/-! ## instances -/
section
variable {w : World} {es : List DictEntry} {kvs : List (Str × Value)} {a : Str}

theorem isStr_key {k : Value} {x y : Str} {t : Tok} (h : k = .str x t) : k.isStr y = decide (x = y) := by
  subst h; exact beq_dec _ _

theorem NsEs.noRef (h : NsEs w es kvs) : es.any (·.refKey) = false := by
  unfold NsEs at h
  induction h with
  | nil => rfl
  | cons h _ ih =>
    obtain ⟨⟨t, ht⟩, _⟩ := h
    rw [List.any_cons, ih]
    simp [DictEntry.refKey, ht]

theorem valueAt_cons {K : Type} [DecidableEq K] (p : K × Value) (r : List (K × Value)) (k : K) : valueAt (p :: r) k = if p.1 = k then some p.2 else valueAt r k := by
  unfold valueAt
  by_cases e : p.1 = k <;> simp [e]

theorem NsEs.find (h : NsEs w es kvs) : (es.find? (·.key.isStr a)).map (fun e => er e.val) = valueAt kvs a := by
  unfold NsEs at h
  induction h with
  | nil => rfl
  | @cons e0 p _ _ h _ ih =>
    obtain ⟨⟨t, ht⟩, hv, _⟩ := h
    rw [valueAt_cons, List.find?_cons, isStr_key ht]
    by_cases e : p.1 = a
    · simp [e, hv]
    · simp [e, ih]

theorem NsEs.get (h : NsEs w es kvs) : ∃ V, getL a es = some V ∧ V.map er = valueAt kvs a := by
  have f := h.find (a := a)
  unfold getL
  cases q : es.find? (·.key.isStr a) with
  | some e => rw [q] at f; exact ⟨some e.val, rfl, f⟩
  | none => rw [q] at f; rw [h.noRef]; exact ⟨none, rfl, f⟩

theorem stored_cons {K : Type} [DecidableEq K] (p : K × Value) (r : List (K × Value)) (k : K) (v : Value) (hp : p.1 ∉ r.map (·.1)) : stored (p :: r) k v = if p.1 = k then (p.1, v) :: r else p :: stored r k v := by
  unfold stored
  by_cases e : p.1 = k
  · simp only [List.any_cons, e, decide_true, Bool.true_or, if_true, List.map_cons]
    congr 1
    conv => rhs; rw [← List.map_id r]
    apply List.map_congr_left
    intro q hq
    rw [if_neg]
    · rfl
    · intro h; exact hp (by rw [e, ← h]; exact List.mem_map_of_mem hq)
  · simp only [List.any_cons, e, decide_false, Bool.false_or, List.map_cons, if_false]
    split <;> rfl

theorem NsEs.put (h : NsEs w es kvs) (hnd : (kvs.map (·.1)).Nodup) {v : Value} {t : Tok} : NsEs w (putL a (PyData.keyHash w.params a) (.str a t) v es) (stored kvs a (er v)) := by
  unfold NsEs at *
  induction h with
  | nil => exact .cons ⟨⟨t, rfl⟩, rfl, rfl⟩ .nil
  | cons h r ih =>
    rename_i e p es kvs
    obtain ⟨⟨t', ht⟩, hv, hh⟩ := h
    simp only [List.map_cons, List.nodup_cons] at hnd
    rw [stored_cons _ _ _ _ hnd.1]
    unfold putL
    rw [isStr_key ht]
    by_cases q : p.1 = a
    · simp only [q, decide_true, if_true]
      exact .cons ⟨⟨t', by rw [ht, q]⟩, rfl, by rw [hh, q]⟩ r
    · simp only [q, decide_false, if_false, Bool.false_eq_true]
      exact .cons ⟨⟨t', ht⟩, hv, hh⟩ (ih hnd.2)
theorem putL_len (x : Str) (hs : Int) (k v : Value) : ∀ es : List DictEntry, (putL x hs k v es).length ≤ es.length + 1
  | [] => by simp [putL]
  | e :: r => by
    unfold putL
    split
    · simp
    · simp; exact putL_len x hs k v r
theorem NsEs.length (h : NsEs w es kvs) : es.length = kvs.length := by
  unfold NsEs at h
  induction h with
  | nil => rfl
  | cons _ _ ih => simp [ih]
end

/-- what the written part says of the names -/
structure ExcCls (K : PySem.W.Frag) (D : Addr) : Prop where
  ga : findIn K (.ref D) "__getattribute__" = some (some (.builtin "BaseException.__getattribute__"))
  gr : findIn K (.ref D) "__getattr__" = some none
  fo : PySem.W.findObj K D none "__class__" = some (.bind (.builtin "getset_descriptor.__get__") (.builtin "object.__class__"))
  ob : PySem.W.mroIn K D (.type "object") = some true
  be : PySem.W.mroIn K D (.type "BaseException") = some true
  cl : (PySem.W.clsIn K D).isSome = true
  ty : PySem.W.typeIn K (.ref D) = some (.type "type")
  ve : subIn K (.ref D) (.type "ValueError") = some true

noncomputable abbrev veMro : List Value := [.type "ValueError", .type "Exception", .type "BaseException", .type "object"]
noncomputable def OwnObj (h : Heap) (C : Addr) : Prop := ∃ bm N nm q bs hdct sn sub ab col dd k0 k1 k2 k3 k5 mN, h.get? C = some (excClassObj nm q C N bs bm hdct sn sub ab col dd k0 k1 k2 k3 k5 "ValueError.__new__") ∧ h.Ns N mN ∧ mN "__init__" = none ∧ OwnTail h veMro bm

structure GxOk (P : Pm) (G : Gx) : Prop where
  glob : ∀ x v, G.glob x = some v → ∃ V, er V = v ∧ (P.mg x = some V ∨ (P.mg x = none ∧ P.mb x = some V))
  fld : ∀ C a, G.fld C a = true → plainGet P.K C a = true ∧ hasDictIn P.K C = true ∧ findIn P.K (.ref C) a = some none ∧
    findIn P.K (.ref C) "__setattr__" = some (some (.builtin "object.__setattr__")) ∧ plainOver P.K C = true ∧ takerIn P.K C a = some none
  meth : ∀ C m f, G.meth C m = some f → plainGet P.K C m = true ∧ findIn P.K (.ref C) m = some (some (.ref f)) ∧ isFn P.K (.ref f) = true
  init : ∀ C f, G.init C = some f → makesIn P.K C = true ∧ findIn P.K (.ref C) "__init__" = some (some (.ref f)) ∧ isFn P.K (.ref f) = true ∧ PySem.W.keepIn P.K (.ref C) = true
  exc : ∀ C, G.isExc C = true → ExcCls P.K C
  sub : ∀ C D, G.isExc C = true → G.isExc D = true → subIn P.K (.ref C) (.ref D) = some (G.sub C D)
  self : ∀ C, G.isExc C = true → G.sub C C = true
  own : ∀ C, G.isExc C = true → OwnObj P.base C

section
variable {P : Pm} {F : Fm} {G : Gx} {l : Loc} {H : Hp} {s : Shared} {E : Value → Shared → Prop} {Q : QV} {A' B' a b : Value}

theorem Inv.kin (Y : PmOk P) (K : FmOk P F) (I : Inv P F l H s) : P.K.In s.heap := Y.kin.keeps fun b o e => I.keep b o (K.base b o e)

theorem ns_nodup {kvs : List (Str × Value)} {k : Str} {v : Value} (h : (kvs.map (·.1)).Nodup) : ((stored kvs k v).map (·.1)).Nodup := by
  unfold stored
  split
  · rw [List.map_map]
    have : ((fun x : Str × Value => x.1) ∘ fun kv : Str × Value => if kv.1 = k then (kv.1, v) else kv) = fun kv => kv.1 := by
      funext kv; simp only [Function.comp]; split <;> rfl
    rw [this]; exact h
  · rename_i q
    rw [List.map_append]
    refine List.nodup_append.mpr ⟨h, by simp, fun a ha b hb e => ?_⟩
    simp at hb
    subst hb
    obtain ⟨p, hp, e2⟩ := List.mem_map.mp ha
    apply q
    rw [List.any_eq_true]
    exact ⟨p, hp, by simp [e2, e]⟩

theorem s_attr (Y : PmOk P) (GO : GxOk P G) (K : FmOk P F) (I : Inv P F l H s) {n : Str} {ex : Bool} (ha : er A' = a) (h : attrV G a n H Q) : wpAny P.M F.A (getAttr A' n ex) (PostE P F l Q) E s := by
  unfold attrV at h
  split at h
  · rename_i x; have := er_ref ha; subst this
    split at h
    · rename_i C d hx
      split at h
      · rename_i kvs hd
        obtain ⟨hf, h⟩ := h
        obtain ⟨m, Fr, hm⟩ := I.fr K
        have ox := I.objs _ _ hx
        obtain ⟨es, k, od, ne, _⟩ := I.objs _ _ hd
        obtain ⟨V, g1, g2⟩ := ne.get (a := n)
        obtain ⟨f1, f2, f3, f4, f5, f6⟩ := GO.fld C n hf
        have II : PySem.W.InstAt s.heap x { cls := .ref C, dict := some d, data := .plain } C (some (dictOf es.toList k)) := ⟨ox, rfl, rfl, by simpa [dictOf] using od⟩
        cases V with
        | none => rw [← g2] at h; exact h.elim
        | some V =>
          rw [← g2] at h
          refine PySem.W.get_own Fr Y.kin II f1 f2 f3 rfl g1 ?_ ⟨H, I.toks _, ?_⟩
          · cases V <;> first | rfl | exact h.elim
          · cases V <;> first | exact h | exact h.elim
      · exact h.elim
    · exact h.elim
  · exact h.elim

theorem s_setattr (Y : PmOk P) (GO : GxOk P G) (K : FmOk P F) (I : Inv P F l H s) {n : Str} {k : Hp → Prop} (ha : er A' = a) (hb : er B' = b) (h : setAttrV G a n b H k) : wpAny P.M F.A (setAttr A' n B') (fun _ s' => ∃ H', Inv P F l H' s' ∧ k H') E s := by
  unfold setAttrV at h
  split at h
  · rename_i x; have := er_ref ha; subst this
    split at h
    · rename_i C d hx
      split at h
      · rename_i kvs hd
        obtain ⟨hf, hlen, h⟩ := h
        obtain ⟨m, Fr, hm⟩ := I.fr K
        have ox := I.objs _ _ hx
        obtain ⟨es, ep, od, ne, nd⟩ := I.objs _ _ hd
        obtain ⟨V, g1, g2⟩ := ne.get (a := n)
        obtain ⟨f1, f2, f3, f4, f5, f6⟩ := GO.fld C n hf
        have od' : s.heap.get? d = some (dictOf es.toList ep) := by simpa [dictOf] using od
        have II : PySem.W.InstAt s.heap x { cls := .ref C, dict := some d, data := .plain } C (some (dictOf es.toList ep)) := ⟨ox, rfl, rfl, od'⟩
        have hdL := (I.neL K hd)
        have hdB : P.base.get? d = none := by
          cases q : P.base.get? d with
          | none => rfl
          | some o => have := K.base _ _ q; rw [(of_fre (I.free _ _ hd) rfl).1] at this; cases this
        obtain ⟨pre, post, e, h1, h2⟩ := allNews_split (mem_allNews od' hdL hdB)
        have el : es.toList.length = kvs.length := ne.length
        refine PySem.W.set_plain (I.kin Y K) II f4 (PySem.W.osa_dict (s := { s with toks := s.toks + 1 }) (K := P.K) (es := putL n (PyData.keyHash P.w.params n) (.str n (s.toks + 1)) B' es.toList) (n := putN n es.toList ep)
          Fr (pre := pre) (post := post) (e ▸ news_all _ _ _) ((I.toks (s.toks + 1)).kin Y K) II rfl f5 f6 f2 (by rw [PySem.W.lookIn_dict, g1]; rfl) h1 h2 (PySem.W.putName_dict ..) rfl ?_ fun h' F' N' => ?_)
        · have := putL_len n (PyData.keyHash P.w.params n) (.str n (s.toks + 1)) B' es.toList
          omega
        · refine ⟨_, I.putL K (t := s.toks + 1 + 1) hd (fun c O eo hc hL => ?_) F'.ns hm (o' := .ns (stored kvs n b)) ?_, h⟩
          · cases q : P.base.get? c with
            | some o' => exact (F'.keep c o' q).trans (by rw [← eo]; exact (I.keep c o' (K.base c o' q)).symm)
            | none =>
              have hm := mem_allNews eo hL q
              rw [e] at hm
              refine (N' (c, O) ?_).1
              rcases List.mem_append.mp hm with q | q
              · exact List.mem_append_left _ q
              · rcases List.mem_cons.mp q with q | q
                · exact absurd (congrArg Prod.fst q) hc
                · exact List.mem_append_right _ (.tail _ q)
          · refine ⟨(putL n (PyData.keyHash P.w.params n) (.str n (s.toks + 1)) B' es.toList).toArray, putN n es.toList ep, (N' (d, dictOf _ _) (by simp)).1, ?_, ns_nodup nd⟩
            have := ne.put (a := n) (v := B') (t := s.toks + 1) nd
            rw [hb] at this
            simpa using this
      · exact h.elim
    · exact h.elim
  · exact h.elim

end
end Mine
end

section
open PySem PyProof.Rows PySem.Calls
namespace Mine

/-! ## exceptions in flight -/
noncomputable def ExcAt (h : Heap) (e C : Addr) (T : Option Addr) : Prop :=
  ∃ oe vs, h.get? e = some oe ∧ oe.cls = .ref C ∧ oe.data = .fields vs ∧ oe.dict = none ∧ (match T with
    | none => vs[1]? = some .none
    | some t => vs[1]? = some (.ref t) ∧ t ≠ e ∧ ∃ ot ts, h.get? t = some ot ∧ ot.data = .fields ts ∧ 3 < ts.size)

theorem dict_mapFields (f : Array Value → Array Value) (o : Obj) : (o.mapFields f).dict = o.dict := by
  unfold Obj.mapFields; split <;> rfl

/-- an exception of class C flies; with b: it has its traceback -/
structure Exc (P : Pm) (F : Fm) (H : Hp) (s : Shared) (e C : Addr) (b : Bool) : Prop where
  big : True
  off : Off F H e
  at_ : ∃ T, ExcAt s.heap e C T ∧ (∀ t, T = some t → Off F H t) ∧ (b = true → T.isSome = true)

theorem Exc.weak {P : Pm} {F : Fm} {H : Hp} {s : Shared} {e C : Addr} {b : Bool} (x : Exc P F H s e C b) : Exc P F H s e C false :=
  ⟨x.big, x.off, let ⟨T, h, o, _⟩ := x.at_; ⟨T, h, o, fun q => nomatch q⟩⟩

noncomputable def PostX (P : Pm) (F : Fm) (l : Loc) (X : XV) : Value → Shared → Prop := fun EV s' => ∃ H' e C, EV = .ref e ∧ Inv P F l H' s' ∧ Exc P F H' s' e C false ∧ X C H'

section
variable {P : Pm} {F : Fm} {G : Gx} {l : Loc} {H : Hp} {s : Shared} {E : Value → Shared → Prop}

theorem Inv.slotsOnly (K : FmOk P F) (I : Inv P F l H s) {S : List Addr} {h' : Heap} (hS : ∀ b ∈ S, b = F.env.locals ∨ (F.fr b).isSome = true) (x : Heap.SlotsOnly S s.heap h') : Inv P F l H { s with heap := h' } := by
  have out : ∀ b, b ≠ F.env.locals → F.fr b = none → h'.get? b = s.heap.get? b := fun b h1 h2 => x.2.1 b fun q => (hS b q).elim h1 fun e => by rw [h2] at e; cases e
  refine ⟨I.gens, I.os, fun b o e => ?_, fun b d e => ?_, ?_, fun y c e => ?_, fun a o e => ?_, I.free, I.big⟩
  · refine (out b (fun q => ?_) ?_).trans (I.keep b o e)
    · rw [q, K.lg] at e; cases e
    · cases q : F.fr b with
      | none => rfl
      | some d => rw [(K.fg b d q).1] at e; cases e
  · obtain ⟨o, ho, hd⟩ := I.frk b d e
    obtain ⟨sl, q⟩ := x.2.2 b o ho
    exact ⟨_, q, hd⟩
  · obtain ⟨m, ⟨o, es, ep, ho, hd, r⟩, q⟩ := I.loc
    obtain ⟨sl, q'⟩ := x.2.2 _ o ho
    exact ⟨m, ⟨_, es, ep, q', hd, r⟩, q⟩
  · obtain ⟨vo, ⟨o, ho, hd⟩, q⟩ := I.cel y c e
    obtain ⟨sl, q'⟩ := x.2.2 _ o ho
    exact ⟨vo, ⟨_, q', hd⟩, q⟩
  · exact (I.objs a o e).congr (out a (I.neL K e) (I.frN K e))

theorem frames_fun (K : FmOk P F) (I : Inv P F l H s) (base : Heap) (hb : ∀ b, base.get? b = none) : ∀ {es : List Env}, (∀ e ∈ es, e.scope.kind ≠ .module ∧ ∃ b, e.frame = some b ∧ (b = F.env.locals ∨ (F.fr b).isSome = true)) → s.heap.FunFrames base es
  | [], _ => trivial
  | e :: es, h => by
    obtain ⟨h1, b, h2, h3⟩ := h e (.head _)
    refine ⟨h1, ?_, frames_fun K I base hb fun e he => h e (.tail _ he)⟩
    rcases h3 with rfl | h3
    · obtain ⟨m, ⟨o, es', ep, ho, hd, r⟩, q⟩ := I.loc
      exact ⟨_, o, h2, hb _, ho, fun vs e => by rw [hd] at e; cases e⟩
    · obtain ⟨d, hd⟩ := Option.isSome_iff_exists.mp h3
      obtain ⟨o, ho, e⟩ := I.frk b d hd
      exact ⟨b, o, h2, hb _, ho, fun vs q => (K.fg b d hd).2 vs (e ▸ q)⟩

theorem ExcAt.slots {S : List Addr} {h h' : Heap} {e C : Addr} {T : Option Addr} (x : Heap.SlotsOnly S h h') (a : ExcAt h e C T) : ExcAt h' e C T := by
  obtain ⟨oe, vs, h1, h2, h3, h5, h4⟩ := a
  obtain ⟨sl, q⟩ := x.2.2 _ _ h1
  refine ⟨_, vs, q, h2, h3, h5, ?_⟩
  cases T with
  | none => exact h4
  | some t =>
    obtain ⟨a1, a2, ot, ts, a3, a4, a5⟩ := h4
    obtain ⟨sl', q'⟩ := x.2.2 _ _ a3
    exact ⟨a1, a2, _, ts, q', a4, a5⟩

/-- a new row of the traceback -/
theorem s_entry (K : FmOk P F) (I : Inv P F l H s) (hro : F.ro = false) {e C : Addr} {T : Option Addr} (ha : ExcAt s.heap e C T) (hof : Off F H e) (hb : True) {head : Value} {hadNext : Bool} {Q : Unit → Shared → Prop}
    (h : ∀ s', Inv P F l H s' → Exc P F H s' e C true → Q () s') :
    wpAny P.M F.A (do let a ← frameOf F.env; let pl ← entryPlaceOf F.env.locals hadNext; let b ← EntryCells.newEntry head a .none (rawInt F.env.locals) .none pl; setField (.ref e) 1 b) Q E s := by
  obtain ⟨fenv, outer, hfr, hown, hall⟩ := K.frames
  obtain ⟨rfl, hf⟩ := hown hro
  have ff := frames_fun K I {} (fun b => rfl) hall
  refine wpAny_bind (wpAny_frameOf_fun hfr ff hf fun h₁ hs₁ => ?_)
  have hS : ∀ b ∈ (F.env :: outer).filterMap (·.frame), b = F.env.locals ∨ (F.fr b).isSome = true := fun b hb => by
    obtain ⟨e', he', q⟩ := List.mem_filterMap.mp hb
    obtain ⟨_, b', q', r⟩ := hall e' he'
    rw [q] at q'; cases q'; exact r
  have I₁ := I.slotsOnly K hS hs₁
  have a₁ := ha.slots hs₁
  refine wpAny_bind (wpAny_entryPlaceOf fun pl hpl => ?_)
  unfold EntryCells.newEntry newFields
  refine wpAny_bind (wpAny_newObj_type ?_ (hpl.sizeOk5 _ _ _ _ _))
  obtain ⟨oe, vs, h1, h2, h3, h5, h4⟩ := a₁
  have hsz : 1 < vs.size := by
    cases T with
    | none => exact (Array.getElem?_eq_some_iff.mp h4).1
    | some t => exact (Array.getElem?_eq_some_iff.mp h4.1).1
  generalize hot : ({ cls := .type "traceback", dict := none, data := .fields ([head, .ref F.env.locals, .none, rawInt F.env.locals, .none] ++ (if pl.isEmpty then List.replicate 6 Value.none else pl)).toArray } : Obj) = ot
  have I₂ := I₁.push ot
  have he₂ := Heap.get?_push_of_some (h := h₁) ot h1
  have hof₂ : Off F H h₁.objs.size := I₁.ofSize K
  refine wpAny_setField he₂ h3 hsz (h _ ?_ ?_)
  · refine I₂.step (t := s.toks) fun b o hb hn => ?_
    rw [Heap.get?_update_other _ _ (show e ≠ b from fun q => hn (q ▸ hof))]
    exact hb
  · have hd := Obj.data_mapFields h3 (·.setIfInBounds 1 (Value.ref h₁.objs.size))
    have hne : h₁.objs.size ≠ e := Nat.ne_of_gt (Heap.lt_size h1)
    refine ⟨hb, hof, some h₁.objs.size, ⟨_, _, Heap.get?_update_self _ he₂ (Obj.isFreed_of_fields hd), (Obj.cls_mapFields _ _).trans h2, hd, (dict_mapFields _ _).trans h5, by simp [hsz], hne, ot, ([head, .ref F.env.locals, .none, rawInt F.env.locals, .none] ++ (if pl.isEmpty then List.replicate 6 Value.none else pl)).toArray, ?_, ?_, ?_⟩, fun t ht => ?_, fun _ => rfl⟩
    · rw [Heap.get?_update_other _ _ (Ne.symm hne)]
      exact Heap.get?_push_size _ (by rw [← hot]; rfl)
    · rw [← hot]
    · simp only [List.size_toArray, List.length_append, List.length_cons, List.length_nil]; omega
    · cases ht; exact hof₂

theorem s_note (K : FmOk P F) (I : Inv P F l H s) (hro : F.ro = false) {e C : Addr} {b : Bool} (x : Exc P F H s e C b) {Q : Unit → Shared → Prop}
    (h : ∀ s', Inv P F l H s' → Exc P F H s' e C true → Q () s') : wpAny P.M F.A (noteFrame (.ref e) F.env) Q E s := by
  obtain ⟨fenv, outer, hfr, hown, hall⟩ := K.frames
  obtain ⟨_, hf⟩ := hown hro
  obtain ⟨hb, hof, T, ha, ht, _⟩ := x
  have ha' := ha
  obtain ⟨oe, vs, h1, h2, h3, h5, h4⟩ := ha
  unfold noteFrame
  simp only [hf]
  cases T with
  | none =>
    refine wpAny_bind (wpAny_field h1 h3 h4 ?_)
    rw [if_neg (by decide)]
    exact s_entry K I hro ha' hof hb h
  | some t =>
    obtain ⟨a1, a2, ot, ts, a3, a4, a5⟩ := h4
    refine wpAny_bind (wpAny_field h1 h3 a1 ?_)
    rw [if_pos (show (Value.ref t != Value.none) = true from by simp)]
    refine wpAny_bind (wpAny_field a3 a4 (Array.getElem?_eq_getElem a5) ?_)
    split
    · exact wpAny_pure (h s I ⟨hb, hof, some t, ha', ht, fun _ => rfl⟩)
    · refine wpAny_bind (wpAny_setField a3 a4 a5 ?_)
      have hoft := ht t rfl
      have other : ∀ c, c ≠ t → (s.heap.update t (Obj.mapFields (·.setIfInBounds 3 Value.none))).get? c = s.heap.get? c := fun c hc => Heap.get?_update_other _ _ (Ne.symm hc)
      have I₁ : Inv P F l H { s with heap := s.heap.update t (Obj.mapFields (·.setIfInBounds 3 Value.none)) } := I.step (t := s.toks) fun c o hc hn => (other c fun q => hn (q ▸ hoft)).trans hc
      have hd := Obj.data_mapFields a4 (·.setIfInBounds 3 Value.none)
      refine s_entry K I₁ hro (T := some t) ⟨oe, vs, (other e (Ne.symm a2)).trans h1, h2, h3, h5, a1, a2, _, _, Heap.get?_update_self _ a3 (Obj.isFreed_of_fields hd), hd, by simpa using a5⟩ hof hb h

theorem s_flight (I : Inv P F l H s) {e C : Addr} {b : Bool} (x : Exc P F H s e C b) {fo : Option Addr} {Q : Unit → Shared → Prop}
    (h : ∀ s', Inv P F l H s' → Exc P F H s' e C b → Q () s') : wpAny P.M F.A (setFlight (.ref e) fo) Q E s := by
  obtain ⟨hb, hof, T, ha, ht, hbt⟩ := x
  have ha' := ha
  obtain ⟨oe, vs, h1, h2, h3, h5, h4⟩ := ha
  unfold setFlight
  cases T with
  | none =>
    refine wpAny_bind (wpAny_field h1 h3 h4 ?_)
    rw [if_neg (by decide)]
    exact wpAny_pure (h s I ⟨hb, hof, none, ha', ht, hbt⟩)
  | some t =>
    obtain ⟨a1, a2, ot, ts, a3, a4, a5⟩ := h4
    refine wpAny_bind (wpAny_field h1 h3 a1 ?_)
    rw [if_pos (show (Value.ref t != Value.none) = true from by simp)]
    have hoft := ht t rfl
    have other : ∀ f c, c ≠ t → (s.heap.update t f).get? c = s.heap.get? c := fun f c hc => Heap.get?_update_other _ _ (Ne.symm hc)
    have hd := Obj.data_mapFields a4 (·.setIfInBounds 3 (fo.elim Value.none fun f => rawInt f))
    refine wpAny_setField a3 a4 a5 (h _ (I.step (t := s.toks) fun c o hc hn => (other _ c fun q => hn (q ▸ hoft)).trans hc) ⟨hb, hof, some t, ⟨oe, vs, (other _ e (Ne.symm a2)).trans h1, h2, h3, h5, a1, a2, _, _, Heap.get?_update_self _ a3 (Obj.isFreed_of_fields hd), hd, by simpa using a5⟩, ht, hbt⟩)

theorem s_leaving (K : FmOk P F) (I : Inv P F l H s) (hro : F.ro = false) {e C : Addr} {b : Bool} (x : Exc P F H s e C b) {Q : Unit → Shared → Prop}
    (h : ∀ s', Inv P F l H s' → Exc P F H s' e C true → Q () s') : wpAny P.M F.A (leaving F.env (.ref e)) Q E s := by
  unfold leaving
  exact wpAny_bind (s_note K I hro x fun s' I' x' => s_flight I' x' h)

theorem s_cameBack (I : Inv P F l H s) {e C : Addr} (x : Exc P F H s e C true) (h : ∀ s', Inv P F l H s' → Exc P F H s' e C true → E (.ref e) s') : cameBackBy P.M F.A F.env E (.ref e) s := by
  obtain ⟨hb, hof, T, ha, ht, hbt⟩ := x
  have ha' := ha
  obtain ⟨oe, vs, h1, h2, h3, h5, h4⟩ := ha
  unfold cameBackBy
  cases T with
  | none => simp at hbt
  | some t =>
    obtain ⟨a1, a2, r⟩ := h4
    refine wpAny_bind (wpAny_field h1 h3 a1 ?_)
    rw [if_neg (by simp)]
    exact s_flight I ⟨hb, hof, some t, ha', ht, fun _ => rfl⟩ h
end
end Mine
end

section
open PySem PyProof.Rows PySem.Calls
namespace Mine

/-! ## from the text to the small language -/
noncomputable def isLoc (sc : Scope) (x : Str) : Option Bool :=
  match sc.names.lookup x with
  | some .local | some .cell | some .free => if x == ("__classdict__" : Str) || x == ("__debug__" : Str) then none else some true
  | some .globalImplicit => if x == ("__debug__" : Str) then none else some false
  | _ => none

noncomputable def notSuper : Expr → Bool
  | .Call (.Name id _) _ _ _ => id != ("super" : Str)
  | _ => true

noncomputable def tyOf (x : Str) : Option Ty :=
  if x == ("str" : Str) then some .str else if x == ("int" : Str) then some .int else if x == ("bool" : Str) then some .bool
  else if x == ("list" : Str) then some .list else if x == ("tuple" : Str) then some .tuple else if x == ("ValueError" : Str) then some .valueError else none

noncomputable def bfTab (x : Str) (n : Nat) : Option Bf :=
  if x == ("len" : Str) then (if n = 1 then some .len else none)
  else if x == ("list" : Str) then (if n = 1 then some .list else none)
  else if x == ("tuple" : Str) then (if n = 1 then some .tuple else none)
  else if x == ("sorted" : Str) then (if n = 1 then some .sorted else none)
  else if x == ("dict" : Str) then (if n = 1 then some .dict else none)
  else if x == ("int" : Str) then (if n = 1 then some .int else none)
  else if x == ("all" : Str) then (if n = 1 then some .all else none)
  else if x == ("max" : Str) then (if n = 1 then some .max1 else if n = 2 then some .max2 else none)
  else if x == ("min" : Str) then (if n = 2 then some .min2 else none)
  else if x == ("range" : Str) then some .range
  else none

/-- the built-ins that the small language knows by name -/
noncomputable def bltL : List (Str × Value) := [("len", .builtin "len"), ("isinstance", .builtin "isinstance"), ("list", .type "list"), ("tuple", .type "tuple"), ("sorted", .builtin "sorted"), ("dict", .type "dict"), ("int", .type "int"), ("all", .builtin "all"), ("max", .builtin "max"), ("min", .builtin "min"), ("range", .type "range"), ("str", .type "str"), ("bool", .type "bool"), ("ValueError", .type "ValueError"), ("set", .type "set")]
noncomputable def bltTab (x : Str) : Option Value := bltL.lookup x

noncomputable def bmTab (x : Str) : Option Bm :=
  if x == ("append" : Str) then some .append else if x == ("pop" : Str) then some .pop else if x == ("get" : Str) then some .get
  else if x == ("join" : Str) then some .join else if x == ("split" : Str) then some .split else none

/-- a comprehension's own block -/
noncomputable def compFine (sc scope : Scope) (x : Str) : Bool :=
  scope.kind == .function && (scope.names.map (·.1)).Nodup && scope.names.all (fun y => y.2 != .cell && (y.2 != .local || y.1 == x || y.1 == (".0" : Str)) && (y.2 != .free || sc.names.lookup y.1 == some .cell)) && scope.names.lookup x == some .local

end Mine
end

section
open PySem PyProof.Rows PySem.Calls
namespace Mine

noncomputable def Room (n : Nat) (A : Around) : Prop := A.depth + 2 * n + 2 < recursionLimit ∧ A.units + 30 * n + 200 < cLine
/-- room for a call itself -/
noncomputable def RoomC (n : Nat) (A : Around) : Prop := A.depth + 2 * n + 1 < recursionLimit ∧ A.units + 30 * n + 190 < cLine
theorem Room.c {n : Nat} {A : Around} (R : Room n A) : RoomC n A := ⟨by have := R.1; omega, by have := R.2; omega⟩
noncomputable def HmOk (hm : Bool) (A : Around) : Prop := hm = false → A.handled = none

/-- a call's end -/
noncomputable def PostC (P : Pm) (F : Fm) (l : Loc) (Q : QV) (X : XV) : Result → Shared → Prop := fun r s' => match r with
  | .ok (.ret V) => PostE P F l Q V s'
  | .ok _ => False
  | .error EV => PostX P F l X EV s'

structure SndFn (P : Pm) (G : Gx) (n : Nat) : Prop where
  keep : ∀ {f hm args H Q X}, G.fn f hm args H Q X → PySem.W.keepIn P.K (.ref f) = true
  run : ∀ {f hm args H Q X}, G.fn f hm args H Q X → ∀ {F l s vals}, FmOk P F → RoomC n F.A → HmOk hm F.A → Inv P F l H s → vals.map er = args →
    codeAny P.M F.A (.call (.ref f) ⟨vals, []⟩) (PostC P F l Q X) s

structure BltOk (P : Pm) : Prop where
  blt : ∀ x v, bltTab x = some v → P.mg x = none ∧ P.mb x = some v

/-- the names of a block, as the env knows them -/
structure ScOk (sc : Scope) (F : Fm) : Prop where
  loc : ∀ x, isLoc sc x = some true → Own F.env x
  glob : ∀ x, isLoc sc x = some false → F.env.kindOf x = some .globalImplicit
  locl : ∀ x, sc.names.lookup x = some .local → F.env.kindOf x = some .local
  cell : ∀ x, sc.names.lookup x = some .cell → F.env.kindOf x = some .cell ∧ ∃ c, F.env.cells.lookup x = some c

section
variable {P : Pm} {F : Fm} {G : Gx} {n : Nat} {hm : Bool} {l : Loc} {H : Hp} {s : Shared}

theorem isLoc_true {sc : Scope} {x : Str} (h : isLoc sc x = some true) : (x == ("__debug__" : Str)) = false ∧ (x == ("__classdict__" : Str)) = false := by
  unfold isLoc at h
  split at h <;> first | (split at h <;> simp_all) | simp_all
theorem isLoc_false {sc : Scope} {x : Str} (h : isLoc sc x = some false) : (x == ("__debug__" : Str)) = false := by
  unfold isLoc at h
  split at h <;> first | (split at h <;> simp_all) | simp_all

/-- an expression keeps what its wp says -/
noncomputable def SE (P : Pm) (G : Gx) (n : Nat) (hm : Bool) (sc : Scope) (e : Expr) (e' : Ex) : Prop :=
  ∀ ⦃F : Fm⦄ ⦃l : Loc⦄, FmOk P F → ScOk sc F → Room n F.A → HmOk hm F.A → ∀ {H : Hp} {s : Shared} {Q : QV} {X : XV}, Inv P F l H s → wpE G hm e' l H Q X → wpAny P.M F.A (eval e F.env) (PostE P F l Q) (PostX P F l X) s
noncomputable def SEs (P : Pm) (G : Gx) (n : Nat) (hm : Bool) (sc : Scope) (es : List Expr) (es' : List Ex) : Prop :=
  ∀ ⦃F : Fm⦄ ⦃l : Loc⦄, FmOk P F → ScOk sc F → Room n F.A → HmOk hm F.A → ∀ {H : Hp} {s : Shared} {Q : List Value → Hp → Prop} {X : XV} {pos : Pos}, Inv P F l H s → wpEs G hm es' l H Q X →
    wpAny P.M F.A (spliced (backTo pos (starEach es F.env))) (fun Vs s' => ∃ H', Inv P F l H' s' ∧ Q (Vs.map er) H') (PostX P F l X) s
noncomputable def ST (P : Pm) (G : Gx) (n : Nat) (hm : Bool) (sc : Scope) (e : Expr) (e' : Ex) : Prop :=
  ∀ ⦃F : Fm⦄ ⦃l : Loc⦄, FmOk P F → ScOk sc F → Room n F.A → HmOk hm F.A → ∀ {H : Hp} {s : Shared} {k : Bool → Hp → Prop} {X : XV}, Inv P F l H s → wpE G hm e' l H (fun v H' => truthV v fun b => k b H') X →
    wpAny P.M F.A (isTrue e F.env (eval e F.env)) (fun b s' => ∃ H', Inv P F l H' s' ∧ k b H') (PostX P F l X) s

theorem truth_of {V : Value} {k : Bool → Prop} (h : truthV (er V) k) : ∃ b, V = .bool b ∧ k b := by
  unfold truthV at h
  split at h
  · rename_i b e; exact ⟨b, er_bool e, h⟩
  · exact h.elim

theorem SE.test {sc : Scope} {e : Expr} {e' : Ex} (h : SE P G n hm sc e e') (he : ∀ env whole, isTrue e env whole = (do let v ← whole; standAt e.pos; holding [v] (truthy v))) : ST P G n hm sc e e' := by
  intro F l K S R HM H s k X I q
  rw [he]
  refine wpAny_bind (wpAny_mono (h K S R HM I q) (fun V s' z => ?_) fun _ _ z => z)
  obtain ⟨H', I', z⟩ := z
  obtain ⟨b, rfl, z⟩ := truth_of z
  exact wpAny_bind (wpAny_standAt (wpAny_holding (wpAny_truthy_bool ⟨H', I', z⟩)))

theorem se_none {sc : Scope} {kk : Nat} {pos : Pos} : SE P G n hm sc (.Constant .none kk pos) .none := fun F l K S R HM H s Q X I q => wpAny_pure ⟨H, I, q⟩
theorem se_bool {sc : Scope} {b : Bool} {kk : Nat} {pos : Pos} : SE P G n hm sc (.Constant (.bool b) kk pos) (.bool b) := fun F l K S R HM H s Q X I q => wpAny_pure ⟨H, I, q⟩
theorem se_int {sc : Scope} {i : Int} {kk : Nat} {pos : Pos} : SE P G n hm sc (.Constant (.int i) kk pos) (.int i) := fun F l K S R HM H s Q X I q => wpAny_Constant_int ⟨H, I.toks _, q⟩
theorem se_str {sc : Scope} {x : Str} {kk : Nat} {pos : Pos} : SE P G n hm sc (.Constant (.str x) kk pos) (.str x) := fun F l K S R HM H s Q X I q => wpAny_Constant_str ⟨H, I.toks _, q⟩
theorem se_loc {sc : Scope} {x : Str} {pos : Pos} (hl : isLoc sc x = some true) : SE P G n hm sc (.Name x pos) (.loc x) := by
  intro F l K S R HM H s Q X I q
  have q : (match l x with | some v => Q v H | none => False) := q
  cases hv : l x with
  | none => rw [hv] at q; exact q.elim
  | some v => rw [hv] at q; exact ld_loc K I hv (S.loc x hl) (isLoc_true hl).1 (isLoc_true hl).2 fun V e => ⟨H, I, e ▸ q⟩
theorem se_glob (Y : PmOk P) (GO : GxOk P G) {sc : Scope} {x : Str} {pos : Pos} (hl : isLoc sc x = some false) : SE P G n hm sc (.Name x pos) (.glob x) := by
  intro F l K S R HM H s Q X I q
  have q : (match G.glob x with | some v => Q v H | none => False) := q
  cases hv : G.glob x with
  | none => rw [hv] at q; exact q.elim
  | some v =>
    rw [hv] at q
    obtain ⟨V, rfl, hV⟩ := GO.glob x v hv
    exact ld_glob Y K I hV (S.glob x hl) (isLoc_false hl) ⟨H, I, q⟩

theorem attrBase {o : Expr} {a : Str} {env : Env} {whole : Sem Value} {M : Model} {A : Around} {Q : Value → Shared → Prop} {E : Value → Shared → Prop} {s : Shared} (h : notSuper o = true) (q : wpAny M A whole Q E s) : wpAny M A (attributeBase o a env whole) Q E s := by
  unfold attributeBase
  split
  · have h' : (_ != ("super" : Str)) = true := h
    rw [if_pos (by rw [h']; rfl)]
    exact q
  · exact q

theorem se_attr (Y : PmOk P) (GO : GxOk P G) {sc : Scope} {v : Expr} {v' : Ex} {a : Str} {pos : Pos} (hs : notSuper v = true) (h : SE P G n hm sc v v') : SE P G n hm sc (.Attribute v a pos) (.attr v' a) := by
  intro F l K S R HM H s Q X I q
  show wpAny P.M F.A (do let o ← attributeBase v a F.env (eval v F.env); standAt pos.atName; let r ← holding [o] (getAttr o a true); letTemporaryGo v o r; pure r) _ _ s
  conv at q => whnf
  refine wpAny_bind (attrBase hs (wpAny_mono (h K S R HM I q) (fun V s' z => ?_) fun _ _ z => z))
  obtain ⟨H', I', z⟩ := z
  exact wpAny_bind (wpAny_standAt (wpAny_bind (wpAny_holding (wpAny_mono (s_attr Y GO K I' rfl z) (fun V' s'' y => wpAny_bind (wpAny_letTemporaryGo (wpAny_pure y))) fun _ _ z => z))))

theorem se_bin {sc : Scope} {x y : Expr} {x' y' : Ex} {op : Operator} {pos : Pos} (hx : SE P G n hm sc x x') (hy : SE P G n hm sc y y') : SE P G n hm sc (.BinOp x op y pos) (.bin op x' y') := by
  intro F l K S R HM H s Q X I q
  conv at q => whnf
  refine wpAny_BinOp (wpAny_mono (hx K S R HM I q) (fun V s' z => ?_) fun _ _ z => z)
  obtain ⟨H', I', z⟩ := z
  refine wpAny_mono (hy K S R HM I' z) (fun V' s'' z => ?_) fun _ _ z => z
  obtain ⟨H'', I'', z⟩ := z
  exact s_bin K I'' op rfl rfl z

theorem se_neg {sc : Scope} {x : Expr} {x' : Ex} {pos : Pos} (hx : SE P G n hm sc x x') : SE P G n hm sc (.UnaryOp .USub x pos) (.neg x') := by
  intro F l K S R HM H s Q X I q
  conv at q => whnf
  show wpAny P.M F.A (do let v ← eval x F.env; standAt pos; holding [v] (unaryOp .USub v)) _ _ s
  refine wpAny_bind (wpAny_mono (hx K S R HM I q) (fun V s' z => ?_) fun _ _ z => z)
  obtain ⟨H', I', z⟩ := z
  refine wpAny_bind (wpAny_standAt (wpAny_holding ?_))
  split at z
  · rename_i i _ e
    obtain ⟨_, rfl⟩ := er_int e
    exact neg_int ⟨H', I'.toks _, z⟩
  · exact z.elim

theorem se_not {sc : Scope} {x : Expr} {x' : Ex} {pos : Pos} (hx : SE P G n hm sc x x') : SE P G n hm sc (.UnaryOp .Not x pos) (.not x') := by
  intro F l K S R HM H s Q X I q
  conv at q => whnf
  show wpAny P.M F.A (do let v ← eval x F.env; standAt pos; holding [v] (unaryOp .Not v)) _ _ s
  refine wpAny_bind (wpAny_mono (hx K S R HM I q) (fun V s' z => ?_) fun _ _ z => z)
  obtain ⟨H', I', z⟩ := z
  obtain ⟨b, rfl, z⟩ := truth_of z
  refine wpAny_bind (wpAny_standAt (wpAny_holding ?_))
  exact not_of (wpAny_truthy_bool ⟨H', I', z⟩)

theorem st_not {sc : Scope} {x : Expr} {x' : Ex} {pos : Pos} (hx : ST P G n hm sc x x') : ST P G n hm sc (.UnaryOp .Not x pos) (.not x') := by
  intro F l K S R HM H s k X I q
  conv at q => whnf
  show wpAny P.M F.A (do return !(← isTrue x F.env (eval x F.env))) _ _ s
  exact wpAny_bind (wpAny_mono (hx K S R HM I q) (fun V s' z => wpAny_pure z) fun _ _ z => z)

theorem se_cmp (Y : PmOk P) {sc : Scope} {x y : Expr} {x' y' : Ex} {op : CmpOp} {pos : Pos} (hx : SE P G n hm sc x x') (hy : SE P G n hm sc y y') (hb : behindInMarks op y = false) : SE P G n hm sc (.Compare x [op] [y] pos) (.cmp x' op y') := by
  intro F l K S R HM H s Q X I q
  conv at q => whnf
  refine wpAny_Compare1 (wpAny_mono (hx K S R HM I q) (fun V s' z => ?_) fun _ _ z => z) hb
  obtain ⟨H', I', z⟩ := z
  refine wpAny_mono (hy K S R HM I' z) (fun V' s'' z => ?_) fun _ _ z => z
  obtain ⟨H'', I'', z⟩ := z
  exact s_cmp Y I'' (by have := R.2; omega) op rfl rfl z

theorem st_cmp (Y : PmOk P) {sc : Scope} {x y : Expr} {x' y' : Ex} {op : CmpOp} {pos : Pos} (hx : SE P G n hm sc x x') (hy : SE P G n hm sc y y') (hb : behindInMarks op y = false) : ST P G n hm sc (.Compare x [op] [y] pos) (.cmp x' op y') := by
  intro F l K S R HM H s k X I q
  conv at q => whnf
  refine wpAny_isTrue_Compare1 (wpAny_mono (hx K S R HM I q) (fun V s' z => ?_) fun _ _ z => z) hb
  obtain ⟨H', I', z⟩ := z
  refine wpAny_mono (hy K S R HM I' z) (fun V' s'' z => ?_) fun _ _ z => z
  obtain ⟨H'', I'', z⟩ := z
  refine wpAny_mono (s_cmp Y I'' (by have := R.2; omega) op rfl rfl z) (fun V s' z => ?_) fun _ _ z => z
  obtain ⟨H', I', z⟩ := z
  obtain ⟨b, rfl, z⟩ := truth_of z
  exact wpAny_truthy_bool ⟨H', I', z⟩

theorem st_cmp2 (Y : PmOk P) {sc : Scope} {x y z : Expr} {x' y' z' : Ex} {op op2 : CmpOp} {pos : Pos} (hx : SE P G n hm sc x x') (hy : SE P G n hm sc y y') (hz : SE P G n hm sc z z') (hb : behindInMarks op2 z = false) :
    ST P G n hm sc (.Compare x [op, op2] [y, z] pos) (.cmp2 x' op y' op2 z') := by
  intro F l K S R HM H s k X I q
  conv at q => whnf
  refine isTrue_chain (wpAny_mono (hx K S R HM I q) (fun V s' q => ?_) fun _ _ z => z) hb
  obtain ⟨H1, I1, q⟩ := q
  unfold testChain
  refine wpAny_bind (wpAny_holding (wpAny_mono (hy K S R HM I1 q) (fun V2 s2 q => ?_) fun _ _ z => z))
  obtain ⟨H2, I2, q⟩ := q
  refine wpAny_bind (wpAny_standAt (wpAny_bind (wpAny_holding (wpAny_mono (s_cmp Y I2 (by have := R.2; omega) op rfl rfl q) (fun V3 s3 q => ?_) fun _ _ z => z))))
  obtain ⟨H3, I3, q⟩ := q
  obtain ⟨b, rfl, q⟩ := truth_of q
  refine wpAny_bind (wpAny_release' (wpAny_bind (wpAny_holding (wpAny_truthy_bool ?_))))
  cases b with
  | false =>
    simp only [Bool.false_eq_true, if_false] at q ⊢
    exact wpAny_pure ⟨H3, I3, q⟩
  | true =>
    simp only [if_true] at q ⊢
    unfold testChain
    refine wpAny_bind (wpAny_holding (wpAny_mono (hz K S R HM I3 q) (fun V4 s4 q => ?_) fun _ _ z => z))
    obtain ⟨H4, I4, q⟩ := q
    refine wpAny_bind (wpAny_standAt (wpAny_bind (wpAny_operate' (wpAny_mono (s_cmp Y I4 (by have := R.2; omega) op2 rfl rfl q) (fun V5 s5 q => ?_) fun _ _ z => z))))
    obtain ⟨H5, I5, q⟩ := q
    obtain ⟨b, rfl, q⟩ := truth_of q
    exact wpAny_holding (wpAny_truthy_bool ⟨H5, I5, q⟩)

theorem idx_type {Q : QV} {V k : Value} (I : Inv P F l H s) (q : idxV (er V) k H Q) : ∃ T id, s.TypeIs V T ∧ typeLookup (.type T) (Str.ofString "__getitem__") = pure (some (.builtin id)) := by
  unfold idxV at q
  split at q
  · rename_i a _ _ e; have := er_ref e; subst this
    split at q
    · rename_i hx; obtain ⟨vs, hl, _⟩ := I.objs _ _ hx; exact ⟨_, _, hl.typeIs, slot_list_getitem.lookup⟩
    · rename_i hx; obtain ⟨vs, hl, _⟩ := I.objs _ _ hx; exact ⟨_, _, hl.typeIs, slot_list_getitem.lookup⟩
    · rename_i hx; obtain ⟨vs, ⟨o, ho, hc, _⟩, _⟩ := I.objs _ _ hx; exact ⟨"tuple", _, ⟨o, ho, hc⟩, slot_tuple_getitem.lookup⟩
    · rename_i hx; obtain ⟨vs, hl, _⟩ := I.objs _ _ hx; exact ⟨_, _, hl.mapOf.typeIs, slot_dict_getitem.lookup⟩
    · exact q.elim
  · rename_i a _ _ e; have := er_ref e; subst this
    split at q
    · rename_i hx; obtain ⟨vs, hl, _⟩ := I.objs _ _ hx; exact ⟨_, _, hl.mapOf.typeIs, slot_dict_getitem.lookup⟩
    · exact q.elim
  · rename_i x _ _ _ e; obtain ⟨_, rfl⟩ := er_str e
    exact ⟨"str", _, rfl, PySem.F.slot_str_getitem.lookup⟩
  · exact q.elim

theorem se_idx {sc : Scope} {x y : Expr} {x' y' : Ex} {pos : Pos} (hx : SE P G n hm sc x x') (hy : SE P G n hm sc y y') (hsl : ∀ o i, subscripted y false o i = operate [o, i] (getItem o i)) : SE P G n hm sc (.Subscript x y pos) (.idx x' y') := by
  intro F l K S R HM H s Q X I q
  conv at q => whnf
  refine Subscript_ (wpAny_mono (hx K S R HM I q) (fun V s' q => ?_) fun _ _ z => z)
  obtain ⟨H1, I1, q⟩ := q
  refine wpAny_mono (hy K S R HM I1 q) (fun V2 s2 q => ?_) fun _ _ z => z
  obtain ⟨H2, I2, q⟩ := q
  obtain ⟨T, id, h1, h2⟩ := idx_type I2 q
  exact tail_any h1 h2 (s_idx I2 rfl rfl q) (hsl _ _)

noncomputable def SO (P : Pm) (G : Gx) (n : Nat) (hm : Bool) (sc : Scope) (e : Option Expr) (e' : Option Ex) : Prop :=
  ∀ ⦃F : Fm⦄ ⦃l : Loc⦄, FmOk P F → ScOk sc F → Room n F.A → HmOk hm F.A → ∀ {H : Hp} {s : Shared} {Q : QV} {X : XV}, Inv P F l H s → wpO G hm e' l H Q X → wpAny P.M F.A (evalPart e F.env) (PostE P F l Q) (PostX P F l X) s
theorem so_none {sc : Scope} : SO P G n hm sc none none := by
  intro F l K S R HM H s Q X I q
  simp only [wpO] at q
  exact wpAny_evalPart_none ⟨H, I, q⟩
theorem so_some {sc : Scope} {e : Expr} {e' : Ex} (h : SE P G n hm sc e e') : SO P G n hm sc (some e) (some e') := by
  intro F l K S R HM H s Q X I q
  simp only [wpO] at q
  exact wpAny_evalPart_some (h K S R HM I q)

theorem s_slice (K : FmOk P F) (I : Inv P F l H s) {E : Value → Shared → Prop} {Q : QV} {o lo hi : Value} {A' L' U' : Value} {sl : Addr} (hs : s.heap.IsSliceOf sl L' U' .none) (ha : er A' = o) (hl : er L' = lo) (hu : er U' = hi) (h : sliceV o lo hi H Q) :
    wpAny P.M F.A (getItem A' (.ref sl)) (PostE P F l Q) E s := by
  unfold sliceV at h
  split at h
  · rename_i a b ea eb
    have pa := partOf_er (V := L') (by rw [hl]; exact ea)
    have pb := partOf_er (V := U') (by rw [hu]; exact eb)
    split at h
    · rename_i x; have := er_ref ha; subst this
      split at h
      · rename_i xs hx
        obtain ⟨vs, hL, rfl, z⟩ := I.objs _ _ hx
        simp only [List.length_map, Array.length_toList] at h z
        refine wpAny_getItem_list_slice hL hs pa pb .none (by simp) ⟨_, I.alloc K (t := s.toks) (mt_list ⟨0, Heap.get?_push_size _ rfl⟩ ?_), ?_⟩ h.1
        · have h1 := pySlice_len vs.toList a b
          have h2 : slicePick vs a b none = (pySlice vs.toList a b).toArray := by
            unfold slicePick
            rw [← slicePick_eq]
            simp only [Array.getElem?_toList, Array.length_toList]
          rw [h2]
          simp only [Array.length_toList] at h1
          simp; omega
        · have h2 : slicePick vs a b none = (pySlice vs.toList a b).toArray := by
            unfold slicePick
            rw [← slicePick_eq]
            simp only [Array.getElem?_toList, Array.length_toList]
          have := h.2 _ I.fresh
          rw [pySlice_map] at this
          rw [h2]
          exact this
      · rename_i xs hx
        obtain ⟨vs, hL, rfl, z⟩ := I.objs _ _ hx
        simp only [List.length_map, Array.length_toList] at h z
        refine wpAny_getItem_list_slice hL hs pa pb .none (by simp) ⟨_, I.alloc K (t := s.toks) (mt_list ⟨0, Heap.get?_push_size _ rfl⟩ ?_), ?_⟩ h.1
        · have h1 := pySlice_len vs.toList a b
          have h2 : slicePick vs a b none = (pySlice vs.toList a b).toArray := by
            unfold slicePick
            rw [← slicePick_eq]
            simp only [Array.getElem?_toList, Array.length_toList]
          rw [h2]
          simp only [Array.length_toList] at h1
          simp; omega
        · have h2 : slicePick vs a b none = (pySlice vs.toList a b).toArray := by
            unfold slicePick
            rw [← slicePick_eq]
            simp only [Array.getElem?_toList, Array.length_toList]
          have := h.2 _ I.fresh
          rw [pySlice_map] at this
          rw [h2]
          exact this
      · exact h.elim
    · rename_i x _; obtain ⟨t, rfl⟩ := er_str ha
      have hp : ∀ {V : Value} {i : Option Int}, IsPart V i → ∃ l', partValue l' = V ∧ l'.map (·.1) = i := by
        intro V i hV
        cases hV with
        | none => exact ⟨none, rfl, rfl⟩
        | int i t => exact ⟨some (i, t), rfl, rfl⟩
      obtain ⟨l', e1, h2⟩ := hp pa
      obtain ⟨u', e2, h3⟩ := hp pb
      obtain ⟨o, o1, o2, o3⟩ := hs
      refine wpAny_getItem_str_slice (l := l') (u := u') (st := none) ⟨o, o1, o2, by rw [o3, e1, e2]; rfl⟩ rfl ?_
      have hlen : x.cps.toList.length = x.length := by simp [Str.length]
      have idx : slicePicked x l' u' none = (List.range (hiAt x.length b - loAt x.length a)).map fun k => loAt x.length a + k := by
        unfold slicePicked
        rw [h2, h3, ← sliceIdx]
        rfl
      have pk : (slicePicked x l' u' none).filterMap (x.cps[·]?) = pySlice x.cps.toList a b := by
        rw [← slicePick_eq, sliceIdx, hlen, idx]
        simp only [Array.getElem?_toList]
      have q := h.2
      unfold sliceMade
      split
      · rename_i hc
        have hc : (slicePicked x l' u' none).length = x.length := by simpa using hc
        rw [idx] at hc
        simp only [List.length_map, List.length_range] at hc
        have w := pySlice_whole x.cps.toList a b (by rw [hlen]; exact hc)
        rw [w] at q
        exact ⟨H, I, q⟩
      · rw [pk]
        refine ⟨?_, H, I.toks _, q⟩
        have := pySlice_len x.cps.toList a b
        have h1 := h.1
        rw [hlen] at this
        show (pySlice x.cps.toList a b).toArray.size ≤ sizeLine
        simp only [List.size_toArray]
        omega
    · exact h.elim
  · exact h.elim

theorem slice_type {Q : QV} {V a b : Value} (I : Inv P F l H s) (q : sliceV (er V) a b H Q) : ∃ T id, s.TypeIs V T ∧ typeLookup (.type T) (Str.ofString "__getitem__") = pure (some (.builtin id)) := by
  unfold sliceV at q
  split at q
  · split at q
    · rename_i e; have := er_ref e; subst this
      split at q
      · rename_i hx; obtain ⟨vs, hl, _⟩ := I.objs _ _ hx; exact ⟨_, _, hl.typeIs, slot_list_getitem.lookup⟩
      · rename_i hx; obtain ⟨vs, hl, _⟩ := I.objs _ _ hx; exact ⟨_, _, hl.typeIs, slot_list_getitem.lookup⟩
      · exact q.elim
    · rename_i e; obtain ⟨_, rfl⟩ := er_str e
      exact ⟨"str", _, rfl, PySem.F.slot_str_getitem.lookup⟩
    · exact q.elim
  · exact q.elim

theorem se_slice {sc : Scope} {x : Expr} {x' : Ex} {lo hi : Option Expr} {lo' hi' : Option Ex} {p pos : Pos} (hx : SE P G n hm sc x x') (hl : SO P G n hm sc lo lo') (hh : SO P G n hm sc hi hi') :
    SE P G n hm sc (.Subscript x (.Slice lo hi none p) pos) (.slice x' lo' hi') := by
  intro F l K S R HM H s Q X I q
  conv at q => whnf
  refine Subscript_ (wpAny_mono (hx K S R HM I q) (fun V s' q => ?_) fun _ _ z => z)
  obtain ⟨H1, I1, q⟩ := q
  refine wpAny_Slice (wpAny_mono (hl K S R HM I1 q) (fun V2 s2 q => ?_) fun _ _ z => z)
  obtain ⟨H2, I2, q⟩ := q
  refine wpAny_mono (hh K S R HM I2 q) (fun V3 s3 q => ?_) fun _ _ z => z
  obtain ⟨H3, I3, q⟩ := q
  refine wpAny_evalPart_none ?_
  have I4 := I3.push { cls := .type "slice", data := .fields #[V2, V3, .none] }
  have ty := slice_type I4 q
  obtain ⟨T, id, h1, h2⟩ := ty
  exact tail_any h1 h2 (s_slice K I4 (Heap.IsSliceOf.new _ _ _ _) rfl rfl rfl q) rfl

end
end Mine
end

section
open PySem PyProof.Rows PySem.Calls
namespace Mine

section
variable {P : Pm} {F : Fm} {G : Gx} {n : Nat} {hm : Bool} {l : Loc} {H : Hp} {s : Shared}

noncomputable def notStar : Expr → Bool
  | .Starred .. => false
  | _ => true
theorem star_cons {e : Expr} {es : List Expr} {env : Env} (h : notStar e = true) : starEach (e :: es) env = (false, eval e env) :: starEach es env := by
  cases e <;> first | rfl | cases h

theorem ses_nil {sc : Scope} : SEs P G n hm sc [] [] := by
  intro F l K S R HM H s Q X pos I q
  conv at q => whnf
  exact spliced_nil ⟨H, I, q⟩
theorem ses_cons {sc : Scope} {e : Expr} {e' : Ex} {es : List Expr} {es' : List Ex} (hn : notStar e = true) (h : SE P G n hm sc e e') (r : SEs P G n hm sc es es') : SEs P G n hm sc (e :: es) (e' :: es') := by
  intro F l K S R HM H s Q X pos I q
  conv at q => whnf
  rw [star_cons hn]
  refine spliced_cons (wpAny_mono (h K S R HM I q) (fun V s' q => ?_) fun _ _ z => z)
  obtain ⟨H1, I1, q⟩ := q
  exact wpAny_mono (r K S R HM I1 q) (fun Vs s'' z => z) fun _ _ z => z

/-- the values of a bool op -/
noncomputable def SBs (P : Pm) (G : Gx) (n : Nat) (hm : Bool) (sc : Scope) (es : List Expr) (es' : List Ex) : Prop :=
  ∀ ⦃F : Fm⦄ ⦃l : Loc⦄, FmOk P F → ScOk sc F → Room n F.A → HmOk hm F.A → ∀ {H : Hp} {s : Shared} {Q : QV} {X : XV} {pos : Pos} {op : BoolOp}, es ≠ [] → Inv P F l H s → wpB G hm (op == .And) es' l H Q X →
    wpAny P.M F.A (boolOp pos op (evalEach es F.env)) (PostE P F l Q) (PostX P F l X) s
noncomputable def STs (P : Pm) (G : Gx) (n : Nat) (hm : Bool) (sc : Scope) (es : List Expr) (es' : List Ex) : Prop :=
  ∀ ⦃F : Fm⦄ ⦃l : Loc⦄, FmOk P F → ScOk sc F → Room n F.A → HmOk hm F.A → ∀ {H : Hp} {s : Shared} {k : Bool → Hp → Prop} {X : XV} {op : BoolOp}, Inv P F l H s → wpB G hm (op == .And) es' l H (fun v H' => truthV v fun b => k b H') X →
    wpAny P.M F.A (allTrue op es F.env) (fun b s' => ∃ H', Inv P F l H' s' ∧ k b H') (PostX P F l X) s

theorem sbs_one {sc : Scope} {e : Expr} {e' : Ex} (h : SE P G n hm sc e e') : SBs P G n hm sc [e] [e'] := by
  intro F l K S R HM H s Q X pos op _ I q
  simp only [wpB] at q
  refine wpAny_mono (h K S R HM I q) (fun V s' q => ?_) fun _ _ z => z
  obtain ⟨H1, I1, q⟩ := q
  obtain ⟨b, hb, q2⟩ := truth_of q
  subst hb
  refine ⟨H1, I1, ?_⟩
  split at q2 <;> exact q2
theorem sbs_cons {sc : Scope} {e : Expr} {e' : Ex} {e2 : Expr} {es : List Expr} {e2' : Ex} {es' : List Ex} (h : SE P G n hm sc e e') (r : SBs P G n hm sc (e2 :: es) (e2' :: es')) : SBs P G n hm sc (e :: e2 :: es) (e' :: e2' :: es') := by
  intro F l K S R HM H s Q X pos op _ I q
  rw [wpB] at q
  show wpAny P.M F.A (boolOp pos op (eval e F.env :: eval e2 F.env :: evalEach es F.env)) _ _ s
  unfold boolOp
  refine wpAny_bind (wpAny_mono (h K S R HM I q) (fun V s' q => ?_) fun _ _ z => z)
  obtain ⟨H1, I1, q⟩ := q
  obtain ⟨b, hb, q2⟩ := truth_of q
  subst hb
  refine wpAny_bind (wpAny_standAt (wpAny_bind (wpAny_holding (wpAny_truthy_bool ?_))))
  cases op <;> cases b
  · exact wpAny_pure ⟨H1, I1, q2⟩
  · exact r K S R HM (by simp) I1 q2
  · exact r K S R HM (by simp) I1 q2
  · exact wpAny_pure ⟨H1, I1, q2⟩

theorem sts_nil {sc : Scope} : STs P G n hm sc [] [] := by
  intro F l K S R HM H s k X op I q
  simp only [wpB, truthV] at q
  exact wpAny_pure ⟨H, I, q⟩
theorem sts_cons {sc : Scope} {e : Expr} {e' : Ex} {es : List Expr} {es' : List Ex} (hl : es' = [] → es = []) (h : ST P G n hm sc e e') (r : STs P G n hm sc es es') : STs P G n hm sc (e :: es) (e' :: es') := by
  intro F l K S R HM H s k X op I q
  rw [wpB] at q
  show wpAny P.M F.A (do match op, ← isTrue e F.env (eval e F.env) with | .And, false => pure false | .Or, true => pure true | _, _ => allTrue op es F.env) _ _ s
  refine wpAny_bind (wpAny_mono (h K S R HM I q) (fun b s' q => ?_) fun _ _ z => z)
  obtain ⟨H1, I1, q⟩ := q
  cases op <;> cases b <;> simp only [beq_self_eq_true, if_true, show ((BoolOp.Or == BoolOp.And) = false) from rfl, Bool.false_eq_true, if_false, reduceCtorEq] at q ⊢
  · exact wpAny_pure ⟨H1, I1, q⟩
  · cases es' with
    | nil => rw [hl rfl]; exact wpAny_pure ⟨H1, I1, q⟩
    | cons a as => exact r K S R HM I1 q
  · cases es' with
    | nil => rw [hl rfl]; exact wpAny_pure ⟨H1, I1, q⟩
    | cons a as => exact r K S R HM I1 q
  · exact wpAny_pure ⟨H1, I1, q⟩

theorem se_bop {sc : Scope} {op : BoolOp} {es : List Expr} {es' : List Ex} {pos : Pos} (hne : es ≠ []) (h : SBs P G n hm sc es es') : SE P G n hm sc (.BoolOp op es pos) (.bop (op == .And) es') := by
  intro F l K S R HM H s Q X I q
  conv at q => whnf
  exact h K S R HM hne I q
theorem st_bop {sc : Scope} {op : BoolOp} {es : List Expr} {es' : List Ex} {pos : Pos} (h : STs P G n hm sc es es') : ST P G n hm sc (.BoolOp op es pos) (.bop (op == .And) es') := by
  intro F l K S R HM H s k X I q
  conv at q => whnf
  exact h K S R HM I q

theorem se_list {sc : Scope} {es : List Expr} {es' : List Ex} {pos : Pos} (h : SEs P G n hm sc es es') : SE P G n hm sc (.List es pos) (.list es') := by
  intro F l K S R HM H s Q X I q
  conv at q => whnf
  refine List_ (wpAny_mono (h K S R HM I q) (fun Vs s' q => ?_) fun _ _ z => z)
  obtain ⟨H1, I1, hz, q⟩ := q
  simp only [List.length_map] at hz
  have hz' := hz
  simp only [sizeLine] at hz'
  refine wpAny_newList ⟨_, I1.alloc K (t := s'.toks) (mt_list ⟨0, Heap.get?_push_size _ rfl⟩ ?_), q _ I1.fresh⟩ hz
  simp; omega
theorem se_tup {sc : Scope} {es : List Expr} {es' : List Ex} {pos : Pos} {kk : Nat} (h : SEs P G n hm sc es es') : SE P G n hm sc (.Tuple es kk pos) (.tup es') := by
  intro F l K S R HM H s Q X I q
  conv at q => whnf
  refine Tuple_ (wpAny_mono (h K S R HM I q) (fun Vs s' q => ?_) fun _ _ z => z)
  obtain ⟨H1, I1, hz, q⟩ := q
  simp only [List.length_map] at hz
  have hz' := hz
  simp only [sizeLine] at hz'
  refine wpAny_newTuple ⟨_, I1.alloc K (t := s'.toks) (mt_tup ⟨_, Heap.get?_push_size _ rfl, rfl, 0, rfl⟩ ?_), q _ I1.fresh⟩ hz
  simp; omega

/-! calls -/
theorem evalArgs_any {M : Model} {A : Around} {E : Value → Shared → Prop} {s : Shared} {f : Value} {env : Env} {es : List Expr} {pos : Pos} {Q : Args → Shared → Prop} (hs : es.all notStar = true)
    (h : wpAny M A (spliced (backTo pos (starEach es env))) (fun vs s' => Q ⟨vs, []⟩ s') E s) : wpAny M A (evalArgs f true (backTo pos (starEach es env)) []) Q E s := by
  cases es with
  | nil =>
    unfold evalArgs
    show wpAny M A (spliced [] >>= _) Q E s
    refine wpAny_bind (wpAny_mono h (fun vs s' z => ?_) fun _ _ z => z)
    refine wpAny_bind (wpAny_pure ?_)
    refine wpAny_holding ?_
    show wpAny M A (evalAll [] >>= _) Q E s'
    exact wpAny_bind (wpAny_pure (wpAny_bind (wpAny_pure (wpAny_pure z))))
  | cons e es =>
    rw [star_cons (by simp at hs; exact hs.1)] at h ⊢
    exact evalArgs_plain h
theorem backTo_plain {env : Env} {pos : Pos} : ∀ {es : List Expr}, es.all notStar = true → (backTo pos (starEach es env)).any (·.1) = false
  | [], _ => rfl
  | e :: es, h => by
    simp at h
    rw [star_cons h.1]
    show (false || (backTo pos (starEach es env)).any (·.1)) = false
    rw [backTo_plain (by simpa using h.2)]; rfl
/-- a call by its values -/
theorem callWith_any {M : Model} {A : Around} {E : Value → Shared → Prop} {s : Shared} {f : Value} {env : Env} {first : List Value} {es : List Expr} {pos : Pos} {Q : Value → Shared → Prop} (hs : es.all notStar = true)
    (h : wpAny M A (spliced (backTo pos (starEach es env))) (fun vs s' => (∃ k, (k = Keeper.frame ∨ k = Keeper.machine) ∧ PySem.W.Looks M s'.heap (keeperOf f) k) ∧ wpAny M A (call f (first ++ vs)) Q E s') E s) :
    wpAny M A (callWith pos f first (backTo pos (starEach es env)) []) Q E s := by
  unfold callWith
  refine wpAny_bind (wpAny_holding (evalArgs_any hs (wpAny_mono h (fun vs s' q => ?_) fun _ _ z => z)))
  refine wpAny_bind (wpAny_standAt ?_)
  obtain ⟨⟨k, hk, lk⟩, q⟩ := q
  simp only [backTo_plain hs, List.any_nil, Bool.or_false]
  refine wpAny_bind (lk.here ?_)
  rcases hk with rfl | rfl
  · dsimp only
    split
    · exact wpAny_bind (wpAny_mono q (fun v s'' z => wpAny_bind (wpAny_holding (wpAny_point (wpAny_pure z)))) fun _ _ z => z)
    · unfold callMarked
      exact wpAny_bind (wpAny_keep (wpAny_mono q (fun v s'' z => wpAny_bind (wpAny_holding (wpAny_point (wpAny_pure z)))) fun _ _ z => z))
  · exact wpAny_bind (wpAny_mono q (fun v s'' z => wpAny_bind (wpAny_holding (wpAny_point (wpAny_pure z)))) fun _ _ z => z)

end
end Mine
end

section
open PySem PyProof.Rows PySem.Calls
namespace Mine

theorem strs_vals : ∀ (vs xs : List Value) (ss : List Str), vs.map er = xs → strsOf xs = some ss → ∃ l : List (Str × Tok), vs = strValues l ∧ l.map (·.1) = ss
  | [], _, ss, e, h => by subst e; cases h; exact ⟨[], rfl, rfl⟩
  | V :: vs, _, ss, e, h => by
    subst e
    cases V <;> simp only [List.map_cons, er, strsOf] at h <;> first | (cases h; done) | skip
    obtain ⟨r, hr, rfl⟩ := Option.map_eq_some_iff.1 h
    obtain ⟨l, e1, e2⟩ := strs_vals vs _ r rfl hr
    rename_i x t
    exact ⟨(x, t) :: l, by rw [e1]; rfl, by rw [← e2]; rfl⟩

section
variable {P : Pm} {F : Fm} {G : Gx} {n : Nat} {hm : Bool} {l : Loc} {H : Hp} {s : Shared}

theorem Inv.withA (I : Inv P F l H s) (A : Around) : Inv P { F with A := A } l H s := ⟨I.gens, I.os, I.keep, I.frk, I.loc, I.cel, I.objs, I.free, I.big⟩
theorem Inv.ofA {A : Around} (I : Inv P { F with A := A } l H s) : Inv P F l H s := ⟨I.gens, I.os, I.keep, I.frk, I.loc, I.cel, I.objs, I.free, I.big⟩
theorem Off.ofA {A : Around} {a : Addr} (x : Off { F with A := A } H a) : Off F H a := ⟨x.h, x.g, x.fr, x.l, x.c⟩
theorem Exc.ofA {A : Around} {e C : Addr} {b : Bool} (x : Exc P { F with A := A } H s e C b) : Exc P F H s e C b := ⟨x.big, x.off.ofA, let ⟨T, h1, h2, h3⟩ := x.at_; ⟨T, h1, fun t ht => (h2 t ht).ofA, h3⟩⟩
theorem PostX.ofA {A : Around} {X : XV} {V : Value} (h : PostX P { F with A := A } l X V s) : PostX P F l X V s := let ⟨H', e, C, q, I, x, z⟩ := h; ⟨H', e, C, q, I.ofA, x.ofA, z⟩
theorem FmOk.withA (K : FmOk P F) {A : Around} (h : A.frames = F.A.frames) : FmOk P { F with A := A } :=
  ⟨K.kind, K.glob, K.blt, K.base, K.above, K.lg, K.lf, K.cl, K.cg, K.apart, K.cn, K.cf, K.fg, let ⟨f, o, a, b, c⟩ := K.frames; ⟨f, o, h.trans a, b, c⟩⟩

theorem tc_weight (a : Addr) (Vs : List Value) : (Code.builtin "type.__call__" ⟨.ref a :: Vs, []⟩).weight = 1 := by
  unfold Code.weight
  rw [show (Code.builtin "type.__call__" ⟨.ref a :: Vs, []⟩).frames = 0 from rfl, show (Code.builtin "type.__call__" ⟨.ref a :: Vs, []⟩).isCreation = true from rfl,
    show (Code.builtin "type.__call__" ⟨.ref a :: Vs, []⟩).isGuard = false from by show guardIds.contains "type.__call__" = false; decide +kernel, show (Code.builtin "type.__call__" ⟨.ref a :: Vs, []⟩).isCaller = false from rfl]
  rfl
theorem tc_room {A : Around} (R : Room n A) (a : Addr) (Vs : List Value) : RoomC n (A.under (.builtin "type.__call__" ⟨.ref a :: Vs, []⟩)) := by
  refine ⟨?_, ?_⟩
  · show A.depth + (Code.builtin "type.__call__" ⟨.ref a :: Vs, []⟩).weight + 2 * n + 1 < _
    rw [tc_weight]; have := R.1; omega
  · show A.units + 1 + 30 * n + 190 < _
    have := R.2; omega
theorem tc_frames {A : Around} (a : Addr) (Vs : List Value) : (A.under (.builtin "type.__call__" ⟨.ref a :: Vs, []⟩)).frames = A.frames := by
  show pushEnvs [] A.frames = A.frames
  cases A.frames <;> rfl

theorem s_call (Y : PmOk P) (GO : GxOk P G) (FN : SndFn P G n) (K : FmOk P F) (R : Room n F.A) (HM : HmOk hm F.A) (I : Inv P F l H s) {V : Value} {Vs : List Value} {Q : QV} {X : XV} (h : callV G hm (er V) (Vs.map er) H Q X) :
    (∃ k, (k = Keeper.frame ∨ k = Keeper.machine) ∧ PySem.W.Looks P.M s.heap (keeperOf V) k) ∧ wpAny P.M F.A (call V Vs) (PostE P F l Q) (PostX P F l X) s := by
  unfold callV at h
  split at h
  · rename_i a e; have := er_ref e; subst this
    split at h
    · rename_i fi hi
      obtain ⟨i1, i2, i3, i4⟩ := GO.init a fi hi
      have kin := I.kin Y K
      refine ⟨PySem.W.looks_keep i4 kin, wpAny_call ?_⟩
      have I1 := I.alloc K (O := PySem.W.emptyDict) (o := .ns []) (t := s.toks) ⟨#[], 0, Heap.get?_push_size _ rfl, .nil, .nil⟩
      have I2 := I1.alloc K (O := PySem.W.instObj a s.heap.objs.size) (o := .inst a s.heap.objs.size) (t := s.toks) (Heap.get?_push_size _ rfl)
      have hsz : (s.heap.push PySem.W.emptyDict).objs.size = s.heap.objs.size + 1 := Heap.size_push ..
      simp only [hsz] at I2
      have q := h s.heap.objs.size (s.heap.objs.size + 1) I.fresh (by
        have := I1.fresh
        simp only [hsz] at this
        rwa [Hp.upd_ne _ _ (Nat.succ_ne_self _)] at this) (Nat.ne_of_lt (Nat.lt_succ_self _))
      obtain ⟨hh, hg, hd, ht, ho⟩ := s
      refine PySem.W.make_core (PySem.W.makes_of kin i1) (PySem.W.looks_findIn kin i2) (fun self => PySem.W.bind_fn kin self (beq_iff_eq.mp i3)) (.inl (by simp)) ?_
      refine codeAny_mono (FN.run q (F := { F with A := F.A.under (.builtin "type.__call__" ⟨.ref a :: Vs, []⟩) }) (l := l) (K.withA (tc_frames _ _)) (tc_room R _ _) HM (I2.withA _) rfl) fun r s' z => ?_
      rcases r with e | (_ | _ | _ | v)
      · exact PostX.ofA z
      · exact z.elim
      · exact z.elim
      · exact z.elim
      · obtain ⟨H', I', q1, q2⟩ := z
        exact ⟨er_none q1, H', I'.ofA, q2⟩
    · refine ⟨PySem.W.looks_keep (FN.keep h) (I.kin Y K), wpAny_call (codeAny_mono (FN.run h K R.c HM I rfl) fun r s' z => ?_)⟩
      rcases r with e | (_ | _ | _ | v) <;> exact z
  · exact h.elim

theorem se_call (Y : PmOk P) (GO : GxOk P G) (FN : SndFn P G n) {sc : Scope} {f : Str} {p pos : Pos} {args : List Expr} {f' : Ex} {args' : List Ex} (hs : args.all notStar = true) (hf : SE P G n hm sc (.Name f p) f') (ha : SEs P G n hm sc args args') :
    SE P G n hm sc (.Call (.Name f p) args [] pos) (.call f' args') := by
  intro F l K S R HM H s Q X I q
  conv at q => whnf
  refine wpAny_Call_NameR (wpAny_mono (hf K S R HM I q) (fun V s' q => ?_) fun _ _ z => z)
  obtain ⟨H1, I1, q⟩ := q
  refine callWith_any hs (wpAny_mono (ha K S R HM I1 q) (fun Vs s2 q => ?_) fun _ _ z => z)
  obtain ⟨H2, I2, q⟩ := q
  exact s_call Y GO FN K R HM I2 q

theorem s_method (Y : PmOk P) (GO : GxOk P G) (K : FmOk P F) (I : Inv P F l H s) {E : Value → Shared → Prop} {V : Value} {m : Str} {k : Addr → Prop} {pl : Sem Bool} {Q : Value × List Value → Shared → Prop} (h : methV G (er V) m H k)
    (hq : ∀ f x, V = .ref x → k f → Q (.ref f, [.ref x]) s) : wpAny P.M F.A (getMethod V m pl) Q E s := by
  unfold methV at h
  split at h
  · rename_i x e; have := er_ref e; subst this
    split at h
    · rename_i C d hx
      split at h
      · rename_i kvs f hd hm
        obtain ⟨hv, hk⟩ := h
        obtain ⟨mm, Fr, hmm⟩ := I.fr K
        obtain ⟨es, kk, od, ne, _⟩ := I.objs _ _ hd
        obtain ⟨W, g1, g2⟩ := ne.get (a := m)
        obtain ⟨f1, f2, f3⟩ := GO.meth C m f hm
        have II : PySem.W.InstAt s.heap x { cls := .ref C, dict := some d, data := .plain } C (some (PySem.W.dictOf es.toList kk)) := ⟨I.objs _ _ hx, rfl, rfl, by simpa [PySem.W.dictOf] using od⟩
        rw [hv] at g2
        cases W with
        | none => exact PySem.W.method_inst Fr Y.kin II f1 f2 f3 g1 (hq f x rfl hk)
        | some W => simp at g2
      · exact h.elim
    · exact h.elim
  · exact h.elim

theorem backTo_stars {env : Env} {pos : Pos} : ∀ {es : List Expr}, es.all notStar = true → (backTo pos (starEach es env)).all (fun x => !x.1) = true
  | [], _ => rfl
  | e :: es, h => by
    simp at h
    rw [star_cons h.1]
    show (true && (backTo pos (starEach es env)).all (fun x => !x.1)) = true
    rw [backTo_stars (by simpa using h.2)]; rfl

theorem attrBase_eq {o : Expr} {a : Str} {env : Env} {whole : Sem Value} (h : notSuper o = true) : attributeBase o a env whole = whole := by
  unfold attributeBase
  split
  · have h' : (_ != ("super" : Str)) = true := h
    rw [if_pos (by rw [h']; rfl)]
  · rfl

theorem se_meth (Y : PmOk P) (GO : GxOk P G) (FN : SndFn P G n) {sc : Scope} {o : Expr} {m : Str} {ap pos : Pos} {args : List Expr} {o' : Ex} {args' : List Ex} (hs : args.all notStar = true) (hsup : notSuper o = true) (hline : (ap.endLine == pos.line) = true) (hlen : args.length < 29)
    (ho : SE P G n hm sc o o') (ha : SEs P G n hm sc args args') :
    SE P G n hm sc (.Call (.Attribute o m ap) args [] pos) (.meth o' m args') := by
  intro F l K S R HM H s Q X I q
  conv at q => whnf
  rw [arm_eval_Call, attrBase_eq hsup]
  refine wpAny_bind (wpAny_mono (ho K S R HM I q) (fun V s' q => ?_) fun _ _ z => z)
  obtain ⟨H1, I1, q⟩ := q
  refine wpAny_bind (wpAny_standAt ?_)
  have hform : methodCallForm (args.length + ([] : List Keyword).length) (backTo pos (starEach args F.env)) (backToKw pos (keywordEach [] F.env)) = true := by
    unfold methodCallForm
    rw [backTo_stars hs]
    have : backToKw pos (keywordEach [] F.env) = [] := rfl
    simp [this]; omega
  have hpos : methodCallPos true o F.env ap pos = pure pos := by unfold methodCallPos; simp [hline]
  unfold methodCall
  rw [hform]
  refine wpAny_bind (wpAny_holding (s_method Y GO K I1 q fun f x e q => ?_))
  subst e
  refine wpAny_bind (wpAny_of_eq hpos ?_)
  refine callWith_any hs (wpAny_mono (ha K S R HM I1 q) (fun Vs s2 q => ?_) fun _ _ z => z)
  obtain ⟨H2, I2, q⟩ := q
  refine ⟨PySem.W.looks_keep (FN.keep q) (I2.kin Y K), wpAny_call (codeAny_mono (FN.run q K R.c HM I2 rfl) fun r s' z => ?_)⟩
  rcases r with e | (_ | _ | _ | v) <;> exact z

/-! methods of the built-in types -/
noncomputable def bmName : Bm → Str
  | .append => "append" | .pop => "pop" | .get => "get" | .join => "join" | .split => "split"
theorem bmTab_name {x : Str} {m : Bm} (h : bmTab x = some m) : x = bmName m := by
  unfold bmTab at h
  repeat (split at h; · rename_i e; cases h; exact eq_of_beq e)
  cases h
noncomputable def bmId : Bk → Bm → String
  | .list, .append => "list.append"
  | .list, _ => "list.pop"
  | .dict, .pop => "dict.pop"
  | .dict, _ => "dict.get"
  | .str, .join => "str.join"
  | .str, _ => "str.split"

theorem bm_get {M : Model} {A : Around} {E : Value → Shared → Prop} {s : Shared} {v : Value} {T : String} {name nm : Str} {id idd : String} {pl : Sem Bool} {Q : Value × List Value → Shared → Prop} (sl : Slot T nm idd) (hT : s.TypeIs v T) (pa : PlainAttrs T)
    (hty : typeOf (.builtin idd) = pure (.type "method_descriptor")) (hd : ∀ a, v = .ref a → ∃ o, s.heap.get? a = some o ∧ o.dict = none) (h : Q (.builtin id, [v]) s) (e1 : name = nm := by rfl) (e2 : id = idd := by rfl) : wpAny M A (getMethod v name pl) Q E s := by
  subst e1 e2
  exact getMethod_builtin hT pa sl hty hd h

theorem s_bmOn (I : Inv P F l H s) {E : Value → Shared → Prop} {V : Value} {m : Bm} {k : Bk → Prop} {pl : Sem Bool} {Q : Value × List Value → Shared → Prop} (h : bmOn m (er V) H k)
    (hq : ∀ b, k b → Q (.builtin (bmId b m), [V]) s) : wpAny P.M F.A (getMethod V (bmName m) pl) Q E s := by
  unfold bmOn at h
  split at h
  · rename_i x _ e; obtain ⟨t, rfl⟩ := er_str e
    obtain ⟨rfl | rfl, h⟩ := h
    · exact bm_get PySem.F.slot_str_join rfl PySem.F.plainAttrs_str PySem.F.type_str_join (fun _ e => nomatch e) (hq .str h)
    · exact bm_get PySem.F.slot_str_split rfl PySem.F.plainAttrs_str PySem.F.type_str_split (fun _ e => nomatch e) (hq .str h)
  · rename_i a e; have := er_ref e; subst this
    split at h
    · rename_i xs hx
      obtain ⟨vs, hl, _, _, n, e⟩ := I.objs _ _ hx
      have hd : ∀ b, Value.ref a = .ref b → ∃ o, s.heap.get? b = some o ∧ o.dict = none := fun b q => by cases q; exact ⟨_, e, rfl⟩
      obtain ⟨rfl | rfl, h⟩ := h
      · exact bm_get slot_list_append hl.typeIs PySem.F.plainAttrs_list type_list_append hd (hq .list h)
      · exact bm_get PySem.F.slot_list_pop hl.typeIs PySem.F.plainAttrs_list PySem.F.type_list_pop hd (hq .list h)
    · rename_i xs hx
      obtain ⟨vs, hl, _⟩ := I.objs _ _ hx
      obtain ⟨rfl | rfl, h⟩ := h
      · exact bm_get PySem.F.slot_dict_pop hl.mapOf.typeIs PySem.F.plainAttrs_dict PySem.F.type_dict_pop hl.mapOf.noDict (hq .dict h)
      · exact bm_get PySem.F.slot_dict_get hl.mapOf.typeIs PySem.F.plainAttrs_dict PySem.F.type_dict_get hl.mapOf.noDict (hq .dict h)
    · rename_i xs hx
      obtain ⟨vs, hl, _⟩ := I.objs _ _ hx
      obtain ⟨rfl | rfl, h⟩ := h
      · exact bm_get PySem.F.slot_dict_pop hl.mapOf.typeIs PySem.F.plainAttrs_dict PySem.F.type_dict_pop hl.mapOf.noDict (hq .dict h)
      · exact bm_get PySem.F.slot_dict_get hl.mapOf.typeIs PySem.F.plainAttrs_dict PySem.F.type_dict_get hl.mapOf.noDict (hq .dict h)
    · exact h.elim
  · exact h.elim

theorem mapSeq_exact (f : Array Value → Array Value) (vs : Array Value) (n : Nat) : ∃ n', Obj.mapSeq f { cls := .type "list", dict := none, data := .seq vs n, slots := #[] } = { cls := .type "list", dict := none, data := .seq (f vs) n', slots := #[] } := by
  unfold Obj.mapSeq
  exact ⟨_, rfl⟩

theorem IsL.update {h : Heap} {a : Addr} {vs : Array Value} (x : IsL h a vs) (f : Array Value → Array Value) : IsL (h.update a (Obj.mapSeq f)) a (f vs) := by
  obtain ⟨n, e⟩ := x
  obtain ⟨n', e'⟩ := mapSeq_exact f vs n
  exact ⟨n', by rw [Heap.get?_update_self _ e (by rw [e']; rfl), e']⟩

theorem without_er {K : Type} [DecidableEq K] (ks : List (K × Value)) (k : K) : (PySem.without ks k).map (fun p => (p.1, er p.2)) = PySem.without (ks.map fun p => (p.1, er p.2)) k := by
  unfold PySem.without
  rw [List.filter_map]
  rfl

theorem s_bm (I : Inv P F l H s) {E : Value → Shared → Prop} {V : Value} {Vs : List Value} {b : Bk} {m : Bm} {Q : QV} (h : bmV b m (er V) (Vs.map er) H Q) :
    wpAny P.M F.A (call (.builtin (bmId b m)) (V :: Vs)) (PostE P F l Q) E s := by
  unfold bmV at h
  split at h
  · split at h
    · obtain ⟨a, eV, h'⟩ := onRef_elim rfl h; clear h; subst eV
      obtain ⟨W, eW, h⟩ := on1_elim h'; clear h'; subst eW
      split at h
      · rename_i xs hx
        obtain ⟨hz, q⟩ := h
        obtain ⟨vs, hl, e, hz2, ex⟩ := I.objs _ _ hx
        have hsz : vs.size ≤ sizeLine := by rw [← e] at hz; simpa using hz
        obtain ⟨n, e0⟩ := id ex
        refine wpAny_call_entry slot_list_append hl.typeIs entry_list_append ?_ (args_list_append _ _)
        show wpAny _ _ (updateSeq a (·.push W) >>= fun _ => ret .none) _ _ s
        refine wpAny_bind (wpAny_updateSeq e0 rfl (wpAny_pure ⟨.none, rfl, ?_⟩) hsz)
        refine ⟨_, I.put (t := s.toks) hx (fun b hb => Heap.get?_update_other _ _ (Ne.symm hb)) (mt_list (ex.update _) ?_), ?_⟩
        · simp only [Array.size_push]; simp only [sizeLine] at hsz; omega
        · simpa [e, er] using q
      · exact h.elim
    · obtain ⟨a, eV, h'⟩ := onRef_elim rfl h; clear h; subst eV
      obtain ⟨eW, h⟩ := on0_elim h'; clear h'; subst eW
      split at h
      · rename_i xs hx
        obtain ⟨hz, q⟩ := h
        obtain ⟨vs, hl, e, hz2, ex⟩ := I.objs _ _ hx
        have hsz : vs.size ≤ sizeLine := by rw [← e] at hz; simpa using hz
        obtain ⟨n, e0⟩ := id ex
        split at q
        · rename_i v hv
          obtain ⟨y, hy, hyv⟩ : ∃ y, vs[vs.size - 1]? = some y ∧ er y = v := by
            rw [← e, List.getLast?_map] at hv
            obtain ⟨y, hy, e'⟩ := Option.map_eq_some_iff.mp hv
            refine ⟨y, ?_, e'⟩
            rw [List.getLast?_eq_getElem?] at hy
            simpa using hy
          subst hyv
          refine call_meets PySem.F.slot_list_pop hl.typeIs PySem.F.entry_list_pop (PySem.F.args_list_pop_1 _) (PySem.MeetsSeq.list_pop_last a vs n y hy hsz) ⟨e0, ?_⟩
          have dl : (vs.eraseIdxIfInBounds (vs.size - 1)).toList = vs.toList.dropLast := by
            obtain ⟨l⟩ := vs
            simp only [List.eraseIdxIfInBounds_toArray, List.size_toArray, List.eraseIdx_length_sub_one]
          refine ⟨_, I.put (t := s.toks) hx (fun b hb => Heap.get?_update_other _ _ (Ne.symm hb)) (mt_list (ex.update _) ?_), ?_⟩
          · rw [← Array.length_toList, dl]
            simp only [sizeLine] at hsz
            simp; omega
          · have : ((vs.eraseIdxIfInBounds (vs.size - 1)).toList.map er) = xs.dropLast := by
              rw [dl, ← e, List.map_dropLast]
            rw [this]; exact q
        · exact q.elim
      · exact h.elim
    · exact h.elim
  · split at h
    · obtain ⟨a, eV, h'⟩ := onRef_elim rfl h; clear h; subst eV
      obtain ⟨W, eW, h2⟩ := on1_elim h'; clear h'; subst eW
      obtain ⟨k, t, eW, h⟩ := onInt_elim rfl h2; clear h2; subst eW
      split at h
      · rename_i kvs hx
        obtain ⟨hz, q⟩ := h
        obtain ⟨ks, hd, e⟩ := I.objs _ _ hx
        split at q
        · rename_i v hv
          rw [← e] at hv
          rw [valueAt_er] at hv
          obtain ⟨W, hw, hwv⟩ := Option.map_eq_some_iff.mp hv
          subst hwv
          refine call_meetsIn PySem.F.slot_dict_pop hd.mapOf.typeIs PySem.F.entry_dict_pop (PySem.F.args_dict_pop_2 _ _) (meets_dict_pop_there _ a (intKind_is _ _ _ _) [] (.inl rfl) rfl) ⟨ks, W, hd, by rw [← e] at hz; simpa using hz, hw, fun h' hd' sb => ?_⟩
          refine ⟨_, I.put (t := s.toks + 1) (o' := .idict ((PySem.without ks k).map fun p => (p.1, er p.2))) hx (fun b hb => sb.2 b hb) ⟨_, hd', rfl⟩, ?_⟩
          have : (PySem.without ks k).map (fun p => (p.1, er p.2)) = PySem.without kvs k := by rw [← e, without_er]
          rw [this]; exact q
        · exact q.elim
      · exact h.elim
    · exact h.elim
  · split at h
    · obtain ⟨x, t, eV, h'⟩ := onStr_elim rfl h; clear h; subst eV
      obtain ⟨W, eW, h2⟩ := on1_elim h'; clear h'; subst eW
      obtain ⟨a, eW, h⟩ := onRef_elim rfl h2; clear h2; subst eW
      split at h
      · rename_i xs hx
        obtain ⟨vs, hl, e, _⟩ := I.objs _ _ hx
        split at h
        · rename_i ss hs
          obtain ⟨ok, q⟩ := h
          obtain ⟨ls, e1, e2⟩ := strs_vals _ _ _ e hs
          refine PySem.SC.join (l := ls) (by rw [← e1]; simpa using hl) e2 ok fun t' k => ⟨H, I.toks _, q⟩
        · exact h.elim
      · exact h.elim
    · exact h.elim
end
end Mine
end

section
open PySem PyProof.Rows PySem.Calls
open PySem.W (Looks Frag InstAt findIn findObj mroIn subIn typeIn clsIn looks_findIn looks_find looks_mroIn looks_subIn looks_typeIn class_get handed_on)
namespace Mine

/-! ## isinstance of an exception of one's own -/
section
variable {prog : Program} {w : World} {A : Around} {E : Value → Shared → Prop} {s : Shared} {K : Frag} {x D : Addr} {ox : Obj}

theorem exc_check {M : Model} {nameV : Value} {Q : Unit → Shared → Prop} (C : ExcCls K D) (X : K.In s.heap) (I : InstAt s.heap x ox D none) (hq : Q () s) : wpAny M A (checkBuiltinCall "BaseException.__getattribute__" ⟨[.ref x, nameV], []⟩) Q E s := by
  have hk : builtinKind "BaseException.__getattribute__" = some .slot := by decide +kernel
  have hsplit : splitId "BaseException.__getattribute__" = some ("BaseException", "__getattribute__") := by decide +kernel
  have ha := PySem.F.args_bexc_ga (.ref x) nameV
  have L0 := I.type (M := M)
  have L1 : Looks M s.heap (isInstance (.ref x) (.type "BaseException")) true := L0.andThen (looks_mroIn X C.be)
  obtain ⟨hh, g, d, t, os⟩ := s
  simp only [checkBuiltinCall, hk, hsplit]
  refine wpAny_bind (L1.at ?_)
  repeat (any_goals (first | assumption | wp_step))

theorem exc_attr {tk : Tok} {fill expr : Bool} {Q : Value → Shared → Prop} (C : ExcCls K D) (X : K.In s.heap) (I : InstAt s.heap x ox D none) (hq : Q (.ref D) s) :
    wpAny (model prog w) A (getAttrBy (.ref x) (.str "__class__" tk) fill expr) Q E s := by
  have L0 := I.type (M := model prog w)
  have L1 := looks_findIn (M := model prog w) X C.ga
  have L2 := looks_findIn (M := model prog w) X C.gr
  have L3 := looks_find (M := model prog w) X I C.fo
  have I' := I
  have X' := X
  have CG := fun {A' : Around} {R : Result → Shared → Prop} (h : R (.ok (.ret (.ref D))) s) => class_get (prog := prog) (w := w) (A := A') (tp := .ref D) X I C.ob h
  have EC := fun {A' : Around} {E' : Value → Shared → Prop} {nameV : Value} {Q' : Unit → Shared → Prop} (hq : Q' () s) => exc_check (M := model prog w) (A := A') (E := E') (nameV := nameV) C X I hq
  obtain ⟨hh, g, d, t, os⟩ := s
  unfold getAttrBy
  refine wpAny_holding (wpAny_bind (L0.at (wpAny_bind (L1.at ?_))))
  show wpAny _ _ (getAttrByItsOwn _ _ _ _ _ _) _ _ _
  unfold getAttrByItsOwn hookBefore
  refine wpAny_bind ?_
  show wpAny _ _ (typeLookup (.ref D) "__getattr__") _ _ _
  refine L2.at ?_
  refine wpAny_bind (wpAny_attempt (wpAny_holding ?_))
  have hb : callGetattribute (.ref x) (.str "__class__" tk) (.builtin "BaseException.__getattribute__") expr = boundAndCalled (.builtin "BaseException.__getattribute__") (.ref x) (.str "__class__" tk) := by
    unfold callGetattribute
    rw [if_neg (by cases expr <;> decide)]
  rw [hb]
  unfold boundAndCalled
  refine wpAny_bind (wpAny_of_eq (PySem.F.excAttr_ValueError.ga.bind (.ref x)) ?_)
  refine wpAny_call ?_
  refine codeAny_call_builtin PySem.F.excAttr_ValueError.ga.plain PySem.F.entry_bexc_ga (EC ?_)
  unfold Builtin.«object.__getattribute__»
  repeat (any_goals (first | assumption | with_reducible refine L0.at ?_ | with_reducible refine L3.at ?_ | wp_step))
  refine CG ?_
  dsimp only
  refine wpAny_pure ?_
  dsimp only
  exact handed_on rfl hq

theorem exc_class {Q : Option Value → Shared → Prop} (C : ExcCls K D) (X : K.In s.heap) (I : InstAt s.heap x ox D none) (hq : Q (some (.ref D)) { s with toks := s.toks + 1 }) :
    wpAny (model prog w) A (getAttr? (.ref x) "__class__") Q E s := by
  unfold getAttr? getAttrBy?
  exact wpAny_bind (wpAny_mkText (wpAny_bind (wpAny_attempt (exc_attr (s := { s with toks := s.toks + 1 }) C X I (wpAny_pure hq)))))

/-- the class asked about is a plain one -/
structure AskCls (K : Frag) (c : Value) : Prop where
  ty : ∀ (M : Model) h', K.In h' → Looks M h' (typeOf c) (.type "type")
  is : ∀ (M : Model) h', K.In h' → Looks M h' (isType c) true

theorem exc_nested {c : Value} {dep : Int} {tk : Tok} {b : Bool} {Q : Fin → Shared → Prop} (C : ExcCls K D) (X : K.In s.heap) (I : InstAt s.heap x ox D none) (U : AskCls K c)
    (hne : (Value.ref D == c) = true → b = true) (hsub : ∀ (M : Model) h', K.In h' → Looks M h' (isSubtype (.ref D) c) b) (h : ∀ t, Q (.done (.ret (.bool b))) { s with toks := t }) :
    wpAny (model prog w) A (Builtin.«isinstance.nested» ⟨[.ref x, c, .int dep tk], []⟩) Q E s := by
  obtain ⟨cdD, hcD⟩ := Option.isSome_iff_exists.mp C.cl
  have hisD : Looks (model prog w) s.heap (isType (.ref D)) true := by
    unfold PySem.W.clsIn at hcD
    split at hcD
    · rename_i ho
      intro A' Q' E' s' k q
      unfold isType loadHead
      exact wpAny_bind (wpAny_loadPart (k _ _ (X _ _ ho)) (wpAny_pure q))
    · cases hcD
  have hty := U.ty (model prog w) _ X
  have his := U.is (model prog w) _ X
  have hs := hsub (model prog w) _ X
  have EC := fun {A' : Around} {E' : Value → Shared → Prop} {Q' : Option Value → Shared → Prop} (hq : Q' (some (.ref D)) { s with toks := s.toks + 1 }) => exc_class (prog := prog) (w := w) (A := A') (E := E') C X I hq
  have L0 := I.type (M := model prog w)
  obtain ⟨h0, g, d, tt, os⟩ := s
  have LI : Looks (model prog w) h0 (isInstance (.ref x) c) b := L0.andThen hs
  unfold Builtin.«isinstance.nested»
  refine wpAny_bind (L0.at ?_)
  by_cases q : (Value.ref D == c) = true
  · rw [if_pos q]
    have := hne q
    subst this
    exact wpAny_bind (wpAny_rule (wpAny_bind (wpAny_pure (wpAny_pure (h _)))))
  rw [if_neg q]
  refine wpAny_bind (hty.at ?_)
  rw [if_pos (by decide)]
  k_delta "plainIsInstance"
  refine wpAny_bind (wpAny_bind (his.at ?_))
  simp only [Bool.not_true, Bool.false_eq_true, if_false]
  refine wpAny_bind (LI.at ?_)
  cases b with
  | true =>
    simp only [if_true]
    exact wpAny_pure (wpAny_pure (h _))
  | false =>
    simp only [Bool.false_eq_true, if_false]
    refine wpAny_bind (EC ?_)
    refine wpAny_bind (hisD.at ?_)
    simp only [Bool.not_true, Bool.false_eq_true, if_false]
    refine wpAny_bind (wpAny_rule ?_)
    refine hs.at ?_
    first
      | exact wpAny_pure (h _)
      | exact wpAny_pure (wpAny_pure (h _))
      | exact wpAny_bind (wpAny_pure (wpAny_pure (h _)))

theorem exc_isi {c : Value} {b : Bool} {Q : Value → Shared → Prop} (C : ExcCls K D) (X : K.In s.heap) (I : InstAt s.heap x ox D none) (U : AskCls K c)
    (hne : (Value.ref D == c) = true → b = true) (hsub : ∀ (M : Model) h', K.In h' → Looks M h' (isSubtype (.ref D) c) b) (h : ∀ t, Q (.bool b) { s with toks := t }) :
    wpAny (model prog w) A (call (.builtin "isinstance") [.ref x, c]) Q E s :=
  call_isinstance (S := fun _ R s => (K.In s.heap ∧ InstAt s.heap x ox D none) ∧ ∀ t, R (.ok (.ret (.bool b))) { s with toks := t })
    (fun _ _ _ _ _ hs => isinstance_outer (exc_nested C hs.1.1 hs.1.2 U hne hsub hs.2) (by intro q; cases q)) ⟨⟨X, I⟩, h⟩
end
end Mine
end

section
open PySem PyProof.Rows PySem.Calls
open PySem.W (Looks looks_subIn looks_typeIn)
namespace Mine

section
variable {P : Pm} {F : Fm} {G : Gx} {n : Nat} {hm : Bool} {l : Loc} {H : Hp} {s : Shared}

noncomputable def Ty.val : Ty → Option Value
  | .str => some (.type "str") | .int => some (.type "int") | .bool => some (.type "bool") | .list => some (.type "list") | .tuple => some (.type "tuple") | .valueError => some (.type "ValueError")
  | _ => none

theorem meta_VE : typeOf (.type "ValueError") = pure (.type "type") := by kernel_rfl
theorem ask_VE (K : PySem.W.Frag) : AskCls K (.type "ValueError") := ⟨fun _ _ _ => Looks.of_pure meta_VE, fun _ _ _ => Looks.of_pure rfl⟩

theorem exc_inst (I : Inv P F l H s) {x D : Addr} (h : H x = some (.exc D)) : ∃ ox, PySem.W.InstAt s.heap x ox D none := by
  obtain ⟨vs, sl, e⟩ := I.objs _ _ h
  exact ⟨_, e, rfl, rfl, trivial⟩

theorem s_isi (Y : PmOk P) (GO : GxOk P G) (K : FmOk P F) (I : Inv P F l H s) {E : Value → Shared → Prop} {V T : Value} {t : Ty} {Q : QV} (ht : t.val = some T) (h : isiV G (er V) t H Q) :
    wpAny P.M F.A (call (.builtin "isinstance") [V, T]) (PostE P F l Q) E s := by
  have R : ∀ {b : Bool} {u : Nat}, Q (.bool b) H → PostE P F l Q (.bool b) { s with toks := u } := fun q => ⟨H, I.toks _, q⟩
  unfold isiV at h
  split at h
  · rename_i e; have := er_none e; subst this
    obtain ⟨hb, q⟩ := h
    cases t <;> cases ht <;> first | cases hb | skip
    · exact IsiPair.NoneType_str (R q)
    · exact IsiPair.NoneType_int (R q)
    · exact IsiPair.NoneType_bool (R q)
    · exact IsiPair.NoneType_list (R q)
    · exact IsiPair.NoneType_tuple (R q)
  · rename_i e; have := er_bool e; subst this
    obtain ⟨hb, q⟩ := h
    cases t <;> cases ht <;> first | cases hb | skip
    · exact IsiPair.bool_str (R q)
    · exact IsiPair.bool_int (R (u := s.toks) q)
    · exact IsiPair.bool_bool (R (u := s.toks) q)
    · exact IsiPair.bool_list (R q)
    · exact IsiPair.bool_tuple (R q)
  · rename_i e; obtain ⟨u, rfl⟩ := er_int e
    obtain ⟨hb, q⟩ := h
    cases t <;> cases ht <;> first | cases hb | skip
    · exact IsiPair.int_str (R q)
    · exact IsiPair.int_int (R (u := s.toks) q)
    · exact IsiPair.int_bool (R q)
    · exact IsiPair.int_list (R q)
    · exact IsiPair.int_tuple (R q)
  · rename_i e; obtain ⟨u, rfl⟩ := er_str e
    obtain ⟨hb, q⟩ := h
    cases t <;> cases ht <;> first | cases hb | skip
    · exact IsiPair.str_str (R (u := s.toks) q)
    · exact IsiPair.str_int (R q)
    · exact IsiPair.str_bool (R q)
    · exact IsiPair.str_list (R q)
    · exact IsiPair.str_tuple (R q)
  · rename_i a e; have := er_ref e; subst this
    split at h
    · rename_i hx
      obtain ⟨hb, q⟩ := h
      obtain ⟨vs, ⟨o, ho, hc, _⟩, _⟩ := I.objs _ _ hx
      cases t <;> cases ht <;> first | cases hb | skip
      · exact IsiPair.list_str ho hc (R q)
      · exact IsiPair.list_int ho hc (R q)
      · exact IsiPair.list_bool ho hc (R q)
      · exact IsiPair.list_list ho hc (R (u := s.toks) q)
      · exact IsiPair.list_tuple ho hc (R q)
    · rename_i hx
      obtain ⟨hb, q⟩ := h
      obtain ⟨vs, ⟨o, ho, hc, _⟩, _⟩ := I.objs _ _ hx
      cases t <;> cases ht <;> first | cases hb | skip
      · exact IsiPair.tuple_str ho hc (R q)
      · exact IsiPair.tuple_int ho hc (R q)
      · exact IsiPair.tuple_bool ho hc (R q)
      · exact IsiPair.tuple_list ho hc (R q)
      · exact IsiPair.tuple_tuple ho hc (R (u := s.toks) q)
    · rename_i hx
      obtain ⟨hb, q⟩ := h
      obtain ⟨vs, ⟨o, es, ep, ho, hc, _⟩, _⟩ := I.objs _ _ hx
      cases t <;> cases ht <;> first | cases hb | skip
      · exact IsiPair.dict_str ho hc.1 (R q)
      · exact IsiPair.dict_int ho hc.1 (R q)
      · exact IsiPair.dict_bool ho hc.1 (R q)
      · exact IsiPair.dict_list ho hc.1 (R q)
      · exact IsiPair.dict_tuple ho hc.1 (R q)
    · rename_i hx
      obtain ⟨hb, q⟩ := h
      obtain ⟨vs, ⟨o, es, ep, ho, hc, _⟩, _⟩ := I.objs _ _ hx
      cases t <;> cases ht <;> first | cases hb | skip
      · exact IsiPair.dict_str ho hc.1 (R q)
      · exact IsiPair.dict_int ho hc.1 (R q)
      · exact IsiPair.dict_bool ho hc.1 (R q)
      · exact IsiPair.dict_list ho hc.1 (R q)
      · exact IsiPair.dict_tuple ho hc.1 (R q)
    · rename_i C hx
      obtain ⟨he, q⟩ := h
      obtain ⟨ox, II⟩ := exc_inst I hx
      cases t <;> cases ht <;> first | exact q.elim | skip
      exact exc_isi (GO.exc C he) (I.kin Y K) II (ask_VE _) (fun _ => rfl) (fun M h' X => looks_subIn X (GO.exc C he).ve) fun t => R q
    · exact h.elim
  · exact h.elim

theorem machine_builtin (M : Model) (h : Heap) (id : String) : ∃ k, (k = Keeper.frame ∨ k = Keeper.machine) ∧ Looks M h (keeperOf (.builtin id)) k := ⟨.machine, .inr rfl, Looks.of_pure rfl⟩
/-- a name of the built-ins -/
theorem ld_blt (Y : PmOk P) (B : BltOk P) {sc : Scope} (K : FmOk P F) (S : ScOk sc F) (I : Inv P F l H s) {E : Value → Shared → Prop} {x : Str} {p : Pos} {v : Value} {Q : Value → Shared → Prop} (hb : bltTab x = some v) (hl : isLoc sc x = some false) (h : Q v s) : wpAny P.M F.A (eval (.Name x p) F.env) Q E s :=
  ld_glob Y K I (.inr (B.blt x v hb)) (S.glob x hl) (isLoc_false hl) h

theorem ty_name {x : Str} {t : Ty} (h : tyOf x = some t) : ∃ T, t.val = some T ∧ bltTab x = some T := by
  unfold tyOf at h
  repeat (split at h; · rename_i e; cases h; rw [eq_of_beq e]; exact ⟨_, rfl, by decide +kernel⟩)
  cases h

theorem se_isi (Y : PmOk P) (B : BltOk P) (GO : GxOk P G) {sc : Scope} {e : Expr} {e' : Ex} {x : Str} {t : Ty} {p p2 pos : Pos} (hn : notStar e = true) (hi : isLoc sc "isinstance" = some false) (hx : isLoc sc x = some false) (ht : tyOf x = some t) (he : SE P G n hm sc e e') :
    SE P G n hm sc (.Call (.Name "isinstance" p) [e, .Name x p2] [] pos) (.isi e' t) := by
  intro F l K S R HM H s Q X I q
  conv at q => whnf
  refine wpAny_Call_NameR (ld_blt Y B K S I (v := .builtin "isinstance") (by decide +kernel) hi ?_)
  refine callWith_any (by rw [List.all_cons, hn]; rfl) ?_
  rw [star_cons hn]
  refine spliced_cons (wpAny_mono (he K S R HM I q) (fun V s' q => ?_) fun _ _ z => z)
  obtain ⟨H1, I1, q⟩ := q
  obtain ⟨T, hT, hb⟩ := ty_name ht
  refine spliced_cons (ld_blt Y B K S I1 hb hx (spliced_nil ⟨machine_builtin _ _ _, ?_⟩))
  exact s_isi Y GO K I1 hT q

theorem se_bm {sc : Scope} {o : Expr} {m : Str} {b : Bm} {ap pos : Pos} {args : List Expr} {o' : Ex} {args' : List Ex} (hb : bmTab m = some b) (hs : args.all notStar = true) (hsup : notSuper o = true) (hline : (ap.endLine == pos.line) = true) (hlen : args.length < 29)
    (ho : SE P G n hm sc o o') (ha : SEs P G n hm sc args args') :
    SE P G n hm sc (.Call (.Attribute o m ap) args [] pos) (.bm b o' args') := by
  intro F l K S R HM H s Q X I q
  have := bmTab_name hb; subst this
  conv at q => whnf
  rw [arm_eval_Call, attrBase_eq hsup]
  refine wpAny_bind (wpAny_mono (ho K S R HM I q) (fun V s' q => ?_) fun _ _ z => z)
  obtain ⟨H1, I1, q⟩ := q
  refine wpAny_bind (wpAny_standAt ?_)
  have hform : methodCallForm (args.length + ([] : List Keyword).length) (backTo pos (starEach args F.env)) (backToKw pos (keywordEach [] F.env)) = true := by
    unfold methodCallForm
    rw [backTo_stars hs]
    have : backToKw pos (keywordEach [] F.env) = [] := rfl
    simp [this]; omega
  have hpos : methodCallPos true o F.env ap pos = pure pos := by unfold methodCallPos; simp [hline]
  unfold methodCall
  rw [hform]
  refine wpAny_bind (wpAny_holding (s_bmOn I1 q fun b q => ?_))
  refine wpAny_bind (wpAny_of_eq hpos ?_)
  refine callWith_any hs (wpAny_mono (ha K S R HM I1 q) (fun Vs s2 q => ?_) fun _ _ z => z)
  obtain ⟨H2, I2, q⟩ := q
  exact ⟨machine_builtin _ _ _, s_bm I2 q⟩
end
end Mine
end

section
open PySem PyProof.Rows PySem.Calls
namespace Mine

/-! ## an object that must stay for a while -/
noncomputable def Fm.also (F : Fm) (c : Addr) (o : Obj) : Fm := { F with g := fun b => if b = c then some o else F.g b }

section
variable {P : Pm} {F : Fm} {G : Gx} {n : Nat} {hm : Bool} {l : Loc} {H : Hp} {s : Shared} {c : Addr} {o : Obj}

theorem FmOk.also (K : FmOk P F) (x : Off F H c) : FmOk P (F.also c o) := by
  refine ⟨K.kind, K.glob, K.blt, fun b o' e => ?_, K.above, ?_, K.lf, K.cl, fun hr y d hy => ?_, K.apart, K.cn, K.cf, fun b d e => ?_, K.frames⟩
  · show (if b = c then some o else F.g b) = some o'
    have := K.base b o' e
    rw [if_neg (fun q => by rw [q, x.g] at this; cases this)]
    exact this
  · show (if F.env.locals = c then some o else F.g F.env.locals) = none
    rw [if_neg (Ne.symm x.l)]; exact K.lg
  · obtain ⟨h1, h2⟩ := K.cg hr y d hy
    refine ⟨?_, h2⟩
    show (if d = c then some o else F.g d) = none
    rw [if_neg (Ne.symm (x.c y d hy))]; exact h1
  · obtain ⟨h1, h2⟩ := K.fg b d e
    refine ⟨?_, h2⟩
    show (if b = c then some o else F.g b) = none
    have e' : F.fr b = some d := e
    rw [if_neg (fun q => by rw [q, x.fr] at e'; cases e')]; exact h1

theorem Inv.also (I : Inv P F l H s) (x : Off F H c) (h : s.heap.get? c = some o) : Inv P (F.also c o) l H s := by
  refine ⟨I.gens, I.os, fun b o' e => ?_, I.frk, I.loc, I.cel, I.objs, fun a o' e => ?_, I.big⟩
  · by_cases q : b = c
    · have e : (if b = c then some o else F.g b) = some o' := e
      rw [if_pos q] at e; cases e; rw [q]; exact h
    · have e : (if b = c then some o else F.g b) = some o' := e
      rw [if_neg q] at e; exact I.keep b o' e
  · cases hr : o'.isR with
    | true => exact fre_r hr (r_fre (I.free a o' e) hr)
    | false =>
      obtain ⟨h1, h2⟩ := of_fre (I.free a o' e) hr
      refine fre_of hr ⟨?_, h2⟩
      show (if a = c then some o else F.g a) = none
      rw [if_neg (fun q => by rw [q, x.h] at e; cases e)]; exact h1

theorem Inv.back (K : FmOk P F) (x : Off F H c) {l' : Loc} {H' : Hp} (I : Inv P (F.also c o) l' H' s) : Inv P F l' H' s ∧ s.heap.get? c = some o ∧ Off F H' c := by
  refine ⟨⟨I.gens, I.os, fun b o' e => ?_, I.frk, I.loc, I.cel, I.objs, fun a o' e => ?_, I.big⟩, I.keep c o (by show (if c = c then some o else F.g c) = some o; rw [if_pos rfl]), ?_, x.g, x.fr, x.l, x.c⟩
  · refine I.keep b o' ?_
    show (if b = c then some o else F.g b) = some o'
    rw [if_neg (fun q => by rw [q, x.g] at e; cases e)]; exact e
  · cases hr : o'.isR with
    | true => exact fre_r hr (r_fre (I.free a o' e) hr)
    | false =>
      obtain ⟨h1, h2⟩ := of_fre (I.free a o' e) hr
      refine fre_of hr ⟨?_, h2⟩
      have h1 : (if a = c then some o else F.g a) = none := h1
      split at h1
      · cases h1
      · exact h1
  · cases e : H' c with
    | none => rfl
    | some o' =>
      cases hr : o'.isR with
      | true =>
        obtain ⟨O, e'⟩ := r_fre (I.free c o' e) hr
        have := K.base _ _ e'
        rw [x.g] at this; cases this
      | false =>
        have := (of_fre (I.free c o' e) hr).1
        have this : (if c = c then some o else F.g c) = none := this
        rw [if_pos rfl] at this; cases this

theorem Off.back {H' : Hp} {a : Addr} (x : Off (F.also c o) H' a) : Off F H' a := by
  refine ⟨x.h, ?_, x.fr, x.l, x.c⟩
  have : (if a = c then some o else F.g a) = none := x.g
  split at this
  · cases this
  · exact this
theorem Exc.back {H' : Hp} {e C : Addr} {b : Bool} (x : Exc P (F.also c o) H' s e C b) : Exc P F H' s e C b :=
  ⟨x.big, x.off.back, let ⟨T, h1, h2, h3⟩ := x.at_; ⟨T, h1, fun t ht => (h2 t ht).back, h3⟩⟩
end

/-! ## turns -/
structure Turns (P : Pm) (A : Around) (J : Addr) (guard : Hp → Prop) (items : List Value) (St : Nat → Heap → Prop) : Prop where
  at_ : ∀ i h, St i h → ∃ o, h.get? J = some o
  frame : ∀ i h h', St i h → (∀ o, h.get? J = some o → h'.get? J = some o) → St i h'
  item : ∀ i (s : Shared) (Q : Option Value → Shared → Prop) (E : Value → Shared → Prop) (H : Hp), (∀ a o, H a = some o → Mt P s.heap a o) → H J = none → guard H → St i s.heap → ∀ v, items[i]? = some v →
    (∀ V h' tk, er V = v → St (i + 1) h' → (∀ b o, b ≠ J → s.heap.get? b = some o → h'.get? b = some o) → Q (some V) { s with heap := h', toks := tk }) → wpAny P.M A (pyNext (.ref J)) Q E s
  done : ∀ (s : Shared) (Q : Option Value → Shared → Prop) (E : Value → Shared → Prop) (H : Hp), (∀ a o, H a = some o → Mt P s.heap a o) → H J = none → guard H → St items.length s.heap →
    (∀ h' tk, (∀ b o, b ≠ J → s.heap.get? b = some o → h'.get? b = some o) → Q none { s with heap := h', toks := tk }) → wpAny P.M A (pyNext (.ref J)) Q E s
  self : ∀ i (s : Shared) (Q : Value → Shared → Prop) (E : Value → Shared → Prop), St i s.heap → Q (.ref J) s → wpAny P.M A (pyIter (.ref J)) Q E s

theorem turns_list {P : Pm} {A : Around} (hh : A.handled = none) (J a : Addr) (xs : List Value) : Turns P A J (fun H => H a = some (.list xs)) xs (fun i h => h.IsListIter J a i) where
  at_ := fun i h ⟨o, ho, _⟩ => ⟨o, ho⟩
  frame := fun i h h' ⟨o, ho, r⟩ k => ⟨o, k o ho, r⟩
  item := fun i s Q E H mt hJ g st v hv hq => by
    obtain ⟨vs, hl, e, _⟩ := mt a _ g
    have hne : a ≠ J := fun q => by rw [q, hJ] at g; cases g
    rw [← e, List.getElem?_map] at hv
    obtain ⟨V, hV, e2⟩ := Option.map_eq_some_iff.mp hv
    have hi : i < vs.size := by have := (List.getElem?_eq_some_iff.mp hV).1; simpa using this
    refine (Walks.list (prog := P.prog) (w := P.w) hh J a hne vs).item i s Q E hi ⟨st, hl⟩ fun V' h' tk hP st' k => hq V' h' tk ?_ st'.1 fun b o hb => k b o (by simp [hb])
    have : some V' = some V := by rw [← hP]; simpa using hV
    cases this; exact e2
  done := fun s Q E H mt hJ g st hq => by
    obtain ⟨vs, hl, e, _⟩ := mt a _ g
    have hne : a ≠ J := fun q => by rw [q, hJ] at g; cases g
    refine (Walks.list (prog := P.prog) (w := P.w) hh J a hne vs).done s Q E ⟨?_, hl⟩ fun h' tk k => hq h' tk fun b o hb => k b o (by simp [hb])
    have : vs.size = xs.length := by rw [← e]; simp
    rw [this]; exact st
  self := fun i s Q E st hq => wpAny_pyIter_listiter st hq

theorem turns_tup {P : Pm} {A : Around} (hh : A.handled = none) (J a : Addr) (xs : List Value) : Turns P A J (fun H => H a = some (.tup xs)) xs (fun i h => h.IsTupleIter J a i) where
  at_ := fun i h ⟨o, ho, _⟩ => ⟨o, ho⟩
  frame := fun i h h' ⟨o, ho, r⟩ k => ⟨o, k o ho, r⟩
  item := fun i s Q E H mt hJ g st v hv hq => by
    obtain ⟨vs, hl, e, _⟩ := mt a _ g
    have hne : a ≠ J := fun q => by rw [q, hJ] at g; cases g
    rw [← e, List.getElem?_map] at hv
    obtain ⟨V, hV, e2⟩ := Option.map_eq_some_iff.mp hv
    have hi : i < vs.size := by have := (List.getElem?_eq_some_iff.mp hV).1; simpa using this
    refine (Walks.tuple (prog := P.prog) (w := P.w) hh J a hne vs).item i s Q E hi ⟨st, hl⟩ fun V' h' tk hP st' k => hq V' h' tk ?_ st'.1 fun b o hb => k b o (by simp [hb])
    have : some V' = some V := by rw [← hP]; simpa using hV
    cases this; exact e2
  done := fun s Q E H mt hJ g st hq => by
    obtain ⟨vs, hl, e, _⟩ := mt a _ g
    have hne : a ≠ J := fun q => by rw [q, hJ] at g; cases g
    refine (Walks.tuple (prog := P.prog) (w := P.w) hh J a hne vs).done s Q E ⟨?_, hl⟩ fun h' tk k => hq h' tk fun b o hb => k b o (by simp [hb])
    have : vs.size = xs.length := by rw [← e]; simp
    rw [this]; exact st
  self := fun i s Q E st hq => wpAny_pyIter_tupleiter st hq

theorem turns_range {P : Pm} {A : Around} (hh : A.handled = none) (J : Addr) (lo hi st : Int) : Turns P A J (fun _ => True) (rangeL lo hi st) (fun i h => IsRangeIter h J (lo + (i : Nat) * st) (((Builtin.Range.rangeSize lo hi st).toNat : Int) - (i : Nat)) st) where
  at_ := fun i h r => ⟨_, r⟩
  frame := fun i h h' r k => k _ r
  item := fun i s Q E H mt hJ g r v hv hq => by
    have hi : i < (Builtin.Range.rangeSize lo hi st).toNat := by have := (List.getElem?_eq_some_iff.mp hv).1; simpa [rangeL] using this
    refine (Walks.range (prog := P.prog) (w := P.w) hh J lo st _).item i s Q E hi r fun V h' tk hP st' k => hq V h' tk ?_ st' fun b o hb => k b o (by simp [hb])
    obtain ⟨t, rfl⟩ := hP
    simp [rangeL, hi] at hv
    simp [er, hv]
  done := fun s Q E H mt hJ g r hq => by
    have : (rangeL lo hi st).length = (Builtin.Range.rangeSize lo hi st).toNat := by simp [rangeL]
    rw [this] at r
    exact (Walks.range (prog := P.prog) (w := P.w) hh J lo st (Builtin.Range.rangeSize lo hi st).toNat).done s Q E r fun h' tk k => hq h' tk fun b o hb => k b o (by simp [hb])
  self := fun i s Q E r hq => wpAny_pyIter_rangeiter r hq

theorem turns_str {P : Pm} {A : Around} {J : Addr} {x : Str} {St : Nat → Heap → Prop} (W : Walks P.prog P.w A J [J] [J] x.cps.size (SignAt x) St) (hat : ∀ i h, St i h → ∃ o, h.get? J = some o) : Turns P A J (fun _ => True) (x.cps.toList.map fun c => .str (chr1 c) 0) St where
  at_ := hat
  frame := fun i h h' r k => W.frame i h h' r fun b hb o e => by simp at hb; subst hb; exact k o e
  item := fun i s Q E H mt hJ g r v hv hq => by
    have hi : i < x.cps.size := by have := (List.getElem?_eq_some_iff.mp hv).1; simpa using this
    refine W.item i s Q E hi r fun V h' tk hP st' k => hq V h' tk ?_ st' fun b o hb => k b o (by simp [hb])
    obtain ⟨c, u, hc, rfl⟩ := hP
    simp at hv
    obtain ⟨c', hc', rfl⟩ := hv
    rw [hc] at hc'; cases hc'
    rfl
  done := fun s Q E H mt hJ g r hq => by
    refine W.done s Q E (by simpa using r) fun h' tk k => hq h' tk fun b o hb => k b o (by simp [hb])
  self := fun i s Q E r hq => W.self i s Q E r hq

section
variable {P : Pm} {F : Fm} {G : Gx} {n : Nat} {hm : Bool} {l : Loc} {H : Hp} {s : Shared}

theorem s_iter (K : FmOk P F) (I : Inv P F l H s) {E : Value → Shared → Prop} {V : Value} {k : (Hp → Prop) → List Value → Prop} (h : iterV (er V) H k) :
    wpAny P.M F.A (pyIter V) (fun it s' => ∃ guard items J St, k guard items ∧ it = .ref J ∧ Inv P F l H s' ∧ Off F H J ∧ P.base.objs.size ≤ J ∧ St 0 s'.heap ∧ ∀ A : Around, A.handled = none → Turns P A J guard items St) E s := by
  have of := I.ofSize K
  have bz := I.base_le K
  unfold iterV at h
  split at h
  · rename_i x _ e; obtain ⟨t, rfl⟩ := er_str e
    cases ha : x.cps.all (· < 128)
    · exact wpAny_pyIter_wide ha ⟨_, _, _, _, h, rfl, I.push _, of, bz, ⟨_, Heap.get?_push_size _ rfl, rfl, rfl⟩, fun A hA => turns_str (Walks.strWide hA _ x t) fun i h ⟨o, ho, _⟩ => ⟨o, ho⟩⟩
    · exact wpAny_pyIter_ascii ha ⟨_, _, _, _, h, rfl, I.push _, of, bz, ⟨_, Heap.get?_push_size _ rfl, rfl, rfl⟩, fun A hA => turns_str (Walks.strAscii hA _ x t) fun i h ⟨o, ho, _⟩ => ⟨o, ho⟩⟩
  · rename_i a e; have := er_ref e; subst this
    split at h
    · rename_i xs hx
      obtain ⟨vs, hl, _⟩ := I.objs _ _ hx
      exact wpAny_pyIter_list hl ⟨_, _, _, _, h, rfl, I.push _, of, bz, ⟨_, Heap.get?_push_size _ rfl, rfl, rfl⟩, fun A hA => turns_list hA _ a xs⟩
    · rename_i xs hx
      obtain ⟨vs, hl, _⟩ := I.objs _ _ hx
      exact wpAny_pyIter_tuple hl ⟨_, _, _, _, h, rfl, I.push _, of, bz, ⟨_, Heap.get?_push_size _ rfl, rfl, rfl⟩, fun A hA => turns_tup hA _ a xs⟩
    · rename_i lo hi st hx
      obtain ⟨t, u, v, hr⟩ := I.objs _ _ hx
      refine wpAny_pyIter_range hr h.1 ⟨_, _, _, _, h.2, rfl, I.push _, of, bz, ?_, fun A hA => turns_range hA _ lo hi st⟩
      have hz : ((Builtin.Range.rangeSize lo hi st).toNat : Int) = Builtin.Range.rangeSize lo hi st := (rangeSize_toNat lo hi st).symm
      show IsRangeIter _ _ (lo + ((0 : Nat) : Int) * st) (((Builtin.Range.rangeSize lo hi st).toNat : Int) - ((0 : Nat) : Int)) st
      rw [hz]
      have e1 : lo + ((0 : Nat) : Int) * st = lo := by simp
      have e2 : Builtin.Range.rangeSize lo hi st - ((0 : Nat) : Int) = Builtin.Range.rangeSize lo hi st := by simp
      rw [e1, e2]
      exact Heap.get?_push_size _ rfl
    · exact h.elim
  · exact h.elim
end
end Mine
end

section
open PySem PyProof.Rows PySem.Calls
open PySem.W (Looks looks_subIn looks_typeIn looks_mroIn)
namespace Mine

/-! ## statements -/
noncomputable def PostS (P : Pm) (F : Fm) (Q : QS) : Flow → Shared → Prop := fun f s' => ∃ l' H', Inv P F l' H' s' ∧ (match f with
  | .next => Q .next l' H'
  | .cont => Q .cont l' H'
  | .ret V => Q (.ret (er V)) l' H'
  | .brk => False)
noncomputable def PostSX (P : Pm) (F : Fm) (X : XS) : Value → Shared → Prop := fun EV s' => ∃ l' H' e C, EV = .ref e ∧ Inv P F l' H' s' ∧ Exc P F H' s' e C false ∧ X C l' H'

section
variable {P : Pm} {F : Fm} {G : Gx} {n : Nat} {hm : Bool} {l : Loc} {H : Hp} {s : Shared}

theorem PostX.toS {X : XS} {V : Value} {s' : Shared} (h : PostX P F l (fun C H' => X C l H') V s') : PostSX P F X V s' :=
  let ⟨H', e, C, q, I, x, z⟩ := h; ⟨l, H', e, C, q, I, x, z⟩

noncomputable def S1 (P : Pm) (G : Gx) (n : Nat) (hm : Bool) (sc : Scope) (st : Stmt) (st' : Sm) : Prop :=
  ∀ ⦃F : Fm⦄ ⦃l : Loc⦄, FmOk P F → ScOk sc F → Room n F.A → HmOk hm F.A → F.ro = false → ∀ {H : Hp} {s : Shared} {Q : QS} {X : XS}, Inv P F l H s → wpS G hm st' l H Q X → wpAny P.M F.A (exec st F.env) (PostS P F Q) (PostSX P F X) s
noncomputable def SS (P : Pm) (G : Gx) (n : Nat) (hm : Bool) (sc : Scope) (st : List Stmt) (st' : List Sm) : Prop :=
  ∀ ⦃F : Fm⦄ ⦃l : Loc⦄, FmOk P F → ScOk sc F → Room n F.A → HmOk hm F.A → F.ro = false → ∀ {H : Hp} {s : Shared} {Q : QS} {X : XS}, Inv P F l H s → wpSs G hm st' l H Q X → wpAny P.M F.A (execs st F.env) (PostS P F Q) (PostSX P F X) s

theorem ss_nil {sc : Scope} : SS P G n hm sc [] [] := by
  intro F l K S R HM ro H s Q X I q
  conv at q => whnf
  exact wpAny_execs_nil ⟨l, H, I, q⟩
theorem ss_cons {sc : Scope} {st : Stmt} {st' : Sm} {r : List Stmt} {r' : List Sm} (h : S1 P G n hm sc st st') (hr : SS P G n hm sc r r') : SS P G n hm sc (st :: r) (st' :: r') := by
  intro F l K S R HM ro H s Q X I q
  conv at q => whnf
  refine wpAny_execs_cons (wpAny_mono (h K S R HM ro I q) (fun f s' z => ?_) fun _ _ z => z)
  obtain ⟨l', H', I', z⟩ := z
  cases f with
  | next => exact hr K S R HM ro I' z
  | brk => exact z.elim
  | cont => exact ⟨l', H', I', z⟩
  | ret v => exact ⟨l', H', I', z⟩

noncomputable def notComp : Expr → Bool
  | .ListComp .. | .SetComp .. | .DictComp .. => false
  | _ => true
theorem swaps_no {v : Expr} {t : Option Expr} {line : Nat} {env : Env} (h : notComp v = true) : swapsWith v t line env = pure false := by
  cases v <;> first | rfl | cases h

theorem s1_expr {sc : Scope} {e : Expr} {e' : Ex} {pos : Pos} (hc : notComp e = true) (h : SE P G n hm sc e e') : S1 P G n hm sc (.Expr e pos) (.expr e') := by
  intro F l K S R HM ro H s Q X I q
  conv at q => whnf
  refine wpAny_Expr_any (wpAny_mono (h K S R HM I q) (fun V s' z => ?_) fun _ _ z => PostX.toS z) ?_ (swaps_no hc)
  · obtain ⟨H', I', z⟩ := z
    exact ⟨l, H', I', z⟩
  · unfold interactive; rw [K.kind]; rfl

theorem s1_pass {sc : Scope} {pos : Pos} : S1 P G n hm sc (.Pass pos) .pass := by
  intro F l K S R HM ro H s Q X I q
  conv at q => whnf
  exact wpAny_Pass ⟨l, H, I, q⟩
theorem s1_cont {sc : Scope} {pos : Pos} : S1 P G n hm sc (.Continue pos) .cont := by
  intro F l K S R HM ro H s Q X I q
  conv at q => whnf
  rw [arm_exec_Continue]
  exact wpAny_bind (wpAny_standAt (wpAny_pure ⟨l, H, I, q⟩))
theorem s1_ret {sc : Scope} {e : Expr} {e' : Ex} {pos : Pos} (h : SE P G n hm sc e e') : S1 P G n hm sc (.Return (some e) pos) (.ret e') := by
  intro F l K S R HM ro H s Q X I q
  conv at q => whnf
  rw [arm_exec_Return]
  refine wpAny_bind (wpAny_standAt ?_)
  show wpAny P.M F.A (do return Flow.ret (← eval e F.env)) _ _ s
  refine wpAny_bind (wpAny_mono (h K S R HM I q) (fun V s' z => wpAny_pure ?_) fun _ _ z => PostX.toS z)
  obtain ⟨H', I', z⟩ := z
  exact ⟨l, H', I', z⟩
/-- a name that may be bound here -/
noncomputable def isSt (sc : Scope) (x : Str) : Bool := match sc.names.lookup x with
  | some .local | some .cell => true
  | _ => false
theorem st_of {sc : Scope} (S : ScOk sc F) {x : Str} (h : isSt sc x = true) : F.env.kindOf x = some .local ∨ (F.env.kindOf x = some .cell ∧ ∃ c, F.env.cells.lookup x = some c) := by
  unfold isSt at h
  split at h
  · rename_i e; exact .inl (S.locl x e)
  · rename_i e; exact .inr (S.cell x e)
  · cases h

theorem s1_asg {sc : Scope} {x : Str} {p pos : Pos} {e : Expr} {e' : Ex} (hx : isSt sc x = true) (hc : notComp e = true) (h : SE P G n hm sc e e') : S1 P G n hm sc (.Assign [.Name x p] e pos) (.asg x e') := by
  intro F l K S R HM ro H s Q X I q
  conv at q => whnf
  refine wpAny_Assign_Name (wpAny_mono (h K S R HM I q) (fun V s' z => ?_) fun _ _ z => PostX.toS z) (swaps_no hc)
  obtain ⟨H', I', z⟩ := z
  exact st_loc K I' ro (st_of S hx) fun s'' I'' => ⟨_, _, I'', z⟩

theorem swaps_attr {v : Expr} {o : Expr} {a : Str} {p : Pos} {line : Nat} {env : Env} : swapsWith v (some (.Attribute o a p)) line env = pure false := by
  cases v <;> rfl
theorem swaps_sub {v : Expr} {o i : Expr} {p : Pos} {line : Nat} {env : Env} : swapsWith v (some (.Subscript o i p)) line env = pure false := by
  cases v <;> rfl

theorem s1_asgAttr (Y : PmOk P) (GO : GxOk P G) {sc : Scope} {o e : Expr} {a : Str} {p pos : Pos} {o' e' : Ex} (ho : SE P G n hm sc o o') (h : SE P G n hm sc e e') : S1 P G n hm sc (.Assign [.Attribute o a p] e pos) (.asgAttr o' a e') := by
  intro F l K S R HM ro H s Q X I q
  conv at q => whnf
  refine plainObj_wpAny_Assign_Attribute (wpAny_mono (h K S R HM I q) (fun V s' z => ?_) fun _ _ z => PostX.toS z) swaps_attr
  obtain ⟨H1, I1, z⟩ := z
  refine wpAny_mono (ho K S R HM I1 z) (fun V2 s2 z => ?_) fun _ _ z => PostX.toS z
  obtain ⟨H2, I2, z⟩ := z
  refine wpAny_mono (s_setattr Y GO K I2 rfl rfl z) (fun _ s3 z => ?_) fun _ _ z => z
  obtain ⟨H3, I3, z⟩ := z
  exact ⟨l, H3, I3, z⟩

theorem stored_er {K : Type} [DecidableEq K] (ks : List (K × Value)) (k : K) (v : Value) : (stored ks k v).map (fun p => (p.1, er p.2)) = stored (ks.map fun p => (p.1, er p.2)) k (er v) := by
  unfold stored
  have e1 : (ks.map fun p => (p.1, er p.2)).any (fun kv => decide (kv.1 = k)) = ks.any (fun kv => decide (kv.1 = k)) := by rw [List.any_map]; rfl
  rw [e1]
  split
  · rw [List.map_map, List.map_map]
    apply List.map_congr_left
    intro p _
    by_cases h : p.1 = k <;> simp [h]
  · simp

theorem s_setitem (Y : PmOk P) (I : Inv P F l H s) {E : Value → Shared → Prop} {O J V : Value} {k : Hp → Prop} (h : setItemV (er O) (er J) (er V) H k) : wpAny P.M F.A (setItem O J V) (fun _ s' => ∃ H', Inv P F l H' s' ∧ k H') E s := by
  unfold setItemV at h
  split at h
  · rename_i a i _ e1 e2; have := er_ref e1; subst this; obtain ⟨t, rfl⟩ := er_int e2
    split at h
    · rename_i kvs hx
      obtain ⟨hz, q⟩ := h
      obtain ⟨ks, hd, e⟩ := I.objs _ _ hx
      refine wpAny_setItem_pairs (intKind_is _ _ _ _) hd (fun h' hd' sb => ⟨_, I.put (t := s.toks + 1) (o' := .idict ((stored ks i V).map fun p => (p.1, er p.2))) hx (fun b hb => sb.2 b hb) ⟨_, hd', rfl⟩, ?_⟩) (by rw [← e] at hz; simpa using hz)
      rw [stored_er, e]; exact q
    · exact h.elim
  · rename_i a x _ e1 e2; have := er_ref e1; subst this; obtain ⟨t, rfl⟩ := er_str e2
    split at h
    · rename_i kvs hx
      obtain ⟨hz, q⟩ := h
      obtain ⟨ks, hd, e⟩ := I.objs _ _ hx
      refine wpAny_setItem_pairs (strKind_is _ _ _ _) hd (fun h' hd' sb => ⟨_, I.put (t := s.toks + 1) (o' := .sdict ((stored ks x V).map fun p => (p.1, er p.2))) hx (fun b hb => sb.2 b hb) ⟨_, hd', rfl⟩, ?_⟩) (by rw [← e] at hz; simpa using hz)
      rw [stored_er, e]; exact q
    · rename_i kvs hx
      obtain ⟨hz, q⟩ := h
      obtain ⟨ks, hd, e⟩ := I.objs _ _ hx
      subst hz
      have : ks = [] := by cases ks with | nil => rfl | cons _ _ => simp at e
      subst this
      refine wpAny_setItem_pairs (strKind_is _ _ _ _) (empty_sdict hd) (fun h' hd' sb => ⟨_, I.put (t := s.toks + 1) (o' := .sdict ((stored ([] : List (Str × Value)) x V).map fun p => (p.1, er p.2))) hx (fun b hb => sb.2 b hb) ⟨_, hd', rfl⟩, ?_⟩) (by simp)
      rw [stored_er]; exact q
    · exact h.elim
  · exact h.elim

theorem s1_asgIdx (Y : PmOk P) {sc : Scope} {o i e : Expr} {p pos : Pos} {o' i' e' : Ex} (ho : SE P G n hm sc o o') (hi : SE P G n hm sc i i') (h : SE P G n hm sc e e') : S1 P G n hm sc (.Assign [.Subscript o i p] e pos) (.asgIdx o' i' e') := by
  intro F l K S R HM ro H s Q X I q
  conv at q => whnf
  refine wpAny_Assign_Subscript (wpAny_mono (h K S R HM I q) (fun V s' z => ?_) fun _ _ z => PostX.toS z) swaps_sub
  obtain ⟨H1, I1, z⟩ := z
  refine wpAny_mono (ho K S R HM I1 z) (fun V2 s2 z => ?_) fun _ _ z => PostX.toS z
  obtain ⟨H2, I2, z⟩ := z
  refine wpAny_mono (hi K S R HM I2 z) (fun V3 s3 z => ?_) fun _ _ z => PostX.toS z
  obtain ⟨H3, I3, z⟩ := z
  refine wpAny_mono (s_setitem Y I3 z) (fun _ s4 z => ?_) fun _ _ z => z
  obtain ⟨H4, I4, z⟩ := z
  exact ⟨l, H4, I4, z⟩

theorem s1_if {sc : Scope} {c : Expr} {c' : Ex} {t f : List Stmt} {t' f' : List Sm} {pos : Pos} (hc : ST P G n hm sc c c') (ht : SS P G n hm sc t t') (hf : SS P G n hm sc f f') : S1 P G n hm sc (.If c t f pos) (.ite c' t' f') := by
  intro F l K S R HM ro H s Q X I q
  conv at q => whnf
  refine wpAny_If (wpAny_mono (hc K S R HM (k := fun b H1 => if b then wpSs G hm t' l H1 Q X else wpSs G hm f' l H1 Q X) I q) (fun b s' z => ?_) fun _ _ z => PostX.toS z)
  obtain ⟨H', I', z⟩ := z
  cases b with
  | true => exact ht K S R HM ro I' z
  | false => exact hf K S R HM ro I' z

/-- an exception leaves a loop's body -/
theorem s_noted (K : FmOk P F) (ro : F.ro = false) {X : XS} {EV : Value} (z : PostSX P F X EV s) : notedBy P.M F.A F.env (fun e s' => cameBackBy P.M F.A F.env (PostSX P F X) e s') EV s := by
  obtain ⟨l', H', e, C, rfl, I, x, z⟩ := z
  exact s_note K I ro x fun s' I' x' => s_cameBack I' x' fun s'' I'' x'' => ⟨l', H', e, C, rfl, I'', x''.weak, z⟩

theorem s1_while {sc : Scope} {c : Expr} {c' : Ex} {b : List Stmt} {b' : List Sm} {pos : Pos} (hc : ST P G n hm sc c c') (hb : SS P G n hm sc b b') : S1 P G n hm sc (.While c b [] pos) (.while_ c' b') := by
  intro F l K S R HM ro H s Q X I q
  conv at q => whnf
  obtain ⟨m, q⟩ := q
  refine wpAny_While (codeAny_whileLoop (fun k s => ∃ l H, Inv P F l H s ∧ whileN (fun l' H' K => wpE G hm c' l' H' (fun v H1 => truthV v fun b => K b H1) (fun C H' => X C l' H')) (fun l' H' K => wpSs G hm b' l' H' K X) Q k l H) ?_ m ⟨l, H, I, q⟩)
  rintro k s ⟨l, H, I, q⟩
  cases k with
  | zero => exact q.elim
  | succ k =>
    unfold whileN at q
    refine wpAny_mono (hc K S R HM I q) (fun b s' z => ?_) fun _ _ z => s_noted K ro (PostX.toS z)
    obtain ⟨H', I', z⟩ := z
    cases b with
    | false =>
      simp only [Bool.false_eq_true, if_false] at z ⊢
      exact wpAny_execs_nil ⟨l, H', I', z⟩
    | true =>
      simp only [if_true] at z ⊢
      refine wpAny_mono (hb K S R HM ro I' z) (fun f s' z => ?_) fun _ _ z => s_noted K ro z
      obtain ⟨l2, H2, I2, z⟩ := z
      cases f with
      | next => exact ⟨k, Nat.lt_succ_self _, l2, H2, I2, z⟩
      | cont => exact ⟨k, Nat.lt_succ_self _, l2, H2, I2, z⟩
      | brk => exact z.elim
      | ret v => exact ⟨l2, H2, I2, z⟩

noncomputable def notSet : Expr → Bool
  | .Set .. => false
  | _ => true
theorem folded_no {e : Expr} {env : Env} {x : Value} (h : notSet e = true) : foldedSetIterable e env x = pure x := by
  cases e <;> first | rfl | cases h

/-- off our things, with an object that stays -/
theorem Inv.turn (K : FmOk P F) (I : Inv P F l H s) {J : Addr} (of : Off F H J) {h' : Heap} {t : Nat} (k : ∀ b o, b ≠ J → s.heap.get? b = some o → h'.get? b = some o) : Inv P F l H { s with heap := h', toks := t } :=
  I.step fun b o e hn => k b o (fun q => hn (q ▸ of)) e

theorem s1_for {sc : Scope} {x : Str} {px pos : Pos} {it : Expr} {it' : Ex} {b : List Stmt} {b' : List Sm} (hx : isSt sc x = true) (hset : notSet it = true) (hi : SE P G n hm sc it it') (hb : SS P G n hm sc b b') :
    S1 P G n hm sc (.For (.Name x px) it b [] pos) (.for_ x it' b') := by
  intro F l K S R HM ro H s Q X I q
  conv at q => whnf
  refine wpAny_For (wpAny_mono (hi K S R HM I q) (fun V s1 q => ?_) fun _ _ z => PostX.toS z) (fun _ => folded_no hset)
  obtain ⟨H1, I1, hf, q⟩ := q
  refine wpAny_mono (s_iter K I1 q) (fun it s2 q => ?_) fun _ _ z => z
  obtain ⟨guard, items, J, St, q, rfl, I2, of, bz, st, T⟩ := q
  have T := T F.A (HM hf)
  refine codeAny_forLoop (fun k s => ∃ i l H, Inv P F l H s ∧ Off F H J ∧ St i s.heap ∧ i ≤ items.length ∧ k = items.length - i + 1 ∧ forG guard x (fun l' H' K => wpSs G hm b' l' H' K X) (items.drop i) l H Q) ?_ (items.length + 1) ⟨0, l, H1, I2, of, st, Nat.zero_le _, rfl, q⟩
  rintro k s ⟨i, l, H, I, of, st, hle, hk, q⟩
  rcases Nat.lt_or_ge i items.length with hi | hi
  · obtain ⟨v, hv⟩ : ∃ v, items[i]? = some v := ⟨_, List.getElem?_eq_getElem hi⟩
    have hd : items.drop i = v :: items.drop (i + 1) := by
      rw [List.drop_eq_getElem_cons hi]
      have := List.getElem?_eq_getElem hi
      rw [hv] at this; cases this; rfl
    rw [hd] at q
    unfold forG at q
    obtain ⟨g, q⟩ := q
    refine T.item i s _ _ H I.objs of.h g st v hv fun V h' tk hV st' k' => ?_
    have I' := I.turn (t := tk) K of k'
    obtain ⟨o, ho⟩ := T.at_ _ _ st'
    dsimp only
    have KA := K.also (o := o) of
    have SA : ScOk sc (F.also J o) := ⟨S.loc, S.glob, S.locl, S.cell⟩
    refine wpAny_assign_Name (st_loc KA (I'.also of ho) ro (st_of SA hx) fun s3 I3 => ?_)
    rw [hV] at I3
    refine wpAny_mono (hb KA SA R HM ro I3 q) (fun f s4 z => ?_) fun EV s4 z => ?_
    · obtain ⟨l4, H4, I4, z⟩ := z
      obtain ⟨I5, ho5, of5⟩ := I4.back K of
      have st5 : St (i + 1) s4.heap := T.frame _ _ _ st' fun o' e => by rw [ho] at e; cases e; exact ho5
      have nx : forG guard x (fun l' H' K => wpSs G hm b' l' H' K X) (items.drop (i + 1)) l4 H4 Q → ∃ m, m < k ∧ ∃ i l H, Inv P F l H s4 ∧ Off F H J ∧ St i s4.heap ∧ i ≤ items.length ∧ m = items.length - i + 1 ∧ forG guard x (fun l' H' K => wpSs G hm b' l' H' K X) (items.drop i) l H Q :=
        fun q => ⟨items.length - (i + 1) + 1, by omega, i + 1, l4, H4, I5, of5, st5, hi, rfl, q⟩
      cases f with
      | next => exact nx z
      | cont => exact nx z
      | brk => exact z.elim
      | ret v => exact ⟨l4, H4, I5, z⟩
    · obtain ⟨l', H', e, C, rfl, I4, x4, z⟩ := z
      exact s_noted K ro ⟨l', H', e, C, rfl, (I4.back K of).1, x4.back, z⟩
  · have : i = items.length := Nat.le_antisymm hle hi
    subst this
    rw [List.drop_length] at q
    unfold forG at q
    refine T.done s _ _ H I.objs of.h q.1 st fun h' tk k' => wpAny_execs_nil ⟨l, H, I.turn K of k', q.2⟩
end
end Mine
end

section
open PySem PyProof.Rows PySem.Calls
open PySem.W (Looks looks_subIn looks_typeIn looks_mroIn)
namespace Mine

section
variable {P : Pm} {F : Fm} {G : Gx} {n : Nat} {hm : Bool} {l : Loc} {H : Hp} {s : Shared}

theorem s1_raise (Y : PmOk P) (GO : GxOk P G) {sc : Scope} {x m : Str} {np cpos pos mp : Pos} {kk : Nat} (hl : isLoc sc x = some false) : S1 P G n hm sc (.Raise (some (.Call (.Name x np) [.Constant (.str m) kk mp] [] cpos)) none pos) (.raise x) := by
  intro F l K S R HM ro H s Q X I q
  conv at q => whnf
  obtain ⟨hmf, q⟩ := q
  split at q
  · rename_i C hC
    obtain ⟨he, q⟩ := q
    obtain ⟨V, hV, hg⟩ := GO.glob x _ hC
    have := er_ref hV; subst this
    obtain ⟨bm, N, nm, qn, bs, hdct, sn, sub, ab, col, dd, k0, k1, k2, k3, k5, mN, c1, c2, c3, c4⟩ := GO.own C he
    have FB := PySem.F.excBase_ValueError
    refine wpAny_Raise_call_subT (C := C) (nm := nm) (q := qn) (N := N) (bs := bs) (bm := bm) (hdct := hdct) (sn := sn) (sub := sub) (ab := ab) (col := col) (dd := dd) (k0 := k0) (k1 := k1) (k2 := k2) (k3 := k3) (k5 := k5)
      FB (mN := mN) (c4.hasType FB.hasBase) (HM hmf) (backTo_plain rfl) c3 (ld_glob Y K I hg (S.glob x hl) (isLoc_false hl) ⟨rfl, ?_⟩)
    refine evalArgs_any rfl (spliced_cons (wpAny_Constant_str (k := kk) (pos := mp) (spliced_nil ?_)))
    have k : ∀ b o, P.base.get? b = some o → s.heap.get? b = some o := fun b o e => I.keep b o (K.base b o e)
    refine ⟨rfl, by simp [sizeLine], k _ _ c1, c2.keeps k, c4.keeps k, fun h' e M => ?_⟩
    obtain ⟨t, m1, m2, m3⟩ := M.there
    refine ⟨l, H, e, C, rfl, I.step (t := s.toks + 1) fun b o hb _ => M.keeps b o hb, ⟨trivial, I.off K M.new, none, ⟨_, _, m1, rfl, rfl, rfl, rfl⟩, fun t q => (nomatch q), fun q => (nomatch q)⟩, q⟩
  · exact q.elim

/-! ## try -/
/-- the handlers, as they stand -/
inductive SH (P : Pm) (G : Gx) (n : Nat) (sc : Scope) : List ExceptHandler → List Hd → Prop where
  | nil : SH P G n sc [] []
  | plain {x : Str} {xp pos : Pos} {b₀ : Stmt} {body : List Stmt} {body' : List Sm} {r : List ExceptHandler} {r' : List Hd} : isLoc sc x = some false → SS P G n true sc (b₀ :: body) body' → SH P G n sc r r' →
      SH P G n sc (.ExceptHandler (some (.Name x xp)) none (b₀ :: body) pos :: r) (.mk x none body' :: r')
  | as {x y : Str} {xp pos : Pos} {b₀ : Stmt} {body : List Stmt} {body' : List Sm} {r : List ExceptHandler} {r' : List Hd} : isLoc sc x = some false → sc.names.lookup y = some .local → SS P G n true sc (b₀ :: body) body' → SH P G n sc r r' →
      SH P G n sc (.ExceptHandler (some (.Name x xp)) (some y) (b₀ :: body) pos :: r) (.mk x (some y) body' :: r')

end
end Mine
end

section
open PySem PyProof.Rows PySem.Calls
namespace Mine

/-! ## a call of a def of one's own -/
noncomputable def isCell (F : Fm) (b : Addr) : Bool := F.env.cells.any fun x => x.2 == b
theorem isCell_mem {F : Fm} {x : Str} {c : Addr} (h : (x, c) ∈ F.env.cells) : isCell F c = true := by
  unfold isCell
  exact List.any_eq_true.mpr ⟨_, h, by simp⟩
theorem mem_isCell {F : Fm} {c : Addr} (h : isCell F c = true) : ∃ x, (x, c) ∈ F.env.cells := by
  unfold isCell at h
  obtain ⟨⟨x, c'⟩, hm, e⟩ := List.any_eq_true.mp h
  have : c' = c := by simpa using e
  subst this; exact ⟨x, hm⟩

/-- the frame of a call -/
noncomputable def Fm.call (F : Fm) (h : Heap) (env : Env) : Fm where
  env := env
  A := F.A.deeper env
  g := fun b => if isCell F b then h.get? b else F.g b
  fr := fun b => if b = F.env.locals then (h.get? b).map (·.data) else F.fr b
  ro := false

noncomputable def scFine (sc : Scope) (params : List Str) : Bool :=
  sc.kind == .function && !sc.isCoroutine && !sc.isGenerator && (sc.names.map (·.1)).Nodup && sc.names.all (fun x => x.2 != .free) && params.all (fun x => sc.names.lookup x == some .local || sc.names.lookup x == some .cell) && params.Nodup

structure FnAt (P : Pm) (f : Addr) (params : List Str) (sc : Scope) (body : List Stmt) : Prop where
  at_ : ∃ o fd, P.base.get? f = some o ∧ o.data = .func fd ∧ P.base.CodeRec fd.code fd.qualname ∧ fd.body = .stmts body ∧ fd.scope = sc ∧ fd.closure = [] ∧ fd.globals = mainGlobals ∧ fd.builtins = builtinsNs ∧
    ∀ vals, vals.length = params.length → bindArgs fd ⟨vals, []⟩ = pure (params.zip vals)
  fine : scFine sc params = true
  keep : PySem.W.keepIn P.K (.ref f) = true

/-! the cells -/
theorem cells_lookup_acc {x : Str} : ∀ (names : List (Str × NameKind)) (k : Nat) (acc : List (Str × Addr)), (∃ c, acc.lookup x = some c) → ∃ c, (cellsFrom k names acc).lookup x = some c
  | [], k, acc, h => h
  | (y, kind) :: r, k, acc, h => by
    unfold cellsFrom
    split
    · refine cells_lookup_acc r _ _ ?_
      rw [List.lookup_cons]
      split
      · exact ⟨_, rfl⟩
      · exact h
    · exact cells_lookup_acc r _ _ h
theorem cells_lookup {x : Str} : ∀ (names : List (Str × NameKind)) (k : Nat) (acc : List (Str × Addr)), names.lookup x = some .cell → ∃ c, (cellsFrom k names acc).lookup x = some c
  | [], k, acc, h => by cases h
  | (y, kind) :: r, k, acc, h => by
    rw [List.lookup_cons] at h
    unfold cellsFrom
    split at h
    · rename_i e
      cases h
      rw [if_pos (by decide)]
      refine cells_lookup_acc r _ _ ⟨k, ?_⟩
      rw [List.lookup_cons, e]
    · split
      · exact cells_lookup r _ _ h
      · exact cells_lookup r _ _ h

theorem cells_names : ∀ (names : List (Str × NameKind)) (k : Nat) (acc : List (Str × Addr)), (names.map (·.1)).Nodup → (acc.map (·.1)).Nodup → (∀ x ∈ names.map (·.1), x ∉ acc.map (·.1)) → ((cellsFrom k names acc).map (·.1)).Nodup
  | [], k, acc, _, h, _ => h
  | (y, kind) :: r, k, acc, hn, h, hd => by
    rw [List.map_cons, List.nodup_cons] at hn
    unfold cellsFrom
    split
    · refine cells_names r _ _ hn.2 ?_ ?_
      · rw [List.map_cons, List.nodup_cons]
        exact ⟨hd y (by simp), h⟩
      · intro x hx hm
        rw [List.map_cons, List.mem_cons] at hm
        rcases hm with rfl | hm
        · exact hn.1 hx
        · exact hd x (by rw [List.map_cons]; exact .tail _ hx) hm
    · exact cells_names r _ _ hn.2 h fun x hx => hd x (by rw [List.map_cons]; exact .tail _ hx)
theorem lookup_of_mem {α : Type} {x : Str} {c : α} : ∀ {l : List (Str × α)}, (l.map (·.1)).Nodup → (x, c) ∈ l → l.lookup x = some c
  | (y, d) :: r, hn, hm => by
    rw [List.map_cons, List.nodup_cons] at hn
    rw [List.lookup_cons]
    rcases List.mem_cons.mp hm with q | q
    · cases q; simp
    · have : (x == y) = false := by
        apply beq_eq_false_iff_ne.mpr
        intro e
        exact hn.1 (List.mem_map.mpr ⟨(x, c), q, e⟩)
      rw [this]
      exact lookup_of_mem hn.2 q

/-! what is bound -/
theorem bindL_get {k : Str → Option NameKind} {x : Str} (hk : k x = some .local) : ∀ (ps : List Str) (vs : List Value) (m : Str → Option Value), ps.Nodup → ∀ v, ((ps.zip (vs.map er)).lookup x = some v → ∃ V, bindL k (ps.zip vs) m x = some V ∧ er V = v) ∧ ((ps.zip vs).lookup x = none → bindL k (ps.zip vs) m x = m x)
  | [], vs, m, _, v => ⟨fun h => by simp at h, fun _ => rfl⟩
  | p :: ps, [], m, _, v => ⟨fun h => by simp at h, fun _ => rfl⟩
  | p :: ps, V :: vs, m, hn, v => by
    rw [List.nodup_cons] at hn
    obtain ⟨h1, h2⟩ := bindL_get hk ps vs (if k p = some .local then fun y => if y = p then some V else m y else m) hn.2 v
    constructor
    · intro h
      rw [List.map_cons, List.zip_cons_cons, List.lookup_cons] at h
      show ∃ W, bindL k (ps.zip vs) (if k p = some .local then fun y => if y = p then some V else m y else m) x = some W ∧ _
      split at h
      · rename_i e
        have : x = p := by simpa using e
        subst this
        cases h
        have no : (ps.zip vs).lookup x = none := by
          apply List.lookup_eq_none_iff.mpr
          intro q hq
          have := (List.of_mem_zip hq).1
          refine bne_iff_ne.mpr ?_
          rintro rfl
          exact hn.1 this
        have := (bindL_get hk ps vs (if k x = some .local then fun y => if y = x then some V else m y else m) hn.2 (er V)).2 no
        rw [this, if_pos hk]
        exact ⟨V, by simp, rfl⟩
      · exact h1 h
    · intro h
      rw [List.zip_cons_cons, List.lookup_cons] at h
      show bindL k (ps.zip vs) (if k p = some .local then fun y => if y = p then some V else m y else m) x = m x
      split at h
      · cases h
      · rename_i e
        rw [h2 h]
        have : x ≠ p := by simpa using e
        split
        · simp [this]
        · rfl
theorem bindC_get {k : Str → Option NameKind} {x : Str} (hk : k x ≠ some .local) : ∀ (ps : List Str) (vs : List Value) (m : Str → Option Value), ps.Nodup → ∀ v, ((ps.zip (vs.map er)).lookup x = some v → ∃ V, bindC k (ps.zip vs) m x = some V ∧ er V = v) ∧ ((ps.zip vs).lookup x = none → bindC k (ps.zip vs) m x = m x)
  | [], vs, m, _, v => ⟨fun h => by simp at h, fun _ => rfl⟩
  | p :: ps, [], m, _, v => ⟨fun h => by simp at h, fun _ => rfl⟩
  | p :: ps, V :: vs, m, hn, v => by
    rw [List.nodup_cons] at hn
    obtain ⟨h1, h2⟩ := bindC_get hk ps vs (if k p = some .local then m else fun y => if y = p then some V else m y) hn.2 v
    constructor
    · intro h
      rw [List.map_cons, List.zip_cons_cons, List.lookup_cons] at h
      show ∃ W, bindC k (ps.zip vs) (if k p = some .local then m else fun y => if y = p then some V else m y) x = some W ∧ _
      split at h
      · rename_i e
        have : x = p := by simpa using e
        subst this
        cases h
        have no : (ps.zip vs).lookup x = none := by
          apply List.lookup_eq_none_iff.mpr
          intro q hq
          have := (List.of_mem_zip hq).1
          refine bne_iff_ne.mpr ?_
          rintro rfl
          exact hn.1 this
        have := (bindC_get hk ps vs (if k x = some .local then m else fun y => if y = x then some V else m y) hn.2 (er V)).2 no
        rw [this, if_neg hk]
        exact ⟨V, by simp, rfl⟩
      · exact h1 h
    · intro h
      rw [List.zip_cons_cons, List.lookup_cons] at h
      show bindC k (ps.zip vs) (if k p = some .local then m else fun y => if y = p then some V else m y) x = m x
      split at h
      · cases h
      · rename_i e
        rw [h2 h]
        have : x ≠ p := by simpa using e
        split
        · rfl
        · simp [this]

section
variable {P : Pm} {F : Fm} {G : Gx} {n : Nat} {hm : Bool} {l : Loc} {H : Hp} {s : Shared}

theorem call_frame (K : FmOk P F) (I : Inv P F l H s) {env : Env} (hk : env.scope.kind = .function) (hg : env.globals = mainGlobals) (hb : env.builtins = builtinsNs) (hL : env.locals = s.heap.objs.size) (hf : env.frame = some env.locals)
    (ab : ∀ x c, (x, c) ∈ env.cells → env.locals < c) (ap : env.cells.Pairwise fun x y => x.2 ≠ y.2) (cn : ∀ x c, (x, c) ∈ env.cells → env.cells.lookup x = some c) : FmOk P (F.call s.heap env) := by
  have nn : ∀ b, s.heap.objs.size ≤ b → s.heap.get? b = none := fun b hb => Heap.get?_none_of_le hb
  have g0 : ∀ b, s.heap.objs.size ≤ b → (F.call s.heap env).g b = none := fun b hb => by
    show (if isCell F b then s.heap.get? b else F.g b) = none
    split
    · exact nn b hb
    · exact (I.off K (nn b hb)).g
  have f0 : ∀ b, s.heap.objs.size ≤ b → (F.call s.heap env).fr b = none := fun b hb => by
    show (if b = F.env.locals then (s.heap.get? b).map (·.data) else F.fr b) = none
    rw [if_neg (I.off K (nn b hb)).l]
    exact (I.off K (nn b hb)).fr
  refine ⟨hk, hg, hb, fun b o e => ?_, ?_, ?_, ?_, fun x c hm => Nat.ne_of_gt (ab x c hm), fun _ x c hm => ⟨g0 c ?_, f0 c ?_⟩, ap, cn, fun x c hm => f0 c ?_, fun b d e => ?_, ?_⟩
  · show (if isCell F b then s.heap.get? b else F.g b) = some o
    split
    · exact I.keep b o (K.base b o e)
    · exact K.base b o e
  · show P.base.objs.size ≤ env.locals
    rw [hL]; exact I.base_le K
  · exact g0 _ (by show s.heap.objs.size ≤ env.locals; rw [hL]; exact Nat.le_refl _)
  · exact f0 _ (by show s.heap.objs.size ≤ env.locals; rw [hL]; exact Nat.le_refl _)
  · have := ab x c hm; rw [hL] at this; exact Nat.le_of_lt this
  · have := ab x c hm; rw [hL] at this; exact Nat.le_of_lt this
  · have := ab x c hm; rw [hL] at this; exact Nat.le_of_lt this
  · have e : (if b = F.env.locals then (s.heap.get? b).map (·.data) else F.fr b) = some d := e
    show (if isCell F b then s.heap.get? b else F.g b) = none ∧ _
    by_cases q : b = F.env.locals
    · rw [if_pos q] at e
      subst q
      constructor
      · split
        · rename_i hc
          obtain ⟨x, hm⟩ := mem_isCell hc
          exact absurd rfl (K.cl x _ hm)
        · exact K.lg
      · obtain ⟨m, ⟨o, es, ep, ho, hd, _⟩, _⟩ := I.loc
        rw [ho] at e
        cases e
        intro vs q
        have q : o.data = .fields vs := q
        rw [hd] at q; cases q
    · rw [if_neg q] at e
      obtain ⟨h1, h2⟩ := K.fg b d e
      refine ⟨?_, h2⟩
      split
      · rename_i hc
        obtain ⟨x, hm⟩ := mem_isCell hc
        rw [K.cf x b hm] at e; cases e
      · exact h1
  · obtain ⟨fenv, outer, h1, h2, h3⟩ := K.frames
    refine ⟨env, fenv :: outer, ?_, fun _ => ⟨rfl, hf⟩, fun e he => ?_⟩
    · show F.A.frames.map (env :: ·) = _
      rw [h1]; rfl
    · rcases List.mem_cons.mp he with rfl | he
      · exact ⟨by rw [hk]; decide, _, hf, .inl rfl⟩
      · obtain ⟨k1, b, k2, k3⟩ := h3 e he
        refine ⟨k1, b, k2, .inr ?_⟩
        show ((if b = F.env.locals then (s.heap.get? b).map (·.data) else F.fr b)).isSome = true
        obtain ⟨m, ⟨o, es, ep, ho, hd, _⟩, _⟩ := I.loc
        rcases k3 with rfl | k3
        · rw [if_pos rfl, ho]; rfl
        · split
          · rename_i q; rw [q, ho]; rfl
          · exact k3

theorem Off.up (K : FmOk P F) {l0 : Loc} {H0 : Hp} (I : Inv P F l0 H0 s) {env : Env} {H' : Hp} {a : Addr} (x : Off (F.call s.heap env) H' a) : Off F H' a := by
  have gx : (if isCell F a then s.heap.get? a else F.g a) = none := x.g
  have fx : (if a = F.env.locals then (s.heap.get? a).map (·.data) else F.fr a) = none := x.fr
  have c0 : ∀ y c, (y, c) ∈ F.env.cells → a ≠ c := by
    rintro y c hm rfl
    rw [if_pos (isCell_mem hm)] at gx
    obtain ⟨vo, ⟨o, ho, _⟩, _⟩ := I.cel y a (K.cn y a hm)
    rw [ho] at gx; cases gx
  have l0 : a ≠ F.env.locals := by
    rintro rfl
    obtain ⟨m, ⟨o, es, ep, ho, hd, _⟩, _⟩ := I.loc
    rw [if_pos rfl, ho] at fx; cases fx
  refine ⟨x.h, ?_, ?_, l0, c0⟩
  · split at gx
    · rename_i hc
      obtain ⟨y, hm⟩ := mem_isCell hc
      exact absurd rfl (c0 y a hm)
    · exact gx
  · rw [if_neg l0] at fx; exact fx

theorem Exc.up (K : FmOk P F) {l0 : Loc} {H0 : Hp} (I : Inv P F l0 H0 s) {env : Env} {H' : Hp} {s' : Shared} {e C : Addr} {b : Bool} (x : Exc P (F.call s.heap env) H' s' e C b) : Exc P F H' s' e C b :=
  ⟨x.big, x.off.up K I, let ⟨T, h1, h2, h3⟩ := x.at_; ⟨T, h1, fun t ht => (h2 t ht).up K I, h3⟩⟩

theorem Inv.up (K : FmOk P F) (I : Inv P F l H s) {env : Env} {l' : Loc} {H' : Hp} {s' : Shared} (I' : Inv P (F.call s.heap env) l' H' s') : Inv P F l H' s' := by
  have gc : ∀ y c, (y, c) ∈ F.env.cells → s'.heap.get? c = s.heap.get? c := fun y c hm => by
    obtain ⟨vo, ⟨o, ho, _⟩, _⟩ := I.cel y c (K.cn y c hm)
    rw [ho]
    refine I'.keep c o ?_
    show (if isCell F c then s.heap.get? c else F.g c) = some o
    rw [if_pos (isCell_mem hm)]; exact ho
  refine ⟨I'.gens, I'.os, fun b o e => I'.keep b o ?_, fun b d e => I'.frk b d ?_, ?_, fun x c e => ?_, I'.objs, fun a o e => ?_, I'.big⟩
  · show (if isCell F b then s.heap.get? b else F.g b) = some o
    split
    · exact I.keep b o e
    · exact e
  · show (if b = F.env.locals then (s.heap.get? b).map (·.data) else F.fr b) = some d
    rw [if_neg (fun q => by rw [q, K.lf] at e; cases e)]; exact e
  · obtain ⟨m, ⟨o, es, ep, ho, hd, r⟩, q⟩ := I.loc
    obtain ⟨o', ho', hd'⟩ := I'.frk F.env.locals o.data (by show (if F.env.locals = F.env.locals then (s.heap.get? F.env.locals).map (·.data) else F.fr F.env.locals) = _; rw [if_pos rfl, ho]; rfl)
    exact ⟨m, ⟨o', es, ep, ho', hd'.trans hd, r⟩, q⟩
  · obtain ⟨vo, ⟨o, ho, r⟩, q⟩ := I.cel x c e
    exact ⟨vo, ⟨o, (gc x c (mem_of_lookup e)).trans ho, r⟩, q⟩
  · cases hr : o.isR with
    | true => exact fre_r hr (r_fre (I'.free a o e) hr)
    | false =>
    obtain ⟨h1, h2, h3, h4⟩ := of_fre (I'.free a o e) hr
    refine fre_of hr ?_
    have := Off.up K I (env := env) (H' := fun _ => none) (a := a) ⟨rfl, h1, h2, h3, h4⟩
    exact ⟨this.g, this.fr, this.l, this.c⟩

theorem call_inv (K : FmOk P F) (I : Inv P F l H s) {env : Env} {ps : List Str} {vs : List Value} {s₁ : Shared} (hL : env.locals = s.heap.objs.size) (nd : ps.Nodup)
    (x : InCallC s env.locals (bindL env.kindOf (ps.zip vs) fun _ => none) env.cells (bindC env.kindOf (ps.zip vs) fun _ => none) s₁) : Inv P (F.call s.heap env) (fun y => (ps.zip (vs.map er)).lookup y) H s₁ := by
  obtain ⟨⟨⟨h, tk, rfl⟩, ns, keep, fresh⟩, cell, apart, above⟩ := x
  have up : ∀ a o, H a = some o → a < env.locals := fun a o e => by rw [hL]; exact I.lt_of e
  refine ⟨I.gens, I.os, fun b o e => ?_, fun b d e => ?_, ⟨_, ns, fun y v hy hk => ((bindL_get hk ps vs _ nd v).1 hy)⟩, fun y c e => ⟨_, cell y c e, fun v hy hk => ((bindC_get (fun q => ?_) ps vs _ nd v).1 hy)⟩, fun a o e => ?_, fun a o e => ?_, I.big⟩
  · have e : (if isCell F b then s.heap.get? b else F.g b) = some o := e
    split at e
    · exact keep b o e
    · exact keep b o (I.keep b o e)
  · have e : (if b = F.env.locals then (s.heap.get? b).map (·.data) else F.fr b) = some d := e
    split at e
    · obtain ⟨o, ho, hd⟩ := Option.map_eq_some_iff.mp e
      exact ⟨o, keep b o ho, hd⟩
    · obtain ⟨o, ho, hd⟩ := I.frk b d e
      exact ⟨o, keep b o ho, hd⟩
  · have hk : env.kindOf y = some .cell ∨ env.kindOf y = some .free := hk
    rw [q] at hk; simp at hk
  · obtain ⟨O, ho⟩ := (I.objs a o e).some
    exact (I.objs a o e).congr ((keep a O ho).trans ho.symm)
  · cases hr : o.isR with
    | true => exact fre_r hr (r_fre (I.free a o e) hr)
    | false =>
    obtain ⟨h1, h2, h3, h4⟩ := of_fre (I.free a o e) hr
    refine fre_of hr ⟨?_, ?_, Nat.ne_of_lt (up a o e), fun y c hm => Nat.ne_of_lt (Nat.lt_trans (up a o e) (above y c hm))⟩
    · show (if isCell F a then s.heap.get? a else F.g a) = none
      rw [if_neg (fun q => by obtain ⟨y, hm⟩ := mem_isCell q; exact h4 y a hm rfl)]; exact h1
    · show (if a = F.env.locals then (s.heap.get? a).map (·.data) else F.fr a) = none
      rw [if_neg h3]; exact h2

/-- a def's call, by the text of its body -/
theorem call_def (Y : PmOk P) {f : Addr} {ps : List Str} {sc : Scope} {body : List Stmt} {body' : List Sm} (D : FnAt P f ps sc body) (hb : SS P G n hm sc body body') {args : List Value} {Q : QV} {X : XV} (q : wpF G hm ps body' args H Q X)
    (K : FmOk P F) (R : RoomC (n + 1) F.A) (HM : HmOk hm F.A) (I : Inv P F l H s) {vals : List Value} (hv : vals.map er = args) : codeAny P.M F.A (.call (.ref f) ⟨vals, []⟩) (PostC P F l Q X) s := by
  subst hv
  obtain ⟨hlen, q⟩ := q
  obtain ⟨o, fd, d1, d2, d3, d4, d5, d6, d7, d8, d9⟩ := D.at_
  have fine := D.fine
  unfold scFine at fine
  simp only [Bool.and_eq_true, beq_iff_eq, Bool.not_eq_true', decide_eq_true_eq, List.all_eq_true, Bool.or_eq_true, bne_iff_ne, ne_eq] at fine
  obtain ⟨⟨⟨⟨⟨⟨f1, f2⟩, f3⟩, f4⟩, f5⟩, f6⟩, f7⟩ := fine
  have k : ∀ b o, P.base.get? b = some o → s.heap.get? b = some o := fun b o e => I.keep b o (K.base b o e)
  have kd : ∀ x, (callEnvC fd s.heap.objs.size f).kindOf x = sc.names.lookup x := fun x => by show fd.scope.names.lookup x = _; rw [d5]
  have cl : ∀ x, sc.names.lookup x = some .cell → ∃ c, (callEnvC fd s.heap.objs.size f).cells.lookup x = some c := fun x hx => by
    show ∃ c, (cellsFrom _ fd.scope.names []).lookup x = some c
    rw [d5]; exact cells_lookup _ _ _ hx
  have nf : ∀ x, sc.names.lookup x ≠ some .free := fun x hx => f5 _ (mem_of_lookup hx) rfl
  refine codeAny_call_cells (binds := ps.zip vals) (by have := R.1; omega) (k _ _ d1) d2 (Y.lim.keeps k) (d3.keeps k) d4 (d9 vals (by simpa using hlen.symm)) d6 (fun x hx => ?_) (fun s₁ x => ?_) (by rw [d5]; exact f2) (by rw [d5]; exact f3) (by rw [d5]; exact f1)
  · have := f6 x.1 (List.of_mem_zip (a := x.1) (b := x.2) hx).1
    rw [d5]
    rcases this with h | h
    · exact .inl h
    · obtain ⟨c, hc⟩ := cells_lookup (x := x.1) sc.names (s.heap.objs.size + 1) [] h
      exact .inr ⟨h, by rw [hc]; rfl⟩
  · have K' : FmOk P (F.call s.heap (callEnvC fd s.heap.objs.size f)) := call_frame K I (by show fd.scope.kind = _; rw [d5]; exact f1) d7 d8 rfl rfl x.above x.apart fun y c hm => lookup_of_mem (cells_names _ _ _ (by rw [d5]; exact f4) .nil (by simp)) hm
    have I' := call_inv K I (env := callEnvC fd s.heap.objs.size f) rfl f7 x
    have S' : ScOk sc (F.call s.heap (callEnvC fd s.heap.objs.size f)) := by
      refine ⟨fun y hy => ?_, fun y hy => ?_, fun y hy => (kd y).trans hy, fun y hy => ⟨(kd y).trans hy, cl y hy⟩⟩
      · unfold isLoc at hy
        split at hy
        · rename_i e; exact .inl ((kd y).trans e)
        · rename_i e; exact .inr ⟨.inl ((kd y).trans e), cl y e⟩
        · rename_i e; exact absurd e (nf y)
        · split at hy <;> cases hy
        · cases hy
      · unfold isLoc at hy
        split at hy
        · split at hy <;> cases hy
        · split at hy <;> cases hy
        · split at hy <;> cases hy
        · rename_i e; exact (kd y).trans e
        · cases hy
    refine wpAny_mono (hb K' S' ⟨?_, ?_⟩ HM rfl I' q) (fun fl s' z => ?_) fun EV s' z => ?_
    · show F.A.depth + 1 + 2 * n + 2 < _
      have := R.1; omega
    · show F.A.units + 3 + 30 * n + 200 < _
      have := R.2; omega
    · obtain ⟨l2, H2, I2, z⟩ := z
      have I3 := Inv.up K I I2
      cases fl with
      | next => exact ⟨H2, I3, z⟩
      | brk => exact z.elim
      | cont => exact z.elim
      | ret v => exact ⟨H2, I3, z⟩
    · obtain ⟨l2, H2, e, C, rfl, I2, x2, z⟩ := z
      exact s_leaving K' I2 rfl x2 fun s3 I3 x3 => ⟨H2, e, C, rfl, Inv.up K I I3, (Exc.up K I x3).weak, z⟩
end
end Mine
end

section
open PySem PyProof.Rows PySem.Calls
namespace Mine

/-! ## the built-in functions -/
section
variable {P : Pm} {F : Fm} {G : Gx} {n : Nat} {hm : Bool} {l : Loc} {H : Hp} {s : Shared} {E : Value → Shared → Prop} {Q : QV}

/-- what is kept stays ours -/
theorem Inv.kept (I : Inv P F l H s) {h' : Heap} {t : Nat} (k : ∀ b o, s.heap.get? b = some o → h'.get? b = some o) : Inv P F l H { s with heap := h', toks := t } := I.step fun b o e _ => k b o e

theorem s_list_new (K : FmOk P F) (I : Inv P F l H s) {h' : Heap} {t : Nat} {vs : Array Value} {D : Addr} (hD : s.heap.get? D = none) (hz : P.base.objs.size ≤ D) (k : ∀ b o, s.heap.get? b = some o → h'.get? b = some o) (e : IsL h' D vs) (hs : vs.size ≤ 2 ^ 25) (q : newV (.list (vs.toList.map er)) H Q) :
    PostE P F l Q (.ref D) { s with heap := h', toks := t } :=
  ⟨_, I.more K hD (bigs_of hz) k (mt_list e hs), q D (I.off K hD).h⟩

theorem szl {n : Nat} (h : n ≤ sizeLine) : n ≤ 2 ^ 25 := by simp only [sizeLine] at h; omega

theorem s_copy (K : FmOk P F) (I : Inv P F l H s) {T : String} {a : Addr} {vs : Array Value} (hT : T = "list" ∨ T = "tuple") {o : Obj} {n : Nat} (ho : s.heap.get? a = some o) (hc : o.cls = .type T) (hd : o.data = .seq vs n) (hz : vs.size ≤ sizeLine) (q : newV (.list (vs.toList.map er)) H Q) :
    wpAny P.M F.A (call (.type "list") [.ref a]) (PostE P F l Q) E s :=
  call_list_seq (hsz := hz) a hT ho hc hd fun h' c' hk hD => s_list_new K I (t := s.toks) (Heap.get?_none_of_le (Nat.le_refl _)) (I.base_le K) hk ⟨c', hD⟩ (szl hz) q

theorem s_range (K : FmOk P F) (I : Inv P F l H s) {Vs : List Value} (h : rangeV (Vs.map er) H Q) : wpAny P.M F.A (call (.type "range") Vs) (PostE P F l Q) E s := by
  unfold rangeV at h
  split at h
  · rename_i hi _ e
    obtain ⟨t, rfl⟩ : ∃ t, Vs = [.int hi t] := by
      cases Vs with
      | nil => cases e
      | cons W r => cases r with
        | nil => simp at e; obtain ⟨t, rfl⟩ := er_int e; exact ⟨t, rfl⟩
        | cons _ _ => simp at e
    exact call_range_1 ⟨_, I.alloc K (o := .range 0 hi 1) (t := s.toks + 1 + 1) ⟨_, _, _, IsRange.new ..⟩, h.2.2 _ I.fresh⟩
  · rename_i lo _ hi _ e
    obtain ⟨t, u, rfl⟩ : ∃ t u, Vs = [.int lo t, .int hi u] := by
      cases Vs with
      | nil => cases e
      | cons W r => cases r with
        | nil => simp at e
        | cons W2 r => cases r with
          | nil => simp at e; obtain ⟨t, rfl⟩ := er_int e.1; obtain ⟨u, rfl⟩ := er_int e.2; exact ⟨t, u, rfl⟩
          | cons _ _ => simp at e
    exact call_range_2 ⟨_, I.alloc K (o := .range lo hi 1) (t := s.toks + 1) ⟨_, _, _, IsRange.new ..⟩, h.2.2.2.2 _ I.fresh⟩
  · rename_i lo _ hi _ st _ e
    obtain ⟨t, u, v, rfl⟩ : ∃ t u v, Vs = [.int lo t, .int hi u, .int st v] := by
      cases Vs with
      | nil => cases e
      | cons W r => cases r with
        | nil => simp at e
        | cons W2 r => cases r with
          | nil => simp at e
          | cons W3 r => cases r with
            | nil => simp at e; obtain ⟨t, rfl⟩ := er_int e.1; obtain ⟨u, rfl⟩ := er_int e.2.1; obtain ⟨v, rfl⟩ := er_int e.2.2; exact ⟨t, u, v, rfl⟩
            | cons _ _ => simp at e
    obtain ⟨h0, h1, h2, h3, h4, h5, h6, q⟩ := h
    exact call_range_3 h0 ⟨_, I.alloc K (o := .range lo hi st) (t := s.toks) ⟨_, _, _, IsRange.new ..⟩, q _ I.fresh⟩ (.inl (PyProof.noPylong_small (by omega)))
  · exact h.elim

theorem bools_of : ∀ {vs : List Value} {bs : List Bool}, vs.map er = bs.map Value.bool → vs = bs.map Value.bool
  | [], [], _ => rfl
  | [], _ :: _, e => by simp at e
  | _ :: _, [], e => by simp at e
  | v :: vs, b :: bs, e => by
    simp at e
    have h1 := er_bool e.1
    have h2 := bools_of (vs := vs) (bs := bs) (by simpa using e.2)
    rw [List.map_cons, h1, h2]

theorem s_all (K : FmOk P F) (I : Inv P F l H s) (hh : F.A.handled = none) {a : Addr} {xs : List Value} (hx : H a = some (.list xs)) {bs : List Bool} (hb : xs = bs.map Value.bool) (q : Q (.bool (bs.all id)) H) :
    wpAny P.M F.A (call (.builtin "all") [.ref a]) (PostE P F l Q) E s := by
  obtain ⟨vs, hl, e, _⟩ := I.objs _ _ hx
  subst hb
  have ev := bools_of e
  refine call_all_walk (wpAny_pyIter_list hl ⟨s.heap.objs.size, _, _, _, _, _, fun i => bs.getD i true, rfl, Walks.list (A := F.A.in1) hh _ a (Nat.ne_of_lt (I.lt_of hx)) vs, ⟨⟨_, Heap.get?_push_size _ rfl, rfl, rfl⟩, hl.at fun o e => Heap.get?_push_of_some _ e⟩, ?_, fun h' tk k => ?_⟩)
  · intro i v s' Q' E' hP hQ
    have : vs.toList[i]? = some v := by simpa using hP
    rw [ev, List.getElem?_map] at this
    obtain ⟨b, hb, rfl⟩ := Option.map_eq_some_iff.mp this
    have : bs.getD i true = b := by simp [List.getD, hb]
    have hQ : Q' (bs.getD i true) s' := hQ
    rw [this] at hQ
    exact wpAny_truthy_bool hQ
  · refine ⟨H, (I.push _).turn (J := s.heap.objs.size) K (I.ofSize K) fun b o hb e => k b o (by simpa using hb) e, ?_⟩
    have hz : vs.size = bs.length := by have := congrArg List.length ev; simpa using this
    have : (List.range vs.size).all (fun i => bs.getD i true) = bs.all id := by
      rw [hz]
      apply Bool.eq_iff_iff.mpr
      simp only [List.all_eq_true, List.mem_range, id]
      constructor
      · intro h b hb
        obtain ⟨i, hi, rfl⟩ := List.getElem_of_mem hb
        have := h i hi
        simpa [List.getD, hi] using this
      · intro h i hi
        simp only [List.getD, List.getElem?_eq_getElem hi, Option.getD_some]
        exact h _ (List.getElem_mem hi)
    rw [this]; exact q

theorem s_max2 (I : Inv P F l H s) (hh : F.A.handled = none) {a b : Int} {t u : Tok} (q : Q (.int (max a b) 0) H) : wpAny P.M F.A (call (.builtin "max") [.int a t, .int b u]) (PostE P F l Q) E s := by
  refine max_two_ints hh fun h' tk k => ⟨H, I.kept k, ?_⟩
  by_cases hc : b > a
  · rw [if_pos hc]; have : max a b = b := by omega
    rw [this] at q; exact q
  · rw [if_neg hc]; have : max a b = a := by omega
    rw [this] at q; exact q
theorem s_min2 (I : Inv P F l H s) (hh : F.A.handled = none) {a b : Int} {t u : Tok} (q : Q (.int (min a b) 0) H) : wpAny P.M F.A (call (.builtin "min") [.int a t, .int b u]) (PostE P F l Q) E s := by
  refine min_two_ints hh fun h' tk k => ⟨H, I.kept k, ?_⟩
  by_cases hc : b < a
  · rw [if_pos hc]; have : min a b = b := by omega
    rw [this] at q; exact q
  · rw [if_neg hc]; have : min a b = a := by omega
    rw [this] at q; exact q

theorem seq_ints : ∀ {vs : List Value} {ns : List Int}, IntsAre vs ns → vs.map er = ns.map fun n => Value.int n 0
  | _, _, .nil => rfl
  | _, _, .cons i t r => by
    rw [List.map_cons, List.map_cons, seq_ints r]; rfl

theorem dictAt_of {K : Type} [DecidableEq K] {knd : PySem.KeyKind P.prog P.w K} {h : Heap} {a : Addr} {kvs : List (K × Value)} (x : h.DictOf knd a kvs) : ∃ ep, h.DictAt knd a kvs ep := by
  obtain ⟨o, es, ep, r⟩ := x
  exact ⟨ep, o, es, r⟩

theorem isInt_val {k : Int} {v : Value} (h : Value.isInt k v = true) : ∃ t, v = .int k t := by
  unfold Value.isInt at h
  split at h
  · rename_i i t
    have : i = k := by simpa using h
    exact ⟨t, by rw [this]⟩
  · cases h

theorem ints_by {vs : List Value} {kvs : List (Int × Value)} (hl : vs.length = kvs.length) (hp : ∀ (j : Nat) (v : Value), vs[j]? = some v → ∃ k x, kvs[j]? = some (k, x) ∧ (intKind P.prog P.w).is k v = true) : IntsAre vs (kvs.map (·.1)) := by
  apply ints_of
  apply List.ext_getElem?
  intro j
  rw [List.getElem?_map, List.getElem?_map, List.getElem?_map]
  rcases Nat.lt_or_ge j vs.length with h | h
  · obtain ⟨k, x, e1, e2⟩ := hp j vs[j] (List.getElem?_eq_getElem h)
    rw [List.getElem?_eq_getElem h, e1]
    obtain ⟨t, ht⟩ := isInt_val (show Value.isInt k vs[j] = true from e2)
    rw [ht]; rfl
  · rw [List.getElem?_eq_none h, List.getElem?_eq_none (by omega)]; rfl

theorem s_sorted (Y : PmOk P) (K : FmOk P F) (I : Inv P F l H s) (hh : F.A.handled = none) {V : Value} (h : sortedV (er V) H Q) : wpAny P.M F.A (call (.builtin "sorted") [V]) (PostE P F l Q) E s := by
  unfold sortedV at h
  split at h
  · rename_i a e; have := er_ref e; subst this
    obtain ⟨m, Fr, hmm⟩ := I.fr K
    split at h
    · rename_i xs hx
      obtain ⟨h64, ns, hn, q⟩ := h
      · obtain ⟨vs, hl, e, _⟩ := I.objs _ _ hx
        refine sorted_N Fr (news_all _ _ _) (vs := vs.toList) (by simpa using hl) (ints_of (e.trans hn)) (by rw [← e] at h64; simpa using h64) fun h' vs' ns' ep F' N' a1 a2 a3 => ?_
        have I' := I.after K (t := s.toks) hmm F' N' fun _ hp => .tail _ hp
        have nn : s.heap.get? (s.heap.objs.size + 1) = none := Heap.get?_none_of_le (Nat.le_succ _)
        refine ⟨_, I'.track (o := .list (ns'.map fun n => Value.int n 0)) (I.off K nn) trivial ?_, q ns' a2 a3 _ (I.off K nn).h⟩
        rw [← seq_ints a1]
        have hz : vs'.toArray.size ≤ 2 ^ 25 := by
          have : vs'.length = ns'.length := by have := congrArg List.length (seq_ints a1); simpa using this
          have h2 := a2.length_eq
          rw [hn] at h64
          simp at h64 ⊢; omega
        exact mt_list (vs := vs'.toArray) ⟨ep, (N' _ (.head _)).1⟩ hz
    · rename_i kvs hx
      obtain ⟨h64, ns, hn, q⟩ := h
      · obtain ⟨ks, hd, e⟩ := I.objs _ _ hx
        obtain ⟨ep, hd⟩ := dictAt_of hd
        have hns : ns = ks.map (·.1) := by
          rw [← e] at hn
          rw [List.map_map] at hn
          have := congrArg (List.map fun v => match v with | Value.int i _ => i | _ => 0) hn
          simpa [Function.comp_def] using this.symm
        have hlen : ks.length < 64 := by rw [← e] at h64; simpa using h64
        refine PySem.W.kdu_sorted (PySem.W.kdl_dict (not_modules Y I hx)) hh Fr (news_all _ _ _) hd (by simp only [sizeLine]; omega) fun D h' tk vs F' N' lt hl hp => ?_
        have oD : h'.get? D = some (seqObj "list" vs.toArray 0) := (N' _ (.head _)).1
        have ia := ints_by hl hp
        refine wpAny_call_entry slot_list_sort ⟨_, oD, rfl⟩ entry_list_sort (list_sort_tree oD ia (by omega) fun out ns' a1 a2 a3 => ⟨_, rfl, ?_⟩) (args_list_sort _)
        have I' := I.after K (t := tk) hmm F' N' fun _ hp => .tail _ hp
        have nn : s.heap.get? D = none := by
          cases q : s.heap.get? D with
          | none => rfl
          | some o => exact absurd (lt _ (mem_allNews q (N' _ (.head _)).2.1 (N' _ (.head _)).2.2)) (Nat.lt_irrefl _)
        have of := I.off K nn
        obtain ⟨ep2, hat⟩ := sortedHeap_at (out := out) oD
        refine ⟨_, (I'.turn (t := tk) (h' := sortedHeap h' D vs out) K of fun b o hb e => by rw [sortedHeap_old hb (Heap.lt_size e)]; exact e).track (o := .list (ns'.map fun n => Value.int n 0)) of trivial ?_, q ns' (by rw [hns]; exact a2) a3 _ of.h⟩
        rw [← seq_ints a1]
        have hz : out.size ≤ 2 ^ 25 := by
          have h1 : out.toList.length = ns'.length := by have := congrArg List.length (seq_ints a1); simpa using this
          have h2 := a2.length_eq
          simp at h1 h2; omega
        exact mt_list (vs := out) ⟨ep2, hat⟩ hz
    · exact h.elim
  · exact h.elim
end
end Mine
end

section
open PySem PyProof.Rows PySem.Calls
namespace Mine

/-! ## comprehensions -/
theorem closure_loop {env : Env} : ∀ (names : List (Str × NameKind)) (acc : List (Str × Addr)), (names.map (·.1)).Nodup → (acc.map (·.1)).Nodup → (∀ x ∈ names.map (·.1), x ∉ acc.map (·.1)) → (∀ y, (y, NameKind.free) ∈ names → ∃ c, env.cells.lookup y = some c) →
    ∃ cl, (forIn names acc (fun (x : Str × NameKind) (r : List (Str × Addr)) => match x with | (name, kind) => if (kind == .free) = true then do let c ← cellOf env name; pure (ForInStep.yield ((name, c) :: r)) else pure (ForInStep.yield r)) : Sem (List (Str × Addr))) = pure cl ∧
      (cl.map (·.1)).Nodup ∧ (∀ p ∈ acc, p ∈ cl) ∧ (∀ y c, (y, c) ∈ cl → (y, c) ∈ acc ∨ env.cells.lookup y = some c) ∧ ∀ y, (y, NameKind.free) ∈ names → ∃ c, (y, c) ∈ cl
  | [], acc, _, h, _, _ => ⟨acc, by rw [List.forIn_nil], h, fun _ hp => hp, fun _ _ hp => .inl hp, fun _ hy => by cases hy⟩
  | (y, kind) :: r, acc, hn, h, hd, hf => by
    rw [List.map_cons, List.nodup_cons] at hn
    by_cases hk : kind = .free
    · subst hk
      obtain ⟨c, hc⟩ := hf y (.head _)
      obtain ⟨cl, e, h1, h2, h3, h4⟩ := closure_loop (env := env) r ((y, c) :: acc) hn.2 (by rw [List.map_cons, List.nodup_cons]; exact ⟨hd y (by simp), h⟩) (fun x hx hm => by
        rw [List.map_cons, List.mem_cons] at hm
        rcases hm with rfl | hm
        · exact hn.1 hx
        · exact hd x (by rw [List.map_cons]; exact .tail _ hx) hm) (fun z hz => hf z (.tail _ hz))
      refine ⟨cl, ?_, h1, fun p hp => h2 p (.tail _ hp), fun z d hz => ?_, fun z hz => ?_⟩
      · rw [List.forIn_cons]
        have : cellOf env y = pure c := by unfold cellOf; rw [hc]
        simp only [beq_self_eq_true, if_true, this]
        exact e
      · rcases h3 z d hz with q | q
        · rcases List.mem_cons.mp q with q | q
          · cases q; exact .inr hc
          · exact .inl q
        · exact .inr q
      · rcases List.mem_cons.mp hz with q | q
        · cases q; exact ⟨c, h2 _ (.head _)⟩
        · exact h4 z q
    · obtain ⟨cl, e, h1, h2, h3, h4⟩ := closure_loop (env := env) r acc hn.2 h (fun x hx => hd x (by rw [List.map_cons]; exact .tail _ hx)) (fun z hz => hf z (.tail _ hz))
      refine ⟨cl, ?_, h1, h2, h3, fun z hz => ?_⟩
      · rw [List.forIn_cons]
        have : (kind == NameKind.free) = false := beq_eq_false_iff_ne.mpr hk
        simp only [this, Bool.false_eq_true, if_false]
        exact e
      · rcases List.mem_cons.mp hz with q | q
        · cases q; exact absurd rfl hk
        · exact h4 z q

theorem closure_ok {env : Env} {scope : Scope} (hn : (scope.names.map (·.1)).Nodup) (hf : ∀ y, (y, NameKind.free) ∈ scope.names → ∃ c, env.cells.lookup y = some c) :
    ∃ cl, closureFor scope env = pure cl ∧ (cl.map (·.1)).Nodup ∧ (∀ y c, (y, c) ∈ cl → env.cells.lookup y = some c) ∧ ∀ y, (y, NameKind.free) ∈ scope.names → ∃ c, (y, c) ∈ cl := by
  obtain ⟨cl, e, h1, h2, h3, h4⟩ := closure_loop (env := env) scope.names [] hn .nil (by simp) hf
  refine ⟨cl, ?_, h1, fun y c hy => (h3 y c hy).resolve_left (by simp), h4⟩
  simp only [closureFor]
  rw [show (forIn scope.names [] _ : Sem (List (Str × Addr))) = pure cl from e]
  rfl

theorem lookup_relabel {env : Env} {scope : Scope} (x : Str) : (relabel scope env).names.lookup x = (scope.names.lookup x).map fun k => if (k == NameKind.free && env.scope.kind == .function && env.kindOf x == some .cell) then NameKind.cell else k := by
  show (scope.names.map fun (n, k) => if (k == NameKind.free && env.scope.kind == .function && env.kindOf n == some .cell) then (n, NameKind.cell) else (n, k)).lookup x = _
  induction scope.names with
  | nil => rfl
  | cons p r ih =>
    obtain ⟨n, k⟩ := p
    rw [List.map_cons]
    by_cases hx : x = n
    · subst hx
      by_cases hc : (k == NameKind.free && env.scope.kind == .function && env.kindOf x == some .cell) = true
      · simp only [List.lookup_cons, beq_self_eq_true, Option.map_some, if_pos hc]
      · simp only [List.lookup_cons, beq_self_eq_true, Option.map_some, if_neg hc]
    · have : (x == n) = false := beq_eq_false_iff_ne.mpr hx
      simp only [List.lookup_cons, this]
      split <;> simp only [List.lookup_cons, this] <;> exact ih

/-- the frame of a comprehension -/
noncomputable def Fm.comp (F : Fm) (h : Heap) (env : Env) : Fm := { F.call h env with A := F.A, ro := true }

section
variable {P : Pm} {F : Fm} {G : Gx} {n : Nat} {hm : Bool} {l : Loc} {H : Hp} {s : Shared}

theorem comp_frame (K : FmOk P F) (I : Inv P F l H s) {env : Env} (hk : env.scope.kind = .function) (hg : env.globals = mainGlobals) (hb : env.builtins = builtinsNs) (hL : s.heap.objs.size ≤ env.locals)
    (nd : (env.cells.map (·.1)).Nodup) (cs : ∀ y c, (y, c) ∈ env.cells → F.env.cells.lookup y = some c) : FmOk P (F.comp s.heap env) := by
  have nn : ∀ b, s.heap.objs.size ≤ b → s.heap.get? b = none := fun b hb => Heap.get?_none_of_le hb
  have cm : ∀ y c, (y, c) ∈ env.cells → (y, c) ∈ F.env.cells := fun y c h => mem_of_lookup (cs y c h)
  have cx : ∀ y c, (y, c) ∈ env.cells → ∃ o, s.heap.get? c = some o := fun y c h => by
    obtain ⟨vo, ⟨o, ho, _⟩, _⟩ := I.cel y c (cs y c h); exact ⟨o, ho⟩
  refine ⟨hk, hg, hb, fun b o e => ?_, ?_, ?_, ?_, fun y c h => ?_, fun q => (nomatch q), ?_, fun y c h => lookup_of_mem nd h, fun y c h => ?_, fun b d e => ?_, ?_⟩
  · show (if isCell F b then s.heap.get? b else F.g b) = some o
    split
    · exact I.keep b o (K.base b o e)
    · exact K.base b o e
  · exact Nat.le_trans (I.base_le K) hL
  · show (if isCell F env.locals then s.heap.get? env.locals else F.g env.locals) = none
    split
    · exact nn _ hL
    · exact (I.off K (nn _ hL)).g
  · show (if env.locals = F.env.locals then (s.heap.get? env.locals).map (·.data) else F.fr env.locals) = none
    rw [if_neg (I.off K (nn _ hL)).l]
    exact (I.off K (nn _ hL)).fr
  · obtain ⟨o, ho⟩ := cx y c h
    exact Nat.ne_of_lt (Nat.lt_of_lt_of_le (Heap.lt_size ho) hL)
  · refine List.Pairwise.imp_of_mem ?_ (List.pairwise_map.mp nd)
    rintro ⟨y, c⟩ ⟨z, d⟩ h1 h2 hne e
    have e : c = d := e
    subst e
    exact hne (name_of_addr K.apart (cm y c h1) (cm z c h2))
  · show (if c = F.env.locals then (s.heap.get? c).map (·.data) else F.fr c) = none
    rw [if_neg (K.cl y c (cm y c h))]; exact K.cf y c (cm y c h)
  · have e : (if b = F.env.locals then (s.heap.get? b).map (·.data) else F.fr b) = some d := e
    show (if isCell F b then s.heap.get? b else F.g b) = none ∧ _
    by_cases q : b = F.env.locals
    · rw [if_pos q] at e
      subst q
      constructor
      · split
        · rename_i hc
          obtain ⟨x, hm⟩ := mem_isCell hc
          exact absurd rfl (K.cl x _ hm)
        · exact K.lg
      · obtain ⟨m, ⟨o, es, ep, ho, hd, _⟩, _⟩ := I.loc
        rw [ho] at e
        cases e
        intro vs q
        have q : o.data = .fields vs := q
        rw [hd] at q; cases q
    · rw [if_neg q] at e
      obtain ⟨h1, h2⟩ := K.fg b d e
      refine ⟨?_, h2⟩
      split
      · rename_i hc
        obtain ⟨x, hm⟩ := mem_isCell hc
        rw [K.cf x b hm] at e; cases e
      · exact h1
  · obtain ⟨fenv, outer, h1, h2, h3⟩ := K.frames
    refine ⟨fenv, outer, h1, fun q => (nomatch q), fun e he => ?_⟩
    obtain ⟨k1, b, k2, k3⟩ := h3 e he
    refine ⟨k1, b, k2, .inr ?_⟩
    show ((if b = F.env.locals then (s.heap.get? b).map (·.data) else F.fr b)).isSome = true
    obtain ⟨m, ⟨o, es, ep, ho, hd, _⟩, _⟩ := I.loc
    rcases k3 with rfl | k3
    · rw [if_pos rfl, ho]; rfl
    · split
      · rename_i q; rw [q, ho]; rfl
      · exact k3

theorem Inv.compUp (K : FmOk P F) (I : Inv P F l H s) {env : Env} {l' : Loc} {H' : Hp} {s' : Shared} (I' : Inv P (F.comp s.heap env) l' H' s') : Inv P F l H' s' :=
  Inv.up K I (env := env) ⟨I'.gens, I'.os, I'.keep, I'.frk, I'.loc, I'.cel, I'.objs, I'.free, I'.big⟩
theorem Off.compUp (K : FmOk P F) (I : Inv P F l H s) {env : Env} {H' : Hp} {a : Addr} (x : Off (F.comp s.heap env) H' a) : Off F H' a :=
  Off.up K I (env := env) ⟨x.h, x.g, x.fr, x.l, x.c⟩

/-- the tests -/
inductive STall (P : Pm) (G : Gx) (n : Nat) (hm : Bool) (sc : Scope) : List Expr → List Ex → Prop where
  | nil : STall P G n hm sc [] []
  | cons {e : Expr} {e' : Ex} {r : List Expr} {r' : List Ex} : ST P G n hm sc e e' → STall P G n hm sc r r' → STall P G n hm sc (e :: r) (e' :: r')

theorem tests_false {env : Env} : ∀ (r : List Expr), (forIn r false (fun (c : Expr) (r : Bool) => if r = true then do let ok ← PySem.isTrue c env (eval c env); pure (ForInStep.yield ok) else pure (ForInStep.yield r)) : Sem Bool) = pure false
  | [] => by rw [List.forIn_nil]
  | c :: r => by
    rw [List.forIn_cons]
    show (forIn r false _ : Sem Bool) = _
    exact tests_false r

theorem s_tests {sc : Scope} {es : List Expr} {es' : List Ex} (h : STall P G n hm sc es es') (K : FmOk P F) (S : ScOk sc F) (R : Room n F.A) (HM : HmOk hm F.A) {X : XV} {k : Bool → Hp → Prop} : ∀ {H : Hp} {s : Shared}, Inv P F l H s → wpB G hm true es' l H (fun v H' => truthV v fun b => k b H') X →
    wpAny P.M F.A (forIn es true (fun (c : Expr) (r : Bool) => if r = true then do let ok ← PySem.isTrue c F.env (eval c F.env); pure (ForInStep.yield ok) else pure (ForInStep.yield r))) (fun b s' => ∃ H', Inv P F l H' s' ∧ k b H') (PostX P F l X) s := by
  induction h with
  | nil =>
    intro H s I q
    simp only [wpB, truthV] at q
    rw [List.forIn_nil]
    exact wpAny_pure ⟨H, I, q⟩
  | @cons e e' r r' he hr ih =>
    intro H s I q
    rw [wpB] at q
    rw [List.forIn_cons]
    simp only [if_true]
    refine wpAny_bind (wpAny_bind (wpAny_mono (he K S R HM I q) (fun b s1 z => wpAny_pure ?_) fun _ _ z => z))
    obtain ⟨H1, I1, z⟩ := z
    cases b with
    | true =>
      simp only [if_true] at z
      cases hr with
      | nil =>
        dsimp only
        rw [List.forIn_nil]
        exact wpAny_pure ⟨H1, I1, z⟩
      | cons a b => exact ih I1 z
    | false =>
      simp only [Bool.false_eq_true, if_false, truthV] at z
      dsimp only
      rw [tests_false]
      exact wpAny_pure ⟨H1, I1, z⟩

/-- what a comprehension sees of the names -/
theorem comp_names {sc scope : Scope} {x : Str} (S : ScOk sc F) (hk : F.env.scope.kind = .function) (hf : compFine sc scope x = true) :
    scope.kind = .function ∧ (scope.names.map (·.1)).Nodup ∧ (∀ y ∈ scope.names, y.2 ≠ .cell) ∧ (∀ y, scope.names.lookup y = some .local → y = x ∨ y = (".0" : Str)) ∧
      (∀ y, (y, NameKind.free) ∈ scope.names → F.env.kindOf y = some .cell ∧ ∃ c, F.env.cells.lookup y = some c) ∧ scope.names.lookup x = some .local := by
  unfold compFine at hf
  simp only [Bool.and_eq_true, beq_iff_eq, decide_eq_true_eq, List.all_eq_true, Bool.or_eq_true, bne_iff_ne, ne_eq] at hf
  obtain ⟨⟨⟨h1, h2⟩, h3⟩, h4⟩ := hf
  refine ⟨h1, h2, fun y hy => (h3 y hy).1.1, fun y hy => ?_, fun y hy => ?_, h4⟩
  · have := (h3 _ (mem_of_lookup hy)).1.2
    rcases this with (q | q) | q
    · exact absurd rfl q
    · exact .inl q
    · exact .inr q
  · have := (h3 _ hy).2
    rcases this with q | q
    · exact absurd rfl q
    · exact S.cell y q

theorem comp_sc {sc scope : Scope} {x : Str} (S : ScOk sc F) (hk : F.env.scope.kind = .function) (hf : compFine sc scope x = true) {cl : List (Str × Addr)} (nd : (cl.map (·.1)).Nodup) (hcl : ∀ y, (y, NameKind.free) ∈ scope.names → ∃ c, (y, c) ∈ cl) {h : Heap} {C : Addr} :
    ScOk scope (F.comp h (compEnvC scope cl C F.env)) := by
  obtain ⟨n1, n2, n3, n4, n5, n6⟩ := comp_names S hk hf
  have kd : ∀ y k, scope.names.lookup y = some k → (compEnvC scope cl C F.env).kindOf y = some (if (k == NameKind.free && F.env.scope.kind == .function && F.env.kindOf y == some .cell) then NameKind.cell else k) := fun y k hy => by
    show (relabel scope F.env).names.lookup y = _
    rw [lookup_relabel, hy]; rfl
  refine ⟨fun y hy => ?_, fun y hy => ?_, fun y hy => ?_, fun y hy => ?_⟩
  · unfold isLoc at hy
    split at hy
    · rename_i e; exact .inl (kd y _ e)
    · rename_i e; exact absurd rfl (n3 _ (mem_of_lookup e))
    · rename_i e
      obtain ⟨q, _⟩ := n5 y (mem_of_lookup e)
      obtain ⟨c, hc⟩ := hcl y (mem_of_lookup e)
      refine .inr ⟨.inl ?_, c, lookup_of_mem nd hc⟩
      have := kd y _ e
      rw [hk, q] at this
      exact this
    · split at hy <;> cases hy
    · cases hy
  · unfold isLoc at hy
    split at hy
    · split at hy <;> cases hy
    · split at hy <;> cases hy
    · split at hy <;> cases hy
    · rename_i e; exact kd y _ e
    · cases hy
  · exact kd y _ hy
  · exact absurd rfl (n3 _ (mem_of_lookup hy))

theorem Inv.weak {l' : Loc} (I : Inv P F l H s) (h : ∀ y v, l' y = some v → l y = some v) : Inv P F l' H s :=
  ⟨I.gens, I.os, I.keep, I.frk, let ⟨m, hn, q⟩ := I.loc; ⟨m, hn, fun y v hy hk => q y v (h y v hy) hk⟩, fun y c e => let ⟨vo, hc, q⟩ := I.cel y c e; ⟨vo, hc, fun v hy hk => q v (h y v hy) hk⟩, I.objs, I.free, I.big⟩

theorem st_local (K : FmOk P F) (I : Inv P F l H s) {x : Str} {V : Value} {E : Value → Shared → Prop} {Q : Unit → Shared → Prop} (hl : F.env.kindOf x = some .local)
    (h : ∀ s', Inv P F (l.upd x (er V)) H s' → Q () s') : wpAny P.M F.A (storeName F.env x V) Q E s := by
  obtain ⟨m, hn, q⟩ := I.loc
  refine wpAny_storeName_local hl hn (fun h' hn' hs => h _ (I.stepL (t := s.toks + 1) (fun b o e hb _ => hs.extBut b o hb e) hn' K (fun y v hy hky => ?_) fun y v hy hky => ?_)) (by rw [K.kind]; rfl)
  · by_cases e : y = x
    · subst e; simp [Loc.upd] at hy; subst hy; exact ⟨V, by simp, rfl⟩
    · simp [Loc.upd, e] at hy; simp [e]; exact q y v hy hky
  · by_cases e : y = x
    · subst e; rw [hl] at hky; simp at hky
    · simpa [Loc.upd, e] using hy

theorem append_at {A : Around} {E : Value → Shared → Prop} {D : Addr} {vs : Array Value} {V : Value} {Q : Value → Shared → Prop} (e : IsL s.heap D vs) (hz : vs.size ≤ sizeLine) (h : Q .none { s with heap := s.heap.update D (Obj.mapSeq (·.push V)) }) :
    wpAny P.M A (call (.builtin "list.append") [.ref D, V]) Q E s := by
  obtain ⟨n, e0⟩ := id e
  refine wpAny_call_entry slot_list_append e.isList.typeIs entry_list_append ?_ (args_list_append _ _)
  show wpAny _ _ (updateSeq D (·.push V) >>= fun _ => ret .none) _ _ s
  exact wpAny_bind (wpAny_updateSeq e0 rfl (wpAny_pure ⟨.none, rfl, h⟩) hz)

/-- the comprehension's frame at its start -/
theorem comp_inv {sc scope : Scope} {x : Str} (K : FmOk P F) (S : ScOk sc F) (hf : compFine sc scope x = true) (I : Inv P F l H s) {cl : List (Str × Addr)} (c1 : ∀ y c, (y, c) ∈ cl → F.env.cells.lookup y = some c) {C : Addr} {h₁ : Heap} {t : Nat} (hC : s.heap.objs.size ≤ C)
    (k : ∀ b o, s.heap.get? b = some o → h₁.get? b = some o) {m : Str → Option Value} (hn : h₁.Ns C m) : Inv P (F.comp s.heap (compEnvC scope cl C F.env)) ((l.del (".0" : Str)).del x) H { s with heap := h₁, toks := t } := by
  obtain ⟨n1, n2, n3, n4, n5, n6⟩ := comp_names S K.kind hf
  have lt : ∀ a o, H a = some o → a < C := fun a o e => Nat.lt_of_lt_of_le (I.lt_of e) hC
  refine ⟨I.gens, I.os, fun b o e => ?_, fun b d e => ?_, ⟨m, hn, fun y v hy hk => ?_⟩, fun y c e => ?_, fun a o e => ?_, fun a o e => ?_, I.big⟩
  · have e : (if isCell F b then s.heap.get? b else F.g b) = some o := e
    split at e
    · exact k b o e
    · exact k b o (I.keep b o e)
  · have e : (if b = F.env.locals then (s.heap.get? b).map (·.data) else F.fr b) = some d := e
    split at e
    · obtain ⟨o, ho, hd⟩ := Option.map_eq_some_iff.mp e
      exact ⟨o, k b o ho, hd⟩
    · obtain ⟨o, ho, hd⟩ := I.frk b d e
      exact ⟨o, k b o ho, hd⟩
  · exfalso
    have hk : (relabel scope F.env).names.lookup y = some .local := hk
    rw [lookup_relabel] at hk
    obtain ⟨kk, e1, e2⟩ := Option.map_eq_some_iff.mp hk
    have : kk = .local := by
      split at e2
      · cases e2
      · exact e2
    subst this
    rcases n4 y e1 with rfl | rfl
    · simp [Loc.del] at hy
    · simp only [Loc.del] at hy
      split at hy
      · cases hy
      · simp at hy
  · have hc := c1 y c (mem_of_lookup e)
    obtain ⟨vo, ⟨o, ho, hd⟩, q⟩ := I.cel y c hc
    refine ⟨vo, ⟨o, k c o ho, hd⟩, fun v hy hk => q v ?_ ?_⟩
    · simp only [Loc.del] at hy
      split at hy
      · cases hy
      · split at hy
        · cases hy
        · exact hy
    · have hk : (relabel scope F.env).names.lookup y = some .cell ∨ (relabel scope F.env).names.lookup y = some .free := hk
      rw [lookup_relabel] at hk
      have hfr : (y, NameKind.free) ∈ scope.names := by
        rcases hk with hk | hk
        · obtain ⟨kk, e1, e2⟩ := Option.map_eq_some_iff.mp hk
          split at e2
          · rename_i hc
            simp only [Bool.and_eq_true, beq_iff_eq] at hc
            have := hc.1.1
            subst this
            exact mem_of_lookup e1
          · subst e2; exact absurd rfl (n3 _ (mem_of_lookup e1))
        · obtain ⟨kk, e1, e2⟩ := Option.map_eq_some_iff.mp hk
          split at e2
          · cases e2
          · subst e2; exact mem_of_lookup e1
      exact .inl (n5 y hfr).1
  · obtain ⟨O, ho⟩ := (I.objs a o e).some
    exact (I.objs a o e).congr ((k a O ho).trans ho.symm)
  · cases hr : o.isR with
    | true => exact fre_r hr (r_fre (I.free a o e) hr)
    | false =>
    obtain ⟨h1, h2, h3, h4⟩ := of_fre (I.free a o e) hr
    refine fre_of hr ⟨?_, ?_, Nat.ne_of_lt (lt a o e), fun y c hm => ?_⟩
    · show (if isCell F a then s.heap.get? a else F.g a) = none
      rw [if_neg (fun q => by obtain ⟨y, hm⟩ := mem_isCell q; exact h4 y a hm rfl)]; exact h1
    · show (if a = F.env.locals then (s.heap.get? a).map (·.data) else F.fr a) = none
      rw [if_neg h3]; exact h2
    · exact h4 y c (mem_of_lookup (c1 y c hm))

/-- the turn's frame: the iterator and the list stay -/
theorem s_comp_core (hm0 : hm = false) {sc scope : Scope} {x : Str} {px pos : Pos} {elt it : Expr} {ifs : List Expr} {elt' it' : Ex} {ifs' : List Ex} (hf : compFine sc scope x = true) (hset : notSet it = true) (hi : SE P G n hm sc it it') (he : SE P G n hm scope elt elt') (ht : STall P G n hm scope ifs ifs')
    (K : FmOk P F) (S : ScOk sc F) (R : Room n F.A) (HM : HmOk hm F.A) (I : Inv P F l H s) {Q : QV} {X : XV} (q : wpE G hm (.comp elt' x it' ifs') l H Q X)
    {cp : Pos} {use : Option (Value → Sem Unit)} {Q' E' : Value → Shared → Prop} (hE : ∀ V s', PostX P F l X V s' → E' V s')
    (fin : ∀ {Hc : Hp} {s' : Shared} {us : Array Value} {D C : Addr} {m : Str → Option Value} {r : Flow}, Inv P F l Hc s' → Off F Hc D → Off F Hc C → D ≠ C → s'.heap.Ns C m → IsL s'.heap D us → us.size ≤ sizeLine → Q (.ref D) (Hc.upd D (.list (us.toList.map er))) → compPost P.M F.A E' use Q' (.ref D) C (.ok r) s') :
    wpAny P.M F.A (comprehension (.ListComp elt [⟨.Name x px, it, ifs, 0⟩] scope pos) scope F.env cp (newList []) false (eval it F.env) use) Q' E' s := by
  obtain ⟨n1, n2, n3, n4, n5, n6⟩ := comp_names S K.kind hf
  obtain ⟨cl, hcl, nd, c1, c2⟩ := closure_ok (env := F.env) n2 fun y hy => (n5 y hy).2
  conv at q => whnf
  refine wpAny_comprehension_free (use := use) rfl (fun _ => folded_no hset) hcl n1 (fun y hy hl => ?_) (wpAny_mono (hi K S R HM I q) (fun V s1 q => ?_) hE)
  · obtain ⟨y, k⟩ := y
    have hl : k = .local := hl
    subst hl
    exact lookup_of_mem n2 hy
  obtain ⟨H1, I1, _, q⟩ := q
  refine wpAny_mono (s_iter K I1 q) (fun itv s2 q => ?_) fun _ _ z => z
  obtain ⟨guard, items, J, St, ⟨hz, q⟩, rfl, I2, of, bz, st, T⟩ := q
  have T := T F.A (HM hm0)
  refine wpAny_newObj_type (wpAny_newFunctionEnv n3 (by intro y hy; simp at hy) (fun h₁ hns hsb => ?_) n1)
  dsimp only at hns hsb ⊢
  generalize hH2 : s2.heap.push { cls := .type "list", dict := none, data := .seq ([] : List Value).toArray } = hp2 at hns hsb ⊢
  have hC : hp2.objs.size = s2.heap.objs.size + 1 := by rw [← hH2, Heap.size_push]
  have hDC : s2.heap.objs.size ≠ hp2.objs.size := by rw [hC]; exact Nat.ne_of_lt (Nat.lt_succ_self _)
  have k1 : ∀ b o, s2.heap.get? b = some o → h₁.get? b = some o := fun b o e =>
    hsb.extBut b o (by rw [hC]; exact Nat.ne_of_lt (Nat.lt_succ_of_lt (Heap.lt_size e))) (Heap.get?_push_of_some _ (hH2 ▸ Heap.get?_push_of_some _ e))
  have hD1 : IsL h₁ s2.heap.objs.size #[] := ⟨0, hsb.extBut _ _ hDC (Heap.get?_push_of_some _ (hH2 ▸ Heap.get?_push_size _ rfl))⟩
  have I3 := comp_inv (t := s2.toks + ([] : List (Str × Value)).length) K S hf I2 c1 (C := hp2.objs.size) (by rw [hC]; exact Nat.le_succ _) k1 hns
  have KC : FmOk P (F.comp s2.heap (compEnvC scope cl hp2.objs.size F.env)) := comp_frame K I2 (env := compEnvC scope cl hp2.objs.size F.env) n1 K.glob K.blt (by show s2.heap.objs.size ≤ hp2.objs.size; rw [hC]; exact Nat.le_succ _) nd c1
  have SC : ScOk scope (F.comp s2.heap (compEnvC scope cl hp2.objs.size F.env)) := comp_sc S K.kind hf nd c2
  have kx : (compEnvC scope cl hp2.objs.size F.env).kindOf x = some .local := SC.locl x n6
  have oJ : Off (F.comp s2.heap (compEnvC scope cl hp2.objs.size F.env)) H1 J := by
    have hJ : J < s2.heap.objs.size := by obtain ⟨o, ho⟩ := T.at_ _ _ st; exact Heap.lt_size ho
    refine ⟨of.h, ?_, ?_, ?_, fun y c hm => of.c y c (mem_of_lookup (c1 y c hm))⟩
    · show (if isCell F J then s2.heap.get? J else F.g J) = none
      rw [if_neg (fun q => by obtain ⟨y, hm⟩ := mem_isCell q; exact of.c y J hm rfl)]; exact of.g
    · show (if J = F.env.locals then (s2.heap.get? J).map (·.data) else F.fr J) = none
      rw [if_neg of.l]; exact of.fr
    · show J ≠ hp2.objs.size
      rw [hC]; exact Nat.ne_of_lt (Nat.lt_succ_of_lt hJ)
  have ofD := I2.ofSize K
  have oD : Off (F.comp s2.heap (compEnvC scope cl hp2.objs.size F.env)) H1 s2.heap.objs.size := by
    refine ⟨ofD.h, ?_, ?_, hDC, fun y c hm => ofD.c y c (mem_of_lookup (c1 y c hm))⟩
    · show (if isCell F s2.heap.objs.size then s2.heap.get? s2.heap.objs.size else F.g s2.heap.objs.size) = none
      rw [if_neg (fun q => by obtain ⟨y, hm⟩ := mem_isCell q; exact ofD.c y _ hm rfl)]; exact ofD.g
    · show (if s2.heap.objs.size = F.env.locals then (s2.heap.get? s2.heap.objs.size).map (·.data) else F.fr s2.heap.objs.size) = none
      rw [if_neg ofD.l]; exact ofD.fr
  have hJD : J ≠ s2.heap.objs.size := by obtain ⟨o, ho⟩ := T.at_ _ _ st; exact Nat.ne_of_lt (Heap.lt_size ho)
  generalize hFc : F.comp s2.heap (compEnvC scope cl hp2.objs.size F.env) = Fc at *
  have eA : Fc.A = F.A := by rw [← hFc]; rfl
  have eE : Fc.env = compEnvC scope cl hp2.objs.size F.env := by rw [← hFc]; rfl
  generalize hstep : (fun v H2 k => wpB G hm true ifs' ((l.del (".0" : Str)).upd x v) H2 (fun c H3 => truthV c fun r =>
        if r then wpE G hm elt' ((l.del (".0" : Str)).upd x v) H3 (fun u H4 => k (some u) H4) (fun _ _ => False) else k none H3) (fun _ _ => False) : Value → Hp → (Option Value → Hp → Prop) → Prop) = step at q
  have loop : ∀ s3 : Shared, s3 = { s2 with heap := h₁, toks := s2.toks + ([] : List (Str × Value)).length } →
      codeAny P.M F.A (.compLoop (.ListComp elt [⟨.Name x px, it, ifs, 0⟩] scope pos) 0 (.ref J) (.ref s2.heap.objs.size) (compEnvC scope cl hp2.objs.size F.env))
        (compPost P.M F.A E' use Q' (.ref s2.heap.objs.size) hp2.objs.size) s3 := by
    rintro s3 rfl
    refine codeAny_compLoop_tests (fun k s => ∃ i Hc us, Inv P Fc ((l.del (".0" : Str)).del x) Hc s ∧ Off Fc Hc J ∧ Off Fc Hc s2.heap.objs.size ∧ St i s.heap ∧ IsL s.heap s2.heap.objs.size us ∧ us.size ≤ i ∧ i ≤ items.length ∧ k = items.length - i + 1 ∧
      compG guard step (items.drop i) (us.toList.map er) Hc fun us H' => newV (.list us) H' Q) ?_ (items.length + 1) ⟨0, H1, #[], I3, oJ, oD, T.frame _ _ _ st fun o e => k1 _ _ e, hD1, Nat.le_refl _, Nat.zero_le _, rfl, q⟩
    rintro k s ⟨i, Hc, us, I, ofJ, ofD, st, eD, hus, hle, hk, q⟩
    rcases Nat.lt_or_ge i items.length with hi | hi
    · obtain ⟨v, hv⟩ : ∃ v, items[i]? = some v := ⟨_, List.getElem?_eq_getElem hi⟩
      have hd : items.drop i = v :: items.drop (i + 1) := by
        rw [List.drop_eq_getElem_cons hi]
        have := List.getElem?_eq_getElem hi
        rw [hv] at this; cases this; rfl
      rw [hd] at q
      unfold compG at q
      obtain ⟨g, q⟩ := q
      refine T.item i s _ _ Hc I.objs ofJ.h g st v hv fun V h' tk hV st' k' => ?_
      have I' := I.turn (t := tk) KC ofJ k'
      obtain ⟨oj, hoj⟩ := T.at_ _ _ st'
      obtain ⟨nD, hoD⟩ := eD
      have hoD' := k' _ _ hJD.symm hoD
      dsimp only
      have ofD1 : Off (Fc.also J oj) Hc s2.heap.objs.size := ⟨ofD.h, by show (if s2.heap.objs.size = J then some oj else Fc.g s2.heap.objs.size) = none; rw [if_neg hJD.symm]; exact ofD.g, ofD.fr, ofD.l, ofD.c⟩
      have K1 := KC.also (o := oj) ofJ
      have K2 := K1.also (o := { cls := .type "list", dict := none, data := .seq us nD, slots := #[] }) ofD1
      have I2' := (I'.also ofJ hoj).also ofD1 hoD'
      generalize hF2 : (Fc.also J oj).also s2.heap.objs.size { cls := .type "list", dict := none, data := .seq us nD, slots := #[] } = F2 at K2 I2'
      have eA2 : F2.A = F.A := by rw [← hF2]; exact eA
      have eE2 : F2.env = compEnvC scope cl hp2.objs.size F.env := by rw [← hF2]; exact eE
      have S2 : ScOk scope F2 := by rw [← hF2]; exact ⟨SC.loc, SC.glob, SC.locl, SC.cell⟩
      rw [← eE2, ← eA2]
      refine wpAny_assign_Name (st_local K2 I2' (S2.locl x n6) fun s4 I4 => ?_)
      rw [hV] at I4
      have eL : (((l.del (".0" : Str)).del x).upd x v) = ((l.del (".0" : Str)).upd x v) := by
        funext y
        by_cases q : y = x <;> simp [Loc.upd, Loc.del, q]
      rw [eL] at I4
      subst hstep
      -- what a turn leaves
      have back : ∀ {H5 : Hp} {s5 : Shared}, Inv P F2 ((l.del (".0" : Str)).upd x v) H5 s5 → Inv P Fc ((l.del (".0" : Str)).del x) H5 s5 ∧ Off Fc H5 J ∧ Off Fc H5 s2.heap.objs.size ∧ St (i + 1) s5.heap ∧ IsL s5.heap s2.heap.objs.size us := by
        intro H5 s5 I5
        rw [← hF2] at I5
        obtain ⟨I6, e6, o6⟩ := I5.back K1 ofD1
        obtain ⟨I7, e7, o7⟩ := I6.back KC ofJ
        refine ⟨I7.weak fun y v' hy => ?_, o7, ⟨o6.h, ofD.g, o6.fr, o6.l, o6.c⟩, T.frame _ _ _ st' fun o' e => by rw [hoj] at e; cases e; exact e7, nD, e6⟩
        simp only [Loc.del] at hy
        split at hy
        · cases hy
        · rename_i hne
          simp only [Loc.upd, if_neg hne, Loc.del]
          exact hy
      refine wpAny_mono (s_tests ht K2 S2 (by rw [eA2]; exact R) (by rw [eA2]; exact HM) I4 q) (fun b s5 z => ?_) fun _ _ z => ?_
      · obtain ⟨H5, I5, z⟩ := z
        cases b with
        | false =>
          simp only [Bool.false_eq_true, if_false] at z ⊢
          obtain ⟨b1, b2, b3, b4, b5⟩ := back I5
          exact ⟨items.length - (i + 1) + 1, by omega, i + 1, H5, us, b1, b2, b3, b4, b5, by omega, hi, rfl, z⟩
        | true =>
          simp only [if_true] at z ⊢
          refine wpAny_mono (he K2 S2 (by rw [eA2]; exact R) (by rw [eA2]; exact HM) I5 z) (fun V6 s6 z => ?_) fun _ _ z => ?_
          · obtain ⟨H6, I6, z⟩ := z
            obtain ⟨b1, b2, b3, b4, b5⟩ := back I6
            refine append_at b5 (by omega) ?_
            have kD : ∀ b o, b ≠ s2.heap.objs.size → s6.heap.get? b = some o → (s6.heap.update s2.heap.objs.size (Obj.mapSeq (·.push V6))).get? b = some o := fun b o hb e => by rw [Heap.get?_update_other _ _ (Ne.symm hb)]; exact e
            refine ⟨items.length - (i + 1) + 1, by omega, i + 1, H6, us.push V6, b1.turn (t := s6.toks) KC b3 kD, b2, b3, T.frame _ _ _ b4 fun o e => kD _ _ hJD e, b5.update _, by simp; omega, hi, rfl, ?_⟩
            simpa using z
          · obtain ⟨_, _, _, _, _, _, z⟩ := z
            exact z.elim
      · obtain ⟨_, _, _, _, _, _, z⟩ := z
        exact z.elim
    · have : i = items.length := Nat.le_antisymm hle hi
      subst this
      rw [List.drop_length] at q
      unfold compG at q
      refine T.done s _ _ Hc I.objs ofJ.h q.1 st fun h' tk k' => ?_
      have I' := I.turn (t := tk) KC ofJ k'
      have eD' : IsL h' s2.heap.objs.size us := let ⟨nD, e⟩ := eD; ⟨nD, k' _ _ hJD.symm e⟩
      obtain ⟨m, hnC, _⟩ := I'.loc
      rw [eE] at hnC
      have nC : Hc hp2.objs.size = none := by
        cases e : Hc hp2.objs.size with
        | none => rfl
        | some o =>
          have := I'.neL KC e
          rw [eE] at this
          exact absurd rfl this
      rw [← hFc] at I' ofD
      have IF := Inv.compUp K I2 I'
      have ofDF := Off.compUp K I2 ofD
      have ofC0 := I2.off K (a := hp2.objs.size) (Heap.get?_none_of_le (by rw [hC]; exact Nat.le_succ _))
      exact fin IF ofDF ⟨nC, ofC0.g, ofC0.fr, ofC0.l, ofC0.c⟩ hDC hnC eD' (Nat.le_trans hus hz) (q.2 _ ofDF.h)
  exact codeAny_compStart_list (loop _ rfl) (T.self 0 _ _ _ (T.frame _ _ _ st fun o e => k1 _ _ e) (loop _ rfl))

theorem s_comp (hm0 : hm = false) {sc scope : Scope} {x : Str} {px pos : Pos} {elt it : Expr} {ifs : List Expr} {elt' it' : Ex} {ifs' : List Ex} (hf : compFine sc scope x = true) (hset : notSet it = true) (hi : SE P G n hm sc it it') (he : SE P G n hm scope elt elt') (ht : STall P G n hm scope ifs ifs')
    (K : FmOk P F) (S : ScOk sc F) (R : Room n F.A) (HM : HmOk hm F.A) (I : Inv P F l H s) {Q : QV} {X : XV} (q : wpE G hm (.comp elt' x it' ifs') l H Q X) :
    wpAny P.M F.A (eval (.ListComp elt [⟨.Name x px, it, ifs, 0⟩] scope pos) F.env) (PostE P F l Q) (PostX P F l X) s := by
  rw [eval_ListComp]
  refine s_comp_core hm0 hf hset hi he ht K S R HM I q (use := none) (fun _ _ z => z) fun {Hc s' us D C m r} IF oD oC hDC hn eD hz q => ⟨m, hn, fun h'' sb => ?_⟩
  have IG := IF.turn (t := s'.toks) (h' := h'') K oC fun b o hb e => sb.extBut b o hb e
  exact ⟨_, IG.track (o := .list (us.toList.map er)) oD trivial (mt_list (let ⟨nD, e⟩ := eD; ⟨nD, sb.extBut _ _ hDC e⟩) (szl hz)), q⟩

/-- a comprehension that is stored in a plain local on its own line -/
noncomputable def swapFine (sc scope : Scope) (y : Str) : Bool := sc.names.lookup y == some .local && !(scope.names.any fun z => z.1 == y && (z.2 == .local || z.2 == .cell))
/-- inside a handler no comprehension has a wp -/
theorem s_comp_no_core {sc scope : Scope} {x : Str} {px pos : Pos} {elt it : Expr} {ifs : List Expr} {elt' it' : Ex} {ifs' : List Ex} (hf : compFine sc scope x = true) (hset : notSet it = true) (hi : SE P G n true sc it it')
    (K : FmOk P F) (S : ScOk sc F) (R : Room n F.A) (HM : HmOk true F.A) (I : Inv P F l H s) {Q : QV} {X : XV} (q : wpE G true (.comp elt' x it' ifs') l H Q X) {cp : Pos} {use : Option (Value → Sem Unit)} {Q' E' : Value → Shared → Prop} (hE : ∀ V s', PostX P F l X V s' → E' V s') :
    wpAny P.M F.A (comprehension (.ListComp elt [⟨.Name x px, it, ifs, 0⟩] scope pos) scope F.env cp (newList []) false (eval it F.env) use) Q' E' s := by
  obtain ⟨n1, n2, n3, n4, n5, n6⟩ := comp_names S K.kind hf
  obtain ⟨cl, hcl, nd, c1, c2⟩ := closure_ok (env := F.env) n2 fun y hy => (n5 y hy).2
  conv at q => whnf
  refine wpAny_comprehension_free (use := use) rfl (fun _ => folded_no hset) hcl n1 (fun y hy hl => ?_) (wpAny_mono (hi K S R HM I q) (fun V s1 q => ?_) hE)
  · obtain ⟨y, k⟩ := y
    have hl : k = .local := hl
    subst hl
    exact lookup_of_mem n2 hy
  obtain ⟨H1, I1, q, _⟩ := q
  exact absurd q (by simp)
theorem s_comp_no {sc scope : Scope} {x : Str} {px pos : Pos} {elt it : Expr} {ifs : List Expr} {elt' it' : Ex} {ifs' : List Ex} (hf : compFine sc scope x = true) (hset : notSet it = true) (hi : SE P G n true sc it it')
    (K : FmOk P F) (S : ScOk sc F) (R : Room n F.A) (HM : HmOk true F.A) (I : Inv P F l H s) {Q : QV} {X : XV} (q : wpE G true (.comp elt' x it' ifs') l H Q X) :
    wpAny P.M F.A (eval (.ListComp elt [⟨.Name x px, it, ifs, 0⟩] scope pos) F.env) (PostE P F l Q) (PostX P F l X) s := by
  rw [eval_ListComp]
  exact s_comp_no_core hf hset hi K S R HM I q fun _ _ z => z
theorem s1_asgComp_ok {sc scope : Scope} {x y : Str} {px py pos spos : Pos} {elt it : Expr} {ifs : List Expr} {elt' it' : Ex} {ifs' : List Ex} (hs : (swapFine sc scope y && py.line == pos.line) = true) (hf : compFine sc scope x = true) (hset : notSet it = true) (hi : SE P G n hm sc it it') (he : SE P G n hm scope elt elt') (ht : STall P G n hm scope ifs ifs')
    (K : FmOk P F) (S : ScOk sc F) (R : Room n F.A) (HM : HmOk hm F.A) (ro : F.ro = false) (I : Inv P F l H s) {Q : QS} {X : XS} (q : wpS G hm (.asg y (.comp elt' x it' ifs')) l H Q X) :
    wpAny P.M F.A (exec (.Assign [.Name y py] (.ListComp elt [⟨.Name x px, it, ifs, 0⟩] scope pos) spos) F.env) (PostS P F Q) (PostSX P F X) s := by
  simp only [swapFine, Bool.and_eq_true, beq_iff_eq, Bool.not_eq_true'] at hs
  obtain ⟨⟨h1, h2⟩, h3⟩ := hs
  have ky : F.env.kindOf y = some .local := S.locl y h1
  have hsw : swapsWith (.ListComp elt [⟨.Name x px, it, ifs, 0⟩] scope pos) (some (.Name y py)) spos.line F.env = pure true := by
    have : (F.env.blockKind == .function && F.env.kindOf y == some .local && py.line == pos.line && !(scope.names.any fun (n, k) => n == y && (k == .local || k == .cell))) = true := by
      rw [ky]
      have e : F.env.blockKind = .function := by unfold Env.blockKind; rw [K.kind]; rfl
      rw [e, h3]
      have e2 : (scope.names.any fun (n, k) => n == y && (k == .local || k == .cell)) = false := h2
      rw [e2]; simp
    show (pure (F.env.blockKind == .function && F.env.kindOf y == some .local && py.line == pos.line && !(scope.names.any fun (n, k) => n == y && (k == .local || k == .cell))) : Sem Bool) = pure true
    rw [this]
  rw [exec_Assign_Name_used _ _ _ _ hsw]
  conv at q => whnf
  refine wpAny_bind (wpAny_standAt (wpAny_bind ?_))
  show wpAny _ F.A (do let _ ← comprehension (.ListComp elt [⟨.Name x px, it, ifs, 0⟩] scope pos) scope F.env _ (newList []) false (eval it F.env) (some (assign (.Name y py) F.env))) _ _ s
  cases hm with
  | true => exact wpAny_bind (wpAny_mono (s_comp_no_core hf hset hi K S R HM I q (use := some (assign (.Name y py) F.env)) (Q' := fun _ s' => PostS P F Q .next s') (fun _ _ z => PostX.toS z)) (fun _ s' hq => wpAny_pure (wpAny_pure hq)) fun _ _ e => e)
  | false =>
  refine wpAny_bind (wpAny_mono (s_comp_core rfl hf hset hi he ht K S R HM I q (use := some (assign (.Name y py) F.env)) (Q' := fun _ s' => PostS P F Q .next s') (fun _ _ z => PostX.toS z) fun {Hc s' us D C m r} IF oD oC hDC hn eD hz q => ?_) (fun _ s' hq => wpAny_pure (wpAny_pure hq)) fun _ _ e => e)
  show wpAny P.M F.A (assign (.Name y py) F.env (.ref D)) (fun _ s'' => ∃ m, s''.heap.Ns C m ∧ ∀ h', Heap.SameBut C s''.heap h' → PostS P F Q .next { s'' with heap := h' }) (PostSX P F X) s'
  obtain ⟨oc, es, ep, hoc, hrest⟩ := id hn
  have I1 := IF.track (o := .list (us.toList.map er)) oD trivial (mt_list eD (szl hz))
  have oC1 : Off F (Hc.upd D (.list (us.toList.map er))) C := ⟨(Hp.upd_ne _ _ (Ne.symm hDC)).trans oC.h, oC.g, oC.fr, oC.l, oC.c⟩
  have I2 := I1.also oC1 hoc
  refine wpAny_assign_Name (st_local (F := F.also C oc) (K.also oC1) I2 ky fun s4 I4 => ?_)
  obtain ⟨I5, hC5, oC5⟩ := Inv.back K oC1 I4
  refine ⟨m, ⟨oc, es, ep, hC5, hrest⟩, fun h' sb => ⟨_, _, I5.turn (t := s4.toks) (h' := h') K oC5 fun b o hb e => sb.extBut b o hb e, q⟩⟩

end
end Mine
end

section
open PySem PyProof.Rows PySem.Calls
namespace Mine

section
variable {P : Pm} {F : Fm} {G : Gx} {n : Nat} {hm : Bool} {l : Loc} {H : Hp} {s : Shared} {E : Value → Shared → Prop} {Q : QV}

noncomputable def bfVal : Bf → Option Value
  | .len => some (.builtin "len") | .list => some (.type "list") | .tuple => some (.type "tuple") | .sorted => some (.builtin "sorted") | .int => some (.type "int") | .all => some (.builtin "all")
  | .max2 => some (.builtin "max") | .max1 => some (.builtin "max") | .min2 => some (.builtin "min") | .range => some (.type "range") | .dict => some (.type "dict")
  | _ => none
theorem bf_val {f : Str} {k : Nat} {b : Bf} (h : bfTab f k = some b) : ∃ v, bfVal b = some v ∧ bltTab f = some v := by
  unfold bfTab at h
  by_cases e : (f == ("len" : Str)) = true
  · rw [if_pos e] at h
    rw [eq_of_beq e]
    split at h
    · cases h; exact ⟨_, rfl, by decide +kernel⟩
    · cases h
  rw [if_neg e] at h
  clear e
  by_cases e : (f == ("list" : Str)) = true
  · rw [if_pos e] at h
    rw [eq_of_beq e]
    split at h
    · cases h; exact ⟨_, rfl, by decide +kernel⟩
    · cases h
  rw [if_neg e] at h
  clear e
  by_cases e : (f == ("tuple" : Str)) = true
  · rw [if_pos e] at h
    rw [eq_of_beq e]
    split at h
    · cases h; exact ⟨_, rfl, by decide +kernel⟩
    · cases h
  rw [if_neg e] at h
  clear e
  by_cases e : (f == ("sorted" : Str)) = true
  · rw [if_pos e] at h
    rw [eq_of_beq e]
    split at h
    · cases h; exact ⟨_, rfl, by decide +kernel⟩
    · cases h
  rw [if_neg e] at h
  clear e
  by_cases e : (f == ("dict" : Str)) = true
  · rw [if_pos e] at h
    rw [eq_of_beq e]
    split at h
    · cases h; exact ⟨_, rfl, by decide +kernel⟩
    · cases h
  rw [if_neg e] at h
  clear e
  by_cases e : (f == ("int" : Str)) = true
  · rw [if_pos e] at h
    rw [eq_of_beq e]
    split at h
    · cases h; exact ⟨_, rfl, by decide +kernel⟩
    · cases h
  rw [if_neg e] at h
  clear e
  by_cases e : (f == ("all" : Str)) = true
  · rw [if_pos e] at h
    rw [eq_of_beq e]
    split at h
    · cases h; exact ⟨_, rfl, by decide +kernel⟩
    · cases h
  rw [if_neg e] at h
  clear e
  by_cases e : (f == ("max" : Str)) = true
  · rw [if_pos e] at h
    rw [eq_of_beq e]
    split at h
    · cases h; exact ⟨_, rfl, by decide +kernel⟩
    · split at h
      · cases h; exact ⟨_, rfl, by decide +kernel⟩
      · cases h
  rw [if_neg e] at h
  clear e
  by_cases e : (f == ("min" : Str)) = true
  · rw [if_pos e] at h
    rw [eq_of_beq e]
    split at h
    · cases h; exact ⟨_, rfl, by decide +kernel⟩
    · cases h
  rw [if_neg e] at h
  clear e
  by_cases e : (f == ("range" : Str)) = true
  · rw [if_pos e] at h
    rw [eq_of_beq e]
    cases h; exact ⟨_, rfl, by decide +kernel⟩
  rw [if_neg e] at h
  cases h

theorem s_bf (Y : PmOk P) (K : FmOk P F) (I : Inv P F l H s) {b : Bf} {v : Value} {Vs : List Value} (hv : bfVal b = some v) (hh : b = .len ∨ F.A.handled = none) (h : bfV b (Vs.map er) H Q) : wpAny P.M F.A (call v Vs) (PostE P F l Q) E s := by
  unfold bfV at h
  split at h
  · obtain ⟨V, eV, h'⟩ := on1_elim h; clear h; subst eV; have h := h'; clear h'
    cases hv
    exact s_len I rfl h
  · obtain ⟨V, eV, h'⟩ := on1_elim h; clear h; subst eV; have h := h'; clear h'
    cases hv
    unfold seqV at h
    split at h
    · rename_i a e; have := er_ref e; subst this
      split at h
      · rename_i hx
        obtain ⟨vs, ⟨o, ho, hc, n, hd⟩, e2, _⟩ := I.objs _ _ hx
        rw [← e2] at h
        exact s_copy K I (.inl rfl) ho hc hd (by simpa using h.1) h.2
      · rename_i hx
        obtain ⟨vs, ⟨o, ho, hc, n, hd⟩, e2, _⟩ := I.objs _ _ hx
        rw [← e2] at h
        exact s_copy K I (.inr rfl) ho hc hd (by simpa using h.1) h.2
      · exact h.elim
    · exact h.elim
  · obtain ⟨V, eV, h'⟩ := on1_elim h; clear h; subst eV; have h := h'; clear h'
    cases hv
    obtain ⟨a, eV, h'⟩ := onRef_elim rfl h; clear h; subst eV; have h := h'; clear h'
    split at h
    · rename_i xs hx
      obtain ⟨hz, q⟩ := h
      obtain ⟨vs, hl, e2, _⟩ := I.objs _ _ hx
      have hz' : vs.size ≤ sizeLine := by rw [← e2] at hz; simpa using hz
      refine call_tuple_list hl (fun h' hk => ?_) hz'
      have nn : s.heap.get? h'.objs.size = none := by
        cases q : s.heap.get? h'.objs.size with
        | none => rfl
        | some o => exact absurd (Heap.lt_size (hk _ _ q)) (Nat.lt_irrefl _)
      have of := I.off K nn
      have I' : Inv P F l H { s with heap := h'.push { cls := .type "tuple", data := .seq vs }, toks := s.toks } := I.step fun b o e _ => Heap.get?_push_of_some _ (hk b o e)
      have q := q _ of.h
      rw [← e2] at q
      exact ⟨_, I'.track (o := .tup (vs.toList.map er)) of trivial (mt_tup ⟨_, Heap.get?_push_size _ rfl, rfl, 0, rfl⟩ (by simp only [sizeLine] at hz'; omega)), q⟩
    · rename_i xs hx
      obtain ⟨vs, hl, e2, _⟩ := I.objs _ _ hx
      exact call_tuple_same hl ⟨H, I, h⟩
    · exact h.elim
  · obtain ⟨V, eV, h'⟩ := on1_elim h; clear h; subst eV; have h := h'; clear h'
    cases hv
    exact s_sorted Y K I (hh.resolve_left (by simp)) h
  · obtain ⟨V, eV, h'⟩ := on1_elim h; clear h; subst eV; have h := h'; clear h'
    cases hv
    obtain ⟨b, eV, h'⟩ := onBool_elim rfl h; clear h; subst eV; have h := h'; clear h'
    exact call_int_bool ⟨H, I.toks _, h⟩
  · obtain ⟨V, eV, h'⟩ := on1_elim h; clear h; subst eV; have h := h'; clear h'
    cases hv
    obtain ⟨a, eV, h'⟩ := onRef_elim rfl h; clear h; subst eV; have h := h'; clear h'
    split at h
    · rename_i hx
      obtain ⟨bs, hb, q⟩ := h
      exact s_all K I (hh.resolve_left (by simp)) hx hb q
    · exact h.elim
  · obtain ⟨V, W, eV, h'⟩ := on2_elim h; clear h; subst eV; have h := h'; clear h'
    cases hv
    obtain ⟨x, _, eV, h'⟩ := onInt_elim rfl h; clear h; subst eV; have h := h'; clear h'
    obtain ⟨y, _, eV, h'⟩ := onInt_elim rfl h; clear h; subst eV; have h := h'; clear h'
    exact s_max2 I (hh.resolve_left (by simp)) h
  · obtain ⟨V, W, eV, h'⟩ := on2_elim h; clear h; subst eV; have h := h'; clear h'
    cases hv
    obtain ⟨x, _, eV, h'⟩ := onInt_elim rfl h; clear h; subst eV; have h := h'; clear h'
    obtain ⟨y, _, eV, h'⟩ := onInt_elim rfl h; clear h; subst eV; have h := h'; clear h'
    exact s_min2 I (hh.resolve_left (by simp)) h
  · cases hv
    exact s_range K I h
  · exact h.elim

theorem se_bf (Y : PmOk P) (B : BltOk P) {sc : Scope} {f : Str} {b : Bf} {p pos : Pos} {args : List Expr} {args' : List Ex} {k : Nat} (hb : bfTab f k = some b) (hs : args.all notStar = true) (hl : isLoc sc f = some false) (ha : SEs P G n hm sc args args') :
    SE P G n hm sc (.Call (.Name f p) args [] pos) (.bf b args') := by
  intro F l K S R HM H s Q X I q
  conv at q => whnf
  obtain ⟨v, hv, hbt⟩ := bf_val hb
  refine wpAny_Call_NameR (ld_blt Y B K S I hbt hl ?_)
  refine callWith_any hs (wpAny_mono (ha K S R HM I q) (fun Vs s2 q => ?_) fun _ _ z => z)
  obtain ⟨H2, I2, hf, q⟩ := q
  refine ⟨?_, s_bf Y K I2 hv (hf.imp id HM) q⟩
  cases b <;> cases hv <;> exact ⟨.machine, .inr rfl, PySem.W.Looks.of_pure rfl⟩

theorem se_dict0 {sc : Scope} {pos : Pos} : SE P G n hm sc (.Dict [] [] pos) (.dict [] []) := by
  intro F l K S R HM H s Q X I q
  conv at q => whnf
  refine wpAny_Dict_empty ⟨_, I.alloc K (o := .idict []) (t := s.toks) ⟨[], ⟨_, #[], 0, Heap.get?_push_size _ rfl, ?_, rfl, ?_, ?_, by simp⟩, rfl⟩, ?_⟩
  · exact ⟨rfl, rfl, rfl⟩
  · intro e he; simp at he
  · exact Pairs.nil
  · rcases q with ⟨_, _, q⟩ | ⟨ss, e, _, _, _, hne, _⟩
    · exact q _ I.fresh
    · simp at e; exact absurd e hne
end
end Mine
end

section
open PySem PyProof.Rows PySem.Calls
namespace Mine

/-! ## every translated text keeps what its wp says -/
theorem se_comp {P : Pm} {G : Gx} {n : Nat} {hm : Bool} {sc scope : Scope} {x : Str} {px pos : Pos} {elt it : Expr} {ifs : List Expr} {elt' it' : Ex} {ifs' : List Ex} (hf : compFine sc scope x = true) (hset : notSet it = true) (hi : SE P G n hm sc it it') (he : SE P G n hm scope elt elt') (ht : STall P G n hm scope ifs ifs') :
    SE P G n hm sc (.ListComp elt [⟨.Name x px, it, ifs, 0⟩] scope pos) (.comp elt' x it' ifs') := by
  intro F l K S R HM H s Q X I q
  cases hm with
  | false => exact s_comp rfl hf hset hi he ht K S R HM I q
  | true => exact s_comp_no hf hset hi K S R HM I q
theorem s1_asgComp {P : Pm} {G : Gx} {n : Nat} {hm : Bool} {sc scope : Scope} {x y : Str} {px py pos spos : Pos} {elt it : Expr} {ifs : List Expr} {elt' it' : Ex} {ifs' : List Ex} (hs : (swapFine sc scope y && py.line == pos.line) = true) (hf : compFine sc scope x = true) (hset : notSet it = true) (hi : SE P G n hm sc it it') (he : SE P G n hm scope elt elt') (ht : STall P G n hm scope ifs ifs') :
    S1 P G n hm sc (.Assign [.Name y py] (.ListComp elt [⟨.Name x px, it, ifs, 0⟩] scope pos) spos) (.asg y (.comp elt' x it' ifs')) :=
  fun _ _ K S R HM ro _ _ _ _ I q => s1_asgComp_ok hs hf hset hi he ht K S R HM ro I q

section
variable {P : Pm} {F : Fm} {G : Gx} {n : Nat} {hm : Bool} {l : Loc} {H : Hp} {s : Shared}
theorem ans2 {Ps : Shared → Prop} {x c d : Value} {a b : Bool} (h1 : Answers Ps x c a) (h2 : Answers Ps x d b) : AnswersAll Ps x [c, d] [a, b] := .cons h1 (.cons h2 .nil)
theorem s_isi_lt (I : Inv P F l H s) {E : Value → Shared → Prop} {V : Value} {tp : Addr} {Q : QV} (ht : s.heap.get? tp = some { cls := .type "tuple", data := .seq #[.type "list", .type "tuple"] }) (h : isiV G (er V) .listOrTuple H Q) :
    wpAny P.M F.A (call (.builtin "isinstance") [V, .ref tp]) (PostE P F l Q) E s := by
  have R : ∀ {b : Bool}, Q (.bool b) H → ∀ u, PostE P F l Q (.bool b) { s with toks := u } := fun q _ => ⟨H, I.toks _, q⟩
  unfold isiV at h
  cases V with
  | none => exact IsiPair.tupleOfB (Tx := "NoneType") (ans2 (Answers.of_false_none (by decide +kernel) PySem.F.isi_meta_list PySem.F.sub_NoneType_list) (Answers.of_false_none (by decide +kernel) PySem.F.isi_meta_tuple PySem.F.sub_NoneType_tuple)) rfl ht rfl (R h.2)
  | bool b => exact IsiPair.tupleOfB (Tx := "bool") (ans2 (Answers.of_false_bool (by decide +kernel) PySem.F.isi_meta_list PySem.F.sub_bool_list) (Answers.of_false_bool (by decide +kernel) PySem.F.isi_meta_tuple PySem.F.sub_bool_tuple)) rfl ht rfl (R h.2)
  | int i t => exact IsiPair.tupleOfB (Tx := "int") (ans2 (Answers.of_false_int (by decide +kernel) PySem.F.isi_meta_list PySem.F.sub_int_list) (Answers.of_false_int (by decide +kernel) PySem.F.isi_meta_tuple PySem.F.sub_int_tuple)) rfl ht rfl (R h.2)
  | str x t => exact IsiPair.tupleOfB (Tx := "str") (ans2 (Answers.of_false_str (by decide +kernel) PySem.F.isi_meta_list PySem.F.sub_str_list) (Answers.of_false_str (by decide +kernel) PySem.F.isi_meta_tuple PySem.F.sub_str_tuple)) rfl ht rfl (R h.2)
  | ref a =>
    simp only [er] at h
    cases hx : H a with
    | none => rw [hx] at h; exact h.elim
    | some o =>
      rw [hx] at h
      cases o with
      | list xs =>
        obtain ⟨vs, ⟨o, ho, hc, _⟩, _⟩ := I.objs _ _ hx
        exact IsiPair.tupleOfB (Tx := "list") (ans2 (Answers.of_true PySem.F.isi_meta_list PySem.F.sub_list_list) (Answers.of_false_list (by decide +kernel) PySem.F.isi_meta_tuple PySem.F.sub_list_tuple)) ⟨o, ho, hc⟩ ht rfl (R h.2)
      | tup xs =>
        obtain ⟨vs, ⟨o, ho, hc, _⟩, _⟩ := I.objs _ _ hx
        exact IsiPair.tupleOfB (Tx := "tuple") (ans2 (Answers.of_false_tuple (by decide +kernel) PySem.F.isi_meta_list PySem.F.sub_tuple_list) (Answers.of_true PySem.F.isi_meta_tuple PySem.F.sub_tuple_tuple)) ⟨o, ho, hc⟩ ht rfl (R h.2)
      | idict kvs =>
        obtain ⟨vs, ⟨o, es, ep, ho, hc, _⟩, _⟩ := I.objs _ _ hx
        exact IsiPair.tupleOfB (Tx := "dict") (ans2 (Answers.of_false_dict (by decide +kernel) PySem.F.isi_meta_list PySem.F.sub_dict_list) (Answers.of_false_dict (by decide +kernel) PySem.F.isi_meta_tuple PySem.F.sub_dict_tuple)) ⟨o, ho, hc.1⟩ ht rfl (R h.2)
      | sdict kvs =>
        obtain ⟨vs, ⟨o, es, ep, ho, hc, _⟩, _⟩ := I.objs _ _ hx
        exact IsiPair.tupleOfB (Tx := "dict") (ans2 (Answers.of_false_dict (by decide +kernel) PySem.F.isi_meta_list PySem.F.sub_dict_list) (Answers.of_false_dict (by decide +kernel) PySem.F.isi_meta_tuple PySem.F.sub_dict_tuple)) ⟨o, ho, hc.1⟩ ht rfl (R h.2)
      | exc C => exact h.2.elim
      | rlist _ => exact h.elim
      | inst _ _ => exact h.elim
      | ns _ => exact h.elim
      | range _ _ _ => exact h.elim
  | _ => exact h.elim

theorem se_isi_lt (Y : PmOk P) (B : BltOk P) {sc : Scope} {e : Expr} {e' : Ex} {p p2 p3 p4 pos : Pos} {kk : Nat} (hn : notStar e = true) (hi : isLoc sc "isinstance" = some false) (hx : isLoc sc "list" = some false) (hy : isLoc sc "tuple" = some false) (he : SE P G n hm sc e e') :
    SE P G n hm sc (.Call (.Name "isinstance" p) [e, .Tuple [.Name "list" p2, .Name "tuple" p3] kk p4] [] pos) (.isi e' .listOrTuple) := by
  intro F l K S R HM H s Q X I q
  conv at q => whnf
  refine wpAny_Call_NameR (ld_blt Y B K S I (v := .builtin "isinstance") (by decide +kernel) hi ?_)
  refine callWith_any (by rw [List.all_cons, hn]; rfl) ?_
  rw [star_cons hn]
  refine spliced_cons (wpAny_mono (he K S R HM I q) (fun V s' q => ?_) fun _ _ z => z)
  obtain ⟨H1, I1, q⟩ := q
  refine spliced_cons (Tuple_ (k := kk) (spliced_cons (ld_blt Y B K S I1 (v := .type "list") (by decide +kernel) hx (spliced_cons (ld_blt Y B K S I1 (v := .type "tuple") (by decide +kernel) hy (spliced_nil (wpAny_newTuple ?_ (by simp [sizeLine]))))))))
  refine spliced_nil ⟨machine_builtin _ _ _, ?_⟩
  have I2 := I1.step (t := s'.toks) (h' := s'.heap.push { cls := .type "tuple", data := .seq #[.type "list", .type "tuple"] }) fun b o e _ => Heap.get?_push_of_some _ e
  exact s_isi_lt I2 (Heap.get?_push_size _ rfl) q
end

section
variable {P : Pm} {G : Gx} {n : Nat} {hm : Bool} {sc : Scope}
theorem sts_one {e : Expr} {e' : Ex} (h : ST P G n hm sc e e') : STs P G n hm sc [e] [e'] := sts_cons (fun _ => rfl) h sts_nil
theorem sts_more {e e2 : Expr} {e' e2' : Ex} {es : List Expr} {es' : List Ex} (h : ST P G n hm sc e e') (r : STs P G n hm sc (e2 :: es) (e2' :: es')) : STs P G n hm sc (e :: e2 :: es) (e' :: e2' :: es') := sts_cons (fun q => nomatch q) h r
theorem se_bop1 {op : BoolOp} {e : Expr} {e' : Ex} {es : List Expr} {es' : List Ex} {pos : Pos} (h : SBs P G n hm sc (e :: es) (e' :: es')) : SE P G n hm sc (.BoolOp op (e :: es) pos) (.bop (op == .And) (e' :: es')) := se_bop (List.cons_ne_nil _ _) h
theorem se_idx1 {x y : Expr} {x' y' : Ex} {pos : Pos} (hx : SE P G n hm sc x x') (hy : SE P G n hm sc y y') (hsl : (fun o i => subscripted y false o i) = fun o i => operate [o, i] (getItem o i)) : SE P G n hm sc (.Subscript x y pos) (.idx x' y') := se_idx hx hy fun o i => congrFun (congrFun hsl o) i
theorem st_of_se {e : Expr} {e' : Ex} (h : SE P G n hm sc e e') (he : (fun env whole => PySem.isTrue e env whole) = fun env whole => (do let v ← whole; standAt e.pos; holding [v] (truthy v))) : ST P G n hm sc e e' := SE.test h fun env w => congrFun (congrFun he env) w
end
theorem len1 {vals : List Value} (h : vals.length = 1) : ∃ a, vals = [a] := by
  cases vals with
  | nil => cases h
  | cons a r => cases r with
    | nil => exact ⟨a, rfl⟩
    | cons _ _ => simp at h
theorem len2 {vals : List Value} (h : vals.length = 2) : ∃ a b, vals = [a, b] := by
  cases vals with
  | nil => cases h
  | cons a r =>
    obtain ⟨b, rfl⟩ := len1 (vals := r) (by simpa using h)
    exact ⟨a, b, rfl⟩
theorem len3 {vals : List Value} (h : vals.length = 3) : ∃ a b c, vals = [a, b, c] := by
  cases vals with
  | nil => cases h
  | cons a r =>
    obtain ⟨b, c, rfl⟩ := len2 (vals := r) (by simpa using h)
    exact ⟨a, b, c, rfl⟩
noncomputable def bodyOf : Stmt → List Stmt
  | .FunctionDef _ _ b _ _ _ _ _ _ _ => b
  | _ => []
noncomputable def scOf : Stmt → Scope
  | .FunctionDef _ _ _ _ _ _ sc _ _ _ => sc
  | _ => default
end Mine
end

section
open PySem PyProof.Rows PySem.Calls
namespace Mine

/-! ## the defs of a text, by the depth of their calls -/
noncomputable abbrev Tab := Addr → Option (List Str × List Sm)

noncomputable def GG (g : Gx) (tab : Tab) : Nat → Gx
  | 0 => { g with fn := fun _ _ _ _ _ _ => False }
  | n + 1 => { g with fn := fun f hm args H Q X => match tab f with
      | some (ps, sm) => wpF (GG g tab n) hm ps sm args H Q X
      | none => False }

structure TabOk (P : Pm) (tab : Tab) : Prop where
  ok : ∀ f ps sm, tab f = some (ps, sm) → ∃ sc body, FnAt P f ps sc body ∧ ∀ {G : Gx} {n : Nat}, GxOk P G → SndFn P G n → ∀ hm, SS P G n hm sc body sm

section
variable {P : Pm} {g : Gx} {tab : Tab}

theorem gg_ok (GO : GxOk P g) (n : Nat) : GxOk P (GG g tab n) := by
  cases n <;> exact ⟨GO.glob, GO.fld, GO.meth, GO.init, GO.exc, GO.sub, GO.self, GO.own⟩

theorem gg_snd (Y : PmOk P) (B : BltOk P) (GO : GxOk P g) (T : TabOk P tab) : ∀ n, SndFn P (GG g tab n) n
  | 0 => ⟨fun h => h.elim, fun h => h.elim⟩
  | n + 1 => by
    have ih := gg_snd Y B GO T n
    refine ⟨fun {f hm args H Q X} h => ?_, fun {f hm args H Q X} h {F l s vals} K R HM I hv => ?_⟩
    · have h : (match tab f with | some (ps, sm) => wpF (GG g tab n) hm ps sm args H Q X | none => False) := h
      split at h
      · rename_i ps sm e
        obtain ⟨sc, body, D, _⟩ := T.ok f ps sm e
        exact D.keep
      · exact h.elim
    · have h : (match tab f with | some (ps, sm) => wpF (GG g tab n) hm ps sm args H Q X | none => False) := h
      split at h
      · rename_i ps sm e
        obtain ⟨sc, body, D, htr⟩ := T.ok f ps sm e
        exact call_def Y D (htr (gg_ok GO n) ih hm) h K R HM I hv
      · exact h.elim

/-- the call of the law itself -/
theorem call_top (Y : PmOk P) (B : BltOk P) (GO : GxOk P g) (T : TabOk P tab) {n : Nat} {f : Addr} {A : Around} (hA : A.frames = some []) (hh : A.handled = none) (R : RoomC (n + 1) A) {vals : List Value} {Q : QV} {H₀ : Hp} (hH : ∀ a o, H₀ a = some o → o.isR = true ∧ Mt P P.base a o)
    (q : (GG g tab (n + 1)).fn f false (vals.map er) H₀ Q (fun _ _ => False)) :
    codeAny P.M A (.call (.ref f) ⟨vals, []⟩) (fun r s' => ∃ V H', r = .ok (.ret V) ∧ Q (er V) H' ∧ s'.gens = P.s₀.gens ∧ s'.os = P.s₀.os ∧ ∀ b o, P.base.get? b = some o → s'.heap.get? b = some o) P.s₀ := by
  have q : (match tab f with | some (ps, sm) => wpF (GG g tab n) false ps sm (vals.map er) H₀ Q (fun _ _ => False) | none => False) := q
  split at q
  · rename_i ps sm e
    obtain ⟨sc, body, D, htr⟩ := T.ok f ps sm e
    have hb : SS P (GG g tab n) n false sc body sm := htr (gg_ok GO n) (gg_snd Y B GO T n) false
    obtain ⟨hlen, q⟩ := q
    obtain ⟨o, fd, d1, d2, d3, d4, d5, d6, d7, d8, d9⟩ := D.at_
    have fine := D.fine
    unfold scFine at fine
    simp only [Bool.and_eq_true, beq_iff_eq, Bool.not_eq_true', decide_eq_true_eq, List.all_eq_true, Bool.or_eq_true, bne_iff_ne, ne_eq] at fine
    obtain ⟨⟨⟨⟨⟨⟨f1, f2⟩, f3⟩, f4⟩, f5⟩, f6⟩, f7⟩ := fine
    have kd : ∀ x, (callEnvC fd P.s₀.heap.objs.size f).kindOf x = sc.names.lookup x := fun x => by show fd.scope.names.lookup x = _; rw [d5]
    have cl : ∀ x, sc.names.lookup x = some .cell → ∃ c, (callEnvC fd P.s₀.heap.objs.size f).cells.lookup x = some c := fun x hx => by
      show ∃ c, (cellsFrom _ fd.scope.names []).lookup x = some c
      rw [d5]; exact cells_lookup _ _ _ hx
    have nf : ∀ x, sc.names.lookup x ≠ some .free := fun x hx => f5 _ (mem_of_lookup hx) rfl
    refine codeAny_call_cells (binds := ps.zip vals) (by have := R.1; omega) d1 d2 Y.lim d3 d4 (d9 vals (by simpa using hlen.symm)) d6 (fun x hx => ?_) (fun s₁ x => ?_) (by rw [d5]; exact f2) (by rw [d5]; exact f3) (by rw [d5]; exact f1)
    · have := f6 x.1 (List.of_mem_zip (a := x.1) (b := x.2) hx).1
      rw [d5]
      rcases this with h | h
      · exact .inl h
      · obtain ⟨c, hc⟩ := cells_lookup (x := x.1) sc.names (P.s₀.heap.objs.size + 1) [] h
        exact .inr ⟨h, by rw [hc]; rfl⟩
    · let F : Fm := { env := callEnvC fd P.s₀.heap.objs.size f, A := A.deeper (callEnvC fd P.s₀.heap.objs.size f), g := fun b => P.base.get? b, fr := fun _ => none, ro := false }
      have nn : ∀ b, P.s₀.heap.objs.size ≤ b → P.base.get? b = none := fun b hb => Heap.get?_none_of_le hb
      have ab : ∀ y c, (y, c) ∈ F.env.cells → P.s₀.heap.objs.size < c := x.above
      have K : FmOk P F := by
        refine ⟨by show fd.scope.kind = _; rw [d5]; exact f1, d7, d8, fun b o e => e, Nat.le_refl _, nn _ (Nat.le_refl _), rfl, fun y c hm => Nat.ne_of_gt (ab y c hm), fun _ y c hm => ⟨nn c (Nat.le_of_lt (ab y c hm)), rfl⟩, x.apart,
          fun y c hm => lookup_of_mem (cells_names _ _ _ (by rw [d5]; exact f4) .nil (by simp)) hm, fun _ _ _ => rfl, fun b d e => (nomatch e), ?_⟩
        refine ⟨F.env, [], ?_, fun _ => ⟨rfl, rfl⟩, fun e he => ?_⟩
        · show A.frames.map _ = _
          rw [hA]; rfl
        · rcases List.mem_cons.mp he with rfl | he
          · exact ⟨by show fd.scope.kind ≠ _; rw [d5, f1]; decide, _, rfl, .inl rfl⟩
          · cases he
      have S : ScOk sc F := by
        refine ⟨fun y hy => ?_, fun y hy => ?_, fun y hy => (kd y).trans hy, fun y hy => ⟨(kd y).trans hy, cl y hy⟩⟩
        · unfold isLoc at hy
          split at hy
          · rename_i e; exact .inl ((kd y).trans e)
          · rename_i e; exact .inr ⟨.inl ((kd y).trans e), cl y e⟩
          · rename_i e; exact absurd e (nf y)
          · split at hy <;> cases hy
          · cases hy
        · unfold isLoc at hy
          split at hy
          · split at hy <;> cases hy
          · split at hy <;> cases hy
          · split at hy <;> cases hy
          · rename_i e; exact (kd y).trans e
          · cases hy
      have I : Inv P F (fun y => (ps.zip (vals.map er)).lookup y) H₀ s₁ := by
        obtain ⟨⟨⟨h, tk, rfl⟩, ns, keep, fresh⟩, cell, apart, above⟩ := x
        refine ⟨rfl, rfl, keep, fun b d e => (nomatch e), ⟨_, ns, fun y v hy hk => ((bindL_get hk ps vals _ f7 v).1 hy)⟩, fun y c e => ⟨_, cell y c e, fun v hy hk => ((bindC_get (fun q => ?_) ps vals _ f7 v).1 hy)⟩, fun a o e => ?_, fun a o e => ?_, fun a o e => ?_⟩
        · have hk : (callEnvC fd P.s₀.heap.objs.size f).kindOf y = some .cell ∨ (callEnvC fd P.s₀.heap.objs.size f).kindOf y = some .free := hk
          rw [q] at hk; simp at hk
        · obtain ⟨O, ho⟩ := (hH a o e).2.some
          exact (hH a o e).2.congr ((keep a O ho).trans ho.symm)
        · exact fre_r (hH a o e).1 (hH a o e).2.some
        · have := (hH a o e).1
          cases o <;> first | trivial | cases this
      refine wpAny_mono (hb K S ⟨?_, ?_⟩ (fun _ => hh) rfl I q) (fun fl s' z => ?_) fun EV s' z => ?_
      · show A.depth + 1 + 2 * n + 2 < _
        have := R.1; omega
      · show A.units + 3 + 30 * n + 200 < _
        have := R.2; omega
      · obtain ⟨l2, H2, I2, z⟩ := z
        cases fl with
        | next => exact ⟨_, H2, rfl, z, I2.gens, I2.os, I2.keep⟩
        | brk => exact z.elim
        | cont => exact z.elim
        | ret v => exact ⟨_, H2, rfl, z, I2.gens, I2.os, I2.keep⟩
      · obtain ⟨_, _, _, _, _, _, _, z⟩ := z
        exact z.elim
  · exact q.elim
end
end Mine
end

section
open PySem PyProof.Rows PySem.Calls
open PySem.W (Frag nsIn mg_of ns_none_of findIn plainGet hasDictIn isFn plainOver takerIn makesIn subIn mroIn clsIn typeIn findObj excIn keepIn codeIn codeRec_of own_of_in TopRead)
namespace Mine

/-! ## what a fragment of the heap says -/
noncomputable def excOk (K : Frag) (names : List Str) (C : Addr) : Bool :=
  findIn K (.ref C) "__getattribute__" == some (some (.builtin "BaseException.__getattribute__")) && findIn K (.ref C) "__getattr__" == some none &&
  (match findObj K C none "__class__" with | some (.bind g a) => g == .builtin "getset_descriptor.__get__" && a == .builtin "object.__class__" | _ => false) &&
  mroIn K C (.type "object") == some true && mroIn K C (.type "BaseException") == some true && (clsIn K C).isSome && typeIn K (.ref C) == some (.type "type") && subIn K (.ref C) (.type "ValueError") == some true &&
  subIn K (.ref C) (.ref C) == some true && excIn K C veMro "ValueError.__new__" && names.any fun x => nsIn K mainGlobals x == some (some (.ref C))

/-- the small text's top, as a fragment tells it -/
noncomputable def gOf (K : Frag) (names : List Str) : Gx where
  glob := fun x => match nsIn K mainGlobals x with | some (some v) => some (er v) | _ => none
  fn := fun _ _ _ _ _ _ => False
  meth := fun C m => match findIn K (.ref C) m with | some (some (.ref f)) => if plainGet K C m && isFn K (.ref f) then some f else none | _ => none
  init := fun C => match findIn K (.ref C) "__init__" with | some (some (.ref f)) => if makesIn K C && isFn K (.ref f) && keepIn K (.ref C) then some f else none | _ => none
  isExc := excOk K names
  sub := fun C D => subIn K (.ref C) (.ref D) == some true
  fld := fun C a => plainGet K C a && hasDictIn K C && findIn K (.ref C) a == some none && findIn K (.ref C) "__setattr__" == some (some (.builtin "object.__setattr__")) && plainOver K C && takerIn K C a == some none

theorem g_ok {P : Pm} {names : List Str} {p : Program} {loose : List Str} (Y : PmOk P) (T : TopRead p loose P.mg P.mb P.base) : GxOk P (gOf P.K names) := by
  refine ⟨fun x v h => ?_, fun C a h => ?_, fun C m f h => ?_, fun C f h => ?_, fun C h => ?_, fun C D h _ => ?_, fun C h => ?_, fun C h => ?_⟩
  · have h : (match nsIn P.K mainGlobals x with | some (some v) => some (er v) | _ => none) = some v := h
    split at h
    · rename_i V e
      cases h
      exact ⟨V, rfl, .inl (mg_of Y.kin T.g e)⟩
    · cases h
  · simp only [gOf, Bool.and_eq_true, beq_iff_eq] at h
    obtain ⟨⟨⟨⟨⟨h1, h2⟩, h3⟩, h4⟩, h5⟩, h6⟩ := h
    exact ⟨h1, h2, h3, h4, h5, h6⟩
  · have h : (match findIn P.K (.ref C) m with | some (some (.ref f)) => if plainGet P.K C m && isFn P.K (.ref f) then some f else none | _ => none) = some f := h
    split at h
    · rename_i f' e
      split at h
      · rename_i q
        simp only [Bool.and_eq_true] at q
        cases h
        exact ⟨q.1, e, q.2⟩
      · cases h
    · cases h
  · have h : (match findIn P.K (.ref C) "__init__" with | some (some (.ref f)) => if makesIn P.K C && isFn P.K (.ref f) && keepIn P.K (.ref C) then some f else none | _ => none) = some f := h
    split at h
    · rename_i f' e
      split at h
      · rename_i q
        simp only [Bool.and_eq_true] at q
        cases h
        exact ⟨q.1.1, e, q.1.2, q.2⟩
      · cases h
    · cases h
  · have h : excOk P.K names C = true := h
    unfold excOk at h
    simp only [Bool.and_eq_true, beq_iff_eq] at h
    obtain ⟨⟨⟨⟨⟨⟨⟨⟨⟨⟨h1, h2⟩, h3⟩, h4⟩, h5⟩, h6⟩, h7⟩, h8⟩, h9⟩, h10⟩, h11⟩ := h
    refine ⟨h1, h2, ?_, h4, h5, h6, h7, h8⟩
    split at h3
    · rename_i g a e
      simp only [Bool.and_eq_true, beq_iff_eq] at h3
      rw [e, h3.1, h3.2]
    · cases h3
  · have h : excOk P.K names C = true := h
    unfold excOk at h
    simp only [Bool.and_eq_true, beq_iff_eq] at h
    obtain ⟨⟨⟨⟨⟨⟨⟨⟨⟨⟨h1, h2⟩, h3⟩, h4⟩, h5⟩, h6⟩, h7⟩, h8⟩, h9⟩, h10⟩, h11⟩ := h
    show subIn P.K (.ref C) (.ref D) = some (subIn P.K (.ref C) (.ref D) == some true)
    show mroIn P.K C (.ref D) = some (mroIn P.K C (.ref D) == some true)
    unfold mroIn at h4 ⊢
    obtain ⟨cd, hc, h4⟩ := Option.bind_eq_some_iff.mp h4
    rw [hc]
    simp only [Option.bind_some]
    split at h4
    · cases h4
    · rename_i q
      rw [if_neg q]
      cases cd.mro.contains (Value.ref D) <;> rfl
  · have h : excOk P.K names C = true := h
    unfold excOk at h
    simp only [Bool.and_eq_true, beq_iff_eq] at h
    obtain ⟨⟨⟨⟨⟨⟨⟨⟨⟨⟨h1, h2⟩, h3⟩, h4⟩, h5⟩, h6⟩, h7⟩, h8⟩, h9⟩, h10⟩, h11⟩ := h
    exact beq_iff_eq.mpr h9
  · have h : excOk P.K names C = true := h
    unfold excOk at h
    simp only [Bool.and_eq_true] at h
    obtain ⟨⟨_, h10⟩, h11⟩ := h
    obtain ⟨x, _, hx⟩ := List.any_eq_true.mp h11
    exact (own_of_in Y.kin T (beq_iff_eq.mp hx) h10).obj

noncomputable def bltNames : List Str := ["len", "isinstance", "list", "tuple", "sorted", "dict", "int", "all", "max", "min", "range", "str", "bool", "ValueError", "set"]
theorem blt_mem {x : Str} {v : Value} (h : bltTab x = some v) : x ∈ bltNames ∧ bootBuiltins x = some v ∧ x ≠ "__name__" := by
  have hm : (x, v) ∈ bltL := mem_of_lookup h
  have := List.all_eq_true.1 (show (bltL.all fun p => bltNames.contains p.1 && bootBuiltins p.1 == some p.2 && p.1 != "__name__") = true by decide +kernel) _ hm
  simp only [Bool.and_eq_true, beq_iff_eq, bne_iff_ne, List.contains_iff_mem] at this
  exact ⟨this.1.1, this.1.2, this.2⟩

theorem blt_ok {P : Pm} {p : Program} {loose : List Str} (Y : PmOk P) (T : TopRead p loose P.mg P.mb P.base) (h : bltNames.all (fun x => nsIn P.K mainGlobals x == some none) = true) : BltOk P := by
  refine ⟨fun x v hx => ?_⟩
  obtain ⟨h1, h2, h3⟩ := blt_mem hx
  have := List.all_eq_true.mp h x h1
  exact ⟨ns_none_of Y.kin T.g (beq_iff_eq.mp this), (T.builtins x h3).trans h2⟩

theorem tab_mem {α : Type} {a : Addr} {b : α} : ∀ {l : List (Addr × α)}, l.lookup a = some b → (a, b) ∈ l
  | [], h => by cases h
  | (c, d) :: r, h => by
    rw [List.lookup_cons] at h
    split at h
    · rename_i e
      cases h
      have : a = c := by simpa using e
      rw [this]; exact .head _
    · exact .tail _ (tab_mem h)

/-- a def of the fragment -/
theorem fn_at {P : Pm} {f : Addr} {o : Obj} {fd : FuncData} {ps : List Str} {body : List Stmt} (Y : PmOk P) (h1 : P.K.lookup f = some o) (h2 : o.data = .func fd) (h3 : codeIn P.K fd.code fd.qualname = true) (h4 : fd.body = .stmts body) (h5 : fd.closure = []) (h6 : fd.globals = mainGlobals) (h7 : fd.builtins = builtinsNs)
    (h8 : ∀ vals, vals.length = ps.length → bindArgs fd ⟨vals, []⟩ = pure (ps.zip vals)) (h9 : scFine fd.scope ps = true) (h10 : keepIn P.K (.ref f) = true) : FnAt P f ps fd.scope body :=
  ⟨⟨o, fd, Y.kin _ _ h1, h2, codeRec_of Y.kin h3, h4, rfl, h5, h6, h7, h8⟩, h9, h10⟩
/-! ## a table, row by row -/
noncomputable def RowOk (P : Pm) (e : Addr × (List Str × List Sm)) : Prop := ∃ sc body, FnAt P e.1 e.2.1 sc body ∧ ∀ {G : Gx} {n : Nat}, GxOk P G → SndFn P G n → ∀ hm, SS P G n hm sc body e.2.2
inductive RowsOk (P : Pm) : List (Addr × (List Str × List Sm)) → Prop where
  | nil : RowsOk P []
  | cons {e : Addr × (List Str × List Sm)} {r : List (Addr × (List Str × List Sm))} : RowOk P e → RowsOk P r → RowsOk P (e :: r)
theorem RowsOk.mem {P : Pm} {L : List (Addr × (List Str × List Sm))} (h : RowsOk P L) : ∀ {e}, e ∈ L → RowOk P e := by
  induction h with
  | nil => intro e h; cases h
  | cons h1 _ ih =>
    intro e h
    cases h with
    | head => exact h1
    | tail _ h => exact ih h
theorem tabOk_of {P : Pm} {L : List (Addr × (List Str × List Sm))} (h : RowsOk P L) : TabOk P (fun f => L.lookup f) := ⟨fun _ _ _ e => h.mem (tab_mem e)⟩
end Mine
end

section
open PySem PyProof.Rows PySem.Calls
open PySem.W (Frag nsIn mg_of TopRead)
namespace Mine

/-- the script, as the law may read it -/
noncomputable def hOf (a : Addr) (ns : List Int) : Hp := fun b => if b = a then some (.rlist (ns.map fun n => Value.int n 0)) else none

/-- what is to be shown of a law: its small text tells True, whatever the script -/
noncomputable def LawTells (K : Params → Frag) (names : List Str) (tab : Tab) (f : Addr) : Prop :=
  ∀ (p : Params) (a : Addr) (ns : List Int), ns.length ≤ 63 → (GG (gOf (K p) names) tab 13).fn f false [.ref a] (hOf a ns) (fun v _ => v = .bool true) (fun _ _ => False)

theorem law_runs {prog vp : Program} {w : World} {s : Shared} {mg mb : Str → Option Value} {K : Params → Frag} {names loose : List Str} {tab : Tab} {f fa a : Addr} {nm : Str} {vs : List Value} {ns : List Int} {Q : Value → Shared → Prop} {E : Value → Shared → Prop}
    (KX : (K w.params).In s.heap) (T : TopRead vp loose mg mb s.heap) (hmg : mg nm = some (.ref fa)) (hf : nsIn (K w.params) mainGlobals nm = some (some (.ref f))) (hb : bltNames.all (fun x => nsIn (K w.params) mainGlobals x == some none) = true)
    (TO : ∀ {P : Pm}, PmOk P → BltOk P → P.K = K P.w.params → TabOk P tab) (hL : s.heap.IsList a vs.toArray) (hI : IntsAre vs ns) (hl : ¬ (63 : Int) < (ns.length : Int)) (law : LawTells K names tab f)
    (q : ∀ s', s'.gens = s.gens → s'.os = s.os → (∀ b o, s.heap.get? b = some o → s'.heap.get? b = some o) → Q (.bool true) s') :
    wpAny (model prog w) callerA (call (.ref fa) [.ref a]) Q E s := by
  let P : Pm := { prog := prog, w := w, s₀ := s, mg := mg, mb := mb, K := K w.params }
  have Y : PmOk P := ⟨T.g, T.b, T.nolimit, KX⟩
  have T' : TopRead vp loose P.mg P.mb P.base := T
  have GO : GxOk P (gOf P.K names) := g_ok Y T'
  have hH : ∀ b o, hOf a ns b = some o → o.isR = true ∧ Mt P P.base b o := fun b o h => by
    unfold hOf at h
    split at h
    · rename_i e
      cases h
      subst e
      exact ⟨rfl, vs.toArray, hL, seq_ints hI, by simp; omega⟩
    · cases h
  have B : BltOk P := blt_ok Y T' hb
  have e : fa = f := by
    have := mg_of KX T.g hf
    rw [hmg] at this
    cases this; rfl
  subst e
  have L := law w.params a ns (by omega)
  refine wpAny_call (codeAny_mono (call_top (P := P) Y B GO (TO Y B rfl) (n := 12) rfl rfl ?_ (vals := [.ref a]) hH L) fun r s' z => ?_)
  · exact ⟨by decide, by decide⟩
  · obtain ⟨V, H', rfl, hV, h1, h2, h3⟩ := z
    have := er_bool hV
    subst this
    exact q s' h1 h2 h3
end Mine
end

section
open PySem PySem.W PyProof.Rows
namespace Mine

/-! ## the top, run over a tree -/
noncomputable def topRunT (tb : String → Option Builtin) (p : Program) (w : World) (n₀ : Nat) (ann : Option Value) : Nat → SharedT → Thread → Option SharedT
  | 0, _, _ => none
  | n + 1, s, t => match through t with
    | true => some s
    | false => match stepOk n₀ ann t with
      | false => none
      | true => match stepT (denote tb) p w s t with
        | some (s', t') => topRunT tb p w n₀ ann n s' t'
        | none => none
theorem topRun_of {tb : String → Option Builtin} {p : Program} {w : World} {n₀ : Nat} {ann : Option Value} : ∀ {n : Nat} {s s' : SharedT} {t : Thread}, topRunT tb p w n₀ ann n s t = some s' → topRun tb p w n₀ ann n s.abs t = some s'.abs
  | 0, _, _, _, h => by cases h
  | n + 1, s, s', t, h => by
    unfold topRunT at h
    unfold topRun
    cases he : through t with
    | true => rw [he] at h; cases h; rfl
    | false =>
      rw [he] at h
      cases hk : stepOk n₀ ann t with
      | false => rw [hk] at h; cases h
      | true =>
        rw [hk] at h
        cases hs : stepT (denote tb) p w s t with
        | none => rw [hs] at h; cases h
        | some r => obtain ⟨s₂, t₂⟩ := r; rw [hs] at h; rw [stepT_spec hs]; exact topRun_of h

noncomputable def fillT : List Obj → BT → Nat → Option (BT × Nat)
  | [], t, n => some (t, n)
  | o :: r, t, n => match ((t.ins n o).get n).isSome with
    | true => fillT r (t.ins n o) (n + 1)
    | false => none
theorem fill_abs {life : Life} : ∀ (l : List Obj) (t : BT) (n : Nat) {t' : BT} {n' : Nat}, fillT l t n = some (t', n') → (absHeap t' n' life).objs.toList = (absHeap t n life).objs.toList ++ l
  | [], t, n, t', n', h => by cases h; simp
  | o :: r, t, n, t', n', h => by
    unfold fillT at h
    cases g : ((t.ins n o).get n).isSome with
    | false => rw [g] at h; cases h
    | true =>
      rw [g] at h
      rw [fill_abs r _ _ h, absHeap_ins g]
      show ((absHeap t n life).objs.push o).toList ++ r = _
      simp
noncomputable def toT (s : Shared) : Option SharedT := match fillT s.heap.objs.toList .nil 0 with
  | some (t, n) => some ⟨t, n, s.heap.life, s.gens, s.drawn, s.toks, s.os⟩
  | none => none
theorem toT_abs {s : Shared} {x : SharedT} (h : toT s = some x) : x.abs = s := by
  unfold toT at h
  cases e : fillT s.heap.objs.toList .nil 0 with
  | none => rw [e] at h; cases h
  | some r =>
    obtain ⟨t, n⟩ := r
    rw [e] at h
    cases h
    have := fill_abs (life := s.heap.life) _ _ _ e
    obtain ⟨⟨objs, life⟩, gens, drawn, toks, os⟩ := s
    show Shared.mk (absHeap t n life) gens drawn toks os = _
    congr 1
    have e2 : (absHeap t n life).objs.toList = objs.toList := by simpa [absHeap, BT.list] using this
    have e3 : (absHeap t n life).objs = objs := Array.toList_inj.mp e2
    show Heap.mk (absHeap t n life).objs life = _
    rw [e3]

noncomputable def topFromT (tb : String → Option Builtin) (p : Program) (w : World) (N : Nat) (s₀ : Shared) : Option Shared :=
  match s₀.heap.isNs mainGlobals && s₀.gens.size == 0 with
  | true => match toT s₀ with
    | some x => (topRunT tb p w s₀.heap.objs.size (s₀.heap.nsMap mainGlobals "__annotations__") N x (topStub p)).bind fun s₁ => match staticsOk (importedModules p.main.body) s₀.heap s₁.abs.heap && namesBound p s₁.abs.heap && gensDone s₁.abs && laidKept s₀.heap s₁.abs.heap with
      | true => some s₁.abs
      | false => none
    | none => none
  | false => none
theorem topFrom_of {tb : String → Option Builtin} {p : Program} {w : World} {N : Nat} {s₀ r : Shared} (h : topFromT tb p w N s₀ = some r) : topFrom tb p w N s₀ = some r := by
  unfold topFromT at h
  unfold topFrom
  cases e : s₀.heap.isNs mainGlobals && s₀.gens.size == 0 with
  | false => rw [e] at h; cases h
  | true =>
    rw [e] at h
    dsimp only at h ⊢
    cases ex : toT s₀ with
    | none => rw [ex] at h; cases h
    | some x =>
      rw [ex] at h
      dsimp only at h
      cases er : topRunT tb p w s₀.heap.objs.size (s₀.heap.nsMap mainGlobals "__annotations__") N x (topStub p) with
      | none => rw [er] at h; cases h
      | some s₁ =>
        rw [er] at h
        have := topRun_of er
        rw [toT_abs ex] at this
        rw [this]
        exact h

theorem left_of {p q : Program} {loose : List Str} {Xt : Shared → Bool} {α : Type} {Yf : Shared → α} {Ya : World → α} {N : Nat}
    (h : ∀ w : World, Option.map (fun s => (openSeen q loose (importedModules p.main.body) Xt true s, Yf s)) ((fencedOpening treeTable p w N).bind (topFromT treeTable p w N)) = some (openGood q loose, Ya w)) : LeftO p q loose Xt Yf Ya N := by
  intro w
  have h := h w
  unfold openEnds
  cases e : fencedOpening treeTable p w N with
  | none => rw [e] at h; cases h
  | some s₀ =>
    rw [e] at h
    simp only [Option.bind_some] at h ⊢
    cases e2 : topFromT treeTable p w N s₀ with
    | none => rw [e2] at h; cases h
    | some r => rw [e2] at h; rw [topFrom_of e2]; exact h
end Mine
end

section
open PySem PyProof.Rows
namespace Mine

/-! ## loops, in the small wp -/
theorem rsize_nat (n : Nat) : Builtin.Range.rangeSize 0 (n : Int) 1 = n := by
  unfold Builtin.Range.rangeSize
  rw [if_pos (by decide)]
  split <;> omega
theorem rangeL_nat (n : Nat) : rangeL 0 (n : Int) 1 = (List.range n).map fun (k : Nat) => Value.int (k : Int) 0 := by
  unfold rangeL
  rw [rsize_nat]
  refine List.map_congr_left fun k _ => ?_
  congr 1; omega
theorem rangeL_len (n : Nat) : (rangeL 0 (n : Int) 1).length = n := by rw [rangeL_nat]; simp
theorem small_nat {n : Nat} (h : n < 2 ^ 60) : Builtin.Range.small 0 (n : Int) 1 = true := by
  unfold Builtin.Range.small
  rw [rsize_nat]
  simp [Builtin.Range.rangeFitsLong]
  omega

theorem forG_ind {guard : Hp → Prop} {x : Str} {body : Loc → Hp → QS → Prop} {Q : QS} (I : Nat → Loc → Hp → Prop) {f : Nat → Value} :
    ∀ (m k : Nat), (∀ i l H, I i l H → guard H) →
    (∀ i, k ≤ i → i < k + m → ∀ l H, I i l H → ∀ K : QS, (∀ l' H', I (i + 1) l' H' → K .next l' H' ∧ K .cont l' H') → (∀ r l' H', Q (.ret r) l' H' → K (.ret r) l' H') → body (l.upd x (f i)) H K) →
    (∀ l H, I (k + m) l H → Q .next l H) → ∀ l H, I k l H → forG guard x body ((List.range' k m).map f) l H Q
  | 0, k, hg, _, hq, l, H, h => ⟨hg _ _ _ h, hq _ _ h⟩
  | m + 1, k, hg, hb, hq, l, H, h => by
    refine ⟨hg _ _ _ h, hb k (Nat.le_refl _) (by omega) l H h _ (fun l' H' h' => ?_) fun r l' H' q => q⟩
    have ih := forG_ind (guard := guard) (x := x) (body := body) (Q := Q) I (f := f) m (k + 1) hg (fun i h1 h2 => hb i (by omega) (by omega)) (fun l H h => hq l H (by rw [show k + (m + 1) = k + 1 + m by omega]; exact h)) l' H' h'
    exact ⟨ih, ih⟩

theorem forG_range {guard : Hp → Prop} {x : Str} {body : Loc → Hp → QS → Prop} {Q : QS} (I : Nat → Loc → Hp → Prop) {n : Nat} {l : Loc} {H : Hp}
    (hg : ∀ i l H, I i l H → guard H)
    (hb : ∀ i, i < n → ∀ l H, I i l H → ∀ K : QS, (∀ l' H', I (i + 1) l' H' → K .next l' H' ∧ K .cont l' H') → (∀ r l' H', Q (.ret r) l' H' → K (.ret r) l' H') → body (l.upd x (.int (i : Int) 0)) H K)
    (hq : ∀ l H, I n l H → Q .next l H) (h : I 0 l H) : forG guard x body (rangeL 0 (n : Int) 1) l H Q := by
  rw [rangeL_nat, List.range_eq_range']
  exact forG_ind I (f := fun (k : Nat) => Value.int (k : Int) 0) n 0 hg (fun i _ h2 => hb i (by omega)) (fun l H h => hq l H (by rw [Nat.zero_add] at h; exact h)) l H h

theorem compG_map {guard : Hp → Prop} {step : Value → Hp → (Option Value → Hp → Prop) → Prop} {f : Value → Value} {H : Hp} (hg : guard H) : ∀ (items acc : List Value) {k : List Value → Hp → Prop},
    (∀ v ∈ items, ∀ k' : Option Value → Hp → Prop, k' (some (f v)) H → step v H k') → k (acc ++ items.map f) H → compG guard step items acc H k
  | [], acc, k, _, h => ⟨hg, by simpa using h⟩
  | v :: vs, acc, k, hs, h => ⟨hg, hs v (List.mem_cons_self ..) _ (compG_map hg vs (acc ++ [f v]) (fun u hu => hs u (List.mem_cons_of_mem _ hu)) (by simpa using h))⟩
end Mine
namespace Mine
/-! ## locals and dicts, in the small wp -/
noncomputable def Ls (l : Loc) : List (Str × Value) → Prop
  | [] => True
  | (x, v) :: r => l x = some v ∧ Ls l r
theorem Ls.upd {l : Loc} {y : Str} {v : Value} : ∀ {vs : List (Str × Value)}, Ls l vs → (vs.all fun p => p.1 != y) = true → Ls (l.upd y v) vs
  | [], _, _ => trivial
  | (x, u) :: r, h, n => by
    rw [List.all_cons, Bool.and_eq_true] at n
    have e : x ≠ y := bne_iff_ne.1 n.1
    exact ⟨by unfold Loc.upd; rw [if_neg e]; exact h.1, Ls.upd h.2 n.2⟩

section
variable {K : Type} [DecidableEq K]
end

theorem perm_eq {xs ys : List Int} (h : xs.Perm ys) (hx : xs.Pairwise (· ≤ ·)) (hy : ys.Pairwise (· ≤ ·)) : xs = ys := h.eq_of_pairwise (fun a b _ _ h1 h2 => Int.le_antisymm h1 h2) hx hy
end Mine
namespace Mine
theorem forG_list {guard : Hp → Prop} {x : Str} {body : Loc → Hp → QS → Prop} {Q : QS} (I : List Value → Loc → Hp → Prop) (hg : ∀ r l H, I r l H → guard H)
    (hb : ∀ v r l H, I (v :: r) l H → ∀ K : QS, (∀ l' H', I r l' H' → K .next l' H' ∧ K .cont l' H') → (∀ ρ l' H', Q (.ret ρ) l' H' → K (.ret ρ) l' H') → body (l.upd x v) H K)
    (hq : ∀ l H, I [] l H → Q .next l H) : ∀ (xs : List Value) (l : Loc) (H : Hp), I xs l H → forG guard x body xs l H Q
  | [], l, H, h => ⟨hg _ _ _ h, hq _ _ h⟩
  | v :: r, l, H, h => ⟨hg _ _ _ h, hb v r l H h _ (fun l' H' h' => ⟨forG_list I hg hb hq r l' H' h', forG_list I hg hb hq r l' H' h'⟩) fun _ _ _ q => q⟩

/-- a comprehension's turns, with what is left and what was made -/
theorem compG_list {guard : Hp → Prop} {step : Value → Hp → (Option Value → Hp → Prop) → Prop} {k : List Value → Hp → Prop} (I : List Value → List Value → Hp → Prop) (hg : ∀ r acc H, I r acc H → guard H)
    (hb : ∀ v r acc H, I (v :: r) acc H → ∀ K : Option Value → Hp → Prop, (∀ u H', (match u with | some u => I r (acc ++ [u]) H' | none => I r acc H') → K u H') → step v H K)
    (hk : ∀ acc H, I [] acc H → k acc H) : ∀ (xs acc : List Value) (H : Hp), I xs acc H → compG guard step xs acc H k
  | [], acc, H, h => ⟨hg _ _ _ h, hk _ _ h⟩
  | v :: r, acc, H, h => ⟨hg _ _ _ h, hb v r acc H h _ fun u H' h' => by
      cases u with
      | none => exact compG_list I hg hb hk r acc H' h'
      | some u => exact compG_list I hg hb hk r (acc ++ [u]) H' h'⟩
end Mine
namespace Mine
/-- one statement at a time: what comes behind it is a name -/
theorem cut {G : Gx} {hm : Bool} {st : Sm} {r : List Sm} {l : Loc} {H : Hp} {Q : QS} {X : XS} (h : ∀ K : QS, (∀ l' H', wpSs G hm r l' H' Q X → K .next l' H') → (∀ v l' H', Q (.ret v) l' H' → K (.ret v) l' H') → wpS G hm st l H K X) : wpSs G hm (st :: r) l H Q X := h _ (fun _ _ q => q) fun _ _ _ q => q
theorem cutc {G : Gx} {hm : Bool} {st : Sm} {r : List Sm} {l : Loc} {H : Hp} {Q : QS} {X : XS} (h : ∀ K : QS, (∀ l' H', wpSs G hm r l' H' Q X → K .next l' H') → (∀ l' H', Q .cont l' H' → K .cont l' H') → wpS G hm st l H K X) : wpSs G hm (st :: r) l H Q X := h _ (fun _ _ q => q) fun _ _ q => q
end Mine
end

section
open PySem PyProof.Rows
namespace Mine.St
open Mine

noncomputable def b_is_name : List Sm := [.ite (.bop false [.not (.isi (.loc "thing") .str), .not (.cmp2 (.int 1) .LtE (.bf .len [.loc "thing"]) .LtE (.glob "MOST"))]) [.ret (.bool false)] [], .ret (.bf .all [.comp (.cmp (.loc "sign") .In (.glob "LETTERS")) "sign" (.loc "thing") []])]
noncomputable def b_checked : List Sm := [.ite (.bop false [.not (.isi (.loc "path") .listOrTuple), .cmp (.bf .len [.loc "path"]) .Gt (.glob "MOST")]) [.raise "BadPath"] [], .ite (.not (.bf .all [.comp (.call (.glob "is_name") [.loc "one"]) "one" (.loc "path") []])) [.raise "BadPath"] [], .ret (.bf .list [.loc "path"])]
noncomputable def b_Pile___init__ : List Sm := [.asgAttr (.loc "self") "boxes" (.dict [] []), .asgAttr (.loc "self") "counts" (.dict [] []), .asgAttr (.loc "self") "made" (.int 0)]
noncomputable def b_Pile_need : List Sm := [.ite (.bop false [.isi (.loc "box") .bool, .not (.isi (.loc "box") .int), .cmp (.loc "box") .NotIn (.attr (.loc "self") "boxes")]) [.raise "NoBox"] [], .ret (.loc "box")]
noncomputable def b_Pile_fresh : List Sm := [.asgAttr (.loc "self") "made" (.bin .Add (.attr (.loc "self") "made") (.int 1)), .asgIdx (.attr (.loc "self") "boxes") (.attr (.loc "self") "made") (.loc "what"), .asgIdx (.attr (.loc "self") "counts") (.attr (.loc "self") "made") (.int 0), .ret (.attr (.loc "self") "made")]
noncomputable def b_Pile_leaf : List Sm := [.ret (.meth (.loc "self") "fresh" [.tup [.str "leaf", .loc "number"]])]
noncomputable def b_Pile_branch : List Sm := [.for_ "row" (.loc "rows") [.expr (.meth (.loc "self") "need" [.idx (.loc "row") (.int 1)])], .for_ "row" (.loc "rows") [.expr (.meth (.loc "self") "hold" [.idx (.loc "row") (.int 1)])], .ret (.meth (.loc "self") "fresh" [.tup [.str "branch", .bf .list [.loc "rows"]]])]
noncomputable def b_Pile_content : List Sm := [.asg "what" (.idx (.attr (.loc "self") "boxes") (.meth (.loc "self") "need" [.loc "box"])), .ite (.cmp (.idx (.loc "what") (.int 0)) .Eq (.str "branch")) [.ret (.tup [.str "branch", .bf .list [.idx (.loc "what") (.int 1)]])] [], .ret (.loc "what")]
noncomputable def b_Pile_hold : List Sm := [.expr (.meth (.loc "self") "need" [.loc "box"]), .asgIdx (.attr (.loc "self") "counts") (.loc "box") (.bin .Add (.idx (.attr (.loc "self") "counts") (.loc "box")) (.int 1))]
noncomputable def b_Pile_holders : List Sm := [.ret (.idx (.attr (.loc "self") "counts") (.meth (.loc "self") "need" [.loc "box"]))]
noncomputable def b_Pile_let_go : List Sm := [.asg "waiting" (.list [.meth (.loc "self") "need" [.loc "box"]]), .asg "gone" (.int 0), .while_ (.cmp (.loc "waiting") .NotEq (.list [])) [.asg "one" (.bm .pop (.loc "waiting") []), .ite (.cmp (.loc "one") .NotIn (.attr (.loc "self") "boxes")) [.cont] [], .asgIdx (.attr (.loc "self") "counts") (.loc "one") (.bf .max2 [.int 0, .bin .Sub (.idx (.attr (.loc "self") "counts") (.loc "one")) (.int 1)]), .ite (.cmp (.idx (.attr (.loc "self") "counts") (.loc "one")) .Eq (.int 0)) [.asg "what" (.bm .pop (.attr (.loc "self") "boxes") [.loc "one"]), .expr (.bm .pop (.attr (.loc "self") "counts") [.loc "one"]), .asg "gone" (.bin .Add (.loc "gone") (.int 1)), .ite (.cmp (.idx (.loc "what") (.int 0)) .Eq (.str "branch")) [.asg "waiting" (.bin .Add (.loc "waiting") (.comp (.idx (.loc "row") (.int 1)) "row" (.idx (.loc "what") (.int 1)) []))] []] []], .ret (.loc "gone")]
noncomputable def b_Pile_kept : List Sm := [.ret (.bf .sorted [.attr (.loc "self") "boxes"])]
noncomputable def b_box_of : List Sm := [.for_ "row" (.loc "rows") [.ite (.cmp (.idx (.loc "row") (.int 0)) .Eq (.loc "name")) [.ret (.idx (.loc "row") (.int 1))] []], .ret (.none)]
noncomputable def b_without : List Sm := [.ret (.comp (.loc "row") "row" (.loc "rows") [.cmp (.idx (.loc "row") (.int 0)) .NotEq (.loc "name")])]
noncomputable def b_placed : List Sm := [.asg "ahead" (.comp (.loc "row") "row" (.loc "rows") [.cmp (.idx (.loc "row") (.int 0)) .Lt (.loc "name")]), .asg "behind" (.comp (.loc "row") "row" (.loc "rows") [.cmp (.idx (.loc "row") (.int 0)) .Gt (.loc "name")]), .ret (.bin .Add (.bin .Add (.loc "ahead") (.list [.tup [.loc "name", .loc "box"]])) (.loc "behind"))]
noncomputable def b_need_way : List Sm := [.asg "names" (.call (.glob "checked") [.loc "path"]), .ite (.cmp (.loc "names") .Eq (.list [])) [.raise "BadPath"] [], .ret (.loc "names")]
noncomputable def b_need_number : List Sm := [.ite (.bop false [.isi (.loc "number") .bool, .not (.isi (.loc "number") .int), .not (.cmp2 (.neg (.glob "BOUND")) .Lt (.loc "number") .Lt (.glob "BOUND"))]) [.raise "BadNumber"] []]
noncomputable def b_Store___init__ : List Sm := [.asgAttr (.loc "self") "pile" (.call (.glob "Pile") []), .asgAttr (.loc "self") "tree" (.meth (.attr (.loc "self") "pile") "branch" [.list []]), .expr (.meth (.attr (.loc "self") "pile") "hold" [.attr (.loc "self") "tree"]), .asgAttr (.loc "self") "shots" (.dict [] []), .asgAttr (.loc "self") "last" (.int 0)]
noncomputable def b_Store_top : List Sm := [.ite (.cmp (.loc "view") .Is (.none)) [.ret (.attr (.loc "self") "tree")] [], .ite (.bop false [.isi (.loc "view") .bool, .not (.isi (.loc "view") .int), .cmp (.loc "view") .NotIn (.attr (.loc "self") "shots")]) [.raise "NoShot"] [], .ret (.idx (.attr (.loc "self") "shots") (.loc "view"))]
noncomputable def b_Store_found : List Sm := [.for_ "name" (.loc "names") [.asg "what" (.meth (.attr (.loc "self") "pile") "content" [.loc "box"]), .ite (.cmp (.idx (.loc "what") (.int 0)) .Eq (.str "leaf")) [.ret (.none)] [], .asg "box" (.call (.glob "box_of") [.idx (.loc "what") (.int 1), .loc "name"]), .ite (.cmp (.loc "box") .Is (.none)) [.ret (.none)] []], .ret (.loc "box")]
noncomputable def b_Store_ways : List Sm := [.asg "found" (.list []), .for_ "k" (.bf .range [.bf .len [.loc "names"]]) [.asg "box" (.meth (.loc "self") "found" [.attr (.loc "self") "tree", .slice (.loc "names") none (some (.loc "k"))]), .ite (.cmp (.loc "box") .Is (.none)) [.expr (.bm .append (.loc "found") [.list []])] [.expr (.bm .append (.loc "found") [.idx (.meth (.attr (.loc "self") "pile") "content" [.loc "box"]) (.int 1)])]], .ret (.loc "found")]
noncomputable def b_Store_changed : List Sm := [.asg "old" (.attr (.loc "self") "tree"), .expr (.meth (.attr (.loc "self") "pile") "hold" [.loc "box"]), .asgAttr (.loc "self") "tree" (.loc "box"), .ret (.meth (.attr (.loc "self") "pile") "let_go" [.loc "old"])]
noncomputable def b_Store_put : List Sm := [.asg "names" (.call (.glob "need_way") [.loc "path"]), .expr (.call (.glob "need_number") [.loc "number"]), .for_ "k" (.bf .range [.int 1, .bf .len [.loc "names"]]) [.ite (.cmp (.meth (.loc "self") "kind" [.none, .slice (.loc "names") none (some (.loc "k"))]) .Eq (.str "leaf")) [.raise "LeafThere"] []], .asg "kind" (.meth (.loc "self") "kind" [.none, .loc "names"]), .ite (.cmp (.loc "kind") .Eq (.str "branch")) [.raise "BranchThere"] [], .ite (.bop true [.cmp (.loc "kind") .Eq (.str "leaf"), .cmp (.meth (.loc "self") "value" [.none, .loc "names"]) .Eq (.loc "number")]) [.ret (.int 0)] [], .asg "ways" (.meth (.loc "self") "ways" [.loc "names"]), .asg "box" (.meth (.attr (.loc "self") "pile") "leaf" [.loc "number"]), .for_ "k" (.bf .range [.bin .Sub (.bf .len [.loc "names"]) (.int 1), .neg (.int 1), .neg (.int 1)]) [.asg "box" (.meth (.attr (.loc "self") "pile") "branch" [.call (.glob "placed") [.idx (.loc "ways") (.loc "k"), .idx (.loc "names") (.loc "k"), .loc "box"]])], .ret (.meth (.loc "self") "changed" [.loc "box"])]
noncomputable def b_Store_cut : List Sm := [.asg "names" (.call (.glob "need_way") [.loc "path"]), .ite (.cmp (.meth (.loc "self") "found" [.attr (.loc "self") "tree", .loc "names"]) .Is (.none)) [.raise "Nothing"] [], .asg "ways" (.meth (.loc "self") "ways" [.loc "names"]), .asg "box" (.meth (.attr (.loc "self") "pile") "branch" [.call (.glob "without") [.idx (.loc "ways") (.neg (.int 1)), .idx (.loc "names") (.neg (.int 1))]]), .for_ "k" (.bf .range [.bin .Sub (.bf .len [.loc "names"]) (.int 2), .neg (.int 1), .neg (.int 1)]) [.asg "box" (.meth (.attr (.loc "self") "pile") "branch" [.call (.glob "placed") [.idx (.loc "ways") (.loc "k"), .idx (.loc "names") (.loc "k"), .loc "box"]])], .ret (.meth (.loc "self") "changed" [.loc "box"])]
noncomputable def b_Store_snap : List Sm := [.asgAttr (.loc "self") "last" (.bin .Add (.attr (.loc "self") "last") (.int 1)), .asgIdx (.attr (.loc "self") "shots") (.attr (.loc "self") "last") (.attr (.loc "self") "tree"), .expr (.meth (.attr (.loc "self") "pile") "hold" [.attr (.loc "self") "tree"]), .ret (.attr (.loc "self") "last")]
noncomputable def b_Store_shot : List Sm := [.ite (.cmp (.loc "number") .Is (.none)) [.raise "NoShot"] [], .ret (.meth (.loc "self") "top" [.loc "number"])]
noncomputable def b_Store_drop : List Sm := [.asg "box" (.meth (.loc "self") "shot" [.loc "shot"]), .expr (.bm .pop (.attr (.loc "self") "shots") [.loc "shot"]), .ret (.meth (.attr (.loc "self") "pile") "let_go" [.loc "box"])]
noncomputable def b_Store_back : List Sm := [.ret (.meth (.loc "self") "changed" [.meth (.loc "self") "shot" [.loc "shot"]])]
noncomputable def b_Store_shot_numbers : List Sm := [.ret (.bf .sorted [.attr (.loc "self") "shots"])]
noncomputable def b_Store_kind : List Sm := [.asg "box" (.meth (.loc "self") "found" [.meth (.loc "self") "top" [.loc "view"], .call (.glob "checked") [.loc "path"]]), .ite (.cmp (.loc "box") .Is (.none)) [.ret (.none)] [], .ret (.idx (.meth (.attr (.loc "self") "pile") "content" [.loc "box"]) (.int 0))]
noncomputable def b_Store_value : List Sm := [.asg "kind" (.meth (.loc "self") "kind" [.loc "view", .loc "path"]), .ite (.cmp (.loc "kind") .Is (.none)) [.raise "Nothing"] [], .ite (.cmp (.loc "kind") .Eq (.str "branch")) [.raise "BranchThere"] [], .ret (.idx (.meth (.attr (.loc "self") "pile") "content" [.meth (.loc "self") "found" [.meth (.loc "self") "top" [.loc "view"], .call (.glob "checked") [.loc "path"]]]) (.int 1))]
noncomputable def b_Store_names : List Sm := [.asg "kind" (.meth (.loc "self") "kind" [.loc "view", .loc "path"]), .ite (.cmp (.loc "kind") .Is (.none)) [.raise "Nothing"] [], .ite (.cmp (.loc "kind") .Eq (.str "leaf")) [.raise "LeafThere"] [], .asg "rows" (.idx (.meth (.attr (.loc "self") "pile") "content" [.meth (.loc "self") "found" [.meth (.loc "self") "top" [.loc "view"], .call (.glob "checked") [.loc "path"]]]) (.int 1)), .ret (.comp (.idx (.loc "row") (.int 0)) "row" (.loc "rows") [])]
noncomputable def b_Store_both : List Sm := [.ite (.cmp (.loc "box") .Is (.none)) [.ret (.tup [.none, .list []])] [], .asg "what" (.meth (.attr (.loc "self") "pile") "content" [.loc "box"]), .ite (.cmp (.idx (.loc "what") (.int 0)) .Eq (.str "leaf")) [.ret (.tup [.idx (.loc "what") (.int 1), .list []])] [], .ret (.tup [.none, .idx (.loc "what") (.int 1)])]
set_option genInjectivity false in
set_option genSizeOf false in
structure Ad where
  cP : Addr
  cS : Addr
  SnapError : Addr
  BadPath : Addr
  BadNumber : Addr
  Nothing : Addr
  LeafThere : Addr
  BranchThere : Addr
  NoShot : Addr
  NoBox : Addr
  is_name : Addr
  checked : Addr
  box_of : Addr
  placed : Addr
  need_way : Addr
  need_number : Addr
  Pile_init : Addr
  Store_init : Addr
  Pile_need : Addr
  Pile_fresh : Addr
  Pile_leaf : Addr
  Pile_branch : Addr
  Pile_content : Addr
  Pile_hold : Addr
  Pile_holders : Addr
  Pile_let_go : Addr
  Pile_kept : Addr
  Store_top : Addr
  Store_found : Addr
  Store_ways : Addr
  Store_changed : Addr
  Store_put : Addr
  Store_cut : Addr
  Store_snap : Addr
  Store_shot : Addr
  Store_drop : Addr
  Store_back : Addr
  Store_shot_numbers : Addr
  Store_kind : Addr
  Store_value : Addr
  Store_names : Addr
  Store_both : Addr
  Store_changes : Addr

structure Env (G : Gx) (A : Ad) : Prop where
  g_SnapError : G.glob "SnapError" = some (.ref A.SnapError)
  e_SnapError : G.isExc A.SnapError = true
  g_BadPath : G.glob "BadPath" = some (.ref A.BadPath)
  e_BadPath : G.isExc A.BadPath = true
  g_BadNumber : G.glob "BadNumber" = some (.ref A.BadNumber)
  e_BadNumber : G.isExc A.BadNumber = true
  g_Nothing : G.glob "Nothing" = some (.ref A.Nothing)
  e_Nothing : G.isExc A.Nothing = true
  g_LeafThere : G.glob "LeafThere" = some (.ref A.LeafThere)
  e_LeafThere : G.isExc A.LeafThere = true
  g_BranchThere : G.glob "BranchThere" = some (.ref A.BranchThere)
  e_BranchThere : G.isExc A.BranchThere = true
  g_NoShot : G.glob "NoShot" = some (.ref A.NoShot)
  e_NoShot : G.isExc A.NoShot = true
  g_NoBox : G.glob "NoBox" = some (.ref A.NoBox)
  e_NoBox : G.isExc A.NoBox = true
  m_Pile_need : G.meth A.cP "need" = some A.Pile_need
  m_Pile_fresh : G.meth A.cP "fresh" = some A.Pile_fresh
  m_Pile_leaf : G.meth A.cP "leaf" = some A.Pile_leaf
  m_Pile_branch : G.meth A.cP "branch" = some A.Pile_branch
  m_Pile_content : G.meth A.cP "content" = some A.Pile_content
  m_Pile_hold : G.meth A.cP "hold" = some A.Pile_hold
  m_Pile_holders : G.meth A.cP "holders" = some A.Pile_holders
  m_Pile_let_go : G.meth A.cP "let_go" = some A.Pile_let_go
  m_Pile_kept : G.meth A.cP "kept" = some A.Pile_kept
  f_Pile_boxes : G.fld A.cP "boxes" = true
  f_Pile_counts : G.fld A.cP "counts" = true
  f_Pile_made : G.fld A.cP "made" = true
/-- the store's own -/
structure EnvS (G : Gx) (A : Ad) : Prop extends Env G A where
  g_is_name : G.glob "is_name" = some (.ref A.is_name)
  i_is_name : G.init A.is_name = none
  g_checked : G.glob "checked" = some (.ref A.checked)
  i_checked : G.init A.checked = none
  g_box_of : G.glob "box_of" = some (.ref A.box_of)
  i_box_of : G.init A.box_of = none
  g_placed : G.glob "placed" = some (.ref A.placed)
  i_placed : G.init A.placed = none
  g_need_way : G.glob "need_way" = some (.ref A.need_way)
  i_need_way : G.init A.need_way = none
  g_need_number : G.glob "need_number" = some (.ref A.need_number)
  i_need_number : G.init A.need_number = none
  g_LETTERS : G.glob "LETTERS" = some (.str "abcdefghijklmnopqrstuvwxyz" 0)
  g_MOST : G.glob "MOST" = some (.int 8 0)
  g_BOUND : G.glob "BOUND" = some (.int (10 ^ 30) 0)
  g_Pile : G.glob "Pile" = some (.ref A.cP)
  g_Store : G.glob "Store" = some (.ref A.cS)
  i_Pile : G.init A.cP = some A.Pile_init
  i_Store : G.init A.cS = some A.Store_init
  m_Store_top : G.meth A.cS "top" = some A.Store_top
  m_Store_found : G.meth A.cS "found" = some A.Store_found
  m_Store_ways : G.meth A.cS "ways" = some A.Store_ways
  m_Store_changed : G.meth A.cS "changed" = some A.Store_changed
  m_Store_put : G.meth A.cS "put" = some A.Store_put
  m_Store_cut : G.meth A.cS "cut" = some A.Store_cut
  m_Store_snap : G.meth A.cS "snap" = some A.Store_snap
  m_Store_shot : G.meth A.cS "shot" = some A.Store_shot
  m_Store_drop : G.meth A.cS "drop" = some A.Store_drop
  m_Store_back : G.meth A.cS "back" = some A.Store_back
  m_Store_shot_numbers : G.meth A.cS "shot_numbers" = some A.Store_shot_numbers
  m_Store_kind : G.meth A.cS "kind" = some A.Store_kind
  m_Store_value : G.meth A.cS "value" = some A.Store_value
  m_Store_names : G.meth A.cS "names" = some A.Store_names
  m_Store_both : G.meth A.cS "both" = some A.Store_both
  m_Store_changes : G.meth A.cS "changes" = some A.Store_changes
  f_Store_pile : G.fld A.cS "pile" = true
  f_Store_tree : G.fld A.cS "tree" = true
  f_Store_shots : G.fld A.cS "shots" = true
  f_Store_last : G.fld A.cS "last" = true

section
variable {A : Ad}
structure PileAt (A : Ad) (H : Hp) (x d bx ct : Addr) (bs cs : List (Int × Value)) (mk : Int) : Prop where
  i : H x = some (.inst A.cP d)
  n : H d = some (.ns [("boxes", .ref bx), ("counts", .ref ct), ("made", .int mk 0)])
  b : H bx = some (.idict bs)
  c : H ct = some (.idict cs)
  ne : bx ≠ ct

noncomputable def Off3 (H H' : Hp) (d bx ct : Addr) : Prop := ∀ a, a ≠ d → a ≠ bx → a ≠ ct → H' a = H a

/-- is the thing a box that is there -/
noncomputable def good (bs : List (Int × Value)) (H : Hp) : Value → Option Bool
  | .none => some false
  | .bool _ => some false
  | .int i _ => some (valueAt bs i).isSome
  | .str _ _ => some false
  | .ref a => (match H a with
    | some (.list _) => some false
    | some (.tup _) => some false
    | some (.idict _) => some false
    | some (.sdict _) => some false
    | _ => none)
  | _ => none

theorem c_need {G : Gx} (F : Env G A) {hm : Bool} {H : Hp} {x d bx ct : Addr} {bs cs : List (Int × Value)} {mk : Int} (hp : PileAt A H x d bx ct bs cs mk) {v : Value} {b : Bool} (hg : good bs H v = some b) {Q : QV} {X : XV}
    (h : if b then Q v H else hm = false ∧ X A.NoBox H) : wpF G hm ["self", "box"] b_Pile_need [.ref x, v] H Q X := by
  refine ⟨rfl, ?_⟩
  unfold good at hg
  split at hg
  · cases hg
    conv => whnf
    refine ⟨rfl, ?_⟩
    conv => whnf
    refine ⟨rfl, ?_⟩
    conv => whnf
    refine ⟨h.1, ?_⟩
    conv => whnf
    rw [F.g_NoBox]
    exact ⟨F.e_NoBox, h.2⟩
  · cases hg
    conv => whnf
    refine ⟨rfl, ?_⟩
    conv => whnf
    refine ⟨h.1, ?_⟩
    conv => whnf
    rw [F.g_NoBox]
    exact ⟨F.e_NoBox, h.2⟩
  · cases hg
    conv => whnf
    refine ⟨rfl, ?_⟩
    conv => whnf
    refine ⟨rfl, ?_⟩
    conv => whnf
    rw [hp.i]
    conv => whnf
    rw [hp.n]
    conv => whnf
    refine ⟨F.f_Pile_boxes, ?_⟩
    conv => whnf
    rw [hp.b]
    conv => whnf
    rename_i i t
    cases hb : (valueAt bs i).isSome with
    | true =>
      conv => whnf
      rw [hb] at h
      exact h
    | false =>
      conv => whnf
      rw [hb] at h
      refine ⟨h.1, ?_⟩
      conv => whnf
      rw [F.g_NoBox]
      exact ⟨F.e_NoBox, h.2⟩
  · cases hg
    conv => whnf
    refine ⟨rfl, ?_⟩
    conv => whnf
    refine ⟨rfl, ?_⟩
    conv => whnf
    refine ⟨h.1, ?_⟩
    conv => whnf
    rw [F.g_NoBox]
    exact ⟨F.e_NoBox, h.2⟩
  · split at hg
    all_goals first | (cases hg; done) | skip
    all_goals
      rename_i hx
      cases hg
      conv => whnf
      rw [hx]
      conv => whnf
      refine ⟨rfl, ?_⟩
      conv => whnf
      rw [hx]
      conv => whnf
      refine ⟨rfl, ?_⟩
      conv => whnf
      refine ⟨h.1, ?_⟩
      conv => whnf
      rw [F.g_NoBox]
      exact ⟨F.e_NoBox, h.2⟩
  · cases hg

theorem PileAt.ds {H : Hp} {x d bx ct : Addr} {bs cs : List (Int × Value)} {mk : Int} (hp : PileAt A H x d bx ct bs cs mk) : x ≠ d ∧ x ≠ bx ∧ x ≠ ct ∧ d ≠ bx ∧ d ≠ ct ∧ bx ≠ d ∧ ct ≠ d := by
  refine ⟨?_, ?_, ?_, ?_, ?_, ?_, ?_⟩ <;> (intro e; subst e)
  · have := hp.i; rw [hp.n] at this; cases this
  · have := hp.i; rw [hp.b] at this; cases this
  · have := hp.i; rw [hp.c] at this; cases this
  · have := hp.n; rw [hp.b] at this; cases this
  · have := hp.n; rw [hp.c] at this; cases this
  · have := hp.n; rw [hp.b] at this; cases this
  · have := hp.n; rw [hp.c] at this; cases this

theorem ns_made (bx ct : Addr) (mk mk' : Int) : stored [((Str.ofString "boxes"), Value.ref bx), (Str.ofString "counts", .ref ct), (Str.ofString "made", .int mk 0)] (Str.ofString "made") (.int mk' 0) = [(Str.ofString "boxes", .ref bx), (Str.ofString "counts", .ref ct), (Str.ofString "made", .int mk' 0)] := by
  rfl

theorem PileAt.made {H : Hp} {x d bx ct : Addr} {bs cs : List (Int × Value)} {mk : Int} (hp : PileAt A H x d bx ct bs cs mk) (mk' : Int) : PileAt A (H.upd d (.ns [(Str.ofString "boxes", .ref bx), (Str.ofString "counts", .ref ct), (Str.ofString "made", .int mk' 0)])) x d bx ct bs cs mk' := by
  obtain ⟨n1, n2, n3, n4, n5, n6, n7⟩ := hp.ds
  exact ⟨(Hp.upd_ne _ _ n1).trans hp.i, Hp.upd_same _ _ _, (Hp.upd_ne _ _ n6).trans hp.b, (Hp.upd_ne _ _ n7).trans hp.c, hp.ne⟩
theorem PileAt.box {H : Hp} {x d bx ct : Addr} {bs cs : List (Int × Value)} {mk : Int} (hp : PileAt A H x d bx ct bs cs mk) (bs' : List (Int × Value)) : PileAt A (H.upd bx (.idict bs')) x d bx ct bs' cs mk := by
  obtain ⟨n1, n2, n3, n4, n5, n6, n7⟩ := hp.ds
  exact ⟨(Hp.upd_ne _ _ n2).trans hp.i, (Hp.upd_ne _ _ n4).trans hp.n, Hp.upd_same _ _ _, (Hp.upd_ne _ _ hp.ne.symm).trans hp.c, hp.ne⟩
theorem PileAt.cnt {H : Hp} {x d bx ct : Addr} {bs cs : List (Int × Value)} {mk : Int} (hp : PileAt A H x d bx ct bs cs mk) (cs' : List (Int × Value)) : PileAt A (H.upd ct (.idict cs')) x d bx ct bs cs' mk := by
  obtain ⟨n1, n2, n3, n4, n5, n6, n7⟩ := hp.ds
  exact ⟨(Hp.upd_ne _ _ n3).trans hp.i, (Hp.upd_ne _ _ n5).trans hp.n, (Hp.upd_ne _ _ hp.ne).trans hp.b, Hp.upd_same _ _ _, hp.ne⟩
theorem off_d (H : Hp) (d bx ct : Addr) (o : AObj) : Off3 H (H.upd d o) d bx ct := fun _ h _ _ => Hp.upd_ne _ _ h
theorem off_b (H : Hp) (d bx ct : Addr) (o : AObj) : Off3 H (H.upd bx o) d bx ct := fun _ _ h _ => Hp.upd_ne _ _ h
theorem off_c (H : Hp) (d bx ct : Addr) (o : AObj) : Off3 H (H.upd ct o) d bx ct := fun _ _ _ h => Hp.upd_ne _ _ h
theorem Off3.trans {H H1 H2 : Hp} {d bx ct : Addr} (h1 : Off3 H H1 d bx ct) (h2 : Off3 H1 H2 d bx ct) : Off3 H H2 d bx ct := fun a x y z => (h2 a x y z).trans (h1 a x y z)

theorem c_fresh {G : Gx} (F : Env G A) {hm : Bool} {H : Hp} {x d bx ct : Addr} {bs cs : List (Int × Value)} {mk : Int} (hp : PileAt A H x d bx ct bs cs mk) {v : Value} {Q : QV} {X : XV} (z1 : bs.length ≤ sizeLine) (z2 : cs.length ≤ sizeLine)
    (h : ∀ H', PileAt A H' x d bx ct (stored bs (mk + 1) v) (stored cs (mk + 1) (.int 0 0)) (mk + 1) → Off3 H H' d bx ct → Q (.int (mk + 1) 0) H') : wpF G hm ["self", "what"] b_Pile_fresh [.ref x, v] H Q X := by
  refine ⟨rfl, ?_⟩
  conv => whnf
  rw [hp.i]
  conv => whnf
  rw [hp.n]
  conv => whnf
  refine ⟨F.f_Pile_made, ?_⟩
  conv => whnf
  rw [hp.i]
  conv => whnf
  rw [hp.n]
  conv => whnf
  refine ⟨F.f_Pile_made, by simp, ?_⟩
  conv => whnf
  rw [ns_made]
  have p1 := hp.made (mk + 1)
  have o1 := off_d H d bx ct (.ns [(Str.ofString "boxes", .ref bx), (Str.ofString "counts", .ref ct), (Str.ofString "made", .int (mk + 1) 0)])
  generalize H.upd d (.ns [(Str.ofString "boxes", .ref bx), (Str.ofString "counts", .ref ct), (Str.ofString "made", .int (mk + 1) 0)]) = H1 at *
  rw [p1.i]
  conv => whnf
  rw [p1.n]
  conv => whnf
  refine ⟨F.f_Pile_boxes, ?_⟩
  conv => whnf
  rw [p1.i]
  conv => whnf
  rw [p1.n]
  conv => whnf
  refine ⟨F.f_Pile_made, ?_⟩
  conv => whnf
  rw [p1.b]
  conv => whnf
  refine ⟨z1, ?_⟩
  conv => whnf
  have p2 := p1.box (stored bs (mk + 1) v)
  have o2 := o1.trans (off_b H1 d bx ct (.idict (stored bs (mk + 1) v)))
  generalize H1.upd bx (.idict (stored bs (mk + 1) v)) = H2 at *
  rw [p2.i]
  conv => whnf
  rw [p2.n]
  conv => whnf
  refine ⟨F.f_Pile_counts, ?_⟩
  conv => whnf
  rw [p2.i]
  conv => whnf
  rw [p2.n]
  conv => whnf
  refine ⟨F.f_Pile_made, ?_⟩
  conv => whnf
  rw [p2.c]
  conv => whnf
  refine ⟨z2, ?_⟩
  conv => whnf
  have p3 := p2.cnt (stored cs (mk + 1) (.int 0 0))
  have o3 := o2.trans (off_c H2 d bx ct (.idict (stored cs (mk + 1) (.int 0 0))))
  generalize H2.upd ct (.idict (stored cs (mk + 1) (.int 0 0))) = H3 at *
  rw [p3.i]
  conv => whnf
  rw [p3.n]
  conv => whnf
  exact ⟨F.f_Pile_made, h _ p3 o3⟩

theorem c_kept {G : Gx} (F : Env G A) {H : Hp} {x d bx ct : Addr} {bs cs : List (Int × Value)} {mk : Int} (hp : PileAt A H x d bx ct bs cs mk) {Q : QV} {X : XV} (hz : bs.length < 64)
    (h : ∀ ms : List Int, ms.Perm (bs.map (·.1)) → ms.Pairwise (· ≤ ·) → newV (.list (ms.map fun n => Value.int n 0)) H Q) : wpF G false ["self"] b_Pile_kept [.ref x] H Q X := by
  refine ⟨rfl, ?_⟩
  conv => whnf
  rw [hp.i]
  conv => whnf
  rw [hp.n]
  conv => whnf
  refine ⟨F.f_Pile_boxes, ?_⟩
  conv => whnf
  refine ⟨.inr rfl, ?_⟩
  conv => whnf
  rw [hp.b]
  conv => whnf
  refine ⟨by simpa using hz, bs.map (·.1), by simp, h⟩

/-- level one -/
structure L1 (G : Gx) (A : Ad) : Prop where
  need : ∀ {hm : Bool} {H : Hp} {x d bx ct : Addr} {bs cs : List (Int × Value)} {mk : Int}, PileAt A H x d bx ct bs cs mk → ∀ {v : Value} {b : Bool}, good bs H v = some b → ∀ {Q : QV} {X : XV}, (if b then Q v H else hm = false ∧ X A.NoBox H) → G.fn A.Pile_need hm [.ref x, v] H Q X
  fresh : ∀ {hm : Bool} {H : Hp} {x d bx ct : Addr} {bs cs : List (Int × Value)} {mk : Int}, PileAt A H x d bx ct bs cs mk → ∀ {v : Value} {Q : QV} {X : XV}, bs.length ≤ sizeLine → cs.length ≤ sizeLine →
    (∀ H', PileAt A H' x d bx ct (stored bs (mk + 1) v) (stored cs (mk + 1) (.int 0 0)) (mk + 1) → Off3 H H' d bx ct → Q (.int (mk + 1) 0) H') → G.fn A.Pile_fresh hm [.ref x, v] H Q X
  kept : ∀ {H : Hp} {x d bx ct : Addr} {bs cs : List (Int × Value)} {mk : Int}, PileAt A H x d bx ct bs cs mk → ∀ {Q : QV} {X : XV}, bs.length < 64 → (∀ ms : List Int, ms.Perm (bs.map (·.1)) → ms.Pairwise (· ≤ ·) → newV (.list (ms.map fun n => Value.int n 0)) H Q) → G.fn A.Pile_kept false [.ref x] H Q X

noncomputable def HasF (tab : Tab) (f : Addr) (ps : List Str) (b : List Sm) : Prop := tab f = some (ps, b)
structure Tab1 (tab : Tab) (A : Ad) : Prop where
  need : HasF tab A.Pile_need ["self", "box"] b_Pile_need
  fresh : HasF tab A.Pile_fresh ["self", "what"] b_Pile_fresh
  kept : HasF tab A.Pile_kept ["self"] b_Pile_kept

theorem fn_gg {g : Gx} {tab : Tab} {n : Nat} {f : Addr} {ps : List Str} {b : List Sm} (e : HasF tab f ps b) {hm : Bool} {args : List Value} {H : Hp} {Q : QV} {X : XV} (h : wpF (GG g tab n) hm ps b args H Q X) : (GG g tab (n + 1)).fn f hm args H Q X := by
  show (match tab f with | some (ps, sm) => wpF (GG g tab n) hm ps sm args H Q X | none => False)
  have e : tab f = some (ps, b) := e
  rw [e]; exact h
theorem Env.gg {g : Gx} {A : Ad} (f : Env g A) (tab : Tab) (n : Nat) : Env (GG g tab n) A := by
  cases n <;> exact { f with }
theorem EnvS.gg {g : Gx} {A : Ad} (f : EnvS g A) (tab : Tab) (n : Nat) : EnvS (GG g tab n) A := by
  cases n <;> exact { f with }

noncomputable def Off4 (H H' : Hp) (d bx ct : Addr) : Prop := ∀ a, a ≠ d → a ≠ bx → a ≠ ct → H a ≠ none → H' a = H a
theorem Off3.four {H H' : Hp} {d bx ct : Addr} (h : Off3 H H' d bx ct) : Off4 H H' d bx ct := fun a h1 h2 h3 _ => h a h1 h2 h3
theorem PileAt.new {H : Hp} {x d bx ct c : Addr} {bs cs : List (Int × Value)} {mk : Int} (hp : PileAt A H x d bx ct bs cs mk) (hc : H c = none) (o : AObj) : PileAt A (H.upd c o) x d bx ct bs cs mk := by
  have ne : ∀ {a o}, H a = some o → a ≠ c := fun ha q => by rw [q, hc] at ha; cases ha
  exact ⟨(Hp.upd_ne _ _ (ne hp.i)).trans hp.i, (Hp.upd_ne _ _ (ne hp.n)).trans hp.n, (Hp.upd_ne _ _ (ne hp.b)).trans hp.b, (Hp.upd_ne _ _ (ne hp.c)).trans hp.c, hp.ne⟩
theorem PileAt.other {H : Hp} {x d bx ct c : Addr} {bs cs : List (Int × Value)} {mk : Int} (hp : PileAt A H x d bx ct bs cs mk) (h1 : c ≠ x) (h2 : c ≠ d) (h3 : c ≠ bx) (h4 : c ≠ ct) (o : AObj) : PileAt A (H.upd c o) x d bx ct bs cs mk :=
  ⟨(Hp.upd_ne _ _ h1.symm).trans hp.i, (Hp.upd_ne _ _ h2.symm).trans hp.n, (Hp.upd_ne _ _ h3.symm).trans hp.b, (Hp.upd_ne _ _ h4.symm).trans hp.c, hp.ne⟩

end
end Mine.St
end

section
open PySem PyProof.Rows
namespace Mine.St
open Mine

/-! ## dicts as lists of pairs -/
section
variable {α : Type}
noncomputable def get (l : List (Int × α)) (i : Int) : Option α := (l.find? fun p => p.1 = i).map (·.2)
noncomputable def put (l : List (Int × α)) (i : Int) (a : α) : List (Int × α) := if l.any (fun p => p.1 = i) then l.map (fun p => if p.1 = i then (p.1, a) else p) else l ++ [(i, a)]
noncomputable def del (l : List (Int × α)) (i : Int) : List (Int × α) := l.filter fun p => decide (p.1 ≠ i)

theorem all2_get {R : Value → α → Prop} {vs : List (Int × Value)} {bs : List (Int × α)} (h : All2 (fun p q => p.1 = q.1 ∧ R p.2 q.2) vs bs) (i : Int) :
    (∃ v c, valueAt vs i = some v ∧ get bs i = some c ∧ R v c) ∨ (valueAt vs i = none ∧ get bs i = none) := by
  induction h with
  | nil => exact .inr ⟨rfl, rfl⟩
  | @cons p q vs bs h1 _ ih =>
    unfold valueAt get at ih ⊢
    simp only [List.find?_cons]
    by_cases e : p.1 = i
    · rw [decide_eq_true e, decide_eq_true (h1.1 ▸ e)]
      exact .inl ⟨_, _, rfl, rfl, h1.2⟩
    · rw [decide_eq_false e, decide_eq_false (h1.1 ▸ e)]
      exact ih
theorem all2_any {R : Value → α → Prop} {vs : List (Int × Value)} {bs : List (Int × α)} (h : All2 (fun p q => p.1 = q.1 ∧ R p.2 q.2) vs bs) (i : Int) : (vs.any fun p => p.1 = i) = (bs.any fun p => p.1 = i) := by
  induction h with
  | nil => rfl
  | cons h1 _ ih => simp only [List.any_cons, h1.1, ih]
theorem all2_append {β : Type} {R : α → β → Prop} {a1 a2 : List α} {b1 b2 : List β} (h1 : All2 R a1 b1) (h2 : All2 R a2 b2) : All2 R (a1 ++ a2) (b1 ++ b2) := by
  induction h1 with
  | nil => exact h2
  | cons h _ ih => exact .cons h ih
theorem all2_put {R : Value → α → Prop} {vs : List (Int × Value)} {bs : List (Int × α)} (h : All2 (fun p q => p.1 = q.1 ∧ R p.2 q.2) vs bs) (i : Int) {v : Value} {a : α} (ha : R v a) : All2 (fun p q => p.1 = q.1 ∧ R p.2 q.2) (stored vs i v) (put bs i a) := by
  unfold stored put
  rw [all2_any h i]
  split
  · rename_i hany; clear hany
    induction h with
    | nil => exact .nil
    | @cons p q vs bs h1 _ ih =>
      refine .cons ?_ ih
      simp only
      by_cases e : p.1 = i
      · rw [if_pos e, if_pos (h1.1 ▸ e)]; exact ⟨h1.1, ha⟩
      · rw [if_neg e, if_neg (h1.1 ▸ e)]; exact h1
  · exact all2_append h (.cons ⟨rfl, ha⟩ .nil)
theorem all2_del {R : Value → α → Prop} {vs : List (Int × Value)} {bs : List (Int × α)} (h : All2 (fun p q => p.1 = q.1 ∧ R p.2 q.2) vs bs) (i : Int) : All2 (fun p q => p.1 = q.1 ∧ R p.2 q.2) (PySem.without vs i) (del bs i) := by
  unfold PySem.without del
  induction h with
  | nil => exact .nil
  | @cons p q vs bs h1 _ ih =>
    simp only [List.filter_cons]
    by_cases e : p.1 = i
    · rw [if_neg (by simp [e]), if_neg (by simp [← h1.1, e])]; exact ih
    · rw [if_pos (by simp [e]), if_pos (by simp [← h1.1, e])]; exact .cons h1 ih
theorem all2_len {β : Type} {R : α → β → Prop} {a : List α} {b : List β} (h : All2 R a b) : a.length = b.length := by
  induction h with
  | nil => rfl
  | cons _ _ ih => simp [ih]
theorem all2_keys {R : Value → α → Prop} {vs : List (Int × Value)} {bs : List (Int × α)} (h : All2 (fun p q => p.1 = q.1 ∧ R p.2 q.2) vs bs) : vs.map (·.1) = bs.map (·.1) := by
  induction h with
  | nil => rfl
  | cons h1 _ ih => simp [ih, h1.1]
theorem all2_imp {β : Type} {R S : α → β → Prop} (f : ∀ a b, R a b → S a b) {a : List α} {b : List β} (h : All2 R a b) : All2 S a b := by
  induction h with
  | nil => exact .nil
  | cons h _ ih => exact .cons (f _ _ h) ih

theorem get_none {l : List (Int × α)} {m : Int} (h : m ∉ l.map (·.1)) : get l m = none := by
  unfold get
  rw [Option.map_eq_none_iff, List.find?_eq_none]
  intro p hp e
  exact h (List.mem_map.2 ⟨p, hp, of_decide_eq_true e⟩)
theorem get_mem {l : List (Int × α)} {m : Int} {a : α} (h : get l m = some a) : m ∈ l.map (·.1) := by
  apply Decidable.byContradiction
  intro n
  rw [get_none n] at h; cases h
theorem put_new {l : List (Int × α)} {m : Int} (a : α) (h : m ∉ l.map (·.1)) : put l m a = l ++ [(m, a)] := by
  unfold put
  rw [if_neg]
  intro e
  obtain ⟨p, hp, e⟩ := List.any_eq_true.1 e
  exact h (List.mem_map.2 ⟨p, hp, of_decide_eq_true e⟩)
theorem get_cons (p : Int × α) (l : List (Int × α)) (j : Int) : get (p :: l) j = if p.1 = j then some p.2 else get l j := by
  unfold get
  rw [List.find?_cons]
  by_cases e : p.1 = j
  · rw [if_pos e, decide_eq_true e]; rfl
  · rw [if_neg e, decide_eq_false e]
theorem get_store (l : List (Int × α)) (i j : Int) (a : α) : get (l.map fun p => if p.1 = i then (p.1, a) else p) j = if j = i then (if l.any (fun p => p.1 = i) then some a else none) else get l j := by
  induction l with
  | nil => simp [get]
  | cons p l ih =>
    rw [List.map_cons, get_cons, get_cons, List.any_cons, ih]
    by_cases e : p.1 = i
    · rw [if_pos e]
      by_cases ej : j = i
      · subst ej; simp [e]
      · rw [if_neg ej, if_neg (fun q => ej (by rw [← q]; exact e)), if_neg ej, if_neg (fun q => ej (by rw [← q]; exact e))]
    · rw [if_neg e, decide_eq_false e, Bool.false_or]
      by_cases ej : j = i
      · subst ej; rw [if_neg e, if_pos rfl, if_pos rfl]
      · rw [if_neg ej, if_neg ej]
theorem get_append (l m : List (Int × α)) (j : Int) : get (l ++ m) j = (get l j).or (get m j) := by
  induction l with
  | nil => simp [get]
  | cons p l ih =>
    rw [List.cons_append, get_cons, get_cons, ih]
    split <;> simp
theorem get_put (l : List (Int × α)) (i j : Int) (a : α) : get (put l i a) j = if j = i then some a else get l j := by
  unfold put
  split
  · rename_i h; rw [get_store, if_pos h]
  · rename_i h
    rw [get_append, get_cons]
    by_cases e : j = i
    · subst e
      have : get l j = none := get_none fun q => h (by
        obtain ⟨p, hp, e⟩ := List.mem_map.1 q
        exact List.any_eq_true.2 ⟨p, hp, decide_eq_true e⟩)
      rw [this]; simp
    · rw [if_neg e, if_neg (fun q => e q.symm)]; simp [get]
end
end Mine.St
end

section
open PySem PyProof.Rows
namespace Mine.St
open Mine

inductive Ct where
  | leaf (n : Int)
  | br (rows : List (Str × Int))

noncomputable def chg : AObj → Bool
  | .ns _ => true
  | .idict _ => true
  | .sdict _ => true
  | _ => false
/-- what there is stays, but for the changing things of M -/
noncomputable def Kp (M : List Addr) (H H' : Hp) : Prop := ∀ a o, H a = some o → (chg o = false ∨ a ∉ M) → H' a = some o
theorem Kp.refl (M : List Addr) (H : Hp) : Kp M H H := fun _ _ h _ => h
theorem Kp.trans {M : List Addr} {H H1 H2 : Hp} (h1 : Kp M H H1) (h2 : Kp M H1 H2) : Kp M H H2 := fun a o h n => h2 a o (h1 a o h n) n
theorem Kp.mono {M M' : List Addr} {H H' : Hp} (h : Kp M H H') (s : ∀ a, a ∈ M → a ∈ M') : Kp M' H H' := fun a o e n => h a o e (n.imp id fun n q => n (s a q))
theorem kp_new {M : List Addr} {H : Hp} {c : Addr} (hc : H c = none) (o : AObj) : Kp M H (H.upd c o) := fun a o' h _ => (Hp.upd_ne _ _ fun e => by rw [e, hc] at h; cases h).trans h
theorem kp_upd {M : List Addr} {H : Hp} {d : Addr} {o' : AObj} (hd : H d = some o') (hm : chg o' = true) (hM : d ∈ M) (o : AObj) : Kp M H (H.upd d o) := fun a p h n => by
  refine (Hp.upd_ne _ _ fun e => ?_).trans h
  subst e
  rw [hd] at h; cases h
  rcases n with n | n
  · rw [hm] at n; cases n
  · exact n hM
theorem Kp.tup {M : List Addr} {H H' : Hp} (h : Kp M H H') {a : Addr} {xs : List Value} (e : H a = some (.tup xs)) : H' a = some (.tup xs) := h a _ e (.inl rfl)
theorem Kp.list {M : List Addr} {H H' : Hp} (h : Kp M H H') {a : Addr} {xs : List Value} (e : H a = some (.list xs)) : H' a = some (.list xs) := h a _ e (.inl rfl)
theorem Kp.rlist {M : List Addr} {H H' : Hp} (h : Kp M H H') {a : Addr} {xs : List Value} (e : H a = some (.rlist xs)) : H' a = some (.rlist xs) := h a _ e (.inl rfl)
noncomputable def RRow (H : Hp) (v : Value) (r : Str × Int) : Prop := ∃ a, v = .ref a ∧ H a = some (.tup [.str r.1 0, .int r.2 0])
noncomputable def RCt (H : Hp) (v : Value) : Ct → Prop
  | .leaf n => ∃ a, v = .ref a ∧ H a = some (.tup [.str (Str.ofString "leaf") 0, .int n 0])
  | .br rows => ∃ a l xs, v = .ref a ∧ H a = some (.tup [.str (Str.ofString "branch") 0, .ref l]) ∧ H l = some (.list xs) ∧ All2 (RRow H) xs rows
theorem RRow.kp {M : List Addr} {H H' : Hp} (k : Kp M H H') {v : Value} {r : Str × Int} (h : RRow H v r) : RRow H' v r := let ⟨a, e, q⟩ := h; ⟨a, e, k.tup q⟩
theorem RCt.kp {M : List Addr} {H H' : Hp} (k : Kp M H H') {v : Value} : ∀ {c : Ct}, RCt H v c → RCt H' v c
  | .leaf _, ⟨a, e, q⟩ => ⟨a, e, k.tup q⟩
  | .br _, ⟨a, l, xs, e, q, q2, q3⟩ => ⟨a, l, xs, e, k.tup q, k.list q2, all2_imp (fun _ _ h => h.kp k) q3⟩

structure PA where
  x : Addr
  d : Addr
  bx : Addr
  ct : Addr
noncomputable abbrev PA.M (π : PA) : List Addr := [π.d, π.bx, π.ct]
noncomputable def vints (cs : List (Int × Int)) : List (Int × Value) := cs.map fun p => (p.1, .int p.2 0)

structure PileR (A : Ad) (H : Hp) (π : PA) (bs : List (Int × Ct)) (cs : List (Int × Int)) (mk : Int) : Prop where
  ex : ∃ bvs, PileAt A H π.x π.d π.bx π.ct bvs (vints cs) mk ∧ All2 (fun p q => p.1 = q.1 ∧ RCt H p.2 q.2) bvs bs

section
variable {A : Ad} {H H' : Hp} {π : PA} {bs : List (Int × Ct)} {cs : List (Int × Int)} {mk : Int}

theorem ints_get (cs : List (Int × Int)) (i : Int) : valueAt (vints cs) i = (get cs i).map fun k => .int k 0 := by
  unfold valueAt get vints
  rw [List.find?_map]
  cases h : cs.find? ((fun kv => decide (kv.1 = i)) ∘ fun (p : Int × Int) => (p.1, Value.int p.2 0)) with
  | none =>
    have : cs.find? (fun p => decide (p.1 = i)) = none := h
    rw [this]; rfl
  | some p =>
    have : cs.find? (fun p => decide (p.1 = i)) = some p := h
    rw [this]; rfl
theorem ints_put (cs : List (Int × Int)) (i k : Int) : stored (vints cs) i (.int k 0) = vints (put cs i k) := by
  unfold stored put vints
  rw [List.any_map]
  have : (cs.any ((fun kv => decide (kv.1 = i)) ∘ fun (p : Int × Int) => (p.1, Value.int p.2 0))) = cs.any fun p => decide (p.1 = i) := rfl
  rw [this]
  split
  · rw [List.map_map, List.map_map]
    refine List.map_congr_left fun p _ => ?_
    simp only [Function.comp]
    split <;> rfl
  · rw [List.map_append]; rfl
theorem ints_del (cs : List (Int × Int)) (i : Int) : PySem.without (vints cs) i = vints (del cs i) := by
  unfold PySem.without del vints
  rw [List.filter_map]; rfl
theorem ints_len (cs : List (Int × Int)) : (vints cs).length = cs.length := by simp [vints]

theorem PileAt.kpM {bvs cvs : List (Int × Value)} (h : PileAt A H π.x π.d π.bx π.ct bvs cvs mk) (o : Off4 H H' π.d π.bx π.ct) : Kp π.M H H' := fun a p e n => by
  have hd : a ≠ π.d := fun q => by
    subst q
    rw [h.n] at e; cases e
    rcases n with n | n
    · cases n
    · exact n (by simp [PA.M])
  have hb : a ≠ π.bx := fun q => by
    subst q
    rw [h.b] at e; cases e
    rcases n with n | n
    · cases n
    · exact n (by simp [PA.M])
  have hc : a ≠ π.ct := fun q => by
    subst q
    rw [h.c] at e; cases e
    rcases n with n | n
    · cases n
    · exact n (by simp [PA.M])
  exact (o a hd hb hc (by rw [e]; exact nofun)).trans e

/-- whatever else changes -/
theorem PileR.kp {M : List Addr} (h : PileR A H π bs cs mk) (k : Kp M H H') (h1 : π.d ∉ M) (h2 : π.bx ∉ M) (h3 : π.ct ∉ M) : PileR A H' π bs cs mk := by
  obtain ⟨bvs, p, r⟩ := h.ex
  exact ⟨bvs, ⟨k _ _ p.i (.inl rfl), k _ _ p.n (.inr h1), k _ _ p.b (.inr h2), k _ _ p.c (.inr h3), p.ne⟩, all2_imp (fun _ _ q => ⟨q.1, q.2.kp k⟩) r⟩

theorem PileR.box (h : PileR A H π bs cs mk) {i : Int} {c : Ct} (e : get bs i = some c) : ∃ bvs v, PileAt A H π.x π.d π.bx π.ct bvs (vints cs) mk ∧ All2 (fun p q => p.1 = q.1 ∧ RCt H p.2 q.2) bvs bs ∧ valueAt bvs i = some v ∧ RCt H v c := by
  obtain ⟨bvs, p, r⟩ := h.ex
  rcases all2_get r i with ⟨v, c', h1, h2, h3⟩ | ⟨h1, h2⟩
  · rw [e] at h2; cases h2; exact ⟨bvs, v, p, r, h1, h3⟩
  · rw [e] at h2; cases h2
end
end Mine.St
end

section
open PySem PyProof.Rows
namespace Mine.St
open Mine

section
variable {A : Ad} {G : Gx} {H : Hp} {π : PA} {bs : List (Int × Ct)} {cs : List (Int × Int)} {mk : Int} {Q : QV} {X : XV}

theorem r_need (F : Env G A) (h : PileR A H π bs cs mk) {i : Int} {t : Tok} {c : Ct} (e : get bs i = some c) (q : Q (.int i t) H) : wpF G false ["self", "box"] b_Pile_need [.ref π.x, .int i t] H Q X := by
  obtain ⟨bvs, v, p, r, hv, hc⟩ := h.box e
  refine c_need F p (b := true) ?_ q
  show some (valueAt bvs i).isSome = _
  rw [hv]; rfl
theorem r_fresh (F : Env G A) (h : PileR A H π bs cs mk) {v : Value} {c : Ct} (hv : RCt H v c) (z1 : bs.length ≤ sizeLine) (z2 : cs.length ≤ sizeLine)
    (q : ∀ H', PileR A H' π (put bs (mk + 1) c) (put cs (mk + 1) 0) (mk + 1) → Kp π.M H H' → Q (.int (mk + 1) 0) H') : wpF G false ["self", "what"] b_Pile_fresh [.ref π.x, v] H Q X := by
  obtain ⟨bvs, p, r⟩ := h.ex
  refine c_fresh F p (by rw [all2_len r]; exact z1) (by rw [ints_len]; exact z2) fun H' p' o => ?_
  have k := PileAt.kpM p o.four
  rw [ints_put] at p'
  exact q H' ⟨_, p', all2_put (all2_imp (fun _ _ q => ⟨q.1, q.2.kp k⟩) r) _ (hv.kp k)⟩ k
theorem r_kept (F : Env G A) (h : PileR A H π bs cs mk) (z : bs.length < 64) (q : ∀ ms : List Int, ms.Perm (bs.map (·.1)) → ms.Pairwise (· ≤ ·) → newV (.list (ms.map fun n => Value.int n 0)) H Q) : wpF G false ["self"] b_Pile_kept [.ref π.x] H Q X := by
  obtain ⟨bvs, p, r⟩ := h.ex
  exact c_kept F p (by rw [all2_len r]; exact z) fun ms h1 h2 => q ms (by rw [← all2_keys r]; exact h1) h2

structure R1 (G : Gx) (A : Ad) : Prop where
  need : ∀ {H : Hp} {π : PA} {bs : List (Int × Ct)} {cs : List (Int × Int)} {mk : Int} {Q : QV} {X : XV}, PileR A H π bs cs mk → ∀ {i : Int} {t : Tok} {c : Ct}, get bs i = some c → Q (.int i t) H → G.fn A.Pile_need false [.ref π.x, .int i t] H Q X
  fresh : ∀ {H : Hp} {π : PA} {bs : List (Int × Ct)} {cs : List (Int × Int)} {mk : Int} {Q : QV} {X : XV}, PileR A H π bs cs mk → ∀ {v : Value} {c : Ct}, RCt H v c → bs.length ≤ sizeLine → cs.length ≤ sizeLine →
    (∀ H', PileR A H' π (put bs (mk + 1) c) (put cs (mk + 1) 0) (mk + 1) → Kp π.M H H' → Q (.int (mk + 1) 0) H') → G.fn A.Pile_fresh false [.ref π.x, v] H Q X
  kept : ∀ {H : Hp} {π : PA} {bs : List (Int × Ct)} {cs : List (Int × Int)} {mk : Int} {Q : QV} {X : XV}, PileR A H π bs cs mk → bs.length < 64 → (∀ ms : List Int, ms.Perm (bs.map (·.1)) → ms.Pairwise (· ≤ ·) → newV (.list (ms.map fun n => Value.int n 0)) H Q) → G.fn A.Pile_kept false [.ref π.x] H Q X
theorem r1 {g : Gx} {tab : Tab} (f : Env g A) (t : Tab1 tab A) (n : Nat) : R1 (GG g tab (n + 1)) A where
  need := fun h _ _ _ e q => fn_gg t.need (r_need (f.gg tab n) h e q)
  fresh := fun h _ _ hv z1 z2 q => fn_gg t.fresh (r_fresh (f.gg tab n) h hv z1 z2 q)
  kept := fun h z q => fn_gg t.kept (r_kept (f.gg tab n) h z q)

theorem r_hold (F : Env G A) (L : R1 G A) (h : PileR A H π bs cs mk) {i k : Int} {t : Tok} {c : Ct} (e : get bs i = some c) (ec : get cs i = some k) (z2 : cs.length ≤ sizeLine)
    (q : ∀ H', PileR A H' π bs (put cs i (k + 1)) mk → Kp π.M H H' → Q .none H') : wpF G false ["self", "box"] b_Pile_hold [.ref π.x, .int i t] H Q X := by
  refine ⟨rfl, ?_⟩
  obtain ⟨bvs, hp, r⟩ := h.ex
  conv => whnf
  rw [hp.i]
  conv => whnf
  rw [hp.n, F.m_Pile_need]
  conv => whnf
  refine ⟨rfl, ?_⟩
  conv => whnf
  refine L.need h e ?_
  conv => whnf
  rw [hp.i]
  conv => whnf
  rw [hp.n]
  conv => whnf
  refine ⟨F.f_Pile_counts, ?_⟩
  conv => whnf
  rw [hp.c]
  conv => whnf
  rw [ints_get, ec]
  conv => whnf
  rw [hp.i]
  conv => whnf
  rw [hp.n]
  conv => whnf
  refine ⟨F.f_Pile_counts, ?_⟩
  conv => whnf
  rw [hp.c]
  conv => whnf
  refine ⟨by rw [ints_len]; exact z2, ?_⟩
  conv => whnf
  have k' := PileAt.kpM hp (off_c H π.d π.bx π.ct (.idict (stored (vints cs) i (.int (k + 1) 0)))).four
  have p' := hp.cnt (stored (vints cs) i (.int (k + 1) 0))
  rw [ints_put] at p' k'
  rw [ints_put]
  exact q _ ⟨bvs, p', all2_imp (fun _ _ q => ⟨q.1, q.2.kp k'⟩) r⟩ k'

theorem r_leaf (F : Env G A) (L : R1 G A) (h : PileR A H π bs cs mk) {n : Int} (z1 : bs.length ≤ sizeLine) (z2 : cs.length ≤ sizeLine)
    (q : ∀ H', PileR A H' π (put bs (mk + 1) (.leaf n)) (put cs (mk + 1) 0) (mk + 1) → Kp π.M H H' → Q (.int (mk + 1) 0) H') : wpF G false ["self", "number"] b_Pile_leaf [.ref π.x, .int n 0] H Q X := by
  refine ⟨rfl, ?_⟩
  obtain ⟨bvs, hp, r⟩ := id h.ex
  conv => whnf
  rw [hp.i]
  conv => whnf
  rw [hp.n, F.m_Pile_fresh]
  conv => whnf
  refine ⟨rfl, ?_⟩
  conv => whnf
  refine ⟨Nat.le_of_ble_eq_true rfl, fun c hc => ?_⟩
  conv => whnf
  have k1 : Kp [] H (H.upd c (.tup [.str (Str.ofString "leaf") 0, .int n 0])) := kp_new hc _
  refine L.fresh (h.kp k1 (by simp) (by simp) (by simp)) (c := .leaf n) ⟨c, rfl, Hp.upd_same _ _ _⟩ z1 z2 fun H' p' k' => ?_
  exact q H' p' ((k1.mono (by simp)).trans k')

theorem r_content (F : Env G A) (L : R1 G A) (h : PileR A H π bs cs mk) {i : Int} {t : Tok} {c : Ct} (e : get bs i = some c) (zc : ∀ rows, c = .br rows → rows.length ≤ sizeLine)
    (q : ∀ v H', RCt H' v c → Kp [] H H' → (∀ a l u, v = .ref a → H' a = some (.tup [u, .ref l]) → H l = none) → Q v H') : wpF G false ["self", "box"] b_Pile_content [.ref π.x, .int i t] H Q X := by
  refine ⟨rfl, ?_⟩
  obtain ⟨bvs, v, hp, r, hv, hc⟩ := h.box e
  conv => whnf
  rw [hp.i]
  conv => whnf
  rw [hp.n]
  conv => whnf
  refine ⟨F.f_Pile_boxes, ?_⟩
  conv => whnf
  rw [hp.i]
  conv => whnf
  rw [hp.n, F.m_Pile_need]
  conv => whnf
  refine ⟨rfl, ?_⟩
  conv => whnf
  refine L.need h e ?_
  conv => whnf
  rw [hp.b]
  conv => whnf
  rw [hv]
  cases c with
  | leaf n =>
    obtain ⟨a, rfl, ha⟩ := id hc
    conv => whnf
    rw [ha]
    conv => whnf
    refine q _ H hc (Kp.refl _ _) fun a2 l2 u2 e1 e2 => ?_
    cases e1
    rw [ha] at e2
    cases e2
  | br rows =>
    obtain ⟨a, l, xs, rfl, ha, hl, hr⟩ := id hc
    conv => whnf
    rw [ha]
    conv => whnf
    rw [ha]
    conv => whnf
    refine ⟨.inr rfl, ?_⟩
    conv => whnf
    rw [hl]
    conv => whnf
    refine ⟨by rw [all2_len hr]; exact zc _ rfl, fun l' hl' => ?_⟩
    conv => whnf
    refine ⟨Nat.le_of_ble_eq_true rfl, fun a' ha' => ?_⟩
    conv => whnf
    have k1 : Kp [] H (H.upd l' (.list xs)) := kp_new hl' _
    have k2 : Kp [] (H.upd l' (.list xs)) ((H.upd l' (.list xs)).upd a' (.tup [.str (Str.ofString "branch") 0, .ref l'])) := kp_new ha' _
    refine q _ _ ⟨a', l', xs, rfl, Hp.upd_same _ _ _, k2.list (Hp.upd_same _ _ _), all2_imp (fun _ _ h => h.kp (k1.trans k2)) hr⟩ (k1.trans k2) fun a2 l2 u2 e1 e2 => ?_
    cases e1
    rw [Hp.upd_same] at e2
    cases e2
    exact hl'

/-! ### branch -/
noncomputable def holdAll (cs : List (Int × Int)) : List (Str × Int) → Option (List (Int × Int))
  | [] => some cs
  | r :: rows => match get cs r.2 with
    | some k => holdAll (put cs r.2 (k + 1)) rows
    | none => none
theorem put_len {α : Type} (l : List (Int × α)) (i : Int) (a b : α) (h : get l i = some b) : (put l i a).length = l.length := by
  unfold put
  rw [if_pos]
  · simp
  · obtain ⟨p, hp, e⟩ := List.mem_map.1 (get_mem h)
    exact List.any_eq_true.2 ⟨p, hp, decide_eq_true e⟩
structure R2 (G : Gx) (A : Ad) : Prop extends R1 G A where
  hold : ∀ {H : Hp} {π : PA} {bs : List (Int × Ct)} {cs : List (Int × Int)} {mk : Int} {Q : QV} {X : XV}, PileR A H π bs cs mk → ∀ {i k : Int} {t : Tok} {c : Ct}, get bs i = some c → get cs i = some k → cs.length ≤ sizeLine → (∀ H', PileR A H' π bs (put cs i (k + 1)) mk → Kp π.M H H' → Q .none H') → G.fn A.Pile_hold false [.ref π.x, .int i t] H Q X
  leaf : ∀ {H : Hp} {π : PA} {bs : List (Int × Ct)} {cs : List (Int × Int)} {mk : Int} {Q : QV} {X : XV}, PileR A H π bs cs mk → ∀ {n : Int}, bs.length ≤ sizeLine → cs.length ≤ sizeLine → (∀ H', PileR A H' π (put bs (mk + 1) (.leaf n)) (put cs (mk + 1) 0) (mk + 1) → Kp π.M H H' → Q (.int (mk + 1) 0) H') → G.fn A.Pile_leaf false [.ref π.x, .int n 0] H Q X
  content : ∀ {H : Hp} {π : PA} {bs : List (Int × Ct)} {cs : List (Int × Int)} {mk : Int} {Q : QV} {X : XV}, PileR A H π bs cs mk → ∀ {i : Int} {t : Tok} {c : Ct}, get bs i = some c → (∀ rows, c = .br rows → rows.length ≤ sizeLine) → (∀ v H', RCt H' v c → Kp [] H H' → (∀ a l u, v = .ref a → H' a = some (.tup [u, .ref l]) → H l = none) → Q v H') → G.fn A.Pile_content false [.ref π.x, .int i t] H Q X
structure Tab2 (tab : Tab) (A : Ad) : Prop extends Tab1 tab A where
  hold : HasF tab A.Pile_hold ["self", "box"] b_Pile_hold
  leaf : HasF tab A.Pile_leaf ["self", "number"] b_Pile_leaf
  content : HasF tab A.Pile_content ["self", "box"] b_Pile_content
  branch : HasF tab A.Pile_branch ["self", "rows"] b_Pile_branch
  let_go : HasF tab A.Pile_let_go ["self", "box"] b_Pile_let_go
theorem r2 {g : Gx} {tab : Tab} (f : Env g A) (t : Tab2 tab A) (n : Nat) : R2 (GG g tab (n + 2)) A where
  toR1 := r1 f t.toTab1 (n + 1)
  hold := fun h _ _ _ _ e ec z q => fn_gg t.hold (r_hold (f.gg tab _) (r1 f t.toTab1 n) h e ec z q)
  leaf := fun h _ z1 z2 q => fn_gg t.leaf (r_leaf (f.gg tab _) (r1 f t.toTab1 n) h z1 z2 q)
  content := fun h _ _ _ e zc q => fn_gg t.content (r_content (f.gg tab _) (r1 f t.toTab1 n) h e zc q)

theorem r_branch (F : Env G A) (L : R2 G A) (h : PileR A H π bs cs mk) {rl : Addr} {xs : List Value} {rows : List (Str × Int)} {cs' : List (Int × Int)} (hl : H rl = some (.list xs)) (hr : All2 (RRow H) xs rows) (hb : ∀ r ∈ rows, ∃ c, get bs r.2 = some c) (hc : holdAll cs rows = some cs')
    (z1 : bs.length ≤ sizeLine) (z2 : cs.length ≤ sizeLine) (z3 : rows.length ≤ sizeLine)
    (q : ∀ H', PileR A H' π (put bs (mk + 1) (.br rows)) (put cs' (mk + 1) 0) (mk + 1) → Kp π.M H H' → Q (.int (mk + 1) 0) H') : wpF G false ["self", "rows"] b_Pile_branch [.ref π.x, .ref rl] H Q X := by
  refine ⟨rfl, ?_⟩
  conv => whnf
  refine ⟨rfl, ?_⟩
  conv => whnf
  rw [hl]
  conv => whnf
  refine forG_list (fun r l H' => Ls l [("self", .ref π.x), ("rows", .ref rl)] ∧ H' = H ∧ ∃ rs, All2 (RRow H) r rs ∧ (∀ r ∈ rs, ∃ c, get bs r.2 = some c)) (fun r l H' h => by rw [h.2.1]; exact hl) ?_ ?_ xs _ H ⟨⟨rfl, rfl, trivial⟩, rfl, rows, hr, hb⟩
  · rintro v r l H' ⟨hl1, rfl, rs, ha, hb⟩ K hK _
    cases ha with
    | @cons _ row _ rs' h1 h2 =>
    obtain ⟨a, rfl, ha⟩ := h1
    have hl' := hl1.upd (y := "row") (v := .ref a) rfl
    have hk : (l.upd "row" (.ref a)) "row" = some (.ref a) := rfl
    generalize l.upd "row" (.ref a) = l1 at *
    obtain ⟨g1, g2, -⟩ := id hl'
    obtain ⟨bvs, hp, _⟩ := id h.ex
    obtain ⟨c, hc⟩ := hb _ (List.mem_cons_self ..)
    conv => whnf
    rw [g1]
    conv => whnf
    rw [hp.i]
    conv => whnf
    rw [hp.n, F.m_Pile_need]
    conv => whnf
    refine ⟨rfl, ?_⟩
    conv => whnf
    rw [hk]
    conv => whnf
    rw [ha]
    conv => whnf
    refine L.need h hc ?_
    conv => whnf
    exact (hK _ _ ⟨hl', rfl, rs', h2, fun r hr => hb r (List.mem_cons_of_mem _ hr)⟩).1
  · rintro l H' ⟨hl1, rfl, -⟩
    obtain ⟨g1, g2, -⟩ := id hl1
    conv => whnf
    rw [g2]
    conv => whnf
    refine ⟨rfl, ?_⟩
    conv => whnf
    rw [hl]
    conv => whnf
    refine forG_list (fun r l H1 => Ls l [("self", .ref π.x), ("rows", .ref rl)] ∧ Kp π.M H' H1 ∧ ∃ rs cs1, PileR A H1 π bs cs1 mk ∧ All2 (RRow H') r rs ∧ (∀ r ∈ rs, ∃ c, get bs r.2 = some c) ∧ holdAll cs1 rs = some cs' ∧ cs1.length = cs.length) (fun r l H1 h => h.2.1.list hl) ?_ ?_ xs _ H' ⟨hl1, Kp.refl _ _, rows, cs, h, hr, hb, hc, rfl⟩
    · rintro v r l H1 ⟨hl1, k1, rs, cs1, h1, ha, hb, hc, hz⟩ K hK _
      cases ha with
      | @cons _ row _ rs' e1 e2 =>
      obtain ⟨a, rfl, ha⟩ := e1
      have hl' := hl1.upd (y := "row") (v := .ref a) rfl
      have hk : (l.upd "row" (.ref a)) "row" = some (.ref a) := rfl
      generalize l.upd "row" (.ref a) = l1 at *
      obtain ⟨g1, g2, -⟩ := id hl'
      obtain ⟨bvs, hp, _⟩ := id h1.ex
      obtain ⟨c, hcb⟩ := hb _ (List.mem_cons_self ..)
      unfold holdAll at hc
      cases hk1 : get cs1 row.2 with
      | none => rw [hk1] at hc; cases hc
      | some k =>
      rw [hk1] at hc
      conv => whnf
      rw [g1]
      conv => whnf
      rw [hp.i]
      conv => whnf
      rw [hp.n, F.m_Pile_hold]
      conv => whnf
      refine ⟨rfl, ?_⟩
      conv => whnf
      rw [hk]
      conv => whnf
      rw [k1.tup ha]
      conv => whnf
      refine L.hold h1 hcb hk1 (by omega) fun H2 h2 k2 => ?_
      conv => whnf
      exact (hK _ _ ⟨hl', k1.trans k2, rs', _, h2, e2, fun r hr => hb r (List.mem_cons_of_mem _ hr), hc, by rw [put_len _ _ _ _ hk1]; exact hz⟩).1
    · rintro l H1 ⟨hl1, k1, rs, cs1, h1, ha, hb, hc, hz⟩
      cases ha
      cases hc
      obtain ⟨g1, g2, -⟩ := id hl1
      obtain ⟨bvs, hp, _⟩ := id h1.ex
      conv => whnf
      rw [g1]
      conv => whnf
      rw [hp.i]
      conv => whnf
      rw [hp.n, F.m_Pile_fresh]
      conv => whnf
      refine ⟨rfl, ?_⟩
      conv => whnf
      rw [g2]
      conv => whnf
      refine ⟨.inr rfl, ?_⟩
      conv => whnf
      rw [k1.list hl]
      conv => whnf
      refine ⟨by rw [all2_len hr]; exact z3, fun l' hl' => ?_⟩
      conv => whnf
      refine ⟨Nat.le_of_ble_eq_true rfl, fun a' ha' => ?_⟩
      conv => whnf
      have k2 : Kp [] H1 (H1.upd l' (.list xs)) := kp_new hl' _
      have k3 : Kp [] (H1.upd l' (.list xs)) ((H1.upd l' (.list xs)).upd a' (.tup [.str (Str.ofString "branch") 0, .ref l'])) := kp_new ha' _
      have k4 := k2.trans k3
      refine L.fresh (h1.kp k4 (by simp) (by simp) (by simp)) (c := .br rows) ⟨a', l', xs, rfl, Hp.upd_same _ _ _, k3.list (Hp.upd_same _ _ _), all2_imp (fun _ _ h => (h.kp k1).kp k4) hr⟩ z1 (by omega) fun H2 h2 k5 => ?_
      exact q H2 h2 ((k1.trans (k4.mono (by simp))).trans k5)

end
end Mine.St
end

section
open PySem PyProof.Rows
namespace Mine.St
open Mine

section
variable {A : Ad} {G : Gx} {H : Hp} {π : PA} {bs : List (Int × Ct)} {cs : List (Int × Int)} {mk : Int} {Q : QV} {X : XV}
/-! ### let_go -/
noncomputable def kids : Ct → List Int
  | .leaf _ => []
  | .br rows => rows.map (·.2)
noncomputable def lgo : Nat → List Int → List (Int × Ct) → List (Int × Int) → Int → Option (List (Int × Ct) × List (Int × Int) × Int)
  | 0, _, _, _, _ => none
  | n + 1, w, bs, cs, g => if w.length ≤ 2 ^ 20 ∧ bs.length ≤ 2 ^ 20 ∧ cs.length ≤ 2 ^ 20 then (match w.getLast? with
    | none => some (bs, cs, g)
    | some one => match get bs one with
      | none => lgo n w.dropLast bs cs g
      | some c => match get cs one with
        | none => none
        | some k => if max 0 (k - 1) = 0 then (if (kids c).length ≤ 2 ^ 20 then lgo n (w.dropLast ++ kids c) (del bs one) (del (put cs one (max 0 (k - 1))) one) (g + 1) else none) else lgo n w.dropLast bs (put cs one (max 0 (k - 1))) g) else none

theorem rd_ints {H : Hp} : ∀ w : List Int, RdAll H (w.map fun n => Value.int n 0) (w.map PyData.int)
  | [] => .nil
  | n :: w => .cons (.int n 0) (rd_ints w)
theorem lay_ints : ∀ w : List Int, PyData.canLayAll0 (w.map PyData.int) = true
  | [] => rfl
  | _ :: w => lay_ints w
theorem depth_ints : ∀ w : List Int, PyData.depthAll (w.map PyData.int) ≤ 1
  | [] => Nat.zero_le 1
  | _ :: w => Nat.max_le.2 ⟨Nat.zero_le 1, depth_ints w⟩
theorem shaped_ints (w : List Int) : SeqAt.shaped (.list (w.map PyData.int)) = true := by
  refine Bool.and_eq_true_iff.2 ⟨lay_ints w, decide_eq_true ?_⟩
  show PyData.depthAll (w.map PyData.int) + 1 ≤ 64
  have := depth_ints w
  omega
theorem eqv_nil (w : List PyData) : PyData.eqv (.list w) (.list []) = w.isEmpty := by
  cases w <;> rfl

theorem Kp.fresh {M : List Addr} {H H1 : Hp} (k : Kp M H H1) {c : Addr} (hc : H c = none) (o : AObj) : Kp M H (H1.upd c o) := fun a p h n => (Hp.upd_ne _ _ fun e => by rw [e, hc] at h; cases h).trans (k a p h n)

noncomputable def lgC : Ex := match b_Pile_let_go with
  | [_, _, .while_ c _, _] => c
  | _ => .none
noncomputable def lgB : List Sm := match b_Pile_let_go with
  | [_, _, .while_ _ b, _] => b
  | _ => []

theorem PileAt.notList {bvs cvs : List (Int × Value)} (h : PileAt A H π.x π.d π.bx π.ct bvs cvs mk) {a : Addr} {xs : List Value} (e : H a = some (.list xs)) : a ≠ π.x ∧ a ≠ π.d ∧ a ≠ π.bx ∧ a ≠ π.ct :=
  ⟨fun q => (by rw [q, h.i] at e; cases e), fun q => (by rw [q, h.n] at e; cases e), fun q => (by rw [q, h.b] at e; cases e), fun q => (by rw [q, h.c] at e; cases e)⟩

theorem Kp.none {bvs cvs : List (Int × Value)} {H0 : Hp} (k : Kp π.M H0 H) (h : PileAt A H π.x π.d π.bx π.ct bvs cvs mk) {a : Addr} (e : H a = none) : H0 a = none := by
  cases q : H0 a with
  | none => rfl
  | some o =>
    by_cases hM : a ∈ π.M
    · simp only [PA.M, List.mem_cons, List.not_mem_nil, or_false] at hM
      rcases hM with rfl | rfl | rfl
      · rw [h.n] at e; cases e
      · rw [h.b] at e; cases e
      · rw [h.c] at e; cases e
    · rw [k a o q (.inr hM)] at e; cases e

theorem lgo_loop (F : Env G A) {H0 : Hp} {X : XS} {Q : QS} {bs' : List (Int × Ct)} {cs' : List (Int × Int)} {g' : Int}
    (fin : ∀ l' H', Ls l' [("self", .ref π.x), ("gone", .int g' 0)] → PileR A H' π bs' cs' mk → Kp π.M H0 H' → Q .next l' H') :
    ∀ (n : Nat) (w : List Int) (bs : List (Int × Ct)) (bvs : List (Int × Value)) (cs : List (Int × Int)) (g : Int) (l : Loc) (H : Hp) (wl : Addr), Ls l [("self", .ref π.x), ("waiting", .ref wl), ("gone", .int g 0)] → H wl = some (.list (w.map fun n => Value.int n 0)) → H0 wl = none →
      PileAt A H π.x π.d π.bx π.ct bvs (vints cs) mk → All2 (fun p q => p.1 = q.1 ∧ RCt H0 p.2 q.2) bvs bs → Kp π.M H0 H →
      lgo n w bs cs g = some (bs', cs', g') → whileN (fun l' H' K => wpE G false lgC l' H' (fun v H1 => truthV v fun b => K b H1) (fun C H' => X C l' H')) (fun l' H' K => wpSs G false lgB l' H' K X) Q n l H
  | 0, w, bs, bvs, cs, g, l, H, wl, _, _, _, _, _, _, e => by cases e
  | n + 1, w, bs, bvs, cs, g, l, H, wl, hl, hw, h0, hp, hr, hk, e => by
    obtain ⟨g1, g2, g3, -⟩ := id hl
    unfold lgo at e
    by_cases hz : w.length ≤ 2 ^ 20 ∧ bs.length ≤ 2 ^ 20 ∧ cs.length ≤ 2 ^ 20
    · rw [if_pos hz] at e
      conv => whnf
      rw [g2]
      conv => whnf
      refine ⟨Nat.le_of_ble_eq_true rfl, fun e1 he1 => ?_⟩
      conv => whnf
      have k1 : Kp [] H (H.upd e1 (.list [])) := kp_new he1 _
      refine ⟨.list (w.map PyData.int), .list [], .list (k1.list hw) (rd_ints w), .list (Hp.upd_same _ _ _) .nil, shaped_ints w, rfl, ?_⟩
      have hp1 := hp.new he1 (.list [])
      have hk1 := hk.trans (k1.mono (M' := π.M) (by simp))
      have hw1 := k1.list hw
      generalize H.upd e1 (.list []) = H1 at *
      rw [eqv_nil]
      cases hlast : w.getLast? with
      | none =>
        obtain rfl : w = [] := by simpa using hlast
        rw [hlast] at e
        cases e
        conv => whnf
        exact fin _ _ ⟨g1, g3, trivial⟩ ⟨bvs, hp1, all2_imp (fun _ _ q => ⟨q.1, q.2.kp hk1⟩) hr⟩ hk1
      | some one =>
        rw [hlast] at e
        dsimp only at e
        have hne : w ≠ [] := by rintro rfl; cases hlast
        have hem : (w.map PyData.int).isEmpty = false := by cases w with | nil => exact absurd rfl hne | cons _ _ => rfl
        rw [hem]
        show wpSs G false lgB l H1 _ X
        refine cutc fun K1 hK1 hKc => ?_
        conv => whnf
        rw [g2]
        conv => whnf
        rw [hw1]
        conv => whnf
        refine ⟨.inr rfl, ?_⟩
        conv => whnf
        rw [hw1]
        conv => whnf
        refine ⟨by simp [sizeLine]; omega, ?_⟩
        have hgl : (w.map fun n => Value.int n 0).getLast? = some (.int one 0) := by rw [List.getLast?_map, hlast]; rfl
        rw [hgl]
        conv => whnf
        obtain ⟨n1, n2, n3, n4⟩ := hp1.notList hw1
        have hp2 := hp1.other n1 n2 n3 n4 (.list (w.map fun n => Value.int n 0).dropLast)
        have hk2 := hk1.fresh h0 (.list (w.map fun n => Value.int n 0).dropLast)
        have hw2 : (H1.upd wl (.list (w.map fun n => Value.int n 0).dropLast)) wl = some (.list (w.dropLast.map fun n => Value.int n 0)) := by rw [Hp.upd_same, List.map_dropLast]
        generalize H1.upd wl (.list (w.map fun n => Value.int n 0).dropLast) = H2 at *
        have hl2 : Ls (l.upd "one" (.int one 0)) [("self", .ref π.x), ("waiting", .ref wl), ("gone", .int g 0), ("one", .int one 0)] := ⟨g1, g2, g3, rfl, trivial⟩
        refine hK1 _ _ ?_
        generalize l.upd "one" (.int one 0) = l2 at *
        clear hK1 hKc K1
        obtain ⟨g1, g2, g3, g4, -⟩ := id hl2
        refine cutc fun K1 hK1 hKc => ?_
        conv => whnf
        rw [g4]
        conv => whnf
        rw [g1]
        conv => whnf
        rw [hp2.i]
        conv => whnf
        rw [hp2.n]
        conv => whnf
        refine ⟨F.f_Pile_boxes, ?_⟩
        conv => whnf
        rw [hp2.b]
        conv => whnf
        rcases all2_get hr one with ⟨v, c, q1, q2, q3⟩ | ⟨q1, q2⟩
        · rw [q1]
          rw [q2] at e
          dsimp only at e
          conv => whnf
          refine hK1 _ _ ?_
          clear hK1 hKc K1
          cases hc : get cs one with
          | none => rw [hc] at e; cases e
          | some k =>
          rw [hc] at e
          dsimp only at e
          refine cutc fun K1 hK1 hKc => ?_
          conv => whnf
          rw [g1]
          conv => whnf
          rw [hp2.i]
          conv => whnf
          rw [hp2.n]
          conv => whnf
          refine ⟨F.f_Pile_counts, ?_⟩
          conv => whnf
          rw [g4]
          conv => whnf
          rw [hp2.c]
          conv => whnf
          rw [ints_get, hc]
          conv => whnf
          refine ⟨.inr rfl, ?_⟩
          conv => whnf
          rw [g1]
          conv => whnf
          rw [hp2.i]
          conv => whnf
          rw [hp2.n]
          conv => whnf
          refine ⟨F.f_Pile_counts, ?_⟩
          conv => whnf
          rw [g4]
          conv => whnf
          rw [hp2.c]
          conv => whnf
          refine ⟨by rw [ints_len]; simp [sizeLine]; omega, ?_⟩
          conv => whnf
          rw [ints_put]
          have hp3 := hp2.cnt (vints (put cs one (max 0 (k - 1))))
          have hk3 := hk2.trans (PileAt.kpM hp2 (off_c H2 π.d π.bx π.ct (.idict (vints (put cs one (max 0 (k - 1)))))).four)
          have hw3 : (H2.upd π.ct (.idict (vints (put cs one (max 0 (k - 1)))))) wl = some (.list (w.dropLast.map fun n => Value.int n 0)) := (Hp.upd_ne _ _ n4).trans hw2
          refine hK1 _ _ ?_
          clear hK1 hKc K1
          generalize H2.upd π.ct (.idict (vints (put cs one (max 0 (k - 1))))) = H3 at *
          conv => whnf
          rw [g1]
          conv => whnf
          rw [hp3.i]
          conv => whnf
          rw [hp3.n]
          conv => whnf
          refine ⟨F.f_Pile_counts, ?_⟩
          conv => whnf
          rw [g4]
          conv => whnf
          rw [hp3.c]
          conv => whnf
          rw [ints_get, get_put, if_pos rfl]
          by_cases hm : max 0 (k - 1) = 0
          · rw [if_pos hm] at e
            conv => whnf
            rw [decide_eq_true hm]
            by_cases hzk : (kids c).length ≤ 2 ^ 20
            · rw [if_pos hzk] at e
              refine cutc fun K1 hK1 hKc => ?_
              conv => whnf
              rw [g1]
              conv => whnf
              rw [hp3.i]
              conv => whnf
              rw [hp3.n]
              conv => whnf
              refine ⟨F.f_Pile_boxes, ?_⟩
              conv => whnf
              rw [hp3.b]
              conv => whnf
              refine ⟨.inl rfl, ?_⟩
              conv => whnf
              rw [g4]
              conv => whnf
              rw [hp3.b]
              conv => whnf
              refine ⟨by rw [all2_len hr]; simp [sizeLine]; omega, ?_⟩
              conv => whnf
              rw [q1]
              conv => whnf
              have hp4 := hp3.box (PySem.without bvs one)
              have hk4 := hk3.trans (PileAt.kpM hp3 (off_b H3 π.d π.bx π.ct (.idict (PySem.without bvs one))).four)
              have hw4 : (H3.upd π.bx (.idict (PySem.without bvs one))) wl = some (.list (w.dropLast.map fun n => Value.int n 0)) := (Hp.upd_ne _ _ n3).trans hw3
              generalize H3.upd π.bx (.idict (PySem.without bvs one)) = H4 at *
              have hl3 : Ls (l2.upd "what" v) [("self", .ref π.x), ("waiting", .ref wl), ("gone", .int g 0), ("one", .int one 0), ("what", v)] := ⟨g1, g2, g3, g4, rfl, trivial⟩
              refine hK1 _ _ ?_
              clear hK1 hKc K1
              generalize l2.upd "what" v = l3 at *
              obtain ⟨g1, g2, g3, g4, g5, -⟩ := id hl3
              refine cutc fun K1 hK1 hKc => ?_
              conv => whnf
              rw [g1]
              conv => whnf
              rw [hp4.i]
              conv => whnf
              rw [hp4.n]
              conv => whnf
              refine ⟨F.f_Pile_counts, ?_⟩
              conv => whnf
              rw [hp4.c]
              conv => whnf
              refine ⟨.inl rfl, ?_⟩
              conv => whnf
              rw [g4]
              conv => whnf
              rw [hp4.c]
              conv => whnf
              refine ⟨by rw [ints_len, put_len _ _ _ _ hc]; simp [sizeLine]; omega, ?_⟩
              conv => whnf
              rw [ints_get, get_put, if_pos rfl]
              conv => whnf
              rw [ints_del]
              have hp5 := hp4.cnt (vints (del (put cs one (max 0 (k - 1))) one))
              have hk5 := hk4.trans (PileAt.kpM hp4 (off_c H4 π.d π.bx π.ct (.idict (vints (del (put cs one (max 0 (k - 1))) one)))).four)
              have hw5 : (H4.upd π.ct (.idict (vints (del (put cs one (max 0 (k - 1))) one)))) wl = some (.list (w.dropLast.map fun n => Value.int n 0)) := (Hp.upd_ne _ _ n4).trans hw4
              refine hK1 _ _ ?_
              clear hK1 hKc K1
              generalize H4.upd π.ct (.idict (vints (del (put cs one (max 0 (k - 1))) one))) = H5 at *
              conv => whnf
              rw [g3]
              conv => whnf
              have hl4 : Ls (l3.upd "gone" (.int (g + 1) 0)) [("self", .ref π.x), ("waiting", .ref wl), ("gone", .int (g + 1) 0), ("what", v)] := ⟨g1, g2, rfl, g5, trivial⟩
              generalize l3.upd "gone" (.int (g + 1) 0) = l4 at *
              clear g1 g2 g3 g4 g5
              obtain ⟨g1, g2, g3, g5, -⟩ := id hl4
              have hr' := all2_del hr one
              rw [g5]
              cases c with
              | leaf m =>
                obtain ⟨a, rfl, ha⟩ := id q3
                conv => whnf
                rw [hk5.tup ha]
                conv => whnf
                refine lgo_loop F fin n _ _ _ _ _ l4 H5 wl ⟨g1, g2, g3, trivial⟩ ?_ h0 hp5 hr' hk5 e
                rw [hw5]; simp [kids]
              | br rows =>
                obtain ⟨a, rl, xs, rfl, ha, hrl, hrr⟩ := id q3
                conv => whnf
                rw [hk5.tup ha]
                conv => whnf
                rw [g2]
                conv => whnf
                rw [g5]
                conv => whnf
                rw [hk5.tup ha]
                conv => whnf
                refine ⟨rfl, ?_⟩
                conv => whnf
                rw [hk5.list hrl]
                conv => whnf
                refine ⟨by rw [all2_len hrr]; simp [kids] at hzk; simp [sizeLine]; omega, ?_⟩
                refine compG_list (fun r acc H6 => H6 = H5 ∧ ∃ rs done, All2 (RRow H0) r rs ∧ rows = done ++ rs ∧ acc = (done.map (·.2)).map fun n => Value.int n 0) (fun r acc H6 h => by rw [h.1]; exact hk5.list hrl) ?_ ?_ xs [] H5 ⟨rfl, rows, [], hrr, rfl, rfl⟩
                · rintro u r acc H6 ⟨rfl, rs, done, ha2, hrw, rfl⟩ K hK
                  cases ha2 with
                  | @cons _ row _ rs' e1 e2 =>
                  obtain ⟨b, rfl, hb⟩ := e1
                  conv => whnf
                  rw [hk5.tup hb]
                  conv => whnf
                  refine hK _ _ ⟨rfl, rs', done ++ [row], e2, by rw [hrw]; simp, by simp⟩
                · rintro acc H6 ⟨rfl, rs, done, ha2, hrw, rfl⟩
                  cases ha2
                  rw [List.append_nil] at hrw
                  subst hrw
                  intro nl hnl
                  conv => whnf
                  have kn : Kp [] H6 (H6.upd nl (.list ((rows.map (·.2)).map fun n => Value.int n 0))) := kp_new hnl _
                  have hnl' : (H6.upd nl (.list ((rows.map (·.2)).map fun n => Value.int n 0))) nl = some (.list ((rows.map (·.2)).map fun n => Value.int n 0)) := Hp.upd_same _ _ _
                  have hp6 := hp5.new hnl (.list ((rows.map (·.2)).map fun n => Value.int n 0))
                  have hk6 := hk5.trans (kn.mono (M' := π.M) (by simp))
                  have hw6 := kn.list hw5
                  generalize H6.upd nl (.list ((rows.map (·.2)).map fun n => Value.int n 0)) = H7 at *
                  rw [hw6, hnl']
                  conv => whnf
                  refine ⟨by simp [kids] at hzk; simp [sizeLine]; omega, fun w2 hw2' => ?_⟩
                  conv => whnf
                  have h02 := hk6.none hp6 hw2'
                  refine lgo_loop F fin n _ _ _ _ _ _ _ w2 ⟨g1, rfl, g3, trivial⟩ ?_ h02 (hp6.new hw2' _) hr' (hk6.trans (kp_new hw2' _)) e
                  rw [Hp.upd_same, kids, List.map_append]
            · rw [if_neg hzk] at e; cases e
          · rw [if_neg hm] at e
            conv => whnf
            rw [decide_eq_false hm]
            conv => whnf
            exact lgo_loop F fin n _ bs bvs _ g l2 H3 wl ⟨g1, g2, g3, trivial⟩ hw3 h0 hp3 hr hk3 e
        · rw [q1]
          rw [q2] at e
          conv => whnf
          refine hKc _ _ ?_
          exact lgo_loop F fin n _ bs bvs cs g l2 H2 wl ⟨g1, g2, g3, trivial⟩ hw2 h0 hp2 hr hk2 e
    · rw [if_neg hz] at e; cases e

theorem r_let_go (F : Env G A) (L : R1 G A) (h : PileR A H π bs cs mk) {i : Int} {t : Tok} {c : Ct} (e : get bs i = some c) {n : Nat} {bs' : List (Int × Ct)} {cs' : List (Int × Int)} {g' : Int} (hg : lgo n [i] bs cs 0 = some (bs', cs', g'))
    (q : ∀ H', PileR A H' π bs' cs' mk → Kp π.M H H' → Q (.int g' 0) H') : wpF G false ["self", "box"] b_Pile_let_go [.ref π.x, .int i 0] H Q X := by
  refine ⟨rfl, ?_⟩
  obtain ⟨bvs, hp, r⟩ := id h.ex
  conv => whnf
  rw [hp.i]
  conv => whnf
  rw [hp.n, F.m_Pile_need]
  conv => whnf
  refine ⟨rfl, ?_⟩
  conv => whnf
  refine L.need h e ?_
  conv => whnf
  refine ⟨Nat.le_of_ble_eq_true rfl, fun wl hwl => ?_⟩
  conv => whnf
  refine ⟨n, ?_⟩
  refine lgo_loop F (H0 := H) (fun l' H' hl' h' k' => ?_) n [i] bs bvs cs 0 _ _ wl ⟨rfl, rfl, rfl, trivial⟩ (Hp.upd_same _ _ _) hwl (hp.new hwl _) r (kp_new hwl _) hg
  obtain ⟨g1, g2, -⟩ := hl'
  conv => whnf
  rw [g2]
  conv => whnf
  exact q H' h' k'
end
end Mine.St
end

section
open PySem PyProof.Rows
namespace Mine.St
open Mine

section
variable {A : Ad} {G : Gx} {H : Hp} {π : PA} {bs : List (Int × Ct)} {cs : List (Int × Int)} {mk : Int} {Q : QV} {X : XV}

structure R3 (G : Gx) (A : Ad) : Prop extends R2 G A where
  branch : ∀ {H : Hp} {π : PA} {bs : List (Int × Ct)} {cs : List (Int × Int)} {mk : Int} {Q : QV} {X : XV}, PileR A H π bs cs mk → ∀ {rl : Addr} {xs : List Value} {rows : List (Str × Int)} {cs' : List (Int × Int)}, H rl = some (.list xs) → All2 (RRow H) xs rows → (∀ r ∈ rows, ∃ c, get bs r.2 = some c) → holdAll cs rows = some cs' →
    bs.length ≤ sizeLine → cs.length ≤ sizeLine → rows.length ≤ sizeLine → (∀ H', PileR A H' π (put bs (mk + 1) (.br rows)) (put cs' (mk + 1) 0) (mk + 1) → Kp π.M H H' → Q (.int (mk + 1) 0) H') → G.fn A.Pile_branch false [.ref π.x, .ref rl] H Q X
  let_go : ∀ {H : Hp} {π : PA} {bs : List (Int × Ct)} {cs : List (Int × Int)} {mk : Int} {Q : QV} {X : XV}, PileR A H π bs cs mk → ∀ {i : Int} {c : Ct}, get bs i = some c → ∀ {n : Nat} {bs' : List (Int × Ct)} {cs' : List (Int × Int)} {g' : Int}, lgo n [i] bs cs 0 = some (bs', cs', g') →
    (∀ H', PileR A H' π bs' cs' mk → Kp π.M H H' → Q (.int g' 0) H') → G.fn A.Pile_let_go false [.ref π.x, .int i 0] H Q X
theorem r3 {g : Gx} {tab : Tab} (f : Env g A) (t : Tab2 tab A) (n : Nat) : R3 (GG g tab (n + 3)) A where
  toR2 := r2 f t (n + 1)
  branch := fun h _ _ _ _ h1 h2 h3 h4 z1 z2 z3 q => fn_gg t.branch (r_branch (f.gg tab _) (r2 f t n) h h1 h2 h3 h4 z1 z2 z3 q)
  let_go := fun h _ _ e _ _ _ _ hg q => fn_gg t.let_go (r_let_go (t := 0) (f.gg tab _) (r2 f t n).toR1 h e hg q)

/-! ### names -/
noncomputable def LET : Str := "abcdefghijklmnopqrstuvwxyz"
structure Good (x : Str) : Prop where
  lo : 1 ≤ x.cps.toList.length
  hi : x.cps.toList.length ≤ 8
  cs : ∀ c ∈ x.cps.toList, 97 ≤ c ∧ c ≤ 122
theorem let_all : ∀ k < 26, Txt.contains LET (chr1 (97 + k)) = true := by decide +kernel
theorem let_has {c : Nat} (h : 97 ≤ c ∧ c ≤ 122) : Txt.contains LET (chr1 c) = true := by
  have := let_all (c - 97) (by omega)
  rwa [show 97 + (c - 97) = c by omega] at this

theorem r_is_name (F : EnvS G A) {x : Str} {t : Tok} (hx : Good x) (q : ∀ H', Kp [] H H' → Q (.bool true) H') : wpF G false ["thing"] b_is_name [.str x t] H Q X := by
  refine ⟨rfl, ?_⟩
  have hlen : x.length = x.cps.toList.length := rfl
  have h1 := hx.lo
  have h2 := hx.hi
  conv => whnf
  refine ⟨rfl, ?_⟩
  conv => whnf
  refine ⟨.inl rfl, ?_⟩
  conv => whnf
  refine ⟨Nat.le_trans (show x.length ≤ 8 from h2) (by decide), ?_⟩
  conv => whnf
  rw [decide_eq_true (show (1 : Int) ≤ (x.length : Int) by omega)]
  conv => whnf
  rw [F.g_MOST]
  conv => whnf
  rw [decide_eq_true (show (x.length : Int) ≤ 8 by omega)]
  conv => whnf
  refine ⟨rfl, ?_⟩
  conv => whnf
  refine ⟨by rw [List.length_map]; exact Nat.le_trans h2 (by decide), ?_⟩
  refine compG_map (f := fun _ => .bool true) trivial _ _ (fun v hv k' hk' => ?_) ?_
  · obtain ⟨c, hc, rfl⟩ := List.mem_map.1 hv
    conv => whnf
    rw [F.g_LETTERS]
    conv => whnf
    rw [show Txt.contains (Str.ofString "abcdefghijklmnopqrstuvwxyz") (chr1 c) = true from let_has (hx.cs c hc)]
    exact hk'
  · intro b hb
    conv => whnf
    refine ⟨.inr rfl, ?_⟩
    conv => whnf
    rw [Hp.upd_same]
    refine ⟨x.cps.toList.map fun _ => true, by simp, ?_⟩
    rw [show (x.cps.toList.map fun _ => true).all id = true by simp]
    exact q _ (kp_new hb _)

theorem r_checked (F : EnvS G A) (hn : ∀ {H : Hp} {Q : QV} {X : XV} {x : Str} {t : Tok}, Good x → (∀ H', Kp [] H H' → Q (.bool true) H') → G.fn A.is_name false [.str x t] H Q X) {a : Addr} {xs : List Str} (ha : H a = some (.list (xs.map fun x => Value.str x 0)) ∨ H a = some (.tup (xs.map fun x => Value.str x 0))) (hx : ∀ x ∈ xs, Good x) (hz : xs.length ≤ 8)
    (q : ∀ b H', Kp [] H H' → H' b = some (.list (xs.map fun x => Value.str x 0)) → H b = none → Q (.ref b) H') : wpF G false ["path"] b_checked [.ref a] H Q X := by
  refine ⟨rfl, ?_⟩
  rcases ha with ha | ha
  · conv => whnf
    rw [ha]
    conv => whnf
    refine ⟨rfl, ?_⟩
    conv => whnf
    refine ⟨.inl rfl, ?_⟩
    conv => whnf
    rw [ha]
    conv => whnf
    rw [F.g_MOST]
    conv => whnf
    rw [decide_eq_false (show ¬ (8 : Int) < ((xs.map fun x => Value.str x 0).length : Int) by simp; omega)]
    conv => whnf
    refine ⟨rfl, ?_⟩
    conv => whnf
    rw [ha]
    conv => whnf
    refine ⟨by simp [sizeLine]; omega, ?_⟩
    refine compG_list (fun r acc H1 => Kp [] H H1 ∧ ∃ rs : List Str, r = rs.map (fun x => Value.str x 0) ∧ (∀ x ∈ rs, Good x) ∧ ∃ m : Nat, acc = (List.replicate m true).map Value.bool) (fun r acc H1 h => h.1.list ha) ?_ ?_ _ [] H ⟨Kp.refl _ _, xs, rfl, hx, 0, rfl⟩
    · rintro v r acc H1 ⟨k1, rs, hr, hg, m, rfl⟩ K hK
      cases rs with
      | nil => cases hr
      | cons x rs =>
      cases hr
      conv => whnf
      rw [F.g_is_name]
      conv => whnf
      rw [F.i_is_name]
      conv => whnf
      refine hn (hg x (List.mem_cons_self ..)) fun H2 k2 => ?_
      exact hK _ _ ⟨k1.trans k2, rs, rfl, fun y hy => hg y (List.mem_cons_of_mem _ hy), m + 1, by rw [List.replicate_succ', List.map_append]; rfl⟩
    · rintro acc H1 ⟨k1, rs, hr, hg, m, rfl⟩
      intro b hb
      conv => whnf
      refine ⟨.inr rfl, ?_⟩
      conv => whnf
      rw [Hp.upd_same]
      refine ⟨List.replicate m true, rfl, ?_⟩
      rw [show (List.replicate m true).all id = true by simp]
      have k2 : Kp [] H1 (H1.upd b (.list ((List.replicate m true).map Value.bool))) := kp_new hb _
      have k3 := k1.trans k2
      generalize H1.upd b (.list ((List.replicate m true).map Value.bool)) = H2 at *
      conv => whnf
      refine ⟨.inr rfl, ?_⟩
      conv => whnf
      rw [k3.list ha]
      conv => whnf
      refine ⟨by simp [sizeLine]; omega, fun c hc => ?_⟩
      conv => whnf
      refine q c _ (k3.trans (kp_new hc _)) (Hp.upd_same _ _ _) ?_
      cases e : H c with
      | none => rfl
      | some o => rw [k3 c o e (.inr (by simp))] at hc; cases hc
  · conv => whnf
    rw [ha]
    conv => whnf
    refine ⟨rfl, ?_⟩
    conv => whnf
    refine ⟨.inl rfl, ?_⟩
    conv => whnf
    rw [ha]
    conv => whnf
    rw [F.g_MOST]
    conv => whnf
    rw [decide_eq_false (show ¬ (8 : Int) < ((xs.map fun x => Value.str x 0).length : Int) by simp; omega)]
    conv => whnf
    refine ⟨rfl, ?_⟩
    conv => whnf
    rw [ha]
    conv => whnf
    refine ⟨by simp [sizeLine]; omega, ?_⟩
    refine compG_list (fun r acc H1 => Kp [] H H1 ∧ ∃ rs : List Str, r = rs.map (fun x => Value.str x 0) ∧ (∀ x ∈ rs, Good x) ∧ ∃ m : Nat, acc = (List.replicate m true).map Value.bool) (fun r acc H1 h => h.1.tup ha) ?_ ?_ _ [] H ⟨Kp.refl _ _, xs, rfl, hx, 0, rfl⟩
    · rintro v r acc H1 ⟨k1, rs, hr, hg, m, rfl⟩ K hK
      cases rs with
      | nil => cases hr
      | cons x rs =>
      cases hr
      conv => whnf
      rw [F.g_is_name]
      conv => whnf
      rw [F.i_is_name]
      conv => whnf
      refine hn (hg x (List.mem_cons_self ..)) fun H2 k2 => ?_
      exact hK _ _ ⟨k1.trans k2, rs, rfl, fun y hy => hg y (List.mem_cons_of_mem _ hy), m + 1, by rw [List.replicate_succ', List.map_append]; rfl⟩
    · rintro acc H1 ⟨k1, rs, hr, hg, m, rfl⟩
      intro b hb
      conv => whnf
      refine ⟨.inr rfl, ?_⟩
      conv => whnf
      rw [Hp.upd_same]
      refine ⟨List.replicate m true, rfl, ?_⟩
      rw [show (List.replicate m true).all id = true by simp]
      have k2 : Kp [] H1 (H1.upd b (.list ((List.replicate m true).map Value.bool))) := kp_new hb _
      have k3 := k1.trans k2
      generalize H1.upd b (.list ((List.replicate m true).map Value.bool)) = H2 at *
      conv => whnf
      refine ⟨.inr rfl, ?_⟩
      conv => whnf
      rw [k3.tup ha]
      conv => whnf
      refine ⟨by simp [sizeLine]; omega, fun c hc => ?_⟩
      conv => whnf
      refine q c _ (k3.trans (kp_new hc _)) (Hp.upd_same _ _ _) ?_
      cases e : H c with
      | none => rfl
      | some o => rw [k3 c o e (.inr (by simp))] at hc; cases hc

theorem good_ok {x : Str} (h : Good x) : PyData.canLay0 (.str x) = true := by
  show PyData.strOk x = true
  unfold PyData.strOk
  rw [← Array.all_toList, List.all_eq_true]
  intro c hc
  have := h.cs c hc
  exact decide_eq_true (by omega)
theorem rd_strs {H : Hp} : ∀ w : List Str, RdAll H (w.map fun n => Value.str n 0) (w.map PyData.str)
  | [] => .nil
  | n :: w => .cons (.str n 0) (rd_strs w)
theorem lay_strs : ∀ w : List Str, (∀ x ∈ w, Good x) → PyData.canLayAll0 (w.map PyData.str) = true
  | [], _ => rfl
  | n :: w, h => Bool.and_eq_true_iff.2 ⟨good_ok (h n (List.mem_cons_self ..)), lay_strs w fun x hx => h x (List.mem_cons_of_mem _ hx)⟩
theorem depth_strs : ∀ w : List Str, PyData.depthAll (w.map PyData.str) ≤ 1
  | [] => Nat.zero_le 1
  | _ :: w => Nat.max_le.2 ⟨Nat.zero_le 1, depth_strs w⟩
theorem shaped_strs {w : List Str} (h : ∀ x ∈ w, Good x) : SeqAt.shaped (.list (w.map PyData.str)) = true := by
  refine Bool.and_eq_true_iff.2 ⟨lay_strs w h, decide_eq_true ?_⟩
  show PyData.depthAll (w.map PyData.str) + 1 ≤ 64
  have := depth_strs w
  omega

theorem r_need_way (F : EnvS G A) (hn : ∀ {H : Hp} {Q : QV} {X : XV} {a : Addr} {xs : List Str}, (H a = some (.list (xs.map fun x => Value.str x 0)) ∨ H a = some (.tup (xs.map fun x => Value.str x 0))) → (∀ x ∈ xs, Good x) → xs.length ≤ 8 → (∀ b H', Kp [] H H' → H' b = some (.list (xs.map fun x => Value.str x 0)) → H b = none → Q (.ref b) H') → G.fn A.checked false [.ref a] H Q X)
    {a : Addr} {xs : List Str} (ha : H a = some (.list (xs.map fun x => Value.str x 0)) ∨ H a = some (.tup (xs.map fun x => Value.str x 0))) (hx : ∀ x ∈ xs, Good x) (hz : xs.length ≤ 8) (hne : xs ≠ [])
    (q : ∀ b H', Kp [] H H' → H' b = some (.list (xs.map fun x => Value.str x 0)) → H b = none → Q (.ref b) H') : wpF G false ["path"] b_need_way [.ref a] H Q X := by
  refine ⟨rfl, ?_⟩
  conv => whnf
  rw [F.g_checked]
  conv => whnf
  rw [F.i_checked]
  conv => whnf
  refine hn ha hx hz fun b H1 k1 hb h0 => ?_
  conv => whnf
  refine ⟨Nat.le_of_ble_eq_true rfl, fun e1 he1 => ?_⟩
  conv => whnf
  have k2 : Kp [] H1 (H1.upd e1 (.list [])) := kp_new he1 _
  refine ⟨.list (xs.map PyData.str), .list [], .list (k2.list hb) (rd_strs xs), .list (Hp.upd_same _ _ _) .nil, shaped_strs hx, rfl, ?_⟩
  rw [eqv_nil, show (xs.map PyData.str).isEmpty = false by cases xs with | nil => exact absurd rfl hne | cons _ _ => rfl]
  conv => whnf
  exact q b _ (k1.trans k2) (k2.list hb) h0

theorem r_need_number (F : EnvS G A) {n : Int} {t : Tok} (h1 : -(10 ^ 30) < n) (h2 : n < 10 ^ 30) (q : Q .none H) : wpF G false ["number"] b_need_number [.int n t] H Q X := by
  refine ⟨rfl, ?_⟩
  conv => whnf
  refine ⟨rfl, ?_⟩
  conv => whnf
  refine ⟨rfl, ?_⟩
  conv => whnf
  rw [F.g_BOUND]
  conv => whnf
  rw [decide_eq_true (show (-(10 ^ 30) : Int) < n from h1)]
  conv => whnf
  rw [F.g_BOUND]
  conv => whnf
  rw [decide_eq_true (show n < (10 ^ 30 : Int) from h2)]
  conv => whnf
  exact q

/-! ### rows -/
noncomputable def rowOf (rows : List (Str × Int)) (n : Str) : Option Int := (rows.find? fun r => decide (r.1 = n)).map (·.2)
noncomputable def optV : Option Int → Value
  | some i => .int i 0
  | none => .none

theorem r_box_of {rl : Addr} {xs : List Value} {rows : List (Str × Int)} {n : Str} {t : Tok} (hl : H rl = some (.list xs)) (hr : All2 (RRow H) xs rows) (q : Q (optV (rowOf rows n)) H) : wpF G false ["rows", "name"] b_box_of [.ref rl, .str n t] H Q X := by
  refine ⟨rfl, ?_⟩
  conv => whnf
  refine ⟨rfl, ?_⟩
  conv => whnf
  rw [hl]
  conv => whnf
  refine forG_list (fun r l H' => H' = H ∧ Ls l [("name", .str n t)] ∧ ∃ rs, All2 (RRow H) r rs ∧ rowOf rows n = rowOf rs n) (fun r l H' h => by rw [h.1]; exact hl) ?_ ?_ xs _ H ⟨rfl, ⟨rfl, trivial⟩, rows, hr, rfl⟩
  · rintro v r l H' ⟨rfl, hl1, rs, ha, he⟩ K hK hR
    cases ha with
    | @cons _ row _ rs' e1 e2 =>
    obtain ⟨a, rfl, ha⟩ := e1
    have hl' := hl1.upd (y := "row") (v := .ref a) rfl
    have hk : (l.upd "row" (.ref a)) "row" = some (.ref a) := rfl
    generalize l.upd "row" (.ref a) = l1 at *
    obtain ⟨g1, -⟩ := id hl'
    conv => whnf
    rw [hk]
    conv => whnf
    rw [ha]
    conv => whnf
    rw [g1]
    conv => whnf
    unfold rowOf at he
    rw [List.find?_cons] at he
    by_cases hn : row.1 = n
    · rw [decide_eq_true hn] at he ⊢
      conv => whnf
      rw [hk]
      conv => whnf
      rw [ha]
      conv => whnf
      refine hR _ _ _ ?_
      unfold rowOf at q
      rw [he] at q
      exact q
    · rw [decide_eq_false hn] at he ⊢
      conv => whnf
      exact (hK _ _ ⟨rfl, hl', rs', e2, he⟩).1
  · rintro l H' ⟨rfl, hl1, rs, ha, he⟩
    cases ha
    rw [he] at q
    conv => whnf
    exact q
end
end Mine.St
end

section
open PySem PyProof.Rows
namespace Mine.St
open Mine

section
variable {A : Ad} {G : Gx} {H : Hp} {Q : QV} {X : XV}

noncomputable def lessS (a b : Str) : Bool := decide (a.cps.toList < b.cps.toList)
/-- rows with one put in its place -/
noncomputable def placedR (rows : List (Str × Int)) (n : Str) (b : Int) : List (Str × Int) := rows.filter (fun r => lessS r.1 n) ++ [(n, b)] ++ rows.filter (fun r => lessS n r.1)

theorem r_placed {rl : Addr} {xs : List Value} {rows : List (Str × Int)} {n : Str} {t u : Tok} {b : Int} (hl : H rl = some (.list xs)) (hr : All2 (RRow H) xs rows) (hz : rows.length ≤ 2 ^ 20)
    (q : ∀ c ys H', Kp [] H H' → H' c = some (.list ys) → All2 (RRow H') ys (placedR rows n b) → Q (.ref c) H') : wpF G false ["rows", "name", "box"] b_placed [.ref rl, .str n 0, .int b 0] H Q X := by
  refine ⟨rfl, ?_⟩
  have hzx : xs.length ≤ 2 ^ 20 := by rw [all2_len hr]; exact hz
  conv => whnf
  refine ⟨rfl, ?_⟩
  conv => whnf
  rw [hl]
  conv => whnf
  refine ⟨by simp [sizeLine]; omega, ?_⟩
  refine compG_list (fun r acc H1 => H1 = H ∧ ∃ rs done, All2 (RRow H) r rs ∧ rows = done ++ rs ∧ All2 (RRow H) acc (done.filter fun r => lessS r.1 n)) (fun r acc H1 h => by rw [h.1]; exact hl) ?_ ?_ xs [] H ⟨rfl, rows, [], hr, rfl, .nil⟩
  · rintro v r acc H1 ⟨rfl, rs, done, ha, hrw, hacc⟩ K hK
    cases ha with
    | @cons _ row _ rs' e1 e2 =>
    obtain ⟨a, rfl, ha⟩ := id e1
    conv => whnf
    rw [ha]
    conv => whnf
    cases hc : decide (row.1.cps.toList < n.cps.toList) with
    | true =>
      conv => whnf
      exact hK _ _ ⟨rfl, rs', done ++ [row], e2, by rw [hrw]; simp, by rw [List.filter_append, List.filter_cons, if_pos (show lessS row.1 n = true from hc)]; exact all2_append hacc (.cons e1 .nil)⟩
    | false =>
      conv => whnf
      exact hK _ _ ⟨rfl, rs', done ++ [row], e2, by rw [hrw]; simp, by rw [List.filter_append, List.filter_cons, if_neg (by rw [show lessS row.1 n = false from hc]; exact nofun)]; simpa using hacc⟩
  · rintro acc H1 ⟨rfl, rs, done, ha, hrw, hacc⟩
    cases ha
    rw [List.append_nil] at hrw
    subst hrw
    intro c1 hc1
    conv => whnf
    have k1 : Kp [] H1 (H1.upd c1 (.list acc)) := kp_new hc1 _
    have hc1' : (H1.upd c1 (.list acc)) c1 = some (.list acc) := Hp.upd_same _ _ _
    generalize H1.upd c1 (.list acc) = H2 at *
    refine ⟨rfl, ?_⟩
    conv => whnf
    rw [k1.list hl]
    conv => whnf
    refine ⟨by simp [sizeLine]; omega, ?_⟩
    refine compG_list (fun r acc2 H3 => H3 = H2 ∧ ∃ rs done, All2 (RRow H1) r rs ∧ rows = done ++ rs ∧ All2 (RRow H1) acc2 (done.filter fun r => lessS n r.1)) (fun r acc H1 h => by rw [h.1]; exact k1.list hl) ?_ ?_ xs [] H2 ⟨rfl, rows, [], hr, rfl, .nil⟩
    · rintro v r acc2 H3 ⟨rfl, rs, done, ha, hrw, hacc2⟩ K hK
      cases ha with
      | @cons _ row _ rs' e1 e2 =>
      obtain ⟨a, rfl, ha⟩ := id e1
      conv => whnf
      rw [k1.tup ha]
      conv => whnf
      cases hc : decide (n.cps.toList < row.1.cps.toList) with
      | true =>
        conv => whnf
        exact hK _ _ ⟨rfl, rs', done ++ [row], e2, by rw [hrw]; simp, by rw [List.filter_append, List.filter_cons, if_pos (show lessS n row.1 = true from hc)]; exact all2_append hacc2 (.cons e1 .nil)⟩
      | false =>
        conv => whnf
        exact hK _ _ ⟨rfl, rs', done ++ [row], e2, by rw [hrw]; simp, by rw [List.filter_append, List.filter_cons, if_neg (by rw [show lessS n row.1 = false from hc]; exact nofun)]; simpa using hacc2⟩
    · rintro acc2 H3 ⟨rfl, rs, done, ha, hrw, hacc2⟩
      cases ha
      rw [List.append_nil] at hrw
      subst hrw
      intro c2 hc2
      conv => whnf
      have k2 : Kp [] H3 (H3.upd c2 (.list acc2)) := kp_new hc2 _
      have hc2' : (H3.upd c2 (.list acc2)) c2 = some (.list acc2) := Hp.upd_same _ _ _
      have hc1'' := k2.list hc1'
      generalize H3.upd c2 (.list acc2) = H4 at *
      refine ⟨Nat.le_of_ble_eq_true rfl, fun tp htp => ?_⟩
      conv => whnf
      refine ⟨Nat.le_of_ble_eq_true rfl, fun c3 hc3 => ?_⟩
      conv => whnf
      have k3 : Kp [] H4 (H4.upd tp (.tup [.str n 0, .int b 0])) := kp_new htp _
      have k4 : Kp [] (H4.upd tp (.tup [.str n 0, .int b 0])) ((H4.upd tp (.tup [.str n 0, .int b 0])).upd c3 (.list [.ref tp])) := kp_new hc3 _
      have htp' := k4.tup (Hp.upd_same H4 tp (.tup [.str n 0, .int b 0]))
      have hc3' : ((H4.upd tp (.tup [.str n 0, .int b 0])).upd c3 (.list [.ref tp])) c3 = some (.list [.ref tp]) := Hp.upd_same _ _ _
      have k5 := k3.trans k4
      generalize (H4.upd tp (.tup [.str n 0, .int b 0])).upd c3 (.list [.ref tp]) = H5 at *
      obtain ⟨z1, z2⟩ : acc.length ≤ 2 ^ 20 ∧ acc2.length ≤ 2 ^ 20 := by
        rw [all2_len hacc, all2_len hacc2]
        exact ⟨Nat.le_trans (List.length_filter_le ..) hz, Nat.le_trans (List.length_filter_le ..) hz⟩
      rw [k5.list hc1'', hc3']
      conv => whnf
      refine ⟨by simp [sizeLine]; omega, fun c4 hc4 => ?_⟩
      conv => whnf
      have k6 : Kp [] H5 (H5.upd c4 (.list (acc ++ [.ref tp]))) := kp_new hc4 _
      have hc4' : (H5.upd c4 (.list (acc ++ [.ref tp]))) c4 = some (.list (acc ++ [.ref tp])) := Hp.upd_same _ _ _
      generalize H5.upd c4 (.list (acc ++ [.ref tp])) = H6 at *
      rw [hc4', k6.list (k5.list hc2')]
      conv => whnf
      refine ⟨by simp [sizeLine]; omega, fun c5 hc5 => ?_⟩
      conv => whnf
      have k7 : Kp [] H6 (H6.upd c5 (.list ((acc ++ [.ref tp]) ++ acc2))) := kp_new hc5 _
      have kk := ((k1.trans k2).trans k5).trans (k6.trans k7)
      refine q c5 _ _ kk (Hp.upd_same _ _ _) ?_
      unfold placedR
      exact all2_append (all2_append (all2_imp (fun _ _ h => h.kp kk) hacc) (.cons ⟨tp, rfl, (k6.trans k7).tup htp'⟩ .nil)) (all2_imp (fun _ _ h => h.kp kk) hacc2)
end

/-! ### the store -/
structure SA where
  sx : Addr
  sd : Addr
  sh : Addr
  π : PA
noncomputable abbrev SA.M (σ : SA) : List Addr := [σ.sd, σ.sh, σ.π.d, σ.π.bx, σ.π.ct]
structure StoreR (A : Ad) (H : Hp) (σ : SA) (bs : List (Int × Ct)) (cs : List (Int × Int)) (mk tree : Int) (shots : List (Int × Int)) (last : Int) : Prop where
  i : H σ.sx = some (.inst A.cS σ.sd)
  n : H σ.sd = some (.ns [("pile", .ref σ.π.x), ("tree", .int tree 0), ("shots", .ref σ.sh), ("last", .int last 0)])
  s : H σ.sh = some (.idict (vints shots))
  p : PileR A H σ.π bs cs mk
  n1 : σ.sd ≠ σ.π.d
  n2 : σ.sh ≠ σ.π.bx
  n3 : σ.sh ≠ σ.π.ct

section
variable {A : Ad} {G : Gx} {H H' : Hp} {σ : SA} {bs bs' : List (Int × Ct)} {cs cs' : List (Int × Int)} {mk mk' tree : Int} {shots : List (Int × Int)} {last : Int} {Q : QV} {X : XV}
theorem SA.sub (σ : SA) : ∀ a, a ∈ σ.π.M → a ∈ σ.M := by
  intro a h
  simp only [PA.M, List.mem_cons, List.not_mem_nil, or_false] at h
  rcases h with rfl | rfl | rfl <;> simp [SA.M]
theorem StoreR.op (h : StoreR A H σ bs cs mk tree shots last) (p : PileR A H' σ.π bs' cs' mk') (k : Kp σ.π.M H H') : StoreR A H' σ bs' cs' mk' tree shots last := by
  obtain ⟨bvs, hp, _⟩ := h.p.ex
  refine ⟨k _ _ h.i (.inl rfl), k _ _ h.n (.inr ?_), k _ _ h.s (.inr ?_), p, h.n1, h.n2, h.n3⟩
  · simp only [PA.M, List.mem_cons, List.not_mem_nil, or_false]
    rintro (q | q | q)
    · exact h.n1 q
    · have := h.n; rw [q, hp.b] at this; cases this
    · have := h.n; rw [q, hp.c] at this; cases this
  · simp only [PA.M, List.mem_cons, List.not_mem_nil, or_false]
    rintro (q | q | q)
    · have := h.s; rw [q, hp.n] at this; cases this
    · exact h.n2 q
    · exact h.n3 q
theorem StoreR.kp0 (h : StoreR A H σ bs cs mk tree shots last) (k : Kp [] H H') : StoreR A H' σ bs cs mk tree shots last :=
  ⟨k _ _ h.i (.inl rfl), k _ _ h.n (.inr (by simp)), k _ _ h.s (.inr (by simp)), h.p.kp k (by simp) (by simp) (by simp), h.n1, h.n2, h.n3⟩

theorem r_top (F : EnvS G A) (h : StoreR A H σ bs cs mk tree shots last) (q : Q (.int tree 0) H) : wpF G false ["self", "view"] b_Store_top [.ref σ.sx, .none] H Q X := by
  refine ⟨rfl, ?_⟩
  conv => whnf
  rw [h.i]
  conv => whnf
  rw [h.n]
  conv => whnf
  refine ⟨F.f_Store_tree, ?_⟩
  conv => whnf
  exact q

/-- the box that names lead to; none: no such box, an error -/
noncomputable def find (bs : List (Int × Ct)) : Int → List Str → Option (Option Int)
  | box, [] => some (some box)
  | box, n :: r => match get bs box with
    | some (.leaf _) => some none
    | some (.br rows) => (match rowOf rows n with
      | some b => find bs b r
      | none => some none)
    | none => none

/-- all branches are short -/
noncomputable def Short (bs : List (Int × Ct)) : Prop := ∀ i rows, get bs i = some (.br rows) → rows.length ≤ 2 ^ 20

theorem r_found (F : EnvS G A) (L : R2 G A) (hb : ∀ {H : Hp} {Q : QV} {X : XV} {rl : Addr} {xs : List Value} {rows : List (Str × Int)} {n : Str} {t : Tok}, H rl = some (.list xs) → All2 (RRow H) xs rows → Q (optV (rowOf rows n)) H → G.fn A.box_of false [.ref rl, .str n t] H Q X)
    (h : StoreR A H σ bs cs mk tree shots last) (hs : Short bs) {box : Int} {nl : Addr} {xs : List Str} {r : Option Int} (hn : H nl = some (.list (xs.map fun x => Value.str x 0))) (hf : find bs box xs = some r)
    (q : ∀ H', Kp [] H H' → Q (optV r) H') : wpF G false ["self", "box", "names"] b_Store_found [.ref σ.sx, .int box 0, .ref nl] H Q X := by
  refine ⟨rfl, ?_⟩
  conv => whnf
  refine ⟨rfl, ?_⟩
  conv => whnf
  rw [hn]
  conv => whnf
  refine forG_list (fun rs l H' => Kp [] H H' ∧ ∃ b ys, rs = ys.map (fun x => Value.str x 0) ∧ Ls l [("self", .ref σ.sx), ("box", .int b 0)] ∧ find bs b ys = some r) (fun r l H' h => h.1.list hn) ?_ ?_ _ _ H ⟨Kp.refl _ _, box, xs, rfl, ⟨rfl, rfl, trivial⟩, hf⟩
  · rintro v rs l H1 ⟨k1, b, ys, hys, hl1, hf⟩ K hK hR
    cases ys with
    | nil => cases hys
    | cons y ys =>
    cases hys
    have hl' := hl1.upd (y := "name") (v := .str y 0) rfl
    have hk : (l.upd "name" (.str y 0)) "name" = some (.str y 0) := rfl
    generalize l.upd "name" (.str y 0) = l1 at *
    obtain ⟨g1, g2, -⟩ := id hl'
    have h1 := h.kp0 k1
    obtain ⟨bvs, hp, _⟩ := id h1.p.ex
    unfold find at hf
    cases hc : get bs b with
    | none => rw [hc] at hf; cases hf
    | some c =>
    rw [hc] at hf
    conv => whnf
    rw [g1]
    conv => whnf
    rw [h1.i]
    conv => whnf
    rw [h1.n]
    conv => whnf
    refine ⟨F.f_Store_pile, ?_⟩
    conv => whnf
    rw [hp.i]
    conv => whnf
    rw [hp.n, F.m_Pile_content]
    conv => whnf
    refine ⟨rfl, ?_⟩
    conv => whnf
    rw [g2]
    conv => whnf
    refine L.content h1.p hc (fun rows e => by subst e; have := hs _ _ hc; simp [sizeLine]; omega) fun v H2 hv k2 _ => ?_
    have hl3 : Ls (l1.upd "what" v) [("self", .ref σ.sx), ("box", .int b 0), ("name", .str y 0), ("what", v)] := ⟨g1, g2, hk, rfl, trivial⟩
    cases c with
    | leaf m =>
      cases hf
      obtain ⟨a, rfl, ha⟩ := hv
      conv => whnf
      rw [ha]
      conv => whnf
      exact hR _ _ _ (q _ (k1.trans k2))
    | br rows =>
      obtain ⟨a, rl, zs, rfl, ha, hrl, hrr⟩ := hv
      conv => whnf
      generalize l1.upd "what" (.ref a) = l3 at *
      obtain ⟨g1, g2, g3, g4, -⟩ := id hl3
      rw [ha]
      conv => whnf
      rw [F.g_box_of]
      conv => whnf
      rw [g4]
      conv => whnf
      rw [ha]
      conv => whnf
      rw [g3]
      conv => whnf
      rw [F.i_box_of]
      conv => whnf
      refine hb hrl hrr ?_
      dsimp only at hf
      cases hrow : rowOf rows y with
      | none =>
        rw [hrow] at hf
        cases hf
        conv => whnf
        exact hR _ _ _ (q _ (k1.trans k2))
      | some b2 =>
        rw [hrow] at hf
        conv => whnf
        exact (hK (l3.upd "box" (.int b2 0)) _ ⟨k1.trans k2, b2, ys, rfl, ⟨g1, rfl, trivial⟩, hf⟩).1
  · rintro l H1 ⟨k1, b, ys, hys, hl1, hf⟩
    obtain ⟨g1, g2, -⟩ := id hl1
    cases ys with
    | cons _ _ => cases hys
    | nil =>
    cases hf
    conv => whnf
    rw [g2]
    conv => whnf
    exact q _ k1
end
end Mine.St
end

section
open PySem PyProof.Rows
namespace Mine.St
open Mine

section
variable {A : Ad} {G : Gx} {H H' : Hp} {σ : SA} {bs bs' : List (Int × Ct)} {cs cs' : List (Int × Int)} {mk mk' tree : Int} {shots : List (Int × Int)} {last : Int} {Q : QV} {X : XV}

/-- a path of good names, as a list or a tuple -/
structure PathAt (H : Hp) (a : Addr) (xs : List Str) : Prop where
  at_ : H a = some (.list (xs.map fun x => Value.str x 0)) ∨ H a = some (.tup (xs.map fun x => Value.str x 0))
  good : ∀ x ∈ xs, Good x
  len : xs.length ≤ 8
theorem PathAt.kp {M : List Addr} {a : Addr} {xs : List Str} (h : PathAt H a xs) (k : Kp M H H') : PathAt H' a xs := ⟨h.at_.imp k.list k.tup, h.good, h.len⟩

structure T3 (G : Gx) (A : Ad) : Prop extends R3 G A where
  checked : ∀ {H : Hp} {Q : QV} {X : XV} {a : Addr} {xs : List Str}, PathAt H a xs → (∀ b H', Kp [] H H' → H' b = some (.list (xs.map fun x => Value.str x 0)) → H b = none → Q (.ref b) H') → G.fn A.checked false [.ref a] H Q X
  need_way : ∀ {H : Hp} {Q : QV} {X : XV} {a : Addr} {xs : List Str}, PathAt H a xs → xs ≠ [] → (∀ b H', Kp [] H H' → H' b = some (.list (xs.map fun x => Value.str x 0)) → H b = none → Q (.ref b) H') → G.fn A.need_way false [.ref a] H Q X
  need_number : ∀ {H : Hp} {Q : QV} {X : XV} {n : Int} {t : Tok}, -(10 ^ 30) < n → n < 10 ^ 30 → Q .none H → G.fn A.need_number false [.int n t] H Q X
  placed : ∀ {H : Hp} {Q : QV} {X : XV} {rl : Addr} {xs : List Value} {rows : List (Str × Int)} {n : Str} {b : Int}, H rl = some (.list xs) → All2 (RRow H) xs rows → rows.length ≤ 2 ^ 20 → (∀ c ys H', Kp [] H H' → H' c = some (.list ys) → All2 (RRow H') ys (placedR rows n b) → Q (.ref c) H') → G.fn A.placed false [.ref rl, .str n 0, .int b 0] H Q X
  top : ∀ {H : Hp} {σ : SA} {bs : List (Int × Ct)} {cs : List (Int × Int)} {mk tree : Int} {shots : List (Int × Int)} {last : Int} {Q : QV} {X : XV}, StoreR A H σ bs cs mk tree shots last → Q (.int tree 0) H → G.fn A.Store_top false [.ref σ.sx, .none] H Q X
  found : ∀ {H : Hp} {σ : SA} {bs : List (Int × Ct)} {cs : List (Int × Int)} {mk tree : Int} {shots : List (Int × Int)} {last : Int} {Q : QV} {X : XV}, StoreR A H σ bs cs mk tree shots last → Short bs → ∀ {box : Int} {nl : Addr} {xs : List Str} {r : Option Int}, H nl = some (.list (xs.map fun x => Value.str x 0)) → find bs box xs = some r →
    (∀ H', Kp [] H H' → Q (optV r) H') → G.fn A.Store_found false [.ref σ.sx, .int box 0, .ref nl] H Q X

structure TabS (tab : Tab) (A : Ad) : Prop extends Tab2 tab A where
  is_name : HasF tab A.is_name ["thing"] b_is_name
  checked : HasF tab A.checked ["path"] b_checked
  need_way : HasF tab A.need_way ["path"] b_need_way
  need_number : HasF tab A.need_number ["number"] b_need_number
  box_of : HasF tab A.box_of ["rows", "name"] b_box_of
  placed : HasF tab A.placed ["rows", "name", "box"] b_placed
  top : HasF tab A.Store_top ["self", "view"] b_Store_top
  found : HasF tab A.Store_found ["self", "box", "names"] b_Store_found
  kind : HasF tab A.Store_kind ["self", "view", "path"] b_Store_kind
  value : HasF tab A.Store_value ["self", "view", "path"] b_Store_value
  names : HasF tab A.Store_names ["self", "view", "path"] b_Store_names
  ways : HasF tab A.Store_ways ["self", "names"] b_Store_ways
  changed : HasF tab A.Store_changed ["self", "box"] b_Store_changed
  put : HasF tab A.Store_put ["self", "path", "number"] b_Store_put
  pinit : HasF tab A.Pile_init ["self"] b_Pile___init__
  sinit : HasF tab A.Store_init ["self"] b_Store___init__

theorem is_name_at {g : Gx} {tab : Tab} (f : EnvS g A) (t : TabS tab A) (n : Nat) {H : Hp} {Q : QV} {X : XV} {x : Str} {u : Tok} (hx : Good x) (q : ∀ H', Kp [] H H' → Q (.bool true) H') : (GG g tab (n + 1)).fn A.is_name false [.str x u] H Q X := fn_gg t.is_name (r_is_name (f.gg tab n) hx q)
theorem checked_at {g : Gx} {tab : Tab} (f : EnvS g A) (t : TabS tab A) (n : Nat) {H : Hp} {Q : QV} {X : XV} {a : Addr} {xs : List Str} (ha : H a = some (.list (xs.map fun x => Value.str x 0)) ∨ H a = some (.tup (xs.map fun x => Value.str x 0))) (hx : ∀ x ∈ xs, Good x) (hz : xs.length ≤ 8) (q : ∀ b H', Kp [] H H' → H' b = some (.list (xs.map fun x => Value.str x 0)) → H b = none → Q (.ref b) H') : (GG g tab (n + 2)).fn A.checked false [.ref a] H Q X :=
  fn_gg t.checked (r_checked (f.gg tab _) (fun hx q => is_name_at f t n hx q) ha hx hz q)

theorem t3 {g : Gx} {tab : Tab} (f : EnvS g A) (t : TabS tab A) (n : Nat) : T3 (GG g tab (n + 3)) A where
  toR3 := r3 f.toEnv t.toTab2 n
  checked := fun h q => checked_at f t (n + 1) h.at_ h.good h.len q
  need_way := fun h hne q => fn_gg t.need_way (r_need_way (f.gg tab _) (fun ha hx hz q => checked_at f t n ha hx hz q) h.at_ h.good h.len hne q)
  need_number := fun h1 h2 q => fn_gg t.need_number (r_need_number (f.gg tab _) h1 h2 q)
  placed := fun h1 h2 hz q => fn_gg t.placed (r_placed (t := 0) (u := 0) h1 h2 hz q)
  top := fun h q => fn_gg t.top (r_top (f.gg tab _) h q)
  found := fun h hs _ _ _ _ hn hf q => fn_gg t.found (r_found (f.gg tab _) (r2 f.toEnv t.toTab2 n) (fun h1 h2 q => fn_gg t.box_of (r_box_of h1 h2 q)) h hs hn hf q)

noncomputable def kindW (bs : List (Int × Ct)) : Option Int → Value
  | none => .none
  | some b => match get bs b with
    | some (.leaf _) => .str "leaf" 0
    | some (.br _) => .str "branch" 0
    | none => .none

theorem r_kind (F : EnvS G A) (L : T3 G A) (h : StoreR A H σ bs cs mk tree shots last) (hs : Short bs) {a : Addr} {xs : List Str} {r : Option Int} (hp : PathAt H a xs) (hf : find bs tree xs = some r) (hv : ∀ b, r = some b → ∃ c, get bs b = some c)
    (q : ∀ H', Kp [] H H' → Q (kindW bs r) H') : wpF G false ["self", "view", "path"] b_Store_kind [.ref σ.sx, .none, .ref a] H Q X := by
  refine ⟨rfl, ?_⟩
  conv => whnf
  rw [h.i]
  conv => whnf
  rw [h.n, F.m_Store_found]
  conv => whnf
  refine ⟨rfl, ?_⟩
  conv => whnf
  rw [h.i]
  conv => whnf
  rw [h.n, F.m_Store_top]
  conv => whnf
  refine ⟨rfl, ?_⟩
  conv => whnf
  refine L.top h ?_
  conv => whnf
  rw [F.g_checked]
  conv => whnf
  rw [F.i_checked]
  conv => whnf
  refine L.checked hp fun b H1 k1 hb _ => ?_
  have h1 := h.kp0 k1
  conv => whnf
  refine L.found h1 hs hb hf fun H2 k2 => ?_
  have h2 := h1.kp0 k2
  cases r with
  | none =>
    conv => whnf
    exact q _ (k1.trans k2)
  | some b2 =>
    obtain ⟨c, hc⟩ := hv b2 rfl
    obtain ⟨bvs, hp2, _⟩ := id h2.p.ex
    conv => whnf
    rw [h2.i]
    conv => whnf
    rw [h2.n]
    conv => whnf
    refine ⟨F.f_Store_pile, ?_⟩
    conv => whnf
    rw [hp2.i]
    conv => whnf
    rw [hp2.n, F.m_Pile_content]
    conv => whnf
    refine ⟨rfl, ?_⟩
    conv => whnf
    refine L.content h2.p hc (fun rows e => by subst e; have := hs _ _ hc; simp [sizeLine]; omega) fun v H3 hv3 k3 _ => ?_
    have q := q _ ((k1.trans k2).trans k3)
    unfold kindW at q
    dsimp only at q
    rw [hc] at q
    cases c with
    | leaf m =>
      obtain ⟨a3, rfl, ha3⟩ := hv3
      conv => whnf
      rw [ha3]
      exact q
    | br rows =>
      obtain ⟨a3, rl, zs, rfl, ha3, _⟩ := hv3
      conv => whnf
      rw [ha3]
      exact q

theorem r_changed (F : EnvS G A) (L : R3 G A) (h : StoreR A H σ bs cs mk tree shots last) {box k : Int} {c c2 : Ct} (hb : get bs box = some c) (hk : get cs box = some k) (hz : cs.length ≤ 2 ^ 20) (ht : get bs tree = some c2) {n : Nat} {g' : Int} (hg : lgo n [tree] bs (put cs box (k + 1)) 0 = some (bs', cs', g'))
    (q : ∀ H', StoreR A H' σ bs' cs' mk box shots last → Kp σ.M H H' → Q (.int g' 0) H') : wpF G false ["self", "box"] b_Store_changed [.ref σ.sx, .int box 0] H Q X := by
  refine ⟨rfl, ?_⟩
  conv => whnf
  rw [h.i]
  conv => whnf
  rw [h.n]
  conv => whnf
  refine ⟨F.f_Store_tree, ?_⟩
  conv => whnf
  rw [h.i]
  conv => whnf
  rw [h.n]
  conv => whnf
  refine ⟨F.f_Store_pile, ?_⟩
  obtain ⟨bvs, hp, _⟩ := id h.p.ex
  conv => whnf
  rw [hp.i]
  conv => whnf
  rw [hp.n, F.m_Pile_hold]
  conv => whnf
  refine ⟨rfl, ?_⟩
  conv => whnf
  refine L.hold h.p hb hk (by simp [sizeLine]; omega) fun H1 p1 k1 => ?_
  have h1 := h.op p1 k1
  conv => whnf
  rw [h1.i]
  conv => whnf
  rw [h1.n]
  conv => whnf
  refine ⟨F.f_Store_tree, by simp, ?_⟩
  have ens : stored [(Str.ofString "pile", Value.ref σ.π.x), (Str.ofString "tree", .int tree 0), (Str.ofString "shots", .ref σ.sh), (Str.ofString "last", .int last 0)] (Str.ofString "tree") (.int box 0) = [(Str.ofString "pile", Value.ref σ.π.x), (Str.ofString "tree", .int box 0), (Str.ofString "shots", .ref σ.sh), (Str.ofString "last", .int last 0)] := rfl
  rw [ens]
  have hsd : ∀ {a : Addr} {o : AObj}, H1 a = some o → a ≠ σ.sd → (H1.upd σ.sd (.ns [(Str.ofString "pile", .ref σ.π.x), (Str.ofString "tree", .int box 0), (Str.ofString "shots", .ref σ.sh), (Str.ofString "last", .int last 0)])) a = some o := fun e n => (Hp.upd_ne _ _ n).trans e
  have k2 : Kp [σ.sd] H1 (H1.upd σ.sd (.ns [(Str.ofString "pile", .ref σ.π.x), (Str.ofString "tree", .int box 0), (Str.ofString "shots", .ref σ.sh), (Str.ofString "last", .int last 0)])) := kp_upd h1.n rfl (by simp) _
  have h2 : StoreR A (H1.upd σ.sd (.ns [(Str.ofString "pile", .ref σ.π.x), (Str.ofString "tree", .int box 0), (Str.ofString "shots", .ref σ.sh), (Str.ofString "last", .int last 0)])) σ bs (put cs box (k + 1)) mk box shots last := by
    obtain ⟨bvs1, hp1, _⟩ := id h1.p.ex
    refine ⟨k2 _ _ h1.i (.inl rfl), Hp.upd_same _ _ _, hsd h1.s fun e => ?_, h1.p.kp k2 ?_ ?_ ?_, h1.n1, h1.n2, h1.n3⟩
    · have := h1.s; rw [e, h1.n] at this; cases this
    · simp only [List.mem_cons, List.not_mem_nil, or_false]; exact fun e => h1.n1 e.symm
    · simp only [List.mem_cons, List.not_mem_nil, or_false]; intro e; have := hp1.b; rw [e, h1.n] at this; cases this
    · simp only [List.mem_cons, List.not_mem_nil, or_false]; intro e; have := hp1.c; rw [e, h1.n] at this; cases this
  conv => whnf
  generalize H1.upd σ.sd (.ns [(Str.ofString "pile", .ref σ.π.x), (Str.ofString "tree", .int box 0), (Str.ofString "shots", .ref σ.sh), (Str.ofString "last", .int last 0)]) = H2 at *
  rw [h2.i]
  conv => whnf
  rw [h2.n]
  conv => whnf
  refine ⟨F.f_Store_pile, ?_⟩
  obtain ⟨bvs2, hp2, _⟩ := id h2.p.ex
  conv => whnf
  rw [hp2.i]
  conv => whnf
  rw [hp2.n, F.m_Pile_let_go]
  conv => whnf
  refine ⟨rfl, ?_⟩
  conv => whnf
  refine L.let_go h2.p ht hg fun H3 p3 k3 => ?_
  conv => whnf
  exact q _ (h2.op p3 k3) (((k1.mono σ.sub).trans (k2.mono (by simp [SA.M]))).trans (k3.mono σ.sub))

structure T4 (G : Gx) (A : Ad) : Prop extends T3 G A where
  kind : ∀ {H : Hp} {σ : SA} {bs : List (Int × Ct)} {cs : List (Int × Int)} {mk tree : Int} {shots : List (Int × Int)} {last : Int} {Q : QV} {X : XV}, StoreR A H σ bs cs mk tree shots last → Short bs → ∀ {a : Addr} {xs : List Str} {r : Option Int}, PathAt H a xs → find bs tree xs = some r → (∀ b, r = some b → ∃ c, get bs b = some c) → (∀ H', Kp [] H H' → Q (kindW bs r) H') → G.fn A.Store_kind false [.ref σ.sx, .none, .ref a] H Q X
  changed : ∀ {H : Hp} {σ : SA} {bs bs' : List (Int × Ct)} {cs cs' : List (Int × Int)} {mk tree : Int} {shots : List (Int × Int)} {last : Int} {Q : QV} {X : XV}, StoreR A H σ bs cs mk tree shots last → ∀ {box k : Int} {c c2 : Ct}, get bs box = some c → get cs box = some k → cs.length ≤ 2 ^ 20 → get bs tree = some c2 → ∀ {n : Nat} {g' : Int}, lgo n [tree] bs (put cs box (k + 1)) 0 = some (bs', cs', g') →
    (∀ H', StoreR A H' σ bs' cs' mk box shots last → Kp σ.M H H' → Q (.int g' 0) H') → G.fn A.Store_changed false [.ref σ.sx, .int box 0] H Q X
theorem t4' {g : Gx} {tab : Tab} (f : EnvS g A) (t : TabS tab A) (n : Nat) : T4 (GG g tab (n + 4)) A where
  toT3 := t3 f t (n + 1)
  kind := fun h hs _ _ _ hp hf hv q => fn_gg t.kind (r_kind (f.gg tab _) (t3 f t n) h hs hp hf hv q)
  changed := fun h _ _ _ _ h1 h2 h3 h4 _ _ h5 q => fn_gg t.changed (r_changed (f.gg tab _) (t3 f t n).toR3 h h1 h2 h3 h4 h5 q)

theorem r_value (F : EnvS G A) (L : T4 G A) (h : StoreR A H σ bs cs mk tree shots last) (hs : Short bs) {a : Addr} {xs : List Str} {b m : Int} (hp : PathAt H a xs) (hf : find bs tree xs = some (some b)) (hb : get bs b = some (.leaf m))
    (q : ∀ H', Kp [] H H' → Q (.int m 0) H') : wpF G false ["self", "view", "path"] b_Store_value [.ref σ.sx, .none, .ref a] H Q X := by
  refine ⟨rfl, ?_⟩
  conv => whnf
  rw [h.i]
  conv => whnf
  rw [h.n, F.m_Store_kind]
  conv => whnf
  refine ⟨rfl, ?_⟩
  conv => whnf
  refine L.kind h hs hp hf (fun b2 e => by cases e; exact ⟨_, hb⟩) fun H1 k1 => ?_
  have ek : kindW bs (some b) = .str "leaf" 0 := by unfold kindW; dsimp only; rw [hb]
  rw [ek]
  have h1 := h.kp0 k1
  obtain ⟨bvs, hp1, _⟩ := id h1.p.ex
  conv => whnf
  rw [h1.i]
  conv => whnf
  rw [h1.n]
  conv => whnf
  refine ⟨F.f_Store_pile, ?_⟩
  conv => whnf
  rw [hp1.i]
  conv => whnf
  rw [hp1.n, F.m_Pile_content]
  conv => whnf
  refine ⟨rfl, ?_⟩
  conv => whnf
  rw [h1.i]
  conv => whnf
  rw [h1.n, F.m_Store_found]
  conv => whnf
  refine ⟨rfl, ?_⟩
  conv => whnf
  rw [h1.i]
  conv => whnf
  rw [h1.n, F.m_Store_top]
  conv => whnf
  refine ⟨rfl, ?_⟩
  conv => whnf
  refine L.top h1 ?_
  conv => whnf
  rw [F.g_checked]
  conv => whnf
  rw [F.i_checked]
  conv => whnf
  refine L.checked (hp.kp k1) fun b3 H2 k2 hb3 _ => ?_
  conv => whnf
  refine L.found (h1.kp0 k2) hs hb3 hf fun H3 k3 => ?_
  conv => whnf
  refine L.content ((h1.kp0 k2).kp0 k3).p hb (fun rows e => nomatch e) fun v H4 hv k4 _ => ?_
  obtain ⟨a4, rfl, ha4⟩ := hv
  conv => whnf
  rw [ha4]
  conv => whnf
  exact q _ (((k1.trans k2).trans k3).trans k4)

theorem r_names (F : EnvS G A) (L : T4 G A) (h : StoreR A H σ bs cs mk tree shots last) (hs : Short bs) {a : Addr} {xs : List Str} {b : Int} {rows : List (Str × Int)} (hp : PathAt H a xs) (hf : find bs tree xs = some (some b)) (hb : get bs b = some (.br rows))
    (q : ∀ c H', Kp [] H H' → H' c = some (.list (rows.map fun r => Value.str r.1 0)) → Q (.ref c) H') : wpF G false ["self", "view", "path"] b_Store_names [.ref σ.sx, .none, .ref a] H Q X := by
  refine ⟨rfl, ?_⟩
  conv => whnf
  rw [h.i]
  conv => whnf
  rw [h.n, F.m_Store_kind]
  conv => whnf
  refine ⟨rfl, ?_⟩
  conv => whnf
  refine L.kind h hs hp hf (fun b2 e => by cases e; exact ⟨_, hb⟩) fun H1 k1 => ?_
  have ek : kindW bs (some b) = .str "branch" 0 := by unfold kindW; dsimp only; rw [hb]
  rw [ek]
  have h1 := h.kp0 k1
  obtain ⟨bvs, hp1, _⟩ := id h1.p.ex
  conv => whnf
  rw [h1.i]
  conv => whnf
  rw [h1.n]
  conv => whnf
  refine ⟨F.f_Store_pile, ?_⟩
  conv => whnf
  rw [hp1.i]
  conv => whnf
  rw [hp1.n, F.m_Pile_content]
  conv => whnf
  refine ⟨rfl, ?_⟩
  conv => whnf
  rw [h1.i]
  conv => whnf
  rw [h1.n, F.m_Store_found]
  conv => whnf
  refine ⟨rfl, ?_⟩
  conv => whnf
  rw [h1.i]
  conv => whnf
  rw [h1.n, F.m_Store_top]
  conv => whnf
  refine ⟨rfl, ?_⟩
  conv => whnf
  refine L.top h1 ?_
  conv => whnf
  rw [F.g_checked]
  conv => whnf
  rw [F.i_checked]
  conv => whnf
  refine L.checked (hp.kp k1) fun b3 H2 k2 hb3 _ => ?_
  conv => whnf
  refine L.found (h1.kp0 k2) hs hb3 hf fun H3 k3 => ?_
  conv => whnf
  have hz := hs _ _ hb
  refine L.content ((h1.kp0 k2).kp0 k3).p hb (fun rows' e => by cases e; simp [sizeLine]; omega) fun v H4 hv k4 _ => ?_
  obtain ⟨a4, rl, zs, rfl, ha4, hrl, hrr⟩ := hv
  conv => whnf
  rw [ha4]
  conv => whnf
  refine ⟨rfl, ?_⟩
  conv => whnf
  rw [hrl]
  conv => whnf
  refine ⟨by rw [all2_len hrr]; simp [sizeLine]; omega, ?_⟩
  refine compG_list (fun r acc H6 => H6 = H4 ∧ ∃ rs done, All2 (RRow H4) r rs ∧ rows = done ++ rs ∧ acc = done.map fun r => Value.str r.1 0) (fun r acc H6 h => by rw [h.1]; exact hrl) ?_ ?_ zs [] H4 ⟨rfl, rows, [], hrr, rfl, rfl⟩
  · rintro u r acc H6 ⟨rfl, rs, done, ha2, hrw, rfl⟩ K hK
    cases ha2 with
    | @cons _ row _ rs' e1 e2 =>
    obtain ⟨b, rfl, hb⟩ := e1
    conv => whnf
    rw [hb]
    conv => whnf
    exact hK _ _ ⟨rfl, rs', done ++ [row], e2, by rw [hrw]; simp, by simp⟩
  · rintro acc H6 ⟨rfl, rs, done, ha2, hrw, rfl⟩
    cases ha2
    rw [List.append_nil] at hrw
    subst hrw
    intro nl hnl
    conv => whnf
    exact q nl _ ((((k1.trans k2).trans k3).trans k4).trans (kp_new hnl _)) (Hp.upd_same _ _ _)
end
end Mine.St
end

section
open PySem PyProof.Rows
namespace Mine.St
open Mine

section
variable {A : Ad} {G : Gx} {H H' : Hp} {σ : SA} {bs bs' : List (Int × Ct)} {cs cs' : List (Int × Int)} {mk mk' tree : Int} {shots : List (Int × Int)} {last : Int} {Q : QV} {X : XV}

noncomputable def down : Nat → List Value
  | 0 => []
  | j + 1 => .int (j : Int) 0 :: down j
theorem rsize_down (m : Nat) : Builtin.Range.rangeSize ((m : Int) - 1) (-1) (-1) = m := by
  unfold Builtin.Range.rangeSize
  rw [if_neg (by decide), show (- -1 : Int) = 1 from rfl, Int.ediv_one]
  split <;> omega
theorem down_map : ∀ m : Nat, (List.range m).map (fun (k : Nat) => Value.int ((m : Int) - 1 + (k : Int) * (-1)) 0) = down m
  | 0 => rfl
  | m + 1 => by
    rw [List.range_succ_eq_map, List.map_cons, List.map_map, down, ← down_map m]
    congr 1
    · congr 1; omega
    · refine List.map_congr_left fun k _ => ?_
      show Value.int _ 0 = Value.int _ 0
      congr 1
      simp only [Nat.succ_eq_add_one]
      omega
theorem rangeL_down (m : Nat) : rangeL ((m : Int) - 1) (-1) (-1) = down m := by
  unfold rangeL
  rw [rsize_down]
  exact down_map m
theorem small_down {m : Nat} (h : m < 2 ^ 60) : Builtin.Range.small ((m : Int) - 1) (-1) (-1) = true := by
  unfold Builtin.Range.small
  rw [rsize_down]
  simp [Builtin.Range.rangeFitsLong]
  omega

theorem take_slice {α : Type} (xs : List α) (k : Nat) (h : k ≤ xs.length) : pySlice xs none (some (k : Int)) = xs.take k := by
  unfold pySlice hiAt loAt cutAt
  dsimp only
  rw [if_neg (by omega)]
  simp [Nat.min_eq_left h]

/-- the rows of the branch at the first k names -/
noncomputable def wayAt (bs : List (Int × Ct)) (tree : Int) (xs : List Str) (k : Nat) : Option (List (Str × Int)) := match find bs tree (xs.take k) with
  | some none => some []
  | some (some b) => (match get bs b with
    | some (.br rows) => some rows
    | _ => none)
  | none => none

noncomputable def WayR (H : Hp) (fl : Addr) (v : Value) (rows : List (Str × Int)) : Prop := ∃ l ys, v = .ref l ∧ l ≠ fl ∧ H l = some (.list ys) ∧ All2 (RRow H) ys rows
theorem WayR.kp {M : List Addr} {fl : Addr} (k : Kp M H H') {v : Value} {rows : List (Str × Int)} (h : WayR H fl v rows) : WayR H' fl v rows := let ⟨l, ys, e, n, h1, h2⟩ := h; ⟨l, ys, e, n, k.list h1, all2_imp (fun _ _ q => q.kp k) h2⟩

theorem RRow.other {v : Value} {r : Str × Int} (h : RRow H v r) {fl : Addr} {xs : List Value} (hf : H fl = some (.list xs)) (o : AObj) : RRow (H.upd fl o) v r := let ⟨a, e, q⟩ := h; ⟨a, e, (Hp.upd_ne _ _ fun z => by rw [z, hf] at q; cases q).trans q⟩
theorem WayR.other {fl : Addr} {v : Value} {rows : List (Str × Int)} (h : WayR H fl v rows) {xs : List Value} (hf : H fl = some (.list xs)) (o : AObj) : WayR (H.upd fl o) fl v rows :=
  let ⟨l, ys, e, n, h1, h2⟩ := h; ⟨l, ys, e, n, (Hp.upd_ne _ _ n).trans h1, all2_imp (fun _ _ q => q.other hf o) h2⟩

theorem r_ways (F : EnvS G A) (L : T3 G A) (h : StoreR A H σ bs cs mk tree shots last) (hs : Short bs) {nl : Addr} {xs : List Str} (hn : H nl = some (.list (xs.map fun x => Value.str x 0))) (hz : xs.length ≤ 8) {W : Nat → List (Str × Int)} (hW : ∀ k < xs.length, wayAt bs tree xs k = some (W k))
    (q : ∀ fl ws H', Kp [] H H' → H' fl = some (.list ws) → All2 (WayR H' fl) ws ((List.range xs.length).map W) → Q (.ref fl) H') : wpF G false ["self", "names"] b_Store_ways [.ref σ.sx, .ref nl] H Q X := by
  refine ⟨rfl, ?_⟩
  conv => whnf
  refine ⟨Nat.le_of_ble_eq_true rfl, fun fl hfl => ?_⟩
  conv => whnf
  refine ⟨.inl rfl, ?_⟩
  have k0 : Kp [] H (H.upd fl (.list [])) := kp_new hfl _
  have hf0 : (H.upd fl (.list [])) fl = some (.list []) := Hp.upd_same _ _ _
  generalize H.upd fl (.list []) = H0 at *
  conv => whnf
  rw [k0.list hn]
  conv => whnf
  refine ⟨.inr rfl, ?_⟩
  have ez : ((xs.map fun x => Value.str x 0).length : Int) = (xs.length : Nat) := by simp
  rw [ez]
  conv => whnf
  refine ⟨by omega, by omega, fun r hr => ?_⟩
  conv => whnf
  refine ⟨rfl, ?_⟩
  conv => whnf
  rw [Hp.upd_same]
  conv => whnf
  refine ⟨small_nat (by omega), ?_⟩
  have k1 : Kp [] H0 (H0.upd r (.range 0 (xs.length : Nat) 1)) := kp_new hr _
  refine forG_range (fun i l H1 => Ls l [("self", .ref σ.sx), ("names", .ref nl), ("found", .ref fl)] ∧ Kp [] H H1 ∧ ∃ ws, H1 fl = some (.list ws) ∧ All2 (WayR H1 fl) ws ((List.range i).map W)) (fun _ _ _ _ => trivial) ?_ ?_ ⟨⟨rfl, rfl, rfl, trivial⟩, k0.trans k1, [], k1.list hf0, .nil⟩
  · rintro i hi l H1 ⟨hl, k2, ws, hf, hws⟩ K hK _
    have hl' := hl.upd (y := "k") (v := .int i 0) rfl
    have hk : (l.upd "k" (.int i 0)) "k" = some (.int i 0) := rfl
    generalize l.upd "k" (.int i 0) = l1 at *
    obtain ⟨g1, g2, g3, -⟩ := id hl'
    have h1 := h.kp0 k2
    conv => whnf
    rw [g1]
    conv => whnf
    rw [h1.i]
    conv => whnf
    rw [h1.n, F.m_Store_found]
    conv => whnf
    refine ⟨rfl, ?_⟩
    conv => whnf
    rw [g1]
    conv => whnf
    rw [h1.i]
    conv => whnf
    rw [h1.n]
    conv => whnf
    refine ⟨F.f_Store_tree, ?_⟩
    conv => whnf
    rw [g2]
    conv => whnf
    rw [hk]
    conv => whnf
    rw [k2.list hn]
    conv => whnf
    refine ⟨by simp [sizeLine]; omega, fun sl hsl => ?_⟩
    rw [take_slice _ i (by simp; omega), ← List.map_take]
    conv => whnf
    have k3 : Kp [] H1 (H1.upd sl (.list ((xs.take i).map fun x => Value.str x 0))) := kp_new hsl _
    have hsl' : (H1.upd sl (.list ((xs.take i).map fun x => Value.str x 0))) sl = some (.list ((xs.take i).map fun x => Value.str x 0)) := Hp.upd_same _ _ _
    generalize H1.upd sl (.list ((xs.take i).map fun x => Value.str x 0)) = H2 at *
    have hWi := hW i hi
    unfold wayAt at hWi
    have efin : (List.range (i + 1)).map W = (List.range i).map W ++ [W i] := by rw [List.range_succ, List.map_append]; rfl
    have hzw : ws.length ≤ 8 := by rw [all2_len hws]; simp; omega
    cases hfd : find bs tree (xs.take i) with
    | none => rw [hfd] at hWi; cases hWi
    | some r =>
    rw [hfd] at hWi
    refine L.found (h1.kp0 k3) hs hsl' hfd fun H3 k4 => ?_
    have h3 := (h1.kp0 k3).kp0 k4
    have k34 := k3.trans k4
    cases r with
    | none =>
      dsimp only at hWi
      have hWi : [] = W i := Option.some.inj hWi
      conv => whnf
      rw [show (l1.upd (Str.ofString "box") (optV none)) (Str.ofString "found") = some (.ref fl) from g3]
      conv => whnf
      rw [k34.list hf]
      conv => whnf
      refine ⟨.inl rfl, ?_⟩
      conv => whnf
      refine ⟨Nat.le_of_ble_eq_true rfl, fun el hel => ?_⟩
      conv => whnf
      have k5 : Kp [] H3 (H3.upd el (.list [])) := kp_new hel _
      have hel' : (H3.upd el (.list [])) el = some (.list []) := Hp.upd_same _ _ _
      have nel : el ≠ fl := fun e => by rw [e, k34.list hf] at hel; cases hel
      have kk := k34.trans k5
      generalize H3.upd el (.list []) = H4 at *
      rw [kk.list hf]
      conv => whnf
      refine ⟨by simp [sizeLine]; omega, ?_⟩
      conv => whnf
      have fl0 : H fl = none := by
        cases e : H fl with
        | none => rfl
        | some o => rw [hfl] at e; cases e
      refine (hK (l1.upd "box" .none) _ ⟨⟨g1, g2, g3, trivial⟩, (k2.trans kk).fresh fl0 _, _, Hp.upd_same _ _ _, ?_⟩).1
      rw [efin]
      refine all2_append (all2_imp (fun _ _ q => (q.kp kk).other (kk.list hf) _) hws) (.cons ⟨el, [], rfl, nel, (Hp.upd_ne _ _ nel).trans hel', by rw [← hWi]; exact .nil⟩ .nil)
    | some b =>
      dsimp only at hWi
      cases hgb : get bs b with
      | none => rw [hgb] at hWi; cases hWi
      | some c =>
      rw [hgb] at hWi
      cases c with
      | leaf m => cases hWi
      | br rows =>
      have hWi : rows = W i := Option.some.inj hWi
      obtain ⟨bvs, hp3, _⟩ := id h3.p.ex
      conv => whnf
      rw [show (l1.upd (Str.ofString "box") (optV (some b))) (Str.ofString "found") = some (.ref fl) from g3]
      conv => whnf
      rw [k34.list hf]
      conv => whnf
      refine ⟨.inl rfl, ?_⟩
      conv => whnf
      rw [show (l1.upd (Str.ofString "box") (optV (some b))) (Str.ofString "self") = some (.ref σ.sx) from g1]
      conv => whnf
      rw [h3.i]
      conv => whnf
      rw [h3.n]
      conv => whnf
      refine ⟨F.f_Store_pile, ?_⟩
      conv => whnf
      rw [hp3.i]
      conv => whnf
      rw [hp3.n, F.m_Pile_content]
      conv => whnf
      refine ⟨rfl, ?_⟩
      conv => whnf
      refine L.content h3.p hgb (fun rows' e => by cases e; have := hs _ _ hgb; simp [sizeLine]; omega) fun v H4 hv k5 fr => ?_
      obtain ⟨a4, rl, zs, rfl, ha4, hrl, hrr⟩ := hv
      conv => whnf
      rw [ha4]
      conv => whnf
      have kk := k34.trans k5
      have nel : rl ≠ fl := fun e => by
        have := fr a4 rl _ rfl ha4
        rw [e, k34.list hf] at this; cases this
      rw [kk.list hf]
      conv => whnf
      refine ⟨by simp [sizeLine]; omega, ?_⟩
      conv => whnf
      refine (hK (l1.upd "box" (.int b 0)) _ ⟨⟨g1, g2, g3, trivial⟩, (k2.trans kk).fresh hfl _, _, Hp.upd_same _ _ _, ?_⟩).1
      rw [efin]
      refine all2_append (all2_imp (fun _ _ q => (q.kp kk).other (kk.list hf) _) hws) (.cons ⟨rl, zs, rfl, nel, (Hp.upd_ne _ _ nel).trans hrl, by rw [← hWi]; exact all2_imp (fun _ _ q => q.other (kk.list hf) _) hrr⟩ .nil)
  · rintro l H1 ⟨hl, k2, ws, hf, hws⟩
    obtain ⟨g1, g2, g3, -⟩ := id hl
    conv => whnf
    rw [g3]
    conv => whnf
    exact q fl ws _ k2 hf hws
end
end Mine.St
end

section
open PySem PyProof.Rows
namespace Mine.St
open Mine

section
variable {A : Ad} {G : Gx} {H H' : Hp} {σ : SA} {bs bs' : List (Int × Ct)} {cs cs' : List (Int × Int)} {mk mk' tree : Int} {shots : List (Int × Int)} {last : Int} {Q : QV} {X : XV}

structure T5 (G : Gx) (A : Ad) : Prop extends T4 G A where
  value : ∀ {H : Hp} {σ : SA} {bs : List (Int × Ct)} {cs : List (Int × Int)} {mk tree : Int} {shots : List (Int × Int)} {last : Int} {Q : QV} {X : XV}, StoreR A H σ bs cs mk tree shots last → Short bs → ∀ {a : Addr} {xs : List Str} {b m : Int}, PathAt H a xs → find bs tree xs = some (some b) → get bs b = some (.leaf m) → (∀ H', Kp [] H H' → Q (.int m 0) H') → G.fn A.Store_value false [.ref σ.sx, .none, .ref a] H Q X
  names : ∀ {H : Hp} {σ : SA} {bs : List (Int × Ct)} {cs : List (Int × Int)} {mk tree : Int} {shots : List (Int × Int)} {last : Int} {Q : QV} {X : XV}, StoreR A H σ bs cs mk tree shots last → Short bs → ∀ {a : Addr} {xs : List Str} {b : Int} {rows : List (Str × Int)}, PathAt H a xs → find bs tree xs = some (some b) → get bs b = some (.br rows) → (∀ c H', Kp [] H H' → H' c = some (.list (rows.map fun r => Value.str r.1 0)) → Q (.ref c) H') → G.fn A.Store_names false [.ref σ.sx, .none, .ref a] H Q X
  ways : ∀ {H : Hp} {σ : SA} {bs : List (Int × Ct)} {cs : List (Int × Int)} {mk tree : Int} {shots : List (Int × Int)} {last : Int} {Q : QV} {X : XV}, StoreR A H σ bs cs mk tree shots last → Short bs → ∀ {nl : Addr} {xs : List Str}, H nl = some (.list (xs.map fun x => Value.str x 0)) → xs.length ≤ 8 → ∀ {W : Nat → List (Str × Int)}, (∀ k < xs.length, wayAt bs tree xs k = some (W k)) → (∀ fl ws H', Kp [] H H' → H' fl = some (.list ws) → All2 (WayR H' fl) ws ((List.range xs.length).map W) → Q (.ref fl) H') → G.fn A.Store_ways false [.ref σ.sx, .ref nl] H Q X
theorem t5 {g : Gx} {tab : Tab} (f : EnvS g A) (t : TabS tab A) (n : Nat) : T5 (GG g tab (n + 5)) A where
  toT4 := t4' f t (n + 1)
  value := fun h hs _ _ _ _ h1 h2 h3 q => fn_gg t.value (r_value (f.gg tab _) (t4' f t n) h hs h1 h2 h3 q)
  names := fun h hs _ _ _ _ h1 h2 h3 q => fn_gg t.names (r_names (f.gg tab _) (t4' f t n) h hs h1 h2 h3 q)
  ways := fun h hs _ _ h1 h2 _ h3 q => fn_gg t.ways (r_ways (f.gg tab _) (t4' f t n).toT3 h hs h1 h2 h3 q)

/-- branches from the lowest to the top -/
noncomputable def build (W : Nat → List (Str × Int)) (N : Nat → Str) : Nat → List (Int × Ct) → List (Int × Int) → Int → Int → Option (List (Int × Ct) × List (Int × Int) × Int × Int)
  | 0, bs, cs, mk, box => some (bs, cs, mk, box)
  | j + 1, bs, cs, mk, box => if bs.length ≤ 2 ^ 20 ∧ cs.length ≤ 2 ^ 20 ∧ (W j).length ≤ 2 ^ 20 ∧ (placedR (W j) (N j) box).length ≤ 2 ^ 20 ∧ ((placedR (W j) (N j) box).all fun r => (get bs r.2).isSome) = true then
      (match holdAll cs (placedR (W j) (N j) box) with
      | some cs' => build W N j (put bs (mk + 1) (.br (placedR (W j) (N j) box))) (put cs' (mk + 1) 0) (mk + 1) (mk + 1)
      | none => none) else none

theorem at_nat {α : Type} (xs : List α) (k : Nat) : at? xs (k : Int) = xs[k]? := by
  unfold at?
  rw [if_pos (by omega)]; rfl

theorem all2_at {α β : Type} {R : α → β → Prop} {a : List α} {b : List β} (h : All2 R a b) : ∀ {k : Nat} {y : β}, b[k]? = some y → ∃ x, a[k]? = some x ∧ R x y := by
  induction h with
  | nil => intro k y e; simp at e
  | cons h1 _ ih =>
    intro k y e
    cases k with
    | zero => simp at e; subst e; exact ⟨_, by simp, h1⟩
    | succ k => simp at e; obtain ⟨x, h2, h3⟩ := ih e; exact ⟨x, by simpa using h2, h3⟩

theorem rsize_one (m : Nat) : Builtin.Range.rangeSize 1 (m : Int) 1 = ((m - 1 : Nat) : Int) := by
  unfold Builtin.Range.rangeSize
  rw [if_pos (by decide), Int.ediv_one]
  split <;> omega
theorem rangeL_one (m : Nat) : rangeL 1 (m : Int) 1 = (List.range' 1 (m - 1)).map fun (k : Nat) => Value.int (k : Int) 0 := by
  unfold rangeL
  rw [rsize_one, Int.toNat_natCast, List.range'_eq_map_range, List.map_map]
  refine List.map_congr_left fun k _ => ?_
  show Value.int (1 + (k : Int) * 1) 0 = Value.int ((1 + k : Nat) : Int) 0
  congr 1; omega
theorem small_one {m : Nat} (h : m < 2 ^ 60) : Builtin.Range.small 1 (m : Int) 1 = true := by
  unfold Builtin.Range.small
  rw [rsize_one]
  simp [Builtin.Range.rangeFitsLong]
  omega

/-- the looks ahead of a put -/
theorem r_put_head (F : EnvS G A) (L : T5 G A) (h : StoreR A H σ bs cs mk tree shots last) (hs : Short bs) {a : Addr} {xs : List Str} {m : Int} (hp : PathAt H a xs) (hne : xs ≠ []) (m1 : -(10 ^ 30) < m) (m2 : m < 10 ^ 30)
    {W : Nat → List (Str × Int)} (hW : ∀ k < xs.length, wayAt bs tree xs k = some (W k)) {r : Option Int} (hf : find bs tree xs = some r) (hr : ∀ b, r = some b → ∃ c, get bs b = some c)
    (q : ∀ l nl H4, Ls l [("self", .ref σ.sx), ("names", .ref nl), ("number", .int m 0), ("kind", kindW bs r)] → Kp [] H H4 → PathAt H4 nl xs → H4 nl = some (.list (xs.map fun x => Value.str x 0)) → StoreR A H4 σ bs cs mk tree shots last →
      wpSs G false (b_Store_put.drop 4) l H4 (fun f _ H' => match f with | .next => Q .none H' | .ret v => Q v H' | .cont => False) (fun C _ H' => X C H')) : wpF G false ["self", "path", "number"] b_Store_put [.ref σ.sx, .ref a, .int m 0] H Q X := by
  refine ⟨rfl, ?_⟩
  have hz := hp.len
  conv => whnf
  rw [F.g_need_way]
  conv => whnf
  rw [F.i_need_way]
  conv => whnf
  refine L.need_way hp hne fun nl H1 j1 hnl _ => ?_
  conv => whnf
  rw [F.g_need_number]
  conv => whnf
  rw [F.i_need_number]
  conv => whnf
  refine L.need_number m1 m2 ?_
  conv => whnf
  refine ⟨.inl rfl, ?_⟩
  conv => whnf
  rw [hnl]
  conv => whnf
  refine ⟨.inr rfl, ?_⟩
  have ez : ((xs.map fun x => Value.str x 0).length : Int) = (xs.length : Nat) := by simp
  rw [ez]
  conv => whnf
  refine ⟨by omega, by omega, by decide, by decide, fun r1 hr1 => ?_⟩
  conv => whnf
  refine ⟨rfl, ?_⟩
  conv => whnf
  rw [Hp.upd_same]
  conv => whnf
  refine ⟨small_one (by omega), ?_⟩
  have j2 : Kp [] H1 (H1.upd r1 (.range 1 (xs.length : Nat) 1)) := kp_new hr1 _
  have j12 := j1.trans j2
  have hnl2 := j2.list hnl
  generalize H1.upd r1 (.range 1 (xs.length : Nat) 1) = H2 at *
  rw [rangeL_one]
  refine forG_ind (fun i l H3 => Ls l [("self", .ref σ.sx), ("names", .ref nl), ("number", .int m 0)] ∧ Kp [] H2 H3) (f := fun (k : Nat) => Value.int (k : Int) 0) (xs.length - 1) 1 (fun _ _ _ _ => trivial) ?_ ?_ _ _ ⟨⟨rfl, rfl, rfl, trivial⟩, Kp.refl _ _⟩
  · rintro i i1 i2 l H3 ⟨hl, k3⟩ K hK _
    have hl' := hl.upd (y := "k") (v := .int i 0) rfl
    have hk : (l.upd "k" (.int i 0)) "k" = some (.int i 0) := rfl
    generalize l.upd "k" (.int i 0) = l1 at *
    obtain ⟨g1, g2, g3, -⟩ := id hl'
    have h3 := (h.kp0 j12).kp0 k3
    have hi : i < xs.length := by omega
    conv => whnf
    rw [g1]
    conv => whnf
    rw [h3.i]
    conv => whnf
    rw [h3.n, F.m_Store_kind]
    conv => whnf
    refine ⟨rfl, ?_⟩
    conv => whnf
    rw [g2]
    conv => whnf
    rw [hk]
    conv => whnf
    rw [k3.list hnl2]
    conv => whnf
    refine ⟨by simp [sizeLine]; omega, fun sl hsl => ?_⟩
    rw [take_slice _ i (by simp; omega), ← List.map_take]
    conv => whnf
    have k4 : Kp [] H3 (H3.upd sl (.list ((xs.take i).map fun x => Value.str x 0))) := kp_new hsl _
    have hsl' : (H3.upd sl (.list ((xs.take i).map fun x => Value.str x 0))) sl = some (.list ((xs.take i).map fun x => Value.str x 0)) := Hp.upd_same _ _ _
    generalize H3.upd sl (.list ((xs.take i).map fun x => Value.str x 0)) = H4 at *
    have hWi := hW i hi
    unfold wayAt at hWi
    cases hfd : find bs tree (xs.take i) with
    | none => rw [hfd] at hWi; cases hWi
    | some r2 =>
    rw [hfd] at hWi
    have hv : ∀ b, r2 = some b → ∃ rows, get bs b = some (.br rows) := fun b e => by
      subst e
      dsimp only at hWi
      cases hgb : get bs b with
      | none => rw [hgb] at hWi; cases hWi
      | some c => cases c with
        | leaf _ => rw [hgb] at hWi; cases hWi
        | br rows => exact ⟨rows, rfl⟩
    refine L.kind (h3.kp0 k4) hs ⟨.inl hsl', fun x hx => hp.good x (List.mem_of_mem_take hx), by rw [List.length_take]; omega⟩ hfd (fun b e => let ⟨rows, q⟩ := hv b e; ⟨_, q⟩) fun H5 k5 => ?_
    cases r2 with
    | none =>
      conv => whnf
      exact (hK _ _ ⟨hl', (k3.trans k4).trans k5⟩).1
    | some b =>
      obtain ⟨rows, hgb⟩ := hv b rfl
      rw [show kindW bs (some b) = .str "branch" 0 by unfold kindW; dsimp only; rw [hgb]]
      conv => whnf
      exact (hK _ _ ⟨hl', (k3.trans k4).trans k5⟩).1
  · rintro l H3 ⟨hl, k3⟩
    obtain ⟨g1, g2, g3, -⟩ := id hl
    have h3 := (h.kp0 j12).kp0 k3
    have hnl3 := k3.list hnl2
    have hpn : PathAt H3 nl xs := ⟨.inl hnl3, hp.good, hp.len⟩
    conv => whnf
    rw [g1]
    conv => whnf
    rw [h3.i]
    conv => whnf
    rw [h3.n, F.m_Store_kind]
    conv => whnf
    refine ⟨rfl, ?_⟩
    conv => whnf
    rw [g2]
    conv => whnf
    refine L.kind h3 hs hpn hf hr fun H4 k4 => ?_
    exact q (l.upd "kind" (kindW bs r)) nl H4 ⟨g1, g2, g3, rfl, trivial⟩ ((j12.trans k3).trans k4) (hpn.kp k4) (k4.list hnl3) (h3.kp0 k4)

/-- a put that makes something -/
theorem r_put_new (F : EnvS G A) (L : T5 G A) (h : StoreR A H σ bs cs mk tree shots last) (hs : Short bs) {a : Addr} {xs : List Str} {m : Int} (hp : PathAt H a xs) (hne : xs ≠ []) (m1 : -(10 ^ 30) < m) (m2 : m < 10 ^ 30)
    {W : Nat → List (Str × Int)} (hW : ∀ k < xs.length, wayAt bs tree xs k = some (W k)) {r : Option Int} (hf : find bs tree xs = some r) (hr : r = none ∨ ∃ b m', r = some b ∧ get bs b = some (.leaf m') ∧ m' ≠ m)
    (z1 : bs.length ≤ 2 ^ 20) (z2 : cs.length ≤ 2 ^ 20) {bs1 bs2 : List (Int × Ct)} {cs1 cs2 : List (Int × Int)} {mk1 box k1 g' : Int} {n : Nat} {c c2 : Ct} {N : Nat → Str} (hN : ∀ k, xs[k]? = some (N k) ∨ xs.length ≤ k)
    (hb : build W N xs.length (put bs (mk + 1) (.leaf m)) (put cs (mk + 1) 0) (mk + 1) (mk + 1) = some (bs1, cs1, mk1, box)) (b1 : get bs1 box = some c) (b2 : get cs1 box = some k1) (b3 : cs1.length ≤ 2 ^ 20) (b4 : get bs1 tree = some c2) (hg : lgo n [tree] bs1 (put cs1 box (k1 + 1)) 0 = some (bs2, cs2, g'))
    (q : ∀ H', StoreR A H' σ bs2 cs2 mk1 box shots last → Kp σ.M H H' → Q (.int g' 0) H') : wpF G false ["self", "path", "number"] b_Store_put [.ref σ.sx, .ref a, .int m 0] H Q X := by
  have ez : ((xs.map fun x => Value.str x 0).length : Int) = (xs.length : Nat) := by simp
  have hz := hp.len
  refine r_put_head F L h hs hp hne m1 m2 hW hf (fun b e => by
    rcases hr with rfl | ⟨b', m', rfl, hb', _⟩
    · cases e
    · cases e; exact ⟨_, hb'⟩) fun l nl H4 hl4 jH hpn4 hnl4 h4 => ?_
  have rest : ∀ (l : Loc) (H5 : Hp), Ls l [("self", .ref σ.sx), ("names", .ref nl), ("number", .int m 0)] → Kp [] H H5 → H5 nl = some (.list (xs.map fun x => Value.str x 0)) → StoreR A H5 σ bs cs mk tree shots last →
      wpSs G false (b_Store_put.drop 6) l H5 (fun f _ H' => match f with | .next => Q .none H' | .ret v => Q v H' | .cont => False) (fun C _ H' => X C H') := by
    intro l H5 hl k5 hnl5 h5
    obtain ⟨g1, g2, g3, -⟩ := id hl
    conv => whnf
    rw [g1]
    conv => whnf
    rw [h5.i]
    conv => whnf
    rw [h5.n, F.m_Store_ways]
    conv => whnf
    refine ⟨rfl, ?_⟩
    conv => whnf
    rw [g2]
    conv => whnf
    refine L.ways h5 hs hnl5 hp.len hW fun fl ws H6 k6 hfl hws => ?_
    have h6 := h5.kp0 k6
    obtain ⟨bvs, hp6, _⟩ := id h6.p.ex
    conv => whnf
    have hl6 : Ls (l.upd "ways" (.ref fl)) [("self", .ref σ.sx), ("names", .ref nl), ("number", .int m 0), ("ways", .ref fl)] := ⟨g1, g2, g3, rfl, trivial⟩
    generalize l.upd "ways" (.ref fl) = l6 at *
    clear g1 g2 g3
    obtain ⟨g1, g2, g3, g4, -⟩ := id hl6
    rw [g1]
    conv => whnf
    rw [h6.i]
    conv => whnf
    rw [h6.n]
    conv => whnf
    refine ⟨F.f_Store_pile, ?_⟩
    conv => whnf
    rw [hp6.i]
    conv => whnf
    rw [hp6.n, F.m_Pile_leaf]
    conv => whnf
    refine ⟨rfl, ?_⟩
    conv => whnf
    rw [g3]
    conv => whnf
    refine L.leaf h6.p (by simp [sizeLine]; omega) (by simp [sizeLine]; omega) fun H7 p7 k7 => ?_
    have h7 := h6.op p7 k7
    conv => whnf
    have hl7 : Ls (l6.upd "box" (.int (mk + 1) 0)) [("self", .ref σ.sx), ("names", .ref nl), ("ways", .ref fl), ("box", .int (mk + 1) 0)] := ⟨g1, g2, g4, rfl, trivial⟩
    generalize l6.upd "box" (.int (mk + 1) 0) = l7 at *
    clear g1 g2 g3 g4
    obtain ⟨g1, g2, g4, g5, -⟩ := id hl7
    have hnl7 := k7.list (k6.list hnl5)
    rw [g2]
    conv => whnf
    refine ⟨.inl rfl, ?_⟩
    conv => whnf
    rw [hnl7]
    conv => whnf
    refine ⟨.inr rfl, ?_⟩
    rw [ez]
    conv => whnf
    refine ⟨by decide, by decide, by decide, by decide, by decide, by omega, by omega, fun r2 hr2 => ?_⟩
    conv => whnf
    refine ⟨rfl, ?_⟩
    conv => whnf
    rw [Hp.upd_same]
    conv => whnf
    refine ⟨small_down (by omega), ?_⟩
    rw [rangeL_down]
    have k8 : Kp [] H7 (H7.upd r2 (.range ((xs.length : Int) - 1) (-1) (-1))) := kp_new hr2 _
    have h8 := h7.kp0 k8
    have hnl8 := k8.list hnl7
    have hfl8 := k8.list (k7.list hfl)
    have hws8 := all2_imp (fun _ _ q => WayR.kp k8 (WayR.kp k7 q)) hws
    have kH : Kp σ.M H (H7.upd r2 (.range ((xs.length : Int) - 1) (-1) (-1))) := (((k5.trans k6).mono (by simp)).trans (k7.mono σ.sub)).trans (k8.mono (by simp))
    generalize H7.upd r2 (.range ((xs.length : Int) - 1) (-1) (-1)) = H8 at *
    refine forG_list (fun r l H9 => Kp σ.M H8 H9 ∧ ∃ j bsj csj mkj boxj, j ≤ xs.length ∧ r = down j ∧ Ls l [("self", .ref σ.sx), ("names", .ref nl), ("ways", .ref fl), ("box", .int boxj 0)] ∧ StoreR A H9 σ bsj csj mkj tree shots last ∧ build W N j bsj csj mkj boxj = some (bs1, cs1, mk1, box)) (fun _ _ _ _ => trivial) ?_ ?_ _ _ H8 ⟨Kp.refl _ _, xs.length, _, _, _, _, Nat.le_refl _, rfl, hl7, h8, hb⟩
    · rintro v rr l H9 ⟨k9, j, bsj, csj, mkj, boxj, hj, hrr, hl, h9, hbj⟩ K hK _
      cases j with
      | zero => cases hrr
      | succ j =>
      cases hrr
      have hl' := hl.upd (y := "k") (v := .int j 0) rfl
      have hk : (l.upd "k" (.int j 0)) "k" = some (.int j 0) := rfl
      generalize l.upd "k" (.int j 0) = l1 at *
      clear g1 g2 g4 g5
      obtain ⟨g1, g2, g4, g5, -⟩ := id hl'
      unfold build at hbj
      by_cases hc : bsj.length ≤ 2 ^ 20 ∧ csj.length ≤ 2 ^ 20 ∧ (W j).length ≤ 2 ^ 20 ∧ (placedR (W j) (N j) boxj).length ≤ 2 ^ 20 ∧ ((placedR (W j) (N j) boxj).all fun r => (get bsj r.2).isSome) = true
      · rw [if_pos hc] at hbj
        obtain ⟨c1, c2', c3, c4, c5⟩ := hc
        cases hh : holdAll csj (placedR (W j) (N j) boxj) with
        | none => rw [hh] at hbj; cases hbj
        | some csn =>
        rw [hh] at hbj
        obtain ⟨bv9, hp9, _⟩ := id h9.p.ex
        have hx : xs[j]? = some (N j) := (hN j).resolve_right (by omega)
        obtain ⟨wv, hw1, wl, wys, rfl, _, hw3, hw4⟩ := all2_at hws8 (k := j) (y := W j) (by simp [List.getElem?_map, List.getElem?_range (show j < xs.length by omega)])
        conv => whnf
        rw [g1]
        conv => whnf
        rw [h9.i]
        conv => whnf
        rw [h9.n]
        conv => whnf
        refine ⟨F.f_Store_pile, ?_⟩
        conv => whnf
        rw [hp9.i]
        conv => whnf
        rw [hp9.n, F.m_Pile_branch]
        conv => whnf
        refine ⟨rfl, ?_⟩
        conv => whnf
        rw [F.g_placed]
        conv => whnf
        rw [g4]
        conv => whnf
        rw [hk]
        conv => whnf
        rw [k9.list hfl8]
        conv => whnf
        rw [at_nat, hw1]
        conv => whnf
        rw [g2]
        conv => whnf
        rw [hk]
        conv => whnf
        rw [k9.list hnl8]
        conv => whnf
        rw [at_nat, List.getElem?_map, hx]
        conv => whnf
        rw [g5]
        conv => whnf
        rw [F.i_placed]
        conv => whnf
        refine L.placed (k9.list hw3) (all2_imp (fun _ _ q => q.kp k9) hw4) c3 fun pl pys H10 k10 hpl hpr => ?_
        conv => whnf
        refine L.branch (h9.kp0 k10).p hpl hpr (fun r hr => Option.isSome_iff_exists.1 (List.all_eq_true.1 c5 r hr)) hh (by simp [sizeLine]; omega) (by simp [sizeLine]; omega) (by simp [sizeLine]; omega) fun H11 p11 k11 => ?_
        conv => whnf
        refine (hK (l1.upd "box" (.int (mkj + 1) 0)) _ ⟨(k9.trans (k10.mono (by simp))).trans (k11.mono σ.sub), j, _, _, _, _, by omega, rfl, ⟨g1, g2, g4, rfl, trivial⟩, (h9.kp0 k10).op p11 k11, hbj⟩).1
      · rw [if_neg hc] at hbj; cases hbj
    · rintro l H9 ⟨k9, j, bsj, csj, mkj, boxj, hj, hrr, hl, h9, hbj⟩
      cases j with
      | succ j => cases hrr
      | zero =>
      cases hbj
      clear g1 g2 g4 g5
      obtain ⟨g1, g2, g4, g5, -⟩ := id hl
      conv => whnf
      rw [g1]
      conv => whnf
      rw [h9.i]
      conv => whnf
      rw [h9.n, F.m_Store_changed]
      conv => whnf
      refine ⟨rfl, ?_⟩
      conv => whnf
      rw [g5]
      conv => whnf
      refine L.changed h9 b1 b2 b3 b4 hg fun H10 h10 k10 => ?_
      conv => whnf
      exact q _ h10 ((kH.trans k9).trans k10)
  obtain ⟨g1, g2, g3, g6, -⟩ := id hl4
  rcases hr with rfl | ⟨b', m', rfl, hb', hm'⟩
  · conv => whnf
    rw [g6]
    conv => whnf
    rw [g6]
    conv => whnf
    exact rest l H4 ⟨g1, g2, g3, trivial⟩ jH hnl4 h4
  · rw [show kindW bs (some b') = .str "leaf" 0 by unfold kindW; dsimp only; rw [hb']] at g6
    conv => whnf
    rw [g6]
    conv => whnf
    rw [g6]
    conv => whnf
    rw [g1]
    conv => whnf
    rw [h4.i]
    conv => whnf
    rw [h4.n, F.m_Store_value]
    conv => whnf
    refine ⟨rfl, ?_⟩
    conv => whnf
    rw [g2]
    conv => whnf
    refine L.value h4 hs hpn4 hf hb' fun H5 k5 => ?_
    conv => whnf
    rw [g3]
    conv => whnf
    rw [decide_eq_false hm']
    conv => whnf
    exact rest l H5 ⟨g1, g2, g3, trivial⟩ (jH.trans k5) (k5.list hnl4) (h4.kp0 k5)

theorem r_put_same (F : EnvS G A) (L : T5 G A) (h : StoreR A H σ bs cs mk tree shots last) (hs : Short bs) {a : Addr} {xs : List Str} {m b : Int} (hp : PathAt H a xs) (hne : xs ≠ []) (m1 : -(10 ^ 30) < m) (m2 : m < 10 ^ 30)
    {W : Nat → List (Str × Int)} (hW : ∀ k < xs.length, wayAt bs tree xs k = some (W k)) (hf : find bs tree xs = some (some b)) (hb : get bs b = some (.leaf m))
    (q : ∀ H', Kp [] H H' → Q (.int 0 0) H') : wpF G false ["self", "path", "number"] b_Store_put [.ref σ.sx, .ref a, .int m 0] H Q X := by
  refine r_put_head F L h hs hp hne m1 m2 hW hf (fun b' e => by cases e; exact ⟨_, hb⟩) fun l nl H4 hl4 jH hpn4 hnl4 h4 => ?_
  obtain ⟨g1, g2, g3, g6, -⟩ := id hl4
  rw [show kindW bs (some b) = .str "leaf" 0 by unfold kindW; dsimp only; rw [hb]] at g6
  conv => whnf
  rw [g6]
  conv => whnf
  rw [g6]
  conv => whnf
  rw [g1]
  conv => whnf
  rw [h4.i]
  conv => whnf
  rw [h4.n, F.m_Store_value]
  conv => whnf
  refine ⟨rfl, ?_⟩
  conv => whnf
  rw [g2]
  conv => whnf
  refine L.value h4 hs hpn4 hf hb fun H5 k5 => ?_
  conv => whnf
  rw [g3]
  conv => whnf
  rw [decide_eq_true rfl]
  conv => whnf
  exact q _ (jH.trans k5)
end
end Mine.St
end

section
open PySem PyProof.Rows
namespace Mine.St
open Mine

section
variable {A : Ad} {G : Gx}
theorem c_init {G : Gx} (F : Env G A) {H : Hp} {x d : Addr} (hd : H d = none) (hx : H x = none) (hdx : d ≠ x) {Q : QV} {X : XV} (h : ∀ H' bx ct, PileAt A H' x d bx ct [] [] 0 → (∀ c o, H c = some o → H' c = some o) → H bx = none → H ct = none → Q .none H') : wpF G false ["self"] b_Pile___init__ [.ref x] ((H.upd d (.ns [])).upd x (.inst A.cP d)) Q X := by
  refine ⟨rfl, ?_⟩
  have hx1 : ((H.upd d (.ns [])).upd x (.inst A.cP d)) x = some (.inst A.cP d) := Hp.upd_same _ _ _
  have hd1 : ((H.upd d (.ns [])).upd x (.inst A.cP d)) d = some (.ns []) := (Hp.upd_ne _ _ hdx).trans (Hp.upd_same _ _ _)
  have o1 : ∀ c o, H c = some o → ((H.upd d (.ns [])).upd x (.inst A.cP d)) c = some o := fun c o hc => by
    rw [Hp.upd_ne _ _ (fun e => by rw [e, hx] at hc; cases hc), Hp.upd_ne _ _ (fun e => by rw [e, hd] at hc; cases hc)]; exact hc
  generalize (H.upd d (.ns [])).upd x (.inst A.cP d) = H1 at *
  conv => whnf
  refine .inl ⟨rfl, rfl, fun bx hb => ?_⟩
  conv => whnf
  have nbx : x ≠ bx := fun e => by rw [← e, hx1] at hb; cases hb
  have nbd : d ≠ bx := fun e => by rw [← e, hd1] at hb; cases hb
  have hx2 : (H1.upd bx (.idict [])) x = some (.inst A.cP d) := (Hp.upd_ne _ _ nbx).trans hx1
  have hd2 : (H1.upd bx (.idict [])) d = some (.ns []) := (Hp.upd_ne _ _ nbd).trans hd1
  have hb2 : (H1.upd bx (.idict [])) bx = some (.idict []) := Hp.upd_same _ _ _
  have o2 : ∀ c o, H c = some o → (H1.upd bx (.idict [])) c = some o := fun c o hc => by
    have := o1 c o hc
    rw [Hp.upd_ne _ _ (fun e => by rw [e, hb] at this; cases this)]; exact this
  generalize H1.upd bx (.idict []) = H2 at *
  rw [hx2]
  conv => whnf
  rw [hd2]
  conv => whnf
  refine ⟨F.f_Pile_boxes, by simp, ?_⟩
  conv => whnf
  refine .inl ⟨rfl, rfl, fun ct hc => ?_⟩
  conv => whnf
  have ndc : ∀ c o, H c = some o → c ≠ d := fun c o hc e => by rw [e, hd] at hc; cases hc
  have hx3 : (H2.upd d (.ns (stored [] (Str.ofString "boxes") (.ref bx)))) x = some (.inst A.cP d) := (Hp.upd_ne _ _ hdx.symm).trans hx2
  have hd3 : (H2.upd d (.ns (stored [] (Str.ofString "boxes") (.ref bx)))) d = some (.ns [(Str.ofString "boxes", .ref bx)]) := Hp.upd_same _ _ _
  have hb3 : (H2.upd d (.ns (stored [] (Str.ofString "boxes") (.ref bx)))) bx = some (.idict []) := (Hp.upd_ne _ _ nbd.symm).trans hb2
  have o3 : ∀ c o, H c = some o → (H2.upd d (.ns (stored [] (Str.ofString "boxes") (.ref bx)))) c = some o := fun c o hc => (Hp.upd_ne _ _ (ndc c o hc)).trans (o2 c o hc)
  generalize H2.upd d (.ns (stored [] (Str.ofString "boxes") (.ref bx))) = H3 at *
  have ncx : x ≠ ct := fun e => by rw [← e, hx3] at hc; cases hc
  have ncd : d ≠ ct := fun e => by rw [← e, hd3] at hc; cases hc
  have ncb : bx ≠ ct := fun e => by rw [← e, hb3] at hc; cases hc
  have hx4 : (H3.upd ct (.idict [])) x = some (.inst A.cP d) := (Hp.upd_ne _ _ ncx).trans hx3
  have hd4 : (H3.upd ct (.idict [])) d = some (.ns [(Str.ofString "boxes", .ref bx)]) := (Hp.upd_ne _ _ ncd).trans hd3
  have hb4 : (H3.upd ct (.idict [])) bx = some (.idict []) := (Hp.upd_ne _ _ ncb).trans hb3
  have hc4 : (H3.upd ct (.idict [])) ct = some (.idict []) := Hp.upd_same _ _ _
  have o4 : ∀ c o, H c = some o → (H3.upd ct (.idict [])) c = some o := fun c o h1 => by
    have := o3 c o h1
    rw [Hp.upd_ne _ _ (fun e => by rw [e, hc] at this; cases this)]; exact this
  generalize H3.upd ct (.idict []) = H4 at *
  rw [hx4]
  conv => whnf
  rw [hd4]
  conv => whnf
  refine ⟨F.f_Pile_counts, by simp, ?_⟩
  conv => whnf
  have hx5 : (H4.upd d (.ns (stored [(Str.ofString "boxes", .ref bx)] (Str.ofString "counts") (.ref ct)))) x = some (.inst A.cP d) := (Hp.upd_ne _ _ hdx.symm).trans hx4
  have hd5 : (H4.upd d (.ns (stored [(Str.ofString "boxes", .ref bx)] (Str.ofString "counts") (.ref ct)))) d = some (.ns [(Str.ofString "boxes", .ref bx), (Str.ofString "counts", .ref ct)]) := Hp.upd_same _ _ _
  have hb5 : (H4.upd d (.ns (stored [(Str.ofString "boxes", .ref bx)] (Str.ofString "counts") (.ref ct)))) bx = some (.idict []) := (Hp.upd_ne _ _ nbd.symm).trans hb4
  have hc5 : (H4.upd d (.ns (stored [(Str.ofString "boxes", .ref bx)] (Str.ofString "counts") (.ref ct)))) ct = some (.idict []) := (Hp.upd_ne _ _ ncd.symm).trans hc4
  have o5 : ∀ c o, H c = some o → (H4.upd d (.ns (stored [(Str.ofString "boxes", .ref bx)] (Str.ofString "counts") (.ref ct)))) c = some o := fun c o hc => (Hp.upd_ne _ _ (ndc c o hc)).trans (o4 c o hc)
  generalize H4.upd d (.ns (stored [(Str.ofString "boxes", .ref bx)] (Str.ofString "counts") (.ref ct))) = H5 at *
  rw [hx5]
  conv => whnf
  rw [hd5]
  conv => whnf
  refine ⟨F.f_Pile_made, by simp, ?_⟩
  conv => whnf
  refine h _ bx ct ⟨(Hp.upd_ne _ _ hdx.symm).trans hx5, Hp.upd_same _ _ _, (Hp.upd_ne _ _ nbd.symm).trans hb5, (Hp.upd_ne _ _ ncd.symm).trans hc5, ncb⟩ (fun c o hc => (Hp.upd_ne _ _ (ndc c o hc)).trans (o5 c o hc)) ?_ ?_
  · cases e : H bx with
    | none => rfl
    | some o => rw [o1 _ _ e] at hb; cases hb
  · cases e : H ct with
    | none => rfl
    | some o => rw [o3 _ _ e] at hc; cases hc

theorem r_sinit (F : EnvS G A) (L : R3 G A) (hpi : ∀ {H : Hp} {x d : Addr}, H d = none → H x = none → d ≠ x → ∀ {Q : QV} {X : XV}, (∀ H' bx ct, PileAt A H' x d bx ct [] [] 0 → (∀ c o, H c = some o → H' c = some o) → H bx = none → H ct = none → Q .none H') → G.fn A.Pile_init false [.ref x] ((H.upd d (.ns [])).upd x (.inst A.cP d)) Q X)
    {H : Hp} {x d : Addr} (hd : H d = none) (hx : H x = none) (hdx : d ≠ x) {Q : QV} {X : XV} (q : ∀ H' σ, σ.sx = x → StoreR A H' σ [(1, .br [])] [(1, 1)] 1 1 [] 0 → Kp [] H H' → (∀ a ∈ σ.M, H a = none) → Q .none H') : wpF G false ["self"] b_Store___init__ [.ref x] ((H.upd d (.ns [])).upd x (.inst A.cS d)) Q X := by
  refine ⟨rfl, ?_⟩
  have hx1 : ((H.upd d (.ns [])).upd x (.inst A.cS d)) x = some (.inst A.cS d) := Hp.upd_same _ _ _
  have hd1 : ((H.upd d (.ns [])).upd x (.inst A.cS d)) d = some (.ns []) := (Hp.upd_ne _ _ hdx).trans (Hp.upd_same _ _ _)
  have k1 : Kp [] H ((H.upd d (.ns [])).upd x (.inst A.cS d)) := (kp_new hd _).trans (kp_new ((Hp.upd_ne _ _ hdx.symm).trans hx) _)
  generalize (H.upd d (.ns [])).upd x (.inst A.cS d) = H1 at *
  conv => whnf
  rw [F.g_Pile]
  conv => whnf
  rw [F.i_Pile]
  conv => whnf
  intro d2 x2 hd2 hx2 hdx2
  refine hpi hd2 hx2 hdx2 fun H2 bx ct p2 o2 nb nc => ⟨rfl, ?_⟩
  have k2 : Kp [] H1 H2 := fun a o e _ => o2 a o e
  conv => whnf
  rw [o2 _ _ hx1]
  conv => whnf
  rw [o2 _ _ hd1]
  conv => whnf
  refine ⟨F.f_Store_pile, by simp, ?_⟩
  have nd : ∀ {a : Addr}, H1 a = none → d ≠ a := fun e z => by rw [← z, hd1] at e; cases e
  have nx : ∀ {a : Addr}, H1 a = none → x ≠ a := fun e z => by rw [← z, hx1] at e; cases e
  have hnd : d ∉ (PA.mk x2 d2 bx ct).M := by
    simp only [PA.M, List.mem_cons, List.not_mem_nil, or_false]
    rintro (e | e | e)
    · exact nd hd2 e
    · exact nd nb e
    · exact nd nc e
  have hnx : x ≠ d := hdx.symm
  have hM1 : ∀ a ∈ (PA.mk x2 d2 bx ct).M, H a = none := by
    have up : ∀ {a : Addr}, H1 a = none → H a = none := fun {a} e => by
      cases z : H a with
      | none => rfl
      | some o => rw [k1 a o z (.inr (by simp))] at e; cases e
    intro a ha
    simp only [PA.M, List.mem_cons, List.not_mem_nil, or_false] at ha
    rcases ha with rfl | rfl | rfl
    · exact up hd2
    · exact up nb
    · exact up nc
  have P2 : PileR A H2 ⟨x2, d2, bx, ct⟩ [] [] 0 := ⟨[], p2, .nil⟩
  have ud : ∀ {Ha : Hp} {o o' : AObj} {bs : List (Int × Ct)} {cs : List (Int × Int)} {mk : Int}, Ha d = some o' → chg o' = true → PileR A Ha ⟨x2, d2, bx, ct⟩ bs cs mk → PileR A (Ha.upd d o) ⟨x2, d2, bx, ct⟩ bs cs mk := fun {Ha o o' bs cs mk} e c h => by
    refine h.kp (kp_upd e c (List.mem_singleton.2 rfl) o) ?_ ?_ ?_ <;> simp only [List.mem_singleton] <;> intro z <;> exact hnd (by rw [← z]; simp [PA.M])
  have e1 : stored [] (Str.ofString "pile") (Value.ref x2) = [(Str.ofString "pile", .ref x2)] := rfl
  rw [e1]
  conv => whnf
  have P3 := ud (o := .ns [(Str.ofString "pile", .ref x2)]) (o2 _ _ hd1) rfl P2
  have kH3 := (k1.trans k2).fresh hd (.ns [(Str.ofString "pile", .ref x2)])
  have hd3 : (H2.upd d (.ns [(Str.ofString "pile", .ref x2)])) d = some (.ns [(Str.ofString "pile", .ref x2)]) := Hp.upd_same _ _ _
  have hx3 : (H2.upd d (.ns [(Str.ofString "pile", .ref x2)])) x = some (.inst A.cS d) := (Hp.upd_ne _ _ hnx).trans (o2 _ _ hx1)
  generalize H2.upd d (.ns [(Str.ofString "pile", .ref x2)]) = H3 at *
  rw [hx3]
  conv => whnf
  rw [hd3]
  conv => whnf
  refine ⟨F.f_Store_pile, ?_⟩
  obtain ⟨bv3, hp3, _⟩ := id P3.ex
  conv => whnf
  rw [hp3.i]
  conv => whnf
  rw [hp3.n, F.m_Pile_branch]
  conv => whnf
  refine ⟨rfl, ?_⟩
  conv => whnf
  refine ⟨Nat.le_of_ble_eq_true rfl, fun el hel => ?_⟩
  conv => whnf
  have k4 : Kp [] H3 (H3.upd el (.list [])) := kp_new hel _
  have hel' : (H3.upd el (.list [])) el = some (.list []) := Hp.upd_same _ _ _
  have kH4 := kH3.trans k4
  have P4 := P3.kp k4 (by simp) (by simp) (by simp)
  have hd4 := k4 _ _ hd3 (.inr (by simp))
  have hx4 := k4 _ _ hx3 (.inr (by simp))
  generalize H3.upd el (.list []) = H4 at *
  refine L.branch P4 hel' .nil (fun _ h => nomatch h) rfl (Nat.zero_le _) (Nat.zero_le _) (Nat.zero_le _) fun H5 P5 k5 => ?_
  have P5 : PileR A H5 ⟨x2, d2, bx, ct⟩ [(1, .br [])] [(1, 0)] 1 := P5
  have hd5 := k5 _ _ hd4 (.inr hnd)
  have hx5 := k5 _ _ hx4 (.inl rfl)
  have kH5 : Kp [] H H5 := fun a o e n => k5 a o (kH4 a o e n) (.inr fun ha => by rw [hM1 a ha] at e; cases e)
  conv => whnf
  rw [hx5]
  conv => whnf
  rw [hd5]
  conv => whnf
  refine ⟨F.f_Store_tree, by simp, ?_⟩
  have e2 : stored [(Str.ofString "pile", Value.ref x2)] (Str.ofString "tree") (.int (0 + 1) 0) = [(Str.ofString "pile", .ref x2), (Str.ofString "tree", .int 1 0)] := rfl
  rw [e2]
  have P6 := ud (o := .ns [(Str.ofString "pile", .ref x2), (Str.ofString "tree", .int 1 0)]) hd5 rfl P5
  have kH6 := kH5.fresh hd (.ns [(Str.ofString "pile", .ref x2), (Str.ofString "tree", .int 1 0)])
  have hd6 : (H5.upd d (.ns [(Str.ofString "pile", .ref x2), (Str.ofString "tree", .int 1 0)])) d = some (.ns [(Str.ofString "pile", .ref x2), (Str.ofString "tree", .int 1 0)]) := Hp.upd_same _ _ _
  have hx6 : (H5.upd d (.ns [(Str.ofString "pile", .ref x2), (Str.ofString "tree", .int 1 0)])) x = some (.inst A.cS d) := (Hp.upd_ne _ _ hnx).trans hx5
  conv => whnf
  generalize H5.upd d (.ns [(Str.ofString "pile", .ref x2), (Str.ofString "tree", .int 1 0)]) = H6 at *
  rw [hx6]
  conv => whnf
  rw [hd6]
  conv => whnf
  refine ⟨F.f_Store_pile, ?_⟩
  obtain ⟨bv6, hp6, _⟩ := id P6.ex
  conv => whnf
  rw [hp6.i]
  conv => whnf
  rw [hp6.n, F.m_Pile_hold]
  conv => whnf
  refine ⟨rfl, ?_⟩
  conv => whnf
  rw [hx6]
  conv => whnf
  rw [hd6]
  conv => whnf
  refine ⟨F.f_Store_tree, ?_⟩
  conv => whnf
  refine L.hold P6 (c := .br []) (k := 0) rfl rfl (by decide) fun H7 P7 k7 => ?_
  have P7 : PileR A H7 ⟨x2, d2, bx, ct⟩ [(1, .br [])] [(1, 1)] 1 := P7
  have hd7 := k7 _ _ hd6 (.inr hnd)
  have hx7 := k7 _ _ hx6 (.inl rfl)
  have kH7 : Kp [] H H7 := fun a o e n => k7 a o (kH6 a o e n) (.inr fun ha => by rw [hM1 a ha] at e; cases e)
  conv => whnf
  refine .inl ⟨rfl, rfl, fun sh hsh => ?_⟩
  conv => whnf
  have k8 : Kp [] H7 (H7.upd sh (.idict [])) := kp_new hsh _
  have hsh8 : (H7.upd sh (.idict [])) sh = some (.idict []) := Hp.upd_same _ _ _
  have P8 := P7.kp k8 (by simp) (by simp) (by simp)
  have hd8 := k8 _ _ hd7 (.inr (by simp))
  have hx8 := k8 _ _ hx7 (.inr (by simp))
  have kH8 := kH7.trans k8
  have hsh0 : H sh = none := by
    cases z : H sh with
    | none => rfl
    | some o => rw [kH7 sh o z (.inr (by simp))] at hsh; cases hsh
  obtain ⟨bv7, hp7, _⟩ := id P7.ex
  have nsd : sh ≠ d := fun e => by rw [e, hd7] at hsh; cases hsh
  have nsb : sh ≠ bx := fun e => by rw [e, hp7.b] at hsh; cases hsh
  have nsc : sh ≠ ct := fun e => by rw [e, hp7.c] at hsh; cases hsh
  generalize H7.upd sh (.idict []) = H8 at *
  rw [hx8]
  conv => whnf
  rw [hd8]
  conv => whnf
  refine ⟨F.f_Store_shots, by simp, ?_⟩
  have e3 : stored [(Str.ofString "pile", Value.ref x2), (Str.ofString "tree", .int 1 0)] (Str.ofString "shots") (.ref sh) = [(Str.ofString "pile", .ref x2), (Str.ofString "tree", .int 1 0), (Str.ofString "shots", .ref sh)] := rfl
  rw [e3]
  have P9 := ud (o := .ns [(Str.ofString "pile", .ref x2), (Str.ofString "tree", .int 1 0), (Str.ofString "shots", .ref sh)]) hd8 rfl P8
  have kH9 := kH8.fresh hd (.ns [(Str.ofString "pile", .ref x2), (Str.ofString "tree", .int 1 0), (Str.ofString "shots", .ref sh)])
  have hd9 : (H8.upd d (.ns [(Str.ofString "pile", .ref x2), (Str.ofString "tree", .int 1 0), (Str.ofString "shots", .ref sh)])) d = some (.ns [(Str.ofString "pile", .ref x2), (Str.ofString "tree", .int 1 0), (Str.ofString "shots", .ref sh)]) := Hp.upd_same _ _ _
  have hx9 : (H8.upd d (.ns [(Str.ofString "pile", .ref x2), (Str.ofString "tree", .int 1 0), (Str.ofString "shots", .ref sh)])) x = some (.inst A.cS d) := (Hp.upd_ne _ _ hnx).trans hx8
  have hsh9 : (H8.upd d (.ns [(Str.ofString "pile", .ref x2), (Str.ofString "tree", .int 1 0), (Str.ofString "shots", .ref sh)])) sh = some (.idict []) := (Hp.upd_ne _ _ nsd).trans hsh8
  conv => whnf
  generalize H8.upd d (.ns [(Str.ofString "pile", .ref x2), (Str.ofString "tree", .int 1 0), (Str.ofString "shots", .ref sh)]) = H9 at *
  rw [hx9]
  conv => whnf
  rw [hd9]
  conv => whnf
  refine ⟨F.f_Store_last, by simp, ?_⟩
  have e4 : stored [(Str.ofString "pile", Value.ref x2), (Str.ofString "tree", .int 1 0), (Str.ofString "shots", .ref sh)] (Str.ofString "last") (.int 0 0) = [(Str.ofString "pile", .ref x2), (Str.ofString "tree", .int 1 0), (Str.ofString "shots", .ref sh), (Str.ofString "last", .int 0 0)] := rfl
  rw [e4]
  conv => whnf
  refine q _ ⟨x, d, sh, ⟨x2, d2, bx, ct⟩⟩ rfl ⟨(Hp.upd_ne _ _ hnx).trans hx9, Hp.upd_same _ _ _, (Hp.upd_ne _ _ nsd).trans hsh9, ud hd9 rfl P9, nd hd2, nsb, nsc⟩ (kH9.fresh hd _) ?_
  intro a ha
  simp only [SA.M, List.mem_cons, List.not_mem_nil, or_false] at ha
  rcases ha with rfl | rfl | rfl | rfl | rfl
  · exact hd
  · exact hsh0
  · exact hM1 _ (by simp [PA.M])
  · exact hM1 _ (by simp [PA.M])
  · exact hM1 _ (by simp [PA.M])
end
end Mine.St
end

section
open PySem PyProof.Rows
namespace Mine.L4
open Mine Mine.St

theorem get_range {α : Type} (c : Int) (f : Nat → α) : ∀ (t : Nat) (j : Int), get ((List.range t).map fun (i : Nat) => ((i : Int) + c, f i)) j = if c ≤ j ∧ j < c + t then some (f (j - c).toNat) else none
  | 0, j => by
    rw [if_neg (by omega)]; rfl
  | t + 1, j => by
    rw [List.range_succ, List.map_append, get_append, get_range c f t j]
    show Option.or _ (get [((t : Int) + c, f t)] j) = _
    rw [get_cons]
    by_cases h : c ≤ j ∧ j < c + t
    · rw [if_pos h, Option.some_or, if_pos (by omega)]
    · rw [if_neg h]
      by_cases h2 : (t : Int) + c = j
      · rw [if_pos h2, if_pos (by omega)]
        have : (j - c).toNat = t := by omega
        rw [this]; rfl
      · rw [if_neg h2, if_neg (by omega)]; rfl

section
variable (xs : List Str) (m : Int)
noncomputable def rowAt (i : Nat) : Str × Int := (xs.getD (xs.length - 1 - i) "", (i : Int) + 2)
noncomputable def bsC (t : Nat) : List (Int × Ct) := [(1, .br []), (2, .leaf m)] ++ (List.range t).map fun (i : Nat) => ((i : Int) + 3, Ct.br [rowAt xs i])
noncomputable def csC (t : Nat) : List (Int × Int) := (1, 1) :: ((List.range t).map fun (i : Nat) => ((i : Int) + 2, (1 : Int))) ++ [((t : Int) + 2, 0)]

theorem get_bsC (t : Nat) (j : Int) : get (bsC xs m t) j = if j = 1 then some (.br []) else if j = 2 then some (.leaf m) else if 3 ≤ j ∧ j < 3 + t then some (.br [rowAt xs (j - 3).toNat]) else none := by
  unfold bsC
  rw [get_append, get_cons, get_cons, get_range 3 (fun i => Ct.br [rowAt xs i]) t j]
  by_cases h1 : j = 1
  · subst h1; rfl
  · rw [if_neg (fun e => h1 e.symm), if_neg h1]
    by_cases h2 : j = 2
    · subst h2; rfl
    · rw [if_neg (fun e => h2 e.symm), if_neg h2]; rfl
theorem get_csC (t : Nat) (j : Int) : get (csC t) j = if 1 ≤ j ∧ j < (t : Int) + 2 then some 1 else if j = (t : Int) + 2 then some 0 else none := by
  unfold csC
  rw [List.cons_append, get_cons, get_append, get_range 2 (fun _ => (1 : Int)) t j, get_cons]
  by_cases h1 : j = 1
  · subst h1; rw [if_pos rfl, if_pos (by omega)]
  · rw [if_neg (fun e => h1 e.symm)]
    by_cases h2 : (2 : Int) ≤ j ∧ j < 2 + t
    · rw [if_pos h2, Option.some_or, if_pos (by omega)]
    · rw [if_neg h2]
      by_cases h3 : j = (t : Int) + 2
      · rw [if_pos h3.symm, if_neg (by omega), if_pos h3]; rfl
      · rw [if_neg (fun e => h3 e.symm), if_neg (by omega), if_neg h3]; rfl
theorem keys_bsC (t : Nat) {j : Int} (h : (t : Int) + 2 < j) : j ∉ (bsC xs m t).map (·.1) := by
  unfold bsC
  simp only [List.map_append, List.map_cons, List.map_nil, List.map_map, List.mem_append, List.mem_cons, List.mem_map, List.mem_range, List.not_mem_nil, or_false, Function.comp, not_or, not_exists, not_and]
  exact ⟨⟨by omega, by omega⟩, fun i hi => by omega⟩
theorem keys_csC (t : Nat) {j : Int} (h : (t : Int) + 2 < j) : j ∉ (csC t).map (·.1) := by
  unfold csC
  simp only [List.map_append, List.map_cons, List.map_nil, List.map_map, List.mem_append, List.mem_cons, List.mem_map, List.mem_range, List.not_mem_nil, or_false, Function.comp, not_or, not_exists, not_and]
  refine ⟨⟨by omega, fun i hi => by omega⟩, by omega⟩
theorem put_csC (t : Nat) (k : Int) : put (csC t) ((t : Int) + 2) k = (1, 1) :: ((List.range t).map fun (i : Nat) => ((i : Int) + 2, (1 : Int))) ++ [((t : Int) + 2, k)] := by
  unfold put
  rw [if_pos (by unfold csC; simp)]
  unfold csC
  rw [List.map_append, List.map_cons, List.map_map]
  rw [if_neg (by omega)]
  congr 1
  · congr 1
    refine List.map_congr_left fun i hi => ?_
    have := List.mem_range.1 hi
    simp only [Function.comp]
    rw [if_neg (by omega)]
  · simp
theorem bsC_succ (t : Nat) : put (bsC xs m t) ((t : Int) + 2 + 1) (.br [rowAt xs t]) = bsC xs m (t + 1) := by
  rw [put_new _ (keys_bsC xs m t (by omega))]
  unfold bsC
  rw [List.range_succ, List.map_append, List.append_assoc]
  congr 3
theorem csC_succ (t : Nat) : put (put (csC t) ((t : Int) + 2) (0 + 1)) ((t : Int) + 2 + 1) 0 = csC (t + 1) := by
  rw [put_csC, put_new]
  · unfold csC
    rw [List.range_succ, List.map_append]
    simp only [List.map_cons, List.map_nil, List.cons_append, List.append_assoc, List.nil_append]
    congr 5
  · have := keys_csC t (j := (t : Int) + 2 + 1) (by omega)
    unfold csC at this
    simpa using this

theorem find0 (xs : List Str) (h : xs ≠ []) : find [(1, .br [])] 1 xs = some none := by
  cases xs with
  | nil => exact absurd rfl h
  | cons x r => rfl
theorem way0 (xs : List Str) (k : Nat) : wayAt [(1, .br [])] 1 xs k = some [] := by
  unfold wayAt
  cases h : xs.take k with
  | nil => rfl
  | cons x r => rfl

variable {xs : List Str} {m : Int}
theorem build_ok {N : Nat → Str} (hN : ∀ k < xs.length, xs.getD k "" = N k) (hz : xs.length ≤ 8) : ∀ j, j ≤ xs.length → build (fun _ => []) N j (bsC xs m (xs.length - j)) (csC (xs.length - j)) ((xs.length - j : Nat) + 2) ((xs.length - j : Nat) + 2) = some (bsC xs m xs.length, csC xs.length, (xs.length : Int) + 2, (xs.length : Int) + 2)
  | 0, _ => rfl
  | j + 1, h => by
    unfold build
    have e1 : placedR [] (N j) (((xs.length - (j + 1) : Nat) : Int) + 2) = [rowAt xs (xs.length - (j + 1))] := by
      unfold placedR rowAt
      rw [← hN j (by omega), show xs.length - 1 - (xs.length - (j + 1)) = j by omega]; rfl
    rw [e1]
    have g1 : get (bsC xs m (xs.length - (j + 1))) (rowAt xs (xs.length - (j + 1))).2 ≠ none := by
      rw [get_bsC]
      unfold rowAt
      by_cases h0 : xs.length - (j + 1) = 0
      · rw [h0]; exact nofun
      · rw [if_neg (by simp only; omega), if_neg (by simp only; omega), if_pos (by simp only; omega)]; exact nofun
    have zb : (bsC xs m (xs.length - (j + 1))).length ≤ 2 ^ 20 := by unfold bsC; simp; omega
    have zc : (csC (xs.length - (j + 1))).length ≤ 2 ^ 20 := by unfold csC; simp; omega
    rw [if_pos ⟨zb, zc, by simp, by simp, by simp only [List.all_cons, List.all_nil, Bool.and_true]; exact Option.isSome_iff_ne_none.2 g1⟩]
    have g2 : get (csC (xs.length - (j + 1))) (rowAt xs (xs.length - (j + 1))).2 = some 0 := by
      show get (csC (xs.length - (j + 1))) (((xs.length - (j + 1) : Nat) : Int) + 2) = some 0
      rw [get_csC, if_neg (by omega), if_pos rfl]
    unfold holdAll holdAll
    rw [g2]
    dsimp only
    rw [show (rowAt xs (xs.length - (j + 1))).2 = ((xs.length - (j + 1) : Nat) : Int) + 2 from rfl, csC_succ, bsC_succ]
    have e2 : xs.length - (j + 1) + 1 = xs.length - j := by omega
    have e3 : ((xs.length - (j + 1) : Nat) : Int) + 2 + 1 = ((xs.length - j : Nat) : Int) + 2 := by omega
    rw [e2, e3]
    exact build_ok hN hz j (by omega)

/-- what the first put leaves -/
noncomputable def bsF (xs : List Str) (m : Int) : List (Int × Ct) := (2, .leaf m) :: (List.range xs.length).map fun (i : Nat) => ((i : Int) + 3, Ct.br [rowAt xs i])
noncomputable def csF (xs : List Str) : List (Int × Int) := ((List.range xs.length).map fun (i : Nat) => ((i : Int) + 2, (1 : Int))) ++ [((xs.length : Int) + 2, 1)]
theorem get_bsF (j : Int) : get (bsF xs m) j = if j = 2 then some (.leaf m) else if 3 ≤ j ∧ j < 3 + xs.length then some (.br [rowAt xs (j - 3).toNat]) else none := by
  unfold bsF
  rw [get_cons, get_range 3 (fun i => Ct.br [rowAt xs i])]
  by_cases h2 : j = 2
  · subst h2; rfl
  · rw [if_neg (fun e => h2 e.symm), if_neg h2]

theorem del_put {α : Type} (l : List (Int × α)) (i : Int) (a : α) : del (put l i a) i = del l i := by
  unfold put
  split
  · rename_i h
    clear h
    unfold del
    induction l with
    | nil => rfl
    | cons p l ih =>
      rw [List.map_cons, List.filter_cons, List.filter_cons, ih]
      by_cases e : p.1 = i
      · rw [if_pos e, if_neg (by simp [e]), if_neg (by simp [e])]
      · rw [if_neg e]
  · unfold del
    rw [List.filter_append]
    simp
theorem lgo_ok (hz : xs.length ≤ 8) : lgo 2 [1] (bsC xs m xs.length) (put (csC xs.length) ((xs.length : Int) + 2) (0 + 1)) 0 = some (bsF xs m, csF xs, 1) := by
  have db : del (bsC xs m xs.length) 1 = bsF xs m := by
    unfold del bsC bsF
    rw [List.cons_append, List.cons_append, List.nil_append, List.filter_cons, if_neg (by simp), List.filter_cons, if_pos (by simp), List.filter_eq_self.2]
    intro p hp
    obtain ⟨i, _, rfl⟩ := List.mem_map.1 hp
    exact decide_eq_true (by simp only; omega)
  have dc : ∀ a, del (put (put (csC xs.length) ((xs.length : Int) + 2) (0 + 1)) 1 a) 1 = csF xs := by
    intro a
    rw [del_put, put_csC]
    unfold del csF
    rw [List.cons_append, List.filter_cons, if_neg (by simp), List.filter_eq_self.2]
    · rfl
    · intro p hp
      rcases List.mem_append.1 hp with hp | hp
      · obtain ⟨i, _, rfl⟩ := List.mem_map.1 hp
        exact decide_eq_true (by simp only; omega)
      · rw [List.mem_singleton.1 hp]
        exact decide_eq_true (by simp only; omega)
  have zb : (bsC xs m xs.length).length ≤ 2 ^ 20 := by unfold bsC; simp; omega
  have zc : (put (csC xs.length) ((xs.length : Int) + 2) (0 + 1)).length ≤ 2 ^ 20 := by rw [put_csC]; simp; omega
  have g1 : get (bsC xs m xs.length) 1 = some (.br []) := by rw [get_bsC, if_pos rfl]
  have g2 : get (put (csC xs.length) ((xs.length : Int) + 2) (0 + 1)) 1 = some 1 := by rw [get_put, if_neg (by omega), get_csC, if_pos (by omega)]
  have zb2 : (bsF xs m).length ≤ 2 ^ 20 := by unfold bsF; simp; omega
  have zc2 : (csF xs).length ≤ 2 ^ 20 := by unfold csF; simp; omega
  unfold lgo
  rw [if_pos ⟨by simp, zb, zc⟩]
  rw [show ([1] : List Int).getLast? = some 1 from rfl]
  dsimp only
  rw [g1]
  dsimp only
  rw [g2]
  dsimp only
  rw [if_pos (by decide), if_pos (by simp [kids]), db, dc]
  unfold lgo
  rw [if_pos ⟨by simp [kids], zb2, zc2⟩]
  rfl

theorem rowAt_name {k : Nat} (h : k < xs.length) : rowAt xs (xs.length - 1 - k) = (xs.getD k "", ((xs.length - 1 - k : Nat) : Int) + 2) := by
  unfold rowAt
  rw [show xs.length - 1 - (xs.length - 1 - k) = k by omega]
/-- the box behind the first k names -/
theorem get_at {k : Nat} (h : k < xs.length) : get (bsF xs m) ((xs.length : Int) + 2 - k) = some (.br [(xs.getD k "", (xs.length : Int) + 1 - k)]) := by
  rw [get_bsF, if_neg (by omega), if_pos (by omega)]
  rw [show ((xs.length : Int) + 2 - k - 3).toNat = xs.length - 1 - k by omega, rowAt_name h]
  congr 4
  omega
theorem find_step {k : Nat} (h : k < xs.length) (t : List Str) : find (bsF xs m) ((xs.length : Int) + 2 - k) (xs.getD k "" :: t) = find (bsF xs m) ((xs.length : Int) + 2 - (k + 1 : Nat)) t := by
  rw [find, get_at h]
  dsimp only
  rw [show rowOf [(xs.getD k "", (xs.length : Int) + 1 - k)] (xs.getD k "") = some ((xs.length : Int) + 1 - k) by unfold rowOf; rw [List.find?_cons, decide_eq_true rfl]; rfl]
  dsimp only
  congr 1
  omega
theorem find_take : ∀ (j k : Nat) (t : List Str), k + j ≤ xs.length → find (bsF xs m) ((xs.length : Int) + 2 - k) ((xs.drop k).take j ++ t) = find (bsF xs m) ((xs.length : Int) + 2 - (k + j : Nat)) t
  | 0, k, t, _ => by simp
  | j + 1, k, t, h => by
    have hk : k < xs.length := by omega
    rw [List.drop_eq_getElem_cons hk, List.take_succ_cons, List.cons_append]
    have : xs[k] = xs.getD k "" := by simp [hk]
    rw [this, find_step hk, find_take j (k + 1) t (by omega), show k + 1 + j = k + (j + 1) by omega]
theorem find_pre {k : Nat} (h : k ≤ xs.length) (t : List Str) : find (bsF xs m) ((xs.length : Int) + 2) (xs.take k ++ t) = find (bsF xs m) ((xs.length : Int) + 2 - k) t := by
  have := find_take (xs := xs) (m := m) k 0 t (by omega)
  simpa using this
theorem find_k {k : Nat} (h : k ≤ xs.length) : find (bsF xs m) ((xs.length : Int) + 2) (xs.take k) = some (some ((xs.length : Int) + 2 - k)) := by
  have := find_pre (m := m) h []
  rw [List.append_nil] at this
  rw [this]; rfl
theorem way_k {k : Nat} (h : k < xs.length) : wayAt (bsF xs m) ((xs.length : Int) + 2) xs k = some [(xs.getD k "", (xs.length : Int) + 1 - k)] := by
  unfold wayAt
  rw [find_k (by omega)]
  dsimp only
  rw [get_at h]
theorem find_other {k : Nat} (h : k < xs.length) {y : Str} (hy : y ≠ xs.getD k "") : find (bsF xs m) ((xs.length : Int) + 2) (xs.take k ++ [y]) = some none := by
  rw [find_pre (by omega), find, get_at h]
  dsimp only
  rw [show rowOf [(xs.getD k "", (xs.length : Int) + 1 - k)] y = none by unfold rowOf; rw [List.find?_cons, decide_eq_false (fun e => hy e.symm)]; rfl]
theorem find_below {y : Str} : find (bsF xs m) ((xs.length : Int) + 2) (xs ++ [y]) = some none := by
  have := find_pre (xs := xs) (m := m) (k := xs.length) (Nat.le_refl _) [y]
  rw [List.take_length] at this
  rw [this, find, get_bsF, if_pos (by omega)]
theorem short_F (hz : xs.length ≤ 8) : Short (bsF xs m) := by
  intro i rows h
  rw [get_bsF] at h
  split at h
  · cases h
  · split at h
    · cases h; simp
    · cases h
end
end Mine.L4
end

section
open PySem PyProof.Rows
namespace Mine.L4
open Mine Mine.St

noncomputable def b__law_whole : List Sm := [.ret (.bop true [.isi (.loc "_law_seen") .int, .not (.isi (.loc "_law_seen") .bool)])]
noncomputable def b__law_cell_at : List Sm := [.ite (.cmp (.loc "_law_k") .Lt (.bf .len [.loc "_law_script"])) [.ret (.idx (.loc "_law_script") (.loc "_law_k"))] [], .ret (.int 0)]
noncomputable def b__law_name_by : List Sm := [.asg "_law_letters" (.str "abcdefghijklmnopqrstuvwxyz"), .ret (.bm .join (.str "") [.comp (.idx (.loc "_law_letters") (.bin .Mod (.bin .Add (.bin .FloorDiv (.loc "_law_cell") (.int 8)) (.bin .Mult (.loc "_law_k") (.bin .Add (.int 1) (.bin .Mod (.bin .FloorDiv (.loc "_law_cell") (.int 208)) (.int 25))))) (.int 26))) "_law_k" (.bf .range [.bin .Add (.int 1) (.bin .Mod (.loc "_law_cell") (.int 8))]) []])]
noncomputable def b__law_count : List Sm := [.ret (.bop true [.call (.glob "_law_whole") [.loc "_law_seen"], .cmp (.loc "_law_seen") .Eq (.loc "_law_due")])]
noncomputable def b__law_branch : List Sm := [.ite (.bop false [.not (.isi (.loc "_law_seen") .tuple), .cmp (.bf .len [.loc "_law_seen"]) .NotEq (.int 2), .not (.isi (.idx (.loc "_law_seen") (.int 0)) .str), .cmp (.idx (.loc "_law_seen") (.int 0)) .NotEq (.str "branch")]) [.ret (.bool false)] [], .asg "_law_rows" (.idx (.loc "_law_seen") (.int 1)), .ite (.bop false [.not (.isi (.loc "_law_rows") .list), .cmp (.bf .len [.loc "_law_rows"]) .NotEq (.int 1), .not (.isi (.idx (.loc "_law_rows") (.int 0)) .tuple), .cmp (.bf .len [.idx (.loc "_law_rows") (.int 0)]) .NotEq (.int 2)]) [.ret (.bool false)] [], .ret (.bop true [.isi (.idx (.idx (.loc "_law_rows") (.int 0)) (.int 0)) .str, .cmp (.idx (.idx (.loc "_law_rows") (.int 0)) (.int 0)) .Eq (.loc "_law_name"), .call (.glob "_law_count") [.idx (.idx (.loc "_law_rows") (.int 0)) (.int 1), .loc "_law_box"]])]
noncomputable def b__law_one_name : List Sm := [.ret (.bop true [.isi (.loc "_law_seen") .list, .cmp (.bf .len [.loc "_law_seen"]) .Eq (.int 1), .isi (.idx (.loc "_law_seen") (.int 0)) .str, .cmp (.idx (.loc "_law_seen") (.int 0)) .Eq (.loc "_law_name")])]
noncomputable def b__law_way : List Sm := [.asg "_law_size" (.bf .len [.loc "_law_path"]), .for_ "_law_k" (.bf .range [.loc "_law_size"]) [.ite (.not (.call (.glob "_law_branch") [.meth (.attr (.loc "_law_store") "pile") "content" [.bin .Sub (.bin .Add (.loc "_law_size") (.int 2)) (.loc "_law_k")], .idx (.loc "_law_path") (.loc "_law_k"), .bin .Sub (.bin .Add (.loc "_law_size") (.int 1)) (.loc "_law_k")])) [.ret (.bool false)] [], .ite (.bop false [.cmp (.meth (.loc "_law_store") "kind" [.none, .slice (.loc "_law_path") none (some (.loc "_law_k"))]) .NotEq (.str "branch"), .not (.call (.glob "_law_one_name") [.meth (.loc "_law_store") "names" [.none, .slice (.loc "_law_path") none (some (.loc "_law_k"))], .idx (.loc "_law_path") (.loc "_law_k")])]) [.ret (.bool false)] [], .ite (.cmp (.meth (.loc "_law_store") "kind" [.none, .bin .Add (.slice (.loc "_law_path") none (some (.loc "_law_k"))) (.list [.idx (.str "rq") (.bf .int [.cmp (.idx (.loc "_law_path") (.loc "_law_k")) .Eq (.str "r")])])]) .IsNot (.none)) [.ret (.bool false)] []], .asg "_law_leaf" (.meth (.attr (.loc "_law_store") "pile") "content" [.int 2]), .ite (.bop false [.not (.isi (.loc "_law_leaf") .tuple), .cmp (.bf .len [.loc "_law_leaf"]) .NotEq (.int 2), .cmp (.idx (.loc "_law_leaf") (.int 0)) .NotEq (.str "leaf"), .not (.call (.glob "_law_count") [.idx (.loc "_law_leaf") (.int 1), .loc "_law_number"])]) [.ret (.bool false)] [], .ite (.bop true [.cmp (.loc "_law_size") .Lt (.int 8), .cmp (.meth (.loc "_law_store") "kind" [.none, .bin .Add (.loc "_law_path") (.list [.str "a"])]) .IsNot (.none)]) [.ret (.bool false)] [], .ret (.bop true [.cmp (.meth (.loc "_law_store") "kind" [.none, .loc "_law_path"]) .Eq (.str "leaf"), .call (.glob "_law_count") [.meth (.loc "_law_store") "value" [.none, .loc "_law_path"], .loc "_law_number"]])]
noncomputable def b_law : List Sm := [.asg "_law_path" (.comp (.call (.glob "_law_name_by") [.call (.glob "_law_cell_at") [.loc "_law_script", .bin .Add (.int 3) (.loc "_law_k")]]) "_law_k" (.bf .range [.bin .Add (.int 1) (.bin .Mod (.call (.glob "_law_cell_at") [.loc "_law_script", .int 0]) (.int 8))]) []), .asg "_law_number" (.bin .Add (.bin .Sub (.bin .Mod (.call (.glob "_law_cell_at") [.loc "_law_script", .int 1]) (.bin .Sub (.bin .Mult (.int 2) (.bin .Pow (.int 10) (.int 30))) (.int 1))) (.bin .Pow (.int 10) (.int 30))) (.int 1)), .asg "_law_store" (.call (.glob "Store") []), .asg "_law_other" (.call (.glob "Store") []), .asg "_law_handed" (.bf .list [.loc "_law_path"]), .ite (.cmp (.bin .Mod (.call (.glob "_law_cell_at") [.loc "_law_script", .int 2]) (.int 2)) .Eq (.int 1)) [.asg "_law_handed" (.bf .tuple [.loc "_law_path"])] [], .ite (.bop false [.not (.call (.glob "_law_count") [.meth (.loc "_law_store") "top" [.none], .int 1]), .cmp (.meth (.loc "_law_store") "names" [.none, .list []]) .NotEq (.list []), .not (.call (.glob "_law_count") [.attr (.attr (.loc "_law_store") "pile") "made", .int 1])]) [.ret (.bool false)] [], .ite (.bop false [.not (.call (.glob "_law_count") [.meth (.loc "_law_store") "put" [.loc "_law_handed", .loc "_law_number"], .int 1]), .cmp (.bf .list [.loc "_law_handed"]) .NotEq (.loc "_law_path")]) [.ret (.bool false)] [], .for_ "_law_again" (.list [.loc "_law_number", .loc "_law_number"]) [.ite (.bop false [.not (.call (.glob "_law_way") [.loc "_law_store", .loc "_law_path", .loc "_law_number"]), .not (.call (.glob "_law_count") [.meth (.loc "_law_store") "top" [.none], .bin .Add (.bf .len [.loc "_law_path"]) (.int 2)])]) [.ret (.bool false)] [], .ite (.bop false [.not (.call (.glob "_law_count") [.meth (.loc "_law_store") "put" [.loc "_law_handed", .loc "_law_again"], .int 0]), .not (.call (.glob "_law_count") [.attr (.attr (.loc "_law_store") "pile") "made", .bin .Add (.bf .len [.loc "_law_path"]) (.int 2)])]) [.ret (.bool false)] []], .ite (.cmp (.meth (.attr (.loc "_law_store") "pile") "kept" []) .NotEq (.comp (.bin .Add (.loc "_law_k") (.int 2)) "_law_k" (.bf .range [.bin .Add (.bf .len [.loc "_law_path"]) (.int 1)]) [])) [.ret (.bool false)] [], .ret (.bop true [.cmp (.meth (.attr (.loc "_law_other") "pile") "kept" []) .Eq (.list [.int 1]), .cmp (.meth (.loc "_law_other") "names" [.none, .list []]) .Eq (.list []), .call (.glob "_law_count") [.attr (.attr (.loc "_law_other") "pile") "made", .int 1]])]
structure La where
  law_whole : Addr
  law_cell_at : Addr
  law_name_by : Addr
  law_count : Addr
  law_branch : Addr
  law_one_name : Addr
  law_way : Addr
  law : Addr
structure LF (G : Gx) (A : Ad) (B : La) : Prop extends EnvS G A where
  g__law_whole : G.glob "_law_whole" = some (.ref B.law_whole)
  i__law_whole : G.init B.law_whole = none
  g__law_cell_at : G.glob "_law_cell_at" = some (.ref B.law_cell_at)
  i__law_cell_at : G.init B.law_cell_at = none
  g__law_name_by : G.glob "_law_name_by" = some (.ref B.law_name_by)
  i__law_name_by : G.init B.law_name_by = none
  g__law_count : G.glob "_law_count" = some (.ref B.law_count)
  i__law_count : G.init B.law_count = none
  g__law_branch : G.glob "_law_branch" = some (.ref B.law_branch)
  i__law_branch : G.init B.law_branch = none
  g__law_one_name : G.glob "_law_one_name" = some (.ref B.law_one_name)
  i__law_one_name : G.init B.law_one_name = none
  g__law_way : G.glob "_law_way" = some (.ref B.law_way)
  i__law_way : G.init B.law_way = none

theorem LF.gg {g : Gx} {A : Ad} {B : La} (f : LF g A B) (tab : Tab) (n : Nat) : LF (GG g tab n) A B := by
  cases n <;> exact { f with }

noncomputable def whole (H : Hp) : Value → Option Bool
  | .none => some false
  | .bool _ => some false
  | .int _ _ => some true
  | .str _ _ => some false
  | .ref a => (match H a with
    | some (.list _) => some false
    | some (.tup _) => some false
    | some (.idict _) => some false
    | some (.sdict _) => some false
    | _ => none)
  | _ => none

theorem c_whole {G : Gx} {hm : Bool} {H : Hp} {v : Value} {b : Bool} (hg : whole H v = some b) {Q : QV} {X : XV} (h : Q (.bool b) H) : wpF G hm ["_law_seen"] b__law_whole [v] H Q X := by
  refine ⟨rfl, ?_⟩
  unfold whole at hg
  split at hg
  · cases hg
    conv => whnf
    exact ⟨rfl, h⟩
  · cases hg
    conv => whnf
    refine ⟨rfl, ?_⟩
    conv => whnf
    exact ⟨rfl, h⟩
  · cases hg
    conv => whnf
    refine ⟨rfl, ?_⟩
    conv => whnf
    exact ⟨rfl, h⟩
  · cases hg
    conv => whnf
    exact ⟨rfl, h⟩
  · split at hg
    all_goals first | (cases hg; done) | skip
    all_goals
      rename_i hx
      cases hg
      conv => whnf
      rw [hx]
      exact ⟨rfl, h⟩
  · cases hg

theorem c_cell {G : Gx} {hm : Bool} {H : Hp} {a : Addr} {ns : List Int} {k : Nat} {t : Tok} (hr : H a = some (.rlist (ns.map fun n => Value.int n 0))) {Q : QV} {X : XV} (h : Q (.int (ns.getD k 0) 0) H) : wpF G hm ["_law_script", "_law_k"] b__law_cell_at [.ref a, .int k t] H Q X := by
  refine ⟨rfl, ?_⟩
  conv => whnf
  refine ⟨.inl rfl, ?_⟩
  conv => whnf
  rw [hr]
  simp only [List.length_map, cmpV, truthV]
  by_cases hk : (k : Int) < (ns.length : Int)
  · rw [decide_eq_true hk]
    conv => whnf
    rw [hr]
    have hk' : k < ns.length := by omega
    have e : at? (ns.map fun n => Value.int n 0) (k : Int) = some (.int (ns.getD k 0) 0) := by
      simp [at?, List.getD, hk']
    simp only [e]
    exact h
  · rw [decide_eq_false hk]
    conv => whnf
    have : ns.getD k 0 = 0 := by simp [List.getD, List.getElem?_eq_none (show ns.length ≤ k by omega)]
    rw [this] at h
    exact h


section
variable {A : Ad} {B : La} {G : Gx} {H H' : Hp} {Q : QV} {X : XV}
theorem c_count (F : LF G A B) (hw : ∀ {H : Hp} {v : Value} {b : Bool}, whole H v = some b → ∀ {Q : QV} {X : XV}, Q (.bool b) H → G.fn B.law_whole false [v] H Q X) {i : Int} {t u : Tok} (h : Q (.bool true) H) : wpF G false ["_law_seen", "_law_due"] b__law_count [.int i t, .int i u] H Q X := by
  refine ⟨rfl, ?_⟩
  conv => whnf
  rw [F.g__law_whole]
  conv => whnf
  rw [F.i__law_whole]
  conv => whnf
  refine hw (b := true) rfl ?_
  conv => whnf
  rw [decide_eq_true rfl]
  conv => whnf
  exact h

theorem join_chars : ∀ cs : List Nat, (Str.join "" (cs.map chr1)).cps.toList = cs
  | [] => rfl
  | [c] => rfl
  | c :: d :: r => by
    have ih := join_chars (d :: r)
    show ((chr1 c ++ ("" : Str)) ++ Str.join "" ((d :: r).map chr1)).cps.toList = _
    show ((chr1 c).cps ++ ("" : Str).cps ++ (Str.join "" ((d :: r).map chr1)).cps).toList = _
    rw [Array.toList_append, ih]; rfl
theorem tjoin (cs : List Nat) : (Txt.join "" (cs.map chr1)).cps.toList = cs := by
  show (Builtin.Str.glued "" (cs.map chr1)).cps.toList = cs
  rw [StrLaws.glued_eq_join]; exact join_chars cs
theorem fold_len : ∀ (cs : List Nat) (a : Nat), (cs.map chr1).foldl (fun n x => n + x.length + ("" : Str).length) a = a + cs.length
  | [], a => rfl
  | c :: r, a => by
    rw [List.map_cons, List.foldl_cons, fold_len r]
    show a + 1 + 0 + r.length = _
    rw [List.length_cons]; omega
theorem join_ok {cs : List Nat} (h : cs.length ≤ 100) : JoinOk "" (cs.map chr1) = true := by
  unfold JoinOk
  rw [← Array.foldl_toList, fold_len]
  simp [Builtin.Str.tooLong, sizeLine]
  omega
theorem strs_chars : ∀ cs : List Nat, strsOf ((cs.map chr1).map fun x => Value.str x 0) = some (cs.map chr1)
  | [] => rfl
  | c :: r => by
    rw [List.map_cons, List.map_cons, strsOf, strs_chars r]; rfl
noncomputable def letterOf (c k : Int) : Nat := 97 + ((c / 8 + k * (1 + c / 208 % 25)) % 26).toNat
theorem let_at : ∀ k < 26, at? LET.cps.toList ((k : Nat) : Int) = some (97 + k) := by decide +kernel

theorem c_name_by {c : Int} {t : Tok} (q : ∀ x H', Kp [] H H' → Good x → Q (.str x 0) H') : wpF G false ["_law_cell"] b__law_name_by [.int c t] H Q X := by
  refine ⟨rfl, ?_⟩
  conv => whnf
  refine ⟨.inl rfl, ?_⟩
  conv => whnf
  have h8 : 0 ≤ c % 8 ∧ c % 8 < 8 := ⟨Int.emod_nonneg _ (by decide), Int.emod_lt_of_pos _ (by decide)⟩
  obtain ⟨n, hn⟩ := Int.eq_ofNat_of_zero_le (show 0 ≤ 1 + c % 8 by omega)
  refine ⟨by decide, ?_⟩
  conv => whnf
  rw [hn]
  refine ⟨.inr rfl, ?_⟩
  conv => whnf
  refine ⟨by omega, by omega, fun r hr => ?_⟩
  conv => whnf
  refine ⟨rfl, ?_⟩
  conv => whnf
  rw [Hp.upd_same]
  conv => whnf
  refine ⟨small_nat (by omega), ?_⟩
  refine ⟨by rw [rangeL_len]; simp [sizeLine]; omega, ?_⟩
  have k1 : Kp [] H (H.upd r (.range 0 (n : Nat) 1)) := kp_new hr _
  generalize H.upd r (.range 0 (n : Nat) 1) = H1 at *
  refine compG_map (f := fun v => match v with | .int i _ => .str (chr1 (letterOf c i)) 0 | v => v) trivial _ _ (fun v hv k' hk' => ?_) ?_
  · rw [rangeL_nat] at hv
    obtain ⟨j, hj, rfl⟩ := List.mem_map.1 hv
    have hj : j < n := List.mem_range.1 hj
    conv => whnf
    refine ⟨by decide, by decide, ?_⟩
    conv => whnf
    refine ⟨by decide, by decide, ?_⟩
    conv => whnf
    refine ⟨by decide, ?_⟩
    conv => whnf
    refine ⟨.inl (by omega), ?_⟩
    conv => whnf
    refine ⟨by decide, ?_⟩
    conv => whnf
    have hb : 0 ≤ (c / 8 + (j : Int) * (1 + c / 208 % 25)) % 26 ∧ (c / 8 + (j : Int) * (1 + c / 208 % 25)) % 26 < 26 := ⟨Int.emod_nonneg _ (by decide), Int.emod_lt_of_pos _ (by decide)⟩
    have he := let_at ((c / 8 + (j : Int) * (1 + c / 208 % 25)) % 26).toNat (by omega)
    rw [Int.toNat_of_nonneg hb.1] at he
    rw [show at? (Str.ofString "abcdefghijklmnopqrstuvwxyz").cps.toList ((c / 8 + (j : Int) * (1 + c / 208 % 25)) % 26) = _ from he]
    conv => whnf
    exact ⟨by decide +kernel, hk'⟩
  · intro b hb
    have ex : [] ++ (rangeL 0 (n : Int) 1).map (fun v => match v with | .int i _ => Value.str (chr1 (letterOf c i)) 0 | v => v) = (((List.range n).map fun (j : Nat) => letterOf c j).map chr1).map fun x => Value.str x 0 := by
      rw [rangeL_nat]; simp
    rw [ex] at *
    conv => whnf
    rw [Hp.upd_same]
    conv => whnf
    rw [strs_chars]
    conv => whnf
    refine ⟨join_ok (by simp; omega), ?_⟩
    conv => whnf
    refine q _ _ (k1.trans (kp_new hb _)) ⟨?_, ?_, ?_⟩
    · rw [tjoin]; simp; omega
    · rw [tjoin]; simp; omega
    · intro d hd
      rw [tjoin] at hd
      obtain ⟨j, _, rfl⟩ := List.mem_map.1 hd
      unfold letterOf
      have hb : 0 ≤ (c / 8 + (j : Int) * (1 + c / 208 % 25)) % 26 ∧ (c / 8 + (j : Int) * (1 + c / 208 % 25)) % 26 < 26 := ⟨Int.emod_nonneg _ (by decide), Int.emod_lt_of_pos _ (by decide)⟩
      omega
end
end Mine.L4
end

section
open PySem PySem.W PyProof.Rows PySem.Challenge
set_option maxHeartbeats 0
set_option maxRecDepth 1000000
namespace Mine.L4
section
/-- the text's statements -/
noncomputable def stA (i : Nat) : Stmt := pw_uf040010_04.main.body.getD i (.Pass default)
noncomputable def inA (i j : Nat) : Stmt := match stA i with
  | .ClassDef _ _ _ b _ _ _ _ _ _ _ => b.getD j (.Pass default)
  | s => s
noncomputable def fo (st : Stmt) (q : String) (m : Value) (c : Nat) : FuncData := match st with
  | .FunctionDef n a b _ _ _ sc _ _ _ => { name := n, qualname := q, params := a, body := .stmts b, scope := sc, globals := 3, closure := [], defaults := .none, kwdefaults := .none, pyModule := m, code := .ref c }
  | _ => default
noncomputable def en (P : Params) (x : String) (t : Nat) (v : Value) : DictEntry := { hash := PyData.keyHash P x, key := .str x t, val := v }
/-- what the top leaves -/
noncomputable def KK (P : Params) : Frag := [
  (2, { cls := Value.none, data := Data.dict #[] }),
  (3, { cls := Value.type "dict", data := Data.dict #[en P "__name__" 165 (Value.str (Str.ofString "law_uf040010_04") 658), en P "__doc__" 166 (Value.none), en P "__package__" 167 (Value.none), en P "__loader__" 168 (Value.builtin "__main__.__loader__#opaque"), en P "__spec__" 169 (Value.none), en P "__annotations__" 170 (Value.ref 6), en P "__builtins__" 171 (Value.ref 4), en P "__file__" 173 (Value.str (Str.ofString "/claim/cut.py") 172), en P "__cached__" 174 (Value.none), en P "_wall" 193 (Value.ref 21), en P "SnapError" 213 (Value.ref 31), en P "BadPath" 229 (Value.ref 44), en P "BadNumber" 245 (Value.ref 56), en P "Nothing" 261 (Value.ref 68), en P "LeafThere" 277 (Value.ref 80), en P "BranchThere" 293 (Value.ref 92), en P "NoShot" 309 (Value.ref 104), en P "NoBox" 325 (Value.ref 116), en P "LETTERS" 329 (Value.str (Str.ofString "abcdefghijklmnopqrstuvwxyz") 328), en P "MOST" 331 (Value.int 8 330), en P "is_name" 337 (Value.ref 123), en P "checked" 343 (Value.ref 128), en P "Pile" 446 (Value.ref 206), en P "box_of" 457 (Value.ref 217), en P "placed" 463 (Value.ref 222), en P "BOUND" 469 (Value.int 1000000000000000000000000000000 468), en P "need_way" 477 (Value.ref 229), en P "need_number" 484 (Value.ref 236), en P "Store" 657 (Value.ref 363), en P "_law_whole" 666 (Value.ref 374), en P "_law_cell_at" 674 (Value.ref 381), en P "_law_name_by" 680 (Value.ref 386), en P "_law_count" 688 (Value.ref 393), en P "_law_branch" 698 (Value.ref 400), en P "_law_one_name" 706 (Value.ref 407), en P "_law_way" 718 (Value.ref 414), en P "law" 724 (Value.ref 419)] 37 }),
  (15, { cls := Value.type "tuple", data := Data.seq #[] }),
  (17, { cls := Value.type "tuple", data := Data.seq #[Value.str (Str.ofString "k") 190] }),
  (18, { cls := Value.type "tuple", data := Data.seq #[] }),
  (20, { cls := Value.type "code", data := Data.fields #[Value.str (Str.ofString "_wall") 187, Value.str (Str.ofString "_wall") 188, Value.str (Str.ofString "/claim/cut.py") 189, Value.int 1 0, Value.int 1 0, Value.int 0 0, Value.int 0 0, Value.int 3 0, Value.ref 15, Value.bool true, Value.int 181 0, Value.ref 16, Value.none, Value.ref 17, Value.ref 18, Value.ref 19, Value.int 191 0, Value.int 1 0, Value.str (Str.ofString "/claim/cut.py") 192] }),
  (21, { cls := .type "function", data := .func (fo (stA 0) "_wall" (Value.str (Str.ofString "__main__") 164) 20) }),
  (22, { cls := Value.type "tuple", data := Data.seq #[Value.type "ValueError"] }),
  (29, { cls := Value.type "tuple", data := Data.seq #[] }),
  (30, { cls := Value.type "dict", data := Data.dict #[en P "__module__" 203 (Value.str (Str.ofString "snaptree.errors") 194), en P "__firstlineno__" 207 (Value.int 5 206), en P "__static_attributes__" 208 (Value.ref 29), en P "__weakref__" 210 (Value.ref 32), en P "__doc__" 211 (Value.none)] 3 }),
  (31, { cls := Value.type "type", data := Data.cls { name := Str.ofString "SnapError", bases := [Value.type "ValueError"], mro := [Value.ref 31, Value.type "ValueError", Value.type "Exception", Value.type "BaseException", Value.type "object"], ns := 30, qualname := Str.ofString "SnapError", subclasses := [Value.ref 44, Value.ref 56, Value.ref 68, Value.ref 80, Value.ref 92, Value.ref 104, Value.ref 116] }, slots := #[some (Value.ref 22), none, some (Value.str (Str.ofString "SnapError") 196), some (Value.str (Str.ofString "SnapError") 204), some (Value.builtin "ValueError.__new__"), some (Value.bool true)] }),
  (32, { cls := Value.type "getset_descriptor", data := Data.fields #[Value.str (Str.ofString "__weakref__") 209, Value.ref 31, Value.builtin "ExceptionGroup.__weakref__", Value.none] }),
  (35, { cls := Value.type "tuple", data := Data.seq #[Value.ref 31] }),
  (42, { cls := Value.type "tuple", data := Data.seq #[] }),
  (43, { cls := Value.type "dict", data := Data.dict #[en P "__module__" 221 (Value.str (Str.ofString "snaptree.errors") 194), en P "__firstlineno__" 225 (Value.int 7 224), en P "__static_attributes__" 226 (Value.ref 42), en P "__doc__" 227 (Value.none)] 2 }),
  (44, { cls := Value.type "type", data := Data.cls { name := Str.ofString "BadPath", bases := [Value.ref 31], mro := [Value.ref 44, Value.ref 31, Value.type "ValueError", Value.type "Exception", Value.type "BaseException", Value.type "object"], ns := 43, qualname := Str.ofString "BadPath" }, slots := #[some (Value.ref 35), none, some (Value.str (Str.ofString "BadPath") 214), some (Value.str (Str.ofString "BadPath") 222), some (Value.builtin "ValueError.__new__"), some (Value.bool true)] }),
  (47, { cls := Value.type "tuple", data := Data.seq #[Value.ref 31] }),
  (54, { cls := Value.type "tuple", data := Data.seq #[] }),
  (55, { cls := Value.type "dict", data := Data.dict #[en P "__module__" 237 (Value.str (Str.ofString "snaptree.errors") 194), en P "__firstlineno__" 241 (Value.int 9 240), en P "__static_attributes__" 242 (Value.ref 54), en P "__doc__" 243 (Value.none)] 2 }),
  (56, { cls := Value.type "type", data := Data.cls { name := Str.ofString "BadNumber", bases := [Value.ref 31], mro := [Value.ref 56, Value.ref 31, Value.type "ValueError", Value.type "Exception", Value.type "BaseException", Value.type "object"], ns := 55, qualname := Str.ofString "BadNumber" }, slots := #[some (Value.ref 47), none, some (Value.str (Str.ofString "BadNumber") 230), some (Value.str (Str.ofString "BadNumber") 238), some (Value.builtin "ValueError.__new__"), some (Value.bool true)] }),
  (59, { cls := Value.type "tuple", data := Data.seq #[Value.ref 31] }),
  (66, { cls := Value.type "tuple", data := Data.seq #[] }),
  (67, { cls := Value.type "dict", data := Data.dict #[en P "__module__" 253 (Value.str (Str.ofString "snaptree.errors") 194), en P "__firstlineno__" 257 (Value.int 11 256), en P "__static_attributes__" 258 (Value.ref 66), en P "__doc__" 259 (Value.none)] 2 }),
  (68, { cls := Value.type "type", data := Data.cls { name := Str.ofString "Nothing", bases := [Value.ref 31], mro := [Value.ref 68, Value.ref 31, Value.type "ValueError", Value.type "Exception", Value.type "BaseException", Value.type "object"], ns := 67, qualname := Str.ofString "Nothing" }, slots := #[some (Value.ref 59), none, some (Value.str (Str.ofString "Nothing") 246), some (Value.str (Str.ofString "Nothing") 254), some (Value.builtin "ValueError.__new__"), some (Value.bool true)] }),
  (71, { cls := Value.type "tuple", data := Data.seq #[Value.ref 31] }),
  (78, { cls := Value.type "tuple", data := Data.seq #[] }),
  (79, { cls := Value.type "dict", data := Data.dict #[en P "__module__" 269 (Value.str (Str.ofString "snaptree.errors") 194), en P "__firstlineno__" 273 (Value.int 13 272), en P "__static_attributes__" 274 (Value.ref 78), en P "__doc__" 275 (Value.none)] 2 }),
  (80, { cls := Value.type "type", data := Data.cls { name := Str.ofString "LeafThere", bases := [Value.ref 31], mro := [Value.ref 80, Value.ref 31, Value.type "ValueError", Value.type "Exception", Value.type "BaseException", Value.type "object"], ns := 79, qualname := Str.ofString "LeafThere" }, slots := #[some (Value.ref 71), none, some (Value.str (Str.ofString "LeafThere") 262), some (Value.str (Str.ofString "LeafThere") 270), some (Value.builtin "ValueError.__new__"), some (Value.bool true)] }),
  (83, { cls := Value.type "tuple", data := Data.seq #[Value.ref 31] }),
  (90, { cls := Value.type "tuple", data := Data.seq #[] }),
  (91, { cls := Value.type "dict", data := Data.dict #[en P "__module__" 285 (Value.str (Str.ofString "snaptree.errors") 194), en P "__firstlineno__" 289 (Value.int 15 288), en P "__static_attributes__" 290 (Value.ref 90), en P "__doc__" 291 (Value.none)] 2 }),
  (92, { cls := Value.type "type", data := Data.cls { name := Str.ofString "BranchThere", bases := [Value.ref 31], mro := [Value.ref 92, Value.ref 31, Value.type "ValueError", Value.type "Exception", Value.type "BaseException", Value.type "object"], ns := 91, qualname := Str.ofString "BranchThere" }, slots := #[some (Value.ref 83), none, some (Value.str (Str.ofString "BranchThere") 278), some (Value.str (Str.ofString "BranchThere") 286), some (Value.builtin "ValueError.__new__"), some (Value.bool true)] }),
  (95, { cls := Value.type "tuple", data := Data.seq #[Value.ref 31] }),
  (102, { cls := Value.type "tuple", data := Data.seq #[] }),
  (103, { cls := Value.type "dict", data := Data.dict #[en P "__module__" 301 (Value.str (Str.ofString "snaptree.errors") 194), en P "__firstlineno__" 305 (Value.int 17 304), en P "__static_attributes__" 306 (Value.ref 102), en P "__doc__" 307 (Value.none)] 2 }),
  (104, { cls := Value.type "type", data := Data.cls { name := Str.ofString "NoShot", bases := [Value.ref 31], mro := [Value.ref 104, Value.ref 31, Value.type "ValueError", Value.type "Exception", Value.type "BaseException", Value.type "object"], ns := 103, qualname := Str.ofString "NoShot" }, slots := #[some (Value.ref 95), none, some (Value.str (Str.ofString "NoShot") 294), some (Value.str (Str.ofString "NoShot") 302), some (Value.builtin "ValueError.__new__"), some (Value.bool true)] }),
  (107, { cls := Value.type "tuple", data := Data.seq #[Value.ref 31] }),
  (114, { cls := Value.type "tuple", data := Data.seq #[] }),
  (115, { cls := Value.type "dict", data := Data.dict #[en P "__module__" 317 (Value.str (Str.ofString "snaptree.errors") 194), en P "__firstlineno__" 321 (Value.int 19 320), en P "__static_attributes__" 322 (Value.ref 114), en P "__doc__" 323 (Value.none)] 2 }),
  (116, { cls := Value.type "type", data := Data.cls { name := Str.ofString "NoBox", bases := [Value.ref 31], mro := [Value.ref 116, Value.ref 31, Value.type "ValueError", Value.type "Exception", Value.type "BaseException", Value.type "object"], ns := 115, qualname := Str.ofString "NoBox" }, slots := #[some (Value.ref 107), none, some (Value.str (Str.ofString "NoBox") 310), some (Value.str (Str.ofString "NoBox") 318), some (Value.builtin "ValueError.__new__"), some (Value.bool true)] }),
  (119, { cls := Value.type "tuple", data := Data.seq #[] }),
  (122, { cls := Value.type "code", data := Data.fields #[Value.str (Str.ofString "is_name") 332, Value.str (Str.ofString "is_name") 333, Value.str (Str.ofString "/claim/cut.py") 334, Value.int 24 0, Value.int 1 0, Value.int 0 0, Value.int 0 0, Value.int 3 0, Value.ref 119, Value.bool true, Value.int 181 0, Value.ref 120, Value.none, Value.none, Value.none, Value.ref 121, Value.int 335 0, Value.int 24 0, Value.str (Str.ofString "/claim/cut.py") 336] }),
  (123, { cls := .type "function", data := .func (fo (stA 13) "is_name" (Value.str (Str.ofString "snaptree.paths") 326) 122) }),
  (124, { cls := Value.type "tuple", data := Data.seq #[] }),
  (127, { cls := Value.type "code", data := Data.fields #[Value.str (Str.ofString "checked") 338, Value.str (Str.ofString "checked") 339, Value.str (Str.ofString "/claim/cut.py") 340, Value.int 28 0, Value.int 1 0, Value.int 0 0, Value.int 0 0, Value.int 3 0, Value.ref 124, Value.bool true, Value.int 181 0, Value.ref 125, Value.none, Value.none, Value.none, Value.ref 126, Value.int 341 0, Value.int 28 0, Value.str (Str.ofString "/claim/cut.py") 342] }),
  (128, { cls := .type "function", data := .func (fo (stA 14) "checked" (Value.str (Str.ofString "snaptree.paths") 326) 127) }),
  (136, { cls := Value.type "tuple", data := Data.seq #[] }),
  (138, { cls := Value.type "tuple", data := Data.seq #[Value.str (Str.ofString "self") 361] }),
  (139, { cls := Value.type "tuple", data := Data.seq #[] }),
  (141, { cls := Value.type "code", data := Data.fields #[Value.str (Str.ofString "__init__") 358, Value.str (Str.ofString "Pile.__init__") 359, Value.str (Str.ofString "/claim/cut.py") 360, Value.int 37 0, Value.int 1 0, Value.int 0 0, Value.int 0 0, Value.int 3 0, Value.ref 136, Value.bool true, Value.int 181 0, Value.ref 137, Value.none, Value.ref 138, Value.ref 139, Value.ref 140, Value.int 362 0, Value.int 37 0, Value.str (Str.ofString "/claim/cut.py") 363] }),
  (142, { cls := .type "function", data := .func (fo (inA 16 0) "Pile.__init__" (Value.str (Str.ofString "snaptree.pile") 344) 141) }),
  (143, { cls := Value.type "tuple", data := Data.seq #[] }),
  (145, { cls := Value.type "tuple", data := Data.seq #[Value.str (Str.ofString "self") 368, Value.str (Str.ofString "box") 369] }),
  (146, { cls := Value.type "tuple", data := Data.seq #[] }),
  (148, { cls := Value.type "code", data := Data.fields #[Value.str (Str.ofString "need") 365, Value.str (Str.ofString "Pile.need") 366, Value.str (Str.ofString "/claim/cut.py") 367, Value.int 42 0, Value.int 2 0, Value.int 0 0, Value.int 0 0, Value.int 3 0, Value.ref 143, Value.bool true, Value.int 181 0, Value.ref 144, Value.none, Value.ref 145, Value.ref 146, Value.ref 147, Value.int 370 0, Value.int 42 0, Value.str (Str.ofString "/claim/cut.py") 371] }),
  (149, { cls := .type "function", data := .func (fo (inA 16 1) "Pile.need" (Value.str (Str.ofString "snaptree.pile") 344) 148) }),
  (150, { cls := Value.type "tuple", data := Data.seq #[] }),
  (152, { cls := Value.type "tuple", data := Data.seq #[Value.str (Str.ofString "self") 376, Value.str (Str.ofString "what") 377] }),
  (153, { cls := Value.type "tuple", data := Data.seq #[] }),
  (155, { cls := Value.type "code", data := Data.fields #[Value.str (Str.ofString "fresh") 373, Value.str (Str.ofString "Pile.fresh") 374, Value.str (Str.ofString "/claim/cut.py") 375, Value.int 47 0, Value.int 2 0, Value.int 0 0, Value.int 0 0, Value.int 3 0, Value.ref 150, Value.bool true, Value.int 181 0, Value.ref 151, Value.none, Value.ref 152, Value.ref 153, Value.ref 154, Value.int 378 0, Value.int 47 0, Value.str (Str.ofString "/claim/cut.py") 379] }),
  (156, { cls := .type "function", data := .func (fo (inA 16 2) "Pile.fresh" (Value.str (Str.ofString "snaptree.pile") 344) 155) }),
  (157, { cls := Value.type "tuple", data := Data.seq #[] }),
  (159, { cls := Value.type "tuple", data := Data.seq #[Value.str (Str.ofString "self") 384, Value.str (Str.ofString "number") 385] }),
  (160, { cls := Value.type "tuple", data := Data.seq #[] }),
  (162, { cls := Value.type "code", data := Data.fields #[Value.str (Str.ofString "leaf") 381, Value.str (Str.ofString "Pile.leaf") 382, Value.str (Str.ofString "/claim/cut.py") 383, Value.int 53 0, Value.int 2 0, Value.int 0 0, Value.int 0 0, Value.int 3 0, Value.ref 157, Value.bool true, Value.int 181 0, Value.ref 158, Value.none, Value.ref 159, Value.ref 160, Value.ref 161, Value.int 386 0, Value.int 53 0, Value.str (Str.ofString "/claim/cut.py") 387] }),
  (163, { cls := .type "function", data := .func (fo (inA 16 3) "Pile.leaf" (Value.str (Str.ofString "snaptree.pile") 344) 162) }),
  (164, { cls := Value.type "tuple", data := Data.seq #[] }),
  (166, { cls := Value.type "tuple", data := Data.seq #[Value.str (Str.ofString "self") 392, Value.str (Str.ofString "rows") 393, Value.str (Str.ofString "row") 394] }),
  (167, { cls := Value.type "tuple", data := Data.seq #[] }),
  (169, { cls := Value.type "code", data := Data.fields #[Value.str (Str.ofString "branch") 389, Value.str (Str.ofString "Pile.branch") 390, Value.str (Str.ofString "/claim/cut.py") 391, Value.int 56 0, Value.int 2 0, Value.int 0 0, Value.int 0 0, Value.int 3 0, Value.ref 164, Value.bool true, Value.int 181 0, Value.ref 165, Value.none, Value.ref 166, Value.ref 167, Value.ref 168, Value.int 395 0, Value.int 56 0, Value.str (Str.ofString "/claim/cut.py") 396] }),
  (170, { cls := .type "function", data := .func (fo (inA 16 4) "Pile.branch" (Value.str (Str.ofString "snaptree.pile") 344) 169) }),
  (171, { cls := Value.type "tuple", data := Data.seq #[] }),
  (173, { cls := Value.type "tuple", data := Data.seq #[Value.str (Str.ofString "self") 401, Value.str (Str.ofString "box") 402, Value.str (Str.ofString "what") 403] }),
  (174, { cls := Value.type "tuple", data := Data.seq #[] }),
  (176, { cls := Value.type "code", data := Data.fields #[Value.str (Str.ofString "content") 398, Value.str (Str.ofString "Pile.content") 399, Value.str (Str.ofString "/claim/cut.py") 400, Value.int 63 0, Value.int 2 0, Value.int 0 0, Value.int 0 0, Value.int 3 0, Value.ref 171, Value.bool true, Value.int 181 0, Value.ref 172, Value.none, Value.ref 173, Value.ref 174, Value.ref 175, Value.int 404 0, Value.int 63 0, Value.str (Str.ofString "/claim/cut.py") 405] }),
  (177, { cls := .type "function", data := .func (fo (inA 16 5) "Pile.content" (Value.str (Str.ofString "snaptree.pile") 344) 176) }),
  (178, { cls := Value.type "tuple", data := Data.seq #[] }),
  (180, { cls := Value.type "tuple", data := Data.seq #[Value.str (Str.ofString "self") 410, Value.str (Str.ofString "box") 411] }),
  (181, { cls := Value.type "tuple", data := Data.seq #[] }),
  (183, { cls := Value.type "code", data := Data.fields #[Value.str (Str.ofString "hold") 407, Value.str (Str.ofString "Pile.hold") 408, Value.str (Str.ofString "/claim/cut.py") 409, Value.int 69 0, Value.int 2 0, Value.int 0 0, Value.int 0 0, Value.int 3 0, Value.ref 178, Value.bool true, Value.int 181 0, Value.ref 179, Value.none, Value.ref 180, Value.ref 181, Value.ref 182, Value.int 412 0, Value.int 69 0, Value.str (Str.ofString "/claim/cut.py") 413] }),
  (184, { cls := .type "function", data := .func (fo (inA 16 6) "Pile.hold" (Value.str (Str.ofString "snaptree.pile") 344) 183) }),
  (185, { cls := Value.type "tuple", data := Data.seq #[] }),
  (187, { cls := Value.type "tuple", data := Data.seq #[Value.str (Str.ofString "self") 418, Value.str (Str.ofString "box") 419] }),
  (188, { cls := Value.type "tuple", data := Data.seq #[] }),
  (190, { cls := Value.type "code", data := Data.fields #[Value.str (Str.ofString "holders") 415, Value.str (Str.ofString "Pile.holders") 416, Value.str (Str.ofString "/claim/cut.py") 417, Value.int 73 0, Value.int 2 0, Value.int 0 0, Value.int 0 0, Value.int 3 0, Value.ref 185, Value.bool true, Value.int 181 0, Value.ref 186, Value.none, Value.ref 187, Value.ref 188, Value.ref 189, Value.int 420 0, Value.int 73 0, Value.str (Str.ofString "/claim/cut.py") 421] }),
  (191, { cls := .type "function", data := .func (fo (inA 16 7) "Pile.holders" (Value.str (Str.ofString "snaptree.pile") 344) 190) }),
  (192, { cls := Value.type "tuple", data := Data.seq #[] }),
  (195, { cls := Value.type "code", data := Data.fields #[Value.str (Str.ofString "let_go") 423, Value.str (Str.ofString "Pile.let_go") 424, Value.str (Str.ofString "/claim/cut.py") 425, Value.int 76 0, Value.int 2 0, Value.int 0 0, Value.int 0 0, Value.int 3 0, Value.ref 192, Value.bool true, Value.int 181 0, Value.ref 193, Value.none, Value.none, Value.none, Value.ref 194, Value.int 426 0, Value.int 76 0, Value.str (Str.ofString "/claim/cut.py") 427] }),
  (196, { cls := .type "function", data := .func (fo (inA 16 8) "Pile.let_go" (Value.str (Str.ofString "snaptree.pile") 344) 195) }),
  (197, { cls := Value.type "tuple", data := Data.seq #[] }),
  (199, { cls := Value.type "tuple", data := Data.seq #[Value.str (Str.ofString "self") 432] }),
  (200, { cls := Value.type "tuple", data := Data.seq #[] }),
  (202, { cls := Value.type "code", data := Data.fields #[Value.str (Str.ofString "kept") 429, Value.str (Str.ofString "Pile.kept") 430, Value.str (Str.ofString "/claim/cut.py") 431, Value.int 92 0, Value.int 1 0, Value.int 0 0, Value.int 0 0, Value.int 3 0, Value.ref 197, Value.bool true, Value.int 181 0, Value.ref 198, Value.none, Value.ref 199, Value.ref 200, Value.ref 201, Value.int 433 0, Value.int 92 0, Value.str (Str.ofString "/claim/cut.py") 434] }),
  (203, { cls := .type "function", data := .func (fo (inA 16 9) "Pile.kept" (Value.str (Str.ofString "snaptree.pile") 344) 202) }),
  (204, { cls := Value.type "tuple", data := Data.seq #[Value.str (Str.ofString "boxes") 436, Value.str (Str.ofString "counts") 437, Value.str (Str.ofString "made") 438] }),
  (205, { cls := Value.type "dict", data := Data.dict #[en P "__module__" 353 (Value.str (Str.ofString "snaptree.pile") 344), en P "__firstlineno__" 357 (Value.int 35 356), en P "__init__" 364 (Value.ref 142), en P "need" 372 (Value.ref 149), en P "fresh" 380 (Value.ref 156), en P "leaf" 388 (Value.ref 163), en P "branch" 397 (Value.ref 170), en P "content" 406 (Value.ref 177), en P "hold" 414 (Value.ref 184), en P "holders" 422 (Value.ref 191), en P "let_go" 428 (Value.ref 196), en P "kept" 435 (Value.ref 203), en P "__static_attributes__" 439 (Value.ref 204), en P "__dict__" 441 (Value.ref 207), en P "__weakref__" 443 (Value.ref 208), en P "__doc__" 444 (Value.none)] 4 }),
  (206, { cls := Value.type "type", data := Data.cls { name := Str.ofString "Pile", bases := [Value.type "object"], mro := [Value.ref 206, Value.type "object"], ns := 205, qualname := Str.ofString "Pile" }, slots := #[none, none, some (Value.str (Str.ofString "Pile") 346), some (Value.str (Str.ofString "Pile") 354), some (Value.builtin "object.__new__"), some (Value.bool true)] }),
  (207, { cls := Value.type "getset_descriptor", data := Data.fields #[Value.str (Str.ofString "__dict__") 440, Value.ref 206, Value.builtin "function.__dict__", Value.builtin "function.__dict__#set"] }),
  (208, { cls := Value.type "getset_descriptor", data := Data.fields #[Value.str (Str.ofString "__weakref__") 442, Value.ref 206, Value.builtin "ExceptionGroup.__weakref__", Value.none] }),
  (211, { cls := Value.type "tuple", data := Data.seq #[] }),
  (213, { cls := Value.type "tuple", data := Data.seq #[Value.str (Str.ofString "rows") 452, Value.str (Str.ofString "name") 453, Value.str (Str.ofString "row") 454] }),
  (214, { cls := Value.type "tuple", data := Data.seq #[] }),
  (216, { cls := Value.type "code", data := Data.fields #[Value.str (Str.ofString "box_of") 449, Value.str (Str.ofString "box_of") 450, Value.str (Str.ofString "/claim/cut.py") 451, Value.int 95 0, Value.int 2 0, Value.int 0 0, Value.int 0 0, Value.int 3 0, Value.ref 211, Value.bool true, Value.int 181 0, Value.ref 212, Value.none, Value.ref 213, Value.ref 214, Value.ref 215, Value.int 455 0, Value.int 95 0, Value.str (Str.ofString "/claim/cut.py") 456] }),
  (217, { cls := .type "function", data := .func (fo (stA 18) "box_of" (Value.str (Str.ofString "snaptree.rows") 447) 216) }),
  (218, { cls := Value.type "tuple", data := Data.seq #[] }),
  (221, { cls := Value.type "code", data := Data.fields #[Value.str (Str.ofString "placed") 458, Value.str (Str.ofString "placed") 459, Value.str (Str.ofString "/claim/cut.py") 460, Value.int 100 0, Value.int 3 0, Value.int 0 0, Value.int 0 0, Value.int 3 0, Value.ref 218, Value.bool true, Value.int 181 0, Value.ref 219, Value.none, Value.none, Value.none, Value.ref 220, Value.int 461 0, Value.int 100 0, Value.str (Str.ofString "/claim/cut.py") 462] }),
  (222, { cls := .type "function", data := .func (fo (stA 19) "placed" (Value.str (Str.ofString "snaptree.rows") 447) 221) }),
  (223, { cls := Value.type "tuple", data := Data.seq #[] }),
  (225, { cls := Value.type "tuple", data := Data.seq #[Value.str (Str.ofString "path") 473, Value.str (Str.ofString "names") 474] }),
  (226, { cls := Value.type "tuple", data := Data.seq #[] }),
  (228, { cls := Value.type "code", data := Data.fields #[Value.str (Str.ofString "need_way") 470, Value.str (Str.ofString "need_way") 471, Value.str (Str.ofString "/claim/cut.py") 472, Value.int 106 0, Value.int 1 0, Value.int 0 0, Value.int 0 0, Value.int 3 0, Value.ref 223, Value.bool true, Value.int 181 0, Value.ref 224, Value.none, Value.ref 225, Value.ref 226, Value.ref 227, Value.int 475 0, Value.int 106 0, Value.str (Str.ofString "/claim/cut.py") 476] }),
  (229, { cls := .type "function", data := .func (fo (stA 22) "need_way" (Value.str (Str.ofString "snaptree.store") 464) 228) }),
  (230, { cls := Value.type "tuple", data := Data.seq #[] }),
  (232, { cls := Value.type "tuple", data := Data.seq #[Value.str (Str.ofString "number") 481] }),
  (233, { cls := Value.type "tuple", data := Data.seq #[] }),
  (235, { cls := Value.type "code", data := Data.fields #[Value.str (Str.ofString "need_number") 478, Value.str (Str.ofString "need_number") 479, Value.str (Str.ofString "/claim/cut.py") 480, Value.int 111 0, Value.int 1 0, Value.int 0 0, Value.int 0 0, Value.int 3 0, Value.ref 230, Value.bool true, Value.int 181 0, Value.ref 231, Value.none, Value.ref 232, Value.ref 233, Value.ref 234, Value.int 482 0, Value.int 111 0, Value.str (Str.ofString "/claim/cut.py") 483] }),
  (236, { cls := .type "function", data := .func (fo (stA 23) "need_number" (Value.str (Str.ofString "snaptree.store") 464) 235) }),
  (244, { cls := Value.type "tuple", data := Data.seq #[] }),
  (246, { cls := Value.type "tuple", data := Data.seq #[Value.str (Str.ofString "self") 500] }),
  (247, { cls := Value.type "tuple", data := Data.seq #[] }),
  (249, { cls := Value.type "code", data := Data.fields #[Value.str (Str.ofString "__init__") 497, Value.str (Str.ofString "Store.__init__") 498, Value.str (Str.ofString "/claim/cut.py") 499, Value.int 116 0, Value.int 1 0, Value.int 0 0, Value.int 0 0, Value.int 3 0, Value.ref 244, Value.bool true, Value.int 181 0, Value.ref 245, Value.none, Value.ref 246, Value.ref 247, Value.ref 248, Value.int 501 0, Value.int 116 0, Value.str (Str.ofString "/claim/cut.py") 502] }),
  (250, { cls := .type "function", data := .func (fo (inA 24 0) "Store.__init__" (Value.str (Str.ofString "snaptree.store") 464) 249) }),
  (251, { cls := Value.type "tuple", data := Data.seq #[] }),
  (253, { cls := Value.type "tuple", data := Data.seq #[Value.str (Str.ofString "self") 507, Value.str (Str.ofString "view") 508] }),
  (254, { cls := Value.type "tuple", data := Data.seq #[] }),
  (256, { cls := Value.type "code", data := Data.fields #[Value.str (Str.ofString "top") 504, Value.str (Str.ofString "Store.top") 505, Value.str (Str.ofString "/claim/cut.py") 506, Value.int 123 0, Value.int 2 0, Value.int 0 0, Value.int 0 0, Value.int 3 0, Value.ref 251, Value.bool true, Value.int 181 0, Value.ref 252, Value.none, Value.ref 253, Value.ref 254, Value.ref 255, Value.int 509 0, Value.int 123 0, Value.str (Str.ofString "/claim/cut.py") 510] }),
  (257, { cls := .type "function", data := .func (fo (inA 24 1) "Store.top" (Value.str (Str.ofString "snaptree.store") 464) 256) }),
  (258, { cls := Value.type "tuple", data := Data.seq #[] }),
  (260, { cls := Value.type "tuple", data := Data.seq #[Value.str (Str.ofString "self") 515, Value.str (Str.ofString "box") 516, Value.str (Str.ofString "names") 517, Value.str (Str.ofString "name") 518, Value.str (Str.ofString "what") 519] }),
  (261, { cls := Value.type "tuple", data := Data.seq #[] }),
  (263, { cls := Value.type "code", data := Data.fields #[Value.str (Str.ofString "found") 512, Value.str (Str.ofString "Store.found") 513, Value.str (Str.ofString "/claim/cut.py") 514, Value.int 130 0, Value.int 3 0, Value.int 0 0, Value.int 0 0, Value.int 3 0, Value.ref 258, Value.bool true, Value.int 181 0, Value.ref 259, Value.none, Value.ref 260, Value.ref 261, Value.ref 262, Value.int 520 0, Value.int 130 0, Value.str (Str.ofString "/claim/cut.py") 521] }),
  (264, { cls := .type "function", data := .func (fo (inA 24 2) "Store.found" (Value.str (Str.ofString "snaptree.store") 464) 263) }),
  (265, { cls := Value.type "tuple", data := Data.seq #[] }),
  (267, { cls := Value.type "tuple", data := Data.seq #[Value.str (Str.ofString "self") 526, Value.str (Str.ofString "names") 527, Value.str (Str.ofString "found") 528, Value.str (Str.ofString "k") 529, Value.str (Str.ofString "box") 530] }),
  (268, { cls := Value.type "tuple", data := Data.seq #[] }),
  (270, { cls := Value.type "code", data := Data.fields #[Value.str (Str.ofString "ways") 523, Value.str (Str.ofString "Store.ways") 524, Value.str (Str.ofString "/claim/cut.py") 525, Value.int 140 0, Value.int 2 0, Value.int 0 0, Value.int 0 0, Value.int 3 0, Value.ref 265, Value.bool true, Value.int 181 0, Value.ref 266, Value.none, Value.ref 267, Value.ref 268, Value.ref 269, Value.int 531 0, Value.int 140 0, Value.str (Str.ofString "/claim/cut.py") 532] }),
  (271, { cls := .type "function", data := .func (fo (inA 24 3) "Store.ways" (Value.str (Str.ofString "snaptree.store") 464) 270) }),
  (272, { cls := Value.type "tuple", data := Data.seq #[] }),
  (274, { cls := Value.type "tuple", data := Data.seq #[Value.str (Str.ofString "self") 537, Value.str (Str.ofString "box") 538, Value.str (Str.ofString "old") 539] }),
  (275, { cls := Value.type "tuple", data := Data.seq #[] }),
  (277, { cls := Value.type "code", data := Data.fields #[Value.str (Str.ofString "changed") 534, Value.str (Str.ofString "Store.changed") 535, Value.str (Str.ofString "/claim/cut.py") 536, Value.int 150 0, Value.int 2 0, Value.int 0 0, Value.int 0 0, Value.int 3 0, Value.ref 272, Value.bool true, Value.int 181 0, Value.ref 273, Value.none, Value.ref 274, Value.ref 275, Value.ref 276, Value.int 540 0, Value.int 150 0, Value.str (Str.ofString "/claim/cut.py") 541] }),
  (278, { cls := .type "function", data := .func (fo (inA 24 4) "Store.changed" (Value.str (Str.ofString "snaptree.store") 464) 277) }),
  (279, { cls := Value.type "tuple", data := Data.seq #[] }),
  (281, { cls := Value.type "tuple", data := Data.seq #[Value.str (Str.ofString "self") 546, Value.str (Str.ofString "path") 547, Value.str (Str.ofString "number") 548, Value.str (Str.ofString "names") 549, Value.str (Str.ofString "k") 550, Value.str (Str.ofString "kind") 551, Value.str (Str.ofString "ways") 552, Value.str (Str.ofString "box") 553] }),
  (282, { cls := Value.type "tuple", data := Data.seq #[] }),
  (284, { cls := Value.type "code", data := Data.fields #[Value.str (Str.ofString "put") 543, Value.str (Str.ofString "Store.put") 544, Value.str (Str.ofString "/claim/cut.py") 545, Value.int 156 0, Value.int 3 0, Value.int 0 0, Value.int 0 0, Value.int 3 0, Value.ref 279, Value.bool true, Value.int 181 0, Value.ref 280, Value.none, Value.ref 281, Value.ref 282, Value.ref 283, Value.int 554 0, Value.int 156 0, Value.str (Str.ofString "/claim/cut.py") 555] }),
  (285, { cls := .type "function", data := .func (fo (inA 24 5) "Store.put" (Value.str (Str.ofString "snaptree.store") 464) 284) }),
  (286, { cls := Value.type "tuple", data := Data.seq #[] }),
  (288, { cls := Value.type "tuple", data := Data.seq #[Value.str (Str.ofString "self") 560, Value.str (Str.ofString "path") 561] }),
  (289, { cls := Value.type "tuple", data := Data.seq #[] }),
  (291, { cls := Value.type "code", data := Data.fields #[Value.str (Str.ofString "cut") 557, Value.str (Str.ofString "Store.cut") 558, Value.str (Str.ofString "/claim/cut.py") 559, Value.int 173 0, Value.int 2 0, Value.int 0 0, Value.int 0 0, Value.int 3 0, Value.ref 286, Value.bool true, Value.int 181 0, Value.ref 287, Value.none, Value.ref 288, Value.ref 289, Value.ref 290, Value.int 562 0, Value.int 173 0, Value.str (Str.ofString "/claim/cut.py") 563] }),
  (292, { cls := .type "function", data := .func (fo (inA 24 6) "Store.cut" (Value.str (Str.ofString "snaptree.store") 464) 291) }),
  (293, { cls := Value.type "tuple", data := Data.seq #[] }),
  (295, { cls := Value.type "tuple", data := Data.seq #[Value.str (Str.ofString "self") 568] }),
  (296, { cls := Value.type "tuple", data := Data.seq #[] }),
  (298, { cls := Value.type "code", data := Data.fields #[Value.str (Str.ofString "snap") 565, Value.str (Str.ofString "Store.snap") 566, Value.str (Str.ofString "/claim/cut.py") 567, Value.int 176 0, Value.int 1 0, Value.int 0 0, Value.int 0 0, Value.int 3 0, Value.ref 293, Value.bool true, Value.int 181 0, Value.ref 294, Value.none, Value.ref 295, Value.ref 296, Value.ref 297, Value.int 569 0, Value.int 176 0, Value.str (Str.ofString "/claim/cut.py") 570] }),
  (299, { cls := .type "function", data := .func (fo (inA 24 7) "Store.snap" (Value.str (Str.ofString "snaptree.store") 464) 298) }),
  (300, { cls := Value.type "tuple", data := Data.seq #[] }),
  (302, { cls := Value.type "tuple", data := Data.seq #[Value.str (Str.ofString "self") 575, Value.str (Str.ofString "number") 576] }),
  (303, { cls := Value.type "tuple", data := Data.seq #[] }),
  (305, { cls := Value.type "code", data := Data.fields #[Value.str (Str.ofString "shot") 572, Value.str (Str.ofString "Store.shot") 573, Value.str (Str.ofString "/claim/cut.py") 574, Value.int 179 0, Value.int 2 0, Value.int 0 0, Value.int 0 0, Value.int 3 0, Value.ref 300, Value.bool true, Value.int 181 0, Value.ref 301, Value.none, Value.ref 302, Value.ref 303, Value.ref 304, Value.int 577 0, Value.int 179 0, Value.str (Str.ofString "/claim/cut.py") 578] }),
  (306, { cls := .type "function", data := .func (fo (inA 24 8) "Store.shot" (Value.str (Str.ofString "snaptree.store") 464) 305) }),
  (307, { cls := Value.type "tuple", data := Data.seq #[] }),
  (309, { cls := Value.type "tuple", data := Data.seq #[Value.str (Str.ofString "self") 583, Value.str (Str.ofString "shot") 584] }),
  (310, { cls := Value.type "tuple", data := Data.seq #[] }),
  (312, { cls := Value.type "code", data := Data.fields #[Value.str (Str.ofString "drop") 580, Value.str (Str.ofString "Store.drop") 581, Value.str (Str.ofString "/claim/cut.py") 582, Value.int 182 0, Value.int 2 0, Value.int 0 0, Value.int 0 0, Value.int 3 0, Value.ref 307, Value.bool true, Value.int 181 0, Value.ref 308, Value.none, Value.ref 309, Value.ref 310, Value.ref 311, Value.int 585 0, Value.int 182 0, Value.str (Str.ofString "/claim/cut.py") 586] }),
  (313, { cls := .type "function", data := .func (fo (inA 24 9) "Store.drop" (Value.str (Str.ofString "snaptree.store") 464) 312) }),
  (314, { cls := Value.type "tuple", data := Data.seq #[] }),
  (316, { cls := Value.type "tuple", data := Data.seq #[Value.str (Str.ofString "self") 591, Value.str (Str.ofString "shot") 592] }),
  (317, { cls := Value.type "tuple", data := Data.seq #[] }),
  (319, { cls := Value.type "code", data := Data.fields #[Value.str (Str.ofString "back") 588, Value.str (Str.ofString "Store.back") 589, Value.str (Str.ofString "/claim/cut.py") 590, Value.int 185 0, Value.int 2 0, Value.int 0 0, Value.int 0 0, Value.int 3 0, Value.ref 314, Value.bool true, Value.int 181 0, Value.ref 315, Value.none, Value.ref 316, Value.ref 317, Value.ref 318, Value.int 593 0, Value.int 185 0, Value.str (Str.ofString "/claim/cut.py") 594] }),
  (320, { cls := .type "function", data := .func (fo (inA 24 10) "Store.back" (Value.str (Str.ofString "snaptree.store") 464) 319) }),
  (321, { cls := Value.type "tuple", data := Data.seq #[] }),
  (323, { cls := Value.type "tuple", data := Data.seq #[Value.str (Str.ofString "self") 599] }),
  (324, { cls := Value.type "tuple", data := Data.seq #[] }),
  (326, { cls := Value.type "code", data := Data.fields #[Value.str (Str.ofString "shot_numbers") 596, Value.str (Str.ofString "Store.shot_numbers") 597, Value.str (Str.ofString "/claim/cut.py") 598, Value.int 188 0, Value.int 1 0, Value.int 0 0, Value.int 0 0, Value.int 3 0, Value.ref 321, Value.bool true, Value.int 181 0, Value.ref 322, Value.none, Value.ref 323, Value.ref 324, Value.ref 325, Value.int 600 0, Value.int 188 0, Value.str (Str.ofString "/claim/cut.py") 601] }),
  (327, { cls := .type "function", data := .func (fo (inA 24 11) "Store.shot_numbers" (Value.str (Str.ofString "snaptree.store") 464) 326) }),
  (328, { cls := Value.type "tuple", data := Data.seq #[] }),
  (330, { cls := Value.type "tuple", data := Data.seq #[Value.str (Str.ofString "self") 606, Value.str (Str.ofString "view") 607, Value.str (Str.ofString "path") 608, Value.str (Str.ofString "box") 609] }),
  (331, { cls := Value.type "tuple", data := Data.seq #[] }),
  (333, { cls := Value.type "code", data := Data.fields #[Value.str (Str.ofString "kind") 603, Value.str (Str.ofString "Store.kind") 604, Value.str (Str.ofString "/claim/cut.py") 605, Value.int 191 0, Value.int 3 0, Value.int 0 0, Value.int 0 0, Value.int 3 0, Value.ref 328, Value.bool true, Value.int 181 0, Value.ref 329, Value.none, Value.ref 330, Value.ref 331, Value.ref 332, Value.int 610 0, Value.int 191 0, Value.str (Str.ofString "/claim/cut.py") 611] }),
  (334, { cls := .type "function", data := .func (fo (inA 24 12) "Store.kind" (Value.str (Str.ofString "snaptree.store") 464) 333) }),
  (335, { cls := Value.type "tuple", data := Data.seq #[] }),
  (337, { cls := Value.type "tuple", data := Data.seq #[Value.str (Str.ofString "self") 616, Value.str (Str.ofString "view") 617, Value.str (Str.ofString "path") 618, Value.str (Str.ofString "kind") 619] }),
  (338, { cls := Value.type "tuple", data := Data.seq #[] }),
  (340, { cls := Value.type "code", data := Data.fields #[Value.str (Str.ofString "value") 613, Value.str (Str.ofString "Store.value") 614, Value.str (Str.ofString "/claim/cut.py") 615, Value.int 197 0, Value.int 3 0, Value.int 0 0, Value.int 0 0, Value.int 3 0, Value.ref 335, Value.bool true, Value.int 181 0, Value.ref 336, Value.none, Value.ref 337, Value.ref 338, Value.ref 339, Value.int 620 0, Value.int 197 0, Value.str (Str.ofString "/claim/cut.py") 621] }),
  (341, { cls := .type "function", data := .func (fo (inA 24 13) "Store.value" (Value.str (Str.ofString "snaptree.store") 464) 340) }),
  (342, { cls := Value.type "tuple", data := Data.seq #[] }),
  (345, { cls := Value.type "code", data := Data.fields #[Value.str (Str.ofString "names") 623, Value.str (Str.ofString "Store.names") 624, Value.str (Str.ofString "/claim/cut.py") 625, Value.int 205 0, Value.int 3 0, Value.int 0 0, Value.int 0 0, Value.int 3 0, Value.ref 342, Value.bool true, Value.int 181 0, Value.ref 343, Value.none, Value.none, Value.none, Value.ref 344, Value.int 626 0, Value.int 205 0, Value.str (Str.ofString "/claim/cut.py") 627] }),
  (346, { cls := .type "function", data := .func (fo (inA 24 14) "Store.names" (Value.str (Str.ofString "snaptree.store") 464) 345) }),
  (347, { cls := Value.type "tuple", data := Data.seq #[] }),
  (349, { cls := Value.type "tuple", data := Data.seq #[Value.str (Str.ofString "self") 632, Value.str (Str.ofString "box") 633] }),
  (350, { cls := Value.type "tuple", data := Data.seq #[] }),
  (352, { cls := Value.type "code", data := Data.fields #[Value.str (Str.ofString "both") 629, Value.str (Str.ofString "Store.both") 630, Value.str (Str.ofString "/claim/cut.py") 631, Value.int 214 0, Value.int 2 0, Value.int 0 0, Value.int 0 0, Value.int 3 0, Value.ref 347, Value.bool true, Value.int 181 0, Value.ref 348, Value.none, Value.ref 349, Value.ref 350, Value.ref 351, Value.int 634 0, Value.int 214 0, Value.str (Str.ofString "/claim/cut.py") 635] }),
  (353, { cls := .type "function", data := .func (fo (inA 24 15) "Store.both" (Value.str (Str.ofString "snaptree.store") 464) 352) }),
  (354, { cls := Value.type "tuple", data := Data.seq #[] }),
  (356, { cls := Value.type "tuple", data := Data.seq #[Value.str (Str.ofString "self") 640, Value.str (Str.ofString "one") 641, Value.str (Str.ofString "other") 642] }),
  (357, { cls := Value.type "tuple", data := Data.seq #[] }),
  (359, { cls := Value.type "code", data := Data.fields #[Value.str (Str.ofString "changes") 637, Value.str (Str.ofString "Store.changes") 638, Value.str (Str.ofString "/claim/cut.py") 639, Value.int 217 0, Value.int 3 0, Value.int 0 0, Value.int 0 0, Value.int 3 0, Value.ref 354, Value.bool true, Value.int 181 0, Value.ref 355, Value.none, Value.ref 356, Value.ref 357, Value.ref 358, Value.int 643 0, Value.int 217 0, Value.str (Str.ofString "/claim/cut.py") 644] }),
  (360, { cls := .type "function", data := .func (fo (inA 24 16) "Store.changes" (Value.str (Str.ofString "snaptree.store") 464) 359) }),
  (361, { cls := Value.type "tuple", data := Data.seq #[Value.str (Str.ofString "last") 646, Value.str (Str.ofString "pile") 647, Value.str (Str.ofString "shots") 648, Value.str (Str.ofString "tree") 649] }),
  (362, { cls := Value.type "dict", data := Data.dict #[en P "__module__" 492 (Value.str (Str.ofString "snaptree.store") 464), en P "__firstlineno__" 496 (Value.int 114 495), en P "__init__" 503 (Value.ref 250), en P "top" 511 (Value.ref 257), en P "found" 522 (Value.ref 264), en P "ways" 533 (Value.ref 271), en P "changed" 542 (Value.ref 278), en P "put" 556 (Value.ref 285), en P "cut" 564 (Value.ref 292), en P "snap" 571 (Value.ref 299), en P "shot" 579 (Value.ref 306), en P "drop" 587 (Value.ref 313), en P "back" 595 (Value.ref 320), en P "shot_numbers" 602 (Value.ref 327), en P "kind" 612 (Value.ref 334), en P "value" 622 (Value.ref 341), en P "names" 628 (Value.ref 346), en P "both" 636 (Value.ref 353), en P "changes" 645 (Value.ref 360), en P "__static_attributes__" 650 (Value.ref 361), en P "__dict__" 652 (Value.ref 364), en P "__weakref__" 654 (Value.ref 365), en P "__doc__" 655 (Value.none)] 4 }),
  (363, { cls := Value.type "type", data := Data.cls { name := Str.ofString "Store", bases := [Value.type "object"], mro := [Value.ref 363, Value.type "object"], ns := 362, qualname := Str.ofString "Store" }, slots := #[none, none, some (Value.str (Str.ofString "Store") 485), some (Value.str (Str.ofString "Store") 493), some (Value.builtin "object.__new__"), some (Value.bool true)] }),
  (364, { cls := Value.type "getset_descriptor", data := Data.fields #[Value.str (Str.ofString "__dict__") 651, Value.ref 363, Value.builtin "function.__dict__", Value.builtin "function.__dict__#set"] }),
  (365, { cls := Value.type "getset_descriptor", data := Data.fields #[Value.str (Str.ofString "__weakref__") 653, Value.ref 363, Value.builtin "ExceptionGroup.__weakref__", Value.none] }),
  (368, { cls := Value.type "tuple", data := Data.seq #[] }),
  (370, { cls := Value.type "tuple", data := Data.seq #[Value.str (Str.ofString "_law_seen") 663] }),
  (371, { cls := Value.type "tuple", data := Data.seq #[] }),
  (373, { cls := Value.type "code", data := Data.fields #[Value.str (Str.ofString "_law_whole") 660, Value.str (Str.ofString "_law_whole") 661, Value.str (Str.ofString "/claim/cut.py") 662, Value.int 220 0, Value.int 1 0, Value.int 0 0, Value.int 0 0, Value.int 3 0, Value.ref 368, Value.bool true, Value.int 181 0, Value.ref 369, Value.none, Value.ref 370, Value.ref 371, Value.ref 372, Value.int 664 0, Value.int 220 0, Value.str (Str.ofString "/claim/cut.py") 665] }),
  (374, { cls := .type "function", data := .func (fo (stA 26) "_law_whole" (Value.str (Str.ofString "law_uf040010_04") 658) 373) }),
  (375, { cls := Value.type "tuple", data := Data.seq #[] }),
  (377, { cls := Value.type "tuple", data := Data.seq #[Value.str (Str.ofString "_law_script") 670, Value.str (Str.ofString "_law_k") 671] }),
  (378, { cls := Value.type "tuple", data := Data.seq #[] }),
  (380, { cls := Value.type "code", data := Data.fields #[Value.str (Str.ofString "_law_cell_at") 667, Value.str (Str.ofString "_law_cell_at") 668, Value.str (Str.ofString "/claim/cut.py") 669, Value.int 222 0, Value.int 2 0, Value.int 0 0, Value.int 0 0, Value.int 3 0, Value.ref 375, Value.bool true, Value.int 181 0, Value.ref 376, Value.none, Value.ref 377, Value.ref 378, Value.ref 379, Value.int 672 0, Value.int 222 0, Value.str (Str.ofString "/claim/cut.py") 673] }),
  (381, { cls := .type "function", data := .func (fo (stA 27) "_law_cell_at" (Value.str (Str.ofString "law_uf040010_04") 658) 380) }),
  (382, { cls := Value.type "tuple", data := Data.seq #[] }),
  (385, { cls := Value.type "code", data := Data.fields #[Value.str (Str.ofString "_law_name_by") 675, Value.str (Str.ofString "_law_name_by") 676, Value.str (Str.ofString "/claim/cut.py") 677, Value.int 226 0, Value.int 1 0, Value.int 0 0, Value.int 0 0, Value.int 3 0, Value.ref 382, Value.bool true, Value.int 181 0, Value.ref 383, Value.none, Value.none, Value.none, Value.ref 384, Value.int 678 0, Value.int 226 0, Value.str (Str.ofString "/claim/cut.py") 679] }),
  (386, { cls := .type "function", data := .func (fo (stA 28) "_law_name_by" (Value.str (Str.ofString "law_uf040010_04") 658) 385) }),
  (387, { cls := Value.type "tuple", data := Data.seq #[] }),
  (389, { cls := Value.type "tuple", data := Data.seq #[Value.str (Str.ofString "_law_seen") 684, Value.str (Str.ofString "_law_due") 685] }),
  (390, { cls := Value.type "tuple", data := Data.seq #[] }),
  (392, { cls := Value.type "code", data := Data.fields #[Value.str (Str.ofString "_law_count") 681, Value.str (Str.ofString "_law_count") 682, Value.str (Str.ofString "/claim/cut.py") 683, Value.int 229 0, Value.int 2 0, Value.int 0 0, Value.int 0 0, Value.int 3 0, Value.ref 387, Value.bool true, Value.int 181 0, Value.ref 388, Value.none, Value.ref 389, Value.ref 390, Value.ref 391, Value.int 686 0, Value.int 229 0, Value.str (Str.ofString "/claim/cut.py") 687] }),
  (393, { cls := .type "function", data := .func (fo (stA 29) "_law_count" (Value.str (Str.ofString "law_uf040010_04") 658) 392) }),
  (394, { cls := Value.type "tuple", data := Data.seq #[] }),
  (396, { cls := Value.type "tuple", data := Data.seq #[Value.str (Str.ofString "_law_seen") 692, Value.str (Str.ofString "_law_name") 693, Value.str (Str.ofString "_law_box") 694, Value.str (Str.ofString "_law_rows") 695] }),
  (397, { cls := Value.type "tuple", data := Data.seq #[] }),
  (399, { cls := Value.type "code", data := Data.fields #[Value.str (Str.ofString "_law_branch") 689, Value.str (Str.ofString "_law_branch") 690, Value.str (Str.ofString "/claim/cut.py") 691, Value.int 231 0, Value.int 3 0, Value.int 0 0, Value.int 0 0, Value.int 3 0, Value.ref 394, Value.bool true, Value.int 181 0, Value.ref 395, Value.none, Value.ref 396, Value.ref 397, Value.ref 398, Value.int 696 0, Value.int 231 0, Value.str (Str.ofString "/claim/cut.py") 697] }),
  (400, { cls := .type "function", data := .func (fo (stA 30) "_law_branch" (Value.str (Str.ofString "law_uf040010_04") 658) 399) }),
  (401, { cls := Value.type "tuple", data := Data.seq #[] }),
  (403, { cls := Value.type "tuple", data := Data.seq #[Value.str (Str.ofString "_law_seen") 702, Value.str (Str.ofString "_law_name") 703] }),
  (404, { cls := Value.type "tuple", data := Data.seq #[] }),
  (406, { cls := Value.type "code", data := Data.fields #[Value.str (Str.ofString "_law_one_name") 699, Value.str (Str.ofString "_law_one_name") 700, Value.str (Str.ofString "/claim/cut.py") 701, Value.int 238 0, Value.int 2 0, Value.int 0 0, Value.int 0 0, Value.int 3 0, Value.ref 401, Value.bool true, Value.int 181 0, Value.ref 402, Value.none, Value.ref 403, Value.ref 404, Value.ref 405, Value.int 704 0, Value.int 238 0, Value.str (Str.ofString "/claim/cut.py") 705] }),
  (407, { cls := .type "function", data := .func (fo (stA 31) "_law_one_name" (Value.str (Str.ofString "law_uf040010_04") 658) 406) }),
  (408, { cls := Value.type "tuple", data := Data.seq #[] }),
  (410, { cls := Value.type "tuple", data := Data.seq #[Value.str (Str.ofString "_law_store") 710, Value.str (Str.ofString "_law_path") 711, Value.str (Str.ofString "_law_number") 712, Value.str (Str.ofString "_law_size") 713, Value.str (Str.ofString "_law_k") 714, Value.str (Str.ofString "_law_leaf") 715] }),
  (411, { cls := Value.type "tuple", data := Data.seq #[] }),
  (413, { cls := Value.type "code", data := Data.fields #[Value.str (Str.ofString "_law_way") 707, Value.str (Str.ofString "_law_way") 708, Value.str (Str.ofString "/claim/cut.py") 709, Value.int 240 0, Value.int 3 0, Value.int 0 0, Value.int 0 0, Value.int 3 0, Value.ref 408, Value.bool true, Value.int 181 0, Value.ref 409, Value.none, Value.ref 410, Value.ref 411, Value.ref 412, Value.int 716 0, Value.int 240 0, Value.str (Str.ofString "/claim/cut.py") 717] }),
  (414, { cls := .type "function", data := .func (fo (stA 32) "_law_way" (Value.str (Str.ofString "law_uf040010_04") 658) 413) }),
  (415, { cls := Value.type "tuple", data := Data.seq #[] }),
  (418, { cls := Value.type "code", data := Data.fields #[Value.str (Str.ofString "law") 719, Value.str (Str.ofString "law") 720, Value.str (Str.ofString "/claim/cut.py") 721, Value.int 255 0, Value.int 1 0, Value.int 0 0, Value.int 0 0, Value.int 3 0, Value.ref 415, Value.bool true, Value.int 181 0, Value.ref 416, Value.none, Value.none, Value.none, Value.ref 417, Value.int 722 0, Value.int 255 0, Value.str (Str.ofString "/claim/cut.py") 723] }),
  (419, { cls := .type "function", data := .func (fo (stA 33) "law" (Value.str (Str.ofString "law_uf040010_04") 658) 418) })]
noncomputable def asK : List Nat := [2, 3, 15, 17, 18, 20, 21, 22, 29, 30, 31, 32, 35, 42, 43, 44, 47, 54, 55, 56, 59, 66, 67, 68, 71, 78, 79, 80, 83, 90, 91, 92, 95, 102, 103, 104, 107, 114, 115, 116, 119, 122, 123, 124, 127, 128, 136, 138, 139, 141, 142, 143, 145, 146, 148, 149, 150, 152, 153, 155, 156, 157, 159, 160, 162, 163, 164, 166, 167, 169, 170, 171, 173, 174, 176, 177, 178, 180, 181, 183, 184, 185, 187, 188, 190, 191, 192, 195, 196, 197, 199, 200, 202, 203, 204, 205, 206, 207, 208, 211, 213, 214, 216, 217, 218, 221, 222, 223, 225, 226, 228, 229, 230, 232, 233, 235, 236, 244, 246, 247, 249, 250, 251, 253, 254, 256, 257, 258, 260, 261, 263, 264, 265, 267, 268, 270, 271, 272, 274, 275, 277, 278, 279, 281, 282, 284, 285, 286, 288, 289, 291, 292, 293, 295, 296, 298, 299, 300, 302, 303, 305, 306, 307, 309, 310, 312, 313, 314, 316, 317, 319, 320, 321, 323, 324, 326, 327, 328, 330, 331, 333, 334, 335, 337, 338, 340, 341, 342, 345, 346, 347, 349, 350, 352, 353, 354, 356, 357, 359, 360, 361, 362, 363, 364, 365, 368, 370, 371, 373, 374, 375, 377, 378, 380, 381, 382, 385, 386, 387, 389, 390, 392, 393, 394, 396, 397, 399, 400, 401, 403, 404, 406, 407, 408, 410, 411, 413, 414, 415, 418, 419]
noncomputable def kept : Stmt → Bool
  | .Assign [.Name x _] _ _ => x != "__name__"
  | _ => true
noncomputable def view : Program := { pw_uf040010_04 with main := { pw_uf040010_04.main with body := pw_uf040010_04.main.body.filter kept } }
noncomputable def lawD : DefRec := match (stA 33) with
  | .FunctionDef n a b _ _ _ sc _ _ p => ⟨n, a, b, sc, p⟩
  | _ => ⟨"law", default, [], default, default⟩
noncomputable abbrev hook : Hook := kHook KK asK (fun _ => by kernel_rfl)
theorem left : LeftO rw_uf040010_04.row.prog view ["BOUND"] (fun s => xlAt view [("BOUND", .int 1000000000000000000000000000000)] s && recOk (RowW.records rw_uf040010_04.row.toRowW) s) hook.obs hook.val 7034 := left_of (by
  intro w
  kernel_rfl)
theorem said : rw_uf040010_04.wellSaid = true := by kernel_rfl
end
end Mine.L4
end

section
open PySem PyProof.Rows PySem.Calls
set_option maxHeartbeats 4000000
set_option linter.unusedVariables false
namespace Mine.L4
open Mine
noncomputable abbrev fd__wall : FuncData := (fo (stA 0) "_wall" (Value.str (Str.ofString "__main__") 164) 20)
noncomputable abbrev fd_is_name : FuncData := (fo (stA 13) "is_name" (Value.str (Str.ofString "snaptree.paths") 326) 122)
noncomputable abbrev fd_checked : FuncData := (fo (stA 14) "checked" (Value.str (Str.ofString "snaptree.paths") 326) 127)
noncomputable abbrev fd_Pile___init__ : FuncData := (fo (inA 16 0) "Pile.__init__" (Value.str (Str.ofString "snaptree.pile") 344) 141)
noncomputable abbrev fd_Pile_need : FuncData := (fo (inA 16 1) "Pile.need" (Value.str (Str.ofString "snaptree.pile") 344) 148)
noncomputable abbrev fd_Pile_fresh : FuncData := (fo (inA 16 2) "Pile.fresh" (Value.str (Str.ofString "snaptree.pile") 344) 155)
noncomputable abbrev fd_Pile_leaf : FuncData := (fo (inA 16 3) "Pile.leaf" (Value.str (Str.ofString "snaptree.pile") 344) 162)
noncomputable abbrev fd_Pile_branch : FuncData := (fo (inA 16 4) "Pile.branch" (Value.str (Str.ofString "snaptree.pile") 344) 169)
noncomputable abbrev fd_Pile_content : FuncData := (fo (inA 16 5) "Pile.content" (Value.str (Str.ofString "snaptree.pile") 344) 176)
noncomputable abbrev fd_Pile_hold : FuncData := (fo (inA 16 6) "Pile.hold" (Value.str (Str.ofString "snaptree.pile") 344) 183)
noncomputable abbrev fd_Pile_holders : FuncData := (fo (inA 16 7) "Pile.holders" (Value.str (Str.ofString "snaptree.pile") 344) 190)
noncomputable abbrev fd_Pile_let_go : FuncData := (fo (inA 16 8) "Pile.let_go" (Value.str (Str.ofString "snaptree.pile") 344) 195)
noncomputable abbrev fd_Pile_kept : FuncData := (fo (inA 16 9) "Pile.kept" (Value.str (Str.ofString "snaptree.pile") 344) 202)
noncomputable abbrev fd_box_of : FuncData := (fo (stA 18) "box_of" (Value.str (Str.ofString "snaptree.rows") 447) 216)
noncomputable abbrev fd_placed : FuncData := (fo (stA 19) "placed" (Value.str (Str.ofString "snaptree.rows") 447) 221)
noncomputable abbrev fd_need_way : FuncData := (fo (stA 22) "need_way" (Value.str (Str.ofString "snaptree.store") 464) 228)
noncomputable abbrev fd_need_number : FuncData := (fo (stA 23) "need_number" (Value.str (Str.ofString "snaptree.store") 464) 235)
noncomputable abbrev fd_Store___init__ : FuncData := (fo (inA 24 0) "Store.__init__" (Value.str (Str.ofString "snaptree.store") 464) 249)
noncomputable abbrev fd_Store_top : FuncData := (fo (inA 24 1) "Store.top" (Value.str (Str.ofString "snaptree.store") 464) 256)
noncomputable abbrev fd_Store_found : FuncData := (fo (inA 24 2) "Store.found" (Value.str (Str.ofString "snaptree.store") 464) 263)
noncomputable abbrev fd_Store_ways : FuncData := (fo (inA 24 3) "Store.ways" (Value.str (Str.ofString "snaptree.store") 464) 270)
noncomputable abbrev fd_Store_changed : FuncData := (fo (inA 24 4) "Store.changed" (Value.str (Str.ofString "snaptree.store") 464) 277)
noncomputable abbrev fd_Store_put : FuncData := (fo (inA 24 5) "Store.put" (Value.str (Str.ofString "snaptree.store") 464) 284)
noncomputable abbrev fd_Store_cut : FuncData := (fo (inA 24 6) "Store.cut" (Value.str (Str.ofString "snaptree.store") 464) 291)
noncomputable abbrev fd_Store_snap : FuncData := (fo (inA 24 7) "Store.snap" (Value.str (Str.ofString "snaptree.store") 464) 298)
noncomputable abbrev fd_Store_shot : FuncData := (fo (inA 24 8) "Store.shot" (Value.str (Str.ofString "snaptree.store") 464) 305)
noncomputable abbrev fd_Store_drop : FuncData := (fo (inA 24 9) "Store.drop" (Value.str (Str.ofString "snaptree.store") 464) 312)
noncomputable abbrev fd_Store_back : FuncData := (fo (inA 24 10) "Store.back" (Value.str (Str.ofString "snaptree.store") 464) 319)
noncomputable abbrev fd_Store_shot_numbers : FuncData := (fo (inA 24 11) "Store.shot_numbers" (Value.str (Str.ofString "snaptree.store") 464) 326)
noncomputable abbrev fd_Store_kind : FuncData := (fo (inA 24 12) "Store.kind" (Value.str (Str.ofString "snaptree.store") 464) 333)
noncomputable abbrev fd_Store_value : FuncData := (fo (inA 24 13) "Store.value" (Value.str (Str.ofString "snaptree.store") 464) 340)
noncomputable abbrev fd_Store_names : FuncData := (fo (inA 24 14) "Store.names" (Value.str (Str.ofString "snaptree.store") 464) 345)
noncomputable abbrev fd_Store_both : FuncData := (fo (inA 24 15) "Store.both" (Value.str (Str.ofString "snaptree.store") 464) 352)
noncomputable abbrev fd_Store_changes : FuncData := (fo (inA 24 16) "Store.changes" (Value.str (Str.ofString "snaptree.store") 464) 359)
noncomputable abbrev fd__law_whole : FuncData := (fo (stA 26) "_law_whole" (Value.str (Str.ofString "law_uf040010_04") 658) 373)
noncomputable abbrev fd__law_cell_at : FuncData := (fo (stA 27) "_law_cell_at" (Value.str (Str.ofString "law_uf040010_04") 658) 380)
noncomputable abbrev fd__law_name_by : FuncData := (fo (stA 28) "_law_name_by" (Value.str (Str.ofString "law_uf040010_04") 658) 385)
noncomputable abbrev fd__law_count : FuncData := (fo (stA 29) "_law_count" (Value.str (Str.ofString "law_uf040010_04") 658) 392)
noncomputable abbrev fd__law_branch : FuncData := (fo (stA 30) "_law_branch" (Value.str (Str.ofString "law_uf040010_04") 658) 399)
noncomputable abbrev fd__law_one_name : FuncData := (fo (stA 31) "_law_one_name" (Value.str (Str.ofString "law_uf040010_04") 658) 406)
noncomputable abbrev fd__law_way : FuncData := (fo (stA 32) "_law_way" (Value.str (Str.ofString "law_uf040010_04") 658) 413)
noncomputable abbrev fd_law : FuncData := (fo (stA 33) "law" (Value.str (Str.ofString "law_uf040010_04") 658) 418)
noncomputable def b__wall : List Sm := [.while_ (.bool true) [.pass]]
theorem d__wall {P : Pm} {G : Gx} {n : Nat} (Y : PmOk P) (B : BltOk P) (GO : GxOk P G) (FN : SndFn P G n) (hm : Bool) : SS P G n hm (scOf (stA 0)) (bodyOf (stA 0)) b__wall := (ss_cons (s1_while (st_of_se se_bool rfl) (ss_cons s1_pass ss_nil)) ss_nil)
theorem at__wall {P : Pm} (Y : PmOk P) (B : BltOk P) (hK : P.K = KK P.w.params) : ∃ sc body, FnAt P 21 ["k"] sc body ∧ ∀ {G : Gx} {n : Nat}, GxOk P G → SndFn P G n → ∀ hm, SS P G n hm sc body b__wall :=
  ⟨scOf (stA 0), bodyOf (stA 0), fn_at (o := { cls := .type "function", data := .func fd__wall }) (fd := fd__wall) Y (by rw [hK]; kernel_rfl) rfl (by rw [hK]; kernel_rfl) (by kernel_rfl) rfl rfl rfl (fun vals h => by obtain ⟨a, rfl⟩ := len1 h; rfl) (by kernel_rfl) (by rw [hK]; kernel_rfl), fun GO FN hm => d__wall Y B GO FN hm⟩
theorem d_is_name {P : Pm} {G : Gx} {n : Nat} (Y : PmOk P) (B : BltOk P) (GO : GxOk P G) (FN : SndFn P G n) (hm : Bool) : SS P G n hm (scOf (stA 13)) (bodyOf (stA 13)) St.b_is_name := (ss_cons (s1_if (st_bop (sts_more (st_not (st_of_se (se_isi Y B GO (by kernel_rfl) (by kernel_rfl) (by kernel_rfl) (by kernel_rfl) (se_loc (by kernel_rfl))) rfl)) (sts_one (st_not (st_cmp2 Y se_int (se_bf Y B (k := 1) (by kernel_rfl) (by kernel_rfl) (by kernel_rfl) (ses_cons (by kernel_rfl) (se_loc (by kernel_rfl)) ses_nil)) (se_glob Y GO (by kernel_rfl)) (by kernel_rfl)))))) (ss_cons (s1_ret se_bool) ss_nil) ss_nil) (ss_cons (s1_ret (se_bf Y B (k := 1) (by kernel_rfl) (by kernel_rfl) (by kernel_rfl) (ses_cons (by kernel_rfl) (se_comp (by kernel_rfl) (by kernel_rfl) (se_loc (by kernel_rfl)) (se_cmp Y (se_loc (by kernel_rfl)) (se_glob Y GO (by kernel_rfl)) (by kernel_rfl)) STall.nil) ses_nil))) ss_nil))
theorem at_is_name {P : Pm} (Y : PmOk P) (B : BltOk P) (hK : P.K = KK P.w.params) : ∃ sc body, FnAt P 123 ["thing"] sc body ∧ ∀ {G : Gx} {n : Nat}, GxOk P G → SndFn P G n → ∀ hm, SS P G n hm sc body St.b_is_name :=
  ⟨scOf (stA 13), bodyOf (stA 13), fn_at (o := { cls := .type "function", data := .func fd_is_name }) (fd := fd_is_name) Y (by rw [hK]; kernel_rfl) rfl (by rw [hK]; kernel_rfl) (by kernel_rfl) rfl rfl rfl (fun vals h => by obtain ⟨a, rfl⟩ := len1 h; rfl) (by kernel_rfl) (by rw [hK]; kernel_rfl), fun GO FN hm => d_is_name Y B GO FN hm⟩
theorem d_checked {P : Pm} {G : Gx} {n : Nat} (Y : PmOk P) (B : BltOk P) (GO : GxOk P G) (FN : SndFn P G n) (hm : Bool) : SS P G n hm (scOf (stA 14)) (bodyOf (stA 14)) St.b_checked := (ss_cons (s1_if (st_bop (sts_more (st_not (st_of_se (se_isi_lt Y B (by kernel_rfl) (by kernel_rfl) (by kernel_rfl) (by kernel_rfl) (se_loc (by kernel_rfl))) rfl)) (sts_one (st_cmp Y (se_bf Y B (k := 1) (by kernel_rfl) (by kernel_rfl) (by kernel_rfl) (ses_cons (by kernel_rfl) (se_loc (by kernel_rfl)) ses_nil)) (se_glob Y GO (by kernel_rfl)) (by kernel_rfl))))) (ss_cons (s1_raise Y GO (by kernel_rfl)) ss_nil) ss_nil) (ss_cons (s1_if (st_not (st_of_se (se_bf Y B (k := 1) (by kernel_rfl) (by kernel_rfl) (by kernel_rfl) (ses_cons (by kernel_rfl) (se_comp (by kernel_rfl) (by kernel_rfl) (se_loc (by kernel_rfl)) (se_call Y GO FN (by kernel_rfl) (se_glob Y GO (by kernel_rfl)) (ses_cons (by kernel_rfl) (se_loc (by kernel_rfl)) ses_nil)) STall.nil) ses_nil)) rfl)) (ss_cons (s1_raise Y GO (by kernel_rfl)) ss_nil) ss_nil) (ss_cons (s1_ret (se_bf Y B (k := 1) (by kernel_rfl) (by kernel_rfl) (by kernel_rfl) (ses_cons (by kernel_rfl) (se_loc (by kernel_rfl)) ses_nil))) ss_nil)))
theorem at_checked {P : Pm} (Y : PmOk P) (B : BltOk P) (hK : P.K = KK P.w.params) : ∃ sc body, FnAt P 128 ["path"] sc body ∧ ∀ {G : Gx} {n : Nat}, GxOk P G → SndFn P G n → ∀ hm, SS P G n hm sc body St.b_checked :=
  ⟨scOf (stA 14), bodyOf (stA 14), fn_at (o := { cls := .type "function", data := .func fd_checked }) (fd := fd_checked) Y (by rw [hK]; kernel_rfl) rfl (by rw [hK]; kernel_rfl) (by kernel_rfl) rfl rfl rfl (fun vals h => by obtain ⟨a, rfl⟩ := len1 h; rfl) (by kernel_rfl) (by rw [hK]; kernel_rfl), fun GO FN hm => d_checked Y B GO FN hm⟩
theorem d_Pile___init__ {P : Pm} {G : Gx} {n : Nat} (Y : PmOk P) (B : BltOk P) (GO : GxOk P G) (FN : SndFn P G n) (hm : Bool) : SS P G n hm (scOf (inA 16 0)) (bodyOf (inA 16 0)) St.b_Pile___init__ := (ss_cons (s1_asgAttr Y GO (se_loc (by kernel_rfl)) se_dict0) (ss_cons (s1_asgAttr Y GO (se_loc (by kernel_rfl)) se_dict0) (ss_cons (s1_asgAttr Y GO (se_loc (by kernel_rfl)) se_int) ss_nil)))
theorem at_Pile___init__ {P : Pm} (Y : PmOk P) (B : BltOk P) (hK : P.K = KK P.w.params) : ∃ sc body, FnAt P 142 ["self"] sc body ∧ ∀ {G : Gx} {n : Nat}, GxOk P G → SndFn P G n → ∀ hm, SS P G n hm sc body St.b_Pile___init__ :=
  ⟨scOf (inA 16 0), bodyOf (inA 16 0), fn_at (o := { cls := .type "function", data := .func fd_Pile___init__ }) (fd := fd_Pile___init__) Y (by rw [hK]; kernel_rfl) rfl (by rw [hK]; kernel_rfl) (by kernel_rfl) rfl rfl rfl (fun vals h => by obtain ⟨a, rfl⟩ := len1 h; rfl) (by kernel_rfl) (by rw [hK]; kernel_rfl), fun GO FN hm => d_Pile___init__ Y B GO FN hm⟩
theorem d_Pile_need {P : Pm} {G : Gx} {n : Nat} (Y : PmOk P) (B : BltOk P) (GO : GxOk P G) (FN : SndFn P G n) (hm : Bool) : SS P G n hm (scOf (inA 16 1)) (bodyOf (inA 16 1)) St.b_Pile_need := (ss_cons (s1_if (st_bop (sts_more (st_of_se (se_isi Y B GO (by kernel_rfl) (by kernel_rfl) (by kernel_rfl) (by kernel_rfl) (se_loc (by kernel_rfl))) rfl) (sts_more (st_not (st_of_se (se_isi Y B GO (by kernel_rfl) (by kernel_rfl) (by kernel_rfl) (by kernel_rfl) (se_loc (by kernel_rfl))) rfl)) (sts_one (st_cmp Y (se_loc (by kernel_rfl)) (se_attr Y GO (by kernel_rfl) (se_loc (by kernel_rfl))) (by kernel_rfl)))))) (ss_cons (s1_raise Y GO (by kernel_rfl)) ss_nil) ss_nil) (ss_cons (s1_ret (se_loc (by kernel_rfl))) ss_nil))
theorem at_Pile_need {P : Pm} (Y : PmOk P) (B : BltOk P) (hK : P.K = KK P.w.params) : ∃ sc body, FnAt P 149 ["self", "box"] sc body ∧ ∀ {G : Gx} {n : Nat}, GxOk P G → SndFn P G n → ∀ hm, SS P G n hm sc body St.b_Pile_need :=
  ⟨scOf (inA 16 1), bodyOf (inA 16 1), fn_at (o := { cls := .type "function", data := .func fd_Pile_need }) (fd := fd_Pile_need) Y (by rw [hK]; kernel_rfl) rfl (by rw [hK]; kernel_rfl) (by kernel_rfl) rfl rfl rfl (fun vals h => by obtain ⟨a, b, rfl⟩ := len2 h; rfl) (by kernel_rfl) (by rw [hK]; kernel_rfl), fun GO FN hm => d_Pile_need Y B GO FN hm⟩
theorem d_Pile_fresh {P : Pm} {G : Gx} {n : Nat} (Y : PmOk P) (B : BltOk P) (GO : GxOk P G) (FN : SndFn P G n) (hm : Bool) : SS P G n hm (scOf (inA 16 2)) (bodyOf (inA 16 2)) St.b_Pile_fresh := (ss_cons (s1_asgAttr Y GO (se_loc (by kernel_rfl)) (se_bin (se_attr Y GO (by kernel_rfl) (se_loc (by kernel_rfl))) se_int)) (ss_cons (s1_asgIdx Y (se_attr Y GO (by kernel_rfl) (se_loc (by kernel_rfl))) (se_attr Y GO (by kernel_rfl) (se_loc (by kernel_rfl))) (se_loc (by kernel_rfl))) (ss_cons (s1_asgIdx Y (se_attr Y GO (by kernel_rfl) (se_loc (by kernel_rfl))) (se_attr Y GO (by kernel_rfl) (se_loc (by kernel_rfl))) se_int) (ss_cons (s1_ret (se_attr Y GO (by kernel_rfl) (se_loc (by kernel_rfl)))) ss_nil))))
theorem at_Pile_fresh {P : Pm} (Y : PmOk P) (B : BltOk P) (hK : P.K = KK P.w.params) : ∃ sc body, FnAt P 156 ["self", "what"] sc body ∧ ∀ {G : Gx} {n : Nat}, GxOk P G → SndFn P G n → ∀ hm, SS P G n hm sc body St.b_Pile_fresh :=
  ⟨scOf (inA 16 2), bodyOf (inA 16 2), fn_at (o := { cls := .type "function", data := .func fd_Pile_fresh }) (fd := fd_Pile_fresh) Y (by rw [hK]; kernel_rfl) rfl (by rw [hK]; kernel_rfl) (by kernel_rfl) rfl rfl rfl (fun vals h => by obtain ⟨a, b, rfl⟩ := len2 h; rfl) (by kernel_rfl) (by rw [hK]; kernel_rfl), fun GO FN hm => d_Pile_fresh Y B GO FN hm⟩
theorem d_Pile_leaf {P : Pm} {G : Gx} {n : Nat} (Y : PmOk P) (B : BltOk P) (GO : GxOk P G) (FN : SndFn P G n) (hm : Bool) : SS P G n hm (scOf (inA 16 3)) (bodyOf (inA 16 3)) St.b_Pile_leaf := (ss_cons (s1_ret (se_meth Y GO FN (by kernel_rfl) (by kernel_rfl) (by kernel_rfl) (Nat.le_of_ble_eq_true rfl) (se_loc (by kernel_rfl)) (ses_cons (by kernel_rfl) (se_tup (ses_cons (by kernel_rfl) se_str (ses_cons (by kernel_rfl) (se_loc (by kernel_rfl)) ses_nil))) ses_nil))) ss_nil)
theorem at_Pile_leaf {P : Pm} (Y : PmOk P) (B : BltOk P) (hK : P.K = KK P.w.params) : ∃ sc body, FnAt P 163 ["self", "number"] sc body ∧ ∀ {G : Gx} {n : Nat}, GxOk P G → SndFn P G n → ∀ hm, SS P G n hm sc body St.b_Pile_leaf :=
  ⟨scOf (inA 16 3), bodyOf (inA 16 3), fn_at (o := { cls := .type "function", data := .func fd_Pile_leaf }) (fd := fd_Pile_leaf) Y (by rw [hK]; kernel_rfl) rfl (by rw [hK]; kernel_rfl) (by kernel_rfl) rfl rfl rfl (fun vals h => by obtain ⟨a, b, rfl⟩ := len2 h; rfl) (by kernel_rfl) (by rw [hK]; kernel_rfl), fun GO FN hm => d_Pile_leaf Y B GO FN hm⟩
theorem d_Pile_branch {P : Pm} {G : Gx} {n : Nat} (Y : PmOk P) (B : BltOk P) (GO : GxOk P G) (FN : SndFn P G n) (hm : Bool) : SS P G n hm (scOf (inA 16 4)) (bodyOf (inA 16 4)) St.b_Pile_branch := (ss_cons (s1_for (by kernel_rfl) (by kernel_rfl) (se_loc (by kernel_rfl)) (ss_cons (s1_expr (by kernel_rfl) (se_meth Y GO FN (by kernel_rfl) (by kernel_rfl) (by kernel_rfl) (Nat.le_of_ble_eq_true rfl) (se_loc (by kernel_rfl)) (ses_cons (by kernel_rfl) (se_idx1 (se_loc (by kernel_rfl)) se_int rfl) ses_nil))) ss_nil)) (ss_cons (s1_for (by kernel_rfl) (by kernel_rfl) (se_loc (by kernel_rfl)) (ss_cons (s1_expr (by kernel_rfl) (se_meth Y GO FN (by kernel_rfl) (by kernel_rfl) (by kernel_rfl) (Nat.le_of_ble_eq_true rfl) (se_loc (by kernel_rfl)) (ses_cons (by kernel_rfl) (se_idx1 (se_loc (by kernel_rfl)) se_int rfl) ses_nil))) ss_nil)) (ss_cons (s1_ret (se_meth Y GO FN (by kernel_rfl) (by kernel_rfl) (by kernel_rfl) (Nat.le_of_ble_eq_true rfl) (se_loc (by kernel_rfl)) (ses_cons (by kernel_rfl) (se_tup (ses_cons (by kernel_rfl) se_str (ses_cons (by kernel_rfl) (se_bf Y B (k := 1) (by kernel_rfl) (by kernel_rfl) (by kernel_rfl) (ses_cons (by kernel_rfl) (se_loc (by kernel_rfl)) ses_nil)) ses_nil))) ses_nil))) ss_nil)))
theorem at_Pile_branch {P : Pm} (Y : PmOk P) (B : BltOk P) (hK : P.K = KK P.w.params) : ∃ sc body, FnAt P 170 ["self", "rows"] sc body ∧ ∀ {G : Gx} {n : Nat}, GxOk P G → SndFn P G n → ∀ hm, SS P G n hm sc body St.b_Pile_branch :=
  ⟨scOf (inA 16 4), bodyOf (inA 16 4), fn_at (o := { cls := .type "function", data := .func fd_Pile_branch }) (fd := fd_Pile_branch) Y (by rw [hK]; kernel_rfl) rfl (by rw [hK]; kernel_rfl) (by kernel_rfl) rfl rfl rfl (fun vals h => by obtain ⟨a, b, rfl⟩ := len2 h; rfl) (by kernel_rfl) (by rw [hK]; kernel_rfl), fun GO FN hm => d_Pile_branch Y B GO FN hm⟩
theorem d_Pile_content {P : Pm} {G : Gx} {n : Nat} (Y : PmOk P) (B : BltOk P) (GO : GxOk P G) (FN : SndFn P G n) (hm : Bool) : SS P G n hm (scOf (inA 16 5)) (bodyOf (inA 16 5)) St.b_Pile_content := (ss_cons (s1_asg (by kernel_rfl) (by kernel_rfl) (se_idx1 (se_attr Y GO (by kernel_rfl) (se_loc (by kernel_rfl))) (se_meth Y GO FN (by kernel_rfl) (by kernel_rfl) (by kernel_rfl) (Nat.le_of_ble_eq_true rfl) (se_loc (by kernel_rfl)) (ses_cons (by kernel_rfl) (se_loc (by kernel_rfl)) ses_nil)) rfl)) (ss_cons (s1_if (st_cmp Y (se_idx1 (se_loc (by kernel_rfl)) se_int rfl) se_str (by kernel_rfl)) (ss_cons (s1_ret (se_tup (ses_cons (by kernel_rfl) se_str (ses_cons (by kernel_rfl) (se_bf Y B (k := 1) (by kernel_rfl) (by kernel_rfl) (by kernel_rfl) (ses_cons (by kernel_rfl) (se_idx1 (se_loc (by kernel_rfl)) se_int rfl) ses_nil)) ses_nil)))) ss_nil) ss_nil) (ss_cons (s1_ret (se_loc (by kernel_rfl))) ss_nil)))
theorem at_Pile_content {P : Pm} (Y : PmOk P) (B : BltOk P) (hK : P.K = KK P.w.params) : ∃ sc body, FnAt P 177 ["self", "box"] sc body ∧ ∀ {G : Gx} {n : Nat}, GxOk P G → SndFn P G n → ∀ hm, SS P G n hm sc body St.b_Pile_content :=
  ⟨scOf (inA 16 5), bodyOf (inA 16 5), fn_at (o := { cls := .type "function", data := .func fd_Pile_content }) (fd := fd_Pile_content) Y (by rw [hK]; kernel_rfl) rfl (by rw [hK]; kernel_rfl) (by kernel_rfl) rfl rfl rfl (fun vals h => by obtain ⟨a, b, rfl⟩ := len2 h; rfl) (by kernel_rfl) (by rw [hK]; kernel_rfl), fun GO FN hm => d_Pile_content Y B GO FN hm⟩
theorem d_Pile_hold {P : Pm} {G : Gx} {n : Nat} (Y : PmOk P) (B : BltOk P) (GO : GxOk P G) (FN : SndFn P G n) (hm : Bool) : SS P G n hm (scOf (inA 16 6)) (bodyOf (inA 16 6)) St.b_Pile_hold := (ss_cons (s1_expr (by kernel_rfl) (se_meth Y GO FN (by kernel_rfl) (by kernel_rfl) (by kernel_rfl) (Nat.le_of_ble_eq_true rfl) (se_loc (by kernel_rfl)) (ses_cons (by kernel_rfl) (se_loc (by kernel_rfl)) ses_nil))) (ss_cons (s1_asgIdx Y (se_attr Y GO (by kernel_rfl) (se_loc (by kernel_rfl))) (se_loc (by kernel_rfl)) (se_bin (se_idx1 (se_attr Y GO (by kernel_rfl) (se_loc (by kernel_rfl))) (se_loc (by kernel_rfl)) rfl) se_int)) ss_nil))
theorem at_Pile_hold {P : Pm} (Y : PmOk P) (B : BltOk P) (hK : P.K = KK P.w.params) : ∃ sc body, FnAt P 184 ["self", "box"] sc body ∧ ∀ {G : Gx} {n : Nat}, GxOk P G → SndFn P G n → ∀ hm, SS P G n hm sc body St.b_Pile_hold :=
  ⟨scOf (inA 16 6), bodyOf (inA 16 6), fn_at (o := { cls := .type "function", data := .func fd_Pile_hold }) (fd := fd_Pile_hold) Y (by rw [hK]; kernel_rfl) rfl (by rw [hK]; kernel_rfl) (by kernel_rfl) rfl rfl rfl (fun vals h => by obtain ⟨a, b, rfl⟩ := len2 h; rfl) (by kernel_rfl) (by rw [hK]; kernel_rfl), fun GO FN hm => d_Pile_hold Y B GO FN hm⟩
noncomputable def b_Pile_holders : List Sm := [.expr (.call (.glob "_wall") [.int 0])]
theorem d_Pile_holders {P : Pm} {G : Gx} {n : Nat} (Y : PmOk P) (B : BltOk P) (GO : GxOk P G) (FN : SndFn P G n) (hm : Bool) : SS P G n hm (scOf (inA 16 7)) (bodyOf (inA 16 7)) b_Pile_holders := (ss_cons (s1_expr (by kernel_rfl) (se_call Y GO FN (by kernel_rfl) (se_glob Y GO (by kernel_rfl)) (ses_cons (by kernel_rfl) se_int ses_nil))) ss_nil)
theorem at_Pile_holders {P : Pm} (Y : PmOk P) (B : BltOk P) (hK : P.K = KK P.w.params) : ∃ sc body, FnAt P 191 ["self", "box"] sc body ∧ ∀ {G : Gx} {n : Nat}, GxOk P G → SndFn P G n → ∀ hm, SS P G n hm sc body b_Pile_holders :=
  ⟨scOf (inA 16 7), bodyOf (inA 16 7), fn_at (o := { cls := .type "function", data := .func fd_Pile_holders }) (fd := fd_Pile_holders) Y (by rw [hK]; kernel_rfl) rfl (by rw [hK]; kernel_rfl) (by kernel_rfl) rfl rfl rfl (fun vals h => by obtain ⟨a, b, rfl⟩ := len2 h; rfl) (by kernel_rfl) (by rw [hK]; kernel_rfl), fun GO FN hm => d_Pile_holders Y B GO FN hm⟩
theorem d_Pile_let_go {P : Pm} {G : Gx} {n : Nat} (Y : PmOk P) (B : BltOk P) (GO : GxOk P G) (FN : SndFn P G n) (hm : Bool) : SS P G n hm (scOf (inA 16 8)) (bodyOf (inA 16 8)) St.b_Pile_let_go := (ss_cons (s1_asg (by kernel_rfl) (by kernel_rfl) (se_list (ses_cons (by kernel_rfl) (se_meth Y GO FN (by kernel_rfl) (by kernel_rfl) (by kernel_rfl) (Nat.le_of_ble_eq_true rfl) (se_loc (by kernel_rfl)) (ses_cons (by kernel_rfl) (se_loc (by kernel_rfl)) ses_nil)) ses_nil))) (ss_cons (s1_asg (by kernel_rfl) (by kernel_rfl) se_int) (ss_cons (s1_while (st_cmp Y (se_loc (by kernel_rfl)) (se_list ses_nil) (by kernel_rfl)) (ss_cons (s1_asg (by kernel_rfl) (by kernel_rfl) (se_bm (by kernel_rfl) (by kernel_rfl) (by kernel_rfl) (by kernel_rfl) (Nat.le_of_ble_eq_true rfl) (se_loc (by kernel_rfl)) ses_nil)) (ss_cons (s1_if (st_cmp Y (se_loc (by kernel_rfl)) (se_attr Y GO (by kernel_rfl) (se_loc (by kernel_rfl))) (by kernel_rfl)) (ss_cons s1_cont ss_nil) ss_nil) (ss_cons (s1_asgIdx Y (se_attr Y GO (by kernel_rfl) (se_loc (by kernel_rfl))) (se_loc (by kernel_rfl)) (se_bf Y B (k := 2) (by kernel_rfl) (by kernel_rfl) (by kernel_rfl) (ses_cons (by kernel_rfl) se_int (ses_cons (by kernel_rfl) (se_bin (se_idx1 (se_attr Y GO (by kernel_rfl) (se_loc (by kernel_rfl))) (se_loc (by kernel_rfl)) rfl) se_int) ses_nil)))) (ss_cons (s1_if (st_cmp Y (se_idx1 (se_attr Y GO (by kernel_rfl) (se_loc (by kernel_rfl))) (se_loc (by kernel_rfl)) rfl) se_int (by kernel_rfl)) (ss_cons (s1_asg (by kernel_rfl) (by kernel_rfl) (se_bm (by kernel_rfl) (by kernel_rfl) (by kernel_rfl) (by kernel_rfl) (Nat.le_of_ble_eq_true rfl) (se_attr Y GO (by kernel_rfl) (se_loc (by kernel_rfl))) (ses_cons (by kernel_rfl) (se_loc (by kernel_rfl)) ses_nil))) (ss_cons (s1_expr (by kernel_rfl) (se_bm (by kernel_rfl) (by kernel_rfl) (by kernel_rfl) (by kernel_rfl) (Nat.le_of_ble_eq_true rfl) (se_attr Y GO (by kernel_rfl) (se_loc (by kernel_rfl))) (ses_cons (by kernel_rfl) (se_loc (by kernel_rfl)) ses_nil))) (ss_cons (s1_asg (by kernel_rfl) (by kernel_rfl) (se_bin (se_loc (by kernel_rfl)) se_int)) (ss_cons (s1_if (st_cmp Y (se_idx1 (se_loc (by kernel_rfl)) se_int rfl) se_str (by kernel_rfl)) (ss_cons (s1_asg (by kernel_rfl) (by kernel_rfl) (se_bin (se_loc (by kernel_rfl)) (se_comp (by kernel_rfl) (by kernel_rfl) (se_idx1 (se_loc (by kernel_rfl)) se_int rfl) (se_idx1 (se_loc (by kernel_rfl)) se_int rfl) STall.nil))) ss_nil) ss_nil) ss_nil)))) ss_nil) ss_nil))))) (ss_cons (s1_ret (se_loc (by kernel_rfl))) ss_nil))))
theorem at_Pile_let_go {P : Pm} (Y : PmOk P) (B : BltOk P) (hK : P.K = KK P.w.params) : ∃ sc body, FnAt P 196 ["self", "box"] sc body ∧ ∀ {G : Gx} {n : Nat}, GxOk P G → SndFn P G n → ∀ hm, SS P G n hm sc body St.b_Pile_let_go :=
  ⟨scOf (inA 16 8), bodyOf (inA 16 8), fn_at (o := { cls := .type "function", data := .func fd_Pile_let_go }) (fd := fd_Pile_let_go) Y (by rw [hK]; kernel_rfl) rfl (by rw [hK]; kernel_rfl) (by kernel_rfl) rfl rfl rfl (fun vals h => by obtain ⟨a, b, rfl⟩ := len2 h; rfl) (by kernel_rfl) (by rw [hK]; kernel_rfl), fun GO FN hm => d_Pile_let_go Y B GO FN hm⟩
theorem d_Pile_kept {P : Pm} {G : Gx} {n : Nat} (Y : PmOk P) (B : BltOk P) (GO : GxOk P G) (FN : SndFn P G n) (hm : Bool) : SS P G n hm (scOf (inA 16 9)) (bodyOf (inA 16 9)) St.b_Pile_kept := (ss_cons (s1_ret (se_bf Y B (k := 1) (by kernel_rfl) (by kernel_rfl) (by kernel_rfl) (ses_cons (by kernel_rfl) (se_attr Y GO (by kernel_rfl) (se_loc (by kernel_rfl))) ses_nil))) ss_nil)
theorem at_Pile_kept {P : Pm} (Y : PmOk P) (B : BltOk P) (hK : P.K = KK P.w.params) : ∃ sc body, FnAt P 203 ["self"] sc body ∧ ∀ {G : Gx} {n : Nat}, GxOk P G → SndFn P G n → ∀ hm, SS P G n hm sc body St.b_Pile_kept :=
  ⟨scOf (inA 16 9), bodyOf (inA 16 9), fn_at (o := { cls := .type "function", data := .func fd_Pile_kept }) (fd := fd_Pile_kept) Y (by rw [hK]; kernel_rfl) rfl (by rw [hK]; kernel_rfl) (by kernel_rfl) rfl rfl rfl (fun vals h => by obtain ⟨a, rfl⟩ := len1 h; rfl) (by kernel_rfl) (by rw [hK]; kernel_rfl), fun GO FN hm => d_Pile_kept Y B GO FN hm⟩
theorem d_box_of {P : Pm} {G : Gx} {n : Nat} (Y : PmOk P) (B : BltOk P) (GO : GxOk P G) (FN : SndFn P G n) (hm : Bool) : SS P G n hm (scOf (stA 18)) (bodyOf (stA 18)) St.b_box_of := (ss_cons (s1_for (by kernel_rfl) (by kernel_rfl) (se_loc (by kernel_rfl)) (ss_cons (s1_if (st_cmp Y (se_idx1 (se_loc (by kernel_rfl)) se_int rfl) (se_loc (by kernel_rfl)) (by kernel_rfl)) (ss_cons (s1_ret (se_idx1 (se_loc (by kernel_rfl)) se_int rfl)) ss_nil) ss_nil) ss_nil)) (ss_cons (s1_ret se_none) ss_nil))
theorem at_box_of {P : Pm} (Y : PmOk P) (B : BltOk P) (hK : P.K = KK P.w.params) : ∃ sc body, FnAt P 217 ["rows", "name"] sc body ∧ ∀ {G : Gx} {n : Nat}, GxOk P G → SndFn P G n → ∀ hm, SS P G n hm sc body St.b_box_of :=
  ⟨scOf (stA 18), bodyOf (stA 18), fn_at (o := { cls := .type "function", data := .func fd_box_of }) (fd := fd_box_of) Y (by rw [hK]; kernel_rfl) rfl (by rw [hK]; kernel_rfl) (by kernel_rfl) rfl rfl rfl (fun vals h => by obtain ⟨a, b, rfl⟩ := len2 h; rfl) (by kernel_rfl) (by rw [hK]; kernel_rfl), fun GO FN hm => d_box_of Y B GO FN hm⟩
theorem d_placed {P : Pm} {G : Gx} {n : Nat} (Y : PmOk P) (B : BltOk P) (GO : GxOk P G) (FN : SndFn P G n) (hm : Bool) : SS P G n hm (scOf (stA 19)) (bodyOf (stA 19)) St.b_placed := (ss_cons (s1_asgComp (by kernel_rfl) (by kernel_rfl) (by kernel_rfl) (se_loc (by kernel_rfl)) (se_loc (by kernel_rfl)) (STall.cons (st_cmp Y (se_idx1 (se_loc (by kernel_rfl)) se_int rfl) (se_loc (by kernel_rfl)) (by kernel_rfl)) STall.nil)) (ss_cons (s1_asgComp (by kernel_rfl) (by kernel_rfl) (by kernel_rfl) (se_loc (by kernel_rfl)) (se_loc (by kernel_rfl)) (STall.cons (st_cmp Y (se_idx1 (se_loc (by kernel_rfl)) se_int rfl) (se_loc (by kernel_rfl)) (by kernel_rfl)) STall.nil)) (ss_cons (s1_ret (se_bin (se_bin (se_loc (by kernel_rfl)) (se_list (ses_cons (by kernel_rfl) (se_tup (ses_cons (by kernel_rfl) (se_loc (by kernel_rfl)) (ses_cons (by kernel_rfl) (se_loc (by kernel_rfl)) ses_nil))) ses_nil))) (se_loc (by kernel_rfl)))) ss_nil)))
theorem at_placed {P : Pm} (Y : PmOk P) (B : BltOk P) (hK : P.K = KK P.w.params) : ∃ sc body, FnAt P 222 ["rows", "name", "box"] sc body ∧ ∀ {G : Gx} {n : Nat}, GxOk P G → SndFn P G n → ∀ hm, SS P G n hm sc body St.b_placed :=
  ⟨scOf (stA 19), bodyOf (stA 19), fn_at (o := { cls := .type "function", data := .func fd_placed }) (fd := fd_placed) Y (by rw [hK]; kernel_rfl) rfl (by rw [hK]; kernel_rfl) (by kernel_rfl) rfl rfl rfl (fun vals h => by obtain ⟨a, b, c, rfl⟩ := len3 h; rfl) (by kernel_rfl) (by rw [hK]; kernel_rfl), fun GO FN hm => d_placed Y B GO FN hm⟩
theorem d_need_way {P : Pm} {G : Gx} {n : Nat} (Y : PmOk P) (B : BltOk P) (GO : GxOk P G) (FN : SndFn P G n) (hm : Bool) : SS P G n hm (scOf (stA 22)) (bodyOf (stA 22)) St.b_need_way := (ss_cons (s1_asg (by kernel_rfl) (by kernel_rfl) (se_call Y GO FN (by kernel_rfl) (se_glob Y GO (by kernel_rfl)) (ses_cons (by kernel_rfl) (se_loc (by kernel_rfl)) ses_nil))) (ss_cons (s1_if (st_cmp Y (se_loc (by kernel_rfl)) (se_list ses_nil) (by kernel_rfl)) (ss_cons (s1_raise Y GO (by kernel_rfl)) ss_nil) ss_nil) (ss_cons (s1_ret (se_loc (by kernel_rfl))) ss_nil)))
theorem at_need_way {P : Pm} (Y : PmOk P) (B : BltOk P) (hK : P.K = KK P.w.params) : ∃ sc body, FnAt P 229 ["path"] sc body ∧ ∀ {G : Gx} {n : Nat}, GxOk P G → SndFn P G n → ∀ hm, SS P G n hm sc body St.b_need_way :=
  ⟨scOf (stA 22), bodyOf (stA 22), fn_at (o := { cls := .type "function", data := .func fd_need_way }) (fd := fd_need_way) Y (by rw [hK]; kernel_rfl) rfl (by rw [hK]; kernel_rfl) (by kernel_rfl) rfl rfl rfl (fun vals h => by obtain ⟨a, rfl⟩ := len1 h; rfl) (by kernel_rfl) (by rw [hK]; kernel_rfl), fun GO FN hm => d_need_way Y B GO FN hm⟩
theorem d_need_number {P : Pm} {G : Gx} {n : Nat} (Y : PmOk P) (B : BltOk P) (GO : GxOk P G) (FN : SndFn P G n) (hm : Bool) : SS P G n hm (scOf (stA 23)) (bodyOf (stA 23)) St.b_need_number := (ss_cons (s1_if (st_bop (sts_more (st_of_se (se_isi Y B GO (by kernel_rfl) (by kernel_rfl) (by kernel_rfl) (by kernel_rfl) (se_loc (by kernel_rfl))) rfl) (sts_more (st_not (st_of_se (se_isi Y B GO (by kernel_rfl) (by kernel_rfl) (by kernel_rfl) (by kernel_rfl) (se_loc (by kernel_rfl))) rfl)) (sts_one (st_not (st_cmp2 Y (se_neg (se_glob Y GO (by kernel_rfl))) (se_loc (by kernel_rfl)) (se_glob Y GO (by kernel_rfl)) (by kernel_rfl))))))) (ss_cons (s1_raise Y GO (by kernel_rfl)) ss_nil) ss_nil) ss_nil)
theorem at_need_number {P : Pm} (Y : PmOk P) (B : BltOk P) (hK : P.K = KK P.w.params) : ∃ sc body, FnAt P 236 ["number"] sc body ∧ ∀ {G : Gx} {n : Nat}, GxOk P G → SndFn P G n → ∀ hm, SS P G n hm sc body St.b_need_number :=
  ⟨scOf (stA 23), bodyOf (stA 23), fn_at (o := { cls := .type "function", data := .func fd_need_number }) (fd := fd_need_number) Y (by rw [hK]; kernel_rfl) rfl (by rw [hK]; kernel_rfl) (by kernel_rfl) rfl rfl rfl (fun vals h => by obtain ⟨a, rfl⟩ := len1 h; rfl) (by kernel_rfl) (by rw [hK]; kernel_rfl), fun GO FN hm => d_need_number Y B GO FN hm⟩
theorem d_Store___init__ {P : Pm} {G : Gx} {n : Nat} (Y : PmOk P) (B : BltOk P) (GO : GxOk P G) (FN : SndFn P G n) (hm : Bool) : SS P G n hm (scOf (inA 24 0)) (bodyOf (inA 24 0)) St.b_Store___init__ := (ss_cons (s1_asgAttr Y GO (se_loc (by kernel_rfl)) (se_call Y GO FN (by kernel_rfl) (se_glob Y GO (by kernel_rfl)) ses_nil)) (ss_cons (s1_asgAttr Y GO (se_loc (by kernel_rfl)) (se_meth Y GO FN (by kernel_rfl) (by kernel_rfl) (by kernel_rfl) (Nat.le_of_ble_eq_true rfl) (se_attr Y GO (by kernel_rfl) (se_loc (by kernel_rfl))) (ses_cons (by kernel_rfl) (se_list ses_nil) ses_nil))) (ss_cons (s1_expr (by kernel_rfl) (se_meth Y GO FN (by kernel_rfl) (by kernel_rfl) (by kernel_rfl) (Nat.le_of_ble_eq_true rfl) (se_attr Y GO (by kernel_rfl) (se_loc (by kernel_rfl))) (ses_cons (by kernel_rfl) (se_attr Y GO (by kernel_rfl) (se_loc (by kernel_rfl))) ses_nil))) (ss_cons (s1_asgAttr Y GO (se_loc (by kernel_rfl)) se_dict0) (ss_cons (s1_asgAttr Y GO (se_loc (by kernel_rfl)) se_int) ss_nil)))))
theorem at_Store___init__ {P : Pm} (Y : PmOk P) (B : BltOk P) (hK : P.K = KK P.w.params) : ∃ sc body, FnAt P 250 ["self"] sc body ∧ ∀ {G : Gx} {n : Nat}, GxOk P G → SndFn P G n → ∀ hm, SS P G n hm sc body St.b_Store___init__ :=
  ⟨scOf (inA 24 0), bodyOf (inA 24 0), fn_at (o := { cls := .type "function", data := .func fd_Store___init__ }) (fd := fd_Store___init__) Y (by rw [hK]; kernel_rfl) rfl (by rw [hK]; kernel_rfl) (by kernel_rfl) rfl rfl rfl (fun vals h => by obtain ⟨a, rfl⟩ := len1 h; rfl) (by kernel_rfl) (by rw [hK]; kernel_rfl), fun GO FN hm => d_Store___init__ Y B GO FN hm⟩
theorem d_Store_top {P : Pm} {G : Gx} {n : Nat} (Y : PmOk P) (B : BltOk P) (GO : GxOk P G) (FN : SndFn P G n) (hm : Bool) : SS P G n hm (scOf (inA 24 1)) (bodyOf (inA 24 1)) St.b_Store_top := (ss_cons (s1_if (st_cmp Y (se_loc (by kernel_rfl)) se_none (by kernel_rfl)) (ss_cons (s1_ret (se_attr Y GO (by kernel_rfl) (se_loc (by kernel_rfl)))) ss_nil) ss_nil) (ss_cons (s1_if (st_bop (sts_more (st_of_se (se_isi Y B GO (by kernel_rfl) (by kernel_rfl) (by kernel_rfl) (by kernel_rfl) (se_loc (by kernel_rfl))) rfl) (sts_more (st_not (st_of_se (se_isi Y B GO (by kernel_rfl) (by kernel_rfl) (by kernel_rfl) (by kernel_rfl) (se_loc (by kernel_rfl))) rfl)) (sts_one (st_cmp Y (se_loc (by kernel_rfl)) (se_attr Y GO (by kernel_rfl) (se_loc (by kernel_rfl))) (by kernel_rfl)))))) (ss_cons (s1_raise Y GO (by kernel_rfl)) ss_nil) ss_nil) (ss_cons (s1_ret (se_idx1 (se_attr Y GO (by kernel_rfl) (se_loc (by kernel_rfl))) (se_loc (by kernel_rfl)) rfl)) ss_nil)))
theorem at_Store_top {P : Pm} (Y : PmOk P) (B : BltOk P) (hK : P.K = KK P.w.params) : ∃ sc body, FnAt P 257 ["self", "view"] sc body ∧ ∀ {G : Gx} {n : Nat}, GxOk P G → SndFn P G n → ∀ hm, SS P G n hm sc body St.b_Store_top :=
  ⟨scOf (inA 24 1), bodyOf (inA 24 1), fn_at (o := { cls := .type "function", data := .func fd_Store_top }) (fd := fd_Store_top) Y (by rw [hK]; kernel_rfl) rfl (by rw [hK]; kernel_rfl) (by kernel_rfl) rfl rfl rfl (fun vals h => by obtain ⟨a, b, rfl⟩ := len2 h; rfl) (by kernel_rfl) (by rw [hK]; kernel_rfl), fun GO FN hm => d_Store_top Y B GO FN hm⟩
theorem d_Store_found {P : Pm} {G : Gx} {n : Nat} (Y : PmOk P) (B : BltOk P) (GO : GxOk P G) (FN : SndFn P G n) (hm : Bool) : SS P G n hm (scOf (inA 24 2)) (bodyOf (inA 24 2)) St.b_Store_found := (ss_cons (s1_for (by kernel_rfl) (by kernel_rfl) (se_loc (by kernel_rfl)) (ss_cons (s1_asg (by kernel_rfl) (by kernel_rfl) (se_meth Y GO FN (by kernel_rfl) (by kernel_rfl) (by kernel_rfl) (Nat.le_of_ble_eq_true rfl) (se_attr Y GO (by kernel_rfl) (se_loc (by kernel_rfl))) (ses_cons (by kernel_rfl) (se_loc (by kernel_rfl)) ses_nil))) (ss_cons (s1_if (st_cmp Y (se_idx1 (se_loc (by kernel_rfl)) se_int rfl) se_str (by kernel_rfl)) (ss_cons (s1_ret se_none) ss_nil) ss_nil) (ss_cons (s1_asg (by kernel_rfl) (by kernel_rfl) (se_call Y GO FN (by kernel_rfl) (se_glob Y GO (by kernel_rfl)) (ses_cons (by kernel_rfl) (se_idx1 (se_loc (by kernel_rfl)) se_int rfl) (ses_cons (by kernel_rfl) (se_loc (by kernel_rfl)) ses_nil)))) (ss_cons (s1_if (st_cmp Y (se_loc (by kernel_rfl)) se_none (by kernel_rfl)) (ss_cons (s1_ret se_none) ss_nil) ss_nil) ss_nil))))) (ss_cons (s1_ret (se_loc (by kernel_rfl))) ss_nil))
theorem at_Store_found {P : Pm} (Y : PmOk P) (B : BltOk P) (hK : P.K = KK P.w.params) : ∃ sc body, FnAt P 264 ["self", "box", "names"] sc body ∧ ∀ {G : Gx} {n : Nat}, GxOk P G → SndFn P G n → ∀ hm, SS P G n hm sc body St.b_Store_found :=
  ⟨scOf (inA 24 2), bodyOf (inA 24 2), fn_at (o := { cls := .type "function", data := .func fd_Store_found }) (fd := fd_Store_found) Y (by rw [hK]; kernel_rfl) rfl (by rw [hK]; kernel_rfl) (by kernel_rfl) rfl rfl rfl (fun vals h => by obtain ⟨a, b, c, rfl⟩ := len3 h; rfl) (by kernel_rfl) (by rw [hK]; kernel_rfl), fun GO FN hm => d_Store_found Y B GO FN hm⟩
theorem d_Store_ways {P : Pm} {G : Gx} {n : Nat} (Y : PmOk P) (B : BltOk P) (GO : GxOk P G) (FN : SndFn P G n) (hm : Bool) : SS P G n hm (scOf (inA 24 3)) (bodyOf (inA 24 3)) St.b_Store_ways := (ss_cons (s1_asg (by kernel_rfl) (by kernel_rfl) (se_list ses_nil)) (ss_cons (s1_for (by kernel_rfl) (by kernel_rfl) (se_bf Y B (k := 1) (by kernel_rfl) (by kernel_rfl) (by kernel_rfl) (ses_cons (by kernel_rfl) (se_bf Y B (k := 1) (by kernel_rfl) (by kernel_rfl) (by kernel_rfl) (ses_cons (by kernel_rfl) (se_loc (by kernel_rfl)) ses_nil)) ses_nil)) (ss_cons (s1_asg (by kernel_rfl) (by kernel_rfl) (se_meth Y GO FN (by kernel_rfl) (by kernel_rfl) (by kernel_rfl) (Nat.le_of_ble_eq_true rfl) (se_loc (by kernel_rfl)) (ses_cons (by kernel_rfl) (se_attr Y GO (by kernel_rfl) (se_loc (by kernel_rfl))) (ses_cons (by kernel_rfl) (se_slice (se_loc (by kernel_rfl)) so_none (so_some (se_loc (by kernel_rfl)))) ses_nil)))) (ss_cons (s1_if (st_cmp Y (se_loc (by kernel_rfl)) se_none (by kernel_rfl)) (ss_cons (s1_expr (by kernel_rfl) (se_bm (by kernel_rfl) (by kernel_rfl) (by kernel_rfl) (by kernel_rfl) (Nat.le_of_ble_eq_true rfl) (se_loc (by kernel_rfl)) (ses_cons (by kernel_rfl) (se_list ses_nil) ses_nil))) ss_nil) (ss_cons (s1_expr (by kernel_rfl) (se_bm (by kernel_rfl) (by kernel_rfl) (by kernel_rfl) (by kernel_rfl) (Nat.le_of_ble_eq_true rfl) (se_loc (by kernel_rfl)) (ses_cons (by kernel_rfl) (se_idx1 (se_meth Y GO FN (by kernel_rfl) (by kernel_rfl) (by kernel_rfl) (Nat.le_of_ble_eq_true rfl) (se_attr Y GO (by kernel_rfl) (se_loc (by kernel_rfl))) (ses_cons (by kernel_rfl) (se_loc (by kernel_rfl)) ses_nil)) se_int rfl) ses_nil))) ss_nil)) ss_nil))) (ss_cons (s1_ret (se_loc (by kernel_rfl))) ss_nil)))
theorem at_Store_ways {P : Pm} (Y : PmOk P) (B : BltOk P) (hK : P.K = KK P.w.params) : ∃ sc body, FnAt P 271 ["self", "names"] sc body ∧ ∀ {G : Gx} {n : Nat}, GxOk P G → SndFn P G n → ∀ hm, SS P G n hm sc body St.b_Store_ways :=
  ⟨scOf (inA 24 3), bodyOf (inA 24 3), fn_at (o := { cls := .type "function", data := .func fd_Store_ways }) (fd := fd_Store_ways) Y (by rw [hK]; kernel_rfl) rfl (by rw [hK]; kernel_rfl) (by kernel_rfl) rfl rfl rfl (fun vals h => by obtain ⟨a, b, rfl⟩ := len2 h; rfl) (by kernel_rfl) (by rw [hK]; kernel_rfl), fun GO FN hm => d_Store_ways Y B GO FN hm⟩
theorem d_Store_changed {P : Pm} {G : Gx} {n : Nat} (Y : PmOk P) (B : BltOk P) (GO : GxOk P G) (FN : SndFn P G n) (hm : Bool) : SS P G n hm (scOf (inA 24 4)) (bodyOf (inA 24 4)) St.b_Store_changed := (ss_cons (s1_asg (by kernel_rfl) (by kernel_rfl) (se_attr Y GO (by kernel_rfl) (se_loc (by kernel_rfl)))) (ss_cons (s1_expr (by kernel_rfl) (se_meth Y GO FN (by kernel_rfl) (by kernel_rfl) (by kernel_rfl) (Nat.le_of_ble_eq_true rfl) (se_attr Y GO (by kernel_rfl) (se_loc (by kernel_rfl))) (ses_cons (by kernel_rfl) (se_loc (by kernel_rfl)) ses_nil))) (ss_cons (s1_asgAttr Y GO (se_loc (by kernel_rfl)) (se_loc (by kernel_rfl))) (ss_cons (s1_ret (se_meth Y GO FN (by kernel_rfl) (by kernel_rfl) (by kernel_rfl) (Nat.le_of_ble_eq_true rfl) (se_attr Y GO (by kernel_rfl) (se_loc (by kernel_rfl))) (ses_cons (by kernel_rfl) (se_loc (by kernel_rfl)) ses_nil))) ss_nil))))
theorem at_Store_changed {P : Pm} (Y : PmOk P) (B : BltOk P) (hK : P.K = KK P.w.params) : ∃ sc body, FnAt P 278 ["self", "box"] sc body ∧ ∀ {G : Gx} {n : Nat}, GxOk P G → SndFn P G n → ∀ hm, SS P G n hm sc body St.b_Store_changed :=
  ⟨scOf (inA 24 4), bodyOf (inA 24 4), fn_at (o := { cls := .type "function", data := .func fd_Store_changed }) (fd := fd_Store_changed) Y (by rw [hK]; kernel_rfl) rfl (by rw [hK]; kernel_rfl) (by kernel_rfl) rfl rfl rfl (fun vals h => by obtain ⟨a, b, rfl⟩ := len2 h; rfl) (by kernel_rfl) (by rw [hK]; kernel_rfl), fun GO FN hm => d_Store_changed Y B GO FN hm⟩
theorem d_Store_put {P : Pm} {G : Gx} {n : Nat} (Y : PmOk P) (B : BltOk P) (GO : GxOk P G) (FN : SndFn P G n) (hm : Bool) : SS P G n hm (scOf (inA 24 5)) (bodyOf (inA 24 5)) St.b_Store_put := (ss_cons (s1_asg (by kernel_rfl) (by kernel_rfl) (se_call Y GO FN (by kernel_rfl) (se_glob Y GO (by kernel_rfl)) (ses_cons (by kernel_rfl) (se_loc (by kernel_rfl)) ses_nil))) (ss_cons (s1_expr (by kernel_rfl) (se_call Y GO FN (by kernel_rfl) (se_glob Y GO (by kernel_rfl)) (ses_cons (by kernel_rfl) (se_loc (by kernel_rfl)) ses_nil))) (ss_cons (s1_for (by kernel_rfl) (by kernel_rfl) (se_bf Y B (k := 2) (by kernel_rfl) (by kernel_rfl) (by kernel_rfl) (ses_cons (by kernel_rfl) se_int (ses_cons (by kernel_rfl) (se_bf Y B (k := 1) (by kernel_rfl) (by kernel_rfl) (by kernel_rfl) (ses_cons (by kernel_rfl) (se_loc (by kernel_rfl)) ses_nil)) ses_nil))) (ss_cons (s1_if (st_cmp Y (se_meth Y GO FN (by kernel_rfl) (by kernel_rfl) (by kernel_rfl) (Nat.le_of_ble_eq_true rfl) (se_loc (by kernel_rfl)) (ses_cons (by kernel_rfl) se_none (ses_cons (by kernel_rfl) (se_slice (se_loc (by kernel_rfl)) so_none (so_some (se_loc (by kernel_rfl)))) ses_nil))) se_str (by kernel_rfl)) (ss_cons (s1_raise Y GO (by kernel_rfl)) ss_nil) ss_nil) ss_nil)) (ss_cons (s1_asg (by kernel_rfl) (by kernel_rfl) (se_meth Y GO FN (by kernel_rfl) (by kernel_rfl) (by kernel_rfl) (Nat.le_of_ble_eq_true rfl) (se_loc (by kernel_rfl)) (ses_cons (by kernel_rfl) se_none (ses_cons (by kernel_rfl) (se_loc (by kernel_rfl)) ses_nil)))) (ss_cons (s1_if (st_cmp Y (se_loc (by kernel_rfl)) se_str (by kernel_rfl)) (ss_cons (s1_raise Y GO (by kernel_rfl)) ss_nil) ss_nil) (ss_cons (s1_if (st_bop (sts_more (st_cmp Y (se_loc (by kernel_rfl)) se_str (by kernel_rfl)) (sts_one (st_cmp Y (se_meth Y GO FN (by kernel_rfl) (by kernel_rfl) (by kernel_rfl) (Nat.le_of_ble_eq_true rfl) (se_loc (by kernel_rfl)) (ses_cons (by kernel_rfl) se_none (ses_cons (by kernel_rfl) (se_loc (by kernel_rfl)) ses_nil))) (se_loc (by kernel_rfl)) (by kernel_rfl))))) (ss_cons (s1_ret se_int) ss_nil) ss_nil) (ss_cons (s1_asg (by kernel_rfl) (by kernel_rfl) (se_meth Y GO FN (by kernel_rfl) (by kernel_rfl) (by kernel_rfl) (Nat.le_of_ble_eq_true rfl) (se_loc (by kernel_rfl)) (ses_cons (by kernel_rfl) (se_loc (by kernel_rfl)) ses_nil))) (ss_cons (s1_asg (by kernel_rfl) (by kernel_rfl) (se_meth Y GO FN (by kernel_rfl) (by kernel_rfl) (by kernel_rfl) (Nat.le_of_ble_eq_true rfl) (se_attr Y GO (by kernel_rfl) (se_loc (by kernel_rfl))) (ses_cons (by kernel_rfl) (se_loc (by kernel_rfl)) ses_nil))) (ss_cons (s1_for (by kernel_rfl) (by kernel_rfl) (se_bf Y B (k := 3) (by kernel_rfl) (by kernel_rfl) (by kernel_rfl) (ses_cons (by kernel_rfl) (se_bin (se_bf Y B (k := 1) (by kernel_rfl) (by kernel_rfl) (by kernel_rfl) (ses_cons (by kernel_rfl) (se_loc (by kernel_rfl)) ses_nil)) se_int) (ses_cons (by kernel_rfl) (se_neg se_int) (ses_cons (by kernel_rfl) (se_neg se_int) ses_nil)))) (ss_cons (s1_asg (by kernel_rfl) (by kernel_rfl) (se_meth Y GO FN (by kernel_rfl) (by kernel_rfl) (by kernel_rfl) (Nat.le_of_ble_eq_true rfl) (se_attr Y GO (by kernel_rfl) (se_loc (by kernel_rfl))) (ses_cons (by kernel_rfl) (se_call Y GO FN (by kernel_rfl) (se_glob Y GO (by kernel_rfl)) (ses_cons (by kernel_rfl) (se_idx1 (se_loc (by kernel_rfl)) (se_loc (by kernel_rfl)) rfl) (ses_cons (by kernel_rfl) (se_idx1 (se_loc (by kernel_rfl)) (se_loc (by kernel_rfl)) rfl) (ses_cons (by kernel_rfl) (se_loc (by kernel_rfl)) ses_nil)))) ses_nil))) ss_nil)) (ss_cons (s1_ret (se_meth Y GO FN (by kernel_rfl) (by kernel_rfl) (by kernel_rfl) (Nat.le_of_ble_eq_true rfl) (se_loc (by kernel_rfl)) (ses_cons (by kernel_rfl) (se_loc (by kernel_rfl)) ses_nil))) ss_nil))))))))))
theorem at_Store_put {P : Pm} (Y : PmOk P) (B : BltOk P) (hK : P.K = KK P.w.params) : ∃ sc body, FnAt P 285 ["self", "path", "number"] sc body ∧ ∀ {G : Gx} {n : Nat}, GxOk P G → SndFn P G n → ∀ hm, SS P G n hm sc body St.b_Store_put :=
  ⟨scOf (inA 24 5), bodyOf (inA 24 5), fn_at (o := { cls := .type "function", data := .func fd_Store_put }) (fd := fd_Store_put) Y (by rw [hK]; kernel_rfl) rfl (by rw [hK]; kernel_rfl) (by kernel_rfl) rfl rfl rfl (fun vals h => by obtain ⟨a, b, c, rfl⟩ := len3 h; rfl) (by kernel_rfl) (by rw [hK]; kernel_rfl), fun GO FN hm => d_Store_put Y B GO FN hm⟩
noncomputable def b_Store_cut : List Sm := [.expr (.call (.glob "_wall") [.int 1])]
theorem d_Store_cut {P : Pm} {G : Gx} {n : Nat} (Y : PmOk P) (B : BltOk P) (GO : GxOk P G) (FN : SndFn P G n) (hm : Bool) : SS P G n hm (scOf (inA 24 6)) (bodyOf (inA 24 6)) b_Store_cut := (ss_cons (s1_expr (by kernel_rfl) (se_call Y GO FN (by kernel_rfl) (se_glob Y GO (by kernel_rfl)) (ses_cons (by kernel_rfl) se_int ses_nil))) ss_nil)
theorem at_Store_cut {P : Pm} (Y : PmOk P) (B : BltOk P) (hK : P.K = KK P.w.params) : ∃ sc body, FnAt P 292 ["self", "path"] sc body ∧ ∀ {G : Gx} {n : Nat}, GxOk P G → SndFn P G n → ∀ hm, SS P G n hm sc body b_Store_cut :=
  ⟨scOf (inA 24 6), bodyOf (inA 24 6), fn_at (o := { cls := .type "function", data := .func fd_Store_cut }) (fd := fd_Store_cut) Y (by rw [hK]; kernel_rfl) rfl (by rw [hK]; kernel_rfl) (by kernel_rfl) rfl rfl rfl (fun vals h => by obtain ⟨a, b, rfl⟩ := len2 h; rfl) (by kernel_rfl) (by rw [hK]; kernel_rfl), fun GO FN hm => d_Store_cut Y B GO FN hm⟩
noncomputable def b_Store_snap : List Sm := [.expr (.call (.glob "_wall") [.int 2])]
theorem d_Store_snap {P : Pm} {G : Gx} {n : Nat} (Y : PmOk P) (B : BltOk P) (GO : GxOk P G) (FN : SndFn P G n) (hm : Bool) : SS P G n hm (scOf (inA 24 7)) (bodyOf (inA 24 7)) b_Store_snap := (ss_cons (s1_expr (by kernel_rfl) (se_call Y GO FN (by kernel_rfl) (se_glob Y GO (by kernel_rfl)) (ses_cons (by kernel_rfl) se_int ses_nil))) ss_nil)
theorem at_Store_snap {P : Pm} (Y : PmOk P) (B : BltOk P) (hK : P.K = KK P.w.params) : ∃ sc body, FnAt P 299 ["self"] sc body ∧ ∀ {G : Gx} {n : Nat}, GxOk P G → SndFn P G n → ∀ hm, SS P G n hm sc body b_Store_snap :=
  ⟨scOf (inA 24 7), bodyOf (inA 24 7), fn_at (o := { cls := .type "function", data := .func fd_Store_snap }) (fd := fd_Store_snap) Y (by rw [hK]; kernel_rfl) rfl (by rw [hK]; kernel_rfl) (by kernel_rfl) rfl rfl rfl (fun vals h => by obtain ⟨a, rfl⟩ := len1 h; rfl) (by kernel_rfl) (by rw [hK]; kernel_rfl), fun GO FN hm => d_Store_snap Y B GO FN hm⟩
noncomputable def b_Store_shot : List Sm := [.expr (.call (.glob "_wall") [.int 3])]
theorem d_Store_shot {P : Pm} {G : Gx} {n : Nat} (Y : PmOk P) (B : BltOk P) (GO : GxOk P G) (FN : SndFn P G n) (hm : Bool) : SS P G n hm (scOf (inA 24 8)) (bodyOf (inA 24 8)) b_Store_shot := (ss_cons (s1_expr (by kernel_rfl) (se_call Y GO FN (by kernel_rfl) (se_glob Y GO (by kernel_rfl)) (ses_cons (by kernel_rfl) se_int ses_nil))) ss_nil)
theorem at_Store_shot {P : Pm} (Y : PmOk P) (B : BltOk P) (hK : P.K = KK P.w.params) : ∃ sc body, FnAt P 306 ["self", "number"] sc body ∧ ∀ {G : Gx} {n : Nat}, GxOk P G → SndFn P G n → ∀ hm, SS P G n hm sc body b_Store_shot :=
  ⟨scOf (inA 24 8), bodyOf (inA 24 8), fn_at (o := { cls := .type "function", data := .func fd_Store_shot }) (fd := fd_Store_shot) Y (by rw [hK]; kernel_rfl) rfl (by rw [hK]; kernel_rfl) (by kernel_rfl) rfl rfl rfl (fun vals h => by obtain ⟨a, b, rfl⟩ := len2 h; rfl) (by kernel_rfl) (by rw [hK]; kernel_rfl), fun GO FN hm => d_Store_shot Y B GO FN hm⟩
noncomputable def b_Store_drop : List Sm := [.expr (.call (.glob "_wall") [.int 4])]
theorem d_Store_drop {P : Pm} {G : Gx} {n : Nat} (Y : PmOk P) (B : BltOk P) (GO : GxOk P G) (FN : SndFn P G n) (hm : Bool) : SS P G n hm (scOf (inA 24 9)) (bodyOf (inA 24 9)) b_Store_drop := (ss_cons (s1_expr (by kernel_rfl) (se_call Y GO FN (by kernel_rfl) (se_glob Y GO (by kernel_rfl)) (ses_cons (by kernel_rfl) se_int ses_nil))) ss_nil)
theorem at_Store_drop {P : Pm} (Y : PmOk P) (B : BltOk P) (hK : P.K = KK P.w.params) : ∃ sc body, FnAt P 313 ["self", "shot"] sc body ∧ ∀ {G : Gx} {n : Nat}, GxOk P G → SndFn P G n → ∀ hm, SS P G n hm sc body b_Store_drop :=
  ⟨scOf (inA 24 9), bodyOf (inA 24 9), fn_at (o := { cls := .type "function", data := .func fd_Store_drop }) (fd := fd_Store_drop) Y (by rw [hK]; kernel_rfl) rfl (by rw [hK]; kernel_rfl) (by kernel_rfl) rfl rfl rfl (fun vals h => by obtain ⟨a, b, rfl⟩ := len2 h; rfl) (by kernel_rfl) (by rw [hK]; kernel_rfl), fun GO FN hm => d_Store_drop Y B GO FN hm⟩
noncomputable def b_Store_back : List Sm := [.expr (.call (.glob "_wall") [.int 5])]
theorem d_Store_back {P : Pm} {G : Gx} {n : Nat} (Y : PmOk P) (B : BltOk P) (GO : GxOk P G) (FN : SndFn P G n) (hm : Bool) : SS P G n hm (scOf (inA 24 10)) (bodyOf (inA 24 10)) b_Store_back := (ss_cons (s1_expr (by kernel_rfl) (se_call Y GO FN (by kernel_rfl) (se_glob Y GO (by kernel_rfl)) (ses_cons (by kernel_rfl) se_int ses_nil))) ss_nil)
theorem at_Store_back {P : Pm} (Y : PmOk P) (B : BltOk P) (hK : P.K = KK P.w.params) : ∃ sc body, FnAt P 320 ["self", "shot"] sc body ∧ ∀ {G : Gx} {n : Nat}, GxOk P G → SndFn P G n → ∀ hm, SS P G n hm sc body b_Store_back :=
  ⟨scOf (inA 24 10), bodyOf (inA 24 10), fn_at (o := { cls := .type "function", data := .func fd_Store_back }) (fd := fd_Store_back) Y (by rw [hK]; kernel_rfl) rfl (by rw [hK]; kernel_rfl) (by kernel_rfl) rfl rfl rfl (fun vals h => by obtain ⟨a, b, rfl⟩ := len2 h; rfl) (by kernel_rfl) (by rw [hK]; kernel_rfl), fun GO FN hm => d_Store_back Y B GO FN hm⟩
noncomputable def b_Store_shot_numbers : List Sm := [.expr (.call (.glob "_wall") [.int 6])]
theorem d_Store_shot_numbers {P : Pm} {G : Gx} {n : Nat} (Y : PmOk P) (B : BltOk P) (GO : GxOk P G) (FN : SndFn P G n) (hm : Bool) : SS P G n hm (scOf (inA 24 11)) (bodyOf (inA 24 11)) b_Store_shot_numbers := (ss_cons (s1_expr (by kernel_rfl) (se_call Y GO FN (by kernel_rfl) (se_glob Y GO (by kernel_rfl)) (ses_cons (by kernel_rfl) se_int ses_nil))) ss_nil)
theorem at_Store_shot_numbers {P : Pm} (Y : PmOk P) (B : BltOk P) (hK : P.K = KK P.w.params) : ∃ sc body, FnAt P 327 ["self"] sc body ∧ ∀ {G : Gx} {n : Nat}, GxOk P G → SndFn P G n → ∀ hm, SS P G n hm sc body b_Store_shot_numbers :=
  ⟨scOf (inA 24 11), bodyOf (inA 24 11), fn_at (o := { cls := .type "function", data := .func fd_Store_shot_numbers }) (fd := fd_Store_shot_numbers) Y (by rw [hK]; kernel_rfl) rfl (by rw [hK]; kernel_rfl) (by kernel_rfl) rfl rfl rfl (fun vals h => by obtain ⟨a, rfl⟩ := len1 h; rfl) (by kernel_rfl) (by rw [hK]; kernel_rfl), fun GO FN hm => d_Store_shot_numbers Y B GO FN hm⟩
theorem d_Store_kind {P : Pm} {G : Gx} {n : Nat} (Y : PmOk P) (B : BltOk P) (GO : GxOk P G) (FN : SndFn P G n) (hm : Bool) : SS P G n hm (scOf (inA 24 12)) (bodyOf (inA 24 12)) St.b_Store_kind := (ss_cons (s1_asg (by kernel_rfl) (by kernel_rfl) (se_meth Y GO FN (by kernel_rfl) (by kernel_rfl) (by kernel_rfl) (Nat.le_of_ble_eq_true rfl) (se_loc (by kernel_rfl)) (ses_cons (by kernel_rfl) (se_meth Y GO FN (by kernel_rfl) (by kernel_rfl) (by kernel_rfl) (Nat.le_of_ble_eq_true rfl) (se_loc (by kernel_rfl)) (ses_cons (by kernel_rfl) (se_loc (by kernel_rfl)) ses_nil)) (ses_cons (by kernel_rfl) (se_call Y GO FN (by kernel_rfl) (se_glob Y GO (by kernel_rfl)) (ses_cons (by kernel_rfl) (se_loc (by kernel_rfl)) ses_nil)) ses_nil)))) (ss_cons (s1_if (st_cmp Y (se_loc (by kernel_rfl)) se_none (by kernel_rfl)) (ss_cons (s1_ret se_none) ss_nil) ss_nil) (ss_cons (s1_ret (se_idx1 (se_meth Y GO FN (by kernel_rfl) (by kernel_rfl) (by kernel_rfl) (Nat.le_of_ble_eq_true rfl) (se_attr Y GO (by kernel_rfl) (se_loc (by kernel_rfl))) (ses_cons (by kernel_rfl) (se_loc (by kernel_rfl)) ses_nil)) se_int rfl)) ss_nil)))
theorem at_Store_kind {P : Pm} (Y : PmOk P) (B : BltOk P) (hK : P.K = KK P.w.params) : ∃ sc body, FnAt P 334 ["self", "view", "path"] sc body ∧ ∀ {G : Gx} {n : Nat}, GxOk P G → SndFn P G n → ∀ hm, SS P G n hm sc body St.b_Store_kind :=
  ⟨scOf (inA 24 12), bodyOf (inA 24 12), fn_at (o := { cls := .type "function", data := .func fd_Store_kind }) (fd := fd_Store_kind) Y (by rw [hK]; kernel_rfl) rfl (by rw [hK]; kernel_rfl) (by kernel_rfl) rfl rfl rfl (fun vals h => by obtain ⟨a, b, c, rfl⟩ := len3 h; rfl) (by kernel_rfl) (by rw [hK]; kernel_rfl), fun GO FN hm => d_Store_kind Y B GO FN hm⟩
theorem d_Store_value {P : Pm} {G : Gx} {n : Nat} (Y : PmOk P) (B : BltOk P) (GO : GxOk P G) (FN : SndFn P G n) (hm : Bool) : SS P G n hm (scOf (inA 24 13)) (bodyOf (inA 24 13)) St.b_Store_value := (ss_cons (s1_asg (by kernel_rfl) (by kernel_rfl) (se_meth Y GO FN (by kernel_rfl) (by kernel_rfl) (by kernel_rfl) (Nat.le_of_ble_eq_true rfl) (se_loc (by kernel_rfl)) (ses_cons (by kernel_rfl) (se_loc (by kernel_rfl)) (ses_cons (by kernel_rfl) (se_loc (by kernel_rfl)) ses_nil)))) (ss_cons (s1_if (st_cmp Y (se_loc (by kernel_rfl)) se_none (by kernel_rfl)) (ss_cons (s1_raise Y GO (by kernel_rfl)) ss_nil) ss_nil) (ss_cons (s1_if (st_cmp Y (se_loc (by kernel_rfl)) se_str (by kernel_rfl)) (ss_cons (s1_raise Y GO (by kernel_rfl)) ss_nil) ss_nil) (ss_cons (s1_ret (se_idx1 (se_meth Y GO FN (by kernel_rfl) (by kernel_rfl) (by kernel_rfl) (Nat.le_of_ble_eq_true rfl) (se_attr Y GO (by kernel_rfl) (se_loc (by kernel_rfl))) (ses_cons (by kernel_rfl) (se_meth Y GO FN (by kernel_rfl) (by kernel_rfl) (by kernel_rfl) (Nat.le_of_ble_eq_true rfl) (se_loc (by kernel_rfl)) (ses_cons (by kernel_rfl) (se_meth Y GO FN (by kernel_rfl) (by kernel_rfl) (by kernel_rfl) (Nat.le_of_ble_eq_true rfl) (se_loc (by kernel_rfl)) (ses_cons (by kernel_rfl) (se_loc (by kernel_rfl)) ses_nil)) (ses_cons (by kernel_rfl) (se_call Y GO FN (by kernel_rfl) (se_glob Y GO (by kernel_rfl)) (ses_cons (by kernel_rfl) (se_loc (by kernel_rfl)) ses_nil)) ses_nil))) ses_nil)) se_int rfl)) ss_nil))))
theorem at_Store_value {P : Pm} (Y : PmOk P) (B : BltOk P) (hK : P.K = KK P.w.params) : ∃ sc body, FnAt P 341 ["self", "view", "path"] sc body ∧ ∀ {G : Gx} {n : Nat}, GxOk P G → SndFn P G n → ∀ hm, SS P G n hm sc body St.b_Store_value :=
  ⟨scOf (inA 24 13), bodyOf (inA 24 13), fn_at (o := { cls := .type "function", data := .func fd_Store_value }) (fd := fd_Store_value) Y (by rw [hK]; kernel_rfl) rfl (by rw [hK]; kernel_rfl) (by kernel_rfl) rfl rfl rfl (fun vals h => by obtain ⟨a, b, c, rfl⟩ := len3 h; rfl) (by kernel_rfl) (by rw [hK]; kernel_rfl), fun GO FN hm => d_Store_value Y B GO FN hm⟩
theorem d_Store_names {P : Pm} {G : Gx} {n : Nat} (Y : PmOk P) (B : BltOk P) (GO : GxOk P G) (FN : SndFn P G n) (hm : Bool) : SS P G n hm (scOf (inA 24 14)) (bodyOf (inA 24 14)) St.b_Store_names := (ss_cons (s1_asg (by kernel_rfl) (by kernel_rfl) (se_meth Y GO FN (by kernel_rfl) (by kernel_rfl) (by kernel_rfl) (Nat.le_of_ble_eq_true rfl) (se_loc (by kernel_rfl)) (ses_cons (by kernel_rfl) (se_loc (by kernel_rfl)) (ses_cons (by kernel_rfl) (se_loc (by kernel_rfl)) ses_nil)))) (ss_cons (s1_if (st_cmp Y (se_loc (by kernel_rfl)) se_none (by kernel_rfl)) (ss_cons (s1_raise Y GO (by kernel_rfl)) ss_nil) ss_nil) (ss_cons (s1_if (st_cmp Y (se_loc (by kernel_rfl)) se_str (by kernel_rfl)) (ss_cons (s1_raise Y GO (by kernel_rfl)) ss_nil) ss_nil) (ss_cons (s1_asg (by kernel_rfl) (by kernel_rfl) (se_idx1 (se_meth Y GO FN (by kernel_rfl) (by kernel_rfl) (by kernel_rfl) (Nat.le_of_ble_eq_true rfl) (se_attr Y GO (by kernel_rfl) (se_loc (by kernel_rfl))) (ses_cons (by kernel_rfl) (se_meth Y GO FN (by kernel_rfl) (by kernel_rfl) (by kernel_rfl) (Nat.le_of_ble_eq_true rfl) (se_loc (by kernel_rfl)) (ses_cons (by kernel_rfl) (se_meth Y GO FN (by kernel_rfl) (by kernel_rfl) (by kernel_rfl) (Nat.le_of_ble_eq_true rfl) (se_loc (by kernel_rfl)) (ses_cons (by kernel_rfl) (se_loc (by kernel_rfl)) ses_nil)) (ses_cons (by kernel_rfl) (se_call Y GO FN (by kernel_rfl) (se_glob Y GO (by kernel_rfl)) (ses_cons (by kernel_rfl) (se_loc (by kernel_rfl)) ses_nil)) ses_nil))) ses_nil)) se_int rfl)) (ss_cons (s1_ret (se_comp (by kernel_rfl) (by kernel_rfl) (se_loc (by kernel_rfl)) (se_idx1 (se_loc (by kernel_rfl)) se_int rfl) STall.nil)) ss_nil)))))
theorem at_Store_names {P : Pm} (Y : PmOk P) (B : BltOk P) (hK : P.K = KK P.w.params) : ∃ sc body, FnAt P 346 ["self", "view", "path"] sc body ∧ ∀ {G : Gx} {n : Nat}, GxOk P G → SndFn P G n → ∀ hm, SS P G n hm sc body St.b_Store_names :=
  ⟨scOf (inA 24 14), bodyOf (inA 24 14), fn_at (o := { cls := .type "function", data := .func fd_Store_names }) (fd := fd_Store_names) Y (by rw [hK]; kernel_rfl) rfl (by rw [hK]; kernel_rfl) (by kernel_rfl) rfl rfl rfl (fun vals h => by obtain ⟨a, b, c, rfl⟩ := len3 h; rfl) (by kernel_rfl) (by rw [hK]; kernel_rfl), fun GO FN hm => d_Store_names Y B GO FN hm⟩
noncomputable def b_Store_both : List Sm := [.expr (.call (.glob "_wall") [.int 7])]
theorem d_Store_both {P : Pm} {G : Gx} {n : Nat} (Y : PmOk P) (B : BltOk P) (GO : GxOk P G) (FN : SndFn P G n) (hm : Bool) : SS P G n hm (scOf (inA 24 15)) (bodyOf (inA 24 15)) b_Store_both := (ss_cons (s1_expr (by kernel_rfl) (se_call Y GO FN (by kernel_rfl) (se_glob Y GO (by kernel_rfl)) (ses_cons (by kernel_rfl) se_int ses_nil))) ss_nil)
theorem at_Store_both {P : Pm} (Y : PmOk P) (B : BltOk P) (hK : P.K = KK P.w.params) : ∃ sc body, FnAt P 353 ["self", "box"] sc body ∧ ∀ {G : Gx} {n : Nat}, GxOk P G → SndFn P G n → ∀ hm, SS P G n hm sc body b_Store_both :=
  ⟨scOf (inA 24 15), bodyOf (inA 24 15), fn_at (o := { cls := .type "function", data := .func fd_Store_both }) (fd := fd_Store_both) Y (by rw [hK]; kernel_rfl) rfl (by rw [hK]; kernel_rfl) (by kernel_rfl) rfl rfl rfl (fun vals h => by obtain ⟨a, b, rfl⟩ := len2 h; rfl) (by kernel_rfl) (by rw [hK]; kernel_rfl), fun GO FN hm => d_Store_both Y B GO FN hm⟩
noncomputable def b_Store_changes : List Sm := [.expr (.call (.glob "_wall") [.int 8])]
theorem d_Store_changes {P : Pm} {G : Gx} {n : Nat} (Y : PmOk P) (B : BltOk P) (GO : GxOk P G) (FN : SndFn P G n) (hm : Bool) : SS P G n hm (scOf (inA 24 16)) (bodyOf (inA 24 16)) b_Store_changes := (ss_cons (s1_expr (by kernel_rfl) (se_call Y GO FN (by kernel_rfl) (se_glob Y GO (by kernel_rfl)) (ses_cons (by kernel_rfl) se_int ses_nil))) ss_nil)
theorem at_Store_changes {P : Pm} (Y : PmOk P) (B : BltOk P) (hK : P.K = KK P.w.params) : ∃ sc body, FnAt P 360 ["self", "one", "other"] sc body ∧ ∀ {G : Gx} {n : Nat}, GxOk P G → SndFn P G n → ∀ hm, SS P G n hm sc body b_Store_changes :=
  ⟨scOf (inA 24 16), bodyOf (inA 24 16), fn_at (o := { cls := .type "function", data := .func fd_Store_changes }) (fd := fd_Store_changes) Y (by rw [hK]; kernel_rfl) rfl (by rw [hK]; kernel_rfl) (by kernel_rfl) rfl rfl rfl (fun vals h => by obtain ⟨a, b, c, rfl⟩ := len3 h; rfl) (by kernel_rfl) (by rw [hK]; kernel_rfl), fun GO FN hm => d_Store_changes Y B GO FN hm⟩
theorem d__law_whole {P : Pm} {G : Gx} {n : Nat} (Y : PmOk P) (B : BltOk P) (GO : GxOk P G) (FN : SndFn P G n) (hm : Bool) : SS P G n hm (scOf (stA 26)) (bodyOf (stA 26)) b__law_whole := (ss_cons (s1_ret (se_bop1 (sbs_cons (se_isi Y B GO (by kernel_rfl) (by kernel_rfl) (by kernel_rfl) (by kernel_rfl) (se_loc (by kernel_rfl))) (sbs_one (se_not (se_isi Y B GO (by kernel_rfl) (by kernel_rfl) (by kernel_rfl) (by kernel_rfl) (se_loc (by kernel_rfl)))))))) ss_nil)
theorem at__law_whole {P : Pm} (Y : PmOk P) (B : BltOk P) (hK : P.K = KK P.w.params) : ∃ sc body, FnAt P 374 ["_law_seen"] sc body ∧ ∀ {G : Gx} {n : Nat}, GxOk P G → SndFn P G n → ∀ hm, SS P G n hm sc body b__law_whole :=
  ⟨scOf (stA 26), bodyOf (stA 26), fn_at (o := { cls := .type "function", data := .func fd__law_whole }) (fd := fd__law_whole) Y (by rw [hK]; kernel_rfl) rfl (by rw [hK]; kernel_rfl) (by kernel_rfl) rfl rfl rfl (fun vals h => by obtain ⟨a, rfl⟩ := len1 h; rfl) (by kernel_rfl) (by rw [hK]; kernel_rfl), fun GO FN hm => d__law_whole Y B GO FN hm⟩
theorem d__law_cell_at {P : Pm} {G : Gx} {n : Nat} (Y : PmOk P) (B : BltOk P) (GO : GxOk P G) (FN : SndFn P G n) (hm : Bool) : SS P G n hm (scOf (stA 27)) (bodyOf (stA 27)) b__law_cell_at := (ss_cons (s1_if (st_cmp Y (se_loc (by kernel_rfl)) (se_bf Y B (k := 1) (by kernel_rfl) (by kernel_rfl) (by kernel_rfl) (ses_cons (by kernel_rfl) (se_loc (by kernel_rfl)) ses_nil)) (by kernel_rfl)) (ss_cons (s1_ret (se_idx1 (se_loc (by kernel_rfl)) (se_loc (by kernel_rfl)) rfl)) ss_nil) ss_nil) (ss_cons (s1_ret se_int) ss_nil))
theorem at__law_cell_at {P : Pm} (Y : PmOk P) (B : BltOk P) (hK : P.K = KK P.w.params) : ∃ sc body, FnAt P 381 ["_law_script", "_law_k"] sc body ∧ ∀ {G : Gx} {n : Nat}, GxOk P G → SndFn P G n → ∀ hm, SS P G n hm sc body b__law_cell_at :=
  ⟨scOf (stA 27), bodyOf (stA 27), fn_at (o := { cls := .type "function", data := .func fd__law_cell_at }) (fd := fd__law_cell_at) Y (by rw [hK]; kernel_rfl) rfl (by rw [hK]; kernel_rfl) (by kernel_rfl) rfl rfl rfl (fun vals h => by obtain ⟨a, b, rfl⟩ := len2 h; rfl) (by kernel_rfl) (by rw [hK]; kernel_rfl), fun GO FN hm => d__law_cell_at Y B GO FN hm⟩
theorem d__law_name_by {P : Pm} {G : Gx} {n : Nat} (Y : PmOk P) (B : BltOk P) (GO : GxOk P G) (FN : SndFn P G n) (hm : Bool) : SS P G n hm (scOf (stA 28)) (bodyOf (stA 28)) b__law_name_by := (ss_cons (s1_asg (by kernel_rfl) (by kernel_rfl) se_str) (ss_cons (s1_ret (se_bm (by kernel_rfl) (by kernel_rfl) (by kernel_rfl) (by kernel_rfl) (Nat.le_of_ble_eq_true rfl) se_str (ses_cons (by kernel_rfl) (se_comp (by kernel_rfl) (by kernel_rfl) (se_bf Y B (k := 1) (by kernel_rfl) (by kernel_rfl) (by kernel_rfl) (ses_cons (by kernel_rfl) (se_bin se_int (se_bin (se_loc (by kernel_rfl)) se_int)) ses_nil)) (se_idx1 (se_loc (by kernel_rfl)) (se_bin (se_bin (se_bin (se_loc (by kernel_rfl)) se_int) (se_bin (se_loc (by kernel_rfl)) (se_bin se_int (se_bin (se_bin (se_loc (by kernel_rfl)) se_int) se_int)))) se_int) rfl) STall.nil) ses_nil))) ss_nil))
theorem at__law_name_by {P : Pm} (Y : PmOk P) (B : BltOk P) (hK : P.K = KK P.w.params) : ∃ sc body, FnAt P 386 ["_law_cell"] sc body ∧ ∀ {G : Gx} {n : Nat}, GxOk P G → SndFn P G n → ∀ hm, SS P G n hm sc body b__law_name_by :=
  ⟨scOf (stA 28), bodyOf (stA 28), fn_at (o := { cls := .type "function", data := .func fd__law_name_by }) (fd := fd__law_name_by) Y (by rw [hK]; kernel_rfl) rfl (by rw [hK]; kernel_rfl) (by kernel_rfl) rfl rfl rfl (fun vals h => by obtain ⟨a, rfl⟩ := len1 h; rfl) (by kernel_rfl) (by rw [hK]; kernel_rfl), fun GO FN hm => d__law_name_by Y B GO FN hm⟩
theorem d__law_count {P : Pm} {G : Gx} {n : Nat} (Y : PmOk P) (B : BltOk P) (GO : GxOk P G) (FN : SndFn P G n) (hm : Bool) : SS P G n hm (scOf (stA 29)) (bodyOf (stA 29)) b__law_count := (ss_cons (s1_ret (se_bop1 (sbs_cons (se_call Y GO FN (by kernel_rfl) (se_glob Y GO (by kernel_rfl)) (ses_cons (by kernel_rfl) (se_loc (by kernel_rfl)) ses_nil)) (sbs_one (se_cmp Y (se_loc (by kernel_rfl)) (se_loc (by kernel_rfl)) (by kernel_rfl)))))) ss_nil)
theorem at__law_count {P : Pm} (Y : PmOk P) (B : BltOk P) (hK : P.K = KK P.w.params) : ∃ sc body, FnAt P 393 ["_law_seen", "_law_due"] sc body ∧ ∀ {G : Gx} {n : Nat}, GxOk P G → SndFn P G n → ∀ hm, SS P G n hm sc body b__law_count :=
  ⟨scOf (stA 29), bodyOf (stA 29), fn_at (o := { cls := .type "function", data := .func fd__law_count }) (fd := fd__law_count) Y (by rw [hK]; kernel_rfl) rfl (by rw [hK]; kernel_rfl) (by kernel_rfl) rfl rfl rfl (fun vals h => by obtain ⟨a, b, rfl⟩ := len2 h; rfl) (by kernel_rfl) (by rw [hK]; kernel_rfl), fun GO FN hm => d__law_count Y B GO FN hm⟩
theorem d__law_branch {P : Pm} {G : Gx} {n : Nat} (Y : PmOk P) (B : BltOk P) (GO : GxOk P G) (FN : SndFn P G n) (hm : Bool) : SS P G n hm (scOf (stA 30)) (bodyOf (stA 30)) b__law_branch := (ss_cons (s1_if (st_bop (sts_more (st_not (st_of_se (se_isi Y B GO (by kernel_rfl) (by kernel_rfl) (by kernel_rfl) (by kernel_rfl) (se_loc (by kernel_rfl))) rfl)) (sts_more (st_cmp Y (se_bf Y B (k := 1) (by kernel_rfl) (by kernel_rfl) (by kernel_rfl) (ses_cons (by kernel_rfl) (se_loc (by kernel_rfl)) ses_nil)) se_int (by kernel_rfl)) (sts_more (st_not (st_of_se (se_isi Y B GO (by kernel_rfl) (by kernel_rfl) (by kernel_rfl) (by kernel_rfl) (se_idx1 (se_loc (by kernel_rfl)) se_int rfl)) rfl)) (sts_one (st_cmp Y (se_idx1 (se_loc (by kernel_rfl)) se_int rfl) se_str (by kernel_rfl))))))) (ss_cons (s1_ret se_bool) ss_nil) ss_nil) (ss_cons (s1_asg (by kernel_rfl) (by kernel_rfl) (se_idx1 (se_loc (by kernel_rfl)) se_int rfl)) (ss_cons (s1_if (st_bop (sts_more (st_not (st_of_se (se_isi Y B GO (by kernel_rfl) (by kernel_rfl) (by kernel_rfl) (by kernel_rfl) (se_loc (by kernel_rfl))) rfl)) (sts_more (st_cmp Y (se_bf Y B (k := 1) (by kernel_rfl) (by kernel_rfl) (by kernel_rfl) (ses_cons (by kernel_rfl) (se_loc (by kernel_rfl)) ses_nil)) se_int (by kernel_rfl)) (sts_more (st_not (st_of_se (se_isi Y B GO (by kernel_rfl) (by kernel_rfl) (by kernel_rfl) (by kernel_rfl) (se_idx1 (se_loc (by kernel_rfl)) se_int rfl)) rfl)) (sts_one (st_cmp Y (se_bf Y B (k := 1) (by kernel_rfl) (by kernel_rfl) (by kernel_rfl) (ses_cons (by kernel_rfl) (se_idx1 (se_loc (by kernel_rfl)) se_int rfl) ses_nil)) se_int (by kernel_rfl))))))) (ss_cons (s1_ret se_bool) ss_nil) ss_nil) (ss_cons (s1_ret (se_bop1 (sbs_cons (se_isi Y B GO (by kernel_rfl) (by kernel_rfl) (by kernel_rfl) (by kernel_rfl) (se_idx1 (se_idx1 (se_loc (by kernel_rfl)) se_int rfl) se_int rfl)) (sbs_cons (se_cmp Y (se_idx1 (se_idx1 (se_loc (by kernel_rfl)) se_int rfl) se_int rfl) (se_loc (by kernel_rfl)) (by kernel_rfl)) (sbs_one (se_call Y GO FN (by kernel_rfl) (se_glob Y GO (by kernel_rfl)) (ses_cons (by kernel_rfl) (se_idx1 (se_idx1 (se_loc (by kernel_rfl)) se_int rfl) se_int rfl) (ses_cons (by kernel_rfl) (se_loc (by kernel_rfl)) ses_nil)))))))) ss_nil))))
theorem at__law_branch {P : Pm} (Y : PmOk P) (B : BltOk P) (hK : P.K = KK P.w.params) : ∃ sc body, FnAt P 400 ["_law_seen", "_law_name", "_law_box"] sc body ∧ ∀ {G : Gx} {n : Nat}, GxOk P G → SndFn P G n → ∀ hm, SS P G n hm sc body b__law_branch :=
  ⟨scOf (stA 30), bodyOf (stA 30), fn_at (o := { cls := .type "function", data := .func fd__law_branch }) (fd := fd__law_branch) Y (by rw [hK]; kernel_rfl) rfl (by rw [hK]; kernel_rfl) (by kernel_rfl) rfl rfl rfl (fun vals h => by obtain ⟨a, b, c, rfl⟩ := len3 h; rfl) (by kernel_rfl) (by rw [hK]; kernel_rfl), fun GO FN hm => d__law_branch Y B GO FN hm⟩
theorem d__law_one_name {P : Pm} {G : Gx} {n : Nat} (Y : PmOk P) (B : BltOk P) (GO : GxOk P G) (FN : SndFn P G n) (hm : Bool) : SS P G n hm (scOf (stA 31)) (bodyOf (stA 31)) b__law_one_name := (ss_cons (s1_ret (se_bop1 (sbs_cons (se_isi Y B GO (by kernel_rfl) (by kernel_rfl) (by kernel_rfl) (by kernel_rfl) (se_loc (by kernel_rfl))) (sbs_cons (se_cmp Y (se_bf Y B (k := 1) (by kernel_rfl) (by kernel_rfl) (by kernel_rfl) (ses_cons (by kernel_rfl) (se_loc (by kernel_rfl)) ses_nil)) se_int (by kernel_rfl)) (sbs_cons (se_isi Y B GO (by kernel_rfl) (by kernel_rfl) (by kernel_rfl) (by kernel_rfl) (se_idx1 (se_loc (by kernel_rfl)) se_int rfl)) (sbs_one (se_cmp Y (se_idx1 (se_loc (by kernel_rfl)) se_int rfl) (se_loc (by kernel_rfl)) (by kernel_rfl)))))))) ss_nil)
theorem at__law_one_name {P : Pm} (Y : PmOk P) (B : BltOk P) (hK : P.K = KK P.w.params) : ∃ sc body, FnAt P 407 ["_law_seen", "_law_name"] sc body ∧ ∀ {G : Gx} {n : Nat}, GxOk P G → SndFn P G n → ∀ hm, SS P G n hm sc body b__law_one_name :=
  ⟨scOf (stA 31), bodyOf (stA 31), fn_at (o := { cls := .type "function", data := .func fd__law_one_name }) (fd := fd__law_one_name) Y (by rw [hK]; kernel_rfl) rfl (by rw [hK]; kernel_rfl) (by kernel_rfl) rfl rfl rfl (fun vals h => by obtain ⟨a, b, rfl⟩ := len2 h; rfl) (by kernel_rfl) (by rw [hK]; kernel_rfl), fun GO FN hm => d__law_one_name Y B GO FN hm⟩
theorem d__law_way {P : Pm} {G : Gx} {n : Nat} (Y : PmOk P) (B : BltOk P) (GO : GxOk P G) (FN : SndFn P G n) (hm : Bool) : SS P G n hm (scOf (stA 32)) (bodyOf (stA 32)) b__law_way := (ss_cons (s1_asg (by kernel_rfl) (by kernel_rfl) (se_bf Y B (k := 1) (by kernel_rfl) (by kernel_rfl) (by kernel_rfl) (ses_cons (by kernel_rfl) (se_loc (by kernel_rfl)) ses_nil))) (ss_cons (s1_for (by kernel_rfl) (by kernel_rfl) (se_bf Y B (k := 1) (by kernel_rfl) (by kernel_rfl) (by kernel_rfl) (ses_cons (by kernel_rfl) (se_loc (by kernel_rfl)) ses_nil)) (ss_cons (s1_if (st_not (st_of_se (se_call Y GO FN (by kernel_rfl) (se_glob Y GO (by kernel_rfl)) (ses_cons (by kernel_rfl) (se_meth Y GO FN (by kernel_rfl) (by kernel_rfl) (by kernel_rfl) (Nat.le_of_ble_eq_true rfl) (se_attr Y GO (by kernel_rfl) (se_loc (by kernel_rfl))) (ses_cons (by kernel_rfl) (se_bin (se_bin (se_loc (by kernel_rfl)) se_int) (se_loc (by kernel_rfl))) ses_nil)) (ses_cons (by kernel_rfl) (se_idx1 (se_loc (by kernel_rfl)) (se_loc (by kernel_rfl)) rfl) (ses_cons (by kernel_rfl) (se_bin (se_bin (se_loc (by kernel_rfl)) se_int) (se_loc (by kernel_rfl))) ses_nil)))) rfl)) (ss_cons (s1_ret se_bool) ss_nil) ss_nil) (ss_cons (s1_if (st_bop (sts_more (st_cmp Y (se_meth Y GO FN (by kernel_rfl) (by kernel_rfl) (by kernel_rfl) (Nat.le_of_ble_eq_true rfl) (se_loc (by kernel_rfl)) (ses_cons (by kernel_rfl) se_none (ses_cons (by kernel_rfl) (se_slice (se_loc (by kernel_rfl)) so_none (so_some (se_loc (by kernel_rfl)))) ses_nil))) se_str (by kernel_rfl)) (sts_one (st_not (st_of_se (se_call Y GO FN (by kernel_rfl) (se_glob Y GO (by kernel_rfl)) (ses_cons (by kernel_rfl) (se_meth Y GO FN (by kernel_rfl) (by kernel_rfl) (by kernel_rfl) (Nat.le_of_ble_eq_true rfl) (se_loc (by kernel_rfl)) (ses_cons (by kernel_rfl) se_none (ses_cons (by kernel_rfl) (se_slice (se_loc (by kernel_rfl)) so_none (so_some (se_loc (by kernel_rfl)))) ses_nil))) (ses_cons (by kernel_rfl) (se_idx1 (se_loc (by kernel_rfl)) (se_loc (by kernel_rfl)) rfl) ses_nil))) rfl))))) (ss_cons (s1_ret se_bool) ss_nil) ss_nil) (ss_cons (s1_if (st_cmp Y (se_meth Y GO FN (by kernel_rfl) (by kernel_rfl) (by kernel_rfl) (Nat.le_of_ble_eq_true rfl) (se_loc (by kernel_rfl)) (ses_cons (by kernel_rfl) se_none (ses_cons (by kernel_rfl) (se_bin (se_slice (se_loc (by kernel_rfl)) so_none (so_some (se_loc (by kernel_rfl)))) (se_list (ses_cons (by kernel_rfl) (se_idx1 se_str (se_bf Y B (k := 1) (by kernel_rfl) (by kernel_rfl) (by kernel_rfl) (ses_cons (by kernel_rfl) (se_cmp Y (se_idx1 (se_loc (by kernel_rfl)) (se_loc (by kernel_rfl)) rfl) se_str (by kernel_rfl)) ses_nil)) rfl) ses_nil))) ses_nil))) se_none (by kernel_rfl)) (ss_cons (s1_ret se_bool) ss_nil) ss_nil) ss_nil)))) (ss_cons (s1_asg (by kernel_rfl) (by kernel_rfl) (se_meth Y GO FN (by kernel_rfl) (by kernel_rfl) (by kernel_rfl) (Nat.le_of_ble_eq_true rfl) (se_attr Y GO (by kernel_rfl) (se_loc (by kernel_rfl))) (ses_cons (by kernel_rfl) se_int ses_nil))) (ss_cons (s1_if (st_bop (sts_more (st_not (st_of_se (se_isi Y B GO (by kernel_rfl) (by kernel_rfl) (by kernel_rfl) (by kernel_rfl) (se_loc (by kernel_rfl))) rfl)) (sts_more (st_cmp Y (se_bf Y B (k := 1) (by kernel_rfl) (by kernel_rfl) (by kernel_rfl) (ses_cons (by kernel_rfl) (se_loc (by kernel_rfl)) ses_nil)) se_int (by kernel_rfl)) (sts_more (st_cmp Y (se_idx1 (se_loc (by kernel_rfl)) se_int rfl) se_str (by kernel_rfl)) (sts_one (st_not (st_of_se (se_call Y GO FN (by kernel_rfl) (se_glob Y GO (by kernel_rfl)) (ses_cons (by kernel_rfl) (se_idx1 (se_loc (by kernel_rfl)) se_int rfl) (ses_cons (by kernel_rfl) (se_loc (by kernel_rfl)) ses_nil))) rfl))))))) (ss_cons (s1_ret se_bool) ss_nil) ss_nil) (ss_cons (s1_if (st_bop (sts_more (st_cmp Y (se_loc (by kernel_rfl)) se_int (by kernel_rfl)) (sts_one (st_cmp Y (se_meth Y GO FN (by kernel_rfl) (by kernel_rfl) (by kernel_rfl) (Nat.le_of_ble_eq_true rfl) (se_loc (by kernel_rfl)) (ses_cons (by kernel_rfl) se_none (ses_cons (by kernel_rfl) (se_bin (se_loc (by kernel_rfl)) (se_list (ses_cons (by kernel_rfl) se_str ses_nil))) ses_nil))) se_none (by kernel_rfl))))) (ss_cons (s1_ret se_bool) ss_nil) ss_nil) (ss_cons (s1_ret (se_bop1 (sbs_cons (se_cmp Y (se_meth Y GO FN (by kernel_rfl) (by kernel_rfl) (by kernel_rfl) (Nat.le_of_ble_eq_true rfl) (se_loc (by kernel_rfl)) (ses_cons (by kernel_rfl) se_none (ses_cons (by kernel_rfl) (se_loc (by kernel_rfl)) ses_nil))) se_str (by kernel_rfl)) (sbs_one (se_call Y GO FN (by kernel_rfl) (se_glob Y GO (by kernel_rfl)) (ses_cons (by kernel_rfl) (se_meth Y GO FN (by kernel_rfl) (by kernel_rfl) (by kernel_rfl) (Nat.le_of_ble_eq_true rfl) (se_loc (by kernel_rfl)) (ses_cons (by kernel_rfl) se_none (ses_cons (by kernel_rfl) (se_loc (by kernel_rfl)) ses_nil))) (ses_cons (by kernel_rfl) (se_loc (by kernel_rfl)) ses_nil))))))) ss_nil))))))
theorem at__law_way {P : Pm} (Y : PmOk P) (B : BltOk P) (hK : P.K = KK P.w.params) : ∃ sc body, FnAt P 414 ["_law_store", "_law_path", "_law_number"] sc body ∧ ∀ {G : Gx} {n : Nat}, GxOk P G → SndFn P G n → ∀ hm, SS P G n hm sc body b__law_way :=
  ⟨scOf (stA 32), bodyOf (stA 32), fn_at (o := { cls := .type "function", data := .func fd__law_way }) (fd := fd__law_way) Y (by rw [hK]; kernel_rfl) rfl (by rw [hK]; kernel_rfl) (by kernel_rfl) rfl rfl rfl (fun vals h => by obtain ⟨a, b, c, rfl⟩ := len3 h; rfl) (by kernel_rfl) (by rw [hK]; kernel_rfl), fun GO FN hm => d__law_way Y B GO FN hm⟩
theorem d_law {P : Pm} {G : Gx} {n : Nat} (Y : PmOk P) (B : BltOk P) (GO : GxOk P G) (FN : SndFn P G n) (hm : Bool) : SS P G n hm (scOf (stA 33)) (bodyOf (stA 33)) b_law := (ss_cons (s1_asgComp (by kernel_rfl) (by kernel_rfl) (by kernel_rfl) (se_bf Y B (k := 1) (by kernel_rfl) (by kernel_rfl) (by kernel_rfl) (ses_cons (by kernel_rfl) (se_bin se_int (se_bin (se_call Y GO FN (by kernel_rfl) (se_glob Y GO (by kernel_rfl)) (ses_cons (by kernel_rfl) (se_loc (by kernel_rfl)) (ses_cons (by kernel_rfl) se_int ses_nil))) se_int)) ses_nil)) (se_call Y GO FN (by kernel_rfl) (se_glob Y GO (by kernel_rfl)) (ses_cons (by kernel_rfl) (se_call Y GO FN (by kernel_rfl) (se_glob Y GO (by kernel_rfl)) (ses_cons (by kernel_rfl) (se_loc (by kernel_rfl)) (ses_cons (by kernel_rfl) (se_bin se_int (se_loc (by kernel_rfl))) ses_nil))) ses_nil)) STall.nil) (ss_cons (s1_asg (by kernel_rfl) (by kernel_rfl) (se_bin (se_bin (se_bin (se_call Y GO FN (by kernel_rfl) (se_glob Y GO (by kernel_rfl)) (ses_cons (by kernel_rfl) (se_loc (by kernel_rfl)) (ses_cons (by kernel_rfl) se_int ses_nil))) (se_bin (se_bin se_int (se_bin se_int se_int)) se_int)) (se_bin se_int se_int)) se_int)) (ss_cons (s1_asg (by kernel_rfl) (by kernel_rfl) (se_call Y GO FN (by kernel_rfl) (se_glob Y GO (by kernel_rfl)) ses_nil)) (ss_cons (s1_asg (by kernel_rfl) (by kernel_rfl) (se_call Y GO FN (by kernel_rfl) (se_glob Y GO (by kernel_rfl)) ses_nil)) (ss_cons (s1_asg (by kernel_rfl) (by kernel_rfl) (se_bf Y B (k := 1) (by kernel_rfl) (by kernel_rfl) (by kernel_rfl) (ses_cons (by kernel_rfl) (se_loc (by kernel_rfl)) ses_nil))) (ss_cons (s1_if (st_cmp Y (se_bin (se_call Y GO FN (by kernel_rfl) (se_glob Y GO (by kernel_rfl)) (ses_cons (by kernel_rfl) (se_loc (by kernel_rfl)) (ses_cons (by kernel_rfl) se_int ses_nil))) se_int) se_int (by kernel_rfl)) (ss_cons (s1_asg (by kernel_rfl) (by kernel_rfl) (se_bf Y B (k := 1) (by kernel_rfl) (by kernel_rfl) (by kernel_rfl) (ses_cons (by kernel_rfl) (se_loc (by kernel_rfl)) ses_nil))) ss_nil) ss_nil) (ss_cons (s1_if (st_bop (sts_more (st_not (st_of_se (se_call Y GO FN (by kernel_rfl) (se_glob Y GO (by kernel_rfl)) (ses_cons (by kernel_rfl) (se_meth Y GO FN (by kernel_rfl) (by kernel_rfl) (by kernel_rfl) (Nat.le_of_ble_eq_true rfl) (se_loc (by kernel_rfl)) (ses_cons (by kernel_rfl) se_none ses_nil)) (ses_cons (by kernel_rfl) se_int ses_nil))) rfl)) (sts_more (st_cmp Y (se_meth Y GO FN (by kernel_rfl) (by kernel_rfl) (by kernel_rfl) (Nat.le_of_ble_eq_true rfl) (se_loc (by kernel_rfl)) (ses_cons (by kernel_rfl) se_none (ses_cons (by kernel_rfl) (se_list ses_nil) ses_nil))) (se_list ses_nil) (by kernel_rfl)) (sts_one (st_not (st_of_se (se_call Y GO FN (by kernel_rfl) (se_glob Y GO (by kernel_rfl)) (ses_cons (by kernel_rfl) (se_attr Y GO (by kernel_rfl) (se_attr Y GO (by kernel_rfl) (se_loc (by kernel_rfl)))) (ses_cons (by kernel_rfl) se_int ses_nil))) rfl)))))) (ss_cons (s1_ret se_bool) ss_nil) ss_nil) (ss_cons (s1_if (st_bop (sts_more (st_not (st_of_se (se_call Y GO FN (by kernel_rfl) (se_glob Y GO (by kernel_rfl)) (ses_cons (by kernel_rfl) (se_meth Y GO FN (by kernel_rfl) (by kernel_rfl) (by kernel_rfl) (Nat.le_of_ble_eq_true rfl) (se_loc (by kernel_rfl)) (ses_cons (by kernel_rfl) (se_loc (by kernel_rfl)) (ses_cons (by kernel_rfl) (se_loc (by kernel_rfl)) ses_nil))) (ses_cons (by kernel_rfl) se_int ses_nil))) rfl)) (sts_one (st_cmp Y (se_bf Y B (k := 1) (by kernel_rfl) (by kernel_rfl) (by kernel_rfl) (ses_cons (by kernel_rfl) (se_loc (by kernel_rfl)) ses_nil)) (se_loc (by kernel_rfl)) (by kernel_rfl))))) (ss_cons (s1_ret se_bool) ss_nil) ss_nil) (ss_cons (s1_for (by kernel_rfl) (by kernel_rfl) (se_list (ses_cons (by kernel_rfl) (se_loc (by kernel_rfl)) (ses_cons (by kernel_rfl) (se_loc (by kernel_rfl)) ses_nil))) (ss_cons (s1_if (st_bop (sts_more (st_not (st_of_se (se_call Y GO FN (by kernel_rfl) (se_glob Y GO (by kernel_rfl)) (ses_cons (by kernel_rfl) (se_loc (by kernel_rfl)) (ses_cons (by kernel_rfl) (se_loc (by kernel_rfl)) (ses_cons (by kernel_rfl) (se_loc (by kernel_rfl)) ses_nil)))) rfl)) (sts_one (st_not (st_of_se (se_call Y GO FN (by kernel_rfl) (se_glob Y GO (by kernel_rfl)) (ses_cons (by kernel_rfl) (se_meth Y GO FN (by kernel_rfl) (by kernel_rfl) (by kernel_rfl) (Nat.le_of_ble_eq_true rfl) (se_loc (by kernel_rfl)) (ses_cons (by kernel_rfl) se_none ses_nil)) (ses_cons (by kernel_rfl) (se_bin (se_bf Y B (k := 1) (by kernel_rfl) (by kernel_rfl) (by kernel_rfl) (ses_cons (by kernel_rfl) (se_loc (by kernel_rfl)) ses_nil)) se_int) ses_nil))) rfl))))) (ss_cons (s1_ret se_bool) ss_nil) ss_nil) (ss_cons (s1_if (st_bop (sts_more (st_not (st_of_se (se_call Y GO FN (by kernel_rfl) (se_glob Y GO (by kernel_rfl)) (ses_cons (by kernel_rfl) (se_meth Y GO FN (by kernel_rfl) (by kernel_rfl) (by kernel_rfl) (Nat.le_of_ble_eq_true rfl) (se_loc (by kernel_rfl)) (ses_cons (by kernel_rfl) (se_loc (by kernel_rfl)) (ses_cons (by kernel_rfl) (se_loc (by kernel_rfl)) ses_nil))) (ses_cons (by kernel_rfl) se_int ses_nil))) rfl)) (sts_one (st_not (st_of_se (se_call Y GO FN (by kernel_rfl) (se_glob Y GO (by kernel_rfl)) (ses_cons (by kernel_rfl) (se_attr Y GO (by kernel_rfl) (se_attr Y GO (by kernel_rfl) (se_loc (by kernel_rfl)))) (ses_cons (by kernel_rfl) (se_bin (se_bf Y B (k := 1) (by kernel_rfl) (by kernel_rfl) (by kernel_rfl) (ses_cons (by kernel_rfl) (se_loc (by kernel_rfl)) ses_nil)) se_int) ses_nil))) rfl))))) (ss_cons (s1_ret se_bool) ss_nil) ss_nil) ss_nil))) (ss_cons (s1_if (st_cmp Y (se_meth Y GO FN (by kernel_rfl) (by kernel_rfl) (by kernel_rfl) (Nat.le_of_ble_eq_true rfl) (se_attr Y GO (by kernel_rfl) (se_loc (by kernel_rfl))) ses_nil) (se_comp (by kernel_rfl) (by kernel_rfl) (se_bf Y B (k := 1) (by kernel_rfl) (by kernel_rfl) (by kernel_rfl) (ses_cons (by kernel_rfl) (se_bin (se_bf Y B (k := 1) (by kernel_rfl) (by kernel_rfl) (by kernel_rfl) (ses_cons (by kernel_rfl) (se_loc (by kernel_rfl)) ses_nil)) se_int) ses_nil)) (se_bin (se_loc (by kernel_rfl)) se_int) STall.nil) (by kernel_rfl)) (ss_cons (s1_ret se_bool) ss_nil) ss_nil) (ss_cons (s1_ret (se_bop1 (sbs_cons (se_cmp Y (se_meth Y GO FN (by kernel_rfl) (by kernel_rfl) (by kernel_rfl) (Nat.le_of_ble_eq_true rfl) (se_attr Y GO (by kernel_rfl) (se_loc (by kernel_rfl))) ses_nil) (se_list (ses_cons (by kernel_rfl) se_int ses_nil)) (by kernel_rfl)) (sbs_cons (se_cmp Y (se_meth Y GO FN (by kernel_rfl) (by kernel_rfl) (by kernel_rfl) (Nat.le_of_ble_eq_true rfl) (se_loc (by kernel_rfl)) (ses_cons (by kernel_rfl) se_none (ses_cons (by kernel_rfl) (se_list ses_nil) ses_nil))) (se_list ses_nil) (by kernel_rfl)) (sbs_one (se_call Y GO FN (by kernel_rfl) (se_glob Y GO (by kernel_rfl)) (ses_cons (by kernel_rfl) (se_attr Y GO (by kernel_rfl) (se_attr Y GO (by kernel_rfl) (se_loc (by kernel_rfl)))) (ses_cons (by kernel_rfl) se_int ses_nil)))))))) ss_nil)))))))))))
theorem at_law {P : Pm} (Y : PmOk P) (B : BltOk P) (hK : P.K = KK P.w.params) : ∃ sc body, FnAt P 419 ["_law_script"] sc body ∧ ∀ {G : Gx} {n : Nat}, GxOk P G → SndFn P G n → ∀ hm, SS P G n hm sc body b_law :=
  ⟨scOf (stA 33), bodyOf (stA 33), fn_at (o := { cls := .type "function", data := .func fd_law }) (fd := fd_law) Y (by rw [hK]; kernel_rfl) rfl (by rw [hK]; kernel_rfl) (by kernel_rfl) rfl rfl rfl (fun vals h => by obtain ⟨a, rfl⟩ := len1 h; rfl) (by kernel_rfl) (by rw [hK]; kernel_rfl), fun GO FN hm => d_law Y B GO FN hm⟩
noncomputable def tabL : List (Addr × (List Str × List Sm)) := [((21 : Addr), ((["k"] : List Str), b__wall)), ((123 : Addr), ((["thing"] : List Str), St.b_is_name)), ((128 : Addr), ((["path"] : List Str), St.b_checked)), ((142 : Addr), ((["self"] : List Str), St.b_Pile___init__)), ((149 : Addr), ((["self", "box"] : List Str), St.b_Pile_need)), ((156 : Addr), ((["self", "what"] : List Str), St.b_Pile_fresh)), ((163 : Addr), ((["self", "number"] : List Str), St.b_Pile_leaf)), ((170 : Addr), ((["self", "rows"] : List Str), St.b_Pile_branch)), ((177 : Addr), ((["self", "box"] : List Str), St.b_Pile_content)), ((184 : Addr), ((["self", "box"] : List Str), St.b_Pile_hold)), ((191 : Addr), ((["self", "box"] : List Str), b_Pile_holders)), ((196 : Addr), ((["self", "box"] : List Str), St.b_Pile_let_go)), ((203 : Addr), ((["self"] : List Str), St.b_Pile_kept)), ((217 : Addr), ((["rows", "name"] : List Str), St.b_box_of)), ((222 : Addr), ((["rows", "name", "box"] : List Str), St.b_placed)), ((229 : Addr), ((["path"] : List Str), St.b_need_way)), ((236 : Addr), ((["number"] : List Str), St.b_need_number)), ((250 : Addr), ((["self"] : List Str), St.b_Store___init__)), ((257 : Addr), ((["self", "view"] : List Str), St.b_Store_top)), ((264 : Addr), ((["self", "box", "names"] : List Str), St.b_Store_found)), ((271 : Addr), ((["self", "names"] : List Str), St.b_Store_ways)), ((278 : Addr), ((["self", "box"] : List Str), St.b_Store_changed)), ((285 : Addr), ((["self", "path", "number"] : List Str), St.b_Store_put)), ((292 : Addr), ((["self", "path"] : List Str), b_Store_cut)), ((299 : Addr), ((["self"] : List Str), b_Store_snap)), ((306 : Addr), ((["self", "number"] : List Str), b_Store_shot)), ((313 : Addr), ((["self", "shot"] : List Str), b_Store_drop)), ((320 : Addr), ((["self", "shot"] : List Str), b_Store_back)), ((327 : Addr), ((["self"] : List Str), b_Store_shot_numbers)), ((334 : Addr), ((["self", "view", "path"] : List Str), St.b_Store_kind)), ((341 : Addr), ((["self", "view", "path"] : List Str), St.b_Store_value)), ((346 : Addr), ((["self", "view", "path"] : List Str), St.b_Store_names)), ((353 : Addr), ((["self", "box"] : List Str), b_Store_both)), ((360 : Addr), ((["self", "one", "other"] : List Str), b_Store_changes)), ((374 : Addr), ((["_law_seen"] : List Str), b__law_whole)), ((381 : Addr), ((["_law_script", "_law_k"] : List Str), b__law_cell_at)), ((386 : Addr), ((["_law_cell"] : List Str), b__law_name_by)), ((393 : Addr), ((["_law_seen", "_law_due"] : List Str), b__law_count)), ((400 : Addr), ((["_law_seen", "_law_name", "_law_box"] : List Str), b__law_branch)), ((407 : Addr), ((["_law_seen", "_law_name"] : List Str), b__law_one_name)), ((414 : Addr), ((["_law_store", "_law_path", "_law_number"] : List Str), b__law_way)), ((419 : Addr), ((["_law_script"] : List Str), b_law))]
noncomputable def tab : Tab := fun f => tabL.lookup f
theorem tab_ok {P : Pm} (Y : PmOk P) (B : BltOk P) (hK : P.K = KK P.w.params) : TabOk P tab := tabOk_of (L := tabL) (.cons (at__wall Y B hK) (.cons (at_is_name Y B hK) (.cons (at_checked Y B hK) (.cons (at_Pile___init__ Y B hK) (.cons (at_Pile_need Y B hK) (.cons (at_Pile_fresh Y B hK) (.cons (at_Pile_leaf Y B hK) (.cons (at_Pile_branch Y B hK) (.cons (at_Pile_content Y B hK) (.cons (at_Pile_hold Y B hK) (.cons (at_Pile_holders Y B hK) (.cons (at_Pile_let_go Y B hK) (.cons (at_Pile_kept Y B hK) (.cons (at_box_of Y B hK) (.cons (at_placed Y B hK) (.cons (at_need_way Y B hK) (.cons (at_need_number Y B hK) (.cons (at_Store___init__ Y B hK) (.cons (at_Store_top Y B hK) (.cons (at_Store_found Y B hK) (.cons (at_Store_ways Y B hK) (.cons (at_Store_changed Y B hK) (.cons (at_Store_put Y B hK) (.cons (at_Store_cut Y B hK) (.cons (at_Store_snap Y B hK) (.cons (at_Store_shot Y B hK) (.cons (at_Store_drop Y B hK) (.cons (at_Store_back Y B hK) (.cons (at_Store_shot_numbers Y B hK) (.cons (at_Store_kind Y B hK) (.cons (at_Store_value Y B hK) (.cons (at_Store_names Y B hK) (.cons (at_Store_both Y B hK) (.cons (at_Store_changes Y B hK) (.cons (at__law_whole Y B hK) (.cons (at__law_cell_at Y B hK) (.cons (at__law_name_by Y B hK) (.cons (at__law_count Y B hK) (.cons (at__law_branch Y B hK) (.cons (at__law_one_name Y B hK) (.cons (at__law_way Y B hK) (.cons (at_law Y B hK) RowsOk.nil))))))))))))))))))))))))))))))))))))))))))
end Mine.L4
end

section
open PySem PyProof.Rows
namespace Mine.L4
open Mine Mine.St

section
variable {A : Ad} {B : La} {G : Gx} {H H' : Hp} {Q : QV} {X : XV}

theorem c_lbranch (F : LF G A B) (hcnt : ∀ {H : Hp} {Q : QV} {X : XV} {i : Int} {t u : Tok}, Q (.bool true) H → G.fn B.law_count false [.int i t, .int i u] H Q X) {v : Value} {n : Str} {b : Int} {t u : Tok} (hv : RCt H v (.br [(n, b)])) (q : Q (.bool true) H) : wpF G false ["_law_seen", "_law_name", "_law_box"] b__law_branch [v, .str n t, .int b u] H Q X := by
  refine ⟨rfl, ?_⟩
  obtain ⟨a, l, xs, rfl, ha, hl, hr⟩ := hv
  cases hr with
  | @cons x _ xs' _ h1 h2 =>
  cases h2
  obtain ⟨tp, rfl, htp⟩ := h1
  conv => whnf
  rw [ha]
  conv => whnf
  refine ⟨rfl, ?_⟩
  conv => whnf
  refine ⟨.inl rfl, ?_⟩
  conv => whnf
  rw [ha]
  conv => whnf
  rw [ha]
  conv => whnf
  refine ⟨rfl, ?_⟩
  conv => whnf
  rw [ha]
  conv => whnf
  rw [ha]
  conv => whnf
  rw [hl]
  conv => whnf
  refine ⟨rfl, ?_⟩
  conv => whnf
  refine ⟨.inl rfl, ?_⟩
  conv => whnf
  rw [hl]
  conv => whnf
  rw [hl]
  conv => whnf
  rw [htp]
  conv => whnf
  refine ⟨rfl, ?_⟩
  conv => whnf
  rw [hl]
  conv => whnf
  refine ⟨.inl rfl, ?_⟩
  conv => whnf
  rw [htp]
  conv => whnf
  rw [hl]
  conv => whnf
  rw [htp]
  conv => whnf
  refine ⟨rfl, ?_⟩
  conv => whnf
  rw [hl]
  conv => whnf
  rw [htp]
  conv => whnf
  rw [decide_eq_true rfl]
  conv => whnf
  rw [F.g__law_count]
  conv => whnf
  rw [hl]
  conv => whnf
  rw [htp]
  conv => whnf
  rw [F.i__law_count]
  conv => whnf
  refine hcnt ?_
  conv => whnf
  exact q

theorem c_lone {c : Addr} {n : Str} {t : Tok} (hc : H c = some (.list [.str n 0])) (q : Q (.bool true) H) : wpF G false ["_law_seen", "_law_name"] b__law_one_name [.ref c, .str n t] H Q X := by
  refine ⟨rfl, ?_⟩
  conv => whnf
  rw [hc]
  conv => whnf
  refine ⟨rfl, ?_⟩
  conv => whnf
  refine ⟨.inl rfl, ?_⟩
  conv => whnf
  rw [hc]
  conv => whnf
  rw [hc]
  conv => whnf
  refine ⟨rfl, ?_⟩
  conv => whnf
  rw [hc]
  conv => whnf
  rw [decide_eq_true rfl]
  conv => whnf
  exact q

/-- the law's own, by the depth of their calls -/
structure U (G : Gx) (A : Ad) (B : La) : Prop extends T5 G A where
  cell : ∀ {H : Hp} {a : Addr} {ns : List Int} {k : Nat} {t : Tok}, H a = some (.rlist (ns.map fun n => Value.int n 0)) → ∀ {Q : QV} {X : XV}, Q (.int (ns.getD k 0) 0) H → G.fn B.law_cell_at false [.ref a, .int k t] H Q X
  name_by : ∀ {H : Hp} {Q : QV} {X : XV} {c : Int} {t : Tok}, (∀ x H', Kp [] H H' → Good x → Q (.str x 0) H') → G.fn B.law_name_by false [.int c t] H Q X
  count : ∀ {H : Hp} {Q : QV} {X : XV} {i : Int} {t u : Tok}, Q (.bool true) H → G.fn B.law_count false [.int i t, .int i u] H Q X
  lbranch : ∀ {H : Hp} {Q : QV} {X : XV} {v : Value} {n : Str} {b : Int} {t u : Tok}, RCt H v (.br [(n, b)]) → Q (.bool true) H → G.fn B.law_branch false [v, .str n t, .int b u] H Q X
  lone : ∀ {H : Hp} {Q : QV} {X : XV} {c : Addr} {n : Str} {t : Tok}, H c = some (.list [.str n 0]) → Q (.bool true) H → G.fn B.law_one_name false [.ref c, .str n t] H Q X
  put_new : ∀ {H : Hp} {Q : QV} {X : XV} {σ : SA} {bs : List (Int × Ct)} {cs : List (Int × Int)} {mk tree : Int} {shots : List (Int × Int)} {last : Int}, StoreR A H σ bs cs mk tree shots last → Short bs → ∀ {a : Addr} {xs : List Str} {m : Int}, PathAt H a xs → xs ≠ [] → -(10 ^ 30) < m → m < 10 ^ 30 →
    ∀ {W : Nat → List (Str × Int)}, (∀ k < xs.length, wayAt bs tree xs k = some (W k)) → ∀ {r : Option Int}, find bs tree xs = some r → (r = none ∨ ∃ b m', r = some b ∧ get bs b = some (.leaf m') ∧ m' ≠ m) → bs.length ≤ 2 ^ 20 → cs.length ≤ 2 ^ 20 →
    ∀ {bs1 bs2 : List (Int × Ct)} {cs1 cs2 : List (Int × Int)} {mk1 box k1 g' : Int} {n : Nat} {c c2 : Ct} {N : Nat → Str}, (∀ k, xs[k]? = some (N k) ∨ xs.length ≤ k) →
    build W N xs.length (put bs (mk + 1) (.leaf m)) (put cs (mk + 1) 0) (mk + 1) (mk + 1) = some (bs1, cs1, mk1, box) → get bs1 box = some c → get cs1 box = some k1 → cs1.length ≤ 2 ^ 20 → get bs1 tree = some c2 → lgo n [tree] bs1 (put cs1 box (k1 + 1)) 0 = some (bs2, cs2, g') →
    (∀ H', StoreR A H' σ bs2 cs2 mk1 box shots last → Kp σ.M H H' → Q (.int g' 0) H') → G.fn A.Store_put false [.ref σ.sx, .ref a, .int m 0] H Q X
  put_same : ∀ {H : Hp} {Q : QV} {X : XV} {σ : SA} {bs : List (Int × Ct)} {cs : List (Int × Int)} {mk tree : Int} {shots : List (Int × Int)} {last : Int}, StoreR A H σ bs cs mk tree shots last → Short bs → ∀ {a : Addr} {xs : List Str} {m b : Int}, PathAt H a xs → xs ≠ [] → -(10 ^ 30) < m → m < 10 ^ 30 →
    ∀ {W : Nat → List (Str × Int)}, (∀ k < xs.length, wayAt bs tree xs k = some (W k)) → find bs tree xs = some (some b) → get bs b = some (.leaf m) → (∀ H', Kp [] H H' → Q (.int 0 0) H') → G.fn A.Store_put false [.ref σ.sx, .ref a, .int m 0] H Q X
  sinit : ∀ {H : Hp} {x d : Addr}, H d = none → H x = none → d ≠ x → ∀ {Q : QV} {X : XV}, (∀ H' σ, σ.sx = x → StoreR A H' σ [(1, .br [])] [(1, 1)] 1 1 [] 0 → Kp [] H H' → (∀ a ∈ σ.M, H a = none) → Q .none H') → G.fn A.Store_init false [.ref x] ((H.upd d (.ns [])).upd x (.inst A.cS d)) Q X

structure TabU (tab : Tab) (A : Ad) (B : La) : Prop extends TabS tab A where
  lwhole : HasF tab B.law_whole ["_law_seen"] b__law_whole
  lcell : HasF tab B.law_cell_at ["_law_script", "_law_k"] b__law_cell_at
  lname : HasF tab B.law_name_by ["_law_cell"] b__law_name_by
  lcount : HasF tab B.law_count ["_law_seen", "_law_due"] b__law_count
  lbranch : HasF tab B.law_branch ["_law_seen", "_law_name", "_law_box"] b__law_branch
  lone : HasF tab B.law_one_name ["_law_seen", "_law_name"] b__law_one_name
  lway : HasF tab B.law_way ["_law_store", "_law_path", "_law_number"] b__law_way
  llaw : HasF tab B.law ["_law_script"] b_law

theorem count_at {g : Gx} {tab : Tab} (f : LF g A B) (t : TabU tab A B) (n : Nat) {H : Hp} {Q : QV} {X : XV} {i : Int} {t' u : Tok} (q : Q (.bool true) H) : (GG g tab (n + 2)).fn B.law_count false [.int i t', .int i u] H Q X :=
  fn_gg t.lcount (c_count (f.gg tab _) (fun hg _ _ h => fn_gg t.lwhole (c_whole hg h)) q)
theorem u6 {g : Gx} {tab : Tab} (f : LF g A B) (t : TabU tab A B) (n : Nat) : U (GG g tab (n + 6)) A B where
  toT5 := t5 f.toEnvS t.toTabS (n + 1)
  cell := fun h _ _ q => fn_gg t.lcell (c_cell h q)
  name_by := fun q => fn_gg t.lname (c_name_by q)
  count := fun q => count_at f t (n + 4) q
  lbranch := fun h q => fn_gg t.lbranch (c_lbranch (f.gg tab _) (fun q => count_at f t (n + 3) q) h q)
  lone := fun h q => fn_gg t.lone (c_lone h q)
  put_new := fun h hs _ _ _ hp hne m1 m2 _ hW _ hf hr z1 z2 _ _ _ _ _ _ _ _ _ _ _ _ hN hb b1 b2 b3 b4 hg q => fn_gg t.put (r_put_new (f.toEnvS.gg tab _) (t5 f.toEnvS t.toTabS n) h hs hp hne m1 m2 hW hf hr z1 z2 hN hb b1 b2 b3 b4 hg q)
  put_same := fun h hs _ _ _ _ hp hne m1 m2 _ hW hf hb q => fn_gg t.put (r_put_same (f.toEnvS.gg tab _) (t5 f.toEnvS t.toTabS n) h hs hp hne m1 m2 hW hf hb q)
  sinit := fun hd hx hdx _ _ q => fn_gg t.sinit (r_sinit (f.toEnvS.gg tab _) (t5 f.toEnvS t.toTabS n).toR3 (fun h1 h2 h3 _ _ q => fn_gg t.pinit (c_init (f.toEnvS.toEnv.gg tab _) h1 h2 h3 q)) hd hx hdx q)

theorem c_lway (F : LF G A B) (L : U G A B) {σ : SA} {xs : List Str} {m : Int} {cs : List (Int × Int)} {shots : List (Int × Int)} {last : Int} {pl : Addr} (h : StoreR A H σ (bsF xs m) cs ((xs.length : Int) + 2) ((xs.length : Int) + 2) shots last) (hpl : H pl = some (.list (xs.map fun x => Value.str x 0))) (hg : ∀ x ∈ xs, Good x) (hz : xs.length ≤ 8) (hne : xs ≠ [])
    (q : ∀ H', Kp [] H H' → Q (.bool true) H') : wpF G false ["_law_store", "_law_path", "_law_number"] b__law_way [.ref σ.sx, .ref pl, .int m 0] H Q X := by
  refine ⟨rfl, ?_⟩
  have hs := short_F (m := m) hz
  have ez : ((xs.map fun x => Value.str x 0).length : Int) = (xs.length : Nat) := by simp
  conv => whnf
  refine ⟨.inl rfl, ?_⟩
  conv => whnf
  rw [hpl]
  conv => whnf
  refine ⟨.inr rfl, ?_⟩
  rw [ez]
  conv => whnf
  refine ⟨by omega, by omega, fun r hr => ?_⟩
  conv => whnf
  refine ⟨rfl, ?_⟩
  conv => whnf
  rw [Hp.upd_same]
  conv => whnf
  refine ⟨small_nat (by omega), ?_⟩
  have k1 : Kp [] H (H.upd r (.range 0 (xs.length : Nat) 1)) := kp_new hr _
  generalize H.upd r (.range 0 (xs.length : Nat) 1) = H1 at *
  refine forG_range (fun i l H2 => Ls l [("_law_store", .ref σ.sx), ("_law_path", .ref pl), ("_law_number", .int m 0), ("_law_size", .int (xs.length : Nat) 0)] ∧ Kp [] H H2) (fun _ _ _ _ => trivial) ?_ ?_ ⟨⟨rfl, rfl, rfl, rfl, trivial⟩, k1⟩
  · rintro i hi l H2 ⟨hl, k2⟩ K hK _
    have hl' := hl.upd (y := "_law_k") (v := .int i 0) rfl
    have hk : (l.upd "_law_k" (.int i 0)) "_law_k" = some (.int i 0) := rfl
    generalize l.upd "_law_k" (.int i 0) = l1 at *
    clear hl
    obtain ⟨g1, g2, g3, g4, -⟩ := id hl'
    have h2 := h.kp0 k2
    obtain ⟨bvs, hp2, _⟩ := id h2.p.ex
    have hpl2 := k2.list hpl
    have hx : at? (xs.map fun x => Value.str x 0) (i : Int) = some (.str (xs.getD i "") 0) := by rw [at_nat]; simp [hi]
    conv => whnf
    rw [F.g__law_branch]
    conv => whnf
    rw [g1]
    conv => whnf
    rw [h2.i]
    conv => whnf
    rw [h2.n]
    conv => whnf
    refine ⟨F.f_Store_pile, ?_⟩
    conv => whnf
    rw [hp2.i]
    conv => whnf
    rw [hp2.n, F.m_Pile_content]
    conv => whnf
    refine ⟨rfl, ?_⟩
    conv => whnf
    rw [g4]
    conv => whnf
    rw [hk]
    conv => whnf
    refine L.content h2.p (get_at (m := m) hi) (fun rows e => by cases e; simp [sizeLine]) fun v H3 hv k3 _ => ?_
    conv => whnf
    rw [g2]
    conv => whnf
    rw [hk]
    conv => whnf
    rw [k3.list hpl2]
    conv => whnf
    rw [hx]
    conv => whnf
    rw [g4]
    conv => whnf
    rw [hk]
    conv => whnf
    rw [F.i__law_branch]
    conv => whnf
    refine L.lbranch hv ?_
    conv => whnf
    have kA := k2.trans k3
    have hA := h.kp0 kA
    rw [g1]
    conv => whnf
    rw [hA.i]
    conv => whnf
    rw [hA.n, F.m_Store_kind]
    conv => whnf
    refine ⟨rfl, ?_⟩
    conv => whnf
    rw [g2]
    conv => whnf
    rw [hk]
    conv => whnf
    rw [kA.list hpl]
    conv => whnf
    refine ⟨by simp [sizeLine]; omega, fun sa hsa => ?_⟩
    rw [take_slice _ i (by simp; omega), ← List.map_take]
    conv => whnf
    have ksa : Kp [] H3 (H3.upd sa (.list ((xs.take i).map fun x => Value.str x 0))) := kp_new hsa _
    have qsa : (H3.upd sa (.list ((xs.take i).map fun x => Value.str x 0))) sa = some (.list ((xs.take i).map fun x => Value.str x 0)) := Hp.upd_same _ _ _
    have psa : PathAt (H3.upd sa (.list ((xs.take i).map fun x => Value.str x 0))) sa (xs.take i) := ⟨.inl (Hp.upd_same _ _ _), fun x hx => hg x (List.mem_of_mem_take hx), by rw [List.length_take]; omega⟩
    generalize H3.upd sa (.list ((xs.take i).map fun x => Value.str x 0)) = H4 at *
    refine L.kind (hA.kp0 ksa) hs psa (find_k (m := m) (by omega)) (fun b e => by cases e; exact ⟨_, get_at hi⟩) fun H5 k5 => ?_
    rw [show kindW (bsF xs m) (some ((xs.length : Int) + 2 - i)) = .str "branch" 0 by unfold kindW; dsimp only; rw [get_at hi]]
    have kB := (kA.trans ksa).trans k5
    have hB := h.kp0 kB
    conv => whnf
    rw [F.g__law_one_name]
    conv => whnf
    rw [g1]
    conv => whnf
    rw [hB.i]
    conv => whnf
    rw [hB.n, F.m_Store_names]
    conv => whnf
    refine ⟨rfl, ?_⟩
    conv => whnf
    rw [g2]
    conv => whnf
    rw [hk]
    conv => whnf
    rw [kB.list hpl]
    conv => whnf
    refine ⟨by simp [sizeLine]; omega, fun sb hsb => ?_⟩
    rw [take_slice _ i (by simp; omega), ← List.map_take]
    conv => whnf
    have ksb : Kp [] H5 (H5.upd sb (.list ((xs.take i).map fun x => Value.str x 0))) := kp_new hsb _
    have qsb : (H5.upd sb (.list ((xs.take i).map fun x => Value.str x 0))) sb = some (.list ((xs.take i).map fun x => Value.str x 0)) := Hp.upd_same _ _ _
    have psb : PathAt (H5.upd sb (.list ((xs.take i).map fun x => Value.str x 0))) sb (xs.take i) := ⟨.inl (Hp.upd_same _ _ _), fun x hx => hg x (List.mem_of_mem_take hx), by rw [List.length_take]; omega⟩
    generalize H5.upd sb (.list ((xs.take i).map fun x => Value.str x 0)) = H6 at *
    refine L.names (hB.kp0 ksb) hs psb (find_k (m := m) (by omega)) (get_at hi) fun nl H7 k7 hnl => ?_
    have kC := (kB.trans ksb).trans k7
    have hC := h.kp0 kC
    conv => whnf
    rw [g2]
    conv => whnf
    rw [hk]
    conv => whnf
    rw [kC.list hpl]
    conv => whnf
    rw [hx]
    conv => whnf
    rw [F.i__law_one_name]
    conv => whnf
    refine L.lone hnl ?_
    conv => whnf
    rw [g1]
    conv => whnf
    rw [hC.i]
    conv => whnf
    rw [hC.n, F.m_Store_kind]
    conv => whnf
    refine ⟨rfl, ?_⟩
    conv => whnf
    rw [g2]
    conv => whnf
    rw [hk]
    conv => whnf
    rw [kC.list hpl]
    conv => whnf
    refine ⟨by simp [sizeLine]; omega, fun sc hsc => ?_⟩
    rw [take_slice _ i (by simp; omega), ← List.map_take]
    conv => whnf
    have ksc : Kp [] H7 (H7.upd sc (.list ((xs.take i).map fun x => Value.str x 0))) := kp_new hsc _
    have qsc : (H7.upd sc (.list ((xs.take i).map fun x => Value.str x 0))) sc = some (.list ((xs.take i).map fun x => Value.str x 0)) := Hp.upd_same _ _ _
    have psc : PathAt (H7.upd sc (.list ((xs.take i).map fun x => Value.str x 0))) sc (xs.take i) := ⟨.inl (Hp.upd_same _ _ _), fun x hx => hg x (List.mem_of_mem_take hx), by rw [List.length_take]; omega⟩
    generalize H7.upd sc (.list ((xs.take i).map fun x => Value.str x 0)) = H8 at *
    rw [g2]
    conv => whnf
    rw [hk]
    conv => whnf
    rw [(kC.trans ksc).list hpl]
    conv => whnf
    rw [hx]
    conv => whnf
    refine ⟨.inr rfl, ?_⟩
    by_cases hxr : xs.getD i "" = ("r" : Str)
    · rw [decide_eq_true hxr]
      conv => whnf
      refine ⟨by decide +kernel, ?_⟩
      conv => whnf
      refine ⟨Nat.le_of_ble_eq_true rfl, fun ol hol => ?_⟩
      conv => whnf
      have kol : Kp [] H8 (H8.upd ol (.list [.str "q" 0])) := kp_new hol _
      have qol : (H8.upd ol (.list [.str "q" 0])) ol = some (.list [.str "q" 0]) := Hp.upd_same _ _ _
      rw [show (chr1 _ : Str) = "q" from rfl]
      generalize H8.upd ol (.list [.str "q" 0]) = H9 at *
      rw [kol.list qsc, qol]
      conv => whnf
      refine ⟨by simp [sizeLine]; omega, fun pl2 hpl2' => ?_⟩
      conv => whnf
      have epl : ((xs.take i).map fun x => Value.str x 0) ++ [Value.str "q" 0] = (xs.take i ++ [("q" : Str)]).map fun x => Value.str x 0 := by simp
      rw [epl]
      have kpl : Kp [] H9 (H9.upd pl2 (.list ((xs.take i ++ [("q" : Str)]).map fun x => Value.str x 0))) := kp_new hpl2' _
      have kD := ((kC.trans ksc).trans kol).trans kpl
      refine L.kind (h.kp0 kD) hs ⟨.inl (Hp.upd_same _ _ _), ?_, by simp; omega⟩ (find_other (m := m) hi (show ("q" : Str) ≠ xs.getD i "" from fun e => absurd (e.trans hxr) (by decide +kernel))) (fun b e => nomatch e) fun H10 k10 => ?_
      · intro x hx
        rcases List.mem_append.1 hx with hx | hx
        · exact hg x (List.mem_of_mem_take hx)
        · rw [List.mem_singleton.1 hx]; exact ⟨by decide +kernel, by decide +kernel, by decide +kernel⟩
      conv => whnf
      exact (hK _ _ ⟨hl', kD.trans k10⟩).1
    · rw [decide_eq_false hxr]
      conv => whnf
      refine ⟨by decide +kernel, ?_⟩
      conv => whnf
      refine ⟨Nat.le_of_ble_eq_true rfl, fun ol hol => ?_⟩
      conv => whnf
      have kol : Kp [] H8 (H8.upd ol (.list [.str "r" 0])) := kp_new hol _
      have qol : (H8.upd ol (.list [.str "r" 0])) ol = some (.list [.str "r" 0]) := Hp.upd_same _ _ _
      rw [show (chr1 _ : Str) = "r" from rfl]
      generalize H8.upd ol (.list [.str "r" 0]) = H9 at *
      rw [kol.list qsc, qol]
      conv => whnf
      refine ⟨by simp [sizeLine]; omega, fun pl2 hpl2' => ?_⟩
      conv => whnf
      have epl : ((xs.take i).map fun x => Value.str x 0) ++ [Value.str "r" 0] = (xs.take i ++ [("r" : Str)]).map fun x => Value.str x 0 := by simp
      rw [epl]
      have kpl : Kp [] H9 (H9.upd pl2 (.list ((xs.take i ++ [("r" : Str)]).map fun x => Value.str x 0))) := kp_new hpl2' _
      have kD := ((kC.trans ksc).trans kol).trans kpl
      refine L.kind (h.kp0 kD) hs ⟨.inl (Hp.upd_same _ _ _), ?_, by simp; omega⟩ (find_other (m := m) hi (fun e => hxr e.symm)) (fun b e => nomatch e) fun H10 k10 => ?_
      · intro x hx
        rcases List.mem_append.1 hx with hx | hx
        · exact hg x (List.mem_of_mem_take hx)
        · rw [List.mem_singleton.1 hx]; exact ⟨by decide +kernel, by decide +kernel, by decide +kernel⟩
      conv => whnf
      exact (hK _ _ ⟨hl', kD.trans k10⟩).1
  · rintro l H2 ⟨hl, k2⟩
    obtain ⟨g1, g2, g3, g4, -⟩ := id hl
    have h2 := h.kp0 k2
    obtain ⟨bvs, hp2, _⟩ := id h2.p.ex
    have hpl2 := k2.list hpl
    have g2F : get (bsF xs m) 2 = some (.leaf m) := by rw [get_bsF, if_pos rfl]
    conv => whnf
    rw [g1]
    conv => whnf
    rw [h2.i]
    conv => whnf
    rw [h2.n]
    conv => whnf
    refine ⟨F.f_Store_pile, ?_⟩
    conv => whnf
    rw [hp2.i]
    conv => whnf
    rw [hp2.n, F.m_Pile_content]
    conv => whnf
    refine ⟨rfl, ?_⟩
    conv => whnf
    refine L.content h2.p g2F (fun rows e => nomatch e) fun v H3 hv k3 _ => ?_
    obtain ⟨a3, rfl, ha3⟩ := hv
    conv => whnf
    rw [ha3]
    conv => whnf
    refine ⟨rfl, ?_⟩
    conv => whnf
    refine ⟨.inl rfl, ?_⟩
    conv => whnf
    rw [ha3]
    conv => whnf
    rw [ha3]
    conv => whnf
    rw [F.g__law_count]
    conv => whnf
    rw [ha3]
    conv => whnf
    rw [show (l.upd (Str.ofString "_law_leaf") (.ref a3)) (Str.ofString "_law_number") = some (.int m 0) from g3]
    conv => whnf
    rw [F.i__law_count]
    conv => whnf
    refine L.count ?_
    conv => whnf
    have hl3 : Ls (l.upd "_law_leaf" (.ref a3)) [("_law_store", .ref σ.sx), ("_law_path", .ref pl), ("_law_number", .int m 0), ("_law_size", .int (xs.length : Nat) 0)] := ⟨g1, g2, g3, g4, trivial⟩
    generalize l.upd "_law_leaf" (.ref a3) = l3 at *
    clear hl g1 g2 g3 g4
    obtain ⟨g1, g2, g3, g4, -⟩ := id hl3
    have kA := k2.trans k3
    -- the end
    have fin : ∀ H5, Kp [] H H5 → wpSs G false (b__law_way.drop 5) l3 H5 (fun f _ H' => match f with | .next => Q .none H' | .ret v => Q v H' | .cont => False) (fun C _ H' => X C H') := by
      intro H5 k5
      have h5 := h.kp0 k5
      have p5 : PathAt H5 pl xs := ⟨.inl (k5.list hpl), hg, hz⟩
      have fk : find (bsF xs m) ((xs.length : Int) + 2) xs = some (some 2) := by
        have := find_k (xs := xs) (m := m) (k := xs.length) (Nat.le_refl _)
        rw [List.take_length] at this
        rw [this]; congr 2; omega
      conv => whnf
      rw [g1]
      conv => whnf
      rw [h5.i]
      conv => whnf
      rw [h5.n, F.m_Store_kind]
      conv => whnf
      refine ⟨rfl, ?_⟩
      conv => whnf
      rw [g2]
      conv => whnf
      refine L.kind h5 hs p5 fk (fun b e => by cases e; exact ⟨_, g2F⟩) fun H6 k6 => ?_
      rw [show kindW (bsF xs m) (some 2) = .str "leaf" 0 by unfold kindW; dsimp only; rw [g2F]]
      have h6 := h5.kp0 k6
      conv => whnf
      rw [F.g__law_count]
      conv => whnf
      rw [g1]
      conv => whnf
      rw [h6.i]
      conv => whnf
      rw [h6.n, F.m_Store_value]
      conv => whnf
      refine ⟨rfl, ?_⟩
      conv => whnf
      rw [g2]
      conv => whnf
      refine L.value h6 hs (p5.kp k6) fk g2F fun H7 k7 => ?_
      conv => whnf
      rw [g3]
      conv => whnf
      rw [F.i__law_count]
      conv => whnf
      refine L.count ?_
      conv => whnf
      exact q _ ((k5.trans k6).trans k7)
    rw [g4]
    conv => whnf
    by_cases h8 : (xs.length : Int) < 8
    · rw [decide_eq_true h8]
      have h3 := h.kp0 kA
      conv => whnf
      rw [g1]
      conv => whnf
      rw [h3.i]
      conv => whnf
      rw [h3.n, F.m_Store_kind]
      conv => whnf
      refine ⟨rfl, ?_⟩
      conv => whnf
      rw [g2]
      conv => whnf
      refine ⟨Nat.le_of_ble_eq_true rfl, fun ol hol => ?_⟩
      conv => whnf
      have kol : Kp [] H3 (H3.upd ol (.list [.str "a" 0])) := kp_new hol _
      have qol : (H3.upd ol (.list [.str "a" 0])) ol = some (.list [.str "a" 0]) := Hp.upd_same _ _ _
      generalize H3.upd ol (.list [.str "a" 0]) = H4 at *
      rw [(kA.trans kol).list hpl, qol]
      conv => whnf
      refine ⟨by simp [sizeLine]; omega, fun pl2 hpl2' => ?_⟩
      have epl : (xs.map fun x => Value.str x 0) ++ [Value.str "a" 0] = (xs ++ [("a" : Str)]).map fun x => Value.str x 0 := by simp
      rw [epl]
      conv => whnf
      have kpl : Kp [] H4 (H4.upd pl2 (.list ((xs ++ [("a" : Str)]).map fun x => Value.str x 0))) := kp_new hpl2' _
      have kD := (kA.trans kol).trans kpl
      refine L.kind (h.kp0 kD) hs ⟨.inl (Hp.upd_same _ _ _), ?_, by simp; omega⟩ (find_below (m := m)) (fun b e => nomatch e) fun H10 k10 => ?_
      · intro x hx
        rcases List.mem_append.1 hx with hx | hx
        · exact hg x hx
        · rw [List.mem_singleton.1 hx]; exact ⟨by decide +kernel, by decide +kernel, by decide +kernel⟩
      conv => whnf
      exact fin _ (kD.trans k10)
    · rw [decide_eq_false h8]
      conv => whnf
      exact fin _ kA
end
end Mine.L4
end

section
open PySem PyProof.Rows
namespace Mine.L4
open Mine Mine.St

section
variable {A : Ad} {B : La} {G : Gx} {H H' : Hp} {Q : QV} {X : XV}

noncomputable def LW (G : Gx) (A : Ad) (B : La) : Prop := ∀ {H : Hp} {Q : QV} {X : XV} {σ : SA} {xs : List Str} {m : Int} {cs : List (Int × Int)} {shots : List (Int × Int)} {last : Int} {pl : Addr}, StoreR A H σ (bsF xs m) cs ((xs.length : Int) + 2) ((xs.length : Int) + 2) shots last → H pl = some (.list (xs.map fun x => Value.str x 0)) → (∀ x ∈ xs, Good x) → xs.length ≤ 8 → xs ≠ [] →
    (∀ H', Kp [] H H' → Q (.bool true) H') → G.fn B.law_way false [.ref σ.sx, .ref pl, .int m 0] H Q X

theorem store_other {M : List Addr} {σ : SA} {bs : List (Int × Ct)} {cs : List (Int × Int)} {mk tree : Int} {shots : List (Int × Int)} {last : Int} (h : StoreR A H σ bs cs mk tree shots last) (k : Kp M H H') (hd : ∀ a ∈ σ.M, a ∉ M) : StoreR A H' σ bs cs mk tree shots last :=
  ⟨k _ _ h.i (.inl rfl), k _ _ h.n (.inr (hd _ (by simp [SA.M]))), k _ _ h.s (.inr (hd _ (by simp [SA.M]))), h.p.kp k (hd _ (by simp [SA.M])) (hd _ (by simp [SA.M])) (hd _ (by simp [SA.M])), h.n1, h.n2, h.n3⟩
theorem store_there {σ : SA} {bs : List (Int × Ct)} {cs : List (Int × Int)} {mk tree : Int} {shots : List (Int × Int)} {last : Int} (h : StoreR A H σ bs cs mk tree shots last) : ∀ a ∈ σ.M, H a ≠ none := by
  obtain ⟨bvs, hp, _⟩ := h.p.ex
  intro a ha
  simp only [SA.M, List.mem_cons, List.not_mem_nil, or_false] at ha
  rcases ha with rfl | rfl | rfl | rfl | rfl
  · rw [h.n]; exact nofun
  · rw [h.s]; exact nofun
  · rw [hp.n]; exact nofun
  · rw [hp.b]; exact nofun
  · rw [hp.c]; exact nofun

theorem rd0 {c : Addr} (h : H c = some (.list [])) : Rd H (.ref c) (.list []) := .list h .nil
theorem eqvAll_self : ∀ w : List Str, PyData.eqvAll (w.map PyData.str) (w.map PyData.str) = true
  | [] => rfl
  | x :: r => by exact Bool.and_eq_true_iff.2 ⟨beq_self_eq_true x, eqvAll_self r⟩
theorem eqvAll_ints : ∀ w : List Int, PyData.eqvAll (w.map PyData.int) (w.map PyData.int) = true
  | [] => rfl
  | x :: r => by exact Bool.and_eq_true_iff.2 ⟨beq_self_eq_true x, eqvAll_ints r⟩

theorem keysF (xs : List Str) (m : Int) : (bsF xs m).map (·.1) = (List.range (xs.length + 1)).map fun (k : Nat) => (k : Int) + 2 := by
  unfold bsF
  rw [List.range_succ_eq_map, List.map_cons, List.map_cons, List.map_map, List.map_map]
  refine congrArg _ (List.map_congr_left fun i _ => ?_)
  show (i : Int) + 3 = ((i + 1 : Nat) : Int) + 2
  omega

theorem c_law_rest (F : LF G A B) (L : U G A B) (lw : LW G A B) {σ τ : SA} {xs : List Str} {m : Int} {pl hd : Addr} {l : Loc} {Q' : QS} {X' : XS} (hl : Ls l [("_law_path", .ref pl), ("_law_number", .int m 0), ("_law_store", .ref σ.sx), ("_law_other", .ref τ.sx), ("_law_handed", .ref hd)])
    (hpl : H pl = some (.list (xs.map fun x => Value.str x 0))) (hh : PathAt H hd xs) (hne : xs ≠ []) (m1 : -(10 ^ 30) < m) (m2 : m < 10 ^ 30) (h : StoreR A H σ [(1, .br [])] [(1, 1)] 1 1 [] 0) (t : StoreR A H τ [(1, .br [])] [(1, 1)] 1 1 [] 0) (dis : ∀ z ∈ τ.M, z ∉ σ.M)
    (q : ∀ l' H', Q' (.ret (.bool true)) l' H') : wpSs G false (b_law.drop 6) l H Q' X' := by
  have hg := hh.good
  have hz := hh.len
  have s0 : Short [(1, Ct.br [])] := fun i rows e => by
    rw [get_cons] at e
    split at e
    · cases e; exact Nat.zero_le _
    · cases e
  obtain ⟨g1, g2, g3, g4, g5, -⟩ := id hl
  refine cut fun K0 hK0 _ => ?_
  conv => whnf
  rw [F.g__law_count]
  conv => whnf
  rw [g3]
  conv => whnf
  rw [h.i]
  conv => whnf
  rw [h.n, F.m_Store_top]
  conv => whnf
  refine ⟨rfl, ?_⟩
  conv => whnf
  refine L.top h ?_
  conv => whnf
  rw [F.i__law_count]
  conv => whnf
  refine L.count ?_
  conv => whnf
  rw [g3]
  conv => whnf
  rw [h.i]
  conv => whnf
  rw [h.n, F.m_Store_names]
  conv => whnf
  refine ⟨rfl, ?_⟩
  conv => whnf
  refine ⟨Nat.le_of_ble_eq_true rfl, fun el hel => ?_⟩
  conv => whnf
  have k1 : Kp [] H (H.upd el (.list [])) := kp_new hel _
  have p1 : PathAt (H.upd el (.list [])) el [] := ⟨.inl (Hp.upd_same _ _ _), fun _ h => (nomatch h), Nat.zero_le _⟩
  generalize H.upd el (.list []) = H1 at *
  refine L.names (h.kp0 k1) s0 p1 (b := 1) (rows := []) rfl rfl fun nl H2 k2 hnl => ?_
  conv => whnf
  refine ⟨Nat.le_of_ble_eq_true rfl, fun e2 he2 => ?_⟩
  conv => whnf
  have k3 : Kp [] H2 (H2.upd e2 (.list [])) := kp_new he2 _
  refine ⟨.list [], .list [], rd0 (k3.list hnl), rd0 (Hp.upd_same _ _ _), rfl, rfl, ?_⟩
  have kA := (k1.trans k2).trans k3
  generalize H2.upd e2 (.list []) = H3 at *
  have h3 := h.kp0 kA
  obtain ⟨bvs, hp3, _⟩ := id h3.p.ex
  conv => whnf
  rw [F.g__law_count]
  conv => whnf
  rw [g3]
  conv => whnf
  rw [h3.i]
  conv => whnf
  rw [h3.n]
  conv => whnf
  refine ⟨F.f_Store_pile, ?_⟩
  conv => whnf
  rw [hp3.i]
  conv => whnf
  rw [hp3.n]
  conv => whnf
  refine ⟨F.f_Pile_made, ?_⟩
  conv => whnf
  rw [F.i__law_count]
  conv => whnf
  refine L.count ?_
  conv => whnf
  refine hK0 _ _ (cut fun K1 hK1 _ => ?_)
  clear hK0
  conv => whnf
  rw [F.g__law_count]
  conv => whnf
  rw [g3]
  conv => whnf
  rw [h3.i]
  conv => whnf
  rw [h3.n, F.m_Store_put]
  conv => whnf
  refine ⟨rfl, ?_⟩
  conv => whnf
  rw [g5]
  conv => whnf
  rw [g2]
  conv => whnf
  have hb := build_ok (xs := xs) (m := m) (N := fun k => xs.getD k "") (fun _ _ => rfl) hz xs.length (Nat.le_refl _)
  rw [Nat.sub_self] at hb
  refine L.put_new h3 s0 (hh.kp kA) hne m1 m2 (W := fun _ => []) (fun k _ => way0 xs k) (find0 xs hne) (.inl rfl) (by simp) (by simp) (N := fun k => xs.getD k "") (fun k => ?_) hb (c := .br [rowAt xs (xs.length - 1)]) (k1 := 0) ?_ ?_ ?_ (c2 := .br []) ?_ (lgo_ok hz) fun H4 h4 k4 => ?_
  · by_cases hk : k < xs.length
    · exact .inl (by simp [hk])
    · exact .inr (by omega)
  · have hn0 : xs.length ≠ 0 := fun e => hne (List.eq_nil_of_length_eq_zero e)
    rw [get_bsC, if_neg (by omega), if_neg (by omega), if_pos (by omega)]
    congr 4
    omega
  · rw [get_csC, if_neg (by omega), if_pos rfl]
  · unfold csC; simp; omega
  · rw [get_bsC, if_pos rfl]
  have t4 := store_other (t.kp0 kA) k4 dis
  have hpl4 := k4.list (kA.list hpl)
  have hh4 := (hh.kp kA).kp k4
  clear hb
  conv => whnf
  rw [F.i__law_count]
  conv => whnf
  refine L.count ?_
  have sF := short_F (xs := xs) (m := m) hz
  have g2F : get (bsF xs m) 2 = some (.leaf m) := by rw [get_bsF, if_pos rfl]
  have fk : find (bsF xs m) ((xs.length : Int) + 2) xs = some (some 2) := by
    have := find_k (xs := xs) (m := m) (k := xs.length) (Nat.le_refl _)
    rw [List.take_length] at this
    rw [this]; congr 2; omega
  have ez : ((xs.map fun x => Value.str x 0).length : Int) = (xs.length : Nat) := by simp
  -- what is handed is as it was
  have go : ∀ H5, Kp [] H4 H5 → wpSs G false (b_law.drop 8) l H5 Q' X' := by
    intro H5 k5
    have h5 := h4.kp0 k5
    refine cut fun K2 hK2 _ => ?_
    conv => whnf
    rw [g2]
    conv => whnf
    rw [g2]
    conv => whnf
    refine ⟨Nat.le_of_ble_eq_true rfl, fun ll hll => ?_⟩
    conv => whnf
    have k6 : Kp [] H5 (H5.upd ll (.list [.int m 0, .int m 0])) := kp_new hll _
    have qll : (H5.upd ll (.list [.int m 0, .int m 0])) ll = some (.list [.int m 0, .int m 0]) := Hp.upd_same _ _ _
    generalize H5.upd ll (.list [.int m 0, .int m 0]) = H6 at *
    refine ⟨rfl, ?_⟩
    conv => whnf
    rw [qll]
    refine forG_list (fun r l H7 => Kp [] H6 H7 ∧ Ls l [("_law_path", .ref pl), ("_law_number", .int m 0), ("_law_store", .ref σ.sx), ("_law_other", .ref τ.sx), ("_law_handed", .ref hd)] ∧ ∀ v ∈ r, v = .int m 0) (fun r l H7 h => h.1.list qll) ?_ ?_ _ _ H6 ⟨Kp.refl _ _, hl, fun v hv => (List.mem_cons.1 hv).elim id fun h => List.mem_singleton.1 h⟩
    · rintro v r l H7 ⟨k7, hl, hv⟩ K hK _
      clear hK2
      obtain rfl := hv v (List.mem_cons_self ..)
      have hl' := hl.upd (y := "_law_again") (v := .int m 0) rfl
      have hk : (l.upd "_law_again" (.int m 0)) "_law_again" = some (.int m 0) := rfl
      generalize l.upd "_law_again" (.int m 0) = l1 at *
      clear g1 g2 g3 g4 g5
      obtain ⟨g1, g2, g3, g4, g5, -⟩ := id hl'
      have kk := (k5.trans k6).trans k7
      have h7 := h4.kp0 kk
      refine cut fun K3 hK3 _ => ?_
      conv => whnf
      rw [F.g__law_way]
      conv => whnf
      rw [g3]
      conv => whnf
      rw [g1]
      conv => whnf
      rw [g2]
      conv => whnf
      rw [F.i__law_way]
      conv => whnf
      refine lw h7 (kk.list hpl4) hg hz hne fun H8 k8 => ?_
      have kk8 := kk.trans k8
      have h8 := h4.kp0 kk8
      conv => whnf
      rw [F.g__law_count]
      conv => whnf
      rw [g3]
      conv => whnf
      rw [h8.i]
      conv => whnf
      rw [h8.n, F.m_Store_top]
      conv => whnf
      refine ⟨rfl, ?_⟩
      conv => whnf
      refine L.top h8 ?_
      conv => whnf
      rw [g1]
      conv => whnf
      refine ⟨.inl rfl, ?_⟩
      conv => whnf
      rw [kk8.list hpl4]
      conv => whnf
      rw [F.i__law_count]
      conv => whnf
      rw [ez]
      refine L.count ?_
      conv => whnf
      refine hK3 _ _ (cut fun K4 hK4 _ => ?_)
      clear hK3
      conv => whnf
      rw [F.g__law_count]
      conv => whnf
      rw [g3]
      conv => whnf
      rw [h8.i]
      conv => whnf
      rw [h8.n, F.m_Store_put]
      conv => whnf
      refine ⟨rfl, ?_⟩
      conv => whnf
      rw [g5]
      conv => whnf
      rw [hk]
      conv => whnf
      refine L.put_same h8 sF (hh4.kp kk8) hne m1 m2 (W := fun k => [(xs.getD k "", (xs.length : Int) + 1 - k)]) (fun k hk => way_k hk) fk g2F fun H9 k9 => ?_
      have kk9 := kk8.trans k9
      have h9 := h4.kp0 kk9
      obtain ⟨bv9, hp9, _⟩ := id h9.p.ex
      conv => whnf
      rw [F.i__law_count]
      conv => whnf
      refine L.count ?_
      conv => whnf
      rw [F.g__law_count]
      conv => whnf
      rw [g3]
      conv => whnf
      rw [h9.i]
      conv => whnf
      rw [h9.n]
      conv => whnf
      refine ⟨F.f_Store_pile, ?_⟩
      conv => whnf
      rw [hp9.i]
      conv => whnf
      rw [hp9.n]
      conv => whnf
      refine ⟨F.f_Pile_made, ?_⟩
      conv => whnf
      rw [g1]
      conv => whnf
      refine ⟨.inl rfl, ?_⟩
      conv => whnf
      rw [kk9.list hpl4]
      conv => whnf
      rw [F.i__law_count]
      conv => whnf
      rw [ez]
      refine L.count ?_
      conv => whnf
      exact hK4 _ _ (hK _ _ ⟨(k7.trans k8).trans k9, hl', fun u hu => hv u (List.mem_cons_of_mem _ hu)⟩).1
    · rintro l H7 ⟨k7, hl, -⟩
      clear g1 g2 g3 g4 g5
      obtain ⟨g1, g2, g3, g4, g5, -⟩ := id hl
      have kk := (k5.trans k6).trans k7
      have h7 := h4.kp0 kk
      have t7 := t4.kp0 kk
      obtain ⟨bv7, hp7, _⟩ := id h7.p.ex
      refine hK2 _ _ (cut fun K3 hK3 _ => ?_)
      clear hK2
      conv => whnf
      rw [g3]
      conv => whnf
      rw [h7.i]
      conv => whnf
      rw [h7.n]
      conv => whnf
      refine ⟨F.f_Store_pile, ?_⟩
      conv => whnf
      rw [hp7.i]
      conv => whnf
      rw [hp7.n, F.m_Pile_kept]
      conv => whnf
      refine ⟨rfl, ?_⟩
      conv => whnf
      refine L.kept h7.p (by unfold bsF; simp; omega) fun ms hms hpw b1 hb1 => ?_
      conv => whnf
      have ems : ms = (List.range (xs.length + 1)).map fun (k : Nat) => (k : Int) + 2 := by
        rw [keysF] at hms
        refine perm_eq hms hpw ?_
        rw [List.pairwise_map]
        exact List.Pairwise.imp (fun h => by omega) List.pairwise_lt_range
      subst ems
      have k8 : Kp [] H7 (H7.upd b1 (.list (((List.range (xs.length + 1)).map fun (k : Nat) => (k : Int) + 2).map fun n => Value.int n 0))) := kp_new hb1 _
      have qb1 : (H7.upd b1 (.list (((List.range (xs.length + 1)).map fun (k : Nat) => (k : Int) + 2).map fun n => Value.int n 0))) b1 = some (.list (((List.range (xs.length + 1)).map fun (k : Nat) => (k : Int) + 2).map fun n => Value.int n 0)) := Hp.upd_same _ _ _
      generalize H7.upd b1 (.list (((List.range (xs.length + 1)).map fun (k : Nat) => (k : Int) + 2).map fun n => Value.int n 0)) = H8 at *
      rw [g1]
      conv => whnf
      refine ⟨.inl rfl, ?_⟩
      conv => whnf
      rw [(kk.trans k8).list hpl4]
      conv => whnf
      refine ⟨.inr rfl, ?_⟩
      rw [ez]
      have ez2 : ((xs.length : Nat) : Int) + 1 = ((xs.length + 1 : Nat) : Int) := by omega
      rw [ez2]
      conv => whnf
      refine ⟨by omega, by omega, fun r7 hr7 => ?_⟩
      conv => whnf
      refine ⟨rfl, ?_⟩
      conv => whnf
      rw [Hp.upd_same]
      conv => whnf
      refine ⟨small_nat (by omega), ?_⟩
      refine ⟨by rw [rangeL_len]; simp [sizeLine]; omega, ?_⟩
      have k9 : Kp [] H8 (H8.upd r7 (.range 0 (xs.length + 1 : Nat) 1)) := kp_new hr7 _
      generalize H8.upd r7 (.range 0 (xs.length + 1 : Nat) 1) = H9 at *
      refine compG_map (f := fun v => match v with | .int i _ => .int (i + 2) 0 | v => v) trivial _ _ (fun v hv k' hk' => ?_) ?_
      · rw [rangeL_nat] at hv
        obtain ⟨j, hj, rfl⟩ := List.mem_map.1 hv
        conv => whnf
        exact hk'
      · intro b2 hb2
        have e2 : [] ++ (rangeL 0 (xs.length + 1 : Nat) 1).map (fun v => match v with | .int i _ => .int (i + 2) 0 | v => v) = ((List.range (xs.length + 1)).map fun (k : Nat) => (k : Int) + 2).map fun n => Value.int n 0 := by
          rw [rangeL_nat]; simp
        rw [e2] at *
        have k10 : Kp [] H9 (H9.upd b2 (.list (((List.range (xs.length + 1)).map fun (k : Nat) => (k : Int) + 2).map fun n => Value.int n 0))) := kp_new hb2 _
        have qb2 : (H9.upd b2 (.list (((List.range (xs.length + 1)).map fun (k : Nat) => (k : Int) + 2).map fun n => Value.int n 0))) b2 = some (.list (((List.range (xs.length + 1)).map fun (k : Nat) => (k : Int) + 2).map fun n => Value.int n 0)) := Hp.upd_same _ _ _
        generalize H9.upd b2 (.list (((List.range (xs.length + 1)).map fun (k : Nat) => (k : Int) + 2).map fun n => Value.int n 0)) = H10 at *
        have kx := (k8.trans k9).trans k10
        have tx := t7.kp0 kx
        conv => whnf
        refine ⟨_, _, .list ((k9.trans k10).list qb1) (rd_ints _), .list qb2 (rd_ints _), shaped_ints _, shaped_ints _, ?_⟩
        rw [show PyData.eqv (.list (((List.range (xs.length + 1)).map fun (k : Nat) => (k : Int) + 2).map PyData.int)) (.list (((List.range (xs.length + 1)).map fun (k : Nat) => (k : Int) + 2).map PyData.int)) = true from eqvAll_ints _]
        obtain ⟨bvx, hpx, _⟩ := id tx.p.ex
        conv => whnf
        refine hK3 _ _ (cut fun K4 _ hK4 => ?_)
        clear hK3
        conv => whnf
        rw [g4]
        conv => whnf
        rw [tx.i]
        conv => whnf
        rw [tx.n]
        conv => whnf
        refine ⟨F.f_Store_pile, ?_⟩
        conv => whnf
        rw [hpx.i]
        conv => whnf
        rw [hpx.n, F.m_Pile_kept]
        conv => whnf
        refine ⟨rfl, ?_⟩
        conv => whnf
        refine L.kept tx.p (by simp) fun ms hms hpw b3 hb3 => ?_
        have ems : ms = [1] := List.perm_singleton.1 hms
        subst ems
        rw [show (([1] : List Int).map fun n => Value.int n 0) = [Value.int 1 0] from rfl]
        conv => whnf
        refine ⟨Nat.le_of_ble_eq_true rfl, fun b4 hb4 => ?_⟩
        conv => whnf
        have k11 : Kp [] H10 (H10.upd b3 (.list [.int 1 0])) := kp_new hb3 _
        have k12 : Kp [] (H10.upd b3 (.list [.int 1 0])) ((H10.upd b3 (.list [.int 1 0])).upd b4 (.list [.int 1 0])) := kp_new hb4 _
        refine ⟨.list [.int 1], .list [.int 1], .list (k12.list (Hp.upd_same _ _ _)) (.cons (.int 1 0) .nil), .list (Hp.upd_same _ _ _) (.cons (.int 1 0) .nil), rfl, rfl, ?_⟩
        have ky := k11.trans k12
        generalize (H10.upd b3 (.list [.int 1 0])).upd b4 (.list [.int 1 0]) = H11 at *
        have ty := tx.kp0 ky
        rw [show PyData.eqv (.list [.int 1]) (.list [.int 1]) = true from rfl]
        conv => whnf
        rw [g4]
        conv => whnf
        rw [ty.i]
        conv => whnf
        rw [ty.n, F.m_Store_names]
        conv => whnf
        refine ⟨rfl, ?_⟩
        conv => whnf
        refine ⟨Nat.le_of_ble_eq_true rfl, fun el hel => ?_⟩
        conv => whnf
        have k13 : Kp [] H11 (H11.upd el (.list [])) := kp_new hel _
        have p13 : PathAt (H11.upd el (.list [])) el [] := ⟨.inl (Hp.upd_same _ _ _), fun _ h => (nomatch h), Nat.zero_le _⟩
        generalize H11.upd el (.list []) = H12 at *
        refine L.names (ty.kp0 k13) s0 p13 (b := 1) (rows := []) rfl rfl fun nl2 H13 k14 hnl2 => ?_
        conv => whnf
        refine ⟨Nat.le_of_ble_eq_true rfl, fun e5 he5 => ?_⟩
        conv => whnf
        have k15 : Kp [] H13 (H13.upd e5 (.list [])) := kp_new he5 _
        refine ⟨.list [], .list [], rd0 (k15.list hnl2), rd0 (Hp.upd_same _ _ _), rfl, rfl, ?_⟩
        have tz := ty.kp0 ((k13.trans k14).trans k15)
        generalize H13.upd e5 (.list []) = H14 at *
        obtain ⟨bvz, hpz, _⟩ := id tz.p.ex
        rw [show PyData.eqv (.list []) (.list []) = true from rfl]
        conv => whnf
        rw [F.g__law_count]
        conv => whnf
        rw [g4]
        conv => whnf
        rw [tz.i]
        conv => whnf
        rw [tz.n]
        conv => whnf
        refine ⟨F.f_Store_pile, ?_⟩
        conv => whnf
        rw [hpz.i]
        conv => whnf
        rw [hpz.n]
        conv => whnf
        refine ⟨F.f_Pile_made, ?_⟩
        conv => whnf
        rw [F.i__law_count]
        conv => whnf
        refine L.count ?_
        conv => whnf
        exact hK4 _ _ _ (q _ _)
  conv => whnf
  rw [g5]
  conv => whnf
  refine ⟨.inr rfl, ?_⟩
  rcases hh4.at_ with e4 | e4
  · conv => whnf
    rw [e4]
    conv => whnf
    refine ⟨by simp [sizeLine]; omega, fun b hb => ?_⟩
    conv => whnf
    rw [g1]
    conv => whnf
    have k5 : Kp [] H4 (H4.upd b (.list (xs.map fun x => Value.str x 0))) := kp_new hb _
    refine ⟨_, _, .list (Hp.upd_same _ _ _) (rd_strs _), .list (k5.list hpl4) (rd_strs _), shaped_strs hg, shaped_strs hg, ?_⟩
    rw [show PyData.eqv (.list (xs.map PyData.str)) (.list (xs.map PyData.str)) = true from eqvAll_self _]
    conv => whnf
    exact hK1 _ _ (go _ k5)
  · conv => whnf
    rw [e4]
    conv => whnf
    refine ⟨by simp [sizeLine]; omega, fun b hb => ?_⟩
    conv => whnf
    rw [g1]
    conv => whnf
    have k5 : Kp [] H4 (H4.upd b (.list (xs.map fun x => Value.str x 0))) := kp_new hb _
    refine ⟨_, _, .list (Hp.upd_same _ _ _) (rd_strs _), .list (k5.list hpl4) (rd_strs _), shaped_strs hg, shaped_strs hg, ?_⟩
    rw [show PyData.eqv (.list (xs.map PyData.str)) (.list (xs.map PyData.str)) = true from eqvAll_self _]
    conv => whnf
    exact hK1 _ _ (go _ k5)

theorem c_law (F : LF G A B) (L : U G A B) (lw : LW G A B) {a : Addr} {ns : List Int} (hs : H a = some (.rlist (ns.map fun n => Value.int n 0))) (q : ∀ H', Q (.bool true) H') : wpF G false ["_law_script"] b_law [.ref a] H Q X := by
  refine ⟨rfl, ?_⟩
  conv => whnf
  rw [F.g__law_cell_at]
  conv => whnf
  rw [F.i__law_cell_at]
  conv => whnf
  refine L.cell (k := 0) hs ?_
  have h8 : 0 ≤ ns.getD 0 0 % 8 ∧ ns.getD 0 0 % 8 < 8 := ⟨Int.emod_nonneg _ (by decide), Int.emod_lt_of_pos _ (by decide)⟩
  obtain ⟨n, hn⟩ := Int.eq_ofNat_of_zero_le (show 0 ≤ 1 + ns.getD 0 0 % 8 by omega)
  conv => whnf
  refine ⟨by decide, ?_⟩
  conv => whnf
  rw [hn]
  refine ⟨.inr rfl, ?_⟩
  conv => whnf
  refine ⟨by omega, by omega, fun r hr => ?_⟩
  conv => whnf
  refine ⟨rfl, ?_⟩
  conv => whnf
  rw [Hp.upd_same]
  conv => whnf
  refine ⟨small_nat (by omega), ?_⟩
  refine ⟨by rw [rangeL_len]; simp [sizeLine]; omega, ?_⟩
  have k1 : Kp [] H (H.upd r (.range 0 (n : Nat) 1)) := kp_new hr _
  generalize H.upd r (.range 0 (n : Nat) 1) = H1 at *
  refine compG_list (fun r acc H2 => Kp [] H H2 ∧ ∃ ys : List Str, acc = ys.map (fun x => Value.str x 0) ∧ (∀ x ∈ ys, Good x) ∧ r.length + ys.length = n ∧ ∀ v ∈ r, ∃ k : Nat, v = .int k 0) (fun _ _ _ _ => trivial) ?_ ?_ _ [] H1 ⟨k1, [], rfl, fun _ h => (nomatch h), by rw [rangeL_len]; rfl, fun v hv => by rw [rangeL_nat] at hv; obtain ⟨j, _, rfl⟩ := List.mem_map.1 hv; exact ⟨j, rfl⟩⟩
  · rintro v r acc H2 ⟨k2, ys, rfl, hg, hlen, hv⟩ K hK
    obtain ⟨j, rfl⟩ := hv v (List.mem_cons_self ..)
    conv => whnf
    rw [F.g__law_name_by]
    conv => whnf
    rw [F.g__law_cell_at]
    conv => whnf
    rw [F.i__law_cell_at]
    conv => whnf
    refine L.cell (k := 3 + j) (k2.rlist hs) ?_
    conv => whnf
    rw [F.i__law_name_by]
    conv => whnf
    refine L.name_by fun x H3 k3 hx => ?_
    exact hK _ _ ⟨k2.trans k3, ys ++ [x], by simp, fun y hy => (List.mem_append.1 hy).elim (hg y) fun h => by rw [List.mem_singleton.1 h]; exact hx, by simp at hlen ⊢; omega, fun u hu => hv u (List.mem_cons_of_mem _ hu)⟩
  · rintro acc H2 ⟨k2, xs, rfl, hg, hlen, -⟩
    intro pl hpl0
    have hz : xs.length ≤ 8 := by simp at hlen; omega
    have hne : xs ≠ [] := by rintro rfl; simp at hlen; omega
    have k3 : Kp [] H2 (H2.upd pl (.list (xs.map fun x => Value.str x 0))) := kp_new hpl0 _
    have hpl : (H2.upd pl (.list (xs.map fun x => Value.str x 0))) pl = some (.list (xs.map fun x => Value.str x 0)) := Hp.upd_same _ _ _
    have kA := k2.trans k3
    conv => whnf
    generalize H2.upd pl (.list (xs.map fun x => Value.str x 0)) = H3 at *
    rw [F.g__law_cell_at]
    conv => whnf
    rw [F.i__law_cell_at]
    conv => whnf
    refine L.cell (k := 1) (kA.rlist hs) ?_
    conv => whnf
    refine ⟨by decide, by decide, by decide, ?_⟩
    conv => whnf
    refine ⟨.inl (by decide), ?_⟩
    conv => whnf
    refine ⟨by decide, ?_⟩
    conv => whnf
    refine ⟨by decide, by decide, by decide, ?_⟩
    have hm : -(10 ^ 30) < ns.getD 1 0 % (2 * 10 ^ Int.toNat 30 - 1) - 10 ^ Int.toNat 30 + 1 ∧ ns.getD 1 0 % (2 * 10 ^ Int.toNat 30 - 1) - 10 ^ Int.toNat 30 + 1 < 10 ^ 30 := by
      have h1 := Int.emod_nonneg (ns.getD 1 0) (show (2 * 10 ^ Int.toNat 30 - 1 : Int) ≠ 0 by decide)
      have h2 := Int.emod_lt_of_pos (ns.getD 1 0) (show (0 : Int) < 2 * 10 ^ Int.toNat 30 - 1 by decide)
      have e : Int.toNat 30 = 30 := rfl
      rw [e] at *
      omega
    conv => whnf
    generalize ns.getD 1 0 % (2 * 10 ^ Int.toNat 30 - 1) - 10 ^ Int.toNat 30 + 1 = m at *
    rw [F.g_Store]
    conv => whnf
    rw [F.i_Store]
    conv => whnf
    intro sd sx hsd hsx hdx
    refine L.sinit hsd hsx hdx fun H4 σ e1 h4 k4 _ => ⟨rfl, ?_⟩
    subst e1
    conv => whnf
    rw [F.g_Store]
    conv => whnf
    rw [F.i_Store]
    conv => whnf
    intro sd2 sx2 hsd2 hsx2 hdx2
    refine L.sinit hsd2 hsx2 hdx2 fun H5 τ e2 t5 k5 fr => ⟨rfl, ?_⟩
    subst e2
    have h5 := h4.kp0 k5
    have dis : ∀ z ∈ τ.M, z ∉ σ.M := fun z hz hz' => store_there h4 z hz' (fr z hz)
    have kB := (kA.trans k4).trans k5
    have hpl5 := (k4.trans k5).list hpl
    clear fr hdx hdx2
    have hl5 : ∀ (l : Loc) (hd : Addr), l (Str.ofString "_law_handed") = some (.ref hd) → l (Str.ofString "_law_path") = some (.ref pl) → l (Str.ofString "_law_number") = some (.int m 0) → l (Str.ofString "_law_store") = some (.ref σ.sx) → l (Str.ofString "_law_other") = some (.ref τ.sx) → ∀ H6, Kp [] H5 H6 → PathAt H6 hd xs →
        wpSs G false (b_law.drop 6) l H6 (fun f _ H' => match f with | .next => Q .none H' | .ret v => Q v H' | .cont => False) (fun C _ H' => X C H') := fun l hd e1 e2 e3 e4 e5 H6 k6 hp6 =>
      c_law_rest F L lw ⟨e2, e3, e4, e5, e1, trivial⟩ (k6.list hpl5) hp6 hne hm.1 hm.2 (h5.kp0 k6) (t5.kp0 k6) dis fun _ _ => q _
    conv => whnf
    refine ⟨.inr rfl, ?_⟩
    conv => whnf
    rw [hpl5]
    conv => whnf
    refine ⟨by simp [sizeLine]; omega, fun hd hhd => ?_⟩
    conv => whnf
    have k6 : Kp [] H5 (H5.upd hd (.list (xs.map fun x => Value.str x 0))) := kp_new hhd _
    have qhd : (H5.upd hd (.list (xs.map fun x => Value.str x 0))) hd = some (.list (xs.map fun x => Value.str x 0)) := Hp.upd_same _ _ _
    generalize H5.upd hd (.list (xs.map fun x => Value.str x 0)) = H6 at *
    rw [F.g__law_cell_at]
    conv => whnf
    rw [F.i__law_cell_at]
    conv => whnf
    refine L.cell (k := 2) ((kB.trans k6).rlist hs) ?_
    conv => whnf
    refine ⟨by decide, ?_⟩
    conv => whnf
    by_cases h2 : ns.getD 2 0 % 2 = 1
    · rw [decide_eq_true h2]
      conv => whnf
      refine ⟨.inr rfl, ?_⟩
      conv => whnf
      rw [k6.list hpl5]
      conv => whnf
      refine ⟨by simp [sizeLine]; omega, fun tp htp => ?_⟩
      conv => whnf
      exact hl5 _ tp rfl rfl rfl rfl rfl _ (k6.trans (kp_new htp _)) ⟨.inr (Hp.upd_same _ _ _), hg, hz⟩
    · rw [decide_eq_false h2]
      conv => whnf
      exact hl5 _ hd rfl rfl rfl rfl rfl _ k6 ⟨.inl qhd, hg, hz⟩

theorem law_tells {g : Gx} {tab : Tab} (f : LF g A B) (t : TabU tab A B) {a : Addr} {ns : List Int} {H : Hp} (hs : H a = some (.rlist (ns.map fun n => Value.int n 0))) : (GG g tab 13).fn B.law false [.ref a] H (fun v _ => v = .bool true) (fun _ _ => False) :=
  fn_gg t.llaw (c_law (f.gg tab 12) (u6 f t 6) (fun h h1 h2 h3 h4 q => fn_gg t.lway (c_lway (f.gg tab _) (u6 f t 5) h h1 h2 h3 h4 q)) hs fun _ => rfl)
end
end Mine.L4
end

section
open PySem PySem.W PyProof.Rows PySem.Challenge
set_option maxHeartbeats 0
namespace Mine.L4
theorem holds_of {names : List Str} (h : LawTells KK names tab 419) : rw_uf040010_04.Holds :=
  holds_law said fun said => holds_open (q := view) (d := lawD) (kwd := []) left (Hook.of hook) (Hook.keeps hook) (fun s e => xl_of s (Bool.and_eq_true_iff.mp e).1) XL.keeps (by kernel_rfl) (by kernel_rfl) (by kernel_rfl) (fun s e => recFacts_of (Bool.and_eq_true_iff.mp e).2) (by rfl) said (by decide +kernel) ⟨rfl, rfl, rfl, rfl, rfl, by decide +kernel⟩ (by w_witness2) (by
  intro w s₀ s₁ mg mb G Y fa o pm cd doc dV kV ho hd hcd hD hmg hg args vals as hpre hlay hrd hwl hlo
  have KX := kIn_of Y
  clear ho hd hcd hD
  refine Ground.open G ?_
  intro T B D TE TW
  wrow_args hpre hlay hrd hwl hlo
  rename_i hL ra w1 r0 hI hr hc hc'
  refine law_runs (K := KK) (names := names) (tab := tab) KX (topRead_of T) hmg rfl (by kernel_rfl) tab_ok hL hI hc h fun s' h1 h2 h3 => GoodW.toG ⟨.inl ⟨.bool true, .bool true, [], rfl, fun _ => rfl, .bool true, by kernel_rfl, fun _ => ⟨.nil, fun _ h => (nomatch h)⟩⟩, h3, h2, h1.trans hg⟩)
end Mine.L4
end

section
open PySem PyProof.Rows
set_option maxHeartbeats 0
namespace Mine.L4
open Mine Mine.St
noncomputable def ad : Ad := { cP := 206, cS := 363, SnapError := 31, BadPath := 44, BadNumber := 56, Nothing := 68, LeafThere := 80, BranchThere := 92, NoShot := 104, NoBox := 116, is_name := 123, checked := 128, box_of := 217, placed := 222, need_way := 229, need_number := 236, Pile_init := 142, Store_init := 250, Pile_need := 149, Pile_fresh := 156, Pile_leaf := 163, Pile_branch := 170, Pile_content := 177, Pile_hold := 184, Pile_holders := 191, Pile_let_go := 196, Pile_kept := 203, Store_top := 257, Store_found := 264, Store_ways := 271, Store_changed := 278, Store_put := 285, Store_cut := 292, Store_snap := 299, Store_shot := 306, Store_drop := 313, Store_back := 320, Store_shot_numbers := 327, Store_kind := 334, Store_value := 341, Store_names := 346, Store_both := 353, Store_changes := 360 }
noncomputable def la : La := { law_whole := 374, law_cell_at := 381, law_name_by := 386, law_count := 393, law_branch := 400, law_one_name := 407, law_way := 414, law := 419 }
noncomputable def names : List Str := ["SnapError", "BadPath", "BadNumber", "Nothing", "LeafThere", "BranchThere", "NoShot", "NoBox"]
theorem lf (p : Params) : LF (gOf (KK p) names) ad la := {
  g_SnapError := by kernel_rfl,
  e_SnapError := by kernel_rfl,
  g_BadPath := by kernel_rfl,
  e_BadPath := by kernel_rfl,
  g_BadNumber := by kernel_rfl,
  e_BadNumber := by kernel_rfl,
  g_Nothing := by kernel_rfl,
  e_Nothing := by kernel_rfl,
  g_LeafThere := by kernel_rfl,
  e_LeafThere := by kernel_rfl,
  g_BranchThere := by kernel_rfl,
  e_BranchThere := by kernel_rfl,
  g_NoShot := by kernel_rfl,
  e_NoShot := by kernel_rfl,
  g_NoBox := by kernel_rfl,
  e_NoBox := by kernel_rfl,
  m_Pile_need := by kernel_rfl,
  m_Pile_fresh := by kernel_rfl,
  m_Pile_leaf := by kernel_rfl,
  m_Pile_branch := by kernel_rfl,
  m_Pile_content := by kernel_rfl,
  m_Pile_hold := by kernel_rfl,
  m_Pile_holders := by kernel_rfl,
  m_Pile_let_go := by kernel_rfl,
  m_Pile_kept := by kernel_rfl,
  f_Pile_boxes := by kernel_rfl,
  f_Pile_counts := by kernel_rfl,
  f_Pile_made := by kernel_rfl,
  g_is_name := by kernel_rfl,
  i_is_name := by kernel_rfl,
  g_checked := by kernel_rfl,
  i_checked := by kernel_rfl,
  g_box_of := by kernel_rfl,
  i_box_of := by kernel_rfl,
  g_placed := by kernel_rfl,
  i_placed := by kernel_rfl,
  g_need_way := by kernel_rfl,
  i_need_way := by kernel_rfl,
  g_need_number := by kernel_rfl,
  i_need_number := by kernel_rfl,
  g_LETTERS := by kernel_rfl,
  g_MOST := by kernel_rfl,
  g_BOUND := by kernel_rfl,
  g_Pile := by kernel_rfl,
  g_Store := by kernel_rfl,
  i_Pile := by kernel_rfl,
  i_Store := by kernel_rfl,
  m_Store_top := by kernel_rfl,
  m_Store_found := by kernel_rfl,
  m_Store_ways := by kernel_rfl,
  m_Store_changed := by kernel_rfl,
  m_Store_put := by kernel_rfl,
  m_Store_cut := by kernel_rfl,
  m_Store_snap := by kernel_rfl,
  m_Store_shot := by kernel_rfl,
  m_Store_drop := by kernel_rfl,
  m_Store_back := by kernel_rfl,
  m_Store_shot_numbers := by kernel_rfl,
  m_Store_kind := by kernel_rfl,
  m_Store_value := by kernel_rfl,
  m_Store_names := by kernel_rfl,
  m_Store_both := by kernel_rfl,
  m_Store_changes := by kernel_rfl,
  f_Store_pile := by kernel_rfl,
  f_Store_tree := by kernel_rfl,
  f_Store_shots := by kernel_rfl,
  f_Store_last := by kernel_rfl,
  g__law_whole := by kernel_rfl,
  i__law_whole := by kernel_rfl,
  g__law_cell_at := by kernel_rfl,
  i__law_cell_at := by kernel_rfl,
  g__law_name_by := by kernel_rfl,
  i__law_name_by := by kernel_rfl,
  g__law_count := by kernel_rfl,
  i__law_count := by kernel_rfl,
  g__law_branch := by kernel_rfl,
  i__law_branch := by kernel_rfl,
  g__law_one_name := by kernel_rfl,
  i__law_one_name := by kernel_rfl,
  g__law_way := by kernel_rfl,
  i__law_way := by kernel_rfl }
theorem tu : TabU tab ad la := {
  need := by unfold HasF; kernel_rfl,
  fresh := by unfold HasF; kernel_rfl,
  kept := by unfold HasF; kernel_rfl,
  hold := by unfold HasF; kernel_rfl,
  leaf := by unfold HasF; kernel_rfl,
  content := by unfold HasF; kernel_rfl,
  branch := by unfold HasF; kernel_rfl,
  let_go := by unfold HasF; kernel_rfl,
  is_name := by unfold HasF; kernel_rfl,
  checked := by unfold HasF; kernel_rfl,
  need_way := by unfold HasF; kernel_rfl,
  need_number := by unfold HasF; kernel_rfl,
  box_of := by unfold HasF; kernel_rfl,
  placed := by unfold HasF; kernel_rfl,
  top := by unfold HasF; kernel_rfl,
  found := by unfold HasF; kernel_rfl,
  kind := by unfold HasF; kernel_rfl,
  value := by unfold HasF; kernel_rfl,
  names := by unfold HasF; kernel_rfl,
  ways := by unfold HasF; kernel_rfl,
  changed := by unfold HasF; kernel_rfl,
  put := by unfold HasF; kernel_rfl,
  pinit := by unfold HasF; kernel_rfl,
  sinit := by unfold HasF; kernel_rfl,
  lwhole := by unfold HasF; kernel_rfl,
  lcell := by unfold HasF; kernel_rfl,
  lname := by unfold HasF; kernel_rfl,
  lcount := by unfold HasF; kernel_rfl,
  lbranch := by unfold HasF; kernel_rfl,
  lone := by unfold HasF; kernel_rfl,
  lway := by unfold HasF; kernel_rfl,
  llaw := by unfold HasF; kernel_rfl }
end Mine.L4
end

theorem PySem.Challenge.cw_uf040010_04_holds : PySem.Challenge.rw_uf040010_04.Holds :=
  Mine.L4.holds_of fun p a ns _ => Mine.L4.law_tells (Mine.L4.lf p) Mine.L4.tu (H := Mine.hOf a ns) (by unfold Mine.hOf; exact if_pos rfl)
