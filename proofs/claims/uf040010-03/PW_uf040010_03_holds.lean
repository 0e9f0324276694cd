import PyProof.Rows.All
import Wide.All
import OpenK.AllK
import Wide.FinOn
import PySem.Challenge.RW_uf040010_03
set_option Elab.async false
set_option linter.unusedVariables false
set_option linter.unusedSimpArgs false
set_option maxRecDepth 100000

section
open PySem PyProof.Rows PySem.Calls
namespace Mine

/-- a value without its token -/
def er : Value → Value
  | .int i _ => .int i 0
  | .float b _ => .float b 0
  | .str x _ => .str x 0
  | .bytes b _ => .bytes b 0
  | v => v

theorem er_er (v : Value) : er (er v) = er v := by cases v <;> rfl
theorem er_int {V : Value} {i : Int} {t : Tok} (h : er V = .int i t) : ∃ u, V = .int i u := by
  cases V <;> simp [er] at h; exact ⟨_, by rw [h.1]⟩
theorem er_str {V : Value} {x : Str} {t : Tok} (h : er V = .str x t) : ∃ u, V = .str x u := by
  cases V <;> simp [er] at h; exact ⟨_, by rw [h.1]⟩
theorem er_bool {V : Value} {b : Bool} (h : er V = .bool b) : V = .bool b := by
  cases V <;> simp [er] at h; rw [h]
theorem er_none {V : Value} (h : er V = .none) : V = .none := by
  cases V <;> simp [er] at h; rfl
theorem er_ref {V : Value} {a : Addr} (h : er V = .ref a) : V = .ref a := by
  cases V <;> simp [er] at h; rw [h]
theorem er_type {V : Value} {a : String} (h : er V = .type a) : V = .type a := by
  cases V <;> simp [er] at h; rw [h]
theorem er_builtin {V : Value} {a : String} (h : er V = .builtin a) : V = .builtin a := by
  cases V <;> simp [er] at h; rw [h]

/-- what an object of the call's own holds (values without tokens) -/
inductive AObj where
  | list (xs : List Value)
  | rlist (xs : List Value)
  | tup (xs : List Value)
  | idict (kvs : List (Int × Value))
  | sdict (kvs : List (Str × Value))
  | inst (C d : Addr)
  | ns (kvs : List (Str × Value))
  | range (lo hi st : Int)
  | exc (C : Addr)

abbrev Hp := Addr → Option AObj
abbrev Loc := Str → Option Value
abbrev QV := Value → Hp → Prop
abbrev XV := Addr → Hp → Prop

def Hp.upd (H : Hp) (a : Addr) (o : AObj) : Hp := fun b => if b = a then some o else H b
def Loc.upd (l : Loc) (x : Str) (v : Value) : Loc := fun y => if y = x then some v else l y
def Loc.del (l : Loc) (x : Str) : Loc := fun y => if y = x then none else l y

theorem Hp.upd_same (H : Hp) (a : Addr) (o : AObj) : H.upd a o a = some o := by simp [Hp.upd]
theorem Hp.upd_ne (H : Hp) {a b : Addr} (o : AObj) (h : b ≠ a) : H.upd a o b = H b := by simp [Hp.upd, h]

/-- classes that isinstance is asked about -/
inductive Ty where
  | str | int | bool | list | tuple | listOrTuple | valueError
  | cls (x : Str)
  deriving DecidableEq

inductive Bf where
  | len | list | tuple | sorted | sortedSet | sortedKey0 | dict | int | all | max1 | max2 | min2 | range
  deriving DecidableEq
inductive Bm where
  | append | pop | get | join | split
  deriving DecidableEq

inductive Ex where
  | none
  | bool (b : Bool)
  | int (i : Int)
  | str (x : Str)
  | loc (x : Str)
  | glob (x : Str)
  | attr (o : Ex) (a : Str)
  | bin (op : Operator) (l r : Ex)
  | neg (e : Ex)
  | not (e : Ex)
  | bop (isAnd : Bool) (es : List Ex)
  | cmp (l : Ex) (op : CmpOp) (r : Ex)
  | cmp2 (l : Ex) (op : CmpOp) (m : Ex) (op2 : CmpOp) (r : Ex)
  | isi (e : Ex) (t : Ty)
  | bf (f : Bf) (args : List Ex)
  | bm (m : Bm) (o : Ex) (args : List Ex)
  | call (f : Ex) (args : List Ex)
  | meth (o : Ex) (m : Str) (args : List Ex)
  | idx (o i : Ex)
  | slice (o : Ex) (lo hi : Option Ex)
  | list (es : List Ex)
  | tup (es : List Ex)
  | dict (ks vs : List Ex)
  | comp (elt : Ex) (x : Str) (src : Ex) (ifs : List Ex)

mutual
inductive Sm where
  | expr (e : Ex)
  | asg (x : Str) (e : Ex)
  | asgAttr (o : Ex) (a : Str) (e : Ex)
  | asgIdx (o i e : Ex)
  | ite (c : Ex) (t f : List Sm)
  | for_ (x : Str) (src : Ex) (body : List Sm)
  | while_ (c : Ex) (body : List Sm)
  | ret (e : Ex)
  | raise (c : Str)
  | try_ (body : List Sm) (hs : List Hd)
  | cont
  | pass
inductive Hd where
  | mk (c : Str) (n : Option Str) (body : List Sm)
end

/-! ## what holds of a state -/

/-- fixed for the whole call of the law -/
structure Pm where
  prog : Program
  w : World
  s₀ : Shared
  mg : Str → Option Value
  mb : Str → Option Value
  K : PySem.W.Frag

abbrev Pm.base (P : Pm) : Heap := P.s₀.heap
abbrev Pm.M (P : Pm) : Model := model P.prog P.w

structure PmOk (P : Pm) : Prop where
  g : P.base.Ns mainGlobals P.mg
  b : P.base.Ns builtinsNs P.mb
  lim : P.base.NoLimit
  kin : P.K.In P.base

/-- the entries of an instance's dict -/
inductive All2 {α β : Type} (R : α → β → Prop) : List α → List β → Prop where
  | nil : All2 R [] []
  | cons {a b as bs} : R a b → All2 R as bs → All2 R (a :: as) (b :: bs)

def NsEs (w : World) (es : List DictEntry) (kvs : List (Str × Value)) : Prop :=
  All2 (fun e p => (∃ t, e.key = .str p.1 t) ∧ er e.val = p.2 ∧ e.hash = PyData.keyHash w.params p.1) es kvs

def IsL (h : Heap) (a : Addr) (vs : Array Value) : Prop := ∃ n, h.get? a = some { cls := .type "list", dict := none, data := .seq vs n, slots := #[] }

def Mt (P : Pm) (h : Heap) (a : Addr) : AObj → Prop
  | .list xs => ∃ vs, h.IsList a vs ∧ vs.toList.map er = xs ∧ xs.length ≤ 2 ^ 25 ∧ IsL h a vs
  | .rlist xs => ∃ vs, h.IsList a vs ∧ vs.toList.map er = xs ∧ xs.length ≤ 2 ^ 25
  | .tup xs => ∃ vs, h.IsTuple a vs ∧ vs.toList.map er = xs ∧ xs.length ≤ 2 ^ 25
  | .idict kvs => ∃ ks, h.DictOf (intKind P.prog P.w) a ks ∧ ks.map (fun p => (p.1, er p.2)) = kvs
  | .sdict kvs => ∃ ks, h.DictOf (PySem.strKind P.prog P.w) a ks ∧ ks.map (fun p => (p.1, er p.2)) = kvs
  | .inst C d => h.get? a = some { cls := .ref C, dict := some d, data := .plain }
  | .ns kvs => ∃ es n, h.get? a = some { cls := .type "dict", data := .dict es n } ∧ NsEs P.w es.toList kvs ∧ (kvs.map (·.1)).Nodup
  | .range lo hi st => ∃ t u v, IsRange h a lo hi st t u v
  | .exc C => ∃ vs sl, h.get? a = some { cls := .ref C, dict := none, data := .fields vs, slots := sl }

theorem Mt.congr {P : Pm} {h h' : Heap} {a : Addr} {o : AObj} (e : h'.get? a = h.get? a) (m : Mt P h a o) : Mt P h' a o := by
  cases o with
  | list xs => obtain ⟨vs, ⟨o, ho, r⟩, q1, q2, n, q3⟩ := m; exact ⟨vs, ⟨o, e.trans ho, r⟩, q1, q2, n, e.trans q3⟩
  | rlist xs => obtain ⟨vs, ⟨o, ho, r⟩, q⟩ := m; exact ⟨vs, ⟨o, e.trans ho, r⟩, q⟩
  | tup xs => obtain ⟨vs, ⟨o, ho, r⟩, q⟩ := m; exact ⟨vs, ⟨o, e.trans ho, r⟩, q⟩
  | idict xs => obtain ⟨vs, ⟨o, es, ep, ho, r⟩, q⟩ := m; exact ⟨vs, ⟨o, es, ep, e.trans ho, r⟩, q⟩
  | sdict xs => obtain ⟨vs, ⟨o, es, ep, ho, r⟩, q⟩ := m; exact ⟨vs, ⟨o, es, ep, e.trans ho, r⟩, q⟩
  | inst C d => exact e.trans m
  | ns kvs => obtain ⟨es, n, ho, r⟩ := m; exact ⟨es, n, e.trans ho, r⟩
  | range lo hi st => obtain ⟨t, u, v, ho⟩ := m; exact ⟨t, u, v, e.trans ho⟩
  | exc C => obtain ⟨vs, sl, ho⟩ := m; exact ⟨vs, sl, e.trans ho⟩

theorem Mt.some {P : Pm} {h : Heap} {a : Addr} {o : AObj} (m : Mt P h a o) : ∃ O, h.get? a = some O := by
  cases o with
  | list xs => obtain ⟨vs, ⟨o, ho, r⟩, q⟩ := m; exact ⟨o, ho⟩
  | rlist xs => obtain ⟨vs, ⟨o, ho, r⟩, q⟩ := m; exact ⟨o, ho⟩
  | tup xs => obtain ⟨vs, ⟨o, ho, r⟩, q⟩ := m; exact ⟨o, ho⟩
  | idict xs => obtain ⟨vs, ⟨o, es, ep, ho, r⟩, q⟩ := m; exact ⟨o, ho⟩
  | sdict xs => obtain ⟨vs, ⟨o, es, ep, ho, r⟩, q⟩ := m; exact ⟨o, ho⟩
  | inst C d => exact ⟨_, m⟩
  | ns kvs => obtain ⟨es, n, ho, r⟩ := m; exact ⟨_, ho⟩
  | range lo hi st => obtain ⟨t, u, v, ho⟩ := m; exact ⟨_, ho⟩
  | exc C => obtain ⟨vs, sl, ho⟩ := m; exact ⟨_, ho⟩

/-- an activation: its env, what stands around, the objects that must stay, the frames that must keep their data -/
structure Fm where
  env : Env
  A : Around
  g : Addr → Option Obj
  fr : Addr → Option Data
  ro : Bool

structure FmOk (P : Pm) (F : Fm) : Prop where
  kind : F.env.scope.kind = .function
  glob : F.env.globals = mainGlobals
  blt : F.env.builtins = builtinsNs
  base : ∀ b o, P.base.get? b = some o → F.g b = some o
  above : P.base.objs.size ≤ F.env.locals
  lg : F.g F.env.locals = none
  lf : F.fr F.env.locals = none
  cl : ∀ x c, (x, c) ∈ F.env.cells → c ≠ F.env.locals
  cg : F.ro = false → ∀ x c, (x, c) ∈ F.env.cells → F.g c = none ∧ F.fr c = none
  apart : F.env.cells.Pairwise (fun x y => x.2 ≠ y.2)
  cn : ∀ x c, (x, c) ∈ F.env.cells → F.env.cells.lookup x = some c
  cf : ∀ x c, (x, c) ∈ F.env.cells → F.fr c = none
  fg : ∀ b d, F.fr b = some d → F.g b = none ∧ ∀ vs, d ≠ .fields vs
  frames : ∃ fenv outer, F.A.frames = some (fenv :: outer) ∧ (F.ro = false → fenv = F.env ∧ F.env.frame = some F.env.locals) ∧
    ∀ e ∈ fenv :: outer, e.scope.kind ≠ .module ∧ ∃ b, e.frame = some b ∧ (b = F.env.locals ∨ (F.fr b).isSome = true)

/-- none of the base's addresses -/
def Bigs (P : Pm) (a : Addr) : AObj → Prop
  | .idict _ | .sdict _ => P.base.objs.size ≤ a
  | _ => True
theorem bigs_of {P : Pm} {a : Addr} {o : AObj} (h : P.base.objs.size ≤ a) : Bigs P a o := by cases o <;> first | exact h | trivial

/-- a list that is only read -/
def AObj.isR : AObj → Bool
  | .rlist _ => true
  | _ => false
/-- none of the frame's own; or of the base, where it is only read -/
def Fre (P : Pm) (F : Fm) (a : Addr) : AObj → Prop
  | .rlist _ => ∃ O, P.base.get? a = some O
  | _ => F.g a = none ∧ F.fr a = none ∧ a ≠ F.env.locals ∧ ∀ x c, (x, c) ∈ F.env.cells → a ≠ c
theorem fre_of {P : Pm} {F : Fm} {a : Addr} {o : AObj} (hr : o.isR = false) (h : F.g a = none ∧ F.fr a = none ∧ a ≠ F.env.locals ∧ ∀ x c, (x, c) ∈ F.env.cells → a ≠ c) : Fre P F a o := by cases o <;> first | exact h | cases hr
theorem of_fre {P : Pm} {F : Fm} {a : Addr} {o : AObj} (h : Fre P F a o) (hr : o.isR = false) : F.g a = none ∧ F.fr a = none ∧ a ≠ F.env.locals ∧ ∀ x c, (x, c) ∈ F.env.cells → a ≠ c := by cases o <;> first | exact h | cases hr
theorem r_fre {P : Pm} {F : Fm} {a : Addr} {o : AObj} (h : Fre P F a o) (hr : o.isR = true) : ∃ O, P.base.get? a = some O := by cases o <;> first | exact h | cases hr
theorem fre_r {P : Pm} {F : Fm} {a : Addr} {o : AObj} (hr : o.isR = true) (h : ∃ O, P.base.get? a = some O) : Fre P F a o := by cases o <;> first | exact h | cases hr

structure Inv (P : Pm) (F : Fm) (l : Loc) (H : Hp) (s : Shared) : Prop where
  gens : s.gens = P.s₀.gens
  os : s.os = P.s₀.os
  keep : ∀ b o, F.g b = some o → s.heap.get? b = some o
  frk : ∀ b d, F.fr b = some d → ∃ o, s.heap.get? b = some o ∧ o.data = d
  loc : ∃ m, s.heap.Ns F.env.locals m ∧ ∀ x v, l x = some v → F.env.kindOf x = some .local → ∃ V, m x = some V ∧ er V = v
  cel : ∀ x c, F.env.cells.lookup x = some c → ∃ vo, s.heap.IsCell c vo ∧
    ∀ v, l x = some v → (F.env.kindOf x = some .cell ∨ F.env.kindOf x = some .free) → ∃ V, vo = some V ∧ er V = v
  objs : ∀ a o, H a = some o → Mt P s.heap a o
  free : ∀ a o, H a = some o → Fre P F a o
  big : ∀ a o, H a = some o → Bigs P a o

section
variable {P : Pm} {F : Fm} {l : Loc} {H : Hp} {s : Shared}

theorem Inv.toks (I : Inv P F l H s) (t : Nat) : Inv P F l H { s with toks := t } := ⟨I.gens, I.os, I.keep, I.frk, I.loc, I.cel, I.objs, I.free, I.big⟩

theorem Inv.lt_of (I : Inv P F l H s) {a : Addr} {o : AObj} (h : H a = some o) : a < s.heap.objs.size := let ⟨_, e⟩ := (I.objs a o h).some; Heap.lt_size e
theorem Inv.fresh (I : Inv P F l H s) : H s.heap.objs.size = none := by
  cases e : H s.heap.objs.size with
  | none => rfl
  | some o => exact absurd (I.lt_of e) (Nat.lt_irrefl _)

/-- an address that nothing of ours is at -/
structure Off (F : Fm) (H : Hp) (a : Addr) : Prop where
  h : H a = none
  g : F.g a = none
  fr : F.fr a = none
  l : a ≠ F.env.locals
  c : ∀ x c, (x, c) ∈ F.env.cells → a ≠ c

theorem Inv.off (K : FmOk P F) (I : Inv P F l H s) {a : Addr} (n : s.heap.get? a = none) : Off F H a := by
  refine ⟨?_, ?_, ?_, ?_, ?_⟩
  · cases e : H a with
    | none => rfl
    | some o => obtain ⟨_, e'⟩ := (I.objs a o e).some; rw [n] at e'; cases e'
  · cases e : F.g a with
    | none => rfl
    | some o => have := I.keep a o e; rw [n] at this; cases this
  · cases e : F.fr a with
    | none => rfl
    | some o => obtain ⟨_, e', _⟩ := I.frk a o e; rw [n] at e'; cases e'
  · rintro rfl
    obtain ⟨m, ⟨o, es, ep, ho, _⟩, _⟩ := I.loc
    rw [n] at ho; cases ho
  · rintro x c hm rfl
    obtain ⟨vo, ⟨o, ho, _⟩, _⟩ := I.cel x a (K.cn x a hm)
    rw [n] at ho; cases ho

/-- the heap changes off our things -/
theorem Inv.step (I : Inv P F l H s) {h' : Heap} {t : Nat} (k : ∀ b o, s.heap.get? b = some o → ¬ Off F H b → h'.get? b = some o) : Inv P F l H { s with heap := h', toks := t } := by
  refine ⟨I.gens, I.os, fun b o e => k b o (I.keep b o e) fun q => ?_, fun b d e => ?_, ?_, fun x c e => ?_, fun a o e => ?_, I.free, I.big⟩
  · rw [q.g] at e; cases e
  · obtain ⟨o, ho, hd⟩ := I.frk b d e
    exact ⟨o, k b o ho fun q => (by rw [q.fr] at e; cases e), hd⟩
  · obtain ⟨m, ⟨o, es, ep, ho, r⟩, q⟩ := I.loc
    exact ⟨m, ⟨o, es, ep, k _ _ ho fun q => q.l rfl, r⟩, q⟩
  · obtain ⟨vo, ⟨o, ho, r⟩, q⟩ := I.cel x c e
    exact ⟨vo, ⟨o, k _ _ ho fun q => q.c x c (mem_of_lookup e) rfl, r⟩, q⟩
  · obtain ⟨O, ho⟩ := (I.objs a o e).some
    refine (I.objs a o e).congr ((k _ _ ho fun q => ?_).trans ho.symm)
    rw [q.h] at e; cases e

theorem Inv.neL (K : FmOk P F) (I : Inv P F l H s) {a : Addr} {o : AObj} (h : H a = some o) : a ≠ F.env.locals := by
  cases hr : o.isR with
  | false => exact (of_fre (I.free a o h) hr).2.2.1
  | true =>
    obtain ⟨O, e⟩ := r_fre (I.free a o h) hr
    rintro rfl
    have := K.base _ _ e
    rw [K.lg] at this; cases this
theorem Inv.frN (K : FmOk P F) (I : Inv P F l H s) {a : Addr} {o : AObj} (h : H a = some o) : F.fr a = none := by
  cases hr : o.isR with
  | false => exact (of_fre (I.free a o h) hr).2.1
  | true =>
    obtain ⟨O, e⟩ := r_fre (I.free a o h) hr
    cases q : F.fr a with
    | none => rfl
    | some d =>
      have := K.base _ _ e
      rw [(K.fg a d q).1] at this; cases this
theorem Inv.neC (K : FmOk P F) (I : Inv P F l H s) {a : Addr} {o : AObj} (h : H a = some o) {x : Str} {c : Addr} (hm : (x, c) ∈ F.env.cells) : a ≠ c := by
  cases hr : o.isR with
  | false => exact (of_fre (I.free a o h) hr).2.2.2 x c hm
  | true =>
    rintro rfl
    obtain ⟨vo, ⟨oc, ho, hd⟩, _⟩ := I.cel x a (K.cn x a hm)
    have m := I.objs a o h
    cases o <;> first | (cases hr; done) | skip
    obtain ⟨vs, ⟨ol, hl, _, n, hs⟩, _⟩ := m
    rw [ho] at hl; cases hl
    rw [hd] at hs; cases hs
end

end Mine
end

section
open PySem PyProof.Rows PySem.Calls
namespace Mine

/-- all objects but L and the base's -/
def allNews (base h : Heap) (L : Addr) : List (Addr × Obj) :=
  (List.range h.objs.size).filterMap fun a => if a = L then none else match base.get? a with
    | some _ => none
    | none => (h.get? a).map fun o => (a, o)
theorem mem_allNews {base h : Heap} {L a : Addr} {o : Obj} (ho : h.get? a = some o) (hl : a ≠ L) (hb : base.get? a = none) : (a, o) ∈ allNews base h L := by
  refine List.mem_filterMap.mpr ⟨a, List.mem_range.mpr (Heap.lt_size ho), ?_⟩
  rw [if_neg hl, hb, ho]; rfl
theorem allNews_mem {base h : Heap} {L : Addr} {p : Addr × Obj} (hp : p ∈ allNews base h L) : h.get? p.1 = some p.2 ∧ p.1 ≠ L ∧ base.get? p.1 = none := by
  obtain ⟨a, _, e⟩ := List.mem_filterMap.mp hp
  by_cases hl : a = L
  · rw [if_pos hl] at e; cases e
  · rw [if_neg hl] at e
    cases hb : base.get? a with
    | some o => rw [hb] at e; cases e
    | none =>
      rw [hb] at e
      cases ho : h.get? a with
      | none => simp [ho] at e
      | some o =>
        simp [ho] at e
        subst e
        exact ⟨ho, hl, hb⟩
theorem news_all (base h : Heap) (L : Addr) : News base L h (allNews base h L) := fun _ hp => allNews_mem hp

section
variable {P : Pm} {F : Fm} {l : Loc} {H : Hp} {s : Shared}

theorem Inv.fr (K : FmOk P F) (I : Inv P F l H s) : ∃ m, Fr P.base F.env.locals s.heap m ∧ ∀ x v, l x = some v → F.env.kindOf x = some .local → ∃ V, m x = some V ∧ er V = v := by
  obtain ⟨m, hn, q⟩ := I.loc
  exact ⟨m, ⟨hn, fun b o e => I.keep b o (K.base b o e), K.above⟩, q⟩

/-- what a rule over Fr and the whole ledger leaves -/
theorem kept_all {base h h' : Heap} {L : Addr} {m : Str → Option Value} {news : List (Addr × Obj)} (F : Fr base L h' m) (N : News base L h' news) (hsub : ∀ p ∈ allNews base h L, p ∈ news)
    (hb : base.StaysIn h) {b : Addr} {o : Obj} (e : h.get? b = some o) (hl : b ≠ L) : h'.get? b = some o := by
  cases q : base.get? b with
  | some o' => have := hb b o' q; rw [e] at this; cases this; exact F.keep b o q
  | none => exact (N _ (hsub _ (mem_allNews e hl q))).1

/-- the locals' dict may have moved, all else stays -/
theorem Inv.stepL (I : Inv P F l H s) {h' : Heap} {t : Nat} (k : ∀ b o, s.heap.get? b = some o → b ≠ F.env.locals → ¬ Off F H b → h'.get? b = some o)
    {m : Str → Option Value} (hn : h'.Ns F.env.locals m) (K : FmOk P F) {l' : Loc}
    (hm : ∀ x v, l' x = some v → F.env.kindOf x = some .local → ∃ V, m x = some V ∧ er V = v)
    (hc : ∀ x v, l' x = some v → (F.env.kindOf x = some .cell ∨ F.env.kindOf x = some .free) → l x = some v) : Inv P F l' H { s with heap := h', toks := t } := by
  refine ⟨I.gens, I.os, fun b o e => k b o (I.keep b o e) (fun q => ?_) fun q => ?_, fun b d e => ?_, ⟨m, hn, hm⟩, fun x c e => ?_, fun a o e => ?_, I.free, I.big⟩
  · rw [q, K.lg] at e; cases e
  · rw [q.g] at e; cases e
  · obtain ⟨o, ho, hd⟩ := I.frk b d e
    exact ⟨o, k b o ho (fun q => by rw [q, K.lf] at e; cases e) fun q => (by rw [q.fr] at e; cases e), hd⟩
  · obtain ⟨vo, ⟨o, ho, r⟩, q⟩ := I.cel x c e
    exact ⟨vo, ⟨o, k _ _ ho (K.cl x c (mem_of_lookup e)) fun q => q.c x c (mem_of_lookup e) rfl, r⟩, fun v hv hk => q v (hc x v hv hk) hk⟩
  · obtain ⟨O, ho⟩ := (I.objs a o e).some
    refine (I.objs a o e).congr ((k _ _ ho (I.neL K e) fun q => ?_).trans ho.symm)
    rw [q.h] at e; cases e

theorem Inv.push (I : Inv P F l H s) (o : Obj) : Inv P F l H { s with heap := s.heap.push o } :=
  I.step (t := s.toks) fun _ _ e _ => Heap.get?_push_of_some o e

/-- a new object of ours -/
theorem Inv.more (K : FmOk P F) (I : Inv P F l H s) {h' : Heap} {t : Nat} {a : Addr} {o : AObj} (n : s.heap.get? a = none) (hz : Bigs P a o) (k : ∀ b o, s.heap.get? b = some o → h'.get? b = some o) (m : Mt P h' a o) (hr : o.isR = false := by rfl) :
    Inv P F l (H.upd a o) { s with heap := h', toks := t } := by
  have I' := I.step (t := t) (h' := h') fun b o e _ => k b o e
  have of := I.off K n
  refine ⟨I'.gens, I'.os, I'.keep, I'.frk, I'.loc, I'.cel, fun b o' e => ?_, fun b o' e => ?_, fun b o' e => ?_⟩
  · by_cases q : b = a
    · subst q; rw [Hp.upd_same] at e; cases e; exact m
    · rw [Hp.upd_ne _ _ q] at e; exact I'.objs b o' e
  · by_cases q : b = a
    · subst q; rw [Hp.upd_same] at e; cases e; exact fre_of hr ⟨of.g, of.fr, of.l, of.c⟩
    · rw [Hp.upd_ne _ _ q] at e; exact I.free b o' e
  · by_cases q : b = a
    · subst q; rw [Hp.upd_same] at e; cases e; exact hz
    · rw [Hp.upd_ne _ _ q] at e; exact I.big b o' e
theorem Inv.base_le (K : FmOk P F) (I : Inv P F l H s) : P.base.objs.size ≤ s.heap.objs.size := by
  obtain ⟨m, hn, _⟩ := I.loc
  exact Nat.le_of_lt (Nat.lt_of_le_of_lt K.above hn.lt)
theorem Inv.alloc (K : FmOk P F) (I : Inv P F l H s) {O : Obj} {o : AObj} {t : Nat} (m : Mt P (s.heap.push O) s.heap.objs.size o) (hr : o.isR = false := by rfl) : Inv P F l (H.upd s.heap.objs.size o) { s with heap := s.heap.push O, toks := t } :=
  I.more K (Heap.get?_none_of_le (Nat.le_refl _)) (bigs_of (I.base_le K)) (fun _ _ e => Heap.get?_push_of_some O e) m hr

/-- an address becomes ours -/
theorem Inv.track (I : Inv P F l H s) {a : Addr} {o : AObj} (of : Off F H a) (hz : Bigs P a o) (m : Mt P s.heap a o) (hr : o.isR = false := by rfl) : Inv P F l (H.upd a o) s := by
  refine ⟨I.gens, I.os, I.keep, I.frk, I.loc, I.cel, fun b o' e => ?_, fun b o' e => ?_, fun b o' e => ?_⟩
  · by_cases q : b = a
    · subst q; rw [Hp.upd_same] at e; cases e; exact m
    · rw [Hp.upd_ne _ _ q] at e; exact I.objs b o' e
  · by_cases q : b = a
    · subst q; rw [Hp.upd_same] at e; cases e; exact fre_of hr ⟨of.g, of.fr, of.l, of.c⟩
    · rw [Hp.upd_ne _ _ q] at e; exact I.free b o' e
  · by_cases q : b = a
    · subst q; rw [Hp.upd_same] at e; cases e; exact hz
    · rw [Hp.upd_ne _ _ q] at e; exact I.big b o' e

/-- behind a rule over Fr and the whole ledger -/
theorem Inv.after (K : FmOk P F) (I : Inv P F l H s) {h' : Heap} {t : Nat} {m : Str → Option Value} {news : List (Addr × Obj)}
    (hm : ∀ x v, l x = some v → F.env.kindOf x = some .local → ∃ V, m x = some V ∧ er V = v) (F' : Fr P.base F.env.locals h' m) (N' : News P.base F.env.locals h' news)
    (hsub : ∀ p ∈ allNews P.base s.heap F.env.locals, p ∈ news) : Inv P F l H { s with heap := h', toks := t } :=
  I.stepL (fun _ _ e hb _ => kept_all F' N' hsub (fun b o e => I.keep b o (K.base b o e)) e hb) F'.ns K hm fun _ _ h _ => h

theorem Inv.ofSize (K : FmOk P F) (I : Inv P F l H s) : Off F H s.heap.objs.size := I.off K (Heap.get?_none_of_le (Nat.le_refl _))

/-- an object of ours is changed -/
theorem Inv.put (I : Inv P F l H s) {h' : Heap} {t : Nat} {a : Addr} {o o' : AObj} (ha : H a = some o) (k : ∀ b, b ≠ a → h'.get? b = s.heap.get? b) (m : Mt P h' a o') (hb : Bigs P a o → Bigs P a o' := by exact id) (hr : o.isR = false := by rfl) (hr' : o'.isR = false := by rfl) :
    Inv P F l (H.upd a o') { s with heap := h', toks := t } := by
  obtain ⟨fg, ff, fl, fc⟩ := of_fre (I.free a o ha) hr
  refine ⟨I.gens, I.os, fun b O e => (k b fun q => ?_).trans (I.keep b O e), fun b d e => ?_, ?_, fun x c e => ?_, fun b O e => ?_, fun b O e => ?_, fun b O e => ?_⟩
  · rw [q, fg] at e; cases e
  · obtain ⟨O, ho, hd⟩ := I.frk b d e
    exact ⟨O, (k b fun q => by rw [q, ff] at e; cases e).trans ho, hd⟩
  · obtain ⟨m', ⟨O, es, ep, ho, r⟩, q⟩ := I.loc
    exact ⟨m', ⟨O, es, ep, (k _ (Ne.symm fl)).trans ho, r⟩, q⟩
  · obtain ⟨vo, ⟨O, ho, r⟩, q⟩ := I.cel x c e
    exact ⟨vo, ⟨O, (k _ (Ne.symm (fc x c (mem_of_lookup e)))).trans ho, r⟩, q⟩
  · by_cases q : b = a
    · subst q; rw [Hp.upd_same] at e; cases e; exact m
    · rw [Hp.upd_ne _ _ q] at e; exact (I.objs b O e).congr (k b q)
  · by_cases q : b = a
    · subst q; rw [Hp.upd_same] at e; cases e; exact fre_of hr' ⟨fg, ff, fl, fc⟩
    · rw [Hp.upd_ne _ _ q] at e; exact I.free b O e
  · by_cases q : b = a
    · subst q; rw [Hp.upd_same] at e; cases e; exact hb (I.big _ _ ha)
    · rw [Hp.upd_ne _ _ q] at e; exact I.big b O e

/-- an object of ours is changed, the locals' dict may have moved -/
theorem Inv.putL (K : FmOk P F) (I : Inv P F l H s) {h' : Heap} {t : Nat} {a : Addr} {o o' : AObj} (ha : H a = some o) (k : ∀ b O, s.heap.get? b = some O → b ≠ a → b ≠ F.env.locals → h'.get? b = some O)
    {m : Str → Option Value} (hn : h'.Ns F.env.locals m) (hm : ∀ x v, l x = some v → F.env.kindOf x = some .local → ∃ V, m x = some V ∧ er V = v) (mt : Mt P h' a o') (hb : Bigs P a o → Bigs P a o' := by exact id) (hr : o.isR = false := by rfl) (hr' : o'.isR = false := by rfl) :
    Inv P F l (H.upd a o') { s with heap := h', toks := t } := by
  obtain ⟨fg, ff, fl, fc⟩ := of_fre (I.free a o ha) hr
  refine ⟨I.gens, I.os, fun b O e => k b O (I.keep b O e) (fun q => ?_) fun q => ?_, fun b d e => ?_, ⟨m, hn, hm⟩, fun x c e => ?_, fun b O e => ?_, fun b O e => ?_, fun b O e => ?_⟩
  · rw [q, fg] at e; cases e
  · rw [q, K.lg] at e; cases e
  · obtain ⟨O, ho, hd⟩ := I.frk b d e
    exact ⟨O, k b O ho (fun q => by rw [q, ff] at e; cases e) (fun q => by rw [q, K.lf] at e; cases e), hd⟩
  · obtain ⟨vo, ⟨O, ho, r⟩, q⟩ := I.cel x c e
    exact ⟨vo, ⟨O, k _ _ ho (Ne.symm (fc x c (mem_of_lookup e))) (K.cl x c (mem_of_lookup e)), r⟩, q⟩
  · by_cases q : b = a
    · subst q; rw [Hp.upd_same] at e; cases e; exact mt
    · rw [Hp.upd_ne _ _ q] at e
      obtain ⟨O', ho⟩ := (I.objs b O e).some
      exact (I.objs b O e).congr ((k b O' ho q (I.neL K e)).trans ho.symm)
  · by_cases q : b = a
    · subst q; rw [Hp.upd_same] at e; cases e; exact fre_of hr' ⟨fg, ff, fl, fc⟩
    · rw [Hp.upd_ne _ _ q] at e; exact I.free b O e
  · by_cases q : b = a
    · subst q; rw [Hp.upd_same] at e; cases e; exact hb (I.big _ _ ha)
    · rw [Hp.upd_ne _ _ q] at e; exact I.big b O e

theorem filterMap_ne {f : Nat → Option (Addr × Obj)} (hf : ∀ a p, f a = some p → p.1 = a) : ∀ xs : List Nat, xs.Pairwise (· ≠ ·) → (xs.filterMap f).Pairwise fun p q => p.1 ≠ q.1
  | [], _ => .nil
  | x :: xs, h => by
    obtain ⟨h1, h2⟩ := List.pairwise_cons.mp h
    rw [List.filterMap_cons]
    split
    · exact filterMap_ne hf xs h2
    · rename_i p hp
      refine List.pairwise_cons.mpr ⟨fun q hq e => ?_, filterMap_ne hf xs h2⟩
      obtain ⟨y, hy, e'⟩ := List.mem_filterMap.mp hq
      have e1 : p.1 = x := hf _ _ hp
      have e2 : q.1 = y := hf _ _ e'
      exact h1 y hy (e1.symm.trans (e.trans e2))
theorem allNews_split {base h : Heap} {L a : Addr} {o : Obj} (hm : (a, o) ∈ allNews base h L) : ∃ pre post, allNews base h L = pre ++ (a, o) :: post ∧ (∀ p ∈ pre, p.1 ≠ a) ∧ ∀ p ∈ post, p.1 ≠ a := by
  obtain ⟨pre, post, e⟩ := List.append_of_mem hm
  have hp : (allNews base h L).Pairwise fun p q => p.1 ≠ q.1 := by
    refine filterMap_ne (fun b p hb => ?_) _ (List.Pairwise.imp (fun h => Nat.ne_of_lt h) List.pairwise_lt_range)
    by_cases e : b = L
    · rw [if_pos e] at hb; cases hb
    · rw [if_neg e] at hb
      cases q : base.get? b with
      | some o => rw [q] at hb; cases hb
      | none =>
        rw [q] at hb
        obtain ⟨o, _, rfl⟩ := Option.map_eq_some_iff.mp hb
        rfl
  rw [e] at hp
  obtain ⟨_, h2, h3⟩ := List.pairwise_append.mp hp
  exact ⟨pre, post, e, fun p hp => h3 p hp (a, o) (.head _), fun p hp => ((List.pairwise_cons.mp h2).1 p hp).symm⟩
end

/-! ## names -/
section
variable {P : Pm} {F : Fm} {l : Loc} {H : Hp} {s : Shared} {E : Value → Shared → Prop}

/-- a name that is bound in the block -/
def Own (env : Env) (x : Str) : Prop := env.kindOf x = some .local ∨ ((env.kindOf x = some .cell ∨ env.kindOf x = some .free) ∧ ∃ c, env.cells.lookup x = some c)

theorem ld_loc (K : FmOk P F) (I : Inv P F l H s) {x : Str} {pos : Pos} {v : Value} {Q : Value → Shared → Prop} (hv : l x = some v) (ho : Own F.env x) (hd : (x == ("__debug__" : Str)) = false) (hcd : (x == ("__classdict__" : Str)) = false)
    (h : ∀ V, er V = v → Q V s) : wpAny P.M F.A (eval (.Name x pos) F.env) Q E s := by
  refine wpAny_Name ?_ hd
  rcases ho with hl | ⟨hk, c, hc⟩
  · obtain ⟨m, hn, q⟩ := I.loc
    obtain ⟨V, hV, e⟩ := q x v hv hl
    exact wpAny_loadName_local K.kind hl hn hV (h V e)
  · obtain ⟨vo, hi, q⟩ := I.cel x c hc
    obtain ⟨V, rfl, e⟩ := q v hv hk
    rcases hk with hk | hk
    · exact wpAny_loadName_cell K.kind hk hc hi (h V e)
    · exact wpAny_loadName_free K.kind hk hc hi (h V e) hcd

theorem ld_glob (Y : PmOk P) (K : FmOk P F) (I : Inv P F l H s) {x : Str} {pos : Pos} {v : Value} {Q : Value → Shared → Prop} (hv : P.mg x = some v ∨ (P.mg x = none ∧ P.mb x = some v)) (hk : F.env.kindOf x = some .globalImplicit) (hd : (x == ("__debug__" : Str)) = false)
    (h : Q v s) : wpAny P.M F.A (eval (.Name x pos) F.env) Q E s := by
  have k : ∀ b o, P.base.get? b = some o → s.heap.get? b = some o := fun b o e => I.keep b o (K.base b o e)
  refine Calls.Name_function_global K.kind hk ?_ hd
  rcases hv with hv | ⟨h1, h2⟩
  · exact Calls.loadGlobal_global (by rw [K.glob]; exact Y.g.keeps k) hv h
  · exact Calls.loadGlobal_builtin (by rw [K.glob]; exact Y.g.keeps k) h1 (by rw [K.blt]; exact Y.b.keeps k) h2 h

theorem st_loc (K : FmOk P F) (I : Inv P F l H s) (hro : F.ro = false) {x : Str} {V : Value} {Q : Unit → Shared → Prop} (ho : F.env.kindOf x = some .local ∨ (F.env.kindOf x = some .cell ∧ ∃ c, F.env.cells.lookup x = some c))
    (h : ∀ s', Inv P F (l.upd x (er V)) H s' → Q () s') : wpAny P.M F.A (storeName F.env x V) Q E s := by
  rcases ho with hl | ⟨hk, c, hc⟩
  · obtain ⟨m, hn, q⟩ := I.loc
    refine wpAny_storeName_local hl hn (fun h' hn' hs => h _ (I.stepL (t := s.toks + 1) (fun b o e hb _ => hs.extBut b o hb e) hn' K (fun y v hy hky => ?_) fun y v hy hky => ?_)) (by rw [K.kind]; rfl)
    · by_cases e : y = x
      · subst e; simp [Loc.upd] at hy; subst hy; exact ⟨V, by simp, rfl⟩
      · simp [Loc.upd, e] at hy; simp [e]; exact q y v hy hky
    · by_cases e : y = x
      · subst e; rw [hl] at hky; simp at hky
      · simpa [Loc.upd, e] using hy
  · obtain ⟨vo, hi, q⟩ := I.cel x c hc
    have hm := mem_of_lookup hc
    refine wpAny_storeName_cell K.kind hk hc hi fun h' hi' hs => h _ ?_
    have other : ∀ b o, s.heap.get? b = some o → b ≠ c → h'.get? b = some o := fun b o e hb => (hs.2 b hb).trans e
    have g1 := (K.cg hro x c hm)
    refine ⟨I.gens, I.os, fun b o e => other b o (I.keep b o e) fun z => ?_, fun b d e => ?_, ?_, fun y c' e => ?_, fun a o e => ?_, I.free, I.big⟩
    · rw [z, g1.1] at e; cases e
    · obtain ⟨o, ho, hd⟩ := I.frk b d e
      exact ⟨o, other b o ho (fun z => by rw [z, g1.2] at e; cases e), hd⟩
    · obtain ⟨m, ⟨o, es, ep, ho, r⟩, q⟩ := I.loc
      refine ⟨m, ⟨o, es, ep, other _ _ ho (Ne.symm (K.cl x c hm)), r⟩, fun y v hy hky => q y v ?_ hky⟩
      by_cases z : y = x
      · subst z; rw [hk] at hky; cases hky
      · simpa [Loc.upd, z] using hy
    · by_cases z : y = x
      · subst z
        rw [hc] at e; cases e
        exact ⟨some V, hi', fun v hv _ => ⟨V, rfl, by simpa [Loc.upd] using hv⟩⟩
      · obtain ⟨vo', ⟨o, ho, r⟩, q'⟩ := I.cel y c' e
        refine ⟨vo', ⟨o, other _ _ ho fun w => z ?_, r⟩, fun v hv hky => q' v (by simpa [Loc.upd, z] using hv) hky⟩
        exact name_of_addr K.apart (mem_of_lookup e) (w ▸ hm)
    · obtain ⟨O, ho⟩ := (I.objs a o e).some
      exact (I.objs a o e).congr ((other a O ho (I.neC K e hm)).trans ho.symm)
end

end Mine
end

section
open PySem PyProof.Rows PySem.Calls
namespace Mine

/-! ## the small wp -/

/-- what the text's top names -/
structure Gx where
  glob : Str → Option Value
  fn : Addr → Bool → List Value → Hp → QV → XV → Prop
  meth : Addr → Str → Option Addr
  init : Addr → Option Addr
  isExc : Addr → Bool
  sub : Addr → Addr → Bool
  fld : Addr → Str → Bool

/-- an item by an index, from behind where it is below nought -/
def at? {α : Type} (xs : List α) (k : Int) : Option α :=
  if 0 ≤ k then xs[k.toNat]? else if -(xs.length : Int) ≤ k then xs[(k + xs.length).toNat]? else none

def cutAt (n : Nat) (i : Int) : Nat := if i < 0 then (i + n).toNat else min i.toNat n
def hiAt (n : Nat) : Option Int → Nat
  | none => n
  | some i => cutAt n i
def loAt (n : Nat) : Option Int → Nat
  | none => 0
  | some i => cutAt n i
def pySlice {α : Type} (xs : List α) (lo hi : Option Int) : List α := (xs.take (hiAt xs.length hi)).drop (loAt xs.length lo)

mutual
inductive Rd (H : Hp) : Value → PyData → Prop where
  | none : Rd H .none .none
  | bool (b : Bool) : Rd H (.bool b) (.bool b)
  | int (i : Int) (t : Tok) : Rd H (.int i t) (.int i)
  | str (x : Str) (t : Tok) : Rd H (.str x t) (.str x)
  | list {a : Addr} {xs : List Value} {ds : List PyData} : H a = some (.list xs) → RdAll H xs ds → Rd H (.ref a) (.list ds)
  | tup {a : Addr} {xs : List Value} {ds : List PyData} : H a = some (.tup xs) → RdAll H xs ds → Rd H (.ref a) (.tuple ds)
inductive RdAll (H : Hp) : List Value → List PyData → Prop where
  | nil : RdAll H [] []
  | cons {v : Value} {vs : List Value} {d : PyData} {ds : List PyData} : Rd H v d → RdAll H vs ds → RdAll H (v :: vs) (d :: ds)
end

def newV (o : AObj) (H : Hp) (Q : QV) : Prop := ∀ c, H c = none → Q (.ref c) (H.upd c o)

/-- a tuple: a new one, or one that is there -/
def newT (xs : List Value) (H : Hp) (Q : QV) : Prop := (∀ c, H c = none → Q (.ref c) (H.upd c (.tup xs))) ∧ ∀ c, H c = some (.tup xs) → Q (.ref c) H

def chr1 (c : Nat) : Str := ⟨#[c]⟩

def binV (op : Operator) (a b : Value) (H : Hp) (Q : QV) : Prop :=
  match op, a, b with
  | .Add, .int x _, .int y _ => Q (.int (x + y) 0) H
  | .Sub, .int x _, .int y _ => Q (.int (x - y) 0) H
  | .Mult, .int x _, .int y _ => (x.natAbs < 2 ^ 63 ∨ y.natAbs < 2 ^ 63) ∧ Q (.int (x * y) 0) H
  | .FloorDiv, .int x _, .int y _ => 0 < y ∧ y < 2 ^ 63 ∧ Q (.int (x / y) 0) H
  | .Mod, .int x _, .int y _ => 0 < y ∧ Q (.int (x % y) 0) H
  | .Pow, .int x _, .int y _ => 0 ≤ y ∧ y ≤ 100 ∧ x.natAbs < 2 ^ 63 ∧ Q (.int (x ^ y.toNat) 0) H
  | .Add, .str x _, .str y _ => x.length + y.length ≤ sizeLine ∧ Q (.str (x ++ y) 0) H
  | .Mult, .str x _, .int n _ => x.length ≤ 1000 ∧ n ≤ 1000 ∧ -1000 ≤ n ∧ Q (.str (Txt.mul x n) 0) H
  | .Add, .ref a, .ref b => match H a, H b with
    | some (.list xs), some (.list ys) => xs.length + ys.length ≤ sizeLine ∧ newV (.list (xs ++ ys)) H Q
    | some (.tup xs), some (.tup ys) => xs.length + ys.length ≤ sizeLine ∧ newT (xs ++ ys) H Q
    | _, _ => False
  | _, _, _ => False

def eqV (a b : Value) (H : Hp) (k : Bool → Prop) : Prop :=
  match a, b with
  | .int x _, .int y _ => k (decide (x = y))
  | .str x _, .str y _ => k (decide (x = y))
  | .none, .none => k true
  | .none, .int _ _ => k false
  | .int _ _, .none => k false
  | .none, .str _ _ => k false
  | .str _ _, .none => k false
  | a, b => ∃ da db, Rd H a da ∧ Rd H b db ∧ SeqAt.shaped da = true ∧ SeqAt.shaped db = true ∧ k (PyData.eqv da db)

def inV (a b : Value) (H : Hp) (k : Bool → Prop) : Prop :=
  match a, b with
  | .str x _, .str y _ => k (Txt.contains y x)
  | .int i _, .ref d => match H d with
    | some (.idict kvs) => k (valueAt kvs i).isSome
    | some (.list xs) => ∃ ns : List Int, xs = ns.map (fun n => Value.int n 0) ∧ k (decide (i ∈ ns))
    | _ => False
  | .str x _, .ref d => match H d with
    | some (.sdict kvs) => k (valueAt kvs x).isSome
    | some (.idict kvs) => kvs = [] ∧ k false
    | _ => False
  | _, _ => False

def cmpV (op : CmpOp) (a b : Value) (H : Hp) (Q : QV) : Prop :=
  match op with
  | .Eq => eqV a b H fun r => Q (.bool r) H
  | .NotEq => eqV a b H fun r => Q (.bool (!r)) H
  | .In => inV a b H fun r => Q (.bool r) H
  | .NotIn => inV a b H fun r => Q (.bool (!r)) H
  | .Is => match b with
    | .none => (match a with | .none => Q (.bool true) H | .builtin _ => False | _ => Q (.bool false) H)
    | _ => False
  | .IsNot => match b with
    | .none => (match a with | .none => Q (.bool false) H | .builtin _ => False | _ => Q (.bool true) H)
    | _ => False
  | .Lt => match a, b with
    | .int x _, .int y _ => Q (.bool (decide (x < y))) H
    | .str x _, .str y _ => Q (.bool (decide (x.cps.toList < y.cps.toList))) H
    | _, _ => False
  | .Gt => match a, b with
    | .int x _, .int y _ => Q (.bool (decide (y < x))) H
    | .str x _, .str y _ => Q (.bool (decide (y.cps.toList < x.cps.toList))) H
    | _, _ => False
  | .LtE => match a, b with
    | .int x _, .int y _ => Q (.bool (decide (x ≤ y))) H
    | _, _ => False
  | .GtE => match a, b with
    | .int x _, .int y _ => Q (.bool (decide (y ≤ x))) H
    | _, _ => False

def idxV (o i : Value) (H : Hp) (Q : QV) : Prop :=
  match o, i with
  | .ref a, .int k _ => match H a with
    | some (.list xs) => (match at? xs k with | some v => Q v H | none => False)
    | some (.rlist xs) => (match at? xs k with | some v => Q v H | none => False)
    | some (.tup xs) => (match at? xs k with | some v => Q v H | none => False)
    | some (.idict kvs) => (match valueAt kvs k with | some v => Q v H | none => False)
    | _ => False
  | .ref a, .str x _ => match H a with
    | some (.sdict kvs) => (match valueAt kvs x with | some v => Q v H | none => False)
    | _ => False
  | .str x _, .int k _ => (match at? x.cps.toList k with | some c => x.length ≤ sizeLine ∧ Q (.str (chr1 c) 0) H | none => False)
  | _, _ => False

def partOf (v : Value) : Option (Option Int) :=
  match v with
  | .none => some none
  | .int i _ => some (some i)
  | _ => none

def sliceV (o lo hi : Value) (H : Hp) (Q : QV) : Prop :=
  match partOf lo, partOf hi with
  | some l, some h => match o with
    | .ref a => (match H a with
      | some (.list xs) => xs.length ≤ sizeLine ∧ newV (.list (pySlice xs l h)) H Q
      | some (.rlist xs) => xs.length ≤ sizeLine ∧ newV (.list (pySlice xs l h)) H Q
      | _ => False)
    | .str x _ => x.length ≤ sizeLine ∧ Q (.str ⟨(pySlice x.cps.toList l h).toArray⟩ 0) H
    | _ => False
  | _, _ => False

def attrV (G : Gx) (o : Value) (a : Str) (H : Hp) (Q : QV) : Prop :=
  match o with
  | .ref x => match H x with
    | some (.inst C d) => (match H d with
      | some (.ns kvs) => G.fld C a = true ∧ (match valueAt kvs a with | some (.builtin _) => False | some v => Q v H | none => False)
      | _ => False)
    | _ => False
  | _ => False

def truthV (v : Value) (k : Bool → Prop) : Prop := match v with | .bool b => k b | _ => False

def lenV (v : Value) (H : Hp) (Q : QV) : Prop :=
  match v with
  | .str x _ => x.length ≤ sizeLine ∧ Q (.int x.length 0) H
  | .ref a => match H a with
    | some (.list xs) => Q (.int xs.length 0) H
    | some (.rlist xs) => Q (.int xs.length 0) H
    | some (.tup xs) => Q (.int xs.length 0) H
    | _ => False
  | _ => False

def Ty.blt : Ty → Bool
  | .str | .int | .bool | .list | .tuple | .listOrTuple => true
  | _ => false

def isiV (G : Gx) (v : Value) (t : Ty) (H : Hp) (Q : QV) : Prop :=
  match v with
  | .none => t.blt = true ∧ Q (.bool false) H
  | .bool _ => t.blt = true ∧ Q (.bool (t == .bool || t == .int)) H
  | .int _ _ => t.blt = true ∧ Q (.bool (t == .int)) H
  | .str _ _ => t.blt = true ∧ Q (.bool (t == .str)) H
  | .ref a => match H a with
    | some (.list _) => t.blt = true ∧ Q (.bool (t == .list || t == .listOrTuple)) H
    | some (.tup _) => t.blt = true ∧ Q (.bool (t == .tuple || t == .listOrTuple)) H
    | some (.idict _) => t.blt = true ∧ Q (.bool false) H
    | some (.sdict _) => t.blt = true ∧ Q (.bool false) H
    | some (.exc C) => G.isExc C = true ∧ (match t with
      | .valueError => Q (.bool true) H
      | .cls x => (match G.glob x with | some (.ref D) => G.isExc D = true ∧ Q (.bool (G.sub C D)) H | _ => False)
      | _ => False)
    | _ => False
  | _ => False

def rangeL (lo hi st : Int) : List Value :=
  (List.range (Builtin.Range.rangeSize lo hi st).toNat).map fun (k : Nat) => .int (lo + (k : Int) * st) 0

/-- the items that a loop takes, and what must stay meanwhile -/
def iterV (v : Value) (H : Hp) (k : (Hp → Prop) → List Value → Prop) : Prop :=
  match v with
  | .str x _ => k (fun _ => True) (x.cps.toList.map fun c => .str (chr1 c) 0)
  | .ref a => match H a with
    | some (.list xs) => k (fun H' => H' a = some (.list xs)) xs
    | some (.tup xs) => k (fun H' => H' a = some (.tup xs)) xs
    | some (.range lo hi st) => Builtin.Range.small lo hi st = true ∧ k (fun _ => True) (rangeL lo hi st)
    | _ => False
  | _ => False

/-- the items that a built-in takes at once -/
def seqV (v : Value) (H : Hp) (k : List Value → Prop) : Prop :=
  match v with
  | .ref a => match H a with
    | some (.list xs) => k xs
    | some (.tup xs) => k xs
    | _ => False
  | _ => False

def rangeV (args : List Value) (H : Hp) (Q : QV) : Prop :=
  match args with
  | [.int hi _] => hi < 2 ^ 60 ∧ -(2 ^ 60) < hi ∧ newV (.range 0 hi 1) H Q
  | [.int lo _, .int hi _] => hi < 2 ^ 60 ∧ -(2 ^ 60) < hi ∧ lo < 2 ^ 60 ∧ -(2 ^ 60) < lo ∧ newV (.range lo hi 1) H Q
  | [.int lo _, .int hi _, .int st _] => st ≠ 0 ∧ -1000 < st ∧ st < 1000 ∧ hi < 2 ^ 60 ∧ -(2 ^ 60) < hi ∧ lo < 2 ^ 60 ∧ -(2 ^ 60) < lo ∧ newV (.range lo hi st) H Q
  | _ => False

def strLe (x y : Str) : Prop := ¬ (y.cps.toList < x.cps.toList)

/-- ints in order -/
def sortedV (v : Value) (H : Hp) (Q : QV) : Prop :=
  match v with
  | .ref a => match H a with
    | some (.list xs) => xs.length < 64 ∧ ∃ ns : List Int, xs = ns.map (fun n => Value.int n 0) ∧ ∀ ms : List Int, ms.Perm ns → ms.Pairwise (· ≤ ·) → newV (.list (ms.map fun n => Value.int n 0)) H Q
    | some (.idict kvs) => kvs.length < 64 ∧ ∃ ns : List Int, (kvs.map fun p => Value.int p.1 0) = ns.map (fun n => Value.int n 0) ∧ ∀ ms : List Int, ms.Perm ns → ms.Pairwise (· ≤ ·) → newV (.list (ms.map fun n => Value.int n 0)) H Q
    | _ => False
  | _ => False

def strsOf : List Value → Option (List Str)
  | [] => some []
  | .str x _ :: r => (strsOf r).map (x :: ·)
  | _ :: _ => none

def bfV (f : Bf) (args : List Value) (H : Hp) (Q : QV) : Prop :=
  match f, args with
  | .len, [v] => lenV v H Q
  | .list, [v] => seqV v H fun xs => xs.length ≤ sizeLine ∧ newV (.list xs) H Q
  | .tuple, [.ref a] => (match H a with
    | some (.list xs) => xs.length ≤ sizeLine ∧ newV (.tup xs) H Q
    | some (.tup _) => Q (.ref a) H
    | _ => False)
  | .sorted, [v] => sortedV v H Q
  | .int, [.bool b] => Q (.int (if b then 1 else 0) 0) H
  | .all, [.ref a] => (match H a with
    | some (.list xs) => ∃ bs : List Bool, xs = bs.map Value.bool ∧ Q (.bool (bs.all id)) H
    | _ => False)
  | .max2, [.int x _, .int y _] => Q (.int (max x y) 0) H
  | .min2, [.int x _, .int y _] => Q (.int (min x y) 0) H
  | .range, args => rangeV args H Q
  | _, _ => False

inductive Bk where
  | list | dict | str

def bmV (b : Bk) (m : Bm) (o : Value) (args : List Value) (H : Hp) (Q : QV) : Prop :=
  match b, m, o, args with
  | .list, .append, .ref a, [v] => (match H a with
    | some (.list xs) => xs.length ≤ sizeLine ∧ Q .none (H.upd a (.list (xs ++ [v])))
    | _ => False)
  | .list, .pop, .ref a, [] => (match H a with
    | some (.list xs) => xs.length ≤ sizeLine ∧ (match xs.getLast? with | some v => Q v (H.upd a (.list xs.dropLast)) | none => False)
    | _ => False)
  | .dict, .pop, .ref a, [.int k _] => (match H a with
    | some (.idict kvs) => kvs.length ≤ sizeLine ∧ (match valueAt kvs k with | some v => Q v (H.upd a (.idict (PySem.without kvs k))) | none => False)
    | _ => False)
  | .str, .join, .str x _, [.ref a] => (match H a with
    | some (.list xs) => (match strsOf xs with
      | some ss => JoinOk x ss = true ∧ Q (.str (Txt.join x ss) 0) H
      | none => False)
    | _ => False)
  | _, _, _, _ => False

def callV (G : Gx) (hm : Bool) (f : Value) (args : List Value) (H : Hp) (Q : QV) (X : XV) : Prop :=
  match f with
  | .ref a => match G.init a with
    | some fi => ∀ d x, H d = none → H x = none → d ≠ x → G.fn fi hm (.ref x :: args) ((H.upd d (.ns [])).upd x (.inst a d)) (fun r H' => r = .none ∧ Q (.ref x) H') X
    | none => G.fn a hm args H Q X
  | _ => False

/-- which function a method's name tells -/
def methV (G : Gx) (o : Value) (m : Str) (H : Hp) (k : Addr → Prop) : Prop :=
  match o with
  | .ref x => match H x with
    | some (.inst C d) => (match H d, G.meth C m with
      | some (.ns kvs), some f => valueAt kvs m = none ∧ k f
      | _, _ => False)
    | _ => False
  | _ => False

/-- a built-in's method is there -/
def bmOn (m : Bm) (v : Value) (H : Hp) (k : Bk → Prop) : Prop :=
  match v with
  | .str _ _ => (m = .join ∨ m = .split) ∧ k .str
  | .ref a => (match H a with
    | some (.list _) => (m = .append ∨ m = .pop) ∧ k .list
    | some (.idict _) => (m = .pop ∨ m = .get) ∧ k .dict
    | some (.sdict _) => (m = .pop ∨ m = .get) ∧ k .dict
    | _ => False)
  | _ => False

/-- a comprehension's turns -/
def compG (guard : Hp → Prop) (step : Value → Hp → (Option Value → Hp → Prop) → Prop) : List Value → List Value → Hp → (List Value → Hp → Prop) → Prop
  | [], acc, H, k => guard H ∧ k acc H
  | v :: vs, acc, H, k => guard H ∧ step v H fun r H' => compG guard step vs (match r with | some u => acc ++ [u] | none => acc) H' k

def dictV : List Value → List Value → Hp → QV → Prop := fun ks vs H Q =>
  (ks = [] ∧ vs = [] ∧ newV (.idict []) H Q) ∨
  (∃ ss : List Str, ks = ss.map (fun x => Value.str x 0) ∧ ss.Nodup ∧ ss.length = vs.length ∧ ss.length ≤ 15 ∧ ss ≠ [] ∧ newV (.sdict (ss.zip vs)) H Q)

mutual
def wpE (G : Gx) (hm : Bool) : Ex → Loc → Hp → QV → XV → Prop
  | .none, _, H, Q, _ => Q .none H
  | .bool b, _, H, Q, _ => Q (.bool b) H
  | .int i, _, H, Q, _ => Q (.int i 0) H
  | .str x, _, H, Q, _ => Q (.str x 0) H
  | .loc x, l, H, Q, _ => match l x with | some v => Q v H | none => False
  | .glob x, _, H, Q, _ => match G.glob x with | some v => Q v H | none => False
  | .attr o a, l, H, Q, X => wpE G hm o l H (fun v H1 => attrV G v a H1 Q) X
  | .bin op x y, l, H, Q, X => wpE G hm x l H (fun a H1 => wpE G hm y l H1 (fun b H2 => binV op a b H2 Q) X) X
  | .neg x, l, H, Q, X => wpE G hm x l H (fun a H1 => match a with | .int i _ => Q (.int (-i) 0) H1 | _ => False) X
  | .not x, l, H, Q, X => wpE G hm x l H (fun a H1 => truthV a fun b => Q (.bool (!b)) H1) X
  | .bop a es, l, H, Q, X => wpB G hm a es l H Q X
  | .cmp x op y, l, H, Q, X => wpE G hm x l H (fun a H1 => wpE G hm y l H1 (fun b H2 => cmpV op a b H2 Q) X) X
  | .cmp2 x op y op2 z, l, H, Q, X => wpE G hm x l H (fun a H1 => wpE G hm y l H1 (fun b H2 => cmpV op a b H2 fun c H3 => truthV c fun r =>
      if r then wpE G hm z l H3 (fun d H4 => cmpV op2 b d H4 Q) X else Q (.bool false) H3) X) X
  | .isi e t, l, H, Q, X => wpE G hm e l H (fun v H1 => isiV G v t H1 Q) X
  | .bf f args, l, H, Q, X => wpEs G hm args l H (fun vs H1 => (f = .len ∨ hm = false) ∧ bfV f vs H1 Q) X
  | .bm m o args, l, H, Q, X => wpE G hm o l H (fun v H1 => bmOn m v H1 fun b => wpEs G hm args l H1 (fun vs H2 => bmV b m v vs H2 Q) X) X
  | .call f args, l, H, Q, X => wpE G hm f l H (fun v H1 => wpEs G hm args l H1 (fun vs H2 => callV G hm v vs H2 Q X) X) X
  | .meth o m args, l, H, Q, X => wpE G hm o l H (fun v H1 => methV G v m H1 fun f => wpEs G hm args l H1 (fun vs H2 => G.fn f hm (v :: vs) H2 Q X) X) X
  | .idx o i, l, H, Q, X => wpE G hm o l H (fun v H1 => wpE G hm i l H1 (fun k H2 => idxV v k H2 Q) X) X
  | .slice o lo hi, l, H, Q, X => wpE G hm o l H (fun v H1 => wpO G hm lo l H1 (fun a H2 => wpO G hm hi l H2 (fun b H3 => sliceV v a b H3 Q) X) X) X
  | .list es, l, H, Q, X => wpEs G hm es l H (fun vs H1 => vs.length ≤ sizeLine ∧ newV (.list vs) H1 Q) X
  | .tup es, l, H, Q, X => wpEs G hm es l H (fun vs H1 => vs.length ≤ sizeLine ∧ newV (.tup vs) H1 Q) X
  | .dict ks vs, l, H, Q, X => wpEs G hm ks l H (fun a H1 => wpEs G hm vs l H1 (fun b H2 => dictV a b H2 Q) X) X
  | .comp elt x src ifs, l, H, Q, X => wpE G hm src l H (fun v H1 => hm = false ∧ iterV v H1 fun guard items => items.length ≤ sizeLine ∧
      compG guard (fun v H2 k => wpB G hm true ifs ((l.del ".0").upd x v) H2 (fun c H3 => truthV c fun r =>
        if r then wpE G hm elt ((l.del ".0").upd x v) H3 (fun u H4 => k (some u) H4) (fun _ _ => False) else k none H3) (fun _ _ => False)) items [] H1
        fun us H' => newV (.list us) H' Q) X
def wpEs (G : Gx) (hm : Bool) : List Ex → Loc → Hp → (List Value → Hp → Prop) → XV → Prop
  | [], _, H, Q, _ => Q [] H
  | e :: es, l, H, Q, X => wpE G hm e l H (fun v H1 => wpEs G hm es l H1 (fun vs H2 => Q (v :: vs) H2) X) X
def wpO (G : Gx) (hm : Bool) : Option Ex → Loc → Hp → QV → XV → Prop
  | none, _, H, Q, _ => Q .none H
  | some e, l, H, Q, X => wpE G hm e l H Q X
def wpB (G : Gx) (hm : Bool) (isAnd : Bool) : List Ex → Loc → Hp → QV → XV → Prop
  | [], _, H, Q, _ => Q (.bool isAnd) H
  | e :: es, l, H, Q, X => wpE G hm e l H (fun v H1 => truthV v fun b => if b = isAnd then (match es with | [] => Q (.bool b) H1 | _ => wpB G hm isAnd es l H1 Q X) else Q (.bool b) H1) X
end

def setAttrV (G : Gx) (o : Value) (a : Str) (v : Value) (H : Hp) (k : Hp → Prop) : Prop :=
  match o with
  | .ref x => match H x with
    | some (.inst C d) => (match H d with
      | some (.ns kvs) => G.fld C a = true ∧ kvs.length ≤ 100 ∧ k (H.upd d (.ns (stored kvs a v)))
      | _ => False)
    | _ => False
  | _ => False

def setItemV (o i v : Value) (H : Hp) (k : Hp → Prop) : Prop :=
  match o, i with
  | .ref a, .int n _ => match H a with
    | some (.idict kvs) => kvs.length ≤ sizeLine ∧ k (H.upd a (.idict (stored kvs n v)))
    | _ => False
  | .ref a, .str x _ => match H a with
    | some (.sdict kvs) => kvs.length ≤ sizeLine ∧ k (H.upd a (.sdict (stored kvs x v)))
    | some (.idict kvs) => kvs = [] ∧ k (H.upd a (.sdict [(x, v)]))
    | _ => False
  | _, _ => False

inductive Fl where
  | next | cont
  | ret (v : Value)

abbrev QS := Fl → Loc → Hp → Prop
abbrev XS := Addr → Loc → Hp → Prop

/-- a for's turns -/
def forG (guard : Hp → Prop) (x : Str) (body : Loc → Hp → QS → Prop) : List Value → Loc → Hp → QS → Prop
  | [], l, H, Q => guard H ∧ Q .next l H
  | v :: vs, l, H, Q => guard H ∧ body (l.upd x v) H fun f l' H' => match f with
    | .next | .cont => forG guard x body vs l' H' Q
    | .ret r => Q (.ret r) l' H'

/-- a while's turns, at most so many -/
def whileN (test : Loc → Hp → (Bool → Hp → Prop) → Prop) (body : Loc → Hp → QS → Prop) (Q : QS) : Nat → Loc → Hp → Prop
  | 0, _, _ => False
  | n + 1, l, H => test l H fun b H1 => if b then body l H1 (fun f l' H' => match f with
      | .next | .cont => whileN test body Q n l' H'
      | .ret r => Q (.ret r) l' H') else Q .next l H1

mutual
def wpS (G : Gx) (hm : Bool) : Sm → Loc → Hp → QS → XS → Prop
  | .expr e, l, H, Q, X => wpE G hm e l H (fun _ H' => Q .next l H') (fun C H' => X C l H')
  | .asg x e, l, H, Q, X => wpE G hm e l H (fun v H' => Q .next (l.upd x v) H') (fun C H' => X C l H')
  | .asgAttr o a e, l, H, Q, X => wpE G hm e l H (fun v H1 => wpE G hm o l H1 (fun ov H2 => setAttrV G ov a v H2 fun H' => Q .next l H') (fun C H' => X C l H')) (fun C H' => X C l H')
  | .asgIdx o i e, l, H, Q, X => wpE G hm e l H (fun v H1 => wpE G hm o l H1 (fun ov H2 => wpE G hm i l H2 (fun iv H3 => setItemV ov iv v H3 fun H' => Q .next l H') (fun C H' => X C l H')) (fun C H' => X C l H')) (fun C H' => X C l H')
  | .ite c t f, l, H, Q, X => wpE G hm c l H (fun v H1 => truthV v fun b => if b then wpSs G hm t l H1 Q X else wpSs G hm f l H1 Q X) (fun C H' => X C l H')
  | .for_ x src body, l, H, Q, X => wpE G hm src l H (fun v H1 => hm = false ∧ iterV v H1 fun guard items => forG guard x (fun l' H' K => wpSs G hm body l' H' K X) items l H1 Q) (fun C H' => X C l H')
  | .while_ c body, l, H, Q, X => ∃ n, whileN (fun l' H' K => wpE G hm c l' H' (fun v H1 => truthV v fun b => K b H1) (fun C H' => X C l' H')) (fun l' H' K => wpSs G hm body l' H' K X) Q n l H
  | .ret e, l, H, Q, X => wpE G hm e l H (fun v H' => Q (.ret v) l H') (fun C H' => X C l H')
  | .raise c, l, H, _, X => hm = false ∧ (match G.glob c with | some (.ref C) => G.isExc C = true ∧ X C l H | _ => False)
  | .try_ body hs, l, H, Q, X => wpSs G hm body l H Q fun C l' H' => hm = false ∧ G.isExc C = true ∧ wpH G hs C l' H' Q X
  | .cont, l, H, Q, _ => Q .cont l H
  | .pass, l, H, Q, _ => Q .next l H
def wpSs (G : Gx) (hm : Bool) : List Sm → Loc → Hp → QS → XS → Prop
  | [], l, H, Q, _ => Q .next l H
  | st :: r, l, H, Q, X => wpS G hm st l H (fun f l' H' => match f with | .next => wpSs G hm r l' H' Q X | f => Q f l' H') X
def wpH (G : Gx) : List Hd → Addr → Loc → Hp → QS → XS → Prop
  | [], C, l, H, _, X => X C l H
  | .mk c n body :: r, C, l, H, Q, X => match G.glob c with
    | some (.ref D) => G.isExc D = true ∧ if G.sub C D then (match n with
        | none => wpSs G true body l H Q (fun _ _ _ => False)
        | some y => ∀ e, H e = none → wpSs G true body (l.upd y (.ref e)) (H.upd e (.exc C)) (fun f l' H' => Q f (l'.del y) H') (fun _ _ _ => False))
      else wpH G r C l H Q X
    | _ => False
end

/-- a def's call -/
def wpF (G : Gx) (hm : Bool) (params : List Str) (body : List Sm) (args : List Value) (H : Hp) (Q : QV) (X : XV) : Prop :=
  params.length = args.length ∧ wpSs G hm body (fun x => (params.zip args).lookup x) H
    (fun f _ H' => match f with | .next => Q .none H' | .ret v => Q v H' | .cont => False) (fun C _ H' => X C H')

end Mine
end

section
open PySem PyProof.Rows PySem.Calls
namespace Mine

def PostE (P : Pm) (F : Fm) (l : Loc) (Q : QV) : Value → Shared → Prop := fun V s' => ∃ H', Inv P F l H' s' ∧ Q (er V) H'

section
variable {P : Pm} {F : Fm} {l : Loc} {H : Hp} {s : Shared} {E : Value → Shared → Prop} {Q : QV} {A' B' a b : Value}

theorem same_int {x : Int} {t : Nat} (I : Inv P F l H s) (h : Q (.int x 0) H) (u : Tok) : PostE P F l Q (.int x u) { s with toks := t } := ⟨H, I.toks t, h⟩

theorem isList_of {h : Heap} {a : Addr} {o : Obj} {xs : Array Value} {n : Nat} (e : h.get? a = some o) (hc : o.cls = .type "list") (hd : o.data = .seq xs n) : h.IsList a xs := ⟨o, e, hc, n, hd⟩

theorem IsL.isList {h : Heap} {a : Addr} {vs : Array Value} (x : IsL h a vs) : h.IsList a vs := let ⟨n, e⟩ := x; ⟨_, e, rfl, n, rfl⟩
theorem mt_list {h : Heap} {a : Addr} {vs : Array Value} (hl : IsL h a vs) (hz : vs.size ≤ 2 ^ 25) : Mt P h a (.list (vs.toList.map er)) := ⟨vs, hl.isList, rfl, by simpa using hz, hl⟩
theorem mt_tup {h : Heap} {a : Addr} {vs : Array Value} (hl : h.IsTuple a vs) (hz : vs.size ≤ 2 ^ 25) : Mt P h a (.tup (vs.toList.map er)) := ⟨vs, hl, rfl, by simpa using hz⟩

theorem new_list (K : FmOk P F) (I : Inv P F l H s) {h' : Heap} {t : Nat} {m : Str → Option Value} {vs : Array Value} {n : Nat}
    (hm : ∀ x v, l x = some v → F.env.kindOf x = some .local → ∃ V, m x = some V ∧ er V = v) (F' : Fr P.base F.env.locals h' m)
    (N' : News P.base F.env.locals h' ((s.heap.objs.size, { cls := .type "list", data := .seq vs n }) :: allNews P.base s.heap F.env.locals))
    (hz : vs.size ≤ 2 ^ 25) (h : newV (.list (vs.toList.map er)) H Q) : PostE P F l Q (.ref s.heap.objs.size) { s with heap := h', toks := t } :=
  ⟨_, (I.after K hm F' N' fun _ hp => .tail _ hp).track (I.ofSize K) (bigs_of (I.base_le K)) (mt_list ⟨n, (N' _ (.head _)).1⟩ hz), h _ I.fresh⟩
theorem new_tup (K : FmOk P F) (I : Inv P F l H s) {h' : Heap} {t : Nat} {m : Str → Option Value} {vs : Array Value} {n : Nat}
    (hm : ∀ x v, l x = some v → F.env.kindOf x = some .local → ∃ V, m x = some V ∧ er V = v) (F' : Fr P.base F.env.locals h' m)
    (N' : News P.base F.env.locals h' ((s.heap.objs.size, { cls := .type "tuple", data := .seq vs n }) :: allNews P.base s.heap F.env.locals))
    (hz : vs.size ≤ 2 ^ 25) (h : newV (.tup (vs.toList.map er)) H Q) : PostE P F l Q (.ref s.heap.objs.size) { s with heap := h', toks := t } :=
  ⟨_, (I.after K hm F' N' fun _ hp => .tail _ hp).track (I.ofSize K) (bigs_of (I.base_le K)) (mt_tup ⟨_, (N' _ (.head _)).1, rfl, n, rfl⟩ hz), h _ I.fresh⟩

theorem intBits_lt {x : Int} (h : x.natAbs < 2 ^ 63) : Builtin.Int.intBits x ≤ 64 := by
  unfold Builtin.Int.intBits
  split
  · omega
  · have := (Nat.log2_lt (n := x.natAbs) (k := 63) (by intro q; simp_all)).mpr h
    omega

theorem s_bin (K : FmOk P F) (I : Inv P F l H s) (op : Operator) (ha : er A' = a) (hb : er B' = b) (h : binV op a b H Q) : wpAny P.M F.A (binaryOp op A' B') (PostE P F l Q) E s := by
  unfold binV at h
  split at h
  · rename_i x _ y _; obtain ⟨_, rfl⟩ := er_int ha; obtain ⟨_, rfl⟩ := er_int hb
    exact add_int (same_int I h _)
  · rename_i x _ y _; obtain ⟨_, rfl⟩ := er_int ha; obtain ⟨_, rfl⟩ := er_int hb
    exact sub_int (same_int I h _)
  · rename_i x _ y _; obtain ⟨_, rfl⟩ := er_int ha; obtain ⟨_, rfl⟩ := er_int hb
    refine mul_int (same_int I h.2 _) ?_
    unfold IntMulOk shortFactorBits
    rcases h.1 with q | q
    · have := intBits_lt q; simp; omega
    · have := intBits_lt q; simp; omega
  · rename_i x _ y _; obtain ⟨_, rfl⟩ := er_int ha; obtain ⟨_, rfl⟩ := er_int hb
    refine floordiv_int (by omega) ?_ (.inl ?_)
    · rw [Int.fdiv_eq_ediv_of_nonneg _ (by omega)]; exact same_int I h.2.2 _
    · unfold Builtin.divisionGoesByPylong
      have : y.natAbs.log2 < 63 := by
        by_cases hy : y.natAbs = 0
        · rw [hy]; decide
        · exact (Nat.log2_lt hy).mpr (by omega)
      have h0 : ¬ y = 0 := by omega
      simp [h0]
      omega
  · rename_i x _ y _; obtain ⟨_, rfl⟩ := er_int ha; obtain ⟨_, rfl⟩ := er_int hb
    refine mod_int (by omega) ?_
    rw [Int.fmod_eq_emod_of_nonneg _ (by omega)]; exact same_int I h.2 _
  · rename_i x _ y _; obtain ⟨_, rfl⟩ := er_int ha; obtain ⟨_, rfl⟩ := er_int hb
    have := intBits_lt h.2.2.1
    refine pow_int h.1 ?_ (same_int I h.2.2.2 _)
    have h1 : (Builtin.Int.intBits x : Int) * y ≤ 64 * 100 := Int.mul_le_mul (by omega) h.2.1 h.1 (by omega)
    omega
  · rename_i x _ y _; obtain ⟨_, rfl⟩ := er_str ha; obtain ⟨_, rfl⟩ := er_str hb
    exact add_str (fun t' tk => ⟨H, I.toks tk, h.2⟩) h.1
  · rename_i x _ n _; obtain ⟨_, rfl⟩ := er_str ha; obtain ⟨_, rfl⟩ := er_int hb
    refine SB.mul ?_ (fun t' tk => ⟨H, I.toks tk, h.2.2.2⟩)
    obtain ⟨h1, h2, h3, _⟩ := h
    refine ⟨by simp; omega, fun q _ => ?_, fun q _ => ?_⟩
    · have : (1000 : Int) ≤ (2 ^ 63 - 1) / n := by
        apply Int.le_ediv_of_mul_le (by omega)
        have : 1000 * n ≤ 1000 * 1000 := Int.mul_le_mul_of_nonneg_left h2 (by omega)
        omega
      omega
    · have : x.length * n.toNat ≤ 1000 * 1000 := Nat.mul_le_mul h1 (by omega)
      simp [Builtin.Str.tooLong, sizeLine]; omega
  · rename_i x y; have := er_ref ha; subst this; have := er_ref hb; subst this
    obtain ⟨m, Fr, hm⟩ := I.fr K
    split at h
    · rename_i xs ys hx hy
      obtain ⟨vs, hl, rfl, z1⟩ := I.objs _ _ hx
      obtain ⟨ws, hl', rfl, z2⟩ := I.objs _ _ hy
      simp only [List.length_map, Array.length_toList] at h z1 z2
      refine add_arrays Fr (news_all _ _ _) hl hl' (fun h' F' N' => new_list K I (t := s.toks) hm F' N' ?_ ?_) h.1
      · simp; have := h.1; simp [sizeLine] at this; omega
      · simpa using h.2
    · rename_i xs ys hx hy
      obtain ⟨vs, hl, rfl, z1⟩ := I.objs _ _ hx
      obtain ⟨ws, hl', rfl, z2⟩ := I.objs _ _ hy
      simp only [List.length_map, Array.length_toList] at h z1 z2
      obtain ⟨vs⟩ := vs
      obtain ⟨ws⟩ := ws
      refine add_tuples Fr (news_all _ _ _) hl hl' (fun e => ?_) (fun _ e => ?_) (fun _ _ h' F' N' => ?_) h.1
      · subst e; exact ⟨H, I, h.2.2 _ (by simpa using hy)⟩
      · subst e; exact ⟨H, I, h.2.2 _ (by simpa using hx)⟩
      · have z := h.1
        simp [sizeLine] at z
        exact ⟨_, (I.after K hm F' N' (t := s.toks) fun _ hp => .tail _ hp).track (I.ofSize K) (bigs_of (I.base_le K)) (mt_tup ⟨_, (N' _ (.head _)).1, rfl, 0, rfl⟩ (by simp; omega)), by have := h.2.1 _ I.fresh; rw [← List.map_append] at this; exact this⟩
    · exact h.elim
  · exact h.elim


mutual
theorem reads_of (I : Inv P F l H s) : ∀ {v : Value} {d : PyData}, Rd H v d → ∀ V, er V = v → ∃ as, Reads s.heap V d as
  | _, _, .none, V, e => ⟨[], by rw [er_none e]; exact .none⟩
  | _, _, .bool b, V, e => ⟨[], by rw [er_bool e]; exact .bool b⟩
  | _, _, .int i t, V, e => ⟨[], by obtain ⟨u, rfl⟩ := er_int e; exact .int i u⟩
  | _, _, .str x t, V, e => ⟨[], by obtain ⟨u, rfl⟩ := er_str e; exact .str x u⟩
  | _, _, .list (a := a) ha hr, V, e => by
    have := er_ref e; subst this
    obtain ⟨vs, ⟨o, ho, hc, n, hd⟩, q, _⟩ := I.objs _ _ ha
    obtain ⟨as, r⟩ := readsAll_of I hr vs.toList q
    exact ⟨_, .list ho hc hd r⟩
  | _, _, .tup (a := a) ha hr, V, e => by
    have := er_ref e; subst this
    obtain ⟨vs, ⟨o, ho, hc, n, hd⟩, q, _⟩ := I.objs _ _ ha
    obtain ⟨as, r⟩ := readsAll_of I hr vs.toList q
    exact ⟨_, .tuple ho hc hd r⟩
theorem readsAll_of (I : Inv P F l H s) : ∀ {vs : List Value} {ds : List PyData}, RdAll H vs ds → ∀ Vs : List Value, Vs.map er = vs → ∃ as, ReadsAll s.heap Vs ds as
  | _, _, .nil, Vs, e => by
    cases Vs with
    | nil => exact ⟨[], .nil⟩
    | cons => simp at e
  | _, _, .cons h r, Vs, e => by
    cases Vs with
    | nil => simp at e
    | cons V Vs =>
      simp only [List.map_cons, List.cons.injEq] at e
      obtain ⟨as, p⟩ := reads_of I h V e.1
      obtain ⟨bs, q⟩ := readsAll_of I r Vs e.2
      exact ⟨_, .cons p q⟩
end

theorem beq_dec {α : Type} [DecidableEq α] (x y : α) : (x == y) = decide (x = y) := by rw [Bool.eq_iff_iff]; simp

theorem s_eq (I : Inv P F l H s) (hu : F.A.units + 64 < cLine) (ha : er A' = a) (hb : er B' = b) (h : eqV a b H fun r => Q (.bool r) H) : wpAny P.M F.A (compareOp .Eq A' B') (PostE P F l Q) E s := by
  unfold eqV at h
  split at h
  · obtain ⟨_, rfl⟩ := er_int ha; obtain ⟨_, rfl⟩ := er_int hb
    exact eq_int ⟨H, I, by rw [beq_dec]; exact h⟩
  · obtain ⟨_, rfl⟩ := er_str ha; obtain ⟨_, rfl⟩ := er_str hb
    exact eq_str ⟨H, I, by rw [beq_dec]; exact h⟩
  · rw [er_none ha, er_none hb]; exact EqNone.eq_none_none ⟨H, I, h⟩
  · rw [er_none ha]; obtain ⟨_, rfl⟩ := er_int hb; exact EqNone.eq_none_int ⟨H, I, h⟩
  · rw [er_none hb]; obtain ⟨_, rfl⟩ := er_int ha; exact EqNone.eq_int_none ⟨H, I, h⟩
  · rw [er_none ha]; obtain ⟨_, rfl⟩ := er_str hb; exact EqNone.eq_none_str ⟨H, I, h⟩
  · rw [er_none hb]; obtain ⟨_, rfl⟩ := er_str ha; exact EqNone.eq_str_none ⟨H, I, h⟩
  · obtain ⟨da, db, ra, rb, sa, sb, q⟩ := h
    obtain ⟨as, ra⟩ := reads_of I ra A' ha
    obtain ⟨bs, rb⟩ := reads_of I rb B' hb
    exact SeqAt.compareEq_shaped ra rb sa sb hu ⟨H, I, q⟩

theorem s_ne (I : Inv P F l H s) (hu : F.A.units + 64 < cLine) (ha : er A' = a) (hb : er B' = b) (h : eqV a b H fun r => Q (.bool (!r)) H) : wpAny P.M F.A (compareOp .NotEq A' B') (PostE P F l Q) E s := by
  unfold eqV at h
  split at h
  · obtain ⟨_, rfl⟩ := er_int ha; obtain ⟨_, rfl⟩ := er_int hb
    exact ne_int ⟨H, I, by show Q (.bool (_ != _)) H; unfold bne; rw [beq_dec]; exact h⟩
  · obtain ⟨_, rfl⟩ := er_str ha; obtain ⟨_, rfl⟩ := er_str hb
    exact ne_str ⟨H, I, by show Q (.bool (_ != _)) H; unfold bne; rw [beq_dec]; exact h⟩
  · rw [er_none ha, er_none hb]; exact EqNone.ne_none_none ⟨H, I, h⟩
  · rw [er_none ha]; obtain ⟨_, rfl⟩ := er_int hb; exact EqNone.ne_none_int ⟨H, I, h⟩
  · rw [er_none hb]; obtain ⟨_, rfl⟩ := er_int ha; exact EqNone.ne_int_none ⟨H, I, h⟩
  · rw [er_none ha]; obtain ⟨_, rfl⟩ := er_str hb; exact EqNone.ne_none_str ⟨H, I, h⟩
  · rw [er_none hb]; obtain ⟨_, rfl⟩ := er_str ha; exact EqNone.ne_str_none ⟨H, I, h⟩
  · obtain ⟨da, db, ra, rb, sa, sb, q⟩ := h
    obtain ⟨as, ra⟩ := reads_of I ra A' ha
    obtain ⟨bs, rb⟩ := reads_of I rb B' hb
    exact SeqAt.compareNe_shaped ra rb sa sb hu ⟨H, I, q⟩

theorem valueAt_er {K : Type} [DecidableEq K] (ks : List (K × Value)) (k : K) : valueAt (ks.map fun p => (p.1, er p.2)) k = (valueAt ks k).map er := by
  unfold valueAt
  induction ks with
  | nil => rfl
  | cons p r ih =>
    simp only [List.map_cons, List.find?_cons]
    by_cases e : p.1 = k
    · simp [e]
    · simp [e]; simpa using ih

theorem not_modules (Y : PmOk P) (I : Inv P F l H s) {a : Addr} {o : AObj} (h : H a = some o) (hb : Bigs P a o → P.base.objs.size ≤ a := by exact id) : (a == sysModules) = false := by
  have h3 : sysModules < mainGlobals := by decide
  exact beq_eq_false_iff_ne.mpr (Nat.ne_of_gt (Nat.lt_of_lt_of_le (Nat.lt_trans h3 Y.g.lt) (hb (I.big a o h))))

theorem ints_of : ∀ {vs : List Value} {ns : List Int}, vs.map er = ns.map (fun n => Value.int n 0) → IntsAre vs ns
  | [], [], _ => .nil
  | [], _ :: _, e => by simp at e
  | _ :: _, [], e => by simp at e
  | v :: vs, n :: ns, e => by
    simp only [List.map_cons, List.cons.injEq] at e
    obtain ⟨t, rfl⟩ := er_int e.1
    exact .cons n t (ints_of e.2)
theorem strs_of : ∀ {vs : List Value} {ns : List Str}, vs.map er = ns.map (fun n => Value.str n 0) → StrsAre vs ns
  | [], [], _ => .nil
  | [], _ :: _, e => by simp at e
  | _ :: _, [], e => by simp at e
  | v :: vs, n :: ns, e => by
    simp only [List.map_cons, List.cons.injEq] at e
    obtain ⟨t, rfl⟩ := er_str e.1
    exact .cons n t (strs_of e.2)
theorem any_mem (ns : List Int) (i : Int) : ns.any (· == i) = decide (i ∈ ns) := by
  rw [Bool.eq_iff_iff]; simp

theorem empty_sdict {h : Heap} {a : Addr} (x : h.DictOf (intKind P.prog P.w) a []) : h.DictOf (PySem.strKind P.prog P.w) a [] := by
  obtain ⟨o, es, ep, h1, h2, h3, h4, h5, h6⟩ := x
  have : es = #[] := by
    cases hq : es.toList with
    | nil => simpa using hq
    | cons => rw [hq] at h5; cases h5
  subst this
  exact ⟨o, #[], ep, h1, h2, h3, fun e he => by simp at he, .nil, .nil⟩

theorem s_in (Y : PmOk P) (I : Inv P F l H s) (ha : er A' = a) (hb : er B' = b) (h : inV a b H fun r => Q (.bool r) H) : wpAny P.M F.A (compareOp .In A' B') (PostE P F l Q) E s := by
  unfold inV at h
  split at h
  · obtain ⟨_, rfl⟩ := er_str ha; obtain ⟨_, rfl⟩ := er_str hb
    exact in_str ⟨H, I, h⟩
  · obtain ⟨_, rfl⟩ := er_int ha; have := er_ref hb; subst this
    split at h
    · rename_i hx
      obtain ⟨ks, hd, rfl⟩ := I.objs _ _ hx
      refine wpAny_in_of (intKind_is _ _ _ _) (not_modules Y I hx) hd.mapOf ⟨H, I.toks _, ?_⟩
      rw [valueAt_er] at h
      simpa [er] using h
    · rename_i hx
      obtain ⟨ns, rfl, h⟩ := h
      obtain ⟨⟨vs⟩, hl, q, _⟩ := I.objs _ _ hx
      exact in_list_ints hl (ints_of q) ⟨H, I, by rw [any_mem]; exact h⟩
    · exact h.elim
  · obtain ⟨_, rfl⟩ := er_str ha; have := er_ref hb; subst this
    split at h
    · rename_i hx
      obtain ⟨ks, hd, rfl⟩ := I.objs _ _ hx
      refine wpAny_in_of (strKind_is _ _ _ _) (not_modules Y I hx) hd.mapOf ⟨H, I.toks _, ?_⟩
      rw [valueAt_er] at h
      simpa [er] using h
    · rename_i hx
      obtain ⟨ks, hd, q⟩ := I.objs _ _ hx
      obtain ⟨e, h⟩ := h
      obtain rfl : ks = [] := by rw [e] at q; simpa using q
      exact wpAny_in_of (strKind_is _ _ _ _) (not_modules Y I hx) (empty_sdict hd).mapOf ⟨H, I.toks _, h⟩
    · exact h.elim
  · exact h.elim

theorem s_notin (Y : PmOk P) (I : Inv P F l H s) (ha : er A' = a) (hb : er B' = b) (h : inV a b H fun r => Q (.bool (!r)) H) : wpAny P.M F.A (compareOp .NotIn A' B') (PostE P F l Q) E s := by
  unfold inV at h
  split at h
  · obtain ⟨_, rfl⟩ := er_str ha; obtain ⟨_, rfl⟩ := er_str hb
    exact notIn_str ⟨H, I, h⟩
  · obtain ⟨_, rfl⟩ := er_int ha; have := er_ref hb; subst this
    split at h
    · rename_i hx
      obtain ⟨ks, hd, rfl⟩ := I.objs _ _ hx
      refine wpAny_notIn_of (intKind_is _ _ _ _) (not_modules Y I hx) hd.mapOf ⟨H, I.toks _, ?_⟩
      rw [valueAt_er] at h
      simpa [er] using h
    · rename_i hx
      obtain ⟨ns, rfl, h⟩ := h
      obtain ⟨⟨vs⟩, hl, q, _⟩ := I.objs _ _ hx
      exact notin_list_ints hl (ints_of q) ⟨H, I, by rw [any_mem]; exact h⟩
    · exact h.elim
  · obtain ⟨_, rfl⟩ := er_str ha; have := er_ref hb; subst this
    split at h
    · rename_i hx
      obtain ⟨ks, hd, rfl⟩ := I.objs _ _ hx
      refine wpAny_notIn_of (strKind_is _ _ _ _) (not_modules Y I hx) hd.mapOf ⟨H, I.toks _, ?_⟩
      rw [valueAt_er] at h
      simpa [er] using h
    · rename_i hx
      obtain ⟨ks, hd, q⟩ := I.objs _ _ hx
      obtain ⟨e, h⟩ := h
      obtain rfl : ks = [] := by rw [e] at q; simpa using q
      exact wpAny_notIn_of (strKind_is _ _ _ _) (not_modules Y I hx) (empty_sdict hd).mapOf ⟨H, I.toks _, h⟩
    · exact h.elim
  · exact h.elim

theorem s_is (I : Inv P F l H s) (h : match er A' with | .none => Q (.bool true) H | .builtin _ => False | _ => Q (.bool false) H) : wpAny P.M F.A (compareOp .Is A' .none) (PostE P F l Q) E s := by
  cases A' <;> dsimp only [er] at h
  case none => exact wpAny_is_plain rfl ⟨H, I, h⟩
  all_goals exact wpAny_is_other rfl (by simp) ⟨H, I, h⟩
theorem s_isnot (I : Inv P F l H s) (h : match er A' with | .none => Q (.bool false) H | .builtin _ => False | _ => Q (.bool true) H) : wpAny P.M F.A (compareOp .IsNot A' .none) (PostE P F l Q) E s := by
  cases A' <;> dsimp only [er] at h
  case none => exact wpAny_isNot_self rfl ⟨H, I, h⟩
  all_goals exact wpAny_isNot_other rfl (by simp) ⟨H, I, h⟩

theorem s_cmp (Y : PmOk P) (I : Inv P F l H s) (hu : F.A.units + 64 < cLine) (op : CmpOp) (ha : er A' = a) (hb : er B' = b) (h : cmpV op a b H Q) : wpAny P.M F.A (compareOp op A' B') (PostE P F l Q) E s := by
  unfold cmpV at h
  cases op <;> dsimp only at h
  · exact s_eq I hu ha hb h
  · exact s_ne I hu ha hb h
  · split at h
    · obtain ⟨_, rfl⟩ := er_int ha; obtain ⟨_, rfl⟩ := er_int hb; exact lt_int ⟨H, I, h⟩
    · obtain ⟨_, rfl⟩ := er_str ha; obtain ⟨_, rfl⟩ := er_str hb; exact lt_str ⟨H, I, h⟩
    · exact h.elim
  · split at h
    · obtain ⟨_, rfl⟩ := er_int ha; obtain ⟨_, rfl⟩ := er_int hb; exact le_int ⟨H, I, h⟩
    · exact h.elim
  · split at h
    · obtain ⟨_, rfl⟩ := er_int ha; obtain ⟨_, rfl⟩ := er_int hb; exact gt_int ⟨H, I, h⟩
    · obtain ⟨_, rfl⟩ := er_str ha; obtain ⟨_, rfl⟩ := er_str hb; exact PySem.P.gt_str ⟨H, I, h⟩
    · exact h.elim
  · split at h
    · obtain ⟨_, rfl⟩ := er_int ha; obtain ⟨_, rfl⟩ := er_int hb; exact ge_int ⟨H, I, h⟩
    · exact h.elim
  · split at h
    · rw [er_none hb]; subst ha; exact s_is I h
    · exact h.elim
  · split at h
    · rw [er_none hb]; subst ha; exact s_isnot I h
    · exact h.elim
  · exact s_in Y I ha hb h
  · exact s_notin Y I ha hb h

end
end Mine
end

section
open PySem PyProof.Rows PySem.Calls
namespace Mine

/-! ## slices -/
theorem slice_core {α : Type} (xs : List α) (a : Nat) : ∀ n : Nat, a + n ≤ xs.length → ((List.range n).map (fun k => a + k)).filterMap (fun i => xs[i]?) = (xs.take (a + n)).drop a
  | 0, _ => by simp
  | n + 1, h => by
    have ih := slice_core xs a n (by omega)
    rw [List.range_succ, List.map_append, List.filterMap_append, ih]
    have hl : a + n < xs.length := by omega
    simp only [List.map_cons, List.map_nil, List.filterMap_cons, List.getElem?_eq_getElem hl, List.filterMap_nil]
    have : xs.take (a + (n + 1)) = xs.take (a + n) ++ [xs[a + n]] := by rw [← Nat.add_assoc]; exact List.take_succ_eq_append_getElem hl
    rw [this, List.drop_append_of_le_length]
    simp; omega

theorem clip_eq (n : Nat) (i : Int) : (max 0 (min (if i < 0 then i + n else i) (n : Int))) = (cutAt n i : Int) := by
  unfold cutAt
  split <;> omega
theorem cutAt_le (n : Nat) (i : Int) : cutAt n i ≤ n := by unfold cutAt; split <;> omega
theorem hiAt_le (n : Nat) (i : Option Int) : hiAt n i ≤ n := by cases i <;> simp [hiAt, cutAt_le]

theorem sliceRange_one (a b : Nat) : sliceRange (a : Int) (b : Int) 1 = (List.range (b - a)).map fun k => a + k := by
  have e : (if (1 : Int) > 0 then (if (a : Int) < b then ((b : Int) - a + 1 - 1) / 1 else 0) else (if (a : Int) > b then ((a : Int) - b - 1 - 1) / (-1) else 0)).toNat = b - a := by
    rw [if_pos (by omega)]
    split <;> omega
  unfold sliceRange
  simp only [e]
  apply List.map_congr_left
  intro k _
  omega
theorem sliceIdx (n : Nat) (lo hi : Option Int) : sliceRange (sliceBounds lo hi none n).1 (sliceBounds lo hi none n).2.1 (sliceBounds lo hi none n).2.2 = (List.range (hiAt n hi - loAt n lo)).map fun k => loAt n lo + k := by
  have h1 : (sliceBounds lo hi none n).1 = (loAt n lo : Int) := by
    cases lo with
    | none => simp [sliceBounds, loAt]
    | some i => simp only [sliceBounds, Option.getD, loAt]; rw [if_pos (by omega)]; exact clip_eq _ _
  have h2 : (sliceBounds lo hi none n).2.1 = (hiAt n hi : Int) := by
    cases hi with
    | none => simp [sliceBounds, hiAt]
    | some i => simp only [sliceBounds, Option.getD, hiAt]; rw [if_pos (by omega)]; exact clip_eq _ _
  have h3 : (sliceBounds lo hi none n).2.2 = 1 := rfl
  rw [h1, h2, h3, sliceRange_one]

theorem slicePick_eq {α : Type} (xs : List α) (lo hi : Option Int) :
    (sliceRange (sliceBounds lo hi none xs.length).1 (sliceBounds lo hi none xs.length).2.1 (sliceBounds lo hi none xs.length).2.2).filterMap (fun i => xs[i]?) = pySlice xs lo hi := by
  have key : ∀ a b : Nat, b ≤ xs.length → ((List.range (b - a)).map fun k => a + k).filterMap (fun i => xs[i]?) = (xs.take b).drop a := by
    intro a b hb
    by_cases hab : b ≤ a
    · have : b - a = 0 := by omega
      rw [this]
      rw [List.drop_eq_nil_of_le (by simp; omega)]
      simp
    · rw [slice_core xs a (b - a) (by omega)]
      congr 2
      omega
  rw [sliceIdx]
  exact key _ _ (hiAt_le _ _)
theorem pySlice_whole {α : Type} (xs : List α) (lo hi : Option Int) (h : hiAt xs.length hi - loAt xs.length lo = xs.length) : pySlice xs lo hi = xs := by
  have := hiAt_le xs.length hi
  unfold pySlice
  by_cases z : xs.length = 0
  · have := List.eq_nil_of_length_eq_zero z; subst this; simp
  · have h1 : loAt xs.length lo = 0 := by omega
    have h2 : hiAt xs.length hi = xs.length := by omega
    rw [h1, h2]; simp

theorem pySlice_len {α : Type} (xs : List α) (lo hi : Option Int) : (pySlice xs lo hi).length ≤ xs.length := by
  unfold pySlice; simp; omega
theorem pySlice_map {α β : Type} (f : α → β) (xs : List α) (lo hi : Option Int) : pySlice (xs.map f) lo hi = (pySlice xs lo hi).map f := by
  unfold pySlice
  simp [List.map_take, List.map_drop]

theorem at_map {α β : Type} (f : α → β) (xs : List α) (k : Int) {v : β} (h : at? (xs.map f) k = some v) : ∃ u, at? xs k = some u ∧ f u = v := by
  unfold at? at *
  simp only [List.length_map, List.getElem?_map] at h
  split at h
  · rename_i q; rw [if_pos q]; exact Option.map_eq_some_iff.mp h
  · rename_i q; rw [if_neg q]
    split at h
    · rename_i q; rw [if_pos q]; exact Option.map_eq_some_iff.mp h
    · cases h

theorem at_seqIndex {α : Type} (xs : List α) (k : Int) {v : α} (h : at? xs k = some v) : ∃ j, seqIndex? k xs.length = some j ∧ xs[j]? = some v ∧ -(xs.length : Int) ≤ k ∧ k < xs.length := by
  unfold at? at h
  split at h
  · rename_i q
    have := (List.getElem?_eq_some_iff.mp h).1
    refine ⟨k.toNat, ?_, h, by omega, by omega⟩
    simp only [seqIndex?, if_neg (show ¬ k < 0 by omega)]
    rw [if_pos (by simp; omega)]
  · split at h
    · rename_i q1 q2
      refine ⟨(k + xs.length).toNat, ?_, h, by omega, by omega⟩
      simp only [seqIndex?, if_pos (show k < 0 by omega)]
      rw [if_pos (by simp; omega)]
    · cases h

section
variable {P : Pm} {F : Fm} {l : Loc} {H : Hp} {s : Shared} {E : Value → Shared → Prop} {Q : QV} {A' B' a b : Value}

theorem s_idx (I : Inv P F l H s) (ha : er A' = a) (hb : er B' = b) (h : idxV a b H Q) : wpAny P.M F.A (getItem A' B') (PostE P F l Q) E s := by
  unfold idxV at h
  split at h
  · rename_i x k _; have := er_ref ha; subst this; obtain ⟨_, rfl⟩ := er_int hb
    split at h
    · rename_i xs hx
      obtain ⟨⟨vs⟩, hl, q, z, _⟩ := I.objs _ _ hx
      split at h
      · rename_i v hv
        subst q
        obtain ⟨V, hV, rfl⟩ := at_map er vs k hv
        simp only [List.length_map] at z
        obtain ⟨j, e1, e2, e3, e4⟩ := at_seqIndex vs k hV
        by_cases hk : 0 ≤ k
        · refine wpAny_getItem_list hl hk (by omega) (x := V) ?_ ⟨H, I, h⟩
          simp only [at?, if_pos hk] at hV
          simpa using hV
        · refine wpAny_getItem_list_neg hl (by omega) (by simpa using e3) (by omega) (x := V) ?_ ⟨H, I, h⟩
          simp only [at?, if_neg hk, if_pos e3] at hV
          simpa using hV
      · exact h.elim
    · rename_i xs hx
      obtain ⟨⟨vs⟩, hl, q, z⟩ := I.objs _ _ hx
      split at h
      · rename_i v hv
        subst q
        obtain ⟨V, hV, rfl⟩ := at_map er vs k hv
        simp only [List.length_map] at z
        obtain ⟨j, e1, e2, e3, e4⟩ := at_seqIndex vs k hV
        by_cases hk : 0 ≤ k
        · refine wpAny_getItem_list hl hk (by omega) (x := V) ?_ ⟨H, I, h⟩
          simp only [at?, if_pos hk] at hV
          simpa using hV
        · refine wpAny_getItem_list_neg hl (by omega) (by simpa using e3) (by omega) (x := V) ?_ ⟨H, I, h⟩
          simp only [at?, if_neg hk, if_pos e3] at hV
          simpa using hV
      · exact h.elim
    · rename_i xs hx
      obtain ⟨⟨vs⟩, hl, q, z⟩ := I.objs _ _ hx
      split at h
      · rename_i v hv
        subst q
        obtain ⟨V, hV, rfl⟩ := at_map er vs k hv
        simp only [List.length_map] at z
        obtain ⟨j, e1, e2, e3, e4⟩ := at_seqIndex vs k hV
        exact getItem_tuple hl (by omega) (by omega) (j := j) (by simpa using e1) (x := V) (by simpa using e2) ⟨H, I, h⟩
      · exact h.elim
    · rename_i kvs hx
      obtain ⟨ks, hd, rfl⟩ := I.objs _ _ hx
      split at h
      · rename_i v hv
        rw [valueAt_er] at hv
        obtain ⟨V, hV, rfl⟩ := Option.map_eq_some_iff.mp hv
        exact wpAny_getItem_of (intKind_is _ _ _ _) hd.mapOf hV ⟨H, I.toks _, h⟩
      · exact h.elim
    · exact h.elim
  · rename_i x k _; have := er_ref ha; subst this; obtain ⟨_, rfl⟩ := er_str hb
    split at h
    · rename_i kvs hx
      obtain ⟨ks, hd, rfl⟩ := I.objs _ _ hx
      split at h
      · rename_i v hv
        rw [valueAt_er] at hv
        obtain ⟨V, hV, rfl⟩ := Option.map_eq_some_iff.mp hv
        exact wpAny_getItem_of (strKind_is _ _ _ _) hd.mapOf hV ⟨H, I.toks _, h⟩
      · exact h.elim
    · exact h.elim
  · rename_i x _ k _; obtain ⟨_, rfl⟩ := er_str ha; obtain ⟨_, rfl⟩ := er_int hb
    split at h
    · rename_i c hc
      obtain ⟨j, e1, e2, e3, e4⟩ := at_seqIndex _ k hc
      have hz := h.1
      have hlen : x.cps.toList.length = x.length := by simp [Str.length]
      rw [hlen] at e1 e3 e4
      simp only [sizeLine] at hz
      refine getItem_str (c := c) (by simp; omega) ?_ ⟨H, I.toks _, h.2⟩
      rw [e1]
      simpa using e2
    · exact h.elim
  · exact h.elim

theorem partOf_er {V : Value} {i : Option Int} (h : partOf (er V) = some i) : IsPart V i := by
  cases V <;> simp [er, partOf] at h <;> subst h
  · exact .none
  · exact .int _ _
theorem s_len (I : Inv P F l H s) (ha : er A' = a) (h : lenV a H Q) : wpAny P.M F.A (call (.builtin "len") [A']) (PostE P F l Q) E s := by
  unfold lenV at h
  split at h
  · obtain ⟨_, rfl⟩ := er_str ha
    have := h.1
    simp only [sizeLine] at this
    exact len_str (by omega) ⟨H, I.toks _, h.2⟩
  · have := er_ref ha; subst this
    split at h
    · rename_i hx
      obtain ⟨vs, hl, rfl, z, _⟩ := I.objs _ _ hx
      simp only [List.length_map, Array.length_toList] at h z
      exact len_list hl (by omega) ⟨H, I.toks _, h⟩
    · rename_i hx
      obtain ⟨vs, hl, rfl, z⟩ := I.objs _ _ hx
      simp only [List.length_map, Array.length_toList] at h z
      exact len_list hl (by omega) ⟨H, I.toks _, h⟩
    · rename_i hx
      obtain ⟨vs, hl, rfl, z⟩ := I.objs _ _ hx
      simp only [List.length_map, Array.length_toList] at h z
      exact len_tuple hl (by omega) ⟨H, I.toks _, h⟩
    · exact h.elim
  · exact h.elim

end
end Mine
end

section
open PySem PyProof.Rows PySem.Calls
open PySem.W (dictOf getL putL putN plainGet hasDictIn findIn isFn noGet plainOver takerIn makesIn subIn)
namespace Mine

/-! ## instances -/
section
variable {w : World} {es : List DictEntry} {kvs : List (Str × Value)} {a : Str}

theorem isStr_key {k : Value} {x y : Str} {t : Tok} (h : k = .str x t) : k.isStr y = decide (x = y) := by
  subst h; exact beq_dec _ _

theorem NsEs.noRef (h : NsEs w es kvs) : es.any (·.refKey) = false := by
  unfold NsEs at h
  induction h with
  | nil => rfl
  | cons h _ ih =>
    obtain ⟨⟨t, ht⟩, _⟩ := h
    rw [List.any_cons, ih]
    simp [DictEntry.refKey, ht]

theorem valueAt_cons {K : Type} [DecidableEq K] (p : K × Value) (r : List (K × Value)) (k : K) : valueAt (p :: r) k = if p.1 = k then some p.2 else valueAt r k := by
  unfold valueAt
  by_cases e : p.1 = k <;> simp [e]

theorem NsEs.find (h : NsEs w es kvs) : (es.find? (·.key.isStr a)).map (fun e => er e.val) = valueAt kvs a := by
  unfold NsEs at h
  induction h with
  | nil => rfl
  | @cons e0 p _ _ h _ ih =>
    obtain ⟨⟨t, ht⟩, hv, _⟩ := h
    rw [valueAt_cons, List.find?_cons, isStr_key ht]
    by_cases e : p.1 = a
    · simp [e, hv]
    · simp [e, ih]

theorem NsEs.get (h : NsEs w es kvs) : ∃ V, getL a es = some V ∧ V.map er = valueAt kvs a := by
  have f := h.find (a := a)
  unfold getL
  cases q : es.find? (·.key.isStr a) with
  | some e => rw [q] at f; exact ⟨some e.val, rfl, f⟩
  | none => rw [q] at f; rw [h.noRef]; exact ⟨none, rfl, f⟩

theorem stored_cons {K : Type} [DecidableEq K] (p : K × Value) (r : List (K × Value)) (k : K) (v : Value) (hp : p.1 ∉ r.map (·.1)) : stored (p :: r) k v = if p.1 = k then (p.1, v) :: r else p :: stored r k v := by
  unfold stored
  by_cases e : p.1 = k
  · simp only [List.any_cons, e, decide_true, Bool.true_or, if_true, List.map_cons]
    congr 1
    conv => rhs; rw [← List.map_id r]
    apply List.map_congr_left
    intro q hq
    rw [if_neg]
    · rfl
    · intro h; exact hp (by rw [e, ← h]; exact List.mem_map_of_mem hq)
  · simp only [List.any_cons, e, decide_false, Bool.false_or, List.map_cons, if_false]
    split <;> rfl

theorem NsEs.put (h : NsEs w es kvs) (hnd : (kvs.map (·.1)).Nodup) {v : Value} {t : Tok} : NsEs w (putL a (PyData.keyHash w.params a) (.str a t) v es) (stored kvs a (er v)) := by
  unfold NsEs at *
  induction h with
  | nil => exact .cons ⟨⟨t, rfl⟩, rfl, rfl⟩ .nil
  | cons h r ih =>
    rename_i e p es kvs
    obtain ⟨⟨t', ht⟩, hv, hh⟩ := h
    simp only [List.map_cons, List.nodup_cons] at hnd
    rw [stored_cons _ _ _ _ hnd.1]
    unfold putL
    rw [isStr_key ht]
    by_cases q : p.1 = a
    · simp only [q, decide_true, if_true]
      exact .cons ⟨⟨t', by rw [ht, q]⟩, rfl, by rw [hh, q]⟩ r
    · simp only [q, decide_false, if_false, Bool.false_eq_true]
      exact .cons ⟨⟨t', ht⟩, hv, hh⟩ (ih hnd.2)
theorem putL_len (x : Str) (hs : Int) (k v : Value) : ∀ es : List DictEntry, (putL x hs k v es).length ≤ es.length + 1
  | [] => by simp [putL]
  | e :: r => by
    unfold putL
    split
    · simp
    · simp; exact putL_len x hs k v r
theorem NsEs.length (h : NsEs w es kvs) : es.length = kvs.length := by
  unfold NsEs at h
  induction h with
  | nil => rfl
  | cons _ _ ih => simp [ih]
end

/-- what the written part says of the names -/
structure ExcCls (K : PySem.W.Frag) (D : Addr) : Prop where
  ga : findIn K (.ref D) "__getattribute__" = some (some (.builtin "BaseException.__getattribute__"))
  gr : findIn K (.ref D) "__getattr__" = some none
  fo : PySem.W.findObj K D none "__class__" = some (.bind (.builtin "getset_descriptor.__get__") (.builtin "object.__class__"))
  ob : PySem.W.mroIn K D (.type "object") = some true
  be : PySem.W.mroIn K D (.type "BaseException") = some true
  cl : (PySem.W.clsIn K D).isSome = true
  ty : PySem.W.typeIn K (.ref D) = some (.type "type")
  ve : subIn K (.ref D) (.type "ValueError") = some true

abbrev veMro : List Value := [.type "ValueError", .type "Exception", .type "BaseException", .type "object"]
def OwnObj (h : Heap) (C : Addr) : Prop := ∃ bm N nm q bs hdct sn sub ab col dd k0 k1 k2 k3 k5 mN, h.get? C = some (excClassObj nm q C N bs bm hdct sn sub ab col dd k0 k1 k2 k3 k5 "ValueError.__new__") ∧ h.Ns N mN ∧ mN "__init__" = none ∧ OwnTail h veMro bm

structure GxOk (P : Pm) (G : Gx) : Prop where
  glob : ∀ x v, G.glob x = some v → ∃ V, er V = v ∧ (P.mg x = some V ∨ (P.mg x = none ∧ P.mb x = some V))
  fld : ∀ C a, G.fld C a = true → plainGet P.K C a = true ∧ hasDictIn P.K C = true ∧ findIn P.K (.ref C) a = some none ∧
    findIn P.K (.ref C) "__setattr__" = some (some (.builtin "object.__setattr__")) ∧ plainOver P.K C = true ∧ takerIn P.K C a = some none
  meth : ∀ C m f, G.meth C m = some f → plainGet P.K C m = true ∧ findIn P.K (.ref C) m = some (some (.ref f)) ∧ isFn P.K (.ref f) = true
  init : ∀ C f, G.init C = some f → makesIn P.K C = true ∧ findIn P.K (.ref C) "__init__" = some (some (.ref f)) ∧ isFn P.K (.ref f) = true ∧ PySem.W.keepIn P.K (.ref C) = true
  exc : ∀ C, G.isExc C = true → ExcCls P.K C
  sub : ∀ C D, G.isExc C = true → G.isExc D = true → subIn P.K (.ref C) (.ref D) = some (G.sub C D)
  self : ∀ C, G.isExc C = true → G.sub C C = true
  own : ∀ C, G.isExc C = true → OwnObj P.base C

section
variable {P : Pm} {F : Fm} {G : Gx} {l : Loc} {H : Hp} {s : Shared} {E : Value → Shared → Prop} {Q : QV} {A' B' a b : Value}

theorem Inv.kin (Y : PmOk P) (K : FmOk P F) (I : Inv P F l H s) : P.K.In s.heap := Y.kin.keeps fun b o e => I.keep b o (K.base b o e)

theorem ns_nodup {kvs : List (Str × Value)} {k : Str} {v : Value} (h : (kvs.map (·.1)).Nodup) : ((stored kvs k v).map (·.1)).Nodup := by
  unfold stored
  split
  · rw [List.map_map]
    have : ((fun x : Str × Value => x.1) ∘ fun kv : Str × Value => if kv.1 = k then (kv.1, v) else kv) = fun kv => kv.1 := by
      funext kv; simp only [Function.comp]; split <;> rfl
    rw [this]; exact h
  · rename_i q
    rw [List.map_append]
    refine List.nodup_append.mpr ⟨h, by simp, fun a ha b hb e => ?_⟩
    simp at hb
    subst hb
    obtain ⟨p, hp, e2⟩ := List.mem_map.mp ha
    apply q
    rw [List.any_eq_true]
    exact ⟨p, hp, by simp [e2, e]⟩

theorem s_attr (Y : PmOk P) (GO : GxOk P G) (K : FmOk P F) (I : Inv P F l H s) {n : Str} {ex : Bool} (ha : er A' = a) (h : attrV G a n H Q) : wpAny P.M F.A (getAttr A' n ex) (PostE P F l Q) E s := by
  unfold attrV at h
  split at h
  · rename_i x; have := er_ref ha; subst this
    split at h
    · rename_i C d hx
      split at h
      · rename_i kvs hd
        obtain ⟨hf, h⟩ := h
        obtain ⟨m, Fr, hm⟩ := I.fr K
        have ox := I.objs _ _ hx
        obtain ⟨es, k, od, ne, _⟩ := I.objs _ _ hd
        obtain ⟨V, g1, g2⟩ := ne.get (a := n)
        obtain ⟨f1, f2, f3, f4, f5, f6⟩ := GO.fld C n hf
        have II : PySem.W.InstAt s.heap x { cls := .ref C, dict := some d, data := .plain } C (some (dictOf es.toList k)) := ⟨ox, rfl, rfl, by simpa [dictOf] using od⟩
        cases V with
        | none => rw [← g2] at h; exact h.elim
        | some V =>
          rw [← g2] at h
          refine PySem.W.get_own Fr Y.kin II f1 f2 f3 rfl g1 ?_ ⟨H, I.toks _, ?_⟩
          · cases V <;> first | rfl | exact h.elim
          · cases V <;> first | exact h | exact h.elim
      · exact h.elim
    · exact h.elim
  · exact h.elim

theorem s_setattr (Y : PmOk P) (GO : GxOk P G) (K : FmOk P F) (I : Inv P F l H s) {n : Str} {k : Hp → Prop} (ha : er A' = a) (hb : er B' = b) (h : setAttrV G a n b H k) : wpAny P.M F.A (setAttr A' n B') (fun _ s' => ∃ H', Inv P F l H' s' ∧ k H') E s := by
  unfold setAttrV at h
  split at h
  · rename_i x; have := er_ref ha; subst this
    split at h
    · rename_i C d hx
      split at h
      · rename_i kvs hd
        obtain ⟨hf, hlen, h⟩ := h
        obtain ⟨m, Fr, hm⟩ := I.fr K
        have ox := I.objs _ _ hx
        obtain ⟨es, ep, od, ne, nd⟩ := I.objs _ _ hd
        obtain ⟨V, g1, g2⟩ := ne.get (a := n)
        obtain ⟨f1, f2, f3, f4, f5, f6⟩ := GO.fld C n hf
        have od' : s.heap.get? d = some (dictOf es.toList ep) := by simpa [dictOf] using od
        have II : PySem.W.InstAt s.heap x { cls := .ref C, dict := some d, data := .plain } C (some (dictOf es.toList ep)) := ⟨ox, rfl, rfl, od'⟩
        have hdL := (I.neL K hd)
        have hdB : P.base.get? d = none := by
          cases q : P.base.get? d with
          | none => rfl
          | some o => have := K.base _ _ q; rw [(of_fre (I.free _ _ hd) rfl).1] at this; cases this
        obtain ⟨pre, post, e, h1, h2⟩ := allNews_split (mem_allNews od' hdL hdB)
        have el : es.toList.length = kvs.length := ne.length
        refine PySem.W.set_plain (I.kin Y K) II f4 (PySem.W.osa_dict (s := { s with toks := s.toks + 1 }) (K := P.K) (es := putL n (PyData.keyHash P.w.params n) (.str n (s.toks + 1)) B' es.toList) (n := putN n es.toList ep)
          Fr (pre := pre) (post := post) (e ▸ news_all _ _ _) ((I.toks (s.toks + 1)).kin Y K) II rfl f5 f6 f2 (by rw [PySem.W.lookIn_dict, g1]; rfl) h1 h2 (PySem.W.putName_dict ..) rfl ?_ fun h' F' N' => ?_)
        · have := putL_len n (PyData.keyHash P.w.params n) (.str n (s.toks + 1)) B' es.toList
          omega
        · refine ⟨_, I.putL K (t := s.toks + 1 + 1) hd (fun c O eo hc hL => ?_) F'.ns hm (o' := .ns (stored kvs n b)) ?_, h⟩
          · cases q : P.base.get? c with
            | some o' => exact (F'.keep c o' q).trans (by rw [← eo]; exact (I.keep c o' (K.base c o' q)).symm)
            | none =>
              have hm := mem_allNews eo hL q
              rw [e] at hm
              refine (N' (c, O) ?_).1
              rcases List.mem_append.mp hm with q | q
              · exact List.mem_append_left _ q
              · rcases List.mem_cons.mp q with q | q
                · exact absurd (congrArg Prod.fst q) hc
                · exact List.mem_append_right _ (.tail _ q)
          · refine ⟨(putL n (PyData.keyHash P.w.params n) (.str n (s.toks + 1)) B' es.toList).toArray, putN n es.toList ep, (N' (d, dictOf _ _) (by simp)).1, ?_, ns_nodup nd⟩
            have := ne.put (a := n) (v := B') (t := s.toks + 1) nd
            rw [hb] at this
            simpa using this
      · exact h.elim
    · exact h.elim
  · exact h.elim

end
end Mine
end

section
open PySem PyProof.Rows PySem.Calls
namespace Mine

/-! ## exceptions in flight -/
def ExcAt (h : Heap) (e C : Addr) (T : Option Addr) : Prop :=
  ∃ oe vs, h.get? e = some oe ∧ oe.cls = .ref C ∧ oe.data = .fields vs ∧ oe.dict = none ∧ (match T with
    | none => vs[1]? = some .none
    | some t => vs[1]? = some (.ref t) ∧ t ≠ e ∧ ∃ ot ts, h.get? t = some ot ∧ ot.data = .fields ts ∧ 3 < ts.size)

theorem dict_mapFields (f : Array Value → Array Value) (o : Obj) : (o.mapFields f).dict = o.dict := by
  unfold Obj.mapFields; split <;> rfl

/-- an exception of class C flies; with b: it has its traceback -/
structure Exc (P : Pm) (F : Fm) (H : Hp) (s : Shared) (e C : Addr) (b : Bool) : Prop where
  big : True
  off : Off F H e
  at_ : ∃ T, ExcAt s.heap e C T ∧ (∀ t, T = some t → Off F H t) ∧ (b = true → T.isSome = true)

theorem Exc.weak {P : Pm} {F : Fm} {H : Hp} {s : Shared} {e C : Addr} {b : Bool} (x : Exc P F H s e C b) : Exc P F H s e C false :=
  ⟨x.big, x.off, let ⟨T, h, o, _⟩ := x.at_; ⟨T, h, o, fun q => nomatch q⟩⟩

def PostX (P : Pm) (F : Fm) (l : Loc) (X : XV) : Value → Shared → Prop := fun EV s' => ∃ H' e C, EV = .ref e ∧ Inv P F l H' s' ∧ Exc P F H' s' e C false ∧ X C H'

section
variable {P : Pm} {F : Fm} {G : Gx} {l : Loc} {H : Hp} {s : Shared} {E : Value → Shared → Prop}

theorem Inv.slotsOnly (K : FmOk P F) (I : Inv P F l H s) {S : List Addr} {h' : Heap} (hS : ∀ b ∈ S, b = F.env.locals ∨ (F.fr b).isSome = true) (x : Heap.SlotsOnly S s.heap h') : Inv P F l H { s with heap := h' } := by
  have out : ∀ b, b ≠ F.env.locals → F.fr b = none → h'.get? b = s.heap.get? b := fun b h1 h2 => x.2.1 b fun q => (hS b q).elim h1 fun e => by rw [h2] at e; cases e
  refine ⟨I.gens, I.os, fun b o e => ?_, fun b d e => ?_, ?_, fun y c e => ?_, fun a o e => ?_, I.free, I.big⟩
  · refine (out b (fun q => ?_) ?_).trans (I.keep b o e)
    · rw [q, K.lg] at e; cases e
    · cases q : F.fr b with
      | none => rfl
      | some d => rw [(K.fg b d q).1] at e; cases e
  · obtain ⟨o, ho, hd⟩ := I.frk b d e
    obtain ⟨sl, q⟩ := x.2.2 b o ho
    exact ⟨_, q, hd⟩
  · obtain ⟨m, ⟨o, es, ep, ho, hd, r⟩, q⟩ := I.loc
    obtain ⟨sl, q'⟩ := x.2.2 _ o ho
    exact ⟨m, ⟨_, es, ep, q', hd, r⟩, q⟩
  · obtain ⟨vo, ⟨o, ho, hd⟩, q⟩ := I.cel y c e
    obtain ⟨sl, q'⟩ := x.2.2 _ o ho
    exact ⟨vo, ⟨_, q', hd⟩, q⟩
  · exact (I.objs a o e).congr (out a (I.neL K e) (I.frN K e))

theorem frames_fun (K : FmOk P F) (I : Inv P F l H s) (base : Heap) (hb : ∀ b, base.get? b = none) : ∀ {es : List Env}, (∀ e ∈ es, e.scope.kind ≠ .module ∧ ∃ b, e.frame = some b ∧ (b = F.env.locals ∨ (F.fr b).isSome = true)) → s.heap.FunFrames base es
  | [], _ => trivial
  | e :: es, h => by
    obtain ⟨h1, b, h2, h3⟩ := h e (.head _)
    refine ⟨h1, ?_, frames_fun K I base hb fun e he => h e (.tail _ he)⟩
    rcases h3 with rfl | h3
    · obtain ⟨m, ⟨o, es', ep, ho, hd, r⟩, q⟩ := I.loc
      exact ⟨_, o, h2, hb _, ho, fun vs e => by rw [hd] at e; cases e⟩
    · obtain ⟨d, hd⟩ := Option.isSome_iff_exists.mp h3
      obtain ⟨o, ho, e⟩ := I.frk b d hd
      exact ⟨b, o, h2, hb _, ho, fun vs q => (K.fg b d hd).2 vs (e ▸ q)⟩

theorem ExcAt.slots {S : List Addr} {h h' : Heap} {e C : Addr} {T : Option Addr} (x : Heap.SlotsOnly S h h') (a : ExcAt h e C T) : ExcAt h' e C T := by
  obtain ⟨oe, vs, h1, h2, h3, h5, h4⟩ := a
  obtain ⟨sl, q⟩ := x.2.2 _ _ h1
  refine ⟨_, vs, q, h2, h3, h5, ?_⟩
  cases T with
  | none => exact h4
  | some t =>
    obtain ⟨a1, a2, ot, ts, a3, a4, a5⟩ := h4
    obtain ⟨sl', q'⟩ := x.2.2 _ _ a3
    exact ⟨a1, a2, _, ts, q', a4, a5⟩

/-- a new row of the traceback -/
theorem s_entry (K : FmOk P F) (I : Inv P F l H s) (hro : F.ro = false) {e C : Addr} {T : Option Addr} (ha : ExcAt s.heap e C T) (hof : Off F H e) (hb : True) {head : Value} {hadNext : Bool} {Q : Unit → Shared → Prop}
    (h : ∀ s', Inv P F l H s' → Exc P F H s' e C true → Q () s') :
    wpAny P.M F.A (do let a ← frameOf F.env; let pl ← entryPlaceOf F.env.locals hadNext; let b ← EntryCells.newEntry head a .none (rawInt F.env.locals) .none pl; setField (.ref e) 1 b) Q E s := by
  obtain ⟨fenv, outer, hfr, hown, hall⟩ := K.frames
  obtain ⟨rfl, hf⟩ := hown hro
  have ff := frames_fun K I {} (fun b => rfl) hall
  refine wpAny_bind (wpAny_frameOf_fun hfr ff hf fun h₁ hs₁ => ?_)
  have hS : ∀ b ∈ (F.env :: outer).filterMap (·.frame), b = F.env.locals ∨ (F.fr b).isSome = true := fun b hb => by
    obtain ⟨e', he', q⟩ := List.mem_filterMap.mp hb
    obtain ⟨_, b', q', r⟩ := hall e' he'
    rw [q] at q'; cases q'; exact r
  have I₁ := I.slotsOnly K hS hs₁
  have a₁ := ha.slots hs₁
  refine wpAny_bind (wpAny_entryPlaceOf fun pl hpl => ?_)
  unfold EntryCells.newEntry newFields
  refine wpAny_bind (wpAny_newObj_type ?_ (hpl.sizeOk5 _ _ _ _ _))
  obtain ⟨oe, vs, h1, h2, h3, h5, h4⟩ := a₁
  have hsz : 1 < vs.size := by
    cases T with
    | none => exact (Array.getElem?_eq_some_iff.mp h4).1
    | some t => exact (Array.getElem?_eq_some_iff.mp h4.1).1
  generalize hot : ({ cls := .type "traceback", dict := none, data := .fields ([head, .ref F.env.locals, .none, rawInt F.env.locals, .none] ++ (if pl.isEmpty then List.replicate 6 Value.none else pl)).toArray } : Obj) = ot
  have I₂ := I₁.push ot
  have he₂ := Heap.get?_push_of_some (h := h₁) ot h1
  have hof₂ : Off F H h₁.objs.size := I₁.ofSize K
  refine wpAny_setField he₂ h3 hsz (h _ ?_ ?_)
  · refine I₂.step (t := s.toks) fun b o hb hn => ?_
    rw [Heap.get?_update_other _ _ (show e ≠ b from fun q => hn (q ▸ hof))]
    exact hb
  · have hd := Obj.data_mapFields h3 (·.setIfInBounds 1 (Value.ref h₁.objs.size))
    have hne : h₁.objs.size ≠ e := Nat.ne_of_gt (Heap.lt_size h1)
    refine ⟨hb, hof, some h₁.objs.size, ⟨_, _, Heap.get?_update_self _ he₂ (Obj.isFreed_of_fields hd), (Obj.cls_mapFields _ _).trans h2, hd, (dict_mapFields _ _).trans h5, by simp [hsz], hne, ot, ([head, .ref F.env.locals, .none, rawInt F.env.locals, .none] ++ (if pl.isEmpty then List.replicate 6 Value.none else pl)).toArray, ?_, ?_, ?_⟩, fun t ht => ?_, fun _ => rfl⟩
    · rw [Heap.get?_update_other _ _ (Ne.symm hne)]
      exact Heap.get?_push_size _ (by rw [← hot]; rfl)
    · rw [← hot]
    · simp only [List.size_toArray, List.length_append, List.length_cons, List.length_nil]; omega
    · cases ht; exact hof₂

theorem s_note (K : FmOk P F) (I : Inv P F l H s) (hro : F.ro = false) {e C : Addr} {b : Bool} (x : Exc P F H s e C b) {Q : Unit → Shared → Prop}
    (h : ∀ s', Inv P F l H s' → Exc P F H s' e C true → Q () s') : wpAny P.M F.A (noteFrame (.ref e) F.env) Q E s := by
  obtain ⟨fenv, outer, hfr, hown, hall⟩ := K.frames
  obtain ⟨_, hf⟩ := hown hro
  obtain ⟨hb, hof, T, ha, ht, _⟩ := x
  have ha' := ha
  obtain ⟨oe, vs, h1, h2, h3, h5, h4⟩ := ha
  unfold noteFrame
  simp only [hf]
  cases T with
  | none =>
    refine wpAny_bind (wpAny_field h1 h3 h4 ?_)
    rw [if_neg (by decide)]
    exact s_entry K I hro ha' hof hb h
  | some t =>
    obtain ⟨a1, a2, ot, ts, a3, a4, a5⟩ := h4
    refine wpAny_bind (wpAny_field h1 h3 a1 ?_)
    rw [if_pos (show (Value.ref t != Value.none) = true from by simp)]
    refine wpAny_bind (wpAny_field a3 a4 (Array.getElem?_eq_getElem a5) ?_)
    split
    · exact wpAny_pure (h s I ⟨hb, hof, some t, ha', ht, fun _ => rfl⟩)
    · refine wpAny_bind (wpAny_setField a3 a4 a5 ?_)
      have hoft := ht t rfl
      have other : ∀ c, c ≠ t → (s.heap.update t (Obj.mapFields (·.setIfInBounds 3 Value.none))).get? c = s.heap.get? c := fun c hc => Heap.get?_update_other _ _ (Ne.symm hc)
      have I₁ : Inv P F l H { s with heap := s.heap.update t (Obj.mapFields (·.setIfInBounds 3 Value.none)) } := I.step (t := s.toks) fun c o hc hn => (other c fun q => hn (q ▸ hoft)).trans hc
      have hd := Obj.data_mapFields a4 (·.setIfInBounds 3 Value.none)
      refine s_entry K I₁ hro (T := some t) ⟨oe, vs, (other e (Ne.symm a2)).trans h1, h2, h3, h5, a1, a2, _, _, Heap.get?_update_self _ a3 (Obj.isFreed_of_fields hd), hd, by simpa using a5⟩ hof hb h

theorem s_flight (I : Inv P F l H s) {e C : Addr} {b : Bool} (x : Exc P F H s e C b) {fo : Option Addr} {Q : Unit → Shared → Prop}
    (h : ∀ s', Inv P F l H s' → Exc P F H s' e C b → Q () s') : wpAny P.M F.A (setFlight (.ref e) fo) Q E s := by
  obtain ⟨hb, hof, T, ha, ht, hbt⟩ := x
  have ha' := ha
  obtain ⟨oe, vs, h1, h2, h3, h5, h4⟩ := ha
  unfold setFlight
  cases T with
  | none =>
    refine wpAny_bind (wpAny_field h1 h3 h4 ?_)
    rw [if_neg (by decide)]
    exact wpAny_pure (h s I ⟨hb, hof, none, ha', ht, hbt⟩)
  | some t =>
    obtain ⟨a1, a2, ot, ts, a3, a4, a5⟩ := h4
    refine wpAny_bind (wpAny_field h1 h3 a1 ?_)
    rw [if_pos (show (Value.ref t != Value.none) = true from by simp)]
    have hoft := ht t rfl
    have other : ∀ f c, c ≠ t → (s.heap.update t f).get? c = s.heap.get? c := fun f c hc => Heap.get?_update_other _ _ (Ne.symm hc)
    have hd := Obj.data_mapFields a4 (·.setIfInBounds 3 (fo.elim Value.none fun f => rawInt f))
    refine wpAny_setField a3 a4 a5 (h _ (I.step (t := s.toks) fun c o hc hn => (other _ c fun q => hn (q ▸ hoft)).trans hc) ⟨hb, hof, some t, ⟨oe, vs, (other _ e (Ne.symm a2)).trans h1, h2, h3, h5, a1, a2, _, _, Heap.get?_update_self _ a3 (Obj.isFreed_of_fields hd), hd, by simpa using a5⟩, ht, hbt⟩)

theorem s_leaving (K : FmOk P F) (I : Inv P F l H s) (hro : F.ro = false) {e C : Addr} {b : Bool} (x : Exc P F H s e C b) {Q : Unit → Shared → Prop}
    (h : ∀ s', Inv P F l H s' → Exc P F H s' e C true → Q () s') : wpAny P.M F.A (leaving F.env (.ref e)) Q E s := by
  unfold leaving
  exact wpAny_bind (s_note K I hro x fun s' I' x' => s_flight I' x' h)

theorem s_cameBack (I : Inv P F l H s) {e C : Addr} (x : Exc P F H s e C true) (h : ∀ s', Inv P F l H s' → Exc P F H s' e C true → E (.ref e) s') : cameBackBy P.M F.A F.env E (.ref e) s := by
  obtain ⟨hb, hof, T, ha, ht, hbt⟩ := x
  have ha' := ha
  obtain ⟨oe, vs, h1, h2, h3, h5, h4⟩ := ha
  unfold cameBackBy
  cases T with
  | none => simp at hbt
  | some t =>
    obtain ⟨a1, a2, r⟩ := h4
    refine wpAny_bind (wpAny_field h1 h3 a1 ?_)
    rw [if_neg (by simp)]
    exact s_flight I ⟨hb, hof, some t, ha', ht, fun _ => rfl⟩ h
end
end Mine
end

section
open PySem PyProof.Rows PySem.Calls
namespace Mine

/-! ## from the text to the small language -/
def isLoc (sc : Scope) (x : Str) : Option Bool :=
  match sc.names.lookup x with
  | some .local | some .cell | some .free => if x == ("__classdict__" : Str) || x == ("__debug__" : Str) then none else some true
  | some .globalImplicit => if x == ("__debug__" : Str) then none else some false
  | _ => none

def notSuper : Expr → Bool
  | .Call (.Name id _) _ _ _ => id != ("super" : Str)
  | _ => true

def tyOf (x : Str) : Option Ty :=
  if x == ("str" : Str) then some .str else if x == ("int" : Str) then some .int else if x == ("bool" : Str) then some .bool
  else if x == ("list" : Str) then some .list else if x == ("tuple" : Str) then some .tuple else if x == ("ValueError" : Str) then some .valueError else none

def bfTab (x : Str) (n : Nat) : Option Bf :=
  if x == ("len" : Str) then (if n = 1 then some .len else none)
  else if x == ("list" : Str) then (if n = 1 then some .list else none)
  else if x == ("tuple" : Str) then (if n = 1 then some .tuple else none)
  else if x == ("sorted" : Str) then (if n = 1 then some .sorted else none)
  else if x == ("dict" : Str) then (if n = 1 then some .dict else none)
  else if x == ("int" : Str) then (if n = 1 then some .int else none)
  else if x == ("all" : Str) then (if n = 1 then some .all else none)
  else if x == ("max" : Str) then (if n = 1 then some .max1 else if n = 2 then some .max2 else none)
  else if x == ("min" : Str) then (if n = 2 then some .min2 else none)
  else if x == ("range" : Str) then some .range
  else none

/-- the built-ins that the small language knows by name -/
def bltTab (x : Str) : Option Value :=
  if x == ("len" : Str) then some (.builtin "len") else if x == ("isinstance" : Str) then some (.builtin "isinstance")
  else if x == ("list" : Str) then some (.type "list") else if x == ("tuple" : Str) then some (.type "tuple") else if x == ("sorted" : Str) then some (.builtin "sorted")
  else if x == ("dict" : Str) then some (.type "dict") else if x == ("int" : Str) then some (.type "int") else if x == ("all" : Str) then some (.builtin "all")
  else if x == ("max" : Str) then some (.builtin "max") else if x == ("min" : Str) then some (.builtin "min") else if x == ("range" : Str) then some (.type "range")
  else if x == ("str" : Str) then some (.type "str") else if x == ("bool" : Str) then some (.type "bool") else if x == ("ValueError" : Str) then some (.type "ValueError") else if x == ("set" : Str) then some (.type "set") else none

def bmTab (x : Str) : Option Bm :=
  if x == ("append" : Str) then some .append else if x == ("pop" : Str) then some .pop else if x == ("get" : Str) then some .get
  else if x == ("join" : Str) then some .join else if x == ("split" : Str) then some .split else none

/-- a comprehension's own block -/
def compFine (sc scope : Scope) (x : Str) : Bool :=
  scope.kind == .function && (scope.names.map (·.1)).Nodup && scope.names.all (fun y => y.2 != .cell && (y.2 != .local || y.1 == x || y.1 == (".0" : Str)) && (y.2 != .free || sc.names.lookup y.1 == some .cell)) && scope.names.lookup x == some .local

end Mine
end

section
open PySem PyProof.Rows PySem.Calls
namespace Mine

def Room (n : Nat) (A : Around) : Prop := A.depth + 2 * n + 2 < recursionLimit ∧ A.units + 30 * n + 200 < cLine
/-- room for a call itself -/
def RoomC (n : Nat) (A : Around) : Prop := A.depth + 2 * n + 1 < recursionLimit ∧ A.units + 30 * n + 190 < cLine
theorem Room.c {n : Nat} {A : Around} (R : Room n A) : RoomC n A := ⟨by have := R.1; omega, by have := R.2; omega⟩
def HmOk (hm : Bool) (A : Around) : Prop := hm = false → A.handled = none

/-- a call's end -/
def PostC (P : Pm) (F : Fm) (l : Loc) (Q : QV) (X : XV) : Result → Shared → Prop := fun r s' => match r with
  | .ok (.ret V) => PostE P F l Q V s'
  | .ok _ => False
  | .error EV => PostX P F l X EV s'

structure SndFn (P : Pm) (G : Gx) (n : Nat) : Prop where
  keep : ∀ {f hm args H Q X}, G.fn f hm args H Q X → PySem.W.keepIn P.K (.ref f) = true
  run : ∀ {f hm args H Q X}, G.fn f hm args H Q X → ∀ {F l s vals}, FmOk P F → RoomC n F.A → HmOk hm F.A → Inv P F l H s → vals.map er = args →
    codeAny P.M F.A (.call (.ref f) ⟨vals, []⟩) (PostC P F l Q X) s

structure BltOk (P : Pm) : Prop where
  blt : ∀ x v, bltTab x = some v → P.mg x = none ∧ P.mb x = some v

/-- the names of a block, as the env knows them -/
structure ScOk (sc : Scope) (F : Fm) : Prop where
  loc : ∀ x, isLoc sc x = some true → Own F.env x
  glob : ∀ x, isLoc sc x = some false → F.env.kindOf x = some .globalImplicit
  locl : ∀ x, sc.names.lookup x = some .local → F.env.kindOf x = some .local
  cell : ∀ x, sc.names.lookup x = some .cell → F.env.kindOf x = some .cell ∧ ∃ c, F.env.cells.lookup x = some c

section
variable {P : Pm} {F : Fm} {G : Gx} {n : Nat} {hm : Bool} {l : Loc} {H : Hp} {s : Shared}

theorem isLoc_true {sc : Scope} {x : Str} (h : isLoc sc x = some true) : (x == ("__debug__" : Str)) = false ∧ (x == ("__classdict__" : Str)) = false := by
  unfold isLoc at h
  split at h <;> first | (split at h <;> simp_all) | simp_all
theorem isLoc_false {sc : Scope} {x : Str} (h : isLoc sc x = some false) : (x == ("__debug__" : Str)) = false := by
  unfold isLoc at h
  split at h <;> first | (split at h <;> simp_all) | simp_all

theorem PostE.mono {Q Q' : QV} {V : Value} {s' : Shared} (h : PostE P F l Q V s') (hq : ∀ v H, Q v H → Q' v H) : PostE P F l Q' V s' := let ⟨H', I, q⟩ := h; ⟨H', I, hq _ _ q⟩

/-- an expression keeps what its wp says -/
def SE (P : Pm) (G : Gx) (n : Nat) (hm : Bool) (sc : Scope) (e : Expr) (e' : Ex) : Prop :=
  ∀ ⦃F : Fm⦄ ⦃l : Loc⦄, FmOk P F → ScOk sc F → Room n F.A → HmOk hm F.A → ∀ {H : Hp} {s : Shared} {Q : QV} {X : XV}, Inv P F l H s → wpE G hm e' l H Q X → wpAny P.M F.A (eval e F.env) (PostE P F l Q) (PostX P F l X) s
def SEs (P : Pm) (G : Gx) (n : Nat) (hm : Bool) (sc : Scope) (es : List Expr) (es' : List Ex) : Prop :=
  ∀ ⦃F : Fm⦄ ⦃l : Loc⦄, FmOk P F → ScOk sc F → Room n F.A → HmOk hm F.A → ∀ {H : Hp} {s : Shared} {Q : List Value → Hp → Prop} {X : XV} {pos : Pos}, Inv P F l H s → wpEs G hm es' l H Q X →
    wpAny P.M F.A (spliced (backTo pos (starEach es F.env))) (fun Vs s' => ∃ H', Inv P F l H' s' ∧ Q (Vs.map er) H') (PostX P F l X) s
def ST (P : Pm) (G : Gx) (n : Nat) (hm : Bool) (sc : Scope) (e : Expr) (e' : Ex) : Prop :=
  ∀ ⦃F : Fm⦄ ⦃l : Loc⦄, FmOk P F → ScOk sc F → Room n F.A → HmOk hm F.A → ∀ {H : Hp} {s : Shared} {k : Bool → Hp → Prop} {X : XV}, Inv P F l H s → wpE G hm e' l H (fun v H' => truthV v fun b => k b H') X →
    wpAny P.M F.A (isTrue e F.env (eval e F.env)) (fun b s' => ∃ H', Inv P F l H' s' ∧ k b H') (PostX P F l X) s

theorem truth_of {V : Value} {k : Bool → Prop} (h : truthV (er V) k) : ∃ b, V = .bool b ∧ k b := by
  unfold truthV at h
  split at h
  · rename_i b e; exact ⟨b, er_bool e, h⟩
  · exact h.elim

theorem SE.test {sc : Scope} {e : Expr} {e' : Ex} (h : SE P G n hm sc e e') (he : ∀ env whole, isTrue e env whole = (do let v ← whole; standAt e.pos; holding [v] (truthy v))) : ST P G n hm sc e e' := by
  intro F l K S R HM H s k X I q
  rw [he]
  refine wpAny_bind (wpAny_mono (h K S R HM I q) (fun V s' z => ?_) fun _ _ z => z)
  obtain ⟨H', I', z⟩ := z
  obtain ⟨b, rfl, z⟩ := truth_of z
  exact wpAny_bind (wpAny_standAt (wpAny_holding (wpAny_truthy_bool ⟨H', I', z⟩)))

theorem se_none {sc : Scope} {kk : Nat} {pos : Pos} : SE P G n hm sc (.Constant .none kk pos) .none := fun F l K S R HM H s Q X I q => wpAny_pure ⟨H, I, q⟩
theorem se_bool {sc : Scope} {b : Bool} {kk : Nat} {pos : Pos} : SE P G n hm sc (.Constant (.bool b) kk pos) (.bool b) := fun F l K S R HM H s Q X I q => wpAny_pure ⟨H, I, q⟩
theorem se_int {sc : Scope} {i : Int} {kk : Nat} {pos : Pos} : SE P G n hm sc (.Constant (.int i) kk pos) (.int i) := fun F l K S R HM H s Q X I q => wpAny_Constant_int ⟨H, I.toks _, q⟩
theorem se_str {sc : Scope} {x : Str} {kk : Nat} {pos : Pos} : SE P G n hm sc (.Constant (.str x) kk pos) (.str x) := fun F l K S R HM H s Q X I q => wpAny_Constant_str ⟨H, I.toks _, q⟩
theorem se_loc {sc : Scope} {x : Str} {pos : Pos} (hl : isLoc sc x = some true) : SE P G n hm sc (.Name x pos) (.loc x) := by
  intro F l K S R HM H s Q X I q
  have q : (match l x with | some v => Q v H | none => False) := q
  cases hv : l x with
  | none => rw [hv] at q; exact q.elim
  | some v => rw [hv] at q; exact ld_loc K I hv (S.loc x hl) (isLoc_true hl).1 (isLoc_true hl).2 fun V e => ⟨H, I, e ▸ q⟩
theorem se_glob (Y : PmOk P) (GO : GxOk P G) {sc : Scope} {x : Str} {pos : Pos} (hl : isLoc sc x = some false) : SE P G n hm sc (.Name x pos) (.glob x) := by
  intro F l K S R HM H s Q X I q
  have q : (match G.glob x with | some v => Q v H | none => False) := q
  cases hv : G.glob x with
  | none => rw [hv] at q; exact q.elim
  | some v =>
    rw [hv] at q
    obtain ⟨V, rfl, hV⟩ := GO.glob x v hv
    exact ld_glob Y K I hV (S.glob x hl) (isLoc_false hl) ⟨H, I, q⟩

theorem attrBase {o : Expr} {a : Str} {env : Env} {whole : Sem Value} {M : Model} {A : Around} {Q : Value → Shared → Prop} {E : Value → Shared → Prop} {s : Shared} (h : notSuper o = true) (q : wpAny M A whole Q E s) : wpAny M A (attributeBase o a env whole) Q E s := by
  unfold attributeBase
  split
  · have h' : (_ != ("super" : Str)) = true := h
    rw [if_pos (by rw [h']; rfl)]
    exact q
  · exact q

theorem se_attr (Y : PmOk P) (GO : GxOk P G) {sc : Scope} {v : Expr} {v' : Ex} {a : Str} {pos : Pos} (hs : notSuper v = true) (h : SE P G n hm sc v v') : SE P G n hm sc (.Attribute v a pos) (.attr v' a) := by
  intro F l K S R HM H s Q X I q
  show wpAny P.M F.A (do let o ← attributeBase v a F.env (eval v F.env); standAt pos.atName; let r ← holding [o] (getAttr o a true); letTemporaryGo v o r; pure r) _ _ s
  simp only [wpE] at q
  refine wpAny_bind (attrBase hs (wpAny_mono (h K S R HM I q) (fun V s' z => ?_) fun _ _ z => z))
  obtain ⟨H', I', z⟩ := z
  exact wpAny_bind (wpAny_standAt (wpAny_bind (wpAny_holding (wpAny_mono (s_attr Y GO K I' rfl z) (fun V' s'' y => wpAny_bind (wpAny_letTemporaryGo (wpAny_pure y))) fun _ _ z => z))))

theorem se_bin {sc : Scope} {x y : Expr} {x' y' : Ex} {op : Operator} {pos : Pos} (hx : SE P G n hm sc x x') (hy : SE P G n hm sc y y') : SE P G n hm sc (.BinOp x op y pos) (.bin op x' y') := by
  intro F l K S R HM H s Q X I q
  simp only [wpE] at q
  refine wpAny_BinOp (wpAny_mono (hx K S R HM I q) (fun V s' z => ?_) fun _ _ z => z)
  obtain ⟨H', I', z⟩ := z
  refine wpAny_mono (hy K S R HM I' z) (fun V' s'' z => ?_) fun _ _ z => z
  obtain ⟨H'', I'', z⟩ := z
  exact s_bin K I'' op rfl rfl z

theorem se_neg {sc : Scope} {x : Expr} {x' : Ex} {pos : Pos} (hx : SE P G n hm sc x x') : SE P G n hm sc (.UnaryOp .USub x pos) (.neg x') := by
  intro F l K S R HM H s Q X I q
  simp only [wpE] at q
  show wpAny P.M F.A (do let v ← eval x F.env; standAt pos; holding [v] (unaryOp .USub v)) _ _ s
  refine wpAny_bind (wpAny_mono (hx K S R HM I q) (fun V s' z => ?_) fun _ _ z => z)
  obtain ⟨H', I', z⟩ := z
  refine wpAny_bind (wpAny_standAt (wpAny_holding ?_))
  split at z
  · rename_i i _ e
    obtain ⟨_, rfl⟩ := er_int e
    exact neg_int ⟨H', I'.toks _, z⟩
  · exact z.elim

theorem se_not {sc : Scope} {x : Expr} {x' : Ex} {pos : Pos} (hx : SE P G n hm sc x x') : SE P G n hm sc (.UnaryOp .Not x pos) (.not x') := by
  intro F l K S R HM H s Q X I q
  simp only [wpE] at q
  show wpAny P.M F.A (do let v ← eval x F.env; standAt pos; holding [v] (unaryOp .Not v)) _ _ s
  refine wpAny_bind (wpAny_mono (hx K S R HM I q) (fun V s' z => ?_) fun _ _ z => z)
  obtain ⟨H', I', z⟩ := z
  obtain ⟨b, rfl, z⟩ := truth_of z
  refine wpAny_bind (wpAny_standAt (wpAny_holding ?_))
  exact not_of (wpAny_truthy_bool ⟨H', I', z⟩)

theorem st_not {sc : Scope} {x : Expr} {x' : Ex} {pos : Pos} (hx : ST P G n hm sc x x') : ST P G n hm sc (.UnaryOp .Not x pos) (.not x') := by
  intro F l K S R HM H s k X I q
  simp only [wpE] at q
  show wpAny P.M F.A (do return !(← isTrue x F.env (eval x F.env))) _ _ s
  exact wpAny_bind (wpAny_mono (hx K S R HM I q) (fun V s' z => wpAny_pure z) fun _ _ z => z)

theorem se_cmp (Y : PmOk P) {sc : Scope} {x y : Expr} {x' y' : Ex} {op : CmpOp} {pos : Pos} (hx : SE P G n hm sc x x') (hy : SE P G n hm sc y y') (hb : behindInMarks op y = false) : SE P G n hm sc (.Compare x [op] [y] pos) (.cmp x' op y') := by
  intro F l K S R HM H s Q X I q
  simp only [wpE] at q
  refine wpAny_Compare1 (wpAny_mono (hx K S R HM I q) (fun V s' z => ?_) fun _ _ z => z) hb
  obtain ⟨H', I', z⟩ := z
  refine wpAny_mono (hy K S R HM I' z) (fun V' s'' z => ?_) fun _ _ z => z
  obtain ⟨H'', I'', z⟩ := z
  exact s_cmp Y I'' (by have := R.2; omega) op rfl rfl z

theorem st_cmp (Y : PmOk P) {sc : Scope} {x y : Expr} {x' y' : Ex} {op : CmpOp} {pos : Pos} (hx : SE P G n hm sc x x') (hy : SE P G n hm sc y y') (hb : behindInMarks op y = false) : ST P G n hm sc (.Compare x [op] [y] pos) (.cmp x' op y') := by
  intro F l K S R HM H s k X I q
  simp only [wpE] at q
  refine wpAny_isTrue_Compare1 (wpAny_mono (hx K S R HM I q) (fun V s' z => ?_) fun _ _ z => z) hb
  obtain ⟨H', I', z⟩ := z
  refine wpAny_mono (hy K S R HM I' z) (fun V' s'' z => ?_) fun _ _ z => z
  obtain ⟨H'', I'', z⟩ := z
  refine wpAny_mono (s_cmp Y I'' (by have := R.2; omega) op rfl rfl z) (fun V s' z => ?_) fun _ _ z => z
  obtain ⟨H', I', z⟩ := z
  obtain ⟨b, rfl, z⟩ := truth_of z
  exact wpAny_truthy_bool ⟨H', I', z⟩

theorem se_cmp2 (Y : PmOk P) {sc : Scope} {x y z : Expr} {x' y' z' : Ex} {op op2 : CmpOp} {pos : Pos} (hx : SE P G n hm sc x x') (hy : SE P G n hm sc y y') (hz : SE P G n hm sc z z') (hb : behindInMarks op2 z = false) :
    SE P G n hm sc (.Compare x [op, op2] [y, z] pos) (.cmp2 x' op y' op2 z') := by
  intro F l K S R HM H s Q X I q
  simp only [wpE] at q
  refine Compare_chain (wpAny_mono (hx K S R HM I q) (fun V s' q => ?_) fun _ _ z => z) hb
  obtain ⟨H1, I1, q⟩ := q
  unfold compareChain
  refine wpAny_bind (wpAny_holding (wpAny_mono (hy K S R HM I1 q) (fun V2 s2 q => ?_) fun _ _ z => z))
  obtain ⟨H2, I2, q⟩ := q
  refine wpAny_bind (wpAny_standAt (wpAny_bind (wpAny_holding (wpAny_mono (s_cmp Y I2 (by have := R.2; omega) op rfl rfl q) (fun V3 s3 q => ?_) fun _ _ z => z))))
  obtain ⟨H3, I3, q⟩ := q
  obtain ⟨b, rfl, q⟩ := truth_of q
  refine wpAny_bind (wpAny_release' (wpAny_bind (wpAny_holding (wpAny_truthy_bool ?_))))
  cases b with
  | false =>
    simp only [Bool.false_eq_true, if_false] at q ⊢
    exact wpAny_pure ⟨H3, I3, q⟩
  | true =>
    simp only [if_true] at q ⊢
    unfold compareChain
    refine wpAny_bind (wpAny_holding (wpAny_mono (hz K S R HM I3 q) (fun V4 s4 q => ?_) fun _ _ z => z))
    obtain ⟨H4, I4, q⟩ := q
    exact wpAny_bind (wpAny_standAt (wpAny_operate' (s_cmp Y I4 (by have := R.2; omega) op2 rfl rfl q)))

theorem st_cmp2 (Y : PmOk P) {sc : Scope} {x y z : Expr} {x' y' z' : Ex} {op op2 : CmpOp} {pos : Pos} (hx : SE P G n hm sc x x') (hy : SE P G n hm sc y y') (hz : SE P G n hm sc z z') (hb : behindInMarks op2 z = false) :
    ST P G n hm sc (.Compare x [op, op2] [y, z] pos) (.cmp2 x' op y' op2 z') := by
  intro F l K S R HM H s k X I q
  simp only [wpE] at q
  refine isTrue_chain (wpAny_mono (hx K S R HM I q) (fun V s' q => ?_) fun _ _ z => z) hb
  obtain ⟨H1, I1, q⟩ := q
  unfold testChain
  refine wpAny_bind (wpAny_holding (wpAny_mono (hy K S R HM I1 q) (fun V2 s2 q => ?_) fun _ _ z => z))
  obtain ⟨H2, I2, q⟩ := q
  refine wpAny_bind (wpAny_standAt (wpAny_bind (wpAny_holding (wpAny_mono (s_cmp Y I2 (by have := R.2; omega) op rfl rfl q) (fun V3 s3 q => ?_) fun _ _ z => z))))
  obtain ⟨H3, I3, q⟩ := q
  obtain ⟨b, rfl, q⟩ := truth_of q
  refine wpAny_bind (wpAny_release' (wpAny_bind (wpAny_holding (wpAny_truthy_bool ?_))))
  cases b with
  | false =>
    simp only [Bool.false_eq_true, if_false] at q ⊢
    exact wpAny_pure ⟨H3, I3, q⟩
  | true =>
    simp only [if_true] at q ⊢
    unfold testChain
    refine wpAny_bind (wpAny_holding (wpAny_mono (hz K S R HM I3 q) (fun V4 s4 q => ?_) fun _ _ z => z))
    obtain ⟨H4, I4, q⟩ := q
    refine wpAny_bind (wpAny_standAt (wpAny_bind (wpAny_operate' (wpAny_mono (s_cmp Y I4 (by have := R.2; omega) op2 rfl rfl q) (fun V5 s5 q => ?_) fun _ _ z => z))))
    obtain ⟨H5, I5, q⟩ := q
    obtain ⟨b, rfl, q⟩ := truth_of q
    exact wpAny_holding (wpAny_truthy_bool ⟨H5, I5, q⟩)

theorem idx_type {Q : QV} {V k : Value} (I : Inv P F l H s) (q : idxV (er V) k H Q) : ∃ T id, s.TypeIs V T ∧ typeLookup (.type T) (Str.ofString "__getitem__") = pure (some (.builtin id)) := by
  unfold idxV at q
  split at q
  · rename_i a _ _ e; have := er_ref e; subst this
    split at q
    · rename_i hx; obtain ⟨vs, hl, _⟩ := I.objs _ _ hx; exact ⟨_, _, hl.typeIs, slot_list_getitem.lookup⟩
    · rename_i hx; obtain ⟨vs, hl, _⟩ := I.objs _ _ hx; exact ⟨_, _, hl.typeIs, slot_list_getitem.lookup⟩
    · rename_i hx; obtain ⟨vs, ⟨o, ho, hc, _⟩, _⟩ := I.objs _ _ hx; exact ⟨"tuple", _, ⟨o, ho, hc⟩, slot_tuple_getitem.lookup⟩
    · rename_i hx; obtain ⟨vs, hl, _⟩ := I.objs _ _ hx; exact ⟨_, _, hl.mapOf.typeIs, slot_dict_getitem.lookup⟩
    · exact q.elim
  · rename_i a _ _ e; have := er_ref e; subst this
    split at q
    · rename_i hx; obtain ⟨vs, hl, _⟩ := I.objs _ _ hx; exact ⟨_, _, hl.mapOf.typeIs, slot_dict_getitem.lookup⟩
    · exact q.elim
  · rename_i x _ _ _ e; obtain ⟨_, rfl⟩ := er_str e
    exact ⟨"str", _, rfl, PySem.F.slot_str_getitem.lookup⟩
  · exact q.elim

theorem se_idx {sc : Scope} {x y : Expr} {x' y' : Ex} {pos : Pos} (hx : SE P G n hm sc x x') (hy : SE P G n hm sc y y') (hsl : ∀ o i, subscripted y false o i = operate [o, i] (getItem o i)) : SE P G n hm sc (.Subscript x y pos) (.idx x' y') := by
  intro F l K S R HM H s Q X I q
  simp only [wpE] at q
  refine Subscript_ (wpAny_mono (hx K S R HM I q) (fun V s' q => ?_) fun _ _ z => z)
  obtain ⟨H1, I1, q⟩ := q
  refine wpAny_mono (hy K S R HM I1 q) (fun V2 s2 q => ?_) fun _ _ z => z
  obtain ⟨H2, I2, q⟩ := q
  obtain ⟨T, id, h1, h2⟩ := idx_type I2 q
  exact tail_any h1 h2 (s_idx I2 rfl rfl q) (hsl _ _)

def SO (P : Pm) (G : Gx) (n : Nat) (hm : Bool) (sc : Scope) (e : Option Expr) (e' : Option Ex) : Prop :=
  ∀ ⦃F : Fm⦄ ⦃l : Loc⦄, FmOk P F → ScOk sc F → Room n F.A → HmOk hm F.A → ∀ {H : Hp} {s : Shared} {Q : QV} {X : XV}, Inv P F l H s → wpO G hm e' l H Q X → wpAny P.M F.A (evalPart e F.env) (PostE P F l Q) (PostX P F l X) s
theorem so_none {sc : Scope} : SO P G n hm sc none none := by
  intro F l K S R HM H s Q X I q
  simp only [wpO] at q
  exact wpAny_evalPart_none ⟨H, I, q⟩
theorem so_some {sc : Scope} {e : Expr} {e' : Ex} (h : SE P G n hm sc e e') : SO P G n hm sc (some e) (some e') := by
  intro F l K S R HM H s Q X I q
  simp only [wpO] at q
  exact wpAny_evalPart_some (h K S R HM I q)

theorem strSlice_eq (x : Str) (lo hi : Option Int) : (Builtin.Str.strSliceIndices lo hi 1 x.length).filterMap (x.cps[·]?) = pySlice x.cps.toList lo hi := by
  rw [← slicePick_eq]
  simp only [Array.getElem?_toList, Array.length_toList]
  rfl

theorem s_slice (K : FmOk P F) (I : Inv P F l H s) {E : Value → Shared → Prop} {Q : QV} {o lo hi : Value} {A' L' U' : Value} {sl : Addr} (hs : s.heap.IsSliceOf sl L' U' .none) (ha : er A' = o) (hl : er L' = lo) (hu : er U' = hi) (h : sliceV o lo hi H Q) :
    wpAny P.M F.A (getItem A' (.ref sl)) (PostE P F l Q) E s := by
  unfold sliceV at h
  split at h
  · rename_i a b ea eb
    have pa := partOf_er (V := L') (by rw [hl]; exact ea)
    have pb := partOf_er (V := U') (by rw [hu]; exact eb)
    split at h
    · rename_i x; have := er_ref ha; subst this
      split at h
      · rename_i xs hx
        obtain ⟨vs, hL, rfl, z⟩ := I.objs _ _ hx
        simp only [List.length_map, Array.length_toList] at h z
        refine wpAny_getItem_list_slice hL hs pa pb .none (by simp) ⟨_, I.alloc K (t := s.toks) (mt_list ⟨0, Heap.get?_push_size _ rfl⟩ ?_), ?_⟩ h.1
        · have h1 := pySlice_len vs.toList a b
          have h2 : slicePick vs a b none = (pySlice vs.toList a b).toArray := by
            unfold slicePick
            rw [← slicePick_eq]
            simp only [Array.getElem?_toList, Array.length_toList]
          rw [h2]
          simp only [Array.length_toList] at h1
          simp; omega
        · have h2 : slicePick vs a b none = (pySlice vs.toList a b).toArray := by
            unfold slicePick
            rw [← slicePick_eq]
            simp only [Array.getElem?_toList, Array.length_toList]
          have := h.2 _ I.fresh
          rw [pySlice_map] at this
          rw [h2]
          exact this
      · rename_i xs hx
        obtain ⟨vs, hL, rfl, z⟩ := I.objs _ _ hx
        simp only [List.length_map, Array.length_toList] at h z
        refine wpAny_getItem_list_slice hL hs pa pb .none (by simp) ⟨_, I.alloc K (t := s.toks) (mt_list ⟨0, Heap.get?_push_size _ rfl⟩ ?_), ?_⟩ h.1
        · have h1 := pySlice_len vs.toList a b
          have h2 : slicePick vs a b none = (pySlice vs.toList a b).toArray := by
            unfold slicePick
            rw [← slicePick_eq]
            simp only [Array.getElem?_toList, Array.length_toList]
          rw [h2]
          simp only [Array.length_toList] at h1
          simp; omega
        · have h2 : slicePick vs a b none = (pySlice vs.toList a b).toArray := by
            unfold slicePick
            rw [← slicePick_eq]
            simp only [Array.getElem?_toList, Array.length_toList]
          have := h.2 _ I.fresh
          rw [pySlice_map] at this
          rw [h2]
          exact this
      · exact h.elim
    · rename_i x _; obtain ⟨t, rfl⟩ := er_str ha
      have hp : ∀ {V : Value} {i : Option Int}, IsPart V i → ∃ l', partValue l' = V ∧ l'.map (·.1) = i := by
        intro V i hV
        cases hV with
        | none => exact ⟨none, rfl, rfl⟩
        | int i t => exact ⟨some (i, t), rfl, rfl⟩
      obtain ⟨l', e1, h2⟩ := hp pa
      obtain ⟨u', e2, h3⟩ := hp pb
      obtain ⟨o, o1, o2, o3⟩ := hs
      refine wpAny_getItem_str_slice (l := l') (u := u') (st := none) ⟨o, o1, o2, by rw [o3, e1, e2]; rfl⟩ rfl ?_
      have hlen : x.cps.toList.length = x.length := by simp [Str.length]
      have idx : slicePicked x l' u' none = (List.range (hiAt x.length b - loAt x.length a)).map fun k => loAt x.length a + k := by
        unfold slicePicked
        rw [h2, h3, ← sliceIdx]
        rfl
      have pk : (slicePicked x l' u' none).filterMap (x.cps[·]?) = pySlice x.cps.toList a b := by
        rw [← slicePick_eq, sliceIdx, hlen, idx]
        simp only [Array.getElem?_toList]
      have q := h.2
      unfold sliceMade
      split
      · rename_i hc
        have hc : (slicePicked x l' u' none).length = x.length := by simpa using hc
        rw [idx] at hc
        simp only [List.length_map, List.length_range] at hc
        have w := pySlice_whole x.cps.toList a b (by rw [hlen]; exact hc)
        rw [w] at q
        exact ⟨H, I, q⟩
      · rw [pk]
        refine ⟨?_, H, I.toks _, q⟩
        have := pySlice_len x.cps.toList a b
        have h1 := h.1
        rw [hlen] at this
        show (pySlice x.cps.toList a b).toArray.size ≤ sizeLine
        simp only [List.size_toArray]
        omega
    · exact h.elim
  · exact h.elim

theorem slice_type {Q : QV} {V a b : Value} (I : Inv P F l H s) (q : sliceV (er V) a b H Q) : ∃ T id, s.TypeIs V T ∧ typeLookup (.type T) (Str.ofString "__getitem__") = pure (some (.builtin id)) := by
  unfold sliceV at q
  split at q
  · split at q
    · rename_i e; have := er_ref e; subst this
      split at q
      · rename_i hx; obtain ⟨vs, hl, _⟩ := I.objs _ _ hx; exact ⟨_, _, hl.typeIs, slot_list_getitem.lookup⟩
      · rename_i hx; obtain ⟨vs, hl, _⟩ := I.objs _ _ hx; exact ⟨_, _, hl.typeIs, slot_list_getitem.lookup⟩
      · exact q.elim
    · rename_i e; obtain ⟨_, rfl⟩ := er_str e
      exact ⟨"str", _, rfl, PySem.F.slot_str_getitem.lookup⟩
    · exact q.elim
  · exact q.elim

theorem se_slice {sc : Scope} {x : Expr} {x' : Ex} {lo hi : Option Expr} {lo' hi' : Option Ex} {p pos : Pos} (hx : SE P G n hm sc x x') (hl : SO P G n hm sc lo lo') (hh : SO P G n hm sc hi hi') :
    SE P G n hm sc (.Subscript x (.Slice lo hi none p) pos) (.slice x' lo' hi') := by
  intro F l K S R HM H s Q X I q
  simp only [wpE] at q
  refine Subscript_ (wpAny_mono (hx K S R HM I q) (fun V s' q => ?_) fun _ _ z => z)
  obtain ⟨H1, I1, q⟩ := q
  refine wpAny_Slice (wpAny_mono (hl K S R HM I1 q) (fun V2 s2 q => ?_) fun _ _ z => z)
  obtain ⟨H2, I2, q⟩ := q
  refine wpAny_mono (hh K S R HM I2 q) (fun V3 s3 q => ?_) fun _ _ z => z
  obtain ⟨H3, I3, q⟩ := q
  refine wpAny_evalPart_none ?_
  have I4 := I3.push { cls := .type "slice", data := .fields #[V2, V3, .none] }
  have ty := slice_type I4 q
  obtain ⟨T, id, h1, h2⟩ := ty
  exact tail_any h1 h2 (s_slice K I4 (Heap.IsSliceOf.new _ _ _ _) rfl rfl rfl q) rfl

end
end Mine
end

section
open PySem PyProof.Rows PySem.Calls
namespace Mine

section
variable {P : Pm} {F : Fm} {G : Gx} {n : Nat} {hm : Bool} {l : Loc} {H : Hp} {s : Shared}

def notStar : Expr → Bool
  | .Starred .. => false
  | _ => true
theorem star_cons {e : Expr} {es : List Expr} {env : Env} (h : notStar e = true) : starEach (e :: es) env = (false, eval e env) :: starEach es env := by
  cases e <;> first | rfl | cases h

theorem ses_nil {sc : Scope} : SEs P G n hm sc [] [] := by
  intro F l K S R HM H s Q X pos I q
  simp only [wpEs] at q
  exact spliced_nil ⟨H, I, q⟩
theorem ses_cons {sc : Scope} {e : Expr} {e' : Ex} {es : List Expr} {es' : List Ex} (hn : notStar e = true) (h : SE P G n hm sc e e') (r : SEs P G n hm sc es es') : SEs P G n hm sc (e :: es) (e' :: es') := by
  intro F l K S R HM H s Q X pos I q
  simp only [wpEs] at q
  rw [star_cons hn]
  refine spliced_cons (wpAny_mono (h K S R HM I q) (fun V s' q => ?_) fun _ _ z => z)
  obtain ⟨H1, I1, q⟩ := q
  exact wpAny_mono (r K S R HM I1 q) (fun Vs s'' z => z) fun _ _ z => z

/-- the values of a bool op -/
def SBs (P : Pm) (G : Gx) (n : Nat) (hm : Bool) (sc : Scope) (es : List Expr) (es' : List Ex) : Prop :=
  ∀ ⦃F : Fm⦄ ⦃l : Loc⦄, FmOk P F → ScOk sc F → Room n F.A → HmOk hm F.A → ∀ {H : Hp} {s : Shared} {Q : QV} {X : XV} {pos : Pos} {op : BoolOp}, es ≠ [] → Inv P F l H s → wpB G hm (op == .And) es' l H Q X →
    wpAny P.M F.A (boolOp pos op (evalEach es F.env)) (PostE P F l Q) (PostX P F l X) s
def STs (P : Pm) (G : Gx) (n : Nat) (hm : Bool) (sc : Scope) (es : List Expr) (es' : List Ex) : Prop :=
  ∀ ⦃F : Fm⦄ ⦃l : Loc⦄, FmOk P F → ScOk sc F → Room n F.A → HmOk hm F.A → ∀ {H : Hp} {s : Shared} {k : Bool → Hp → Prop} {X : XV} {op : BoolOp}, Inv P F l H s → wpB G hm (op == .And) es' l H (fun v H' => truthV v fun b => k b H') X →
    wpAny P.M F.A (allTrue op es F.env) (fun b s' => ∃ H', Inv P F l H' s' ∧ k b H') (PostX P F l X) s

theorem sbs_one {sc : Scope} {e : Expr} {e' : Ex} (h : SE P G n hm sc e e') : SBs P G n hm sc [e] [e'] := by
  intro F l K S R HM H s Q X pos op _ I q
  simp only [wpB] at q
  refine wpAny_mono (h K S R HM I q) (fun V s' q => ?_) fun _ _ z => z
  obtain ⟨H1, I1, q⟩ := q
  obtain ⟨b, hb, q2⟩ := truth_of q
  subst hb
  refine ⟨H1, I1, ?_⟩
  split at q2 <;> exact q2
theorem sbs_cons {sc : Scope} {e : Expr} {e' : Ex} {e2 : Expr} {es : List Expr} {e2' : Ex} {es' : List Ex} (h : SE P G n hm sc e e') (r : SBs P G n hm sc (e2 :: es) (e2' :: es')) : SBs P G n hm sc (e :: e2 :: es) (e' :: e2' :: es') := by
  intro F l K S R HM H s Q X pos op _ I q
  rw [wpB] at q
  show wpAny P.M F.A (boolOp pos op (eval e F.env :: eval e2 F.env :: evalEach es F.env)) _ _ s
  unfold boolOp
  refine wpAny_bind (wpAny_mono (h K S R HM I q) (fun V s' q => ?_) fun _ _ z => z)
  obtain ⟨H1, I1, q⟩ := q
  obtain ⟨b, hb, q2⟩ := truth_of q
  subst hb
  refine wpAny_bind (wpAny_standAt (wpAny_bind (wpAny_holding (wpAny_truthy_bool ?_))))
  cases op <;> cases b
  · exact wpAny_pure ⟨H1, I1, q2⟩
  · exact r K S R HM (by simp) I1 q2
  · exact r K S R HM (by simp) I1 q2
  · exact wpAny_pure ⟨H1, I1, q2⟩

theorem sts_nil {sc : Scope} : STs P G n hm sc [] [] := by
  intro F l K S R HM H s k X op I q
  simp only [wpB, truthV] at q
  exact wpAny_pure ⟨H, I, q⟩
theorem sts_cons {sc : Scope} {e : Expr} {e' : Ex} {es : List Expr} {es' : List Ex} (hl : es' = [] → es = []) (h : ST P G n hm sc e e') (r : STs P G n hm sc es es') : STs P G n hm sc (e :: es) (e' :: es') := by
  intro F l K S R HM H s k X op I q
  rw [wpB] at q
  show wpAny P.M F.A (do match op, ← isTrue e F.env (eval e F.env) with | .And, false => pure false | .Or, true => pure true | _, _ => allTrue op es F.env) _ _ s
  refine wpAny_bind (wpAny_mono (h K S R HM I q) (fun b s' q => ?_) fun _ _ z => z)
  obtain ⟨H1, I1, q⟩ := q
  cases op <;> cases b <;> simp only [beq_self_eq_true, if_true, show ((BoolOp.Or == BoolOp.And) = false) from rfl, Bool.false_eq_true, if_false, reduceCtorEq] at q ⊢
  · exact wpAny_pure ⟨H1, I1, q⟩
  · cases es' with
    | nil => rw [hl rfl]; exact wpAny_pure ⟨H1, I1, q⟩
    | cons a as => exact r K S R HM I1 q
  · cases es' with
    | nil => rw [hl rfl]; exact wpAny_pure ⟨H1, I1, q⟩
    | cons a as => exact r K S R HM I1 q
  · exact wpAny_pure ⟨H1, I1, q⟩

theorem se_bop {sc : Scope} {op : BoolOp} {es : List Expr} {es' : List Ex} {pos : Pos} (hne : es ≠ []) (h : SBs P G n hm sc es es') : SE P G n hm sc (.BoolOp op es pos) (.bop (op == .And) es') := by
  intro F l K S R HM H s Q X I q
  simp only [wpE] at q
  exact h K S R HM hne I q
theorem st_bop {sc : Scope} {op : BoolOp} {es : List Expr} {es' : List Ex} {pos : Pos} (h : STs P G n hm sc es es') : ST P G n hm sc (.BoolOp op es pos) (.bop (op == .And) es') := by
  intro F l K S R HM H s k X I q
  simp only [wpE] at q
  exact h K S R HM I q

theorem se_list {sc : Scope} {es : List Expr} {es' : List Ex} {pos : Pos} (h : SEs P G n hm sc es es') : SE P G n hm sc (.List es pos) (.list es') := by
  intro F l K S R HM H s Q X I q
  simp only [wpE] at q
  refine List_ (wpAny_mono (h K S R HM I q) (fun Vs s' q => ?_) fun _ _ z => z)
  obtain ⟨H1, I1, hz, q⟩ := q
  simp only [List.length_map] at hz
  have hz' := hz
  simp only [sizeLine] at hz'
  refine wpAny_newList ⟨_, I1.alloc K (t := s'.toks) (mt_list ⟨0, Heap.get?_push_size _ rfl⟩ ?_), q _ I1.fresh⟩ hz
  simp; omega
theorem se_tup {sc : Scope} {es : List Expr} {es' : List Ex} {pos : Pos} {kk : Nat} (h : SEs P G n hm sc es es') : SE P G n hm sc (.Tuple es kk pos) (.tup es') := by
  intro F l K S R HM H s Q X I q
  simp only [wpE] at q
  refine Tuple_ (wpAny_mono (h K S R HM I q) (fun Vs s' q => ?_) fun _ _ z => z)
  obtain ⟨H1, I1, hz, q⟩ := q
  simp only [List.length_map] at hz
  have hz' := hz
  simp only [sizeLine] at hz'
  refine wpAny_newTuple ⟨_, I1.alloc K (t := s'.toks) (mt_tup ⟨_, Heap.get?_push_size _ rfl, rfl, 0, rfl⟩ ?_), q _ I1.fresh⟩ hz
  simp; omega

/-! calls -/
theorem evalArgs_any {M : Model} {A : Around} {E : Value → Shared → Prop} {s : Shared} {f : Value} {env : Env} {es : List Expr} {pos : Pos} {Q : Args → Shared → Prop} (hs : es.all notStar = true)
    (h : wpAny M A (spliced (backTo pos (starEach es env))) (fun vs s' => Q ⟨vs, []⟩ s') E s) : wpAny M A (evalArgs f true (backTo pos (starEach es env)) []) Q E s := by
  cases es with
  | nil =>
    unfold evalArgs
    show wpAny M A (spliced [] >>= _) Q E s
    refine wpAny_bind (wpAny_mono h (fun vs s' z => ?_) fun _ _ z => z)
    refine wpAny_bind (wpAny_pure ?_)
    refine wpAny_holding ?_
    show wpAny M A (evalAll [] >>= _) Q E s'
    exact wpAny_bind (wpAny_pure (wpAny_bind (wpAny_pure (wpAny_pure z))))
  | cons e es =>
    rw [star_cons (by simp at hs; exact hs.1)] at h ⊢
    exact evalArgs_plain h
theorem backTo_plain {env : Env} {pos : Pos} : ∀ {es : List Expr}, es.all notStar = true → (backTo pos (starEach es env)).any (·.1) = false
  | [], _ => rfl
  | e :: es, h => by
    simp at h
    rw [star_cons h.1]
    show (false || (backTo pos (starEach es env)).any (·.1)) = false
    rw [backTo_plain (by simpa using h.2)]; rfl
theorem backTo_length {env : Env} {pos : Pos} : ∀ {es : List Expr}, es.all notStar = true → (backTo pos (starEach es env)).length = es.length
  | [], _ => rfl
  | e :: es, h => by
    simp at h
    rw [star_cons h.1]
    show (backTo pos (starEach es env)).length + 1 = es.length + 1
    rw [backTo_length (by simpa using h.2)]

/-- a call by its values -/
theorem callWith_any {M : Model} {A : Around} {E : Value → Shared → Prop} {s : Shared} {f : Value} {env : Env} {first : List Value} {es : List Expr} {pos : Pos} {Q : Value → Shared → Prop} (hs : es.all notStar = true)
    (h : wpAny M A (spliced (backTo pos (starEach es env))) (fun vs s' => (∃ k, (k = Keeper.frame ∨ k = Keeper.machine) ∧ PySem.W.Looks M s'.heap (keeperOf f) k) ∧ wpAny M A (call f (first ++ vs)) Q E s') E s) :
    wpAny M A (callWith pos f first (backTo pos (starEach es env)) []) Q E s := by
  unfold callWith
  refine wpAny_bind (wpAny_holding (evalArgs_any hs (wpAny_mono h (fun vs s' q => ?_) fun _ _ z => z)))
  refine wpAny_bind (wpAny_standAt ?_)
  obtain ⟨⟨k, hk, lk⟩, q⟩ := q
  simp only [backTo_plain hs, List.any_nil, Bool.or_false]
  refine wpAny_bind (lk.here ?_)
  rcases hk with rfl | rfl
  · dsimp only
    split
    · exact wpAny_bind (wpAny_mono q (fun v s'' z => wpAny_bind (wpAny_holding (wpAny_point (wpAny_pure z)))) fun _ _ z => z)
    · unfold callMarked
      exact wpAny_bind (wpAny_keep (wpAny_mono q (fun v s'' z => wpAny_bind (wpAny_holding (wpAny_point (wpAny_pure z)))) fun _ _ z => z))
  · exact wpAny_bind (wpAny_mono q (fun v s'' z => wpAny_bind (wpAny_holding (wpAny_point (wpAny_pure z)))) fun _ _ z => z)

end
end Mine
end

section
open PySem PyProof.Rows PySem.Calls
namespace Mine

theorem strs_vals : ∀ (vs xs : List Value) (ss : List Str), vs.map er = xs → strsOf xs = some ss → ∃ l : List (Str × Tok), vs = strValues l ∧ l.map (·.1) = ss
  | [], _, ss, e, h => by subst e; cases h; exact ⟨[], rfl, rfl⟩
  | V :: vs, _, ss, e, h => by
    subst e
    cases V <;> simp only [List.map_cons, er, strsOf] at h <;> first | (cases h; done) | skip
    obtain ⟨r, hr, rfl⟩ := Option.map_eq_some_iff.1 h
    obtain ⟨l, e1, e2⟩ := strs_vals vs _ r rfl hr
    rename_i x t
    exact ⟨(x, t) :: l, by rw [e1]; rfl, by rw [← e2]; rfl⟩

section
variable {P : Pm} {F : Fm} {G : Gx} {n : Nat} {hm : Bool} {l : Loc} {H : Hp} {s : Shared}

theorem Inv.withA (I : Inv P F l H s) (A : Around) : Inv P { F with A := A } l H s := ⟨I.gens, I.os, I.keep, I.frk, I.loc, I.cel, I.objs, I.free, I.big⟩
theorem Inv.ofA {A : Around} (I : Inv P { F with A := A } l H s) : Inv P F l H s := ⟨I.gens, I.os, I.keep, I.frk, I.loc, I.cel, I.objs, I.free, I.big⟩
theorem Off.ofA {A : Around} {a : Addr} (x : Off { F with A := A } H a) : Off F H a := ⟨x.h, x.g, x.fr, x.l, x.c⟩
theorem Exc.ofA {A : Around} {e C : Addr} {b : Bool} (x : Exc P { F with A := A } H s e C b) : Exc P F H s e C b := ⟨x.big, x.off.ofA, let ⟨T, h1, h2, h3⟩ := x.at_; ⟨T, h1, fun t ht => (h2 t ht).ofA, h3⟩⟩
theorem PostE.ofA {A : Around} {Q : QV} {V : Value} (h : PostE P { F with A := A } l Q V s) : PostE P F l Q V s := let ⟨H', I, q⟩ := h; ⟨H', I.ofA, q⟩
theorem PostX.ofA {A : Around} {X : XV} {V : Value} (h : PostX P { F with A := A } l X V s) : PostX P F l X V s := let ⟨H', e, C, q, I, x, z⟩ := h; ⟨H', e, C, q, I.ofA, x.ofA, z⟩
theorem FmOk.withA (K : FmOk P F) {A : Around} (h : A.frames = F.A.frames) : FmOk P { F with A := A } :=
  ⟨K.kind, K.glob, K.blt, K.base, K.above, K.lg, K.lf, K.cl, K.cg, K.apart, K.cn, K.cf, K.fg, let ⟨f, o, a, b, c⟩ := K.frames; ⟨f, o, h.trans a, b, c⟩⟩

theorem tc_weight (a : Addr) (Vs : List Value) : (Code.builtin "type.__call__" ⟨.ref a :: Vs, []⟩).weight = 1 := by
  unfold Code.weight
  rw [show (Code.builtin "type.__call__" ⟨.ref a :: Vs, []⟩).frames = 0 from rfl, show (Code.builtin "type.__call__" ⟨.ref a :: Vs, []⟩).isCreation = true from rfl,
    show (Code.builtin "type.__call__" ⟨.ref a :: Vs, []⟩).isGuard = false from by show guardIds.contains "type.__call__" = false; decide +kernel, show (Code.builtin "type.__call__" ⟨.ref a :: Vs, []⟩).isCaller = false from rfl]
  rfl
theorem tc_room {A : Around} (R : Room n A) (a : Addr) (Vs : List Value) : RoomC n (A.under (.builtin "type.__call__" ⟨.ref a :: Vs, []⟩)) := by
  refine ⟨?_, ?_⟩
  · show A.depth + (Code.builtin "type.__call__" ⟨.ref a :: Vs, []⟩).weight + 2 * n + 1 < _
    rw [tc_weight]; have := R.1; omega
  · show A.units + 1 + 30 * n + 190 < _
    have := R.2; omega
theorem tc_frames {A : Around} (a : Addr) (Vs : List Value) : (A.under (.builtin "type.__call__" ⟨.ref a :: Vs, []⟩)).frames = A.frames := by
  show pushEnvs [] A.frames = A.frames
  cases A.frames <;> rfl

theorem s_call (Y : PmOk P) (GO : GxOk P G) (FN : SndFn P G n) (K : FmOk P F) (R : Room n F.A) (HM : HmOk hm F.A) (I : Inv P F l H s) {V : Value} {Vs : List Value} {Q : QV} {X : XV} (h : callV G hm (er V) (Vs.map er) H Q X) :
    (∃ k, (k = Keeper.frame ∨ k = Keeper.machine) ∧ PySem.W.Looks P.M s.heap (keeperOf V) k) ∧ wpAny P.M F.A (call V Vs) (PostE P F l Q) (PostX P F l X) s := by
  unfold callV at h
  split at h
  · rename_i a e; have := er_ref e; subst this
    split at h
    · rename_i fi hi
      obtain ⟨i1, i2, i3, i4⟩ := GO.init a fi hi
      have kin := I.kin Y K
      refine ⟨PySem.W.looks_keep i4 kin, wpAny_call ?_⟩
      have I1 := I.alloc K (O := PySem.W.emptyDict) (o := .ns []) (t := s.toks) ⟨#[], 0, Heap.get?_push_size _ rfl, .nil, .nil⟩
      have I2 := I1.alloc K (O := PySem.W.instObj a s.heap.objs.size) (o := .inst a s.heap.objs.size) (t := s.toks) (Heap.get?_push_size _ rfl)
      have hsz : (s.heap.push PySem.W.emptyDict).objs.size = s.heap.objs.size + 1 := Heap.size_push ..
      simp only [hsz] at I2
      have q := h s.heap.objs.size (s.heap.objs.size + 1) I.fresh (by
        have := I1.fresh
        simp only [hsz] at this
        rwa [Hp.upd_ne _ _ (Nat.succ_ne_self _)] at this) (Nat.ne_of_lt (Nat.lt_succ_self _))
      obtain ⟨hh, hg, hd, ht, ho⟩ := s
      refine PySem.W.make_core (PySem.W.makes_of kin i1) (PySem.W.looks_findIn kin i2) (fun self => PySem.W.bind_fn kin self (beq_iff_eq.mp i3)) (.inl (by simp)) ?_
      refine codeAny_mono (FN.run q (F := { F with A := F.A.under (.builtin "type.__call__" ⟨.ref a :: Vs, []⟩) }) (l := l) (K.withA (tc_frames _ _)) (tc_room R _ _) HM (I2.withA _) rfl) fun r s' z => ?_
      rcases r with e | (_ | _ | _ | v)
      · exact PostX.ofA z
      · exact z.elim
      · exact z.elim
      · exact z.elim
      · obtain ⟨H', I', q1, q2⟩ := z
        exact ⟨er_none q1, H', I'.ofA, q2⟩
    · refine ⟨PySem.W.looks_keep (FN.keep h) (I.kin Y K), wpAny_call (codeAny_mono (FN.run h K R.c HM I rfl) fun r s' z => ?_)⟩
      rcases r with e | (_ | _ | _ | v) <;> exact z
  · exact h.elim

theorem se_call (Y : PmOk P) (GO : GxOk P G) (FN : SndFn P G n) {sc : Scope} {f : Str} {p pos : Pos} {args : List Expr} {f' : Ex} {args' : List Ex} (hs : args.all notStar = true) (hf : SE P G n hm sc (.Name f p) f') (ha : SEs P G n hm sc args args') :
    SE P G n hm sc (.Call (.Name f p) args [] pos) (.call f' args') := by
  intro F l K S R HM H s Q X I q
  simp only [wpE] at q
  refine wpAny_Call_NameR (wpAny_mono (hf K S R HM I q) (fun V s' q => ?_) fun _ _ z => z)
  obtain ⟨H1, I1, q⟩ := q
  refine callWith_any hs (wpAny_mono (ha K S R HM I1 q) (fun Vs s2 q => ?_) fun _ _ z => z)
  obtain ⟨H2, I2, q⟩ := q
  exact s_call Y GO FN K R HM I2 q

theorem s_method (Y : PmOk P) (GO : GxOk P G) (K : FmOk P F) (I : Inv P F l H s) {E : Value → Shared → Prop} {V : Value} {m : Str} {k : Addr → Prop} {pl : Sem Bool} {Q : Value × List Value → Shared → Prop} (h : methV G (er V) m H k)
    (hq : ∀ f x, V = .ref x → k f → Q (.ref f, [.ref x]) s) : wpAny P.M F.A (getMethod V m pl) Q E s := by
  unfold methV at h
  split at h
  · rename_i x e; have := er_ref e; subst this
    split at h
    · rename_i C d hx
      split at h
      · rename_i kvs f hd hm
        obtain ⟨hv, hk⟩ := h
        obtain ⟨mm, Fr, hmm⟩ := I.fr K
        obtain ⟨es, kk, od, ne, _⟩ := I.objs _ _ hd
        obtain ⟨W, g1, g2⟩ := ne.get (a := m)
        obtain ⟨f1, f2, f3⟩ := GO.meth C m f hm
        have II : PySem.W.InstAt s.heap x { cls := .ref C, dict := some d, data := .plain } C (some (PySem.W.dictOf es.toList kk)) := ⟨I.objs _ _ hx, rfl, rfl, by simpa [PySem.W.dictOf] using od⟩
        rw [hv] at g2
        cases W with
        | none => exact PySem.W.method_inst Fr Y.kin II f1 f2 f3 g1 (hq f x rfl hk)
        | some W => simp at g2
      · exact h.elim
    · exact h.elim
  · exact h.elim

theorem backTo_stars {env : Env} {pos : Pos} : ∀ {es : List Expr}, es.all notStar = true → (backTo pos (starEach es env)).all (fun x => !x.1) = true
  | [], _ => rfl
  | e :: es, h => by
    simp at h
    rw [star_cons h.1]
    show (true && (backTo pos (starEach es env)).all (fun x => !x.1)) = true
    rw [backTo_stars (by simpa using h.2)]; rfl

theorem attrBase_eq {o : Expr} {a : Str} {env : Env} {whole : Sem Value} (h : notSuper o = true) : attributeBase o a env whole = whole := by
  unfold attributeBase
  split
  · have h' : (_ != ("super" : Str)) = true := h
    rw [if_pos (by rw [h']; rfl)]
  · rfl

theorem se_meth (Y : PmOk P) (GO : GxOk P G) (FN : SndFn P G n) {sc : Scope} {o : Expr} {m : Str} {ap pos : Pos} {args : List Expr} {o' : Ex} {args' : List Ex} (hs : args.all notStar = true) (hsup : notSuper o = true) (hline : (ap.endLine == pos.line) = true) (hlen : args.length < 29)
    (ho : SE P G n hm sc o o') (ha : SEs P G n hm sc args args') :
    SE P G n hm sc (.Call (.Attribute o m ap) args [] pos) (.meth o' m args') := by
  intro F l K S R HM H s Q X I q
  simp only [wpE] at q
  rw [arm_eval_Call, attrBase_eq hsup]
  refine wpAny_bind (wpAny_mono (ho K S R HM I q) (fun V s' q => ?_) fun _ _ z => z)
  obtain ⟨H1, I1, q⟩ := q
  refine wpAny_bind (wpAny_standAt ?_)
  have hform : methodCallForm (args.length + ([] : List Keyword).length) (backTo pos (starEach args F.env)) (backToKw pos (keywordEach [] F.env)) = true := by
    unfold methodCallForm
    rw [backTo_stars hs]
    have : backToKw pos (keywordEach [] F.env) = [] := rfl
    simp [this]; omega
  have hpos : methodCallPos true o F.env ap pos = pure pos := by unfold methodCallPos; simp [hline]
  unfold methodCall
  rw [hform]
  refine wpAny_bind (wpAny_holding (s_method Y GO K I1 q fun f x e q => ?_))
  subst e
  refine wpAny_bind (wpAny_of_eq hpos ?_)
  refine callWith_any hs (wpAny_mono (ha K S R HM I1 q) (fun Vs s2 q => ?_) fun _ _ z => z)
  obtain ⟨H2, I2, q⟩ := q
  refine ⟨PySem.W.looks_keep (FN.keep q) (I2.kin Y K), wpAny_call (codeAny_mono (FN.run q K R.c HM I2 rfl) fun r s' z => ?_)⟩
  rcases r with e | (_ | _ | _ | v) <;> exact z

/-! methods of the built-in types -/
def bmName : Bm → Str
  | .append => "append" | .pop => "pop" | .get => "get" | .join => "join" | .split => "split"
theorem bmTab_name {x : Str} {m : Bm} (h : bmTab x = some m) : x = bmName m := by
  unfold bmTab at h
  repeat (split at h; · rename_i e; cases h; exact eq_of_beq e)
  cases h
def bmId : Bk → Bm → String
  | .list, .append => "list.append"
  | .list, _ => "list.pop"
  | .dict, .pop => "dict.pop"
  | .dict, _ => "dict.get"
  | .str, .join => "str.join"
  | .str, _ => "str.split"

theorem bm_get {M : Model} {A : Around} {E : Value → Shared → Prop} {s : Shared} {v : Value} {T : String} {name nm : Str} {id idd : String} {pl : Sem Bool} {Q : Value × List Value → Shared → Prop} (sl : Slot T nm idd) (hT : s.TypeIs v T) (pa : PlainAttrs T)
    (hty : typeOf (.builtin idd) = pure (.type "method_descriptor")) (hd : ∀ a, v = .ref a → ∃ o, s.heap.get? a = some o ∧ o.dict = none) (h : Q (.builtin id, [v]) s) (e1 : name = nm := by rfl) (e2 : id = idd := by rfl) : wpAny M A (getMethod v name pl) Q E s := by
  subst e1 e2
  exact getMethod_builtin hT pa sl hty hd h

theorem s_bmOn (I : Inv P F l H s) {E : Value → Shared → Prop} {V : Value} {m : Bm} {k : Bk → Prop} {pl : Sem Bool} {Q : Value × List Value → Shared → Prop} (h : bmOn m (er V) H k)
    (hq : ∀ b, k b → Q (.builtin (bmId b m), [V]) s) : wpAny P.M F.A (getMethod V (bmName m) pl) Q E s := by
  unfold bmOn at h
  split at h
  · rename_i x _ e; obtain ⟨t, rfl⟩ := er_str e
    obtain ⟨rfl | rfl, h⟩ := h
    · exact bm_get PySem.F.slot_str_join rfl PySem.F.plainAttrs_str PySem.F.type_str_join (fun _ e => nomatch e) (hq .str h)
    · exact bm_get PySem.F.slot_str_split rfl PySem.F.plainAttrs_str PySem.F.type_str_split (fun _ e => nomatch e) (hq .str h)
  · rename_i a e; have := er_ref e; subst this
    split at h
    · rename_i xs hx
      obtain ⟨vs, hl, _, _, n, e⟩ := I.objs _ _ hx
      have hd : ∀ b, Value.ref a = .ref b → ∃ o, s.heap.get? b = some o ∧ o.dict = none := fun b q => by cases q; exact ⟨_, e, rfl⟩
      obtain ⟨rfl | rfl, h⟩ := h
      · exact bm_get slot_list_append hl.typeIs PySem.F.plainAttrs_list type_list_append hd (hq .list h)
      · exact bm_get PySem.F.slot_list_pop hl.typeIs PySem.F.plainAttrs_list PySem.F.type_list_pop hd (hq .list h)
    · rename_i xs hx
      obtain ⟨vs, hl, _⟩ := I.objs _ _ hx
      obtain ⟨rfl | rfl, h⟩ := h
      · exact bm_get PySem.F.slot_dict_pop hl.mapOf.typeIs PySem.F.plainAttrs_dict PySem.F.type_dict_pop hl.mapOf.noDict (hq .dict h)
      · exact bm_get PySem.F.slot_dict_get hl.mapOf.typeIs PySem.F.plainAttrs_dict PySem.F.type_dict_get hl.mapOf.noDict (hq .dict h)
    · rename_i xs hx
      obtain ⟨vs, hl, _⟩ := I.objs _ _ hx
      obtain ⟨rfl | rfl, h⟩ := h
      · exact bm_get PySem.F.slot_dict_pop hl.mapOf.typeIs PySem.F.plainAttrs_dict PySem.F.type_dict_pop hl.mapOf.noDict (hq .dict h)
      · exact bm_get PySem.F.slot_dict_get hl.mapOf.typeIs PySem.F.plainAttrs_dict PySem.F.type_dict_get hl.mapOf.noDict (hq .dict h)
    · exact h.elim
  · exact h.elim

theorem mapSeq_exact (f : Array Value → Array Value) (vs : Array Value) (n : Nat) : ∃ n', Obj.mapSeq f { cls := .type "list", dict := none, data := .seq vs n, slots := #[] } = { cls := .type "list", dict := none, data := .seq (f vs) n', slots := #[] } := by
  unfold Obj.mapSeq
  exact ⟨_, rfl⟩

theorem IsL.update {h : Heap} {a : Addr} {vs : Array Value} (x : IsL h a vs) (f : Array Value → Array Value) : IsL (h.update a (Obj.mapSeq f)) a (f vs) := by
  obtain ⟨n, e⟩ := x
  obtain ⟨n', e'⟩ := mapSeq_exact f vs n
  exact ⟨n', by rw [Heap.get?_update_self _ e (by rw [e']; rfl), e']⟩

theorem without_er {K : Type} [DecidableEq K] (ks : List (K × Value)) (k : K) : (PySem.without ks k).map (fun p => (p.1, er p.2)) = PySem.without (ks.map fun p => (p.1, er p.2)) k := by
  unfold PySem.without
  rw [List.filter_map]
  rfl

theorem s_bm (I : Inv P F l H s) {E : Value → Shared → Prop} {V : Value} {Vs : List Value} {b : Bk} {m : Bm} {Q : QV} (h : bmV b m (er V) (Vs.map er) H Q) :
    wpAny P.M F.A (call (.builtin (bmId b m)) (V :: Vs)) (PostE P F l Q) E s := by
  unfold bmV at h
  split at h
  · rename_i a v e1 e2; have := er_ref e1; subst this
    obtain ⟨W, rfl, rfl⟩ : ∃ W, Vs = [W] ∧ er W = v := by
      cases Vs with
      | nil => cases e2
      | cons W r => cases r with
        | nil => exact ⟨W, rfl, by simpa using e2⟩
        | cons _ _ => simp at e2
    split at h
    · rename_i xs hx
      obtain ⟨hz, q⟩ := h
      obtain ⟨vs, hl, e, hz2, ex⟩ := I.objs _ _ hx
      have hsz : vs.size ≤ sizeLine := by rw [← e] at hz; simpa using hz
      obtain ⟨n, e0⟩ := id ex
      refine wpAny_call_entry slot_list_append hl.typeIs entry_list_append ?_ (args_list_append _ _)
      show wpAny _ _ (updateSeq a (·.push W) >>= fun _ => ret .none) _ _ s
      refine wpAny_bind (wpAny_updateSeq e0 rfl (wpAny_pure ⟨.none, rfl, ?_⟩) hsz)
      refine ⟨_, I.put (t := s.toks) hx (fun b hb => Heap.get?_update_other _ _ (Ne.symm hb)) (mt_list (ex.update _) ?_), ?_⟩
      · simp only [Array.size_push]; simp only [sizeLine] at hsz; omega
      · simpa [e, er] using q
    · exact h.elim
  · rename_i a e1 e2; have := er_ref e1; subst this
    have : Vs = [] := by simpa using e2
    subst this
    split at h
    · rename_i xs hx
      obtain ⟨hz, q⟩ := h
      obtain ⟨vs, hl, e, hz2, ex⟩ := I.objs _ _ hx
      have hsz : vs.size ≤ sizeLine := by rw [← e] at hz; simpa using hz
      obtain ⟨n, e0⟩ := id ex
      split at q
      · rename_i v hv
        obtain ⟨y, hy, hyv⟩ : ∃ y, vs[vs.size - 1]? = some y ∧ er y = v := by
          rw [← e, List.getLast?_map] at hv
          obtain ⟨y, hy, e'⟩ := Option.map_eq_some_iff.mp hv
          refine ⟨y, ?_, e'⟩
          rw [List.getLast?_eq_getElem?] at hy
          simpa using hy
        subst hyv
        refine call_meets PySem.F.slot_list_pop hl.typeIs PySem.F.entry_list_pop (PySem.F.args_list_pop_1 _) (PySem.MeetsSeq.list_pop_last a vs n y hy hsz) ⟨e0, ?_⟩
        have dl : (vs.eraseIdxIfInBounds (vs.size - 1)).toList = vs.toList.dropLast := by
          obtain ⟨l⟩ := vs
          simp only [List.eraseIdxIfInBounds_toArray, List.size_toArray, List.eraseIdx_length_sub_one]
        refine ⟨_, I.put (t := s.toks) hx (fun b hb => Heap.get?_update_other _ _ (Ne.symm hb)) (mt_list (ex.update _) ?_), ?_⟩
        · rw [← Array.length_toList, dl]
          simp only [sizeLine] at hsz
          simp; omega
        · have : ((vs.eraseIdxIfInBounds (vs.size - 1)).toList.map er) = xs.dropLast := by
            rw [dl, ← e, List.map_dropLast]
          rw [this]; exact q
      · exact q.elim
    · exact h.elim
  · rename_i a k _ e1 e2; have := er_ref e1; subst this
    obtain ⟨t, rfl⟩ : ∃ t, Vs = [.int k t] := by
      cases Vs with
      | nil => cases e2
      | cons W r => cases r with
        | nil => simp at e2; obtain ⟨t, rfl⟩ := er_int e2; exact ⟨t, rfl⟩
        | cons _ _ => simp at e2
    split at h
    · rename_i kvs hx
      obtain ⟨hz, q⟩ := h
      obtain ⟨ks, hd, e⟩ := I.objs _ _ hx
      split at q
      · rename_i v hv
        rw [← e] at hv
        rw [valueAt_er] at hv
        obtain ⟨W, hw, hwv⟩ := Option.map_eq_some_iff.mp hv
        subst hwv
        refine call_meetsIn PySem.F.slot_dict_pop hd.mapOf.typeIs PySem.F.entry_dict_pop (PySem.F.args_dict_pop_2 _ _) (meets_dict_pop_there _ a (intKind_is _ _ _ _) [] (.inl rfl) rfl) ⟨ks, W, hd, by rw [← e] at hz; simpa using hz, hw, fun h' hd' sb => ?_⟩
        refine ⟨_, I.put (t := s.toks + 1) (o' := .idict ((PySem.without ks k).map fun p => (p.1, er p.2))) hx (fun b hb => sb.2 b hb) ⟨_, hd', rfl⟩, ?_⟩
        have : (PySem.without ks k).map (fun p => (p.1, er p.2)) = PySem.without kvs k := by rw [← e, without_er]
        rw [this]; exact q
      · exact q.elim
    · exact h.elim
  · rename_i x _ a e1 e2; obtain ⟨t, rfl⟩ := er_str e1
    obtain rfl : Vs = [.ref a] := by
      cases Vs with
      | nil => cases e2
      | cons W r => cases r with
        | nil => simp at e2; rw [er_ref e2]
        | cons _ _ => simp at e2
    split at h
    · rename_i xs hx
      obtain ⟨vs, hl, e, _⟩ := I.objs _ _ hx
      split at h
      · rename_i ss hs
        obtain ⟨ok, q⟩ := h
        obtain ⟨ls, e1, e2⟩ := strs_vals _ _ _ e hs
        refine PySem.SC.join (l := ls) (by rw [← e1]; simpa using hl) e2 ok fun t' k => ⟨H, I.toks _, q⟩
      · exact h.elim
    · exact h.elim
  · exact h.elim
end
end Mine
end

section
open PySem PyProof.Rows PySem.Calls
open PySem.W (Looks Frag InstAt findIn findObj mroIn subIn typeIn clsIn looks_findIn looks_find looks_mroIn looks_subIn looks_typeIn class_get handed_on)
namespace Mine

/-! ## isinstance of an exception of one's own -/
section
variable {prog : Program} {w : World} {A : Around} {E : Value → Shared → Prop} {s : Shared} {K : Frag} {x D : Addr} {ox : Obj}

theorem exc_check {M : Model} {nameV : Value} {Q : Unit → Shared → Prop} (C : ExcCls K D) (X : K.In s.heap) (I : InstAt s.heap x ox D none) (hq : Q () s) : wpAny M A (checkBuiltinCall "BaseException.__getattribute__" ⟨[.ref x, nameV], []⟩) Q E s := by
  have hk : builtinKind "BaseException.__getattribute__" = some .slot := by decide +kernel
  have hsplit : splitId "BaseException.__getattribute__" = some ("BaseException", "__getattribute__") := by decide +kernel
  have ha := PySem.F.args_bexc_ga (.ref x) nameV
  have L0 := I.type (M := M)
  have L1 : Looks M s.heap (isInstance (.ref x) (.type "BaseException")) true := L0.andThen (looks_mroIn X C.be)
  obtain ⟨hh, g, d, t, os⟩ := s
  simp only [checkBuiltinCall, hk, hsplit]
  refine wpAny_bind (L1.at ?_)
  repeat (any_goals (first | assumption | wp_step))

theorem exc_attr {tk : Tok} {fill expr : Bool} {Q : Value → Shared → Prop} (C : ExcCls K D) (X : K.In s.heap) (I : InstAt s.heap x ox D none) (hq : Q (.ref D) s) :
    wpAny (model prog w) A (getAttrBy (.ref x) (.str "__class__" tk) fill expr) Q E s := by
  have L0 := I.type (M := model prog w)
  have L1 := looks_findIn (M := model prog w) X C.ga
  have L2 := looks_findIn (M := model prog w) X C.gr
  have L3 := looks_find (M := model prog w) X I C.fo
  have I' := I
  have X' := X
  have CG := fun {A' : Around} {R : Result → Shared → Prop} (h : R (.ok (.ret (.ref D))) s) => class_get (prog := prog) (w := w) (A := A') (tp := .ref D) X I C.ob h
  have EC := fun {A' : Around} {E' : Value → Shared → Prop} {nameV : Value} {Q' : Unit → Shared → Prop} (hq : Q' () s) => exc_check (M := model prog w) (A := A') (E := E') (nameV := nameV) C X I hq
  obtain ⟨hh, g, d, t, os⟩ := s
  unfold getAttrBy
  refine wpAny_holding (wpAny_bind (L0.at (wpAny_bind (L1.at ?_))))
  show wpAny _ _ (getAttrByItsOwn _ _ _ _ _ _) _ _ _
  unfold getAttrByItsOwn hookBefore
  refine wpAny_bind ?_
  show wpAny _ _ (typeLookup (.ref D) "__getattr__") _ _ _
  refine L2.at ?_
  refine wpAny_bind (wpAny_attempt (wpAny_holding ?_))
  have hb : callGetattribute (.ref x) (.str "__class__" tk) (.builtin "BaseException.__getattribute__") expr = boundAndCalled (.builtin "BaseException.__getattribute__") (.ref x) (.str "__class__" tk) := by
    unfold callGetattribute
    rw [if_neg (by cases expr <;> decide)]
  rw [hb]
  unfold boundAndCalled
  refine wpAny_bind (wpAny_of_eq (PySem.F.excAttr_ValueError.ga.bind (.ref x)) ?_)
  refine wpAny_call ?_
  refine codeAny_call_builtin PySem.F.excAttr_ValueError.ga.plain PySem.F.entry_bexc_ga (EC ?_)
  unfold Builtin.«object.__getattribute__»
  repeat (any_goals (first | assumption | with_reducible refine L0.at ?_ | with_reducible refine L3.at ?_ | wp_step))
  refine CG ?_
  dsimp only
  refine wpAny_pure ?_
  dsimp only
  exact handed_on rfl hq

theorem exc_class {Q : Option Value → Shared → Prop} (C : ExcCls K D) (X : K.In s.heap) (I : InstAt s.heap x ox D none) (hq : Q (some (.ref D)) { s with toks := s.toks + 1 }) :
    wpAny (model prog w) A (getAttr? (.ref x) "__class__") Q E s := by
  unfold getAttr? getAttrBy?
  exact wpAny_bind (wpAny_mkText (wpAny_bind (wpAny_attempt (exc_attr (s := { s with toks := s.toks + 1 }) C X I (wpAny_pure hq)))))

/-- the class asked about is a plain one -/
structure AskCls (K : Frag) (c : Value) : Prop where
  ty : ∀ (M : Model) h', K.In h' → Looks M h' (typeOf c) (.type "type")
  is : ∀ (M : Model) h', K.In h' → Looks M h' (isType c) true

theorem exc_nested {c : Value} {dep : Int} {tk : Tok} {b : Bool} {Q : Fin → Shared → Prop} (C : ExcCls K D) (X : K.In s.heap) (I : InstAt s.heap x ox D none) (U : AskCls K c)
    (hne : (Value.ref D == c) = true → b = true) (hsub : ∀ (M : Model) h', K.In h' → Looks M h' (isSubtype (.ref D) c) b) (h : ∀ t, Q (.done (.ret (.bool b))) { s with toks := t }) :
    wpAny (model prog w) A (Builtin.«isinstance.nested» ⟨[.ref x, c, .int dep tk], []⟩) Q E s := by
  obtain ⟨cdD, hcD⟩ := Option.isSome_iff_exists.mp C.cl
  have hisD : Looks (model prog w) s.heap (isType (.ref D)) true := by
    unfold PySem.W.clsIn at hcD
    split at hcD
    · rename_i ho
      intro A' Q' E' s' k q
      unfold isType loadHead
      exact wpAny_bind (wpAny_loadPart (k _ _ (X _ _ ho)) (wpAny_pure q))
    · cases hcD
  have hty := U.ty (model prog w) _ X
  have his := U.is (model prog w) _ X
  have hs := hsub (model prog w) _ X
  have EC := fun {A' : Around} {E' : Value → Shared → Prop} {Q' : Option Value → Shared → Prop} (hq : Q' (some (.ref D)) { s with toks := s.toks + 1 }) => exc_class (prog := prog) (w := w) (A := A') (E := E') C X I hq
  have L0 := I.type (M := model prog w)
  obtain ⟨h0, g, d, tt, os⟩ := s
  have LI : Looks (model prog w) h0 (isInstance (.ref x) c) b := L0.andThen hs
  unfold Builtin.«isinstance.nested»
  refine wpAny_bind (L0.at ?_)
  by_cases q : (Value.ref D == c) = true
  · rw [if_pos q]
    have := hne q
    subst this
    exact wpAny_bind (wpAny_rule (wpAny_bind (wpAny_pure (wpAny_pure (h _)))))
  rw [if_neg q]
  refine wpAny_bind (hty.at ?_)
  rw [if_pos (by decide)]
  k_delta "plainIsInstance"
  refine wpAny_bind (wpAny_bind (his.at ?_))
  simp only [Bool.not_true, Bool.false_eq_true, if_false]
  refine wpAny_bind (LI.at ?_)
  cases b with
  | true =>
    simp only [if_true]
    exact wpAny_pure (wpAny_pure (h _))
  | false =>
    simp only [Bool.false_eq_true, if_false]
    refine wpAny_bind (EC ?_)
    refine wpAny_bind (hisD.at ?_)
    simp only [Bool.not_true, Bool.false_eq_true, if_false]
    refine wpAny_bind (wpAny_rule ?_)
    refine hs.at ?_
    first
      | exact wpAny_pure (h _)
      | exact wpAny_pure (wpAny_pure (h _))
      | exact wpAny_bind (wpAny_pure (wpAny_pure (h _)))

theorem exc_isi {c : Value} {b : Bool} {Q : Value → Shared → Prop} (C : ExcCls K D) (X : K.In s.heap) (I : InstAt s.heap x ox D none) (U : AskCls K c)
    (hne : (Value.ref D == c) = true → b = true) (hsub : ∀ (M : Model) h', K.In h' → Looks M h' (isSubtype (.ref D) c) b) (h : ∀ t, Q (.bool b) { s with toks := t }) :
    wpAny (model prog w) A (call (.builtin "isinstance") [.ref x, c]) Q E s :=
  call_isinstance (S := fun _ R s => (K.In s.heap ∧ InstAt s.heap x ox D none) ∧ ∀ t, R (.ok (.ret (.bool b))) { s with toks := t })
    (fun _ _ _ _ _ hs => isinstance_outer (exc_nested C hs.1.1 hs.1.2 U hne hsub hs.2) (by intro q; cases q)) ⟨⟨X, I⟩, h⟩
end
end Mine
end

section
open PySem PyProof.Rows PySem.Calls
open PySem.W (Looks looks_subIn looks_typeIn)
namespace Mine

section
variable {P : Pm} {F : Fm} {G : Gx} {n : Nat} {hm : Bool} {l : Loc} {H : Hp} {s : Shared}

def Ty.val : Ty → Option Value
  | .str => some (.type "str") | .int => some (.type "int") | .bool => some (.type "bool") | .list => some (.type "list") | .tuple => some (.type "tuple") | .valueError => some (.type "ValueError")
  | _ => none

theorem ask_own (K : PySem.W.Frag) {D : Addr} (C : ExcCls K D) : AskCls K (.ref D) := by
  refine ⟨fun M h' X => looks_typeIn X C.ty, fun M h' X => ?_⟩
  obtain ⟨cd, hc⟩ := Option.isSome_iff_exists.mp C.cl
  unfold PySem.W.clsIn at hc
  split at hc
  · rename_i ho
    intro A' Q' E' s' k q
    unfold isType loadHead
    exact wpAny_bind (wpAny_loadPart (k _ _ (X _ _ ho)) (wpAny_pure q))
  · cases hc
theorem meta_VE : typeOf (.type "ValueError") = pure (.type "type") := by kernel_rfl
theorem ask_VE (K : PySem.W.Frag) : AskCls K (.type "ValueError") := ⟨fun _ _ _ => Looks.of_pure meta_VE, fun _ _ _ => Looks.of_pure rfl⟩

theorem exc_inst (I : Inv P F l H s) {x D : Addr} (h : H x = some (.exc D)) : ∃ ox, PySem.W.InstAt s.heap x ox D none := by
  obtain ⟨vs, sl, e⟩ := I.objs _ _ h
  exact ⟨_, e, rfl, rfl, trivial⟩

theorem s_isi (Y : PmOk P) (GO : GxOk P G) (K : FmOk P F) (I : Inv P F l H s) {E : Value → Shared → Prop} {V T : Value} {t : Ty} {Q : QV} (ht : t.val = some T) (h : isiV G (er V) t H Q) :
    wpAny P.M F.A (call (.builtin "isinstance") [V, T]) (PostE P F l Q) E s := by
  have R : ∀ {b : Bool} {u : Nat}, Q (.bool b) H → PostE P F l Q (.bool b) { s with toks := u } := fun q => ⟨H, I.toks _, q⟩
  unfold isiV at h
  split at h
  · rename_i e; have := er_none e; subst this
    obtain ⟨hb, q⟩ := h
    cases t <;> cases ht <;> first | cases hb | skip
    · exact IsiPair.NoneType_str (R q)
    · exact IsiPair.NoneType_int (R q)
    · exact IsiPair.NoneType_bool (R q)
    · exact IsiPair.NoneType_list (R q)
    · exact IsiPair.NoneType_tuple (R q)
  · rename_i e; have := er_bool e; subst this
    obtain ⟨hb, q⟩ := h
    cases t <;> cases ht <;> first | cases hb | skip
    · exact IsiPair.bool_str (R q)
    · exact IsiPair.bool_int (R (u := s.toks) q)
    · exact IsiPair.bool_bool (R (u := s.toks) q)
    · exact IsiPair.bool_list (R q)
    · exact IsiPair.bool_tuple (R q)
  · rename_i e; obtain ⟨u, rfl⟩ := er_int e
    obtain ⟨hb, q⟩ := h
    cases t <;> cases ht <;> first | cases hb | skip
    · exact IsiPair.int_str (R q)
    · exact IsiPair.int_int (R (u := s.toks) q)
    · exact IsiPair.int_bool (R q)
    · exact IsiPair.int_list (R q)
    · exact IsiPair.int_tuple (R q)
  · rename_i e; obtain ⟨u, rfl⟩ := er_str e
    obtain ⟨hb, q⟩ := h
    cases t <;> cases ht <;> first | cases hb | skip
    · exact IsiPair.str_str (R (u := s.toks) q)
    · exact IsiPair.str_int (R q)
    · exact IsiPair.str_bool (R q)
    · exact IsiPair.str_list (R q)
    · exact IsiPair.str_tuple (R q)
  · rename_i a e; have := er_ref e; subst this
    split at h
    · rename_i hx
      obtain ⟨hb, q⟩ := h
      obtain ⟨vs, ⟨o, ho, hc, _⟩, _⟩ := I.objs _ _ hx
      cases t <;> cases ht <;> first | cases hb | skip
      · exact IsiPair.list_str ho hc (R q)
      · exact IsiPair.list_int ho hc (R q)
      · exact IsiPair.list_bool ho hc (R q)
      · exact IsiPair.list_list ho hc (R (u := s.toks) q)
      · exact IsiPair.list_tuple ho hc (R q)
    · rename_i hx
      obtain ⟨hb, q⟩ := h
      obtain ⟨vs, ⟨o, ho, hc, _⟩, _⟩ := I.objs _ _ hx
      cases t <;> cases ht <;> first | cases hb | skip
      · exact IsiPair.tuple_str ho hc (R q)
      · exact IsiPair.tuple_int ho hc (R q)
      · exact IsiPair.tuple_bool ho hc (R q)
      · exact IsiPair.tuple_list ho hc (R q)
      · exact IsiPair.tuple_tuple ho hc (R (u := s.toks) q)
    · rename_i hx
      obtain ⟨hb, q⟩ := h
      obtain ⟨vs, ⟨o, es, ep, ho, hc, _⟩, _⟩ := I.objs _ _ hx
      cases t <;> cases ht <;> first | cases hb | skip
      · exact IsiPair.dict_str ho hc.1 (R q)
      · exact IsiPair.dict_int ho hc.1 (R q)
      · exact IsiPair.dict_bool ho hc.1 (R q)
      · exact IsiPair.dict_list ho hc.1 (R q)
      · exact IsiPair.dict_tuple ho hc.1 (R q)
    · rename_i hx
      obtain ⟨hb, q⟩ := h
      obtain ⟨vs, ⟨o, es, ep, ho, hc, _⟩, _⟩ := I.objs _ _ hx
      cases t <;> cases ht <;> first | cases hb | skip
      · exact IsiPair.dict_str ho hc.1 (R q)
      · exact IsiPair.dict_int ho hc.1 (R q)
      · exact IsiPair.dict_bool ho hc.1 (R q)
      · exact IsiPair.dict_list ho hc.1 (R q)
      · exact IsiPair.dict_tuple ho hc.1 (R q)
    · rename_i C hx
      obtain ⟨he, q⟩ := h
      obtain ⟨ox, II⟩ := exc_inst I hx
      cases t <;> cases ht <;> first | exact q.elim | skip
      exact exc_isi (GO.exc C he) (I.kin Y K) II (ask_VE _) (fun _ => rfl) (fun M h' X => looks_subIn X (GO.exc C he).ve) fun t => R q
    · exact h.elim
  · exact h.elim

theorem s_isi_cls (Y : PmOk P) (GO : GxOk P G) (K : FmOk P F) (I : Inv P F l H s) {E : Value → Shared → Prop} {V : Value} {x : Str} {D : Addr} {Q : QV} (hD : G.glob x = some (.ref D)) (h : isiV G (er V) (.cls x) H Q) :
    wpAny P.M F.A (call (.builtin "isinstance") [V, .ref D]) (PostE P F l Q) E s := by
  unfold isiV at h
  split at h
  · cases h.1
  · cases h.1
  · cases h.1
  · cases h.1
  · rename_i a e; have := er_ref e; subst this
    split at h
    · cases h.1
    · cases h.1
    · cases h.1
    · cases h.1
    · rename_i C hx
      obtain ⟨he, q⟩ := h
      dsimp only at q
      rw [hD] at q
      obtain ⟨hd, q⟩ := q
      obtain ⟨ox, II⟩ := exc_inst I hx
      refine exc_isi (GO.exc C he) (I.kin Y K) II (ask_own _ (GO.exc D hd)) (fun e => ?_) (fun M h' X => looks_subIn X (GO.sub C D he hd)) fun t => ⟨H, I.toks _, q⟩
      have : C = D := by simpa using e
      subst this; exact GO.self C he
    · exact h.elim
  · exact h.elim

theorem machine_builtin (M : Model) (h : Heap) (id : String) : ∃ k, (k = Keeper.frame ∨ k = Keeper.machine) ∧ Looks M h (keeperOf (.builtin id)) k := ⟨.machine, .inr rfl, Looks.of_pure rfl⟩
theorem machine_type (M : Model) (h : Heap) (id : String) : ∃ k, (k = Keeper.frame ∨ k = Keeper.machine) ∧ Looks M h (keeperOf (.type id)) k := ⟨.machine, .inr rfl, Looks.of_pure rfl⟩

/-- a name of the built-ins -/
theorem ld_blt (Y : PmOk P) (B : BltOk P) {sc : Scope} (K : FmOk P F) (S : ScOk sc F) (I : Inv P F l H s) {E : Value → Shared → Prop} {x : Str} {p : Pos} {v : Value} {Q : Value → Shared → Prop} (hb : bltTab x = some v) (hl : isLoc sc x = some false) (h : Q v s) : wpAny P.M F.A (eval (.Name x p) F.env) Q E s :=
  ld_glob Y K I (.inr (B.blt x v hb)) (S.glob x hl) (isLoc_false hl) h

theorem ty_name {x : Str} {t : Ty} (h : tyOf x = some t) : ∃ T, t.val = some T ∧ bltTab x = some T := by
  unfold tyOf at h
  repeat (split at h; · rename_i e; cases h; rw [eq_of_beq e]; exact ⟨_, rfl, by decide +kernel⟩)
  cases h

theorem se_isi (Y : PmOk P) (B : BltOk P) (GO : GxOk P G) {sc : Scope} {e : Expr} {e' : Ex} {x : Str} {t : Ty} {p p2 pos : Pos} (hn : notStar e = true) (hi : isLoc sc "isinstance" = some false) (hx : isLoc sc x = some false) (ht : tyOf x = some t) (he : SE P G n hm sc e e') :
    SE P G n hm sc (.Call (.Name "isinstance" p) [e, .Name x p2] [] pos) (.isi e' t) := by
  intro F l K S R HM H s Q X I q
  simp only [wpE] at q
  refine wpAny_Call_NameR (ld_blt Y B K S I (v := .builtin "isinstance") (by decide +kernel) hi ?_)
  refine callWith_any (by rw [List.all_cons, hn]; rfl) ?_
  rw [star_cons hn]
  refine spliced_cons (wpAny_mono (he K S R HM I q) (fun V s' q => ?_) fun _ _ z => z)
  obtain ⟨H1, I1, q⟩ := q
  obtain ⟨T, hT, hb⟩ := ty_name ht
  refine spliced_cons (ld_blt Y B K S I1 hb hx (spliced_nil ⟨machine_builtin _ _ _, ?_⟩))
  exact s_isi Y GO K I1 hT q

theorem se_isi_cls (Y : PmOk P) (B : BltOk P) (GO : GxOk P G) {sc : Scope} {e : Expr} {e' : Ex} {x : Str} {p p2 pos : Pos} (hn : notStar e = true) (hi : isLoc sc "isinstance" = some false) (hx : isLoc sc x = some false) (he : SE P G n hm sc e e') :
    SE P G n hm sc (.Call (.Name "isinstance" p) [e, .Name x p2] [] pos) (.isi e' (.cls x)) := by
  intro F l K S R HM H s Q X I q
  simp only [wpE] at q
  refine wpAny_Call_NameR (ld_blt Y B K S I (v := .builtin "isinstance") (by decide +kernel) hi ?_)
  refine callWith_any (by rw [List.all_cons, hn]; rfl) ?_
  rw [star_cons hn]
  refine spliced_cons (wpAny_mono (he K S R HM I q) (fun V s' q => ?_) fun _ _ z => z)
  obtain ⟨H1, I1, q⟩ := q
  have hD : ∃ D, G.glob x = some (.ref D) := by
    unfold isiV at q
    split at q <;> first | (cases q.1; done) | skip
    · split at q <;> first | (cases q.1; done) | skip
      · obtain ⟨_, q⟩ := q
        dsimp only at q
        split at q
        · rename_i hD; exact ⟨_, hD⟩
        · exact q.elim
      · exact q.elim
    · exact q.elim
  obtain ⟨D, hD⟩ := hD
  obtain ⟨W, hW, hV⟩ := GO.glob x _ hD
  have := er_ref hW; subst this
  refine spliced_cons (ld_glob Y K I1 hV (S.glob x hx) (isLoc_false hx) (spliced_nil ⟨machine_builtin _ _ _, ?_⟩))
  exact s_isi_cls Y GO K I1 hD q

theorem se_bm {sc : Scope} {o : Expr} {m : Str} {b : Bm} {ap pos : Pos} {args : List Expr} {o' : Ex} {args' : List Ex} (hb : bmTab m = some b) (hs : args.all notStar = true) (hsup : notSuper o = true) (hline : (ap.endLine == pos.line) = true) (hlen : args.length < 29)
    (ho : SE P G n hm sc o o') (ha : SEs P G n hm sc args args') :
    SE P G n hm sc (.Call (.Attribute o m ap) args [] pos) (.bm b o' args') := by
  intro F l K S R HM H s Q X I q
  have := bmTab_name hb; subst this
  simp only [wpE] at q
  rw [arm_eval_Call, attrBase_eq hsup]
  refine wpAny_bind (wpAny_mono (ho K S R HM I q) (fun V s' q => ?_) fun _ _ z => z)
  obtain ⟨H1, I1, q⟩ := q
  refine wpAny_bind (wpAny_standAt ?_)
  have hform : methodCallForm (args.length + ([] : List Keyword).length) (backTo pos (starEach args F.env)) (backToKw pos (keywordEach [] F.env)) = true := by
    unfold methodCallForm
    rw [backTo_stars hs]
    have : backToKw pos (keywordEach [] F.env) = [] := rfl
    simp [this]; omega
  have hpos : methodCallPos true o F.env ap pos = pure pos := by unfold methodCallPos; simp [hline]
  unfold methodCall
  rw [hform]
  refine wpAny_bind (wpAny_holding (s_bmOn I1 q fun b q => ?_))
  refine wpAny_bind (wpAny_of_eq hpos ?_)
  refine callWith_any hs (wpAny_mono (ha K S R HM I1 q) (fun Vs s2 q => ?_) fun _ _ z => z)
  obtain ⟨H2, I2, q⟩ := q
  exact ⟨machine_builtin _ _ _, s_bm I2 q⟩
end
end Mine
end

section
open PySem PyProof.Rows PySem.Calls
namespace Mine

/-! ## an object that must stay for a while -/
def Fm.also (F : Fm) (c : Addr) (o : Obj) : Fm := { F with g := fun b => if b = c then some o else F.g b }

section
variable {P : Pm} {F : Fm} {G : Gx} {n : Nat} {hm : Bool} {l : Loc} {H : Hp} {s : Shared} {c : Addr} {o : Obj}

theorem FmOk.also (K : FmOk P F) (x : Off F H c) : FmOk P (F.also c o) := by
  refine ⟨K.kind, K.glob, K.blt, fun b o' e => ?_, K.above, ?_, K.lf, K.cl, fun hr y d hy => ?_, K.apart, K.cn, K.cf, fun b d e => ?_, K.frames⟩
  · show (if b = c then some o else F.g b) = some o'
    have := K.base b o' e
    rw [if_neg (fun q => by rw [q, x.g] at this; cases this)]
    exact this
  · show (if F.env.locals = c then some o else F.g F.env.locals) = none
    rw [if_neg (Ne.symm x.l)]; exact K.lg
  · obtain ⟨h1, h2⟩ := K.cg hr y d hy
    refine ⟨?_, h2⟩
    show (if d = c then some o else F.g d) = none
    rw [if_neg (Ne.symm (x.c y d hy))]; exact h1
  · obtain ⟨h1, h2⟩ := K.fg b d e
    refine ⟨?_, h2⟩
    show (if b = c then some o else F.g b) = none
    have e' : F.fr b = some d := e
    rw [if_neg (fun q => by rw [q, x.fr] at e'; cases e')]; exact h1

theorem Inv.also (I : Inv P F l H s) (x : Off F H c) (h : s.heap.get? c = some o) : Inv P (F.also c o) l H s := by
  refine ⟨I.gens, I.os, fun b o' e => ?_, I.frk, I.loc, I.cel, I.objs, fun a o' e => ?_, I.big⟩
  · by_cases q : b = c
    · have e : (if b = c then some o else F.g b) = some o' := e
      rw [if_pos q] at e; cases e; rw [q]; exact h
    · have e : (if b = c then some o else F.g b) = some o' := e
      rw [if_neg q] at e; exact I.keep b o' e
  · cases hr : o'.isR with
    | true => exact fre_r hr (r_fre (I.free a o' e) hr)
    | false =>
      obtain ⟨h1, h2⟩ := of_fre (I.free a o' e) hr
      refine fre_of hr ⟨?_, h2⟩
      show (if a = c then some o else F.g a) = none
      rw [if_neg (fun q => by rw [q, x.h] at e; cases e)]; exact h1

theorem Inv.back (K : FmOk P F) (x : Off F H c) {l' : Loc} {H' : Hp} (I : Inv P (F.also c o) l' H' s) : Inv P F l' H' s ∧ s.heap.get? c = some o ∧ Off F H' c := by
  refine ⟨⟨I.gens, I.os, fun b o' e => ?_, I.frk, I.loc, I.cel, I.objs, fun a o' e => ?_, I.big⟩, I.keep c o (by show (if c = c then some o else F.g c) = some o; rw [if_pos rfl]), ?_, x.g, x.fr, x.l, x.c⟩
  · refine I.keep b o' ?_
    show (if b = c then some o else F.g b) = some o'
    rw [if_neg (fun q => by rw [q, x.g] at e; cases e)]; exact e
  · cases hr : o'.isR with
    | true => exact fre_r hr (r_fre (I.free a o' e) hr)
    | false =>
      obtain ⟨h1, h2⟩ := of_fre (I.free a o' e) hr
      refine fre_of hr ⟨?_, h2⟩
      have h1 : (if a = c then some o else F.g a) = none := h1
      split at h1
      · cases h1
      · exact h1
  · cases e : H' c with
    | none => rfl
    | some o' =>
      cases hr : o'.isR with
      | true =>
        obtain ⟨O, e'⟩ := r_fre (I.free c o' e) hr
        have := K.base _ _ e'
        rw [x.g] at this; cases this
      | false =>
        have := (of_fre (I.free c o' e) hr).1
        have this : (if c = c then some o else F.g c) = none := this
        rw [if_pos rfl] at this; cases this

theorem Off.back {H' : Hp} {a : Addr} (x : Off (F.also c o) H' a) : Off F H' a := by
  refine ⟨x.h, ?_, x.fr, x.l, x.c⟩
  have : (if a = c then some o else F.g a) = none := x.g
  split at this
  · cases this
  · exact this
theorem Exc.back {H' : Hp} {e C : Addr} {b : Bool} (x : Exc P (F.also c o) H' s e C b) : Exc P F H' s e C b :=
  ⟨x.big, x.off.back, let ⟨T, h1, h2, h3⟩ := x.at_; ⟨T, h1, fun t ht => (h2 t ht).back, h3⟩⟩
end

/-! ## turns -/
structure Turns (P : Pm) (A : Around) (J : Addr) (guard : Hp → Prop) (items : List Value) (St : Nat → Heap → Prop) : Prop where
  at_ : ∀ i h, St i h → ∃ o, h.get? J = some o
  frame : ∀ i h h', St i h → (∀ o, h.get? J = some o → h'.get? J = some o) → St i h'
  item : ∀ i (s : Shared) (Q : Option Value → Shared → Prop) (E : Value → Shared → Prop) (H : Hp), (∀ a o, H a = some o → Mt P s.heap a o) → H J = none → guard H → St i s.heap → ∀ v, items[i]? = some v →
    (∀ V h' tk, er V = v → St (i + 1) h' → (∀ b o, b ≠ J → s.heap.get? b = some o → h'.get? b = some o) → Q (some V) { s with heap := h', toks := tk }) → wpAny P.M A (pyNext (.ref J)) Q E s
  done : ∀ (s : Shared) (Q : Option Value → Shared → Prop) (E : Value → Shared → Prop) (H : Hp), (∀ a o, H a = some o → Mt P s.heap a o) → H J = none → guard H → St items.length s.heap →
    (∀ h' tk, (∀ b o, b ≠ J → s.heap.get? b = some o → h'.get? b = some o) → Q none { s with heap := h', toks := tk }) → wpAny P.M A (pyNext (.ref J)) Q E s
  self : ∀ i (s : Shared) (Q : Value → Shared → Prop) (E : Value → Shared → Prop), St i s.heap → Q (.ref J) s → wpAny P.M A (pyIter (.ref J)) Q E s

theorem turns_list {P : Pm} {A : Around} (hh : A.handled = none) (J a : Addr) (xs : List Value) : Turns P A J (fun H => H a = some (.list xs)) xs (fun i h => h.IsListIter J a i) where
  at_ := fun i h ⟨o, ho, _⟩ => ⟨o, ho⟩
  frame := fun i h h' ⟨o, ho, r⟩ k => ⟨o, k o ho, r⟩
  item := fun i s Q E H mt hJ g st v hv hq => by
    obtain ⟨vs, hl, e, _⟩ := mt a _ g
    have hne : a ≠ J := fun q => by rw [q, hJ] at g; cases g
    rw [← e, List.getElem?_map] at hv
    obtain ⟨V, hV, e2⟩ := Option.map_eq_some_iff.mp hv
    have hi : i < vs.size := by have := (List.getElem?_eq_some_iff.mp hV).1; simpa using this
    refine (Walks.list (prog := P.prog) (w := P.w) hh J a hne vs).item i s Q E hi ⟨st, hl⟩ fun V' h' tk hP st' k => hq V' h' tk ?_ st'.1 fun b o hb => k b o (by simp [hb])
    have : some V' = some V := by rw [← hP]; simpa using hV
    cases this; exact e2
  done := fun s Q E H mt hJ g st hq => by
    obtain ⟨vs, hl, e, _⟩ := mt a _ g
    have hne : a ≠ J := fun q => by rw [q, hJ] at g; cases g
    refine (Walks.list (prog := P.prog) (w := P.w) hh J a hne vs).done s Q E ⟨?_, hl⟩ fun h' tk k => hq h' tk fun b o hb => k b o (by simp [hb])
    have : vs.size = xs.length := by rw [← e]; simp
    rw [this]; exact st
  self := fun i s Q E st hq => wpAny_pyIter_listiter st hq

theorem turns_tup {P : Pm} {A : Around} (hh : A.handled = none) (J a : Addr) (xs : List Value) : Turns P A J (fun H => H a = some (.tup xs)) xs (fun i h => h.IsTupleIter J a i) where
  at_ := fun i h ⟨o, ho, _⟩ => ⟨o, ho⟩
  frame := fun i h h' ⟨o, ho, r⟩ k => ⟨o, k o ho, r⟩
  item := fun i s Q E H mt hJ g st v hv hq => by
    obtain ⟨vs, hl, e, _⟩ := mt a _ g
    have hne : a ≠ J := fun q => by rw [q, hJ] at g; cases g
    rw [← e, List.getElem?_map] at hv
    obtain ⟨V, hV, e2⟩ := Option.map_eq_some_iff.mp hv
    have hi : i < vs.size := by have := (List.getElem?_eq_some_iff.mp hV).1; simpa using this
    refine (Walks.tuple (prog := P.prog) (w := P.w) hh J a hne vs).item i s Q E hi ⟨st, hl⟩ fun V' h' tk hP st' k => hq V' h' tk ?_ st'.1 fun b o hb => k b o (by simp [hb])
    have : some V' = some V := by rw [← hP]; simpa using hV
    cases this; exact e2
  done := fun s Q E H mt hJ g st hq => by
    obtain ⟨vs, hl, e, _⟩ := mt a _ g
    have hne : a ≠ J := fun q => by rw [q, hJ] at g; cases g
    refine (Walks.tuple (prog := P.prog) (w := P.w) hh J a hne vs).done s Q E ⟨?_, hl⟩ fun h' tk k => hq h' tk fun b o hb => k b o (by simp [hb])
    have : vs.size = xs.length := by rw [← e]; simp
    rw [this]; exact st
  self := fun i s Q E st hq => wpAny_pyIter_tupleiter st hq

theorem turns_range {P : Pm} {A : Around} (hh : A.handled = none) (J : Addr) (lo hi st : Int) : Turns P A J (fun _ => True) (rangeL lo hi st) (fun i h => IsRangeIter h J (lo + (i : Nat) * st) (((Builtin.Range.rangeSize lo hi st).toNat : Int) - (i : Nat)) st) where
  at_ := fun i h r => ⟨_, r⟩
  frame := fun i h h' r k => k _ r
  item := fun i s Q E H mt hJ g r v hv hq => by
    have hi : i < (Builtin.Range.rangeSize lo hi st).toNat := by have := (List.getElem?_eq_some_iff.mp hv).1; simpa [rangeL] using this
    refine (Walks.range (prog := P.prog) (w := P.w) hh J lo st _).item i s Q E hi r fun V h' tk hP st' k => hq V h' tk ?_ st' fun b o hb => k b o (by simp [hb])
    obtain ⟨t, rfl⟩ := hP
    simp [rangeL, hi] at hv
    simp [er, hv]
  done := fun s Q E H mt hJ g r hq => by
    have : (rangeL lo hi st).length = (Builtin.Range.rangeSize lo hi st).toNat := by simp [rangeL]
    rw [this] at r
    exact (Walks.range (prog := P.prog) (w := P.w) hh J lo st (Builtin.Range.rangeSize lo hi st).toNat).done s Q E r fun h' tk k => hq h' tk fun b o hb => k b o (by simp [hb])
  self := fun i s Q E r hq => wpAny_pyIter_rangeiter r hq

theorem turns_str {P : Pm} {A : Around} {J : Addr} {x : Str} {St : Nat → Heap → Prop} (W : Walks P.prog P.w A J [J] [J] x.cps.size (SignAt x) St) (hat : ∀ i h, St i h → ∃ o, h.get? J = some o) : Turns P A J (fun _ => True) (x.cps.toList.map fun c => .str (chr1 c) 0) St where
  at_ := hat
  frame := fun i h h' r k => W.frame i h h' r fun b hb o e => by simp at hb; subst hb; exact k o e
  item := fun i s Q E H mt hJ g r v hv hq => by
    have hi : i < x.cps.size := by have := (List.getElem?_eq_some_iff.mp hv).1; simpa using this
    refine W.item i s Q E hi r fun V h' tk hP st' k => hq V h' tk ?_ st' fun b o hb => k b o (by simp [hb])
    obtain ⟨c, u, hc, rfl⟩ := hP
    simp at hv
    obtain ⟨c', hc', rfl⟩ := hv
    rw [hc] at hc'; cases hc'
    rfl
  done := fun s Q E H mt hJ g r hq => by
    refine W.done s Q E (by simpa using r) fun h' tk k => hq h' tk fun b o hb => k b o (by simp [hb])
  self := fun i s Q E r hq => W.self i s Q E r hq

section
variable {P : Pm} {F : Fm} {G : Gx} {n : Nat} {hm : Bool} {l : Loc} {H : Hp} {s : Shared}

theorem s_iter (K : FmOk P F) (I : Inv P F l H s) {E : Value → Shared → Prop} {V : Value} {k : (Hp → Prop) → List Value → Prop} (h : iterV (er V) H k) :
    wpAny P.M F.A (pyIter V) (fun it s' => ∃ guard items J St, k guard items ∧ it = .ref J ∧ Inv P F l H s' ∧ Off F H J ∧ P.base.objs.size ≤ J ∧ St 0 s'.heap ∧ ∀ A : Around, A.handled = none → Turns P A J guard items St) E s := by
  have of := I.ofSize K
  have bz := I.base_le K
  unfold iterV at h
  split at h
  · rename_i x _ e; obtain ⟨t, rfl⟩ := er_str e
    cases ha : x.cps.all (· < 128)
    · exact wpAny_pyIter_wide ha ⟨_, _, _, _, h, rfl, I.push _, of, bz, ⟨_, Heap.get?_push_size _ rfl, rfl, rfl⟩, fun A hA => turns_str (Walks.strWide hA _ x t) fun i h ⟨o, ho, _⟩ => ⟨o, ho⟩⟩
    · exact wpAny_pyIter_ascii ha ⟨_, _, _, _, h, rfl, I.push _, of, bz, ⟨_, Heap.get?_push_size _ rfl, rfl, rfl⟩, fun A hA => turns_str (Walks.strAscii hA _ x t) fun i h ⟨o, ho, _⟩ => ⟨o, ho⟩⟩
  · rename_i a e; have := er_ref e; subst this
    split at h
    · rename_i xs hx
      obtain ⟨vs, hl, _⟩ := I.objs _ _ hx
      exact wpAny_pyIter_list hl ⟨_, _, _, _, h, rfl, I.push _, of, bz, ⟨_, Heap.get?_push_size _ rfl, rfl, rfl⟩, fun A hA => turns_list hA _ a xs⟩
    · rename_i xs hx
      obtain ⟨vs, hl, _⟩ := I.objs _ _ hx
      exact wpAny_pyIter_tuple hl ⟨_, _, _, _, h, rfl, I.push _, of, bz, ⟨_, Heap.get?_push_size _ rfl, rfl, rfl⟩, fun A hA => turns_tup hA _ a xs⟩
    · rename_i lo hi st hx
      obtain ⟨t, u, v, hr⟩ := I.objs _ _ hx
      refine wpAny_pyIter_range hr h.1 ⟨_, _, _, _, h.2, rfl, I.push _, of, bz, ?_, fun A hA => turns_range hA _ lo hi st⟩
      have hz : ((Builtin.Range.rangeSize lo hi st).toNat : Int) = Builtin.Range.rangeSize lo hi st := (rangeSize_toNat lo hi st).symm
      show IsRangeIter _ _ (lo + ((0 : Nat) : Int) * st) (((Builtin.Range.rangeSize lo hi st).toNat : Int) - ((0 : Nat) : Int)) st
      rw [hz]
      have e1 : lo + ((0 : Nat) : Int) * st = lo := by simp
      have e2 : Builtin.Range.rangeSize lo hi st - ((0 : Nat) : Int) = Builtin.Range.rangeSize lo hi st := by simp
      rw [e1, e2]
      exact Heap.get?_push_size _ rfl
    · exact h.elim
  · exact h.elim
end
end Mine
end

section
open PySem PyProof.Rows PySem.Calls
open PySem.W (Looks looks_subIn looks_typeIn looks_mroIn)
namespace Mine

/-! ## statements -/
def PostS (P : Pm) (F : Fm) (Q : QS) : Flow → Shared → Prop := fun f s' => ∃ l' H', Inv P F l' H' s' ∧ (match f with
  | .next => Q .next l' H'
  | .cont => Q .cont l' H'
  | .ret V => Q (.ret (er V)) l' H'
  | .brk => False)
def PostSX (P : Pm) (F : Fm) (X : XS) : Value → Shared → Prop := fun EV s' => ∃ l' H' e C, EV = .ref e ∧ Inv P F l' H' s' ∧ Exc P F H' s' e C false ∧ X C l' H'

section
variable {P : Pm} {F : Fm} {G : Gx} {n : Nat} {hm : Bool} {l : Loc} {H : Hp} {s : Shared}

theorem PostX.toS {X : XS} {V : Value} {s' : Shared} (h : PostX P F l (fun C H' => X C l H') V s') : PostSX P F X V s' :=
  let ⟨H', e, C, q, I, x, z⟩ := h; ⟨l, H', e, C, q, I, x, z⟩

def S1 (P : Pm) (G : Gx) (n : Nat) (hm : Bool) (sc : Scope) (st : Stmt) (st' : Sm) : Prop :=
  ∀ ⦃F : Fm⦄ ⦃l : Loc⦄, FmOk P F → ScOk sc F → Room n F.A → HmOk hm F.A → F.ro = false → ∀ {H : Hp} {s : Shared} {Q : QS} {X : XS}, Inv P F l H s → wpS G hm st' l H Q X → wpAny P.M F.A (exec st F.env) (PostS P F Q) (PostSX P F X) s
def SS (P : Pm) (G : Gx) (n : Nat) (hm : Bool) (sc : Scope) (st : List Stmt) (st' : List Sm) : Prop :=
  ∀ ⦃F : Fm⦄ ⦃l : Loc⦄, FmOk P F → ScOk sc F → Room n F.A → HmOk hm F.A → F.ro = false → ∀ {H : Hp} {s : Shared} {Q : QS} {X : XS}, Inv P F l H s → wpSs G hm st' l H Q X → wpAny P.M F.A (execs st F.env) (PostS P F Q) (PostSX P F X) s

theorem ss_nil {sc : Scope} : SS P G n hm sc [] [] := by
  intro F l K S R HM ro H s Q X I q
  simp only [wpSs] at q
  exact wpAny_execs_nil ⟨l, H, I, q⟩
theorem ss_cons {sc : Scope} {st : Stmt} {st' : Sm} {r : List Stmt} {r' : List Sm} (h : S1 P G n hm sc st st') (hr : SS P G n hm sc r r') : SS P G n hm sc (st :: r) (st' :: r') := by
  intro F l K S R HM ro H s Q X I q
  simp only [wpSs] at q
  refine wpAny_execs_cons (wpAny_mono (h K S R HM ro I q) (fun f s' z => ?_) fun _ _ z => z)
  obtain ⟨l', H', I', z⟩ := z
  cases f with
  | next => exact hr K S R HM ro I' z
  | brk => exact z.elim
  | cont => exact ⟨l', H', I', z⟩
  | ret v => exact ⟨l', H', I', z⟩

def notComp : Expr → Bool
  | .ListComp .. | .SetComp .. | .DictComp .. => false
  | _ => true
theorem swaps_no {v : Expr} {t : Option Expr} {line : Nat} {env : Env} (h : notComp v = true) : swapsWith v t line env = pure false := by
  cases v <;> first | rfl | cases h

theorem s1_expr {sc : Scope} {e : Expr} {e' : Ex} {pos : Pos} (hc : notComp e = true) (h : SE P G n hm sc e e') : S1 P G n hm sc (.Expr e pos) (.expr e') := by
  intro F l K S R HM ro H s Q X I q
  simp only [wpS] at q
  refine wpAny_Expr_any (wpAny_mono (h K S R HM I q) (fun V s' z => ?_) fun _ _ z => PostX.toS z) ?_ (swaps_no hc)
  · obtain ⟨H', I', z⟩ := z
    exact ⟨l, H', I', z⟩
  · unfold interactive; rw [K.kind]; rfl

theorem s1_pass {sc : Scope} {pos : Pos} : S1 P G n hm sc (.Pass pos) .pass := by
  intro F l K S R HM ro H s Q X I q
  simp only [wpS] at q
  exact wpAny_Pass ⟨l, H, I, q⟩
theorem s1_cont {sc : Scope} {pos : Pos} : S1 P G n hm sc (.Continue pos) .cont := by
  intro F l K S R HM ro H s Q X I q
  simp only [wpS] at q
  rw [arm_exec_Continue]
  exact wpAny_bind (wpAny_standAt (wpAny_pure ⟨l, H, I, q⟩))
theorem s1_ret {sc : Scope} {e : Expr} {e' : Ex} {pos : Pos} (h : SE P G n hm sc e e') : S1 P G n hm sc (.Return (some e) pos) (.ret e') := by
  intro F l K S R HM ro H s Q X I q
  simp only [wpS] at q
  rw [arm_exec_Return]
  refine wpAny_bind (wpAny_standAt ?_)
  show wpAny P.M F.A (do return Flow.ret (← eval e F.env)) _ _ s
  refine wpAny_bind (wpAny_mono (h K S R HM I q) (fun V s' z => wpAny_pure ?_) fun _ _ z => PostX.toS z)
  obtain ⟨H', I', z⟩ := z
  exact ⟨l, H', I', z⟩
theorem s1_ret0 {sc : Scope} {pos : Pos} : S1 P G n hm sc (.Return none pos) (.ret .none) := by
  intro F l K S R HM ro H s Q X I q
  simp only [wpS, wpE] at q
  rw [arm_exec_Return]
  refine wpAny_bind (wpAny_standAt ?_)
  exact wpAny_pure ⟨l, H, I, q⟩

/-- a name that may be bound here -/
def isSt (sc : Scope) (x : Str) : Bool := match sc.names.lookup x with
  | some .local | some .cell => true
  | _ => false
theorem st_of {sc : Scope} (S : ScOk sc F) {x : Str} (h : isSt sc x = true) : F.env.kindOf x = some .local ∨ (F.env.kindOf x = some .cell ∧ ∃ c, F.env.cells.lookup x = some c) := by
  unfold isSt at h
  split at h
  · rename_i e; exact .inl (S.locl x e)
  · rename_i e; exact .inr (S.cell x e)
  · cases h

theorem s1_asg {sc : Scope} {x : Str} {p pos : Pos} {e : Expr} {e' : Ex} (hx : isSt sc x = true) (hc : notComp e = true) (h : SE P G n hm sc e e') : S1 P G n hm sc (.Assign [.Name x p] e pos) (.asg x e') := by
  intro F l K S R HM ro H s Q X I q
  simp only [wpS] at q
  refine wpAny_Assign_Name (wpAny_mono (h K S R HM I q) (fun V s' z => ?_) fun _ _ z => PostX.toS z) (swaps_no hc)
  obtain ⟨H', I', z⟩ := z
  exact st_loc K I' ro (st_of S hx) fun s'' I'' => ⟨_, _, I'', z⟩

theorem swaps_attr {v : Expr} {o : Expr} {a : Str} {p : Pos} {line : Nat} {env : Env} : swapsWith v (some (.Attribute o a p)) line env = pure false := by
  cases v <;> rfl
theorem swaps_sub {v : Expr} {o i : Expr} {p : Pos} {line : Nat} {env : Env} : swapsWith v (some (.Subscript o i p)) line env = pure false := by
  cases v <;> rfl

theorem s1_asgAttr (Y : PmOk P) (GO : GxOk P G) {sc : Scope} {o e : Expr} {a : Str} {p pos : Pos} {o' e' : Ex} (ho : SE P G n hm sc o o') (h : SE P G n hm sc e e') : S1 P G n hm sc (.Assign [.Attribute o a p] e pos) (.asgAttr o' a e') := by
  intro F l K S R HM ro H s Q X I q
  simp only [wpS] at q
  refine plainObj_wpAny_Assign_Attribute (wpAny_mono (h K S R HM I q) (fun V s' z => ?_) fun _ _ z => PostX.toS z) swaps_attr
  obtain ⟨H1, I1, z⟩ := z
  refine wpAny_mono (ho K S R HM I1 z) (fun V2 s2 z => ?_) fun _ _ z => PostX.toS z
  obtain ⟨H2, I2, z⟩ := z
  refine wpAny_mono (s_setattr Y GO K I2 rfl rfl z) (fun _ s3 z => ?_) fun _ _ z => z
  obtain ⟨H3, I3, z⟩ := z
  exact ⟨l, H3, I3, z⟩

theorem stored_er {K : Type} [DecidableEq K] (ks : List (K × Value)) (k : K) (v : Value) : (stored ks k v).map (fun p => (p.1, er p.2)) = stored (ks.map fun p => (p.1, er p.2)) k (er v) := by
  unfold stored
  have e1 : (ks.map fun p => (p.1, er p.2)).any (fun kv => decide (kv.1 = k)) = ks.any (fun kv => decide (kv.1 = k)) := by rw [List.any_map]; rfl
  rw [e1]
  split
  · rw [List.map_map, List.map_map]
    apply List.map_congr_left
    intro p _
    by_cases h : p.1 = k <;> simp [h]
  · simp

theorem s_setitem (Y : PmOk P) (I : Inv P F l H s) {E : Value → Shared → Prop} {O J V : Value} {k : Hp → Prop} (h : setItemV (er O) (er J) (er V) H k) : wpAny P.M F.A (setItem O J V) (fun _ s' => ∃ H', Inv P F l H' s' ∧ k H') E s := by
  unfold setItemV at h
  split at h
  · rename_i a i _ e1 e2; have := er_ref e1; subst this; obtain ⟨t, rfl⟩ := er_int e2
    split at h
    · rename_i kvs hx
      obtain ⟨hz, q⟩ := h
      obtain ⟨ks, hd, e⟩ := I.objs _ _ hx
      refine wpAny_setItem_pairs (intKind_is _ _ _ _) hd (fun h' hd' sb => ⟨_, I.put (t := s.toks + 1) (o' := .idict ((stored ks i V).map fun p => (p.1, er p.2))) hx (fun b hb => sb.2 b hb) ⟨_, hd', rfl⟩, ?_⟩) (by rw [← e] at hz; simpa using hz)
      rw [stored_er, e]; exact q
    · exact h.elim
  · rename_i a x _ e1 e2; have := er_ref e1; subst this; obtain ⟨t, rfl⟩ := er_str e2
    split at h
    · rename_i kvs hx
      obtain ⟨hz, q⟩ := h
      obtain ⟨ks, hd, e⟩ := I.objs _ _ hx
      refine wpAny_setItem_pairs (strKind_is _ _ _ _) hd (fun h' hd' sb => ⟨_, I.put (t := s.toks + 1) (o' := .sdict ((stored ks x V).map fun p => (p.1, er p.2))) hx (fun b hb => sb.2 b hb) ⟨_, hd', rfl⟩, ?_⟩) (by rw [← e] at hz; simpa using hz)
      rw [stored_er, e]; exact q
    · rename_i kvs hx
      obtain ⟨hz, q⟩ := h
      obtain ⟨ks, hd, e⟩ := I.objs _ _ hx
      subst hz
      have : ks = [] := by cases ks with | nil => rfl | cons _ _ => simp at e
      subst this
      refine wpAny_setItem_pairs (strKind_is _ _ _ _) (empty_sdict hd) (fun h' hd' sb => ⟨_, I.put (t := s.toks + 1) (o' := .sdict ((stored ([] : List (Str × Value)) x V).map fun p => (p.1, er p.2))) hx (fun b hb => sb.2 b hb) ⟨_, hd', rfl⟩, ?_⟩) (by simp)
      rw [stored_er]; exact q
    · exact h.elim
  · exact h.elim

theorem s1_asgIdx (Y : PmOk P) {sc : Scope} {o i e : Expr} {p pos : Pos} {o' i' e' : Ex} (ho : SE P G n hm sc o o') (hi : SE P G n hm sc i i') (h : SE P G n hm sc e e') : S1 P G n hm sc (.Assign [.Subscript o i p] e pos) (.asgIdx o' i' e') := by
  intro F l K S R HM ro H s Q X I q
  simp only [wpS] at q
  refine wpAny_Assign_Subscript (wpAny_mono (h K S R HM I q) (fun V s' z => ?_) fun _ _ z => PostX.toS z) swaps_sub
  obtain ⟨H1, I1, z⟩ := z
  refine wpAny_mono (ho K S R HM I1 z) (fun V2 s2 z => ?_) fun _ _ z => PostX.toS z
  obtain ⟨H2, I2, z⟩ := z
  refine wpAny_mono (hi K S R HM I2 z) (fun V3 s3 z => ?_) fun _ _ z => PostX.toS z
  obtain ⟨H3, I3, z⟩ := z
  refine wpAny_mono (s_setitem Y I3 z) (fun _ s4 z => ?_) fun _ _ z => z
  obtain ⟨H4, I4, z⟩ := z
  exact ⟨l, H4, I4, z⟩

theorem s1_if {sc : Scope} {c : Expr} {c' : Ex} {t f : List Stmt} {t' f' : List Sm} {pos : Pos} (hc : ST P G n hm sc c c') (ht : SS P G n hm sc t t') (hf : SS P G n hm sc f f') : S1 P G n hm sc (.If c t f pos) (.ite c' t' f') := by
  intro F l K S R HM ro H s Q X I q
  simp only [wpS] at q
  refine wpAny_If (wpAny_mono (hc K S R HM (k := fun b H1 => if b then wpSs G hm t' l H1 Q X else wpSs G hm f' l H1 Q X) I q) (fun b s' z => ?_) fun _ _ z => PostX.toS z)
  obtain ⟨H', I', z⟩ := z
  cases b with
  | true => exact ht K S R HM ro I' z
  | false => exact hf K S R HM ro I' z

/-- an exception leaves a loop's body -/
theorem s_noted (K : FmOk P F) (ro : F.ro = false) {X : XS} {EV : Value} (z : PostSX P F X EV s) : notedBy P.M F.A F.env (fun e s' => cameBackBy P.M F.A F.env (PostSX P F X) e s') EV s := by
  obtain ⟨l', H', e, C, rfl, I, x, z⟩ := z
  exact s_note K I ro x fun s' I' x' => s_cameBack I' x' fun s'' I'' x'' => ⟨l', H', e, C, rfl, I'', x''.weak, z⟩

theorem s1_while {sc : Scope} {c : Expr} {c' : Ex} {b : List Stmt} {b' : List Sm} {pos : Pos} (hc : ST P G n hm sc c c') (hb : SS P G n hm sc b b') : S1 P G n hm sc (.While c b [] pos) (.while_ c' b') := by
  intro F l K S R HM ro H s Q X I q
  simp only [wpS] at q
  obtain ⟨m, q⟩ := q
  refine wpAny_While (codeAny_whileLoop (fun k s => ∃ l H, Inv P F l H s ∧ whileN (fun l' H' K => wpE G hm c' l' H' (fun v H1 => truthV v fun b => K b H1) (fun C H' => X C l' H')) (fun l' H' K => wpSs G hm b' l' H' K X) Q k l H) ?_ m ⟨l, H, I, q⟩)
  rintro k s ⟨l, H, I, q⟩
  cases k with
  | zero => exact q.elim
  | succ k =>
    unfold whileN at q
    refine wpAny_mono (hc K S R HM I q) (fun b s' z => ?_) fun _ _ z => s_noted K ro (PostX.toS z)
    obtain ⟨H', I', z⟩ := z
    cases b with
    | false =>
      simp only [Bool.false_eq_true, if_false] at z ⊢
      exact wpAny_execs_nil ⟨l, H', I', z⟩
    | true =>
      simp only [if_true] at z ⊢
      refine wpAny_mono (hb K S R HM ro I' z) (fun f s' z => ?_) fun _ _ z => s_noted K ro z
      obtain ⟨l2, H2, I2, z⟩ := z
      cases f with
      | next => exact ⟨k, Nat.lt_succ_self _, l2, H2, I2, z⟩
      | cont => exact ⟨k, Nat.lt_succ_self _, l2, H2, I2, z⟩
      | brk => exact z.elim
      | ret v => exact ⟨l2, H2, I2, z⟩

def notSet : Expr → Bool
  | .Set .. => false
  | _ => true
theorem folded_no {e : Expr} {env : Env} {x : Value} (h : notSet e = true) : foldedSetIterable e env x = pure x := by
  cases e <;> first | rfl | cases h

/-- off our things, with an object that stays -/
theorem Inv.turn (K : FmOk P F) (I : Inv P F l H s) {J : Addr} (of : Off F H J) {h' : Heap} {t : Nat} (k : ∀ b o, b ≠ J → s.heap.get? b = some o → h'.get? b = some o) : Inv P F l H { s with heap := h', toks := t } :=
  I.step fun b o e hn => k b o (fun q => hn (q ▸ of)) e

theorem s1_for {sc : Scope} {x : Str} {px pos : Pos} {it : Expr} {it' : Ex} {b : List Stmt} {b' : List Sm} (hx : isSt sc x = true) (hset : notSet it = true) (hi : SE P G n hm sc it it') (hb : SS P G n hm sc b b') :
    S1 P G n hm sc (.For (.Name x px) it b [] pos) (.for_ x it' b') := by
  intro F l K S R HM ro H s Q X I q
  simp only [wpS] at q
  refine wpAny_For (wpAny_mono (hi K S R HM I q) (fun V s1 q => ?_) fun _ _ z => PostX.toS z) (fun _ => folded_no hset)
  obtain ⟨H1, I1, hf, q⟩ := q
  refine wpAny_mono (s_iter K I1 q) (fun it s2 q => ?_) fun _ _ z => z
  obtain ⟨guard, items, J, St, q, rfl, I2, of, bz, st, T⟩ := q
  have T := T F.A (HM hf)
  refine codeAny_forLoop (fun k s => ∃ i l H, Inv P F l H s ∧ Off F H J ∧ St i s.heap ∧ i ≤ items.length ∧ k = items.length - i + 1 ∧ forG guard x (fun l' H' K => wpSs G hm b' l' H' K X) (items.drop i) l H Q) ?_ (items.length + 1) ⟨0, l, H1, I2, of, st, Nat.zero_le _, rfl, q⟩
  rintro k s ⟨i, l, H, I, of, st, hle, hk, q⟩
  rcases Nat.lt_or_ge i items.length with hi | hi
  · obtain ⟨v, hv⟩ : ∃ v, items[i]? = some v := ⟨_, List.getElem?_eq_getElem hi⟩
    have hd : items.drop i = v :: items.drop (i + 1) := by
      rw [List.drop_eq_getElem_cons hi]
      have := List.getElem?_eq_getElem hi
      rw [hv] at this; cases this; rfl
    rw [hd] at q
    unfold forG at q
    obtain ⟨g, q⟩ := q
    refine T.item i s _ _ H I.objs of.h g st v hv fun V h' tk hV st' k' => ?_
    have I' := I.turn (t := tk) K of k'
    obtain ⟨o, ho⟩ := T.at_ _ _ st'
    dsimp only
    have KA := K.also (o := o) of
    have SA : ScOk sc (F.also J o) := ⟨S.loc, S.glob, S.locl, S.cell⟩
    refine wpAny_assign_Name (st_loc KA (I'.also of ho) ro (st_of SA hx) fun s3 I3 => ?_)
    rw [hV] at I3
    refine wpAny_mono (hb KA SA R HM ro I3 q) (fun f s4 z => ?_) fun EV s4 z => ?_
    · obtain ⟨l4, H4, I4, z⟩ := z
      obtain ⟨I5, ho5, of5⟩ := I4.back K of
      have st5 : St (i + 1) s4.heap := T.frame _ _ _ st' fun o' e => by rw [ho] at e; cases e; exact ho5
      have nx : forG guard x (fun l' H' K => wpSs G hm b' l' H' K X) (items.drop (i + 1)) l4 H4 Q → ∃ m, m < k ∧ ∃ i l H, Inv P F l H s4 ∧ Off F H J ∧ St i s4.heap ∧ i ≤ items.length ∧ m = items.length - i + 1 ∧ forG guard x (fun l' H' K => wpSs G hm b' l' H' K X) (items.drop i) l H Q :=
        fun q => ⟨items.length - (i + 1) + 1, by omega, i + 1, l4, H4, I5, of5, st5, hi, rfl, q⟩
      cases f with
      | next => exact nx z
      | cont => exact nx z
      | brk => exact z.elim
      | ret v => exact ⟨l4, H4, I5, z⟩
    · obtain ⟨l', H', e, C, rfl, I4, x4, z⟩ := z
      exact s_noted K ro ⟨l', H', e, C, rfl, (I4.back K of).1, x4.back, z⟩
  · have : i = items.length := Nat.le_antisymm hle hi
    subst this
    rw [List.drop_length] at q
    unfold forG at q
    refine T.done s _ _ H I.objs of.h q.1 st fun h' tk k' => wpAny_execs_nil ⟨l, H, I.turn K of k', q.2⟩
end
end Mine
end

section
open PySem PyProof.Rows PySem.Calls
open PySem.W (Looks looks_subIn looks_typeIn looks_mroIn)
namespace Mine

section
variable {P : Pm} {F : Fm} {G : Gx} {n : Nat} {hm : Bool} {l : Loc} {H : Hp} {s : Shared}

theorem s1_raise (Y : PmOk P) (GO : GxOk P G) {sc : Scope} {x m : Str} {np cpos pos mp : Pos} {kk : Nat} (hl : isLoc sc x = some false) : S1 P G n hm sc (.Raise (some (.Call (.Name x np) [.Constant (.str m) kk mp] [] cpos)) none pos) (.raise x) := by
  intro F l K S R HM ro H s Q X I q
  simp only [wpS] at q
  obtain ⟨hmf, q⟩ := q
  split at q
  · rename_i C hC
    obtain ⟨he, q⟩ := q
    obtain ⟨V, hV, hg⟩ := GO.glob x _ hC
    have := er_ref hV; subst this
    obtain ⟨bm, N, nm, qn, bs, hdct, sn, sub, ab, col, dd, k0, k1, k2, k3, k5, mN, c1, c2, c3, c4⟩ := GO.own C he
    have FB := PySem.F.excBase_ValueError
    refine wpAny_Raise_call_subT (C := C) (nm := nm) (q := qn) (N := N) (bs := bs) (bm := bm) (hdct := hdct) (sn := sn) (sub := sub) (ab := ab) (col := col) (dd := dd) (k0 := k0) (k1 := k1) (k2 := k2) (k3 := k3) (k5 := k5)
      FB (mN := mN) (c4.hasType FB.hasBase) (HM hmf) (backTo_plain rfl) c3 (ld_glob Y K I hg (S.glob x hl) (isLoc_false hl) ⟨rfl, ?_⟩)
    refine evalArgs_any rfl (spliced_cons (wpAny_Constant_str (k := kk) (pos := mp) (spliced_nil ?_)))
    have k : ∀ b o, P.base.get? b = some o → s.heap.get? b = some o := fun b o e => I.keep b o (K.base b o e)
    refine ⟨rfl, by simp [sizeLine], k _ _ c1, c2.keeps k, c4.keeps k, fun h' e M => ?_⟩
    obtain ⟨t, m1, m2, m3⟩ := M.there
    refine ⟨l, H, e, C, rfl, I.step (t := s.toks + 1) fun b o hb _ => M.keeps b o hb, ⟨trivial, I.off K M.new, none, ⟨_, _, m1, rfl, rfl, rfl, rfl⟩, fun t q => (nomatch q), fun q => (nomatch q)⟩, q⟩
  · exact q.elim

/-! ## try -/
theorem s_matches (Y : PmOk P) (GO : GxOk P G) (K : FmOk P F) (I : Inv P F l H s) {A : Around} {E : Value → Shared → Prop} {e C D : Addr} {b : Bool} (x : Exc P F H s e C b) (hc : G.isExc C = true) (hd : G.isExc D = true) {Q : Bool → Shared → Prop} (h : Q (G.sub C D) s) :
    wpAny P.M A (excMatches (.ref e) (.ref D)) Q E s := by
  have X := I.kin Y K
  obtain ⟨T, ⟨oe, vs, h1, h2, h3, h5, h4⟩, _⟩ := x.at_
  have LT : Looks P.M s.heap (typeOf (.ref D)) (.type "type") := looks_typeIn X (GO.exc D hd).ty
  have L1 : Looks P.M s.heap (isInstance (.ref D) (.type "tuple")) false := LT.andThen (Looks.of_pure (by rw [isSubtype_type]; kernel_rfl))
  have L2 : Looks P.M s.heap (isExcClass (.ref D)) true := by
    have a := (ask_own _ (GO.exc D hd)).is P.M _ X
    unfold isExcClass
    exact a.andThen (looks_mroIn X (GO.exc D hd).be)
  have L3 : Looks P.M s.heap (typeOf (.ref e)) (.ref C) := by
    have II : PySem.W.InstAt s.heap e oe C none := ⟨h1, h2, by unfold PySem.W.notCls; rw [h3], by rw [h5]; trivial⟩
    exact II.type
  have L4 := looks_subIn (M := P.M) X (GO.sub C D hc hd)
  obtain ⟨hh, g, d, t, os⟩ := s
  unfold excMatches
  refine wpAny_bind (L1.at ?_)
  simp only [Bool.false_eq_true, if_false]
  refine wpAny_bind (wpAny_pure ?_)
  simp only [List.forIn_cons, List.forIn_nil, bind_assoc, pure_bind]
  refine wpAny_bind (L2.at ?_)
  simp only [Bool.not_true, Bool.false_eq_true, if_false]
  refine wpAny_bind (wpAny_pure (wpAny_bind (wpAny_pure (wpAny_bind (L3.at (wpAny_bind (L4.at ?_)))))))
  cases hb : G.sub C D with
  | true =>
    rw [hb] at h
    exact wpAny_bind (wpAny_pure (wpAny_bind (wpAny_pure (wpAny_pure h))))
  | false =>
    rw [hb] at h
    exact wpAny_bind (wpAny_pure (wpAny_bind (wpAny_pure (wpAny_pure h))))

theorem s_passOn (I : Inv P F l H s) {α : Type} {e C : Addr} (x : Exc P F H s e C true) {what : String} {Q : α → Shared → Prop} {E : Value → Shared → Prop} (h : ∀ s', Inv P F l H s' → Exc P F H s' e C true → E (.ref e) s') :
    wpAny P.M F.A (PySem.passOn (α := α) what (.ref e) F.env) Q E s := by
  obtain ⟨T, ha, ht, hbt⟩ := x.at_
  obtain ⟨oe, vs, h1, h2, h3, h5, h4⟩ := ha
  unfold PySem.passOn
  cases T with
  | none => simp at hbt
  | some t =>
    obtain ⟨a1, a2, r⟩ := h4
    refine wpAny_bind (wpAny_field h1 h3 a1 ?_)
    rw [if_neg (by simp)]
    exact wpAny_bind (s_flight I x fun s' I' x' => wpAny_throw (h s' I' x'))

theorem mark_frames (A : Around) (h : Option Value) : (A.mark h).frames = A.frames := rfl

/-- the handlers, as they stand -/
inductive SH (P : Pm) (G : Gx) (n : Nat) (sc : Scope) : List ExceptHandler → List Hd → Prop where
  | nil : SH P G n sc [] []
  | plain {x : Str} {xp pos : Pos} {b₀ : Stmt} {body : List Stmt} {body' : List Sm} {r : List ExceptHandler} {r' : List Hd} : isLoc sc x = some false → SS P G n true sc (b₀ :: body) body' → SH P G n sc r r' →
      SH P G n sc (.ExceptHandler (some (.Name x xp)) none (b₀ :: body) pos :: r) (.mk x none body' :: r')
  | as {x y : Str} {xp pos : Pos} {b₀ : Stmt} {body : List Stmt} {body' : List Sm} {r : List ExceptHandler} {r' : List Hd} : isLoc sc x = some false → sc.names.lookup y = some .local → SS P G n true sc (b₀ :: body) body' → SH P G n sc r r' →
      SH P G n sc (.ExceptHandler (some (.Name x xp)) (some y) (b₀ :: body) pos :: r) (.mk x (some y) body' :: r')

theorem Exc.withA {A : Around} {e C : Addr} {b : Bool} (x : Exc P F H s e C b) : Exc P { F with A := A } H s e C b := ⟨x.big, ⟨x.off.h, x.off.g, x.off.fr, x.off.l, x.off.c⟩, let ⟨T, h1, h2, h3⟩ := x.at_; ⟨T, h1, fun t ht => let z := h2 t ht; ⟨z.h, z.g, z.fr, z.l, z.c⟩, h3⟩⟩

theorem Exc.mt {e C : Addr} {b : Bool} (x : Exc P F H s e C b) : Mt P s.heap e (.exc C) := by
  obtain ⟨T, ⟨oe, vs, h1, h2, h3, h5, h4⟩, _⟩ := x.at_
  obtain ⟨c, d, dt, sl⟩ := oe
  simp only at h2 h3 h5
  subst h2 h3 h5
  exact ⟨vs, sl, h1⟩

theorem s_unbind (K : FmOk P F) (I : Inv P F l H s) (ro : F.ro = false) {y : Str} (hy : F.env.kindOf y = some .local) {pos : Pos} {E : Value → Shared → Prop} {Q : Unit → Shared → Prop} (h : ∀ s', Inv P F (l.del y) H s' → Q () s') :
    wpAny P.M F.A (do bindName F.env y .none; unbindBehindTheSuite F.env y pos) Q E s := by
  refine wpAny_bind (wpAny_bindName (st_loc K I ro (.inl hy) fun s1 I1 => ?_))
  unfold unbindBehindTheSuite
  obtain ⟨m, hn, hm⟩ := I1.loc
  obtain ⟨V, hV, _⟩ := hm y .none (by simp [Loc.upd, er]) hy
  refine wpAny_onRaise (wpAny_unbindName_local hy hn hV (by rw [K.kind]; rfl) fun h' u hn' sb => h _ ?_)
  refine I1.stepL (t := s1.toks) (fun b o e hb _ => sb.extBut b o hb e) hn' K (fun x v hx hk => ?_) fun x v hx hk => ?_
  · by_cases q : x = y
    · simp [Loc.del, q] at hx
    · simp [Loc.del, q] at hx
      simp only [if_neg q]
      exact hm x v (by simpa [Loc.upd, q] using hx) hk
  · by_cases q : x = y
    · simp [Loc.del, q] at hx
    · simpa [Loc.upd, Loc.del, q] using hx

theorem s_handle (Y : PmOk P) (GO : GxOk P G) {sc : Scope} {hs : List ExceptHandler} {hs' : List Hd} (h : SH P G n sc hs hs') (K : FmOk P F) (S : ScOk sc F) (R : Room n F.A) (hh : F.A.handled = none) (ro : F.ro = false) {e C : Addr} (hc : G.isExc C = true) {Q : QS} {X : XS} :
    ∀ {l H s}, Inv P F l H s → Exc P F H s e C true → wpH G hs' C l H Q X → wpAny P.M F.A (handleBy (.ref e) F.env hs) (PostS P F Q) (PostSX P F X) s := by
  induction h with
  | nil =>
    intro l H s I x q
    simp only [wpH] at q
    exact wpAny_handleBy_nil (s_passOn I x fun s' I' x' => ⟨l, H, e, C, rfl, I', x'.weak, q⟩)
  | @plain y xp pos b₀ body body' r r' hy hb hr ih =>
    intro l H s I x q
    simp only [wpH] at q
    split at q
    · rename_i D hD
      obtain ⟨V, hV, hg⟩ := GO.glob y _ hD
      have := er_ref hV; subst this
      have KM : FmOk P { F with A := F.A.mark (some (.ref e)) } := K.withA rfl
      refine wpAny_handleBy_cons (codeAny_handlers_test ?_) (by intro q; cases q)
      obtain ⟨hdD, q⟩ := q
      refine ld_glob (F := { F with A := F.A.mark (some (.ref e)) }) Y KM (I.withA _) hg (S.glob y hy) (isLoc_false hy) (s_matches Y GO K I x hc hdD ?_)
      cases hsub : G.sub C D with
      | false =>
        rw [hsub] at q
        exact ih I x q
      | true =>
        rw [hsub] at q
        simp only [if_true] at q ⊢
        refine codeAny_handlers_suite (s_flight (F := { F with A := F.A.mark (some (.ref e)) }) (I.withA _) x.withA fun s1 I1 x1 => ?_)
        refine wpAny_mono (hb KM ⟨S.loc, S.glob, S.locl, S.cell⟩ R (fun z => nomatch z) ro I1 q) (fun f s2 z => ?_) fun EV s2 z => ?_
        · obtain ⟨l2, H2, I2, z⟩ := z
          exact ⟨l2, H2, I2.ofA, z⟩
        · obtain ⟨_, _, _, _, _, _, _, z⟩ := z
          exact z.elim
    · exact q.elim
  | @as x y xp pos b₀ body body' r r' hx hy hb hr ih =>
    intro l H s I ex q
    simp only [wpH] at q
    split at q
    · rename_i D hD
      obtain ⟨V, hV, hg⟩ := GO.glob x _ hD
      have := er_ref hV; subst this
      have KM : FmOk P { F with A := F.A.mark (some (.ref e)) } := K.withA rfl
      refine wpAny_handleBy_cons (codeAny_handlers_test ?_) (by intro q; cases q)
      obtain ⟨hdD, q⟩ := q
      refine ld_glob (F := { F with A := F.A.mark (some (.ref e)) }) Y KM (I.withA _) hg (S.glob x hx) (isLoc_false hx) (s_matches Y GO K I ex hc hdD ?_)
      cases hsub : G.sub C D with
      | false =>
        rw [hsub] at q
        exact ih I ex q
      | true =>
        rw [hsub] at q
        simp only [if_true] at q ⊢
        refine codeAny_handlers_suite_as (s_flight (F := { F with A := F.A.mark (some (.ref e)) }) (I.withA _) ex.withA fun s1 I1 x1 => ?_)
        refine st_loc (F := { F with A := F.A.mark (some (.ref e)) }) KM (I1.track (o := .exc C) x1.off trivial x1.mt) ro (.inl (S.locl y hy)) fun s2 I2 => ?_
        refine wpAny_mono (hb KM ⟨S.loc, S.glob, S.locl, S.cell⟩ R (fun z => nomatch z) ro I2 (q e x1.off.h)) (fun f s3 z => ?_) fun EV s3 z => ?_
        · obtain ⟨l3, H3, I3, z⟩ := z
          refine s_unbind K I3.ofA ro (S.locl y hy) fun s4 I4 => ⟨_, _, I4, ?_⟩
          cases f <;> exact z
        · obtain ⟨_, _, _, _, _, _, _, z⟩ := z
          exact z.elim
    · exact q.elim

theorem s1_try (Y : PmOk P) (GO : GxOk P G) {sc : Scope} {body : List Stmt} {body' : List Sm} {h₀ : ExceptHandler} {hs : List ExceptHandler} {hs' : List Hd} {pos : Pos} (hb : SS P G n hm sc body body') (hh : SH P G n sc (h₀ :: hs) hs') :
    S1 P G n hm sc (.Try body (h₀ :: hs) [] [] pos) (.try_ body' hs') := by
  intro F l K S R HM ro H s Q X I q
  simp only [wpS] at q
  refine wpAny_Try_except (wpAny_mono (hb K S R HM ro I q) (fun f s1 z => ?_) fun EV s1 z => ?_)
  · obtain ⟨l1, H1, I1, z⟩ := z
    cases f with
    | next => exact wpAny_execs_nil ⟨l1, H1, I1, z⟩
    | brk => exact z.elim
    | cont => exact ⟨l1, H1, I1, z⟩
    | ret v => exact ⟨l1, H1, I1, z⟩
  · obtain ⟨l1, H1, e, C, rfl, I1, x1, hf, hc, z⟩ := z
    refine s_note K I1 ro x1 fun s2 I2 x2 => s_flight I2 x2 fun s3 I3 x3 => ?_
    exact s_handle Y GO hh K S R (HM hf) ro hc I3 x3 z
end
end Mine
end

section
open PySem PyProof.Rows PySem.Calls
namespace Mine

/-! ## a call of a def of one's own -/
def isCell (F : Fm) (b : Addr) : Bool := F.env.cells.any fun x => x.2 == b
theorem isCell_mem {F : Fm} {x : Str} {c : Addr} (h : (x, c) ∈ F.env.cells) : isCell F c = true := by
  unfold isCell
  exact List.any_eq_true.mpr ⟨_, h, by simp⟩
theorem mem_isCell {F : Fm} {c : Addr} (h : isCell F c = true) : ∃ x, (x, c) ∈ F.env.cells := by
  unfold isCell at h
  obtain ⟨⟨x, c'⟩, hm, e⟩ := List.any_eq_true.mp h
  have : c' = c := by simpa using e
  subst this; exact ⟨x, hm⟩

/-- the frame of a call -/
def Fm.call (F : Fm) (h : Heap) (env : Env) : Fm where
  env := env
  A := F.A.deeper env
  g := fun b => if isCell F b then h.get? b else F.g b
  fr := fun b => if b = F.env.locals then (h.get? b).map (·.data) else F.fr b
  ro := false

def scFine (sc : Scope) (params : List Str) : Bool :=
  sc.kind == .function && !sc.isCoroutine && !sc.isGenerator && (sc.names.map (·.1)).Nodup && sc.names.all (fun x => x.2 != .free) && params.all (fun x => sc.names.lookup x == some .local || sc.names.lookup x == some .cell) && params.Nodup

structure FnAt (P : Pm) (f : Addr) (params : List Str) (sc : Scope) (body : List Stmt) : Prop where
  at_ : ∃ o fd, P.base.get? f = some o ∧ o.data = .func fd ∧ P.base.CodeRec fd.code fd.qualname ∧ fd.body = .stmts body ∧ fd.scope = sc ∧ fd.closure = [] ∧ fd.globals = mainGlobals ∧ fd.builtins = builtinsNs ∧
    ∀ vals, vals.length = params.length → bindArgs fd ⟨vals, []⟩ = pure (params.zip vals)
  fine : scFine sc params = true
  keep : PySem.W.keepIn P.K (.ref f) = true

/-! the cells -/
theorem cells_lookup_acc {x : Str} : ∀ (names : List (Str × NameKind)) (k : Nat) (acc : List (Str × Addr)), (∃ c, acc.lookup x = some c) → ∃ c, (cellsFrom k names acc).lookup x = some c
  | [], k, acc, h => h
  | (y, kind) :: r, k, acc, h => by
    unfold cellsFrom
    split
    · refine cells_lookup_acc r _ _ ?_
      rw [List.lookup_cons]
      split
      · exact ⟨_, rfl⟩
      · exact h
    · exact cells_lookup_acc r _ _ h
theorem cells_lookup {x : Str} : ∀ (names : List (Str × NameKind)) (k : Nat) (acc : List (Str × Addr)), names.lookup x = some .cell → ∃ c, (cellsFrom k names acc).lookup x = some c
  | [], k, acc, h => by cases h
  | (y, kind) :: r, k, acc, h => by
    rw [List.lookup_cons] at h
    unfold cellsFrom
    split at h
    · rename_i e
      cases h
      rw [if_pos (by decide)]
      refine cells_lookup_acc r _ _ ⟨k, ?_⟩
      rw [List.lookup_cons, e]
    · split
      · exact cells_lookup r _ _ h
      · exact cells_lookup r _ _ h

theorem cells_names : ∀ (names : List (Str × NameKind)) (k : Nat) (acc : List (Str × Addr)), (names.map (·.1)).Nodup → (acc.map (·.1)).Nodup → (∀ x ∈ names.map (·.1), x ∉ acc.map (·.1)) → ((cellsFrom k names acc).map (·.1)).Nodup
  | [], k, acc, _, h, _ => h
  | (y, kind) :: r, k, acc, hn, h, hd => by
    rw [List.map_cons, List.nodup_cons] at hn
    unfold cellsFrom
    split
    · refine cells_names r _ _ hn.2 ?_ ?_
      · rw [List.map_cons, List.nodup_cons]
        exact ⟨hd y (by simp), h⟩
      · intro x hx hm
        rw [List.map_cons, List.mem_cons] at hm
        rcases hm with rfl | hm
        · exact hn.1 hx
        · exact hd x (by rw [List.map_cons]; exact .tail _ hx) hm
    · exact cells_names r _ _ hn.2 h fun x hx => hd x (by rw [List.map_cons]; exact .tail _ hx)
theorem lookup_of_mem {α : Type} {x : Str} {c : α} : ∀ {l : List (Str × α)}, (l.map (·.1)).Nodup → (x, c) ∈ l → l.lookup x = some c
  | (y, d) :: r, hn, hm => by
    rw [List.map_cons, List.nodup_cons] at hn
    rw [List.lookup_cons]
    rcases List.mem_cons.mp hm with q | q
    · cases q; simp
    · have : (x == y) = false := by
        apply beq_eq_false_iff_ne.mpr
        intro e
        exact hn.1 (List.mem_map.mpr ⟨(x, c), q, e⟩)
      rw [this]
      exact lookup_of_mem hn.2 q

/-! what is bound -/
theorem bindL_get {k : Str → Option NameKind} {x : Str} (hk : k x = some .local) : ∀ (ps : List Str) (vs : List Value) (m : Str → Option Value), ps.Nodup → ∀ v, ((ps.zip (vs.map er)).lookup x = some v → ∃ V, bindL k (ps.zip vs) m x = some V ∧ er V = v) ∧ ((ps.zip vs).lookup x = none → bindL k (ps.zip vs) m x = m x)
  | [], vs, m, _, v => ⟨fun h => by simp at h, fun _ => rfl⟩
  | p :: ps, [], m, _, v => ⟨fun h => by simp at h, fun _ => rfl⟩
  | p :: ps, V :: vs, m, hn, v => by
    rw [List.nodup_cons] at hn
    obtain ⟨h1, h2⟩ := bindL_get hk ps vs (if k p = some .local then fun y => if y = p then some V else m y else m) hn.2 v
    constructor
    · intro h
      rw [List.map_cons, List.zip_cons_cons, List.lookup_cons] at h
      show ∃ W, bindL k (ps.zip vs) (if k p = some .local then fun y => if y = p then some V else m y else m) x = some W ∧ _
      split at h
      · rename_i e
        have : x = p := by simpa using e
        subst this
        cases h
        have no : (ps.zip vs).lookup x = none := by
          apply List.lookup_eq_none_iff.mpr
          intro q hq
          have := (List.of_mem_zip hq).1
          refine bne_iff_ne.mpr ?_
          rintro rfl
          exact hn.1 this
        have := (bindL_get hk ps vs (if k x = some .local then fun y => if y = x then some V else m y else m) hn.2 (er V)).2 no
        rw [this, if_pos hk]
        exact ⟨V, by simp, rfl⟩
      · exact h1 h
    · intro h
      rw [List.zip_cons_cons, List.lookup_cons] at h
      show bindL k (ps.zip vs) (if k p = some .local then fun y => if y = p then some V else m y else m) x = m x
      split at h
      · cases h
      · rename_i e
        rw [h2 h]
        have : x ≠ p := by simpa using e
        split
        · simp [this]
        · rfl
theorem bindC_get {k : Str → Option NameKind} {x : Str} (hk : k x ≠ some .local) : ∀ (ps : List Str) (vs : List Value) (m : Str → Option Value), ps.Nodup → ∀ v, ((ps.zip (vs.map er)).lookup x = some v → ∃ V, bindC k (ps.zip vs) m x = some V ∧ er V = v) ∧ ((ps.zip vs).lookup x = none → bindC k (ps.zip vs) m x = m x)
  | [], vs, m, _, v => ⟨fun h => by simp at h, fun _ => rfl⟩
  | p :: ps, [], m, _, v => ⟨fun h => by simp at h, fun _ => rfl⟩
  | p :: ps, V :: vs, m, hn, v => by
    rw [List.nodup_cons] at hn
    obtain ⟨h1, h2⟩ := bindC_get hk ps vs (if k p = some .local then m else fun y => if y = p then some V else m y) hn.2 v
    constructor
    · intro h
      rw [List.map_cons, List.zip_cons_cons, List.lookup_cons] at h
      show ∃ W, bindC k (ps.zip vs) (if k p = some .local then m else fun y => if y = p then some V else m y) x = some W ∧ _
      split at h
      · rename_i e
        have : x = p := by simpa using e
        subst this
        cases h
        have no : (ps.zip vs).lookup x = none := by
          apply List.lookup_eq_none_iff.mpr
          intro q hq
          have := (List.of_mem_zip hq).1
          refine bne_iff_ne.mpr ?_
          rintro rfl
          exact hn.1 this
        have := (bindC_get hk ps vs (if k x = some .local then m else fun y => if y = x then some V else m y) hn.2 (er V)).2 no
        rw [this, if_neg hk]
        exact ⟨V, by simp, rfl⟩
      · exact h1 h
    · intro h
      rw [List.zip_cons_cons, List.lookup_cons] at h
      show bindC k (ps.zip vs) (if k p = some .local then m else fun y => if y = p then some V else m y) x = m x
      split at h
      · cases h
      · rename_i e
        rw [h2 h]
        have : x ≠ p := by simpa using e
        split
        · rfl
        · simp [this]

section
variable {P : Pm} {F : Fm} {G : Gx} {n : Nat} {hm : Bool} {l : Loc} {H : Hp} {s : Shared}

theorem call_frame (K : FmOk P F) (I : Inv P F l H s) {env : Env} (hk : env.scope.kind = .function) (hg : env.globals = mainGlobals) (hb : env.builtins = builtinsNs) (hL : env.locals = s.heap.objs.size) (hf : env.frame = some env.locals)
    (ab : ∀ x c, (x, c) ∈ env.cells → env.locals < c) (ap : env.cells.Pairwise fun x y => x.2 ≠ y.2) (cn : ∀ x c, (x, c) ∈ env.cells → env.cells.lookup x = some c) : FmOk P (F.call s.heap env) := by
  have nn : ∀ b, s.heap.objs.size ≤ b → s.heap.get? b = none := fun b hb => Heap.get?_none_of_le hb
  have g0 : ∀ b, s.heap.objs.size ≤ b → (F.call s.heap env).g b = none := fun b hb => by
    show (if isCell F b then s.heap.get? b else F.g b) = none
    split
    · exact nn b hb
    · exact (I.off K (nn b hb)).g
  have f0 : ∀ b, s.heap.objs.size ≤ b → (F.call s.heap env).fr b = none := fun b hb => by
    show (if b = F.env.locals then (s.heap.get? b).map (·.data) else F.fr b) = none
    rw [if_neg (I.off K (nn b hb)).l]
    exact (I.off K (nn b hb)).fr
  refine ⟨hk, hg, hb, fun b o e => ?_, ?_, ?_, ?_, fun x c hm => Nat.ne_of_gt (ab x c hm), fun _ x c hm => ⟨g0 c ?_, f0 c ?_⟩, ap, cn, fun x c hm => f0 c ?_, fun b d e => ?_, ?_⟩
  · show (if isCell F b then s.heap.get? b else F.g b) = some o
    split
    · exact I.keep b o (K.base b o e)
    · exact K.base b o e
  · show P.base.objs.size ≤ env.locals
    rw [hL]; exact I.base_le K
  · exact g0 _ (by show s.heap.objs.size ≤ env.locals; rw [hL]; exact Nat.le_refl _)
  · exact f0 _ (by show s.heap.objs.size ≤ env.locals; rw [hL]; exact Nat.le_refl _)
  · have := ab x c hm; rw [hL] at this; exact Nat.le_of_lt this
  · have := ab x c hm; rw [hL] at this; exact Nat.le_of_lt this
  · have := ab x c hm; rw [hL] at this; exact Nat.le_of_lt this
  · have e : (if b = F.env.locals then (s.heap.get? b).map (·.data) else F.fr b) = some d := e
    show (if isCell F b then s.heap.get? b else F.g b) = none ∧ _
    by_cases q : b = F.env.locals
    · rw [if_pos q] at e
      subst q
      constructor
      · split
        · rename_i hc
          obtain ⟨x, hm⟩ := mem_isCell hc
          exact absurd rfl (K.cl x _ hm)
        · exact K.lg
      · obtain ⟨m, ⟨o, es, ep, ho, hd, _⟩, _⟩ := I.loc
        rw [ho] at e
        cases e
        intro vs q
        have q : o.data = .fields vs := q
        rw [hd] at q; cases q
    · rw [if_neg q] at e
      obtain ⟨h1, h2⟩ := K.fg b d e
      refine ⟨?_, h2⟩
      split
      · rename_i hc
        obtain ⟨x, hm⟩ := mem_isCell hc
        rw [K.cf x b hm] at e; cases e
      · exact h1
  · obtain ⟨fenv, outer, h1, h2, h3⟩ := K.frames
    refine ⟨env, fenv :: outer, ?_, fun _ => ⟨rfl, hf⟩, fun e he => ?_⟩
    · show F.A.frames.map (env :: ·) = _
      rw [h1]; rfl
    · rcases List.mem_cons.mp he with rfl | he
      · exact ⟨by rw [hk]; decide, _, hf, .inl rfl⟩
      · obtain ⟨k1, b, k2, k3⟩ := h3 e he
        refine ⟨k1, b, k2, .inr ?_⟩
        show ((if b = F.env.locals then (s.heap.get? b).map (·.data) else F.fr b)).isSome = true
        obtain ⟨m, ⟨o, es, ep, ho, hd, _⟩, _⟩ := I.loc
        rcases k3 with rfl | k3
        · rw [if_pos rfl, ho]; rfl
        · split
          · rename_i q; rw [q, ho]; rfl
          · exact k3

theorem Off.up (K : FmOk P F) {l0 : Loc} {H0 : Hp} (I : Inv P F l0 H0 s) {env : Env} {H' : Hp} {a : Addr} (x : Off (F.call s.heap env) H' a) : Off F H' a := by
  have gx : (if isCell F a then s.heap.get? a else F.g a) = none := x.g
  have fx : (if a = F.env.locals then (s.heap.get? a).map (·.data) else F.fr a) = none := x.fr
  have c0 : ∀ y c, (y, c) ∈ F.env.cells → a ≠ c := by
    rintro y c hm rfl
    rw [if_pos (isCell_mem hm)] at gx
    obtain ⟨vo, ⟨o, ho, _⟩, _⟩ := I.cel y a (K.cn y a hm)
    rw [ho] at gx; cases gx
  have l0 : a ≠ F.env.locals := by
    rintro rfl
    obtain ⟨m, ⟨o, es, ep, ho, hd, _⟩, _⟩ := I.loc
    rw [if_pos rfl, ho] at fx; cases fx
  refine ⟨x.h, ?_, ?_, l0, c0⟩
  · split at gx
    · rename_i hc
      obtain ⟨y, hm⟩ := mem_isCell hc
      exact absurd rfl (c0 y a hm)
    · exact gx
  · rw [if_neg l0] at fx; exact fx

theorem Exc.up (K : FmOk P F) {l0 : Loc} {H0 : Hp} (I : Inv P F l0 H0 s) {env : Env} {H' : Hp} {s' : Shared} {e C : Addr} {b : Bool} (x : Exc P (F.call s.heap env) H' s' e C b) : Exc P F H' s' e C b :=
  ⟨x.big, x.off.up K I, let ⟨T, h1, h2, h3⟩ := x.at_; ⟨T, h1, fun t ht => (h2 t ht).up K I, h3⟩⟩

theorem Inv.up (K : FmOk P F) (I : Inv P F l H s) {env : Env} {l' : Loc} {H' : Hp} {s' : Shared} (I' : Inv P (F.call s.heap env) l' H' s') : Inv P F l H' s' := by
  have gc : ∀ y c, (y, c) ∈ F.env.cells → s'.heap.get? c = s.heap.get? c := fun y c hm => by
    obtain ⟨vo, ⟨o, ho, _⟩, _⟩ := I.cel y c (K.cn y c hm)
    rw [ho]
    refine I'.keep c o ?_
    show (if isCell F c then s.heap.get? c else F.g c) = some o
    rw [if_pos (isCell_mem hm)]; exact ho
  refine ⟨I'.gens, I'.os, fun b o e => I'.keep b o ?_, fun b d e => I'.frk b d ?_, ?_, fun x c e => ?_, I'.objs, fun a o e => ?_, I'.big⟩
  · show (if isCell F b then s.heap.get? b else F.g b) = some o
    split
    · exact I.keep b o e
    · exact e
  · show (if b = F.env.locals then (s.heap.get? b).map (·.data) else F.fr b) = some d
    rw [if_neg (fun q => by rw [q, K.lf] at e; cases e)]; exact e
  · obtain ⟨m, ⟨o, es, ep, ho, hd, r⟩, q⟩ := I.loc
    obtain ⟨o', ho', hd'⟩ := I'.frk F.env.locals o.data (by show (if F.env.locals = F.env.locals then (s.heap.get? F.env.locals).map (·.data) else F.fr F.env.locals) = _; rw [if_pos rfl, ho]; rfl)
    exact ⟨m, ⟨o', es, ep, ho', hd'.trans hd, r⟩, q⟩
  · obtain ⟨vo, ⟨o, ho, r⟩, q⟩ := I.cel x c e
    exact ⟨vo, ⟨o, (gc x c (mem_of_lookup e)).trans ho, r⟩, q⟩
  · cases hr : o.isR with
    | true => exact fre_r hr (r_fre (I'.free a o e) hr)
    | false =>
    obtain ⟨h1, h2, h3, h4⟩ := of_fre (I'.free a o e) hr
    refine fre_of hr ?_
    have := Off.up K I (env := env) (H' := fun _ => none) (a := a) ⟨rfl, h1, h2, h3, h4⟩
    exact ⟨this.g, this.fr, this.l, this.c⟩

theorem call_inv (K : FmOk P F) (I : Inv P F l H s) {env : Env} {ps : List Str} {vs : List Value} {s₁ : Shared} (hL : env.locals = s.heap.objs.size) (nd : ps.Nodup)
    (x : InCallC s env.locals (bindL env.kindOf (ps.zip vs) fun _ => none) env.cells (bindC env.kindOf (ps.zip vs) fun _ => none) s₁) : Inv P (F.call s.heap env) (fun y => (ps.zip (vs.map er)).lookup y) H s₁ := by
  obtain ⟨⟨⟨h, tk, rfl⟩, ns, keep, fresh⟩, cell, apart, above⟩ := x
  have up : ∀ a o, H a = some o → a < env.locals := fun a o e => by rw [hL]; exact I.lt_of e
  refine ⟨I.gens, I.os, fun b o e => ?_, fun b d e => ?_, ⟨_, ns, fun y v hy hk => ((bindL_get hk ps vs _ nd v).1 hy)⟩, fun y c e => ⟨_, cell y c e, fun v hy hk => ((bindC_get (fun q => ?_) ps vs _ nd v).1 hy)⟩, fun a o e => ?_, fun a o e => ?_, I.big⟩
  · have e : (if isCell F b then s.heap.get? b else F.g b) = some o := e
    split at e
    · exact keep b o e
    · exact keep b o (I.keep b o e)
  · have e : (if b = F.env.locals then (s.heap.get? b).map (·.data) else F.fr b) = some d := e
    split at e
    · obtain ⟨o, ho, hd⟩ := Option.map_eq_some_iff.mp e
      exact ⟨o, keep b o ho, hd⟩
    · obtain ⟨o, ho, hd⟩ := I.frk b d e
      exact ⟨o, keep b o ho, hd⟩
  · have hk : env.kindOf y = some .cell ∨ env.kindOf y = some .free := hk
    rw [q] at hk; simp at hk
  · obtain ⟨O, ho⟩ := (I.objs a o e).some
    exact (I.objs a o e).congr ((keep a O ho).trans ho.symm)
  · cases hr : o.isR with
    | true => exact fre_r hr (r_fre (I.free a o e) hr)
    | false =>
    obtain ⟨h1, h2, h3, h4⟩ := of_fre (I.free a o e) hr
    refine fre_of hr ⟨?_, ?_, Nat.ne_of_lt (up a o e), fun y c hm => Nat.ne_of_lt (Nat.lt_trans (up a o e) (above y c hm))⟩
    · show (if isCell F a then s.heap.get? a else F.g a) = none
      rw [if_neg (fun q => by obtain ⟨y, hm⟩ := mem_isCell q; exact h4 y a hm rfl)]; exact h1
    · show (if a = F.env.locals then (s.heap.get? a).map (·.data) else F.fr a) = none
      rw [if_neg h3]; exact h2

/-- a def's call, by the text of its body -/
theorem call_def (Y : PmOk P) {f : Addr} {ps : List Str} {sc : Scope} {body : List Stmt} {body' : List Sm} (D : FnAt P f ps sc body) (hb : SS P G n hm sc body body') {args : List Value} {Q : QV} {X : XV} (q : wpF G hm ps body' args H Q X)
    (K : FmOk P F) (R : RoomC (n + 1) F.A) (HM : HmOk hm F.A) (I : Inv P F l H s) {vals : List Value} (hv : vals.map er = args) : codeAny P.M F.A (.call (.ref f) ⟨vals, []⟩) (PostC P F l Q X) s := by
  subst hv
  obtain ⟨hlen, q⟩ := q
  obtain ⟨o, fd, d1, d2, d3, d4, d5, d6, d7, d8, d9⟩ := D.at_
  have fine := D.fine
  unfold scFine at fine
  simp only [Bool.and_eq_true, beq_iff_eq, Bool.not_eq_true', decide_eq_true_eq, List.all_eq_true, Bool.or_eq_true, bne_iff_ne, ne_eq] at fine
  obtain ⟨⟨⟨⟨⟨⟨f1, f2⟩, f3⟩, f4⟩, f5⟩, f6⟩, f7⟩ := fine
  have k : ∀ b o, P.base.get? b = some o → s.heap.get? b = some o := fun b o e => I.keep b o (K.base b o e)
  have kd : ∀ x, (callEnvC fd s.heap.objs.size f).kindOf x = sc.names.lookup x := fun x => by show fd.scope.names.lookup x = _; rw [d5]
  have cl : ∀ x, sc.names.lookup x = some .cell → ∃ c, (callEnvC fd s.heap.objs.size f).cells.lookup x = some c := fun x hx => by
    show ∃ c, (cellsFrom _ fd.scope.names []).lookup x = some c
    rw [d5]; exact cells_lookup _ _ _ hx
  have nf : ∀ x, sc.names.lookup x ≠ some .free := fun x hx => f5 _ (mem_of_lookup hx) rfl
  refine codeAny_call_cells (binds := ps.zip vals) (by have := R.1; omega) (k _ _ d1) d2 (Y.lim.keeps k) (d3.keeps k) d4 (d9 vals (by simpa using hlen.symm)) d6 (fun x hx => ?_) (fun s₁ x => ?_) (by rw [d5]; exact f2) (by rw [d5]; exact f3) (by rw [d5]; exact f1)
  · have := f6 x.1 (List.of_mem_zip (a := x.1) (b := x.2) hx).1
    rw [d5]
    rcases this with h | h
    · exact .inl h
    · obtain ⟨c, hc⟩ := cells_lookup (x := x.1) sc.names (s.heap.objs.size + 1) [] h
      exact .inr ⟨h, by rw [hc]; rfl⟩
  · have K' : FmOk P (F.call s.heap (callEnvC fd s.heap.objs.size f)) := call_frame K I (by show fd.scope.kind = _; rw [d5]; exact f1) d7 d8 rfl rfl x.above x.apart fun y c hm => lookup_of_mem (cells_names _ _ _ (by rw [d5]; exact f4) .nil (by simp)) hm
    have I' := call_inv K I (env := callEnvC fd s.heap.objs.size f) rfl f7 x
    have S' : ScOk sc (F.call s.heap (callEnvC fd s.heap.objs.size f)) := by
      refine ⟨fun y hy => ?_, fun y hy => ?_, fun y hy => (kd y).trans hy, fun y hy => ⟨(kd y).trans hy, cl y hy⟩⟩
      · unfold isLoc at hy
        split at hy
        · rename_i e; exact .inl ((kd y).trans e)
        · rename_i e; exact .inr ⟨.inl ((kd y).trans e), cl y e⟩
        · rename_i e; exact absurd e (nf y)
        · split at hy <;> cases hy
        · cases hy
      · unfold isLoc at hy
        split at hy
        · split at hy <;> cases hy
        · split at hy <;> cases hy
        · split at hy <;> cases hy
        · rename_i e; exact (kd y).trans e
        · cases hy
    refine wpAny_mono (hb K' S' ⟨?_, ?_⟩ HM rfl I' q) (fun fl s' z => ?_) fun EV s' z => ?_
    · show F.A.depth + 1 + 2 * n + 2 < _
      have := R.1; omega
    · show F.A.units + 3 + 30 * n + 200 < _
      have := R.2; omega
    · obtain ⟨l2, H2, I2, z⟩ := z
      have I3 := Inv.up K I I2
      cases fl with
      | next => exact ⟨H2, I3, z⟩
      | brk => exact z.elim
      | cont => exact z.elim
      | ret v => exact ⟨H2, I3, z⟩
    · obtain ⟨l2, H2, e, C, rfl, I2, x2, z⟩ := z
      exact s_leaving K' I2 rfl x2 fun s3 I3 x3 => ⟨H2, e, C, rfl, Inv.up K I I3, (Exc.up K I x3).weak, z⟩
end
end Mine
end

section
open PySem PyProof.Rows PySem.Calls
namespace Mine

/-! ## the built-in functions -/
section
variable {P : Pm} {F : Fm} {G : Gx} {n : Nat} {hm : Bool} {l : Loc} {H : Hp} {s : Shared} {E : Value → Shared → Prop} {Q : QV}

/-- what is kept stays ours -/
theorem Inv.kept (I : Inv P F l H s) {h' : Heap} {t : Nat} (k : ∀ b o, s.heap.get? b = some o → h'.get? b = some o) : Inv P F l H { s with heap := h', toks := t } := I.step fun b o e _ => k b o e

theorem s_list_new (K : FmOk P F) (I : Inv P F l H s) {h' : Heap} {t : Nat} {vs : Array Value} {D : Addr} (hD : s.heap.get? D = none) (hz : P.base.objs.size ≤ D) (k : ∀ b o, s.heap.get? b = some o → h'.get? b = some o) (e : IsL h' D vs) (hs : vs.size ≤ 2 ^ 25) (q : newV (.list (vs.toList.map er)) H Q) :
    PostE P F l Q (.ref D) { s with heap := h', toks := t } :=
  ⟨_, I.more K hD (bigs_of hz) k (mt_list e hs), q D (I.off K hD).h⟩

theorem szl {n : Nat} (h : n ≤ sizeLine) : n ≤ 2 ^ 25 := by simp only [sizeLine] at h; omega

theorem s_copy (K : FmOk P F) (I : Inv P F l H s) {T : String} {a : Addr} {vs : Array Value} (hT : T = "list" ∨ T = "tuple") {o : Obj} {n : Nat} (ho : s.heap.get? a = some o) (hc : o.cls = .type T) (hd : o.data = .seq vs n) (hz : vs.size ≤ sizeLine) (q : newV (.list (vs.toList.map er)) H Q) :
    wpAny P.M F.A (call (.type "list") [.ref a]) (PostE P F l Q) E s :=
  call_list_seq (hsz := hz) a hT ho hc hd fun h' c' hk hD => s_list_new K I (t := s.toks) (Heap.get?_none_of_le (Nat.le_refl _)) (I.base_le K) hk ⟨c', hD⟩ (szl hz) q

theorem s_range (K : FmOk P F) (I : Inv P F l H s) {Vs : List Value} (h : rangeV (Vs.map er) H Q) : wpAny P.M F.A (call (.type "range") Vs) (PostE P F l Q) E s := by
  unfold rangeV at h
  split at h
  · rename_i hi _ e
    obtain ⟨t, rfl⟩ : ∃ t, Vs = [.int hi t] := by
      cases Vs with
      | nil => cases e
      | cons W r => cases r with
        | nil => simp at e; obtain ⟨t, rfl⟩ := er_int e; exact ⟨t, rfl⟩
        | cons _ _ => simp at e
    exact call_range_1 ⟨_, I.alloc K (o := .range 0 hi 1) (t := s.toks + 1 + 1) ⟨_, _, _, IsRange.new ..⟩, h.2.2 _ I.fresh⟩
  · rename_i lo _ hi _ e
    obtain ⟨t, u, rfl⟩ : ∃ t u, Vs = [.int lo t, .int hi u] := by
      cases Vs with
      | nil => cases e
      | cons W r => cases r with
        | nil => simp at e
        | cons W2 r => cases r with
          | nil => simp at e; obtain ⟨t, rfl⟩ := er_int e.1; obtain ⟨u, rfl⟩ := er_int e.2; exact ⟨t, u, rfl⟩
          | cons _ _ => simp at e
    exact call_range_2 ⟨_, I.alloc K (o := .range lo hi 1) (t := s.toks + 1) ⟨_, _, _, IsRange.new ..⟩, h.2.2.2.2 _ I.fresh⟩
  · rename_i lo _ hi _ st _ e
    obtain ⟨t, u, v, rfl⟩ : ∃ t u v, Vs = [.int lo t, .int hi u, .int st v] := by
      cases Vs with
      | nil => cases e
      | cons W r => cases r with
        | nil => simp at e
        | cons W2 r => cases r with
          | nil => simp at e
          | cons W3 r => cases r with
            | nil => simp at e; obtain ⟨t, rfl⟩ := er_int e.1; obtain ⟨u, rfl⟩ := er_int e.2.1; obtain ⟨v, rfl⟩ := er_int e.2.2; exact ⟨t, u, v, rfl⟩
            | cons _ _ => simp at e
    obtain ⟨h0, h1, h2, h3, h4, h5, h6, q⟩ := h
    exact call_range_3 h0 ⟨_, I.alloc K (o := .range lo hi st) (t := s.toks) ⟨_, _, _, IsRange.new ..⟩, q _ I.fresh⟩ (.inl (PyProof.noPylong_small (by omega)))
  · exact h.elim

theorem bools_of : ∀ {vs : List Value} {bs : List Bool}, vs.map er = bs.map Value.bool → vs = bs.map Value.bool
  | [], [], _ => rfl
  | [], _ :: _, e => by simp at e
  | _ :: _, [], e => by simp at e
  | v :: vs, b :: bs, e => by
    simp at e
    have h1 := er_bool e.1
    have h2 := bools_of (vs := vs) (bs := bs) (by simpa using e.2)
    rw [List.map_cons, h1, h2]

theorem s_all (K : FmOk P F) (I : Inv P F l H s) (hh : F.A.handled = none) {a : Addr} {xs : List Value} (hx : H a = some (.list xs)) {bs : List Bool} (hb : xs = bs.map Value.bool) (q : Q (.bool (bs.all id)) H) :
    wpAny P.M F.A (call (.builtin "all") [.ref a]) (PostE P F l Q) E s := by
  obtain ⟨vs, hl, e, _⟩ := I.objs _ _ hx
  subst hb
  have ev := bools_of e
  refine call_all_walk (wpAny_pyIter_list hl ⟨s.heap.objs.size, _, _, _, _, _, fun i => bs.getD i true, rfl, Walks.list (A := F.A.in1) hh _ a (Nat.ne_of_lt (I.lt_of hx)) vs, ⟨⟨_, Heap.get?_push_size _ rfl, rfl, rfl⟩, hl.at fun o e => Heap.get?_push_of_some _ e⟩, ?_, fun h' tk k => ?_⟩)
  · intro i v s' Q' E' hP hQ
    have : vs.toList[i]? = some v := by simpa using hP
    rw [ev, List.getElem?_map] at this
    obtain ⟨b, hb, rfl⟩ := Option.map_eq_some_iff.mp this
    have : bs.getD i true = b := by simp [List.getD, hb]
    have hQ : Q' (bs.getD i true) s' := hQ
    rw [this] at hQ
    exact wpAny_truthy_bool hQ
  · refine ⟨H, (I.push _).turn (J := s.heap.objs.size) K (I.ofSize K) fun b o hb e => k b o (by simpa using hb) e, ?_⟩
    have hz : vs.size = bs.length := by have := congrArg List.length ev; simpa using this
    have : (List.range vs.size).all (fun i => bs.getD i true) = bs.all id := by
      rw [hz]
      apply Bool.eq_iff_iff.mpr
      simp only [List.all_eq_true, List.mem_range, id]
      constructor
      · intro h b hb
        obtain ⟨i, hi, rfl⟩ := List.getElem_of_mem hb
        have := h i hi
        simpa [List.getD, hi] using this
      · intro h i hi
        simp only [List.getD, List.getElem?_eq_getElem hi, Option.getD_some]
        exact h _ (List.getElem_mem hi)
    rw [this]; exact q

theorem s_max2 (I : Inv P F l H s) (hh : F.A.handled = none) {a b : Int} {t u : Tok} (q : Q (.int (max a b) 0) H) : wpAny P.M F.A (call (.builtin "max") [.int a t, .int b u]) (PostE P F l Q) E s := by
  refine max_two_ints hh fun h' tk k => ⟨H, I.kept k, ?_⟩
  by_cases hc : b > a
  · rw [if_pos hc]; have : max a b = b := by omega
    rw [this] at q; exact q
  · rw [if_neg hc]; have : max a b = a := by omega
    rw [this] at q; exact q
theorem s_min2 (I : Inv P F l H s) (hh : F.A.handled = none) {a b : Int} {t u : Tok} (q : Q (.int (min a b) 0) H) : wpAny P.M F.A (call (.builtin "min") [.int a t, .int b u]) (PostE P F l Q) E s := by
  refine min_two_ints hh fun h' tk k => ⟨H, I.kept k, ?_⟩
  by_cases hc : b < a
  · rw [if_pos hc]; have : min a b = b := by omega
    rw [this] at q; exact q
  · rw [if_neg hc]; have : min a b = a := by omega
    rw [this] at q; exact q

theorem seq_ints : ∀ {vs : List Value} {ns : List Int}, IntsAre vs ns → vs.map er = ns.map fun n => Value.int n 0
  | _, _, .nil => rfl
  | _, _, .cons i t r => by
    rw [List.map_cons, List.map_cons, seq_ints r]; rfl

theorem dictAt_of {K : Type} [DecidableEq K] {knd : PySem.KeyKind P.prog P.w K} {h : Heap} {a : Addr} {kvs : List (K × Value)} (x : h.DictOf knd a kvs) : ∃ ep, h.DictAt knd a kvs ep := by
  obtain ⟨o, es, ep, r⟩ := x
  exact ⟨ep, o, es, r⟩

theorem isInt_val {k : Int} {v : Value} (h : Value.isInt k v = true) : ∃ t, v = .int k t := by
  unfold Value.isInt at h
  split at h
  · rename_i i t
    have : i = k := by simpa using h
    exact ⟨t, by rw [this]⟩
  · cases h

theorem ints_by {vs : List Value} {kvs : List (Int × Value)} (hl : vs.length = kvs.length) (hp : ∀ (j : Nat) (v : Value), vs[j]? = some v → ∃ k x, kvs[j]? = some (k, x) ∧ (intKind P.prog P.w).is k v = true) : IntsAre vs (kvs.map (·.1)) := by
  apply ints_of
  apply List.ext_getElem?
  intro j
  rw [List.getElem?_map, List.getElem?_map, List.getElem?_map]
  rcases Nat.lt_or_ge j vs.length with h | h
  · obtain ⟨k, x, e1, e2⟩ := hp j vs[j] (List.getElem?_eq_getElem h)
    rw [List.getElem?_eq_getElem h, e1]
    obtain ⟨t, ht⟩ := isInt_val (show Value.isInt k vs[j] = true from e2)
    rw [ht]; rfl
  · rw [List.getElem?_eq_none h, List.getElem?_eq_none (by omega)]; rfl

theorem s_sorted (Y : PmOk P) (K : FmOk P F) (I : Inv P F l H s) (hh : F.A.handled = none) {V : Value} (h : sortedV (er V) H Q) : wpAny P.M F.A (call (.builtin "sorted") [V]) (PostE P F l Q) E s := by
  unfold sortedV at h
  split at h
  · rename_i a e; have := er_ref e; subst this
    obtain ⟨m, Fr, hmm⟩ := I.fr K
    split at h
    · rename_i xs hx
      obtain ⟨h64, ns, hn, q⟩ := h
      · obtain ⟨vs, hl, e, _⟩ := I.objs _ _ hx
        refine sorted_N Fr (news_all _ _ _) (vs := vs.toList) (by simpa using hl) (ints_of (e.trans hn)) (by rw [← e] at h64; simpa using h64) fun h' vs' ns' ep F' N' a1 a2 a3 => ?_
        have I' := I.after K (t := s.toks) hmm F' N' fun _ hp => .tail _ hp
        have nn : s.heap.get? (s.heap.objs.size + 1) = none := Heap.get?_none_of_le (Nat.le_succ _)
        refine ⟨_, I'.track (o := .list (ns'.map fun n => Value.int n 0)) (I.off K nn) trivial ?_, q ns' a2 a3 _ (I.off K nn).h⟩
        rw [← seq_ints a1]
        have hz : vs'.toArray.size ≤ 2 ^ 25 := by
          have : vs'.length = ns'.length := by have := congrArg List.length (seq_ints a1); simpa using this
          have h2 := a2.length_eq
          rw [hn] at h64
          simp at h64 ⊢; omega
        exact mt_list (vs := vs'.toArray) ⟨ep, (N' _ (.head _)).1⟩ hz
    · rename_i kvs hx
      obtain ⟨h64, ns, hn, q⟩ := h
      · obtain ⟨ks, hd, e⟩ := I.objs _ _ hx
        obtain ⟨ep, hd⟩ := dictAt_of hd
        have hns : ns = ks.map (·.1) := by
          rw [← e] at hn
          rw [List.map_map] at hn
          have := congrArg (List.map fun v => match v with | Value.int i _ => i | _ => 0) hn
          simpa [Function.comp_def] using this.symm
        have hlen : ks.length < 64 := by rw [← e] at h64; simpa using h64
        refine PySem.W.kdu_sorted (PySem.W.kdl_dict (not_modules Y I hx)) hh Fr (news_all _ _ _) hd (by simp only [sizeLine]; omega) fun D h' tk vs F' N' lt hl hp => ?_
        have oD : h'.get? D = some (seqObj "list" vs.toArray 0) := (N' _ (.head _)).1
        have ia := ints_by hl hp
        refine wpAny_call_entry slot_list_sort ⟨_, oD, rfl⟩ entry_list_sort (list_sort_tree oD ia (by omega) fun out ns' a1 a2 a3 => ⟨_, rfl, ?_⟩) (args_list_sort _)
        have I' := I.after K (t := tk) hmm F' N' fun _ hp => .tail _ hp
        have nn : s.heap.get? D = none := by
          cases q : s.heap.get? D with
          | none => rfl
          | some o => exact absurd (lt _ (mem_allNews q (N' _ (.head _)).2.1 (N' _ (.head _)).2.2)) (Nat.lt_irrefl _)
        have of := I.off K nn
        obtain ⟨ep2, hat⟩ := sortedHeap_at (out := out) oD
        refine ⟨_, (I'.turn (t := tk) (h' := sortedHeap h' D vs out) K of fun b o hb e => by rw [sortedHeap_old hb (Heap.lt_size e)]; exact e).track (o := .list (ns'.map fun n => Value.int n 0)) of trivial ?_, q ns' (by rw [hns]; exact a2) a3 _ of.h⟩
        rw [← seq_ints a1]
        have hz : out.size ≤ 2 ^ 25 := by
          have h1 : out.toList.length = ns'.length := by have := congrArg List.length (seq_ints a1); simpa using this
          have h2 := a2.length_eq
          simp at h1 h2; omega
        exact mt_list (vs := out) ⟨ep2, hat⟩ hz
    · exact h.elim
  · exact h.elim
end
end Mine
end

section
open PySem PyProof.Rows PySem.Calls
namespace Mine

/-! ## comprehensions -/
theorem closure_loop {env : Env} : ∀ (names : List (Str × NameKind)) (acc : List (Str × Addr)), (names.map (·.1)).Nodup → (acc.map (·.1)).Nodup → (∀ x ∈ names.map (·.1), x ∉ acc.map (·.1)) → (∀ y, (y, NameKind.free) ∈ names → ∃ c, env.cells.lookup y = some c) →
    ∃ cl, (forIn names acc (fun (x : Str × NameKind) (r : List (Str × Addr)) => match x with | (name, kind) => if (kind == .free) = true then do let c ← cellOf env name; pure (ForInStep.yield ((name, c) :: r)) else pure (ForInStep.yield r)) : Sem (List (Str × Addr))) = pure cl ∧
      (cl.map (·.1)).Nodup ∧ (∀ p ∈ acc, p ∈ cl) ∧ (∀ y c, (y, c) ∈ cl → (y, c) ∈ acc ∨ env.cells.lookup y = some c) ∧ ∀ y, (y, NameKind.free) ∈ names → ∃ c, (y, c) ∈ cl
  | [], acc, _, h, _, _ => ⟨acc, by rw [List.forIn_nil], h, fun _ hp => hp, fun _ _ hp => .inl hp, fun _ hy => by cases hy⟩
  | (y, kind) :: r, acc, hn, h, hd, hf => by
    rw [List.map_cons, List.nodup_cons] at hn
    by_cases hk : kind = .free
    · subst hk
      obtain ⟨c, hc⟩ := hf y (.head _)
      obtain ⟨cl, e, h1, h2, h3, h4⟩ := closure_loop (env := env) r ((y, c) :: acc) hn.2 (by rw [List.map_cons, List.nodup_cons]; exact ⟨hd y (by simp), h⟩) (fun x hx hm => by
        rw [List.map_cons, List.mem_cons] at hm
        rcases hm with rfl | hm
        · exact hn.1 hx
        · exact hd x (by rw [List.map_cons]; exact .tail _ hx) hm) (fun z hz => hf z (.tail _ hz))
      refine ⟨cl, ?_, h1, fun p hp => h2 p (.tail _ hp), fun z d hz => ?_, fun z hz => ?_⟩
      · rw [List.forIn_cons]
        have : cellOf env y = pure c := by unfold cellOf; rw [hc]
        simp only [beq_self_eq_true, if_true, this]
        exact e
      · rcases h3 z d hz with q | q
        · rcases List.mem_cons.mp q with q | q
          · cases q; exact .inr hc
          · exact .inl q
        · exact .inr q
      · rcases List.mem_cons.mp hz with q | q
        · cases q; exact ⟨c, h2 _ (.head _)⟩
        · exact h4 z q
    · obtain ⟨cl, e, h1, h2, h3, h4⟩ := closure_loop (env := env) r acc hn.2 h (fun x hx => hd x (by rw [List.map_cons]; exact .tail _ hx)) (fun z hz => hf z (.tail _ hz))
      refine ⟨cl, ?_, h1, h2, h3, fun z hz => ?_⟩
      · rw [List.forIn_cons]
        have : (kind == NameKind.free) = false := beq_eq_false_iff_ne.mpr hk
        simp only [this, Bool.false_eq_true, if_false]
        exact e
      · rcases List.mem_cons.mp hz with q | q
        · cases q; exact absurd rfl hk
        · exact h4 z q

theorem closure_ok {env : Env} {scope : Scope} (hn : (scope.names.map (·.1)).Nodup) (hf : ∀ y, (y, NameKind.free) ∈ scope.names → ∃ c, env.cells.lookup y = some c) :
    ∃ cl, closureFor scope env = pure cl ∧ (cl.map (·.1)).Nodup ∧ (∀ y c, (y, c) ∈ cl → env.cells.lookup y = some c) ∧ ∀ y, (y, NameKind.free) ∈ scope.names → ∃ c, (y, c) ∈ cl := by
  obtain ⟨cl, e, h1, h2, h3, h4⟩ := closure_loop (env := env) scope.names [] hn .nil (by simp) hf
  refine ⟨cl, ?_, h1, fun y c hy => (h3 y c hy).resolve_left (by simp), h4⟩
  simp only [closureFor]
  rw [show (forIn scope.names [] _ : Sem (List (Str × Addr))) = pure cl from e]
  rfl

theorem lookup_relabel {env : Env} {scope : Scope} (x : Str) : (relabel scope env).names.lookup x = (scope.names.lookup x).map fun k => if (k == NameKind.free && env.scope.kind == .function && env.kindOf x == some .cell) then NameKind.cell else k := by
  show (scope.names.map fun (n, k) => if (k == NameKind.free && env.scope.kind == .function && env.kindOf n == some .cell) then (n, NameKind.cell) else (n, k)).lookup x = _
  induction scope.names with
  | nil => rfl
  | cons p r ih =>
    obtain ⟨n, k⟩ := p
    rw [List.map_cons]
    by_cases hx : x = n
    · subst hx
      by_cases hc : (k == NameKind.free && env.scope.kind == .function && env.kindOf x == some .cell) = true
      · simp only [List.lookup_cons, beq_self_eq_true, Option.map_some, if_pos hc]
      · simp only [List.lookup_cons, beq_self_eq_true, Option.map_some, if_neg hc]
    · have : (x == n) = false := beq_eq_false_iff_ne.mpr hx
      simp only [List.lookup_cons, this]
      split <;> simp only [List.lookup_cons, this] <;> exact ih

/-- the frame of a comprehension -/
def Fm.comp (F : Fm) (h : Heap) (env : Env) : Fm := { F.call h env with A := F.A, ro := true }

section
variable {P : Pm} {F : Fm} {G : Gx} {n : Nat} {hm : Bool} {l : Loc} {H : Hp} {s : Shared}

theorem comp_frame (K : FmOk P F) (I : Inv P F l H s) {env : Env} (hk : env.scope.kind = .function) (hg : env.globals = mainGlobals) (hb : env.builtins = builtinsNs) (hL : s.heap.objs.size ≤ env.locals)
    (nd : (env.cells.map (·.1)).Nodup) (cs : ∀ y c, (y, c) ∈ env.cells → F.env.cells.lookup y = some c) : FmOk P (F.comp s.heap env) := by
  have nn : ∀ b, s.heap.objs.size ≤ b → s.heap.get? b = none := fun b hb => Heap.get?_none_of_le hb
  have cm : ∀ y c, (y, c) ∈ env.cells → (y, c) ∈ F.env.cells := fun y c h => mem_of_lookup (cs y c h)
  have cx : ∀ y c, (y, c) ∈ env.cells → ∃ o, s.heap.get? c = some o := fun y c h => by
    obtain ⟨vo, ⟨o, ho, _⟩, _⟩ := I.cel y c (cs y c h); exact ⟨o, ho⟩
  refine ⟨hk, hg, hb, fun b o e => ?_, ?_, ?_, ?_, fun y c h => ?_, fun q => (nomatch q), ?_, fun y c h => lookup_of_mem nd h, fun y c h => ?_, fun b d e => ?_, ?_⟩
  · show (if isCell F b then s.heap.get? b else F.g b) = some o
    split
    · exact I.keep b o (K.base b o e)
    · exact K.base b o e
  · exact Nat.le_trans (I.base_le K) hL
  · show (if isCell F env.locals then s.heap.get? env.locals else F.g env.locals) = none
    split
    · exact nn _ hL
    · exact (I.off K (nn _ hL)).g
  · show (if env.locals = F.env.locals then (s.heap.get? env.locals).map (·.data) else F.fr env.locals) = none
    rw [if_neg (I.off K (nn _ hL)).l]
    exact (I.off K (nn _ hL)).fr
  · obtain ⟨o, ho⟩ := cx y c h
    exact Nat.ne_of_lt (Nat.lt_of_lt_of_le (Heap.lt_size ho) hL)
  · refine List.Pairwise.imp_of_mem ?_ (List.pairwise_map.mp nd)
    rintro ⟨y, c⟩ ⟨z, d⟩ h1 h2 hne e
    have e : c = d := e
    subst e
    exact hne (name_of_addr K.apart (cm y c h1) (cm z c h2))
  · show (if c = F.env.locals then (s.heap.get? c).map (·.data) else F.fr c) = none
    rw [if_neg (K.cl y c (cm y c h))]; exact K.cf y c (cm y c h)
  · have e : (if b = F.env.locals then (s.heap.get? b).map (·.data) else F.fr b) = some d := e
    show (if isCell F b then s.heap.get? b else F.g b) = none ∧ _
    by_cases q : b = F.env.locals
    · rw [if_pos q] at e
      subst q
      constructor
      · split
        · rename_i hc
          obtain ⟨x, hm⟩ := mem_isCell hc
          exact absurd rfl (K.cl x _ hm)
        · exact K.lg
      · obtain ⟨m, ⟨o, es, ep, ho, hd, _⟩, _⟩ := I.loc
        rw [ho] at e
        cases e
        intro vs q
        have q : o.data = .fields vs := q
        rw [hd] at q; cases q
    · rw [if_neg q] at e
      obtain ⟨h1, h2⟩ := K.fg b d e
      refine ⟨?_, h2⟩
      split
      · rename_i hc
        obtain ⟨x, hm⟩ := mem_isCell hc
        rw [K.cf x b hm] at e; cases e
      · exact h1
  · obtain ⟨fenv, outer, h1, h2, h3⟩ := K.frames
    refine ⟨fenv, outer, h1, fun q => (nomatch q), fun e he => ?_⟩
    obtain ⟨k1, b, k2, k3⟩ := h3 e he
    refine ⟨k1, b, k2, .inr ?_⟩
    show ((if b = F.env.locals then (s.heap.get? b).map (·.data) else F.fr b)).isSome = true
    obtain ⟨m, ⟨o, es, ep, ho, hd, _⟩, _⟩ := I.loc
    rcases k3 with rfl | k3
    · rw [if_pos rfl, ho]; rfl
    · split
      · rename_i q; rw [q, ho]; rfl
      · exact k3

theorem Inv.compUp (K : FmOk P F) (I : Inv P F l H s) {env : Env} {l' : Loc} {H' : Hp} {s' : Shared} (I' : Inv P (F.comp s.heap env) l' H' s') : Inv P F l H' s' :=
  Inv.up K I (env := env) ⟨I'.gens, I'.os, I'.keep, I'.frk, I'.loc, I'.cel, I'.objs, I'.free, I'.big⟩
theorem Off.compUp (K : FmOk P F) (I : Inv P F l H s) {env : Env} {H' : Hp} {a : Addr} (x : Off (F.comp s.heap env) H' a) : Off F H' a :=
  Off.up K I (env := env) ⟨x.h, x.g, x.fr, x.l, x.c⟩

/-- the tests -/
inductive STall (P : Pm) (G : Gx) (n : Nat) (hm : Bool) (sc : Scope) : List Expr → List Ex → Prop where
  | nil : STall P G n hm sc [] []
  | cons {e : Expr} {e' : Ex} {r : List Expr} {r' : List Ex} : ST P G n hm sc e e' → STall P G n hm sc r r' → STall P G n hm sc (e :: r) (e' :: r')

theorem tests_false {env : Env} : ∀ (r : List Expr), (forIn r false (fun (c : Expr) (r : Bool) => if r = true then do let ok ← PySem.isTrue c env (eval c env); pure (ForInStep.yield ok) else pure (ForInStep.yield r)) : Sem Bool) = pure false
  | [] => by rw [List.forIn_nil]
  | c :: r => by
    rw [List.forIn_cons]
    show (forIn r false _ : Sem Bool) = _
    exact tests_false r

theorem s_tests {sc : Scope} {es : List Expr} {es' : List Ex} (h : STall P G n hm sc es es') (K : FmOk P F) (S : ScOk sc F) (R : Room n F.A) (HM : HmOk hm F.A) {X : XV} {k : Bool → Hp → Prop} : ∀ {H : Hp} {s : Shared}, Inv P F l H s → wpB G hm true es' l H (fun v H' => truthV v fun b => k b H') X →
    wpAny P.M F.A (forIn es true (fun (c : Expr) (r : Bool) => if r = true then do let ok ← PySem.isTrue c F.env (eval c F.env); pure (ForInStep.yield ok) else pure (ForInStep.yield r))) (fun b s' => ∃ H', Inv P F l H' s' ∧ k b H') (PostX P F l X) s := by
  induction h with
  | nil =>
    intro H s I q
    simp only [wpB, truthV] at q
    rw [List.forIn_nil]
    exact wpAny_pure ⟨H, I, q⟩
  | @cons e e' r r' he hr ih =>
    intro H s I q
    rw [wpB] at q
    rw [List.forIn_cons]
    simp only [if_true]
    refine wpAny_bind (wpAny_bind (wpAny_mono (he K S R HM I q) (fun b s1 z => wpAny_pure ?_) fun _ _ z => z))
    obtain ⟨H1, I1, z⟩ := z
    cases b with
    | true =>
      simp only [if_true] at z
      cases hr with
      | nil =>
        dsimp only
        rw [List.forIn_nil]
        exact wpAny_pure ⟨H1, I1, z⟩
      | cons a b => exact ih I1 z
    | false =>
      simp only [Bool.false_eq_true, if_false, truthV] at z
      dsimp only
      rw [tests_false]
      exact wpAny_pure ⟨H1, I1, z⟩

/-- what a comprehension sees of the names -/
theorem comp_names {sc scope : Scope} {x : Str} (S : ScOk sc F) (hk : F.env.scope.kind = .function) (hf : compFine sc scope x = true) :
    scope.kind = .function ∧ (scope.names.map (·.1)).Nodup ∧ (∀ y ∈ scope.names, y.2 ≠ .cell) ∧ (∀ y, scope.names.lookup y = some .local → y = x ∨ y = (".0" : Str)) ∧
      (∀ y, (y, NameKind.free) ∈ scope.names → F.env.kindOf y = some .cell ∧ ∃ c, F.env.cells.lookup y = some c) ∧ scope.names.lookup x = some .local := by
  unfold compFine at hf
  simp only [Bool.and_eq_true, beq_iff_eq, decide_eq_true_eq, List.all_eq_true, Bool.or_eq_true, bne_iff_ne, ne_eq] at hf
  obtain ⟨⟨⟨h1, h2⟩, h3⟩, h4⟩ := hf
  refine ⟨h1, h2, fun y hy => (h3 y hy).1.1, fun y hy => ?_, fun y hy => ?_, h4⟩
  · have := (h3 _ (mem_of_lookup hy)).1.2
    rcases this with (q | q) | q
    · exact absurd rfl q
    · exact .inl q
    · exact .inr q
  · have := (h3 _ hy).2
    rcases this with q | q
    · exact absurd rfl q
    · exact S.cell y q

theorem comp_sc {sc scope : Scope} {x : Str} (S : ScOk sc F) (hk : F.env.scope.kind = .function) (hf : compFine sc scope x = true) {cl : List (Str × Addr)} (nd : (cl.map (·.1)).Nodup) (hcl : ∀ y, (y, NameKind.free) ∈ scope.names → ∃ c, (y, c) ∈ cl) {h : Heap} {C : Addr} :
    ScOk scope (F.comp h (compEnvC scope cl C F.env)) := by
  obtain ⟨n1, n2, n3, n4, n5, n6⟩ := comp_names S hk hf
  have kd : ∀ y k, scope.names.lookup y = some k → (compEnvC scope cl C F.env).kindOf y = some (if (k == NameKind.free && F.env.scope.kind == .function && F.env.kindOf y == some .cell) then NameKind.cell else k) := fun y k hy => by
    show (relabel scope F.env).names.lookup y = _
    rw [lookup_relabel, hy]; rfl
  refine ⟨fun y hy => ?_, fun y hy => ?_, fun y hy => ?_, fun y hy => ?_⟩
  · unfold isLoc at hy
    split at hy
    · rename_i e; exact .inl (kd y _ e)
    · rename_i e; exact absurd rfl (n3 _ (mem_of_lookup e))
    · rename_i e
      obtain ⟨q, _⟩ := n5 y (mem_of_lookup e)
      obtain ⟨c, hc⟩ := hcl y (mem_of_lookup e)
      refine .inr ⟨.inl ?_, c, lookup_of_mem nd hc⟩
      have := kd y _ e
      rw [hk, q] at this
      exact this
    · split at hy <;> cases hy
    · cases hy
  · unfold isLoc at hy
    split at hy
    · split at hy <;> cases hy
    · split at hy <;> cases hy
    · split at hy <;> cases hy
    · rename_i e; exact kd y _ e
    · cases hy
  · exact kd y _ hy
  · exact absurd rfl (n3 _ (mem_of_lookup hy))

theorem Inv.weak {l' : Loc} (I : Inv P F l H s) (h : ∀ y v, l' y = some v → l y = some v) : Inv P F l' H s :=
  ⟨I.gens, I.os, I.keep, I.frk, let ⟨m, hn, q⟩ := I.loc; ⟨m, hn, fun y v hy hk => q y v (h y v hy) hk⟩, fun y c e => let ⟨vo, hc, q⟩ := I.cel y c e; ⟨vo, hc, fun v hy hk => q v (h y v hy) hk⟩, I.objs, I.free, I.big⟩

theorem st_local (K : FmOk P F) (I : Inv P F l H s) {x : Str} {V : Value} {E : Value → Shared → Prop} {Q : Unit → Shared → Prop} (hl : F.env.kindOf x = some .local)
    (h : ∀ s', Inv P F (l.upd x (er V)) H s' → Q () s') : wpAny P.M F.A (storeName F.env x V) Q E s := by
  obtain ⟨m, hn, q⟩ := I.loc
  refine wpAny_storeName_local hl hn (fun h' hn' hs => h _ (I.stepL (t := s.toks + 1) (fun b o e hb _ => hs.extBut b o hb e) hn' K (fun y v hy hky => ?_) fun y v hy hky => ?_)) (by rw [K.kind]; rfl)
  · by_cases e : y = x
    · subst e; simp [Loc.upd] at hy; subst hy; exact ⟨V, by simp, rfl⟩
    · simp [Loc.upd, e] at hy; simp [e]; exact q y v hy hky
  · by_cases e : y = x
    · subst e; rw [hl] at hky; simp at hky
    · simpa [Loc.upd, e] using hy

theorem append_at {A : Around} {E : Value → Shared → Prop} {D : Addr} {vs : Array Value} {V : Value} {Q : Value → Shared → Prop} (e : IsL s.heap D vs) (hz : vs.size ≤ sizeLine) (h : Q .none { s with heap := s.heap.update D (Obj.mapSeq (·.push V)) }) :
    wpAny P.M A (call (.builtin "list.append") [.ref D, V]) Q E s := by
  obtain ⟨n, e0⟩ := id e
  refine wpAny_call_entry slot_list_append e.isList.typeIs entry_list_append ?_ (args_list_append _ _)
  show wpAny _ _ (updateSeq D (·.push V) >>= fun _ => ret .none) _ _ s
  exact wpAny_bind (wpAny_updateSeq e0 rfl (wpAny_pure ⟨.none, rfl, h⟩) hz)

/-- the comprehension's frame at its start -/
theorem comp_inv {sc scope : Scope} {x : Str} (K : FmOk P F) (S : ScOk sc F) (hf : compFine sc scope x = true) (I : Inv P F l H s) {cl : List (Str × Addr)} (c1 : ∀ y c, (y, c) ∈ cl → F.env.cells.lookup y = some c) {C : Addr} {h₁ : Heap} {t : Nat} (hC : s.heap.objs.size ≤ C)
    (k : ∀ b o, s.heap.get? b = some o → h₁.get? b = some o) {m : Str → Option Value} (hn : h₁.Ns C m) : Inv P (F.comp s.heap (compEnvC scope cl C F.env)) ((l.del (".0" : Str)).del x) H { s with heap := h₁, toks := t } := by
  obtain ⟨n1, n2, n3, n4, n5, n6⟩ := comp_names S K.kind hf
  have lt : ∀ a o, H a = some o → a < C := fun a o e => Nat.lt_of_lt_of_le (I.lt_of e) hC
  refine ⟨I.gens, I.os, fun b o e => ?_, fun b d e => ?_, ⟨m, hn, fun y v hy hk => ?_⟩, fun y c e => ?_, fun a o e => ?_, fun a o e => ?_, I.big⟩
  · have e : (if isCell F b then s.heap.get? b else F.g b) = some o := e
    split at e
    · exact k b o e
    · exact k b o (I.keep b o e)
  · have e : (if b = F.env.locals then (s.heap.get? b).map (·.data) else F.fr b) = some d := e
    split at e
    · obtain ⟨o, ho, hd⟩ := Option.map_eq_some_iff.mp e
      exact ⟨o, k b o ho, hd⟩
    · obtain ⟨o, ho, hd⟩ := I.frk b d e
      exact ⟨o, k b o ho, hd⟩
  · exfalso
    have hk : (relabel scope F.env).names.lookup y = some .local := hk
    rw [lookup_relabel] at hk
    obtain ⟨kk, e1, e2⟩ := Option.map_eq_some_iff.mp hk
    have : kk = .local := by
      split at e2
      · cases e2
      · exact e2
    subst this
    rcases n4 y e1 with rfl | rfl
    · simp [Loc.del] at hy
    · simp only [Loc.del] at hy
      split at hy
      · cases hy
      · simp at hy
  · have hc := c1 y c (mem_of_lookup e)
    obtain ⟨vo, ⟨o, ho, hd⟩, q⟩ := I.cel y c hc
    refine ⟨vo, ⟨o, k c o ho, hd⟩, fun v hy hk => q v ?_ ?_⟩
    · simp only [Loc.del] at hy
      split at hy
      · cases hy
      · split at hy
        · cases hy
        · exact hy
    · have hk : (relabel scope F.env).names.lookup y = some .cell ∨ (relabel scope F.env).names.lookup y = some .free := hk
      rw [lookup_relabel] at hk
      have hfr : (y, NameKind.free) ∈ scope.names := by
        rcases hk with hk | hk
        · obtain ⟨kk, e1, e2⟩ := Option.map_eq_some_iff.mp hk
          split at e2
          · rename_i hc
            simp only [Bool.and_eq_true, beq_iff_eq] at hc
            have := hc.1.1
            subst this
            exact mem_of_lookup e1
          · subst e2; exact absurd rfl (n3 _ (mem_of_lookup e1))
        · obtain ⟨kk, e1, e2⟩ := Option.map_eq_some_iff.mp hk
          split at e2
          · cases e2
          · subst e2; exact mem_of_lookup e1
      exact .inl (n5 y hfr).1
  · obtain ⟨O, ho⟩ := (I.objs a o e).some
    exact (I.objs a o e).congr ((k a O ho).trans ho.symm)
  · cases hr : o.isR with
    | true => exact fre_r hr (r_fre (I.free a o e) hr)
    | false =>
    obtain ⟨h1, h2, h3, h4⟩ := of_fre (I.free a o e) hr
    refine fre_of hr ⟨?_, ?_, Nat.ne_of_lt (lt a o e), fun y c hm => ?_⟩
    · show (if isCell F a then s.heap.get? a else F.g a) = none
      rw [if_neg (fun q => by obtain ⟨y, hm⟩ := mem_isCell q; exact h4 y a hm rfl)]; exact h1
    · show (if a = F.env.locals then (s.heap.get? a).map (·.data) else F.fr a) = none
      rw [if_neg h3]; exact h2
    · exact h4 y c (mem_of_lookup (c1 y c hm))

/-- the turn's frame: the iterator and the list stay -/
theorem s_comp (hm0 : hm = false) {sc scope : Scope} {x : Str} {px pos : Pos} {elt it : Expr} {ifs : List Expr} {elt' it' : Ex} {ifs' : List Ex} (hf : compFine sc scope x = true) (hset : notSet it = true) (hi : SE P G n hm sc it it') (he : SE P G n hm scope elt elt') (ht : STall P G n hm scope ifs ifs')
    (K : FmOk P F) (S : ScOk sc F) (R : Room n F.A) (HM : HmOk hm F.A) (I : Inv P F l H s) {Q : QV} {X : XV} (q : wpE G hm (.comp elt' x it' ifs') l H Q X) :
    wpAny P.M F.A (eval (.ListComp elt [⟨.Name x px, it, ifs, 0⟩] scope pos) F.env) (PostE P F l Q) (PostX P F l X) s := by
  obtain ⟨n1, n2, n3, n4, n5, n6⟩ := comp_names S K.kind hf
  obtain ⟨cl, hcl, nd, c1, c2⟩ := closure_ok (env := F.env) n2 fun y hy => (n5 y hy).2
  rw [eval_ListComp]
  simp only [wpE] at q
  refine wpAny_comprehension_free (use := none) rfl (fun _ => folded_no hset) hcl n1 (fun y hy hl => ?_) (wpAny_mono (hi K S R HM I q) (fun V s1 q => ?_) fun _ _ z => z)
  · obtain ⟨y, k⟩ := y
    have hl : k = .local := hl
    subst hl
    exact lookup_of_mem n2 hy
  obtain ⟨H1, I1, _, q⟩ := q
  refine wpAny_mono (s_iter K I1 q) (fun itv s2 q => ?_) fun _ _ z => z
  obtain ⟨guard, items, J, St, ⟨hz, q⟩, rfl, I2, of, bz, st, T⟩ := q
  have T := T F.A (HM hm0)
  refine wpAny_newObj_type (wpAny_newFunctionEnv n3 (by intro y hy; simp at hy) (fun h₁ hns hsb => ?_) n1)
  dsimp only at hns hsb ⊢
  generalize hH2 : s2.heap.push { cls := .type "list", dict := none, data := .seq ([] : List Value).toArray } = hp2 at hns hsb ⊢
  have hC : hp2.objs.size = s2.heap.objs.size + 1 := by rw [← hH2, Heap.size_push]
  have hDC : s2.heap.objs.size ≠ hp2.objs.size := by rw [hC]; exact Nat.ne_of_lt (Nat.lt_succ_self _)
  have k1 : ∀ b o, s2.heap.get? b = some o → h₁.get? b = some o := fun b o e =>
    hsb.extBut b o (by rw [hC]; exact Nat.ne_of_lt (Nat.lt_succ_of_lt (Heap.lt_size e))) (Heap.get?_push_of_some _ (hH2 ▸ Heap.get?_push_of_some _ e))
  have hD1 : IsL h₁ s2.heap.objs.size #[] := ⟨0, hsb.extBut _ _ hDC (Heap.get?_push_of_some _ (hH2 ▸ Heap.get?_push_size _ rfl))⟩
  have I3 := comp_inv (t := s2.toks + ([] : List (Str × Value)).length) K S hf I2 c1 (C := hp2.objs.size) (by rw [hC]; exact Nat.le_succ _) k1 hns
  have KC : FmOk P (F.comp s2.heap (compEnvC scope cl hp2.objs.size F.env)) := comp_frame K I2 (env := compEnvC scope cl hp2.objs.size F.env) n1 K.glob K.blt (by show s2.heap.objs.size ≤ hp2.objs.size; rw [hC]; exact Nat.le_succ _) nd c1
  have SC : ScOk scope (F.comp s2.heap (compEnvC scope cl hp2.objs.size F.env)) := comp_sc S K.kind hf nd c2
  have kx : (compEnvC scope cl hp2.objs.size F.env).kindOf x = some .local := SC.locl x n6
  have oJ : Off (F.comp s2.heap (compEnvC scope cl hp2.objs.size F.env)) H1 J := by
    have hJ : J < s2.heap.objs.size := by obtain ⟨o, ho⟩ := T.at_ _ _ st; exact Heap.lt_size ho
    refine ⟨of.h, ?_, ?_, ?_, fun y c hm => of.c y c (mem_of_lookup (c1 y c hm))⟩
    · show (if isCell F J then s2.heap.get? J else F.g J) = none
      rw [if_neg (fun q => by obtain ⟨y, hm⟩ := mem_isCell q; exact of.c y J hm rfl)]; exact of.g
    · show (if J = F.env.locals then (s2.heap.get? J).map (·.data) else F.fr J) = none
      rw [if_neg of.l]; exact of.fr
    · show J ≠ hp2.objs.size
      rw [hC]; exact Nat.ne_of_lt (Nat.lt_succ_of_lt hJ)
  have ofD := I2.ofSize K
  have oD : Off (F.comp s2.heap (compEnvC scope cl hp2.objs.size F.env)) H1 s2.heap.objs.size := by
    refine ⟨ofD.h, ?_, ?_, hDC, fun y c hm => ofD.c y c (mem_of_lookup (c1 y c hm))⟩
    · show (if isCell F s2.heap.objs.size then s2.heap.get? s2.heap.objs.size else F.g s2.heap.objs.size) = none
      rw [if_neg (fun q => by obtain ⟨y, hm⟩ := mem_isCell q; exact ofD.c y _ hm rfl)]; exact ofD.g
    · show (if s2.heap.objs.size = F.env.locals then (s2.heap.get? s2.heap.objs.size).map (·.data) else F.fr s2.heap.objs.size) = none
      rw [if_neg ofD.l]; exact ofD.fr
  have hJD : J ≠ s2.heap.objs.size := by obtain ⟨o, ho⟩ := T.at_ _ _ st; exact Nat.ne_of_lt (Heap.lt_size ho)
  generalize hFc : F.comp s2.heap (compEnvC scope cl hp2.objs.size F.env) = Fc at *
  have eA : Fc.A = F.A := by rw [← hFc]; rfl
  have eE : Fc.env = compEnvC scope cl hp2.objs.size F.env := by rw [← hFc]; rfl
  generalize hstep : (fun v H2 k => wpB G hm true ifs' ((l.del (".0" : Str)).upd x v) H2 (fun c H3 => truthV c fun r =>
        if r then wpE G hm elt' ((l.del (".0" : Str)).upd x v) H3 (fun u H4 => k (some u) H4) (fun _ _ => False) else k none H3) (fun _ _ => False) : Value → Hp → (Option Value → Hp → Prop) → Prop) = step at q
  have loop : ∀ s3 : Shared, s3 = { s2 with heap := h₁, toks := s2.toks + ([] : List (Str × Value)).length } →
      codeAny P.M F.A (.compLoop (.ListComp elt [⟨.Name x px, it, ifs, 0⟩] scope pos) 0 (.ref J) (.ref s2.heap.objs.size) (compEnvC scope cl hp2.objs.size F.env))
        (compPost P.M F.A (PostX P F l X) none (PostE P F l Q) (.ref s2.heap.objs.size) hp2.objs.size) s3 := by
    rintro s3 rfl
    refine codeAny_compLoop_tests (fun k s => ∃ i Hc us, Inv P Fc ((l.del (".0" : Str)).del x) Hc s ∧ Off Fc Hc J ∧ Off Fc Hc s2.heap.objs.size ∧ St i s.heap ∧ IsL s.heap s2.heap.objs.size us ∧ us.size ≤ i ∧ i ≤ items.length ∧ k = items.length - i + 1 ∧
      compG guard step (items.drop i) (us.toList.map er) Hc fun us H' => newV (.list us) H' Q) ?_ (items.length + 1) ⟨0, H1, #[], I3, oJ, oD, T.frame _ _ _ st fun o e => k1 _ _ e, hD1, Nat.le_refl _, Nat.zero_le _, rfl, q⟩
    rintro k s ⟨i, Hc, us, I, ofJ, ofD, st, eD, hus, hle, hk, q⟩
    rcases Nat.lt_or_ge i items.length with hi | hi
    · obtain ⟨v, hv⟩ : ∃ v, items[i]? = some v := ⟨_, List.getElem?_eq_getElem hi⟩
      have hd : items.drop i = v :: items.drop (i + 1) := by
        rw [List.drop_eq_getElem_cons hi]
        have := List.getElem?_eq_getElem hi
        rw [hv] at this; cases this; rfl
      rw [hd] at q
      unfold compG at q
      obtain ⟨g, q⟩ := q
      refine T.item i s _ _ Hc I.objs ofJ.h g st v hv fun V h' tk hV st' k' => ?_
      have I' := I.turn (t := tk) KC ofJ k'
      obtain ⟨oj, hoj⟩ := T.at_ _ _ st'
      obtain ⟨nD, hoD⟩ := eD
      have hoD' := k' _ _ hJD.symm hoD
      dsimp only
      have ofD1 : Off (Fc.also J oj) Hc s2.heap.objs.size := ⟨ofD.h, by show (if s2.heap.objs.size = J then some oj else Fc.g s2.heap.objs.size) = none; rw [if_neg hJD.symm]; exact ofD.g, ofD.fr, ofD.l, ofD.c⟩
      have K1 := KC.also (o := oj) ofJ
      have K2 := K1.also (o := { cls := .type "list", dict := none, data := .seq us nD, slots := #[] }) ofD1
      have I2' := (I'.also ofJ hoj).also ofD1 hoD'
      generalize hF2 : (Fc.also J oj).also s2.heap.objs.size { cls := .type "list", dict := none, data := .seq us nD, slots := #[] } = F2 at K2 I2'
      have eA2 : F2.A = F.A := by rw [← hF2]; exact eA
      have eE2 : F2.env = compEnvC scope cl hp2.objs.size F.env := by rw [← hF2]; exact eE
      have S2 : ScOk scope F2 := by rw [← hF2]; exact ⟨SC.loc, SC.glob, SC.locl, SC.cell⟩
      rw [← eE2, ← eA2]
      refine wpAny_assign_Name (st_local K2 I2' (S2.locl x n6) fun s4 I4 => ?_)
      rw [hV] at I4
      have eL : (((l.del (".0" : Str)).del x).upd x v) = ((l.del (".0" : Str)).upd x v) := by
        funext y
        by_cases q : y = x <;> simp [Loc.upd, Loc.del, q]
      rw [eL] at I4
      subst hstep
      -- what a turn leaves
      have back : ∀ {H5 : Hp} {s5 : Shared}, Inv P F2 ((l.del (".0" : Str)).upd x v) H5 s5 → Inv P Fc ((l.del (".0" : Str)).del x) H5 s5 ∧ Off Fc H5 J ∧ Off Fc H5 s2.heap.objs.size ∧ St (i + 1) s5.heap ∧ IsL s5.heap s2.heap.objs.size us := by
        intro H5 s5 I5
        rw [← hF2] at I5
        obtain ⟨I6, e6, o6⟩ := I5.back K1 ofD1
        obtain ⟨I7, e7, o7⟩ := I6.back KC ofJ
        refine ⟨I7.weak fun y v' hy => ?_, o7, ⟨o6.h, ofD.g, o6.fr, o6.l, o6.c⟩, T.frame _ _ _ st' fun o' e => by rw [hoj] at e; cases e; exact e7, nD, e6⟩
        simp only [Loc.del] at hy
        split at hy
        · cases hy
        · rename_i hne
          simp only [Loc.upd, if_neg hne, Loc.del]
          exact hy
      refine wpAny_mono (s_tests ht K2 S2 (by rw [eA2]; exact R) (by rw [eA2]; exact HM) I4 q) (fun b s5 z => ?_) fun _ _ z => ?_
      · obtain ⟨H5, I5, z⟩ := z
        cases b with
        | false =>
          simp only [Bool.false_eq_true, if_false] at z ⊢
          obtain ⟨b1, b2, b3, b4, b5⟩ := back I5
          exact ⟨items.length - (i + 1) + 1, by omega, i + 1, H5, us, b1, b2, b3, b4, b5, by omega, hi, rfl, z⟩
        | true =>
          simp only [if_true] at z ⊢
          refine wpAny_mono (he K2 S2 (by rw [eA2]; exact R) (by rw [eA2]; exact HM) I5 z) (fun V6 s6 z => ?_) fun _ _ z => ?_
          · obtain ⟨H6, I6, z⟩ := z
            obtain ⟨b1, b2, b3, b4, b5⟩ := back I6
            refine append_at b5 (by omega) ?_
            have kD : ∀ b o, b ≠ s2.heap.objs.size → s6.heap.get? b = some o → (s6.heap.update s2.heap.objs.size (Obj.mapSeq (·.push V6))).get? b = some o := fun b o hb e => by rw [Heap.get?_update_other _ _ (Ne.symm hb)]; exact e
            refine ⟨items.length - (i + 1) + 1, by omega, i + 1, H6, us.push V6, b1.turn (t := s6.toks) KC b3 kD, b2, b3, T.frame _ _ _ b4 fun o e => kD _ _ hJD e, b5.update _, by simp; omega, hi, rfl, ?_⟩
            simpa using z
          · obtain ⟨_, _, _, _, _, _, z⟩ := z
            exact z.elim
      · obtain ⟨_, _, _, _, _, _, z⟩ := z
        exact z.elim
    · have : i = items.length := Nat.le_antisymm hle hi
      subst this
      rw [List.drop_length] at q
      unfold compG at q
      refine T.done s _ _ Hc I.objs ofJ.h q.1 st fun h' tk k' => ?_
      have I' := I.turn (t := tk) KC ofJ k'
      have eD' : IsL h' s2.heap.objs.size us := let ⟨nD, e⟩ := eD; ⟨nD, k' _ _ hJD.symm e⟩
      obtain ⟨m, hnC, _⟩ := I'.loc
      rw [eE] at hnC
      refine ⟨m, hnC, fun h'' sb => ?_⟩
      have nC : Hc hp2.objs.size = none := by
        cases e : Hc hp2.objs.size with
        | none => rfl
        | some o =>
          have := I'.neL KC e
          rw [eE] at this
          exact absurd rfl this
      rw [← hFc] at I' ofD
      have IF := Inv.compUp K I2 I'
      have ofDF := Off.compUp K I2 ofD
      have ofC0 := I2.off K (a := hp2.objs.size) (Heap.get?_none_of_le (by rw [hC]; exact Nat.le_succ _))
      have ofC : Off F Hc hp2.objs.size := ⟨nC, ofC0.g, ofC0.fr, ofC0.l, ofC0.c⟩
      have IG := IF.turn (t := tk) (h' := h'') K ofC fun b o hb e => sb.extBut b o hb e
      refine ⟨_, IG.track (o := .list (us.toList.map er)) ofDF trivial (mt_list (let ⟨nD, e⟩ := eD'; ⟨nD, sb.extBut _ _ hDC e⟩) (szl (Nat.le_trans hus hz))), q.2 _ ofDF.h⟩
  exact codeAny_compStart_list (loop _ rfl) (T.self 0 _ _ _ (T.frame _ _ _ st fun o e => k1 _ _ e) (loop _ rfl))

/-- inside a handler no comprehension has a wp -/
theorem s_comp_no {sc scope : Scope} {x : Str} {px pos : Pos} {elt it : Expr} {ifs : List Expr} {elt' it' : Ex} {ifs' : List Ex} (hf : compFine sc scope x = true) (hset : notSet it = true) (hi : SE P G n true sc it it')
    (K : FmOk P F) (S : ScOk sc F) (R : Room n F.A) (HM : HmOk true F.A) (I : Inv P F l H s) {Q : QV} {X : XV} (q : wpE G true (.comp elt' x it' ifs') l H Q X) :
    wpAny P.M F.A (eval (.ListComp elt [⟨.Name x px, it, ifs, 0⟩] scope pos) F.env) (PostE P F l Q) (PostX P F l X) s := by
  obtain ⟨n1, n2, n3, n4, n5, n6⟩ := comp_names S K.kind hf
  obtain ⟨cl, hcl, nd, c1, c2⟩ := closure_ok (env := F.env) n2 fun y hy => (n5 y hy).2
  rw [eval_ListComp]
  simp only [wpE] at q
  refine wpAny_comprehension_free (use := none) rfl (fun _ => folded_no hset) hcl n1 (fun y hy hl => ?_) (wpAny_mono (hi K S R HM I q) (fun V s1 q => ?_) fun _ _ z => z)
  · obtain ⟨y, k⟩ := y
    have hl : k = .local := hl
    subst hl
    exact lookup_of_mem n2 hy
  obtain ⟨H1, I1, q, _⟩ := q
  exact absurd q (by simp)
end
end Mine
end

section
open PySem PyProof.Rows PySem.Calls
namespace Mine

section
variable {P : Pm} {F : Fm} {G : Gx} {n : Nat} {hm : Bool} {l : Loc} {H : Hp} {s : Shared} {E : Value → Shared → Prop} {Q : QV}

def bfVal : Bf → Option Value
  | .len => some (.builtin "len") | .list => some (.type "list") | .tuple => some (.type "tuple") | .sorted => some (.builtin "sorted") | .int => some (.type "int") | .all => some (.builtin "all")
  | .max2 => some (.builtin "max") | .max1 => some (.builtin "max") | .min2 => some (.builtin "min") | .range => some (.type "range") | .dict => some (.type "dict")
  | _ => none
theorem bf_val {f : Str} {k : Nat} {b : Bf} (h : bfTab f k = some b) : ∃ v, bfVal b = some v ∧ bltTab f = some v := by
  unfold bfTab at h
  by_cases e : (f == ("len" : Str)) = true
  · rw [if_pos e] at h
    rw [eq_of_beq e]
    split at h
    · cases h; exact ⟨_, rfl, by decide +kernel⟩
    · cases h
  rw [if_neg e] at h
  clear e
  by_cases e : (f == ("list" : Str)) = true
  · rw [if_pos e] at h
    rw [eq_of_beq e]
    split at h
    · cases h; exact ⟨_, rfl, by decide +kernel⟩
    · cases h
  rw [if_neg e] at h
  clear e
  by_cases e : (f == ("tuple" : Str)) = true
  · rw [if_pos e] at h
    rw [eq_of_beq e]
    split at h
    · cases h; exact ⟨_, rfl, by decide +kernel⟩
    · cases h
  rw [if_neg e] at h
  clear e
  by_cases e : (f == ("sorted" : Str)) = true
  · rw [if_pos e] at h
    rw [eq_of_beq e]
    split at h
    · cases h; exact ⟨_, rfl, by decide +kernel⟩
    · cases h
  rw [if_neg e] at h
  clear e
  by_cases e : (f == ("dict" : Str)) = true
  · rw [if_pos e] at h
    rw [eq_of_beq e]
    split at h
    · cases h; exact ⟨_, rfl, by decide +kernel⟩
    · cases h
  rw [if_neg e] at h
  clear e
  by_cases e : (f == ("int" : Str)) = true
  · rw [if_pos e] at h
    rw [eq_of_beq e]
    split at h
    · cases h; exact ⟨_, rfl, by decide +kernel⟩
    · cases h
  rw [if_neg e] at h
  clear e
  by_cases e : (f == ("all" : Str)) = true
  · rw [if_pos e] at h
    rw [eq_of_beq e]
    split at h
    · cases h; exact ⟨_, rfl, by decide +kernel⟩
    · cases h
  rw [if_neg e] at h
  clear e
  by_cases e : (f == ("max" : Str)) = true
  · rw [if_pos e] at h
    rw [eq_of_beq e]
    split at h
    · cases h; exact ⟨_, rfl, by decide +kernel⟩
    · split at h
      · cases h; exact ⟨_, rfl, by decide +kernel⟩
      · cases h
  rw [if_neg e] at h
  clear e
  by_cases e : (f == ("min" : Str)) = true
  · rw [if_pos e] at h
    rw [eq_of_beq e]
    split at h
    · cases h; exact ⟨_, rfl, by decide +kernel⟩
    · cases h
  rw [if_neg e] at h
  clear e
  by_cases e : (f == ("range" : Str)) = true
  · rw [if_pos e] at h
    rw [eq_of_beq e]
    cases h; exact ⟨_, rfl, by decide +kernel⟩
  rw [if_neg e] at h
  cases h

theorem one_of {Vs : List Value} {v : Value} (h : Vs.map er = [v]) : ∃ V, Vs = [V] ∧ er V = v := by
  cases Vs with
  | nil => cases h
  | cons W r => cases r with
    | nil => exact ⟨W, rfl, by simpa using h⟩
    | cons _ _ => simp at h
theorem two_of {Vs : List Value} {v w : Value} (h : Vs.map er = [v, w]) : ∃ V W, Vs = [V, W] ∧ er V = v ∧ er W = w := by
  cases Vs with
  | nil => cases h
  | cons V r =>
    simp at h
    obtain ⟨W, rfl, e⟩ := one_of (Vs := r) (v := w) (by simpa using h.2)
    exact ⟨V, W, rfl, h.1, e⟩

theorem s_bf (Y : PmOk P) (K : FmOk P F) (I : Inv P F l H s) {b : Bf} {v : Value} {Vs : List Value} (hv : bfVal b = some v) (hh : b = .len ∨ F.A.handled = none) (h : bfV b (Vs.map er) H Q) : wpAny P.M F.A (call v Vs) (PostE P F l Q) E s := by
  unfold bfV at h
  split at h
  · rename_i e; obtain ⟨V, rfl, rfl⟩ := one_of e
    cases hv
    exact s_len I rfl h
  · rename_i e; obtain ⟨V, rfl, rfl⟩ := one_of e
    cases hv
    unfold seqV at h
    split at h
    · rename_i a e; have := er_ref e; subst this
      split at h
      · rename_i hx
        obtain ⟨vs, ⟨o, ho, hc, n, hd⟩, e2, _⟩ := I.objs _ _ hx
        rw [← e2] at h
        exact s_copy K I (.inl rfl) ho hc hd (by simpa using h.1) h.2
      · rename_i hx
        obtain ⟨vs, ⟨o, ho, hc, n, hd⟩, e2, _⟩ := I.objs _ _ hx
        rw [← e2] at h
        exact s_copy K I (.inr rfl) ho hc hd (by simpa using h.1) h.2
      · exact h.elim
    · exact h.elim
  · rename_i e; obtain ⟨V, rfl, e'⟩ := one_of e
    cases hv
    have := er_ref e'; subst this
    split at h
    · rename_i xs hx
      obtain ⟨hz, q⟩ := h
      obtain ⟨vs, hl, e2, _⟩ := I.objs _ _ hx
      have hz' : vs.size ≤ sizeLine := by rw [← e2] at hz; simpa using hz
      refine call_tuple_list hl (fun h' hk => ?_) hz'
      have nn : s.heap.get? h'.objs.size = none := by
        cases q : s.heap.get? h'.objs.size with
        | none => rfl
        | some o => exact absurd (Heap.lt_size (hk _ _ q)) (Nat.lt_irrefl _)
      have of := I.off K nn
      have I' : Inv P F l H { s with heap := h'.push { cls := .type "tuple", data := .seq vs }, toks := s.toks } := I.step fun b o e _ => Heap.get?_push_of_some _ (hk b o e)
      have q := q _ of.h
      rw [← e2] at q
      exact ⟨_, I'.track (o := .tup (vs.toList.map er)) of trivial (mt_tup ⟨_, Heap.get?_push_size _ rfl, rfl, 0, rfl⟩ (by simp only [sizeLine] at hz'; omega)), q⟩
    · rename_i xs hx
      obtain ⟨vs, hl, e2, _⟩ := I.objs _ _ hx
      exact call_tuple_same hl ⟨H, I, h⟩
    · exact h.elim
  · rename_i e; obtain ⟨V, rfl, rfl⟩ := one_of e
    cases hv
    exact s_sorted Y K I (hh.resolve_left (by simp)) h
  · rename_i e; obtain ⟨V, rfl, e'⟩ := one_of e
    cases hv
    have := er_bool e'; subst this
    exact call_int_bool ⟨H, I.toks _, h⟩
  · rename_i e; obtain ⟨V, rfl, e'⟩ := one_of e
    cases hv
    have := er_ref e'; subst this
    split at h
    · rename_i hx
      obtain ⟨bs, hb, q⟩ := h
      exact s_all K I (hh.resolve_left (by simp)) hx hb q
    · exact h.elim
  · rename_i e; obtain ⟨V, W, rfl, e1, e2⟩ := two_of e
    cases hv
    obtain ⟨_, rfl⟩ := er_int e1; obtain ⟨_, rfl⟩ := er_int e2
    exact s_max2 I (hh.resolve_left (by simp)) h
  · rename_i e; obtain ⟨V, W, rfl, e1, e2⟩ := two_of e
    cases hv
    obtain ⟨_, rfl⟩ := er_int e1; obtain ⟨_, rfl⟩ := er_int e2
    exact s_min2 I (hh.resolve_left (by simp)) h
  · cases hv
    exact s_range K I h
  · exact h.elim

theorem se_bf (Y : PmOk P) (B : BltOk P) {sc : Scope} {f : Str} {b : Bf} {p pos : Pos} {args : List Expr} {args' : List Ex} {k : Nat} (hb : bfTab f k = some b) (hs : args.all notStar = true) (hl : isLoc sc f = some false) (ha : SEs P G n hm sc args args') :
    SE P G n hm sc (.Call (.Name f p) args [] pos) (.bf b args') := by
  intro F l K S R HM H s Q X I q
  simp only [wpE] at q
  obtain ⟨v, hv, hbt⟩ := bf_val hb
  refine wpAny_Call_NameR (ld_blt Y B K S I hbt hl ?_)
  refine callWith_any hs (wpAny_mono (ha K S R HM I q) (fun Vs s2 q => ?_) fun _ _ z => z)
  obtain ⟨H2, I2, hf, q⟩ := q
  refine ⟨?_, s_bf Y K I2 hv (hf.imp id HM) q⟩
  cases b <;> cases hv <;> exact ⟨.machine, .inr rfl, PySem.W.Looks.of_pure rfl⟩

theorem se_dict0 {sc : Scope} {pos : Pos} : SE P G n hm sc (.Dict [] [] pos) (.dict [] []) := by
  intro F l K S R HM H s Q X I q
  simp only [wpE, wpEs] at q
  refine wpAny_Dict_empty ⟨_, I.alloc K (o := .idict []) (t := s.toks) ⟨[], ⟨_, #[], 0, Heap.get?_push_size _ rfl, ?_, rfl, ?_, ?_, by simp⟩, rfl⟩, ?_⟩
  · exact ⟨rfl, rfl, rfl⟩
  · intro e he; simp at he
  · exact Pairs.nil
  · unfold dictV at q
    rcases q with ⟨_, _, q⟩ | ⟨ss, e, _, _, _, hne, _⟩
    · exact q _ I.fresh
    · simp at e; exact absurd e hne
end
end Mine
end

section
open PySem PyProof.Rows PySem.Calls
namespace Mine

/-! ## every translated text keeps what its wp says -/
theorem sbs_nil {P : Pm} {G : Gx} {n : Nat} {hm : Bool} {sc : Scope} : SBs P G n hm sc [] [] := by
  intro F l K S R HM H s Q X pos op hne; exact absurd rfl hne
theorem se_comp {P : Pm} {G : Gx} {n : Nat} {hm : Bool} {sc scope : Scope} {x : Str} {px pos : Pos} {elt it : Expr} {ifs : List Expr} {elt' it' : Ex} {ifs' : List Ex} (hf : compFine sc scope x = true) (hset : notSet it = true) (hi : SE P G n hm sc it it') (he : SE P G n hm scope elt elt') (ht : STall P G n hm scope ifs ifs') :
    SE P G n hm sc (.ListComp elt [⟨.Name x px, it, ifs, 0⟩] scope pos) (.comp elt' x it' ifs') := by
  intro F l K S R HM H s Q X I q
  cases hm with
  | false => exact s_comp rfl hf hset hi he ht K S R HM I q
  | true => exact s_comp_no hf hset hi K S R HM I q
section
variable {P : Pm} {G : Gx} {n : Nat} {hm : Bool} {sc : Scope}
theorem sts_one {e : Expr} {e' : Ex} (h : ST P G n hm sc e e') : STs P G n hm sc [e] [e'] := sts_cons (fun _ => rfl) h sts_nil
theorem sts_more {e e2 : Expr} {e' e2' : Ex} {es : List Expr} {es' : List Ex} (h : ST P G n hm sc e e') (r : STs P G n hm sc (e2 :: es) (e2' :: es')) : STs P G n hm sc (e :: e2 :: es) (e' :: e2' :: es') := sts_cons (fun q => nomatch q) h r
theorem se_bop1 {op : BoolOp} {e : Expr} {e' : Ex} {es : List Expr} {es' : List Ex} {pos : Pos} (h : SBs P G n hm sc (e :: es) (e' :: es')) : SE P G n hm sc (.BoolOp op (e :: es) pos) (.bop (op == .And) (e' :: es')) := se_bop (List.cons_ne_nil _ _) h
theorem se_idx1 {x y : Expr} {x' y' : Ex} {pos : Pos} (hx : SE P G n hm sc x x') (hy : SE P G n hm sc y y') (hsl : (fun o i => subscripted y false o i) = fun o i => operate [o, i] (getItem o i)) : SE P G n hm sc (.Subscript x y pos) (.idx x' y') := se_idx hx hy fun o i => congrFun (congrFun hsl o) i
theorem st_of_se {e : Expr} {e' : Ex} (h : SE P G n hm sc e e') (he : (fun env whole => PySem.isTrue e env whole) = fun env whole => (do let v ← whole; standAt e.pos; holding [v] (truthy v))) : ST P G n hm sc e e' := SE.test h fun env w => congrFun (congrFun he env) w
end
theorem len1 {vals : List Value} (h : vals.length = 1) : ∃ a, vals = [a] := by
  cases vals with
  | nil => cases h
  | cons a r => cases r with
    | nil => exact ⟨a, rfl⟩
    | cons _ _ => simp at h
theorem len2 {vals : List Value} (h : vals.length = 2) : ∃ a b, vals = [a, b] := by
  cases vals with
  | nil => cases h
  | cons a r =>
    obtain ⟨b, rfl⟩ := len1 (vals := r) (by simpa using h)
    exact ⟨a, b, rfl⟩
theorem len3 {vals : List Value} (h : vals.length = 3) : ∃ a b c, vals = [a, b, c] := by
  cases vals with
  | nil => cases h
  | cons a r =>
    obtain ⟨b, c, rfl⟩ := len2 (vals := r) (by simpa using h)
    exact ⟨a, b, c, rfl⟩
theorem len0 {vals : List Value} (h : vals.length = 0) : vals = [] := List.eq_nil_of_length_eq_zero h
theorem len4 {vals : List Value} (h : vals.length = 4) : ∃ a b c d, vals = [a, b, c, d] := by
  cases vals with
  | nil => cases h
  | cons a r =>
    obtain ⟨b, c, d, rfl⟩ := len3 (vals := r) (by simpa using h)
    exact ⟨a, b, c, d, rfl⟩
theorem len5 {vals : List Value} (h : vals.length = 5) : ∃ a b c d e, vals = [a, b, c, d, e] := by
  cases vals with
  | nil => cases h
  | cons a r =>
    obtain ⟨b, c, d, e, rfl⟩ := len4 (vals := r) (by simpa using h)
    exact ⟨a, b, c, d, e, rfl⟩
def bodyOf : Stmt → List Stmt
  | .FunctionDef _ _ b _ _ _ _ _ _ _ => b
  | _ => []
def scOf : Stmt → Scope
  | .FunctionDef _ _ _ _ _ _ sc _ _ _ => sc
  | _ => default
end Mine
end

section
open PySem PyProof.Rows PySem.Calls
namespace Mine

/-! ## the defs of a text, by the depth of their calls -/
abbrev Tab := Addr → Option (List Str × List Sm)

def GG (g : Gx) (tab : Tab) : Nat → Gx
  | 0 => { g with fn := fun _ _ _ _ _ _ => False }
  | n + 1 => { g with fn := fun f hm args H Q X => match tab f with
      | some (ps, sm) => wpF (GG g tab n) hm ps sm args H Q X
      | none => False }

structure TabOk (P : Pm) (tab : Tab) : Prop where
  ok : ∀ f ps sm, tab f = some (ps, sm) → ∃ sc body, FnAt P f ps sc body ∧ ∀ {G : Gx} {n : Nat}, GxOk P G → SndFn P G n → ∀ hm, SS P G n hm sc body sm

section
variable {P : Pm} {g : Gx} {tab : Tab}

theorem gg_ok (GO : GxOk P g) (n : Nat) : GxOk P (GG g tab n) := by
  cases n <;> exact ⟨GO.glob, GO.fld, GO.meth, GO.init, GO.exc, GO.sub, GO.self, GO.own⟩

theorem gg_snd (Y : PmOk P) (B : BltOk P) (GO : GxOk P g) (T : TabOk P tab) : ∀ n, SndFn P (GG g tab n) n
  | 0 => ⟨fun h => h.elim, fun h => h.elim⟩
  | n + 1 => by
    have ih := gg_snd Y B GO T n
    refine ⟨fun {f hm args H Q X} h => ?_, fun {f hm args H Q X} h {F l s vals} K R HM I hv => ?_⟩
    · have h : (match tab f with | some (ps, sm) => wpF (GG g tab n) hm ps sm args H Q X | none => False) := h
      split at h
      · rename_i ps sm e
        obtain ⟨sc, body, D, _⟩ := T.ok f ps sm e
        exact D.keep
      · exact h.elim
    · have h : (match tab f with | some (ps, sm) => wpF (GG g tab n) hm ps sm args H Q X | none => False) := h
      split at h
      · rename_i ps sm e
        obtain ⟨sc, body, D, htr⟩ := T.ok f ps sm e
        exact call_def Y D (htr (gg_ok GO n) ih hm) h K R HM I hv
      · exact h.elim

/-- the call of the law itself -/
theorem call_top (Y : PmOk P) (B : BltOk P) (GO : GxOk P g) (T : TabOk P tab) {n : Nat} {f : Addr} {A : Around} (hA : A.frames = some []) (hh : A.handled = none) (R : RoomC (n + 1) A) {vals : List Value} {Q : QV} {H₀ : Hp} (hH : ∀ a o, H₀ a = some o → o.isR = true ∧ Mt P P.base a o)
    (q : (GG g tab (n + 1)).fn f false (vals.map er) H₀ Q (fun _ _ => False)) :
    codeAny P.M A (.call (.ref f) ⟨vals, []⟩) (fun r s' => ∃ V H', r = .ok (.ret V) ∧ Q (er V) H' ∧ s'.gens = P.s₀.gens ∧ s'.os = P.s₀.os ∧ ∀ b o, P.base.get? b = some o → s'.heap.get? b = some o) P.s₀ := by
  have q : (match tab f with | some (ps, sm) => wpF (GG g tab n) false ps sm (vals.map er) H₀ Q (fun _ _ => False) | none => False) := q
  split at q
  · rename_i ps sm e
    obtain ⟨sc, body, D, htr⟩ := T.ok f ps sm e
    have hb : SS P (GG g tab n) n false sc body sm := htr (gg_ok GO n) (gg_snd Y B GO T n) false
    obtain ⟨hlen, q⟩ := q
    obtain ⟨o, fd, d1, d2, d3, d4, d5, d6, d7, d8, d9⟩ := D.at_
    have fine := D.fine
    unfold scFine at fine
    simp only [Bool.and_eq_true, beq_iff_eq, Bool.not_eq_true', decide_eq_true_eq, List.all_eq_true, Bool.or_eq_true, bne_iff_ne, ne_eq] at fine
    obtain ⟨⟨⟨⟨⟨⟨f1, f2⟩, f3⟩, f4⟩, f5⟩, f6⟩, f7⟩ := fine
    have kd : ∀ x, (callEnvC fd P.s₀.heap.objs.size f).kindOf x = sc.names.lookup x := fun x => by show fd.scope.names.lookup x = _; rw [d5]
    have cl : ∀ x, sc.names.lookup x = some .cell → ∃ c, (callEnvC fd P.s₀.heap.objs.size f).cells.lookup x = some c := fun x hx => by
      show ∃ c, (cellsFrom _ fd.scope.names []).lookup x = some c
      rw [d5]; exact cells_lookup _ _ _ hx
    have nf : ∀ x, sc.names.lookup x ≠ some .free := fun x hx => f5 _ (mem_of_lookup hx) rfl
    refine codeAny_call_cells (binds := ps.zip vals) (by have := R.1; omega) d1 d2 Y.lim d3 d4 (d9 vals (by simpa using hlen.symm)) d6 (fun x hx => ?_) (fun s₁ x => ?_) (by rw [d5]; exact f2) (by rw [d5]; exact f3) (by rw [d5]; exact f1)
    · have := f6 x.1 (List.of_mem_zip (a := x.1) (b := x.2) hx).1
      rw [d5]
      rcases this with h | h
      · exact .inl h
      · obtain ⟨c, hc⟩ := cells_lookup (x := x.1) sc.names (P.s₀.heap.objs.size + 1) [] h
        exact .inr ⟨h, by rw [hc]; rfl⟩
    · let F : Fm := { env := callEnvC fd P.s₀.heap.objs.size f, A := A.deeper (callEnvC fd P.s₀.heap.objs.size f), g := fun b => P.base.get? b, fr := fun _ => none, ro := false }
      have nn : ∀ b, P.s₀.heap.objs.size ≤ b → P.base.get? b = none := fun b hb => Heap.get?_none_of_le hb
      have ab : ∀ y c, (y, c) ∈ F.env.cells → P.s₀.heap.objs.size < c := x.above
      have K : FmOk P F := by
        refine ⟨by show fd.scope.kind = _; rw [d5]; exact f1, d7, d8, fun b o e => e, Nat.le_refl _, nn _ (Nat.le_refl _), rfl, fun y c hm => Nat.ne_of_gt (ab y c hm), fun _ y c hm => ⟨nn c (Nat.le_of_lt (ab y c hm)), rfl⟩, x.apart,
          fun y c hm => lookup_of_mem (cells_names _ _ _ (by rw [d5]; exact f4) .nil (by simp)) hm, fun _ _ _ => rfl, fun b d e => (nomatch e), ?_⟩
        refine ⟨F.env, [], ?_, fun _ => ⟨rfl, rfl⟩, fun e he => ?_⟩
        · show A.frames.map _ = _
          rw [hA]; rfl
        · rcases List.mem_cons.mp he with rfl | he
          · exact ⟨by show fd.scope.kind ≠ _; rw [d5, f1]; decide, _, rfl, .inl rfl⟩
          · cases he
      have S : ScOk sc F := by
        refine ⟨fun y hy => ?_, fun y hy => ?_, fun y hy => (kd y).trans hy, fun y hy => ⟨(kd y).trans hy, cl y hy⟩⟩
        · unfold isLoc at hy
          split at hy
          · rename_i e; exact .inl ((kd y).trans e)
          · rename_i e; exact .inr ⟨.inl ((kd y).trans e), cl y e⟩
          · rename_i e; exact absurd e (nf y)
          · split at hy <;> cases hy
          · cases hy
        · unfold isLoc at hy
          split at hy
          · split at hy <;> cases hy
          · split at hy <;> cases hy
          · split at hy <;> cases hy
          · rename_i e; exact (kd y).trans e
          · cases hy
      have I : Inv P F (fun y => (ps.zip (vals.map er)).lookup y) H₀ s₁ := by
        obtain ⟨⟨⟨h, tk, rfl⟩, ns, keep, fresh⟩, cell, apart, above⟩ := x
        refine ⟨rfl, rfl, keep, fun b d e => (nomatch e), ⟨_, ns, fun y v hy hk => ((bindL_get hk ps vals _ f7 v).1 hy)⟩, fun y c e => ⟨_, cell y c e, fun v hy hk => ((bindC_get (fun q => ?_) ps vals _ f7 v).1 hy)⟩, fun a o e => ?_, fun a o e => ?_, fun a o e => ?_⟩
        · have hk : (callEnvC fd P.s₀.heap.objs.size f).kindOf y = some .cell ∨ (callEnvC fd P.s₀.heap.objs.size f).kindOf y = some .free := hk
          rw [q] at hk; simp at hk
        · obtain ⟨O, ho⟩ := (hH a o e).2.some
          exact (hH a o e).2.congr ((keep a O ho).trans ho.symm)
        · exact fre_r (hH a o e).1 (hH a o e).2.some
        · have := (hH a o e).1
          cases o <;> first | trivial | cases this
      refine wpAny_mono (hb K S ⟨?_, ?_⟩ (fun _ => hh) rfl I q) (fun fl s' z => ?_) fun EV s' z => ?_
      · show A.depth + 1 + 2 * n + 2 < _
        have := R.1; omega
      · show A.units + 3 + 30 * n + 200 < _
        have := R.2; omega
      · obtain ⟨l2, H2, I2, z⟩ := z
        cases fl with
        | next => exact ⟨_, H2, rfl, z, I2.gens, I2.os, I2.keep⟩
        | brk => exact z.elim
        | cont => exact z.elim
        | ret v => exact ⟨_, H2, rfl, z, I2.gens, I2.os, I2.keep⟩
      · obtain ⟨_, _, _, _, _, _, _, z⟩ := z
        exact z.elim
  · exact q.elim
end
end Mine
end

section
open PySem PyProof.Rows PySem.Calls
open PySem.W (Frag nsIn mg_of ns_none_of findIn plainGet hasDictIn isFn plainOver takerIn makesIn subIn mroIn clsIn typeIn findObj excIn keepIn codeIn codeRec_of own_of_in TopRead)
namespace Mine

/-! ## what a fragment of the heap says -/
def excOk (K : Frag) (names : List Str) (C : Addr) : Bool :=
  findIn K (.ref C) "__getattribute__" == some (some (.builtin "BaseException.__getattribute__")) && findIn K (.ref C) "__getattr__" == some none &&
  (match findObj K C none "__class__" with | some (.bind g a) => g == .builtin "getset_descriptor.__get__" && a == .builtin "object.__class__" | _ => false) &&
  mroIn K C (.type "object") == some true && mroIn K C (.type "BaseException") == some true && (clsIn K C).isSome && typeIn K (.ref C) == some (.type "type") && subIn K (.ref C) (.type "ValueError") == some true &&
  subIn K (.ref C) (.ref C) == some true && excIn K C veMro "ValueError.__new__" && names.any fun x => nsIn K mainGlobals x == some (some (.ref C))

/-- the small text's top, as a fragment tells it -/
def gOf (K : Frag) (names : List Str) : Gx where
  glob := fun x => match nsIn K mainGlobals x with | some (some v) => some (er v) | _ => none
  fn := fun _ _ _ _ _ _ => False
  meth := fun C m => match findIn K (.ref C) m with | some (some (.ref f)) => if plainGet K C m && isFn K (.ref f) then some f else none | _ => none
  init := fun C => match findIn K (.ref C) "__init__" with | some (some (.ref f)) => if makesIn K C && isFn K (.ref f) && keepIn K (.ref C) then some f else none | _ => none
  isExc := excOk K names
  sub := fun C D => subIn K (.ref C) (.ref D) == some true
  fld := fun C a => plainGet K C a && hasDictIn K C && findIn K (.ref C) a == some none && findIn K (.ref C) "__setattr__" == some (some (.builtin "object.__setattr__")) && plainOver K C && takerIn K C a == some none

theorem g_ok {P : Pm} {names : List Str} {p : Program} {loose : List Str} (Y : PmOk P) (T : TopRead p loose P.mg P.mb P.base) : GxOk P (gOf P.K names) := by
  refine ⟨fun x v h => ?_, fun C a h => ?_, fun C m f h => ?_, fun C f h => ?_, fun C h => ?_, fun C D h _ => ?_, fun C h => ?_, fun C h => ?_⟩
  · have h : (match nsIn P.K mainGlobals x with | some (some v) => some (er v) | _ => none) = some v := h
    split at h
    · rename_i V e
      cases h
      exact ⟨V, rfl, .inl (mg_of Y.kin T.g e)⟩
    · cases h
  · simp only [gOf, Bool.and_eq_true, beq_iff_eq] at h
    obtain ⟨⟨⟨⟨⟨h1, h2⟩, h3⟩, h4⟩, h5⟩, h6⟩ := h
    exact ⟨h1, h2, h3, h4, h5, h6⟩
  · have h : (match findIn P.K (.ref C) m with | some (some (.ref f)) => if plainGet P.K C m && isFn P.K (.ref f) then some f else none | _ => none) = some f := h
    split at h
    · rename_i f' e
      split at h
      · rename_i q
        simp only [Bool.and_eq_true] at q
        cases h
        exact ⟨q.1, e, q.2⟩
      · cases h
    · cases h
  · have h : (match findIn P.K (.ref C) "__init__" with | some (some (.ref f)) => if makesIn P.K C && isFn P.K (.ref f) && keepIn P.K (.ref C) then some f else none | _ => none) = some f := h
    split at h
    · rename_i f' e
      split at h
      · rename_i q
        simp only [Bool.and_eq_true] at q
        cases h
        exact ⟨q.1.1, e, q.1.2, q.2⟩
      · cases h
    · cases h
  · have h : excOk P.K names C = true := h
    unfold excOk at h
    simp only [Bool.and_eq_true, beq_iff_eq] at h
    obtain ⟨⟨⟨⟨⟨⟨⟨⟨⟨⟨h1, h2⟩, h3⟩, h4⟩, h5⟩, h6⟩, h7⟩, h8⟩, h9⟩, h10⟩, h11⟩ := h
    refine ⟨h1, h2, ?_, h4, h5, h6, h7, h8⟩
    split at h3
    · rename_i g a e
      simp only [Bool.and_eq_true, beq_iff_eq] at h3
      rw [e, h3.1, h3.2]
    · cases h3
  · have h : excOk P.K names C = true := h
    unfold excOk at h
    simp only [Bool.and_eq_true, beq_iff_eq] at h
    obtain ⟨⟨⟨⟨⟨⟨⟨⟨⟨⟨h1, h2⟩, h3⟩, h4⟩, h5⟩, h6⟩, h7⟩, h8⟩, h9⟩, h10⟩, h11⟩ := h
    show subIn P.K (.ref C) (.ref D) = some (subIn P.K (.ref C) (.ref D) == some true)
    show mroIn P.K C (.ref D) = some (mroIn P.K C (.ref D) == some true)
    unfold mroIn at h4 ⊢
    obtain ⟨cd, hc, h4⟩ := Option.bind_eq_some_iff.mp h4
    rw [hc]
    simp only [Option.bind_some]
    split at h4
    · cases h4
    · rename_i q
      rw [if_neg q]
      cases cd.mro.contains (Value.ref D) <;> rfl
  · have h : excOk P.K names C = true := h
    unfold excOk at h
    simp only [Bool.and_eq_true, beq_iff_eq] at h
    obtain ⟨⟨⟨⟨⟨⟨⟨⟨⟨⟨h1, h2⟩, h3⟩, h4⟩, h5⟩, h6⟩, h7⟩, h8⟩, h9⟩, h10⟩, h11⟩ := h
    exact beq_iff_eq.mpr h9
  · have h : excOk P.K names C = true := h
    unfold excOk at h
    simp only [Bool.and_eq_true] at h
    obtain ⟨⟨_, h10⟩, h11⟩ := h
    obtain ⟨x, _, hx⟩ := List.any_eq_true.mp h11
    exact (own_of_in Y.kin T (beq_iff_eq.mp hx) h10).obj

def bltNames : List Str := ["len", "isinstance", "list", "tuple", "sorted", "dict", "int", "all", "max", "min", "range", "str", "bool", "ValueError", "set"]
theorem blt_mem {x : Str} {v : Value} (h : bltTab x = some v) : x ∈ bltNames ∧ bootBuiltins x = some v ∧ x ≠ "__name__" := by
  unfold bltTab at h
  by_cases e : (x == ("len" : Str)) = true
  · rw [if_pos e] at h
    rw [eq_of_beq e]
    cases h
    exact ⟨by simp [bltNames], by decide +kernel, by decide +kernel⟩
  rw [if_neg e] at h
  clear e
  by_cases e : (x == ("isinstance" : Str)) = true
  · rw [if_pos e] at h
    rw [eq_of_beq e]
    cases h
    exact ⟨by simp [bltNames], by decide +kernel, by decide +kernel⟩
  rw [if_neg e] at h
  clear e
  by_cases e : (x == ("list" : Str)) = true
  · rw [if_pos e] at h
    rw [eq_of_beq e]
    cases h
    exact ⟨by simp [bltNames], by decide +kernel, by decide +kernel⟩
  rw [if_neg e] at h
  clear e
  by_cases e : (x == ("tuple" : Str)) = true
  · rw [if_pos e] at h
    rw [eq_of_beq e]
    cases h
    exact ⟨by simp [bltNames], by decide +kernel, by decide +kernel⟩
  rw [if_neg e] at h
  clear e
  by_cases e : (x == ("sorted" : Str)) = true
  · rw [if_pos e] at h
    rw [eq_of_beq e]
    cases h
    exact ⟨by simp [bltNames], by decide +kernel, by decide +kernel⟩
  rw [if_neg e] at h
  clear e
  by_cases e : (x == ("dict" : Str)) = true
  · rw [if_pos e] at h
    rw [eq_of_beq e]
    cases h
    exact ⟨by simp [bltNames], by decide +kernel, by decide +kernel⟩
  rw [if_neg e] at h
  clear e
  by_cases e : (x == ("int" : Str)) = true
  · rw [if_pos e] at h
    rw [eq_of_beq e]
    cases h
    exact ⟨by simp [bltNames], by decide +kernel, by decide +kernel⟩
  rw [if_neg e] at h
  clear e
  by_cases e : (x == ("all" : Str)) = true
  · rw [if_pos e] at h
    rw [eq_of_beq e]
    cases h
    exact ⟨by simp [bltNames], by decide +kernel, by decide +kernel⟩
  rw [if_neg e] at h
  clear e
  by_cases e : (x == ("max" : Str)) = true
  · rw [if_pos e] at h
    rw [eq_of_beq e]
    cases h
    exact ⟨by simp [bltNames], by decide +kernel, by decide +kernel⟩
  rw [if_neg e] at h
  clear e
  by_cases e : (x == ("min" : Str)) = true
  · rw [if_pos e] at h
    rw [eq_of_beq e]
    cases h
    exact ⟨by simp [bltNames], by decide +kernel, by decide +kernel⟩
  rw [if_neg e] at h
  clear e
  by_cases e : (x == ("range" : Str)) = true
  · rw [if_pos e] at h
    rw [eq_of_beq e]
    cases h
    exact ⟨by simp [bltNames], by decide +kernel, by decide +kernel⟩
  rw [if_neg e] at h
  clear e
  by_cases e : (x == ("str" : Str)) = true
  · rw [if_pos e] at h
    rw [eq_of_beq e]
    cases h
    exact ⟨by simp [bltNames], by decide +kernel, by decide +kernel⟩
  rw [if_neg e] at h
  clear e
  by_cases e : (x == ("bool" : Str)) = true
  · rw [if_pos e] at h
    rw [eq_of_beq e]
    cases h
    exact ⟨by simp [bltNames], by decide +kernel, by decide +kernel⟩
  rw [if_neg e] at h
  clear e
  by_cases e : (x == ("ValueError" : Str)) = true
  · rw [if_pos e] at h
    rw [eq_of_beq e]
    cases h
    exact ⟨by simp [bltNames], by decide +kernel, by decide +kernel⟩
  rw [if_neg e] at h
  clear e
  by_cases e : (x == ("set" : Str)) = true
  · rw [if_pos e] at h
    rw [eq_of_beq e]
    cases h
    exact ⟨by simp [bltNames], by decide +kernel, by decide +kernel⟩
  rw [if_neg e] at h
  clear e
  cases h

theorem blt_ok {P : Pm} {p : Program} {loose : List Str} (Y : PmOk P) (T : TopRead p loose P.mg P.mb P.base) (h : bltNames.all (fun x => nsIn P.K mainGlobals x == some none) = true) : BltOk P := by
  refine ⟨fun x v hx => ?_⟩
  obtain ⟨h1, h2, h3⟩ := blt_mem hx
  have := List.all_eq_true.mp h x h1
  exact ⟨ns_none_of Y.kin T.g (beq_iff_eq.mp this), (T.builtins x h3).trans h2⟩

theorem tab_mem {α : Type} {a : Addr} {b : α} : ∀ {l : List (Addr × α)}, l.lookup a = some b → (a, b) ∈ l
  | [], h => by cases h
  | (c, d) :: r, h => by
    rw [List.lookup_cons] at h
    split at h
    · rename_i e
      cases h
      have : a = c := by simpa using e
      rw [this]; exact .head _
    · exact .tail _ (tab_mem h)

/-- a def of the fragment -/
theorem fn_at {P : Pm} {f : Addr} {o : Obj} {fd : FuncData} {ps : List Str} {body : List Stmt} (Y : PmOk P) (h1 : P.K.lookup f = some o) (h2 : o.data = .func fd) (h3 : codeIn P.K fd.code fd.qualname = true) (h4 : fd.body = .stmts body) (h5 : fd.closure = []) (h6 : fd.globals = mainGlobals) (h7 : fd.builtins = builtinsNs)
    (h8 : ∀ vals, vals.length = ps.length → bindArgs fd ⟨vals, []⟩ = pure (ps.zip vals)) (h9 : scFine fd.scope ps = true) (h10 : keepIn P.K (.ref f) = true) : FnAt P f ps fd.scope body :=
  ⟨⟨o, fd, Y.kin _ _ h1, h2, codeRec_of Y.kin h3, h4, rfl, h5, h6, h7, h8⟩, h9, h10⟩
end Mine
end

section
open PySem PyProof.Rows PySem.Calls
open PySem.W (Frag nsIn mg_of TopRead)
namespace Mine

/-- the script, as the law may read it -/
def hOf (a : Addr) (ns : List Int) : Hp := fun b => if b = a then some (.rlist (ns.map fun n => Value.int n 0)) else none

/-- what is to be shown of a law: its small text tells True, whatever the script -/
def LawTells (K : Params → Frag) (names : List Str) (tab : Tab) (f : Addr) : Prop :=
  ∀ (p : Params) (a : Addr) (ns : List Int), ns.length ≤ 63 → (GG (gOf (K p) names) tab 13).fn f false [.ref a] (hOf a ns) (fun v _ => v = .bool true) (fun _ _ => False)

theorem law_runs {prog vp : Program} {w : World} {s : Shared} {mg mb : Str → Option Value} {K : Params → Frag} {names loose : List Str} {tab : Tab} {f fa a : Addr} {nm : Str} {vs : List Value} {ns : List Int} {Q : Value → Shared → Prop} {E : Value → Shared → Prop}
    (KX : (K w.params).In s.heap) (T : TopRead vp loose mg mb s.heap) (hmg : mg nm = some (.ref fa)) (hf : nsIn (K w.params) mainGlobals nm = some (some (.ref f))) (hb : bltNames.all (fun x => nsIn (K w.params) mainGlobals x == some none) = true)
    (TO : ∀ {P : Pm}, PmOk P → BltOk P → P.K = K P.w.params → TabOk P tab) (hL : s.heap.IsList a vs.toArray) (hI : IntsAre vs ns) (hl : ¬ (63 : Int) < (ns.length : Int)) (law : LawTells K names tab f)
    (q : ∀ s', s'.gens = s.gens → s'.os = s.os → (∀ b o, s.heap.get? b = some o → s'.heap.get? b = some o) → Q (.bool true) s') :
    wpAny (model prog w) callerA (call (.ref fa) [.ref a]) Q E s := by
  let P : Pm := { prog := prog, w := w, s₀ := s, mg := mg, mb := mb, K := K w.params }
  have Y : PmOk P := ⟨T.g, T.b, T.nolimit, KX⟩
  have T' : TopRead vp loose P.mg P.mb P.base := T
  have GO : GxOk P (gOf P.K names) := g_ok Y T'
  have hH : ∀ b o, hOf a ns b = some o → o.isR = true ∧ Mt P P.base b o := fun b o h => by
    unfold hOf at h
    split at h
    · rename_i e
      cases h
      subst e
      exact ⟨rfl, vs.toArray, hL, seq_ints hI, by simp; omega⟩
    · cases h
  have B : BltOk P := blt_ok Y T' hb
  have e : fa = f := by
    have := mg_of KX T.g hf
    rw [hmg] at this
    cases this; rfl
  subst e
  have L := law w.params a ns (by omega)
  refine wpAny_call (codeAny_mono (call_top (P := P) Y B GO (TO Y B rfl) (n := 12) rfl rfl ?_ (vals := [.ref a]) hH L) fun r s' z => ?_)
  · exact ⟨by decide, by decide⟩
  · obtain ⟨V, H', rfl, hV, h1, h2, h3⟩ := z
    have := er_bool hV
    subst this
    exact q s' h1 h2 h3
end Mine
end

section
open PySem PyProof.Rows
namespace Mine

/-! ## loops, in the small wp -/
theorem rsize_nat (n : Nat) : Builtin.Range.rangeSize 0 (n : Int) 1 = n := by
  unfold Builtin.Range.rangeSize
  rw [if_pos (by decide)]
  split <;> omega
theorem rangeL_nat (n : Nat) : rangeL 0 (n : Int) 1 = (List.range n).map fun (k : Nat) => Value.int (k : Int) 0 := by
  unfold rangeL
  rw [rsize_nat]
  refine List.map_congr_left fun k _ => ?_
  congr 1; omega
theorem rangeL_len (n : Nat) : (rangeL 0 (n : Int) 1).length = n := by rw [rangeL_nat]; simp
theorem small_nat {n : Nat} (h : n < 2 ^ 60) : Builtin.Range.small 0 (n : Int) 1 = true := by
  unfold Builtin.Range.small
  rw [rsize_nat]
  simp [Builtin.Range.rangeFitsLong]
  omega

theorem forG_ind {guard : Hp → Prop} {x : Str} {body : Loc → Hp → QS → Prop} {Q : QS} (I : Nat → Loc → Hp → Prop) {f : Nat → Value} :
    ∀ (m k : Nat), (∀ i l H, I i l H → guard H) →
    (∀ i, k ≤ i → i < k + m → ∀ l H, I i l H → ∀ K : QS, (∀ l' H', I (i + 1) l' H' → K .next l' H' ∧ K .cont l' H') → (∀ r l' H', Q (.ret r) l' H' → K (.ret r) l' H') → body (l.upd x (f i)) H K) →
    (∀ l H, I (k + m) l H → Q .next l H) → ∀ l H, I k l H → forG guard x body ((List.range' k m).map f) l H Q
  | 0, k, hg, _, hq, l, H, h => ⟨hg _ _ _ h, hq _ _ h⟩
  | m + 1, k, hg, hb, hq, l, H, h => by
    refine ⟨hg _ _ _ h, hb k (Nat.le_refl _) (by omega) l H h _ (fun l' H' h' => ?_) fun r l' H' q => q⟩
    have ih := forG_ind (guard := guard) (x := x) (body := body) (Q := Q) I (f := f) m (k + 1) hg (fun i h1 h2 => hb i (by omega) (by omega)) (fun l H h => hq l H (by rw [show k + (m + 1) = k + 1 + m by omega]; exact h)) l' H' h'
    exact ⟨ih, ih⟩

theorem forG_range {guard : Hp → Prop} {x : Str} {body : Loc → Hp → QS → Prop} {Q : QS} (I : Nat → Loc → Hp → Prop) {n : Nat} {l : Loc} {H : Hp}
    (hg : ∀ i l H, I i l H → guard H)
    (hb : ∀ i, i < n → ∀ l H, I i l H → ∀ K : QS, (∀ l' H', I (i + 1) l' H' → K .next l' H' ∧ K .cont l' H') → (∀ r l' H', Q (.ret r) l' H' → K (.ret r) l' H') → body (l.upd x (.int (i : Int) 0)) H K)
    (hq : ∀ l H, I n l H → Q .next l H) (h : I 0 l H) : forG guard x body (rangeL 0 (n : Int) 1) l H Q := by
  rw [rangeL_nat, List.range_eq_range']
  exact forG_ind I (f := fun (k : Nat) => Value.int (k : Int) 0) n 0 hg (fun i _ h2 => hb i (by omega)) (fun l H h => hq l H (by rw [Nat.zero_add] at h; exact h)) l H h

theorem compG_map {guard : Hp → Prop} {step : Value → Hp → (Option Value → Hp → Prop) → Prop} {f : Value → Value} {H : Hp} (hg : guard H) : ∀ (items acc : List Value) {k : List Value → Hp → Prop},
    (∀ v ∈ items, ∀ k' : Option Value → Hp → Prop, k' (some (f v)) H → step v H k') → k (acc ++ items.map f) H → compG guard step items acc H k
  | [], acc, k, _, h => ⟨hg, by simpa using h⟩
  | v :: vs, acc, k, hs, h => ⟨hg, hs v (List.mem_cons_self ..) _ (compG_map hg vs (acc ++ [f v]) (fun u hu => hs u (List.mem_cons_of_mem _ hu)) (by simpa using h))⟩
end Mine
namespace Mine
/-! ## locals and dicts, in the small wp -/
def Ls (l : Loc) : List (Str × Value) → Prop
  | [] => True
  | (x, v) :: r => l x = some v ∧ Ls l r
theorem Ls.upd {l : Loc} {y : Str} {v : Value} : ∀ {vs : List (Str × Value)}, Ls l vs → (vs.all fun p => p.1 != y) = true → Ls (l.upd y v) vs
  | [], _, _ => trivial
  | (x, u) :: r, h, n => by
    rw [List.all_cons, Bool.and_eq_true] at n
    have e : x ≠ y := bne_iff_ne.1 n.1
    exact ⟨by unfold Loc.upd; rw [if_neg e]; exact h.1, Ls.upd h.2 n.2⟩

section
variable {K : Type} [DecidableEq K]
theorem va_none {kvs : List (K × Value)} {m : K} (h : m ∉ kvs.map (·.1)) : valueAt kvs m = none := by
  unfold valueAt
  rw [Option.map_eq_none_iff, List.find?_eq_none]
  intro p hp e
  exact h (List.mem_map.2 ⟨p, hp, of_decide_eq_true e⟩)
theorem va_same {kvs : List (K × Value)} {m : K} {u : Value} (h : m ∉ kvs.map (·.1)) : valueAt (kvs ++ [(m, u)]) m = some u := by
  have := va_none h
  unfold valueAt at this ⊢
  rw [Option.map_eq_none_iff] at this
  rw [List.find?_append, this]
  simp
theorem st_new {kvs : List (K × Value)} {m : K} (v : Value) (h : m ∉ kvs.map (·.1)) : stored kvs m v = kvs ++ [(m, v)] := by
  unfold stored
  rw [if_neg]
  intro e
  obtain ⟨p, hp, e⟩ := List.any_eq_true.1 e
  exact h (List.mem_map.2 ⟨p, hp, of_decide_eq_true e⟩)
theorem st_same {kvs : List (K × Value)} {m : K} (u v : Value) (h : m ∉ kvs.map (·.1)) : stored (kvs ++ [(m, u)]) m v = kvs ++ [(m, v)] := by
  unfold stored
  rw [if_pos (by simp), List.map_append, map_store_of_not_mem kvs m v h]
  simp
theorem wo_same {kvs : List (K × Value)} {m : K} (u : Value) (h : m ∉ kvs.map (·.1)) : PySem.without (kvs ++ [(m, u)]) m = kvs := by
  have := without_of_not_mem kvs m h
  unfold PySem.without at this ⊢
  rw [List.filter_append, this]
  simp
end

theorem perm_eq {xs ys : List Int} (h : xs.Perm ys) (hx : xs.Pairwise (· ≤ ·)) (hy : ys.Pairwise (· ≤ ·)) : xs = ys := h.eq_of_pairwise (fun a b _ _ h1 h2 => Int.le_antisymm h1 h2) hx hy
end Mine
namespace Mine
theorem forG_list {guard : Hp → Prop} {x : Str} {body : Loc → Hp → QS → Prop} {Q : QS} (I : List Value → Loc → Hp → Prop) (hg : ∀ r l H, I r l H → guard H)
    (hb : ∀ v r l H, I (v :: r) l H → ∀ K : QS, (∀ l' H', I r l' H' → K .next l' H' ∧ K .cont l' H') → (∀ ρ l' H', Q (.ret ρ) l' H' → K (.ret ρ) l' H') → body (l.upd x v) H K)
    (hq : ∀ l H, I [] l H → Q .next l H) : ∀ (xs : List Value) (l : Loc) (H : Hp), I xs l H → forG guard x body xs l H Q
  | [], l, H, h => ⟨hg _ _ _ h, hq _ _ h⟩
  | v :: r, l, H, h => ⟨hg _ _ _ h, hb v r l H h _ (fun l' H' h' => ⟨forG_list I hg hb hq r l' H' h', forG_list I hg hb hq r l' H' h'⟩) fun _ _ _ q => q⟩

/-- a comprehension's turns, with what is left and what was made -/
theorem compG_list {guard : Hp → Prop} {step : Value → Hp → (Option Value → Hp → Prop) → Prop} {k : List Value → Hp → Prop} (I : List Value → List Value → Hp → Prop) (hg : ∀ r acc H, I r acc H → guard H)
    (hb : ∀ v r acc H, I (v :: r) acc H → ∀ K : Option Value → Hp → Prop, (∀ u H', (match u with | some u => I r (acc ++ [u]) H' | none => I r acc H') → K u H') → step v H K)
    (hk : ∀ acc H, I [] acc H → k acc H) : ∀ (xs acc : List Value) (H : Hp), I xs acc H → compG guard step xs acc H k
  | [], acc, H, h => ⟨hg _ _ _ h, hk _ _ h⟩
  | v :: r, acc, H, h => ⟨hg _ _ _ h, hb v r acc H h _ fun u H' h' => by
      cases u with
      | none => exact compG_list I hg hb hk r acc H' h'
      | some u => exact compG_list I hg hb hk r (acc ++ [u]) H' h'⟩
end Mine
end

section
open PySem PySem.W PyProof.Rows PySem.Challenge
set_option maxHeartbeats 0
set_option maxRecDepth 1000000
namespace Mine.L3
noncomputable section
/-- the text's statements -/
def stA (i : Nat) : Stmt := pw_uf040010_03.main.body.getD i (.Pass default)
def inA (i j : Nat) : Stmt := match stA i with
  | .ClassDef _ _ _ b _ _ _ _ _ _ _ => b.getD j (.Pass default)
  | s => s
def fo (st : Stmt) (q : String) (m : Value) (c : Nat) : FuncData := match st with
  | .FunctionDef n a b _ _ _ sc _ _ _ => { name := n, qualname := q, params := a, body := .stmts b, scope := sc, globals := 3, closure := [], defaults := .none, kwdefaults := .none, pyModule := m, code := .ref c }
  | _ => default
def en (P : Params) (x : String) (t : Nat) (v : Value) : DictEntry := { hash := PyData.keyHash P x, key := .str x t, val := v }
/-- what the top leaves -/
def KK (P : Params) : Frag := [
  (2, { cls := Value.none, data := Data.dict #[] }),
  (3, { cls := Value.type "dict", data := Data.dict #[en P "__name__" 165 (Value.str (Str.ofString "law_uf040010_03") 422), en P "__doc__" 166 (Value.none), en P "__package__" 167 (Value.none), en P "__loader__" 168 (Value.builtin "__main__.__loader__#opaque"), en P "__spec__" 169 (Value.none), en P "__annotations__" 170 (Value.ref 6), en P "__builtins__" 171 (Value.ref 4), en P "__file__" 173 (Value.str (Str.ofString "/claim/cut.py") 172), en P "__cached__" 174 (Value.none), en P "SnapError" 206 (Value.ref 24), en P "BadPath" 222 (Value.ref 37), en P "BadNumber" 238 (Value.ref 49), en P "Nothing" 254 (Value.ref 61), en P "LeafThere" 270 (Value.ref 73), en P "BranchThere" 286 (Value.ref 85), en P "NoShot" 302 (Value.ref 97), en P "NoBox" 318 (Value.ref 109), en P "Pile" 421 (Value.ref 189), en P "_law_whole" 430 (Value.ref 200), en P "_law_cell_at" 438 (Value.ref 207), en P "_law_count" 446 (Value.ref 214), en P "_law_leaf" 454 (Value.ref 221), en P "_law_asked" 463 (Value.ref 228), en P "_law_refused" 473 (Value.ref 235), en P "_law_kept" 479 (Value.ref 240), en P "law" 485 (Value.ref 245)] 26 }),
  (15, { cls := Value.type "tuple", data := Data.seq #[Value.type "ValueError"] }),
  (22, { cls := Value.type "tuple", data := Data.seq #[] }),
  (23, { cls := Value.type "dict", data := Data.dict #[en P "__module__" 196 (Value.str (Str.ofString "snaptree.errors") 187), en P "__firstlineno__" 200 (Value.int 2 199), en P "__static_attributes__" 201 (Value.ref 22), en P "__weakref__" 203 (Value.ref 25), en P "__doc__" 204 (Value.none)] 3 }),
  (24, { cls := Value.type "type", data := Data.cls { name := Str.ofString "SnapError", bases := [Value.type "ValueError"], mro := [Value.ref 24, Value.type "ValueError", Value.type "Exception", Value.type "BaseException", Value.type "object"], ns := 23, qualname := Str.ofString "SnapError", subclasses := [Value.ref 37, Value.ref 49, Value.ref 61, Value.ref 73, Value.ref 85, Value.ref 97, Value.ref 109] }, slots := #[some (Value.ref 15), none, some (Value.str (Str.ofString "SnapError") 189), some (Value.str (Str.ofString "SnapError") 197), some (Value.builtin "ValueError.__new__"), some (Value.bool true)] }),
  (25, { cls := Value.type "getset_descriptor", data := Data.fields #[Value.str (Str.ofString "__weakref__") 202, Value.ref 24, Value.builtin "ExceptionGroup.__weakref__", Value.none] }),
  (28, { cls := Value.type "tuple", data := Data.seq #[Value.ref 24] }),
  (35, { cls := Value.type "tuple", data := Data.seq #[] }),
  (36, { cls := Value.type "dict", data := Data.dict #[en P "__module__" 214 (Value.str (Str.ofString "snaptree.errors") 187), en P "__firstlineno__" 218 (Value.int 4 217), en P "__static_attributes__" 219 (Value.ref 35), en P "__doc__" 220 (Value.none)] 2 }),
  (37, { cls := Value.type "type", data := Data.cls { name := Str.ofString "BadPath", bases := [Value.ref 24], mro := [Value.ref 37, Value.ref 24, Value.type "ValueError", Value.type "Exception", Value.type "BaseException", Value.type "object"], ns := 36, qualname := Str.ofString "BadPath" }, slots := #[some (Value.ref 28), none, some (Value.str (Str.ofString "BadPath") 207), some (Value.str (Str.ofString "BadPath") 215), some (Value.builtin "ValueError.__new__"), some (Value.bool true)] }),
  (40, { cls := Value.type "tuple", data := Data.seq #[Value.ref 24] }),
  (47, { cls := Value.type "tuple", data := Data.seq #[] }),
  (48, { cls := Value.type "dict", data := Data.dict #[en P "__module__" 230 (Value.str (Str.ofString "snaptree.errors") 187), en P "__firstlineno__" 234 (Value.int 6 233), en P "__static_attributes__" 235 (Value.ref 47), en P "__doc__" 236 (Value.none)] 2 }),
  (49, { cls := Value.type "type", data := Data.cls { name := Str.ofString "BadNumber", bases := [Value.ref 24], mro := [Value.ref 49, Value.ref 24, Value.type "ValueError", Value.type "Exception", Value.type "BaseException", Value.type "object"], ns := 48, qualname := Str.ofString "BadNumber" }, slots := #[some (Value.ref 40), none, some (Value.str (Str.ofString "BadNumber") 223), some (Value.str (Str.ofString "BadNumber") 231), some (Value.builtin "ValueError.__new__"), some (Value.bool true)] }),
  (52, { cls := Value.type "tuple", data := Data.seq #[Value.ref 24] }),
  (59, { cls := Value.type "tuple", data := Data.seq #[] }),
  (60, { cls := Value.type "dict", data := Data.dict #[en P "__module__" 246 (Value.str (Str.ofString "snaptree.errors") 187), en P "__firstlineno__" 250 (Value.int 8 249), en P "__static_attributes__" 251 (Value.ref 59), en P "__doc__" 252 (Value.none)] 2 }),
  (61, { cls := Value.type "type", data := Data.cls { name := Str.ofString "Nothing", bases := [Value.ref 24], mro := [Value.ref 61, Value.ref 24, Value.type "ValueError", Value.type "Exception", Value.type "BaseException", Value.type "object"], ns := 60, qualname := Str.ofString "Nothing" }, slots := #[some (Value.ref 52), none, some (Value.str (Str.ofString "Nothing") 239), some (Value.str (Str.ofString "Nothing") 247), some (Value.builtin "ValueError.__new__"), some (Value.bool true)] }),
  (64, { cls := Value.type "tuple", data := Data.seq #[Value.ref 24] }),
  (71, { cls := Value.type "tuple", data := Data.seq #[] }),
  (72, { cls := Value.type "dict", data := Data.dict #[en P "__module__" 262 (Value.str (Str.ofString "snaptree.errors") 187), en P "__firstlineno__" 266 (Value.int 10 265), en P "__static_attributes__" 267 (Value.ref 71), en P "__doc__" 268 (Value.none)] 2 }),
  (73, { cls := Value.type "type", data := Data.cls { name := Str.ofString "LeafThere", bases := [Value.ref 24], mro := [Value.ref 73, Value.ref 24, Value.type "ValueError", Value.type "Exception", Value.type "BaseException", Value.type "object"], ns := 72, qualname := Str.ofString "LeafThere" }, slots := #[some (Value.ref 64), none, some (Value.str (Str.ofString "LeafThere") 255), some (Value.str (Str.ofString "LeafThere") 263), some (Value.builtin "ValueError.__new__"), some (Value.bool true)] }),
  (76, { cls := Value.type "tuple", data := Data.seq #[Value.ref 24] }),
  (83, { cls := Value.type "tuple", data := Data.seq #[] }),
  (84, { cls := Value.type "dict", data := Data.dict #[en P "__module__" 278 (Value.str (Str.ofString "snaptree.errors") 187), en P "__firstlineno__" 282 (Value.int 12 281), en P "__static_attributes__" 283 (Value.ref 83), en P "__doc__" 284 (Value.none)] 2 }),
  (85, { cls := Value.type "type", data := Data.cls { name := Str.ofString "BranchThere", bases := [Value.ref 24], mro := [Value.ref 85, Value.ref 24, Value.type "ValueError", Value.type "Exception", Value.type "BaseException", Value.type "object"], ns := 84, qualname := Str.ofString "BranchThere" }, slots := #[some (Value.ref 76), none, some (Value.str (Str.ofString "BranchThere") 271), some (Value.str (Str.ofString "BranchThere") 279), some (Value.builtin "ValueError.__new__"), some (Value.bool true)] }),
  (88, { cls := Value.type "tuple", data := Data.seq #[Value.ref 24] }),
  (95, { cls := Value.type "tuple", data := Data.seq #[] }),
  (96, { cls := Value.type "dict", data := Data.dict #[en P "__module__" 294 (Value.str (Str.ofString "snaptree.errors") 187), en P "__firstlineno__" 298 (Value.int 14 297), en P "__static_attributes__" 299 (Value.ref 95), en P "__doc__" 300 (Value.none)] 2 }),
  (97, { cls := Value.type "type", data := Data.cls { name := Str.ofString "NoShot", bases := [Value.ref 24], mro := [Value.ref 97, Value.ref 24, Value.type "ValueError", Value.type "Exception", Value.type "BaseException", Value.type "object"], ns := 96, qualname := Str.ofString "NoShot" }, slots := #[some (Value.ref 88), none, some (Value.str (Str.ofString "NoShot") 287), some (Value.str (Str.ofString "NoShot") 295), some (Value.builtin "ValueError.__new__"), some (Value.bool true)] }),
  (100, { cls := Value.type "tuple", data := Data.seq #[Value.ref 24] }),
  (107, { cls := Value.type "tuple", data := Data.seq #[] }),
  (108, { cls := Value.type "dict", data := Data.dict #[en P "__module__" 310 (Value.str (Str.ofString "snaptree.errors") 187), en P "__firstlineno__" 314 (Value.int 16 313), en P "__static_attributes__" 315 (Value.ref 107), en P "__doc__" 316 (Value.none)] 2 }),
  (109, { cls := Value.type "type", data := Data.cls { name := Str.ofString "NoBox", bases := [Value.ref 24], mro := [Value.ref 109, Value.ref 24, Value.type "ValueError", Value.type "Exception", Value.type "BaseException", Value.type "object"], ns := 108, qualname := Str.ofString "NoBox" }, slots := #[some (Value.ref 100), none, some (Value.str (Str.ofString "NoBox") 303), some (Value.str (Str.ofString "NoBox") 311), some (Value.builtin "ValueError.__new__"), some (Value.bool true)] }),
  (119, { cls := Value.type "tuple", data := Data.seq #[] }),
  (121, { cls := Value.type "tuple", data := Data.seq #[Value.str (Str.ofString "self") 336] }),
  (122, { cls := Value.type "tuple", data := Data.seq #[] }),
  (124, { cls := Value.type "code", data := Data.fields #[Value.str (Str.ofString "__init__") 333, Value.str (Str.ofString "Pile.__init__") 334, Value.str (Str.ofString "/claim/cut.py") 335, Value.int 21 0, Value.int 1 0, Value.int 0 0, Value.int 0 0, Value.int 3 0, Value.ref 119, Value.bool true, Value.int 181 0, Value.ref 120, Value.none, Value.ref 121, Value.ref 122, Value.ref 123, Value.int 337 0, Value.int 21 0, Value.str (Str.ofString "/claim/cut.py") 338] }),
  (125, { cls := .type "function", data := .func (fo (inA 10 0) "Pile.__init__" (Value.str (Str.ofString "snaptree.pile") 319) 124) }),
  (126, { cls := Value.type "tuple", data := Data.seq #[] }),
  (128, { cls := Value.type "tuple", data := Data.seq #[Value.str (Str.ofString "self") 343, Value.str (Str.ofString "box") 344] }),
  (129, { cls := Value.type "tuple", data := Data.seq #[] }),
  (131, { cls := Value.type "code", data := Data.fields #[Value.str (Str.ofString "need") 340, Value.str (Str.ofString "Pile.need") 341, Value.str (Str.ofString "/claim/cut.py") 342, Value.int 26 0, Value.int 2 0, Value.int 0 0, Value.int 0 0, Value.int 3 0, Value.ref 126, Value.bool true, Value.int 181 0, Value.ref 127, Value.none, Value.ref 128, Value.ref 129, Value.ref 130, Value.int 345 0, Value.int 26 0, Value.str (Str.ofString "/claim/cut.py") 346] }),
  (132, { cls := .type "function", data := .func (fo (inA 10 1) "Pile.need" (Value.str (Str.ofString "snaptree.pile") 319) 131) }),
  (133, { cls := Value.type "tuple", data := Data.seq #[] }),
  (135, { cls := Value.type "tuple", data := Data.seq #[Value.str (Str.ofString "self") 351, Value.str (Str.ofString "what") 352] }),
  (136, { cls := Value.type "tuple", data := Data.seq #[] }),
  (138, { cls := Value.type "code", data := Data.fields #[Value.str (Str.ofString "fresh") 348, Value.str (Str.ofString "Pile.fresh") 349, Value.str (Str.ofString "/claim/cut.py") 350, Value.int 31 0, Value.int 2 0, Value.int 0 0, Value.int 0 0, Value.int 3 0, Value.ref 133, Value.bool true, Value.int 181 0, Value.ref 134, Value.none, Value.ref 135, Value.ref 136, Value.ref 137, Value.int 353 0, Value.int 31 0, Value.str (Str.ofString "/claim/cut.py") 354] }),
  (139, { cls := .type "function", data := .func (fo (inA 10 2) "Pile.fresh" (Value.str (Str.ofString "snaptree.pile") 319) 138) }),
  (140, { cls := Value.type "tuple", data := Data.seq #[] }),
  (142, { cls := Value.type "tuple", data := Data.seq #[Value.str (Str.ofString "self") 359, Value.str (Str.ofString "number") 360] }),
  (143, { cls := Value.type "tuple", data := Data.seq #[] }),
  (145, { cls := Value.type "code", data := Data.fields #[Value.str (Str.ofString "leaf") 356, Value.str (Str.ofString "Pile.leaf") 357, Value.str (Str.ofString "/claim/cut.py") 358, Value.int 37 0, Value.int 2 0, Value.int 0 0, Value.int 0 0, Value.int 3 0, Value.ref 140, Value.bool true, Value.int 181 0, Value.ref 141, Value.none, Value.ref 142, Value.ref 143, Value.ref 144, Value.int 361 0, Value.int 37 0, Value.str (Str.ofString "/claim/cut.py") 362] }),
  (146, { cls := .type "function", data := .func (fo (inA 10 3) "Pile.leaf" (Value.str (Str.ofString "snaptree.pile") 319) 145) }),
  (147, { cls := Value.type "tuple", data := Data.seq #[] }),
  (149, { cls := Value.type "tuple", data := Data.seq #[Value.str (Str.ofString "self") 367, Value.str (Str.ofString "rows") 368, Value.str (Str.ofString "row") 369] }),
  (150, { cls := Value.type "tuple", data := Data.seq #[] }),
  (152, { cls := Value.type "code", data := Data.fields #[Value.str (Str.ofString "branch") 364, Value.str (Str.ofString "Pile.branch") 365, Value.str (Str.ofString "/claim/cut.py") 366, Value.int 40 0, Value.int 2 0, Value.int 0 0, Value.int 0 0, Value.int 3 0, Value.ref 147, Value.bool true, Value.int 181 0, Value.ref 148, Value.none, Value.ref 149, Value.ref 150, Value.ref 151, Value.int 370 0, Value.int 40 0, Value.str (Str.ofString "/claim/cut.py") 371] }),
  (153, { cls := .type "function", data := .func (fo (inA 10 4) "Pile.branch" (Value.str (Str.ofString "snaptree.pile") 319) 152) }),
  (154, { cls := Value.type "tuple", data := Data.seq #[] }),
  (156, { cls := Value.type "tuple", data := Data.seq #[Value.str (Str.ofString "self") 376, Value.str (Str.ofString "box") 377, Value.str (Str.ofString "what") 378] }),
  (157, { cls := Value.type "tuple", data := Data.seq #[] }),
  (159, { cls := Value.type "code", data := Data.fields #[Value.str (Str.ofString "content") 373, Value.str (Str.ofString "Pile.content") 374, Value.str (Str.ofString "/claim/cut.py") 375, Value.int 47 0, Value.int 2 0, Value.int 0 0, Value.int 0 0, Value.int 3 0, Value.ref 154, Value.bool true, Value.int 181 0, Value.ref 155, Value.none, Value.ref 156, Value.ref 157, Value.ref 158, Value.int 379 0, Value.int 47 0, Value.str (Str.ofString "/claim/cut.py") 380] }),
  (160, { cls := .type "function", data := .func (fo (inA 10 5) "Pile.content" (Value.str (Str.ofString "snaptree.pile") 319) 159) }),
  (161, { cls := Value.type "tuple", data := Data.seq #[] }),
  (163, { cls := Value.type "tuple", data := Data.seq #[Value.str (Str.ofString "self") 385, Value.str (Str.ofString "box") 386] }),
  (164, { cls := Value.type "tuple", data := Data.seq #[] }),
  (166, { cls := Value.type "code", data := Data.fields #[Value.str (Str.ofString "hold") 382, Value.str (Str.ofString "Pile.hold") 383, Value.str (Str.ofString "/claim/cut.py") 384, Value.int 53 0, Value.int 2 0, Value.int 0 0, Value.int 0 0, Value.int 3 0, Value.ref 161, Value.bool true, Value.int 181 0, Value.ref 162, Value.none, Value.ref 163, Value.ref 164, Value.ref 165, Value.int 387 0, Value.int 53 0, Value.str (Str.ofString "/claim/cut.py") 388] }),
  (167, { cls := .type "function", data := .func (fo (inA 10 6) "Pile.hold" (Value.str (Str.ofString "snaptree.pile") 319) 166) }),
  (168, { cls := Value.type "tuple", data := Data.seq #[] }),
  (170, { cls := Value.type "tuple", data := Data.seq #[Value.str (Str.ofString "self") 393, Value.str (Str.ofString "box") 394] }),
  (171, { cls := Value.type "tuple", data := Data.seq #[] }),
  (173, { cls := Value.type "code", data := Data.fields #[Value.str (Str.ofString "holders") 390, Value.str (Str.ofString "Pile.holders") 391, Value.str (Str.ofString "/claim/cut.py") 392, Value.int 57 0, Value.int 2 0, Value.int 0 0, Value.int 0 0, Value.int 3 0, Value.ref 168, Value.bool true, Value.int 181 0, Value.ref 169, Value.none, Value.ref 170, Value.ref 171, Value.ref 172, Value.int 395 0, Value.int 57 0, Value.str (Str.ofString "/claim/cut.py") 396] }),
  (174, { cls := .type "function", data := .func (fo (inA 10 7) "Pile.holders" (Value.str (Str.ofString "snaptree.pile") 319) 173) }),
  (175, { cls := Value.type "tuple", data := Data.seq #[] }),
  (178, { cls := Value.type "code", data := Data.fields #[Value.str (Str.ofString "let_go") 398, Value.str (Str.ofString "Pile.let_go") 399, Value.str (Str.ofString "/claim/cut.py") 400, Value.int 60 0, Value.int 2 0, Value.int 0 0, Value.int 0 0, Value.int 3 0, Value.ref 175, Value.bool true, Value.int 181 0, Value.ref 176, Value.none, Value.none, Value.none, Value.ref 177, Value.int 401 0, Value.int 60 0, Value.str (Str.ofString "/claim/cut.py") 402] }),
  (179, { cls := .type "function", data := .func (fo (inA 10 8) "Pile.let_go" (Value.str (Str.ofString "snaptree.pile") 319) 178) }),
  (180, { cls := Value.type "tuple", data := Data.seq #[] }),
  (182, { cls := Value.type "tuple", data := Data.seq #[Value.str (Str.ofString "self") 407] }),
  (183, { cls := Value.type "tuple", data := Data.seq #[] }),
  (185, { cls := Value.type "code", data := Data.fields #[Value.str (Str.ofString "kept") 404, Value.str (Str.ofString "Pile.kept") 405, Value.str (Str.ofString "/claim/cut.py") 406, Value.int 76 0, Value.int 1 0, Value.int 0 0, Value.int 0 0, Value.int 3 0, Value.ref 180, Value.bool true, Value.int 181 0, Value.ref 181, Value.none, Value.ref 182, Value.ref 183, Value.ref 184, Value.int 408 0, Value.int 76 0, Value.str (Str.ofString "/claim/cut.py") 409] }),
  (186, { cls := .type "function", data := .func (fo (inA 10 9) "Pile.kept" (Value.str (Str.ofString "snaptree.pile") 319) 185) }),
  (187, { cls := Value.type "tuple", data := Data.seq #[Value.str (Str.ofString "boxes") 411, Value.str (Str.ofString "counts") 412, Value.str (Str.ofString "made") 413] }),
  (188, { cls := Value.type "dict", data := Data.dict #[en P "__module__" 328 (Value.str (Str.ofString "snaptree.pile") 319), en P "__firstlineno__" 332 (Value.int 19 331), en P "__init__" 339 (Value.ref 125), en P "need" 347 (Value.ref 132), en P "fresh" 355 (Value.ref 139), en P "leaf" 363 (Value.ref 146), en P "branch" 372 (Value.ref 153), en P "content" 381 (Value.ref 160), en P "hold" 389 (Value.ref 167), en P "holders" 397 (Value.ref 174), en P "let_go" 403 (Value.ref 179), en P "kept" 410 (Value.ref 186), en P "__static_attributes__" 414 (Value.ref 187), en P "__dict__" 416 (Value.ref 190), en P "__weakref__" 418 (Value.ref 191), en P "__doc__" 419 (Value.none)] 4 }),
  (189, { cls := Value.type "type", data := Data.cls { name := Str.ofString "Pile", bases := [Value.type "object"], mro := [Value.ref 189, Value.type "object"], ns := 188, qualname := Str.ofString "Pile" }, slots := #[none, none, some (Value.str (Str.ofString "Pile") 321), some (Value.str (Str.ofString "Pile") 329), some (Value.builtin "object.__new__"), some (Value.bool true)] }),
  (190, { cls := Value.type "getset_descriptor", data := Data.fields #[Value.str (Str.ofString "__dict__") 415, Value.ref 189, Value.builtin "function.__dict__", Value.builtin "function.__dict__#set"] }),
  (191, { cls := Value.type "getset_descriptor", data := Data.fields #[Value.str (Str.ofString "__weakref__") 417, Value.ref 189, Value.builtin "ExceptionGroup.__weakref__", Value.none] }),
  (194, { cls := Value.type "tuple", data := Data.seq #[] }),
  (196, { cls := Value.type "tuple", data := Data.seq #[Value.str (Str.ofString "_law_seen") 427] }),
  (197, { cls := Value.type "tuple", data := Data.seq #[] }),
  (199, { cls := Value.type "code", data := Data.fields #[Value.str (Str.ofString "_law_whole") 424, Value.str (Str.ofString "_law_whole") 425, Value.str (Str.ofString "/claim/cut.py") 426, Value.int 79 0, Value.int 1 0, Value.int 0 0, Value.int 0 0, Value.int 3 0, Value.ref 194, Value.bool true, Value.int 181 0, Value.ref 195, Value.none, Value.ref 196, Value.ref 197, Value.ref 198, Value.int 428 0, Value.int 79 0, Value.str (Str.ofString "/claim/cut.py") 429] }),
  (200, { cls := .type "function", data := .func (fo (stA 12) "_law_whole" (Value.str (Str.ofString "law_uf040010_03") 422) 199) }),
  (201, { cls := Value.type "tuple", data := Data.seq #[] }),
  (203, { cls := Value.type "tuple", data := Data.seq #[Value.str (Str.ofString "_law_script") 434, Value.str (Str.ofString "_law_k") 435] }),
  (204, { cls := Value.type "tuple", data := Data.seq #[] }),
  (206, { cls := Value.type "code", data := Data.fields #[Value.str (Str.ofString "_law_cell_at") 431, Value.str (Str.ofString "_law_cell_at") 432, Value.str (Str.ofString "/claim/cut.py") 433, Value.int 81 0, Value.int 2 0, Value.int 0 0, Value.int 0 0, Value.int 3 0, Value.ref 201, Value.bool true, Value.int 181 0, Value.ref 202, Value.none, Value.ref 203, Value.ref 204, Value.ref 205, Value.int 436 0, Value.int 81 0, Value.str (Str.ofString "/claim/cut.py") 437] }),
  (207, { cls := .type "function", data := .func (fo (stA 13) "_law_cell_at" (Value.str (Str.ofString "law_uf040010_03") 422) 206) }),
  (208, { cls := Value.type "tuple", data := Data.seq #[] }),
  (210, { cls := Value.type "tuple", data := Data.seq #[Value.str (Str.ofString "_law_seen") 442, Value.str (Str.ofString "_law_due") 443] }),
  (211, { cls := Value.type "tuple", data := Data.seq #[] }),
  (213, { cls := Value.type "code", data := Data.fields #[Value.str (Str.ofString "_law_count") 439, Value.str (Str.ofString "_law_count") 440, Value.str (Str.ofString "/claim/cut.py") 441, Value.int 85 0, Value.int 2 0, Value.int 0 0, Value.int 0 0, Value.int 3 0, Value.ref 208, Value.bool true, Value.int 181 0, Value.ref 209, Value.none, Value.ref 210, Value.ref 211, Value.ref 212, Value.int 444 0, Value.int 85 0, Value.str (Str.ofString "/claim/cut.py") 445] }),
  (214, { cls := .type "function", data := .func (fo (stA 14) "_law_count" (Value.str (Str.ofString "law_uf040010_03") 422) 213) }),
  (215, { cls := Value.type "tuple", data := Data.seq #[] }),
  (217, { cls := Value.type "tuple", data := Data.seq #[Value.str (Str.ofString "_law_seen") 450, Value.str (Str.ofString "_law_number") 451] }),
  (218, { cls := Value.type "tuple", data := Data.seq #[] }),
  (220, { cls := Value.type "code", data := Data.fields #[Value.str (Str.ofString "_law_leaf") 447, Value.str (Str.ofString "_law_leaf") 448, Value.str (Str.ofString "/claim/cut.py") 449, Value.int 87 0, Value.int 2 0, Value.int 0 0, Value.int 0 0, Value.int 3 0, Value.ref 215, Value.bool true, Value.int 181 0, Value.ref 216, Value.none, Value.ref 217, Value.ref 218, Value.ref 219, Value.int 452 0, Value.int 87 0, Value.str (Str.ofString "/claim/cut.py") 453] }),
  (221, { cls := .type "function", data := .func (fo (stA 15) "_law_leaf" (Value.str (Str.ofString "law_uf040010_03") 422) 220) }),
  (222, { cls := Value.type "tuple", data := Data.seq #[] }),
  (224, { cls := Value.type "tuple", data := Data.seq #[Value.str (Str.ofString "_law_pile") 458, Value.str (Str.ofString "_law_box") 459, Value.str (Str.ofString "_law_way") 460] }),
  (225, { cls := Value.type "tuple", data := Data.seq #[] }),
  (227, { cls := Value.type "code", data := Data.fields #[Value.str (Str.ofString "_law_asked") 455, Value.str (Str.ofString "_law_asked") 456, Value.str (Str.ofString "/claim/cut.py") 457, Value.int 91 0, Value.int 3 0, Value.int 0 0, Value.int 0 0, Value.int 3 0, Value.ref 222, Value.bool true, Value.int 181 0, Value.ref 223, Value.none, Value.ref 224, Value.ref 225, Value.ref 226, Value.int 461 0, Value.int 91 0, Value.str (Str.ofString "/claim/cut.py") 462] }),
  (228, { cls := .type "function", data := .func (fo (stA 16) "_law_asked" (Value.str (Str.ofString "law_uf040010_03") 422) 227) }),
  (229, { cls := Value.type "tuple", data := Data.seq #[] }),
  (231, { cls := Value.type "tuple", data := Data.seq #[Value.str (Str.ofString "_law_pile") 467, Value.str (Str.ofString "_law_box") 468, Value.str (Str.ofString "_law_way") 469, Value.str (Str.ofString "e") 470] }),
  (232, { cls := Value.type "tuple", data := Data.seq #[] }),
  (234, { cls := Value.type "code", data := Data.fields #[Value.str (Str.ofString "_law_refused") 464, Value.str (Str.ofString "_law_refused") 465, Value.str (Str.ofString "/claim/cut.py") 466, Value.int 102 0, Value.int 3 0, Value.int 0 0, Value.int 0 0, Value.int 3 0, Value.ref 229, Value.bool true, Value.int 181 0, Value.ref 230, Value.none, Value.ref 231, Value.ref 232, Value.ref 233, Value.int 471 0, Value.int 102 0, Value.str (Str.ofString "/claim/cut.py") 472] }),
  (235, { cls := .type "function", data := .func (fo (stA 17) "_law_refused" (Value.str (Str.ofString "law_uf040010_03") 422) 234) }),
  (236, { cls := Value.type "tuple", data := Data.seq #[] }),
  (239, { cls := Value.type "code", data := Data.fields #[Value.str (Str.ofString "_law_kept") 474, Value.str (Str.ofString "_law_kept") 475, Value.str (Str.ofString "/claim/cut.py") 476, Value.int 112 0, Value.int 2 0, Value.int 0 0, Value.int 0 0, Value.int 3 0, Value.ref 236, Value.bool true, Value.int 181 0, Value.ref 237, Value.none, Value.none, Value.none, Value.ref 238, Value.int 477 0, Value.int 112 0, Value.str (Str.ofString "/claim/cut.py") 478] }),
  (240, { cls := .type "function", data := .func (fo (stA 18) "_law_kept" (Value.str (Str.ofString "law_uf040010_03") 422) 239) }),
  (241, { cls := Value.type "tuple", data := Data.seq #[] }),
  (244, { cls := Value.type "code", data := Data.fields #[Value.str (Str.ofString "law") 480, Value.str (Str.ofString "law") 481, Value.str (Str.ofString "/claim/cut.py") 482, Value.int 116 0, Value.int 1 0, Value.int 0 0, Value.int 0 0, Value.int 3 0, Value.ref 241, Value.bool true, Value.int 181 0, Value.ref 242, Value.none, Value.none, Value.none, Value.ref 243, Value.int 483 0, Value.int 116 0, Value.str (Str.ofString "/claim/cut.py") 484] }),
  (245, { cls := .type "function", data := .func (fo (stA 19) "law" (Value.str (Str.ofString "law_uf040010_03") 422) 244) })]
def asK : List Nat := [2, 3, 15, 22, 23, 24, 25, 28, 35, 36, 37, 40, 47, 48, 49, 52, 59, 60, 61, 64, 71, 72, 73, 76, 83, 84, 85, 88, 95, 96, 97, 100, 107, 108, 109, 119, 121, 122, 124, 125, 126, 128, 129, 131, 132, 133, 135, 136, 138, 139, 140, 142, 143, 145, 146, 147, 149, 150, 152, 153, 154, 156, 157, 159, 160, 161, 163, 164, 166, 167, 168, 170, 171, 173, 174, 175, 178, 179, 180, 182, 183, 185, 186, 187, 188, 189, 190, 191, 194, 196, 197, 199, 200, 201, 203, 204, 206, 207, 208, 210, 211, 213, 214, 215, 217, 218, 220, 221, 222, 224, 225, 227, 228, 229, 231, 232, 234, 235, 236, 239, 240, 241, 244, 245]
def kept : Stmt → Bool
  | .Assign [.Name x _] _ _ => x != "__name__"
  | _ => true
def view : Program := { pw_uf040010_03 with main := { pw_uf040010_03.main with body := pw_uf040010_03.main.body.filter kept } }
def lawD : DefRec := match (stA 19) with
  | .FunctionDef n a b _ _ _ sc _ _ p => ⟨n, a, b, sc, p⟩
  | _ => ⟨"law", default, [], default, default⟩
abbrev hook : Hook := kHook KK asK (fun _ => by kernel_rfl)
theorem left : LeftO rw_uf040010_03.row.prog view [] (fun s => xlAt view [] s && recOk (RowW.records rw_uf040010_03.row.toRowW) s) hook.obs hook.val 5018 := by
  intro w
  kernel_rfl
theorem said : rw_uf040010_03.wellSaid = true := by kernel_rfl
end
end Mine.L3
end

section
open PySem PyProof.Rows PySem.Calls
set_option maxHeartbeats 4000000
set_option linter.unusedVariables false
namespace Mine.L3
open Mine
noncomputable abbrev fd_Pile___init__ : FuncData := (fo (inA 10 0) "Pile.__init__" (Value.str (Str.ofString "snaptree.pile") 319) 124)
noncomputable abbrev fd_Pile_need : FuncData := (fo (inA 10 1) "Pile.need" (Value.str (Str.ofString "snaptree.pile") 319) 131)
noncomputable abbrev fd_Pile_fresh : FuncData := (fo (inA 10 2) "Pile.fresh" (Value.str (Str.ofString "snaptree.pile") 319) 138)
noncomputable abbrev fd_Pile_leaf : FuncData := (fo (inA 10 3) "Pile.leaf" (Value.str (Str.ofString "snaptree.pile") 319) 145)
noncomputable abbrev fd_Pile_branch : FuncData := (fo (inA 10 4) "Pile.branch" (Value.str (Str.ofString "snaptree.pile") 319) 152)
noncomputable abbrev fd_Pile_content : FuncData := (fo (inA 10 5) "Pile.content" (Value.str (Str.ofString "snaptree.pile") 319) 159)
noncomputable abbrev fd_Pile_hold : FuncData := (fo (inA 10 6) "Pile.hold" (Value.str (Str.ofString "snaptree.pile") 319) 166)
noncomputable abbrev fd_Pile_holders : FuncData := (fo (inA 10 7) "Pile.holders" (Value.str (Str.ofString "snaptree.pile") 319) 173)
noncomputable abbrev fd_Pile_let_go : FuncData := (fo (inA 10 8) "Pile.let_go" (Value.str (Str.ofString "snaptree.pile") 319) 178)
noncomputable abbrev fd_Pile_kept : FuncData := (fo (inA 10 9) "Pile.kept" (Value.str (Str.ofString "snaptree.pile") 319) 185)
noncomputable abbrev fd__law_whole : FuncData := (fo (stA 12) "_law_whole" (Value.str (Str.ofString "law_uf040010_03") 422) 199)
noncomputable abbrev fd__law_cell_at : FuncData := (fo (stA 13) "_law_cell_at" (Value.str (Str.ofString "law_uf040010_03") 422) 206)
noncomputable abbrev fd__law_count : FuncData := (fo (stA 14) "_law_count" (Value.str (Str.ofString "law_uf040010_03") 422) 213)
noncomputable abbrev fd__law_leaf : FuncData := (fo (stA 15) "_law_leaf" (Value.str (Str.ofString "law_uf040010_03") 422) 220)
noncomputable abbrev fd__law_asked : FuncData := (fo (stA 16) "_law_asked" (Value.str (Str.ofString "law_uf040010_03") 422) 227)
noncomputable abbrev fd__law_refused : FuncData := (fo (stA 17) "_law_refused" (Value.str (Str.ofString "law_uf040010_03") 422) 234)
noncomputable abbrev fd__law_kept : FuncData := (fo (stA 18) "_law_kept" (Value.str (Str.ofString "law_uf040010_03") 422) 239)
noncomputable abbrev fd_law : FuncData := (fo (stA 19) "law" (Value.str (Str.ofString "law_uf040010_03") 422) 244)
def b_Pile___init__ : List Sm := [.asgAttr (.loc "self") "boxes" (.dict [] []), .asgAttr (.loc "self") "counts" (.dict [] []), .asgAttr (.loc "self") "made" (.int 0)]
theorem d_Pile___init__ {P : Pm} {G : Gx} {n : Nat} (Y : PmOk P) (B : BltOk P) (GO : GxOk P G) (FN : SndFn P G n) (hm : Bool) : SS P G n hm (scOf (inA 10 0)) (bodyOf (inA 10 0)) b_Pile___init__ := (ss_cons (s1_asgAttr Y GO (se_loc (by kernel_rfl)) se_dict0) (ss_cons (s1_asgAttr Y GO (se_loc (by kernel_rfl)) se_dict0) (ss_cons (s1_asgAttr Y GO (se_loc (by kernel_rfl)) se_int) ss_nil)))
theorem at_Pile___init__ {P : Pm} (Y : PmOk P) (B : BltOk P) (hK : P.K = KK P.w.params) : ∃ sc body, FnAt P 125 ["self"] sc body ∧ ∀ {G : Gx} {n : Nat}, GxOk P G → SndFn P G n → ∀ hm, SS P G n hm sc body b_Pile___init__ :=
  ⟨scOf (inA 10 0), bodyOf (inA 10 0), fn_at (o := { cls := .type "function", data := .func fd_Pile___init__ }) (fd := fd_Pile___init__) Y (by rw [hK]; kernel_rfl) rfl (by rw [hK]; kernel_rfl) (by kernel_rfl) rfl rfl rfl (fun vals h => by obtain ⟨a, rfl⟩ := len1 h; rfl) (by kernel_rfl) (by rw [hK]; kernel_rfl), fun GO FN hm => d_Pile___init__ Y B GO FN hm⟩
def b_Pile_need : List Sm := [.ite (.bop false [.isi (.loc "box") .bool, .not (.isi (.loc "box") .int), .cmp (.loc "box") .NotIn (.attr (.loc "self") "boxes")]) [.raise "NoBox"] [], .ret (.loc "box")]
theorem d_Pile_need {P : Pm} {G : Gx} {n : Nat} (Y : PmOk P) (B : BltOk P) (GO : GxOk P G) (FN : SndFn P G n) (hm : Bool) : SS P G n hm (scOf (inA 10 1)) (bodyOf (inA 10 1)) b_Pile_need := (ss_cons (s1_if (st_bop (sts_more (st_of_se (se_isi Y B GO (by kernel_rfl) (by kernel_rfl) (by kernel_rfl) (by kernel_rfl) (se_loc (by kernel_rfl))) rfl) (sts_more (st_not (st_of_se (se_isi Y B GO (by kernel_rfl) (by kernel_rfl) (by kernel_rfl) (by kernel_rfl) (se_loc (by kernel_rfl))) rfl)) (sts_one (st_cmp Y (se_loc (by kernel_rfl)) (se_attr Y GO (by kernel_rfl) (se_loc (by kernel_rfl))) (by kernel_rfl)))))) (ss_cons (s1_raise Y GO (by kernel_rfl)) ss_nil) ss_nil) (ss_cons (s1_ret (se_loc (by kernel_rfl))) ss_nil))
theorem at_Pile_need {P : Pm} (Y : PmOk P) (B : BltOk P) (hK : P.K = KK P.w.params) : ∃ sc body, FnAt P 132 ["self", "box"] sc body ∧ ∀ {G : Gx} {n : Nat}, GxOk P G → SndFn P G n → ∀ hm, SS P G n hm sc body b_Pile_need :=
  ⟨scOf (inA 10 1), bodyOf (inA 10 1), fn_at (o := { cls := .type "function", data := .func fd_Pile_need }) (fd := fd_Pile_need) Y (by rw [hK]; kernel_rfl) rfl (by rw [hK]; kernel_rfl) (by kernel_rfl) rfl rfl rfl (fun vals h => by obtain ⟨a, b, rfl⟩ := len2 h; rfl) (by kernel_rfl) (by rw [hK]; kernel_rfl), fun GO FN hm => d_Pile_need Y B GO FN hm⟩
def b_Pile_fresh : List Sm := [.asgAttr (.loc "self") "made" (.bin .Add (.attr (.loc "self") "made") (.int 1)), .asgIdx (.attr (.loc "self") "boxes") (.attr (.loc "self") "made") (.loc "what"), .asgIdx (.attr (.loc "self") "counts") (.attr (.loc "self") "made") (.int 0), .ret (.attr (.loc "self") "made")]
theorem d_Pile_fresh {P : Pm} {G : Gx} {n : Nat} (Y : PmOk P) (B : BltOk P) (GO : GxOk P G) (FN : SndFn P G n) (hm : Bool) : SS P G n hm (scOf (inA 10 2)) (bodyOf (inA 10 2)) b_Pile_fresh := (ss_cons (s1_asgAttr Y GO (se_loc (by kernel_rfl)) (se_bin (se_attr Y GO (by kernel_rfl) (se_loc (by kernel_rfl))) se_int)) (ss_cons (s1_asgIdx Y (se_attr Y GO (by kernel_rfl) (se_loc (by kernel_rfl))) (se_attr Y GO (by kernel_rfl) (se_loc (by kernel_rfl))) (se_loc (by kernel_rfl))) (ss_cons (s1_asgIdx Y (se_attr Y GO (by kernel_rfl) (se_loc (by kernel_rfl))) (se_attr Y GO (by kernel_rfl) (se_loc (by kernel_rfl))) se_int) (ss_cons (s1_ret (se_attr Y GO (by kernel_rfl) (se_loc (by kernel_rfl)))) ss_nil))))
theorem at_Pile_fresh {P : Pm} (Y : PmOk P) (B : BltOk P) (hK : P.K = KK P.w.params) : ∃ sc body, FnAt P 139 ["self", "what"] sc body ∧ ∀ {G : Gx} {n : Nat}, GxOk P G → SndFn P G n → ∀ hm, SS P G n hm sc body b_Pile_fresh :=
  ⟨scOf (inA 10 2), bodyOf (inA 10 2), fn_at (o := { cls := .type "function", data := .func fd_Pile_fresh }) (fd := fd_Pile_fresh) Y (by rw [hK]; kernel_rfl) rfl (by rw [hK]; kernel_rfl) (by kernel_rfl) rfl rfl rfl (fun vals h => by obtain ⟨a, b, rfl⟩ := len2 h; rfl) (by kernel_rfl) (by rw [hK]; kernel_rfl), fun GO FN hm => d_Pile_fresh Y B GO FN hm⟩
def b_Pile_leaf : List Sm := [.ret (.meth (.loc "self") "fresh" [.tup [.str "leaf", .loc "number"]])]
theorem d_Pile_leaf {P : Pm} {G : Gx} {n : Nat} (Y : PmOk P) (B : BltOk P) (GO : GxOk P G) (FN : SndFn P G n) (hm : Bool) : SS P G n hm (scOf (inA 10 3)) (bodyOf (inA 10 3)) b_Pile_leaf := (ss_cons (s1_ret (se_meth Y GO FN (by kernel_rfl) (by kernel_rfl) (by kernel_rfl) (Nat.le_of_ble_eq_true rfl) (se_loc (by kernel_rfl)) (ses_cons (by kernel_rfl) (se_tup (ses_cons (by kernel_rfl) se_str (ses_cons (by kernel_rfl) (se_loc (by kernel_rfl)) ses_nil))) ses_nil))) ss_nil)
theorem at_Pile_leaf {P : Pm} (Y : PmOk P) (B : BltOk P) (hK : P.K = KK P.w.params) : ∃ sc body, FnAt P 146 ["self", "number"] sc body ∧ ∀ {G : Gx} {n : Nat}, GxOk P G → SndFn P G n → ∀ hm, SS P G n hm sc body b_Pile_leaf :=
  ⟨scOf (inA 10 3), bodyOf (inA 10 3), fn_at (o := { cls := .type "function", data := .func fd_Pile_leaf }) (fd := fd_Pile_leaf) Y (by rw [hK]; kernel_rfl) rfl (by rw [hK]; kernel_rfl) (by kernel_rfl) rfl rfl rfl (fun vals h => by obtain ⟨a, b, rfl⟩ := len2 h; rfl) (by kernel_rfl) (by rw [hK]; kernel_rfl), fun GO FN hm => d_Pile_leaf Y B GO FN hm⟩
def b_Pile_branch : List Sm := [.for_ "row" (.loc "rows") [.expr (.meth (.loc "self") "need" [.idx (.loc "row") (.int 1)])], .for_ "row" (.loc "rows") [.expr (.meth (.loc "self") "hold" [.idx (.loc "row") (.int 1)])], .ret (.meth (.loc "self") "fresh" [.tup [.str "branch", .bf .list [.loc "rows"]]])]
theorem d_Pile_branch {P : Pm} {G : Gx} {n : Nat} (Y : PmOk P) (B : BltOk P) (GO : GxOk P G) (FN : SndFn P G n) (hm : Bool) : SS P G n hm (scOf (inA 10 4)) (bodyOf (inA 10 4)) b_Pile_branch := (ss_cons (s1_for (by kernel_rfl) (by kernel_rfl) (se_loc (by kernel_rfl)) (ss_cons (s1_expr (by kernel_rfl) (se_meth Y GO FN (by kernel_rfl) (by kernel_rfl) (by kernel_rfl) (Nat.le_of_ble_eq_true rfl) (se_loc (by kernel_rfl)) (ses_cons (by kernel_rfl) (se_idx1 (se_loc (by kernel_rfl)) se_int rfl) ses_nil))) ss_nil)) (ss_cons (s1_for (by kernel_rfl) (by kernel_rfl) (se_loc (by kernel_rfl)) (ss_cons (s1_expr (by kernel_rfl) (se_meth Y GO FN (by kernel_rfl) (by kernel_rfl) (by kernel_rfl) (Nat.le_of_ble_eq_true rfl) (se_loc (by kernel_rfl)) (ses_cons (by kernel_rfl) (se_idx1 (se_loc (by kernel_rfl)) se_int rfl) ses_nil))) ss_nil)) (ss_cons (s1_ret (se_meth Y GO FN (by kernel_rfl) (by kernel_rfl) (by kernel_rfl) (Nat.le_of_ble_eq_true rfl) (se_loc (by kernel_rfl)) (ses_cons (by kernel_rfl) (se_tup (ses_cons (by kernel_rfl) se_str (ses_cons (by kernel_rfl) (se_bf Y B (k := 1) (by kernel_rfl) (by kernel_rfl) (by kernel_rfl) (ses_cons (by kernel_rfl) (se_loc (by kernel_rfl)) ses_nil)) ses_nil))) ses_nil))) ss_nil)))
theorem at_Pile_branch {P : Pm} (Y : PmOk P) (B : BltOk P) (hK : P.K = KK P.w.params) : ∃ sc body, FnAt P 153 ["self", "rows"] sc body ∧ ∀ {G : Gx} {n : Nat}, GxOk P G → SndFn P G n → ∀ hm, SS P G n hm sc body b_Pile_branch :=
  ⟨scOf (inA 10 4), bodyOf (inA 10 4), fn_at (o := { cls := .type "function", data := .func fd_Pile_branch }) (fd := fd_Pile_branch) Y (by rw [hK]; kernel_rfl) rfl (by rw [hK]; kernel_rfl) (by kernel_rfl) rfl rfl rfl (fun vals h => by obtain ⟨a, b, rfl⟩ := len2 h; rfl) (by kernel_rfl) (by rw [hK]; kernel_rfl), fun GO FN hm => d_Pile_branch Y B GO FN hm⟩
def b_Pile_content : List Sm := [.asg "what" (.idx (.attr (.loc "self") "boxes") (.meth (.loc "self") "need" [.loc "box"])), .ite (.cmp (.idx (.loc "what") (.int 0)) .Eq (.str "branch")) [.ret (.tup [.str "branch", .bf .list [.idx (.loc "what") (.int 1)]])] [], .ret (.loc "what")]
theorem d_Pile_content {P : Pm} {G : Gx} {n : Nat} (Y : PmOk P) (B : BltOk P) (GO : GxOk P G) (FN : SndFn P G n) (hm : Bool) : SS P G n hm (scOf (inA 10 5)) (bodyOf (inA 10 5)) b_Pile_content := (ss_cons (s1_asg (by kernel_rfl) (by kernel_rfl) (se_idx1 (se_attr Y GO (by kernel_rfl) (se_loc (by kernel_rfl))) (se_meth Y GO FN (by kernel_rfl) (by kernel_rfl) (by kernel_rfl) (Nat.le_of_ble_eq_true rfl) (se_loc (by kernel_rfl)) (ses_cons (by kernel_rfl) (se_loc (by kernel_rfl)) ses_nil)) rfl)) (ss_cons (s1_if (st_cmp Y (se_idx1 (se_loc (by kernel_rfl)) se_int rfl) se_str (by kernel_rfl)) (ss_cons (s1_ret (se_tup (ses_cons (by kernel_rfl) se_str (ses_cons (by kernel_rfl) (se_bf Y B (k := 1) (by kernel_rfl) (by kernel_rfl) (by kernel_rfl) (ses_cons (by kernel_rfl) (se_idx1 (se_loc (by kernel_rfl)) se_int rfl) ses_nil)) ses_nil)))) ss_nil) ss_nil) (ss_cons (s1_ret (se_loc (by kernel_rfl))) ss_nil)))
theorem at_Pile_content {P : Pm} (Y : PmOk P) (B : BltOk P) (hK : P.K = KK P.w.params) : ∃ sc body, FnAt P 160 ["self", "box"] sc body ∧ ∀ {G : Gx} {n : Nat}, GxOk P G → SndFn P G n → ∀ hm, SS P G n hm sc body b_Pile_content :=
  ⟨scOf (inA 10 5), bodyOf (inA 10 5), fn_at (o := { cls := .type "function", data := .func fd_Pile_content }) (fd := fd_Pile_content) Y (by rw [hK]; kernel_rfl) rfl (by rw [hK]; kernel_rfl) (by kernel_rfl) rfl rfl rfl (fun vals h => by obtain ⟨a, b, rfl⟩ := len2 h; rfl) (by kernel_rfl) (by rw [hK]; kernel_rfl), fun GO FN hm => d_Pile_content Y B GO FN hm⟩
def b_Pile_hold : List Sm := [.expr (.meth (.loc "self") "need" [.loc "box"]), .asgIdx (.attr (.loc "self") "counts") (.loc "box") (.bin .Add (.idx (.attr (.loc "self") "counts") (.loc "box")) (.int 1))]
theorem d_Pile_hold {P : Pm} {G : Gx} {n : Nat} (Y : PmOk P) (B : BltOk P) (GO : GxOk P G) (FN : SndFn P G n) (hm : Bool) : SS P G n hm (scOf (inA 10 6)) (bodyOf (inA 10 6)) b_Pile_hold := (ss_cons (s1_expr (by kernel_rfl) (se_meth Y GO FN (by kernel_rfl) (by kernel_rfl) (by kernel_rfl) (Nat.le_of_ble_eq_true rfl) (se_loc (by kernel_rfl)) (ses_cons (by kernel_rfl) (se_loc (by kernel_rfl)) ses_nil))) (ss_cons (s1_asgIdx Y (se_attr Y GO (by kernel_rfl) (se_loc (by kernel_rfl))) (se_loc (by kernel_rfl)) (se_bin (se_idx1 (se_attr Y GO (by kernel_rfl) (se_loc (by kernel_rfl))) (se_loc (by kernel_rfl)) rfl) se_int)) ss_nil))
theorem at_Pile_hold {P : Pm} (Y : PmOk P) (B : BltOk P) (hK : P.K = KK P.w.params) : ∃ sc body, FnAt P 167 ["self", "box"] sc body ∧ ∀ {G : Gx} {n : Nat}, GxOk P G → SndFn P G n → ∀ hm, SS P G n hm sc body b_Pile_hold :=
  ⟨scOf (inA 10 6), bodyOf (inA 10 6), fn_at (o := { cls := .type "function", data := .func fd_Pile_hold }) (fd := fd_Pile_hold) Y (by rw [hK]; kernel_rfl) rfl (by rw [hK]; kernel_rfl) (by kernel_rfl) rfl rfl rfl (fun vals h => by obtain ⟨a, b, rfl⟩ := len2 h; rfl) (by kernel_rfl) (by rw [hK]; kernel_rfl), fun GO FN hm => d_Pile_hold Y B GO FN hm⟩
def b_Pile_holders : List Sm := [.ret (.idx (.attr (.loc "self") "counts") (.meth (.loc "self") "need" [.loc "box"]))]
theorem d_Pile_holders {P : Pm} {G : Gx} {n : Nat} (Y : PmOk P) (B : BltOk P) (GO : GxOk P G) (FN : SndFn P G n) (hm : Bool) : SS P G n hm (scOf (inA 10 7)) (bodyOf (inA 10 7)) b_Pile_holders := (ss_cons (s1_ret (se_idx1 (se_attr Y GO (by kernel_rfl) (se_loc (by kernel_rfl))) (se_meth Y GO FN (by kernel_rfl) (by kernel_rfl) (by kernel_rfl) (Nat.le_of_ble_eq_true rfl) (se_loc (by kernel_rfl)) (ses_cons (by kernel_rfl) (se_loc (by kernel_rfl)) ses_nil)) rfl)) ss_nil)
theorem at_Pile_holders {P : Pm} (Y : PmOk P) (B : BltOk P) (hK : P.K = KK P.w.params) : ∃ sc body, FnAt P 174 ["self", "box"] sc body ∧ ∀ {G : Gx} {n : Nat}, GxOk P G → SndFn P G n → ∀ hm, SS P G n hm sc body b_Pile_holders :=
  ⟨scOf (inA 10 7), bodyOf (inA 10 7), fn_at (o := { cls := .type "function", data := .func fd_Pile_holders }) (fd := fd_Pile_holders) Y (by rw [hK]; kernel_rfl) rfl (by rw [hK]; kernel_rfl) (by kernel_rfl) rfl rfl rfl (fun vals h => by obtain ⟨a, b, rfl⟩ := len2 h; rfl) (by kernel_rfl) (by rw [hK]; kernel_rfl), fun GO FN hm => d_Pile_holders Y B GO FN hm⟩
def b_Pile_let_go : List Sm := [.asg "waiting" (.list [.meth (.loc "self") "need" [.loc "box"]]), .asg "gone" (.int 0), .while_ (.cmp (.loc "waiting") .NotEq (.list [])) [.asg "one" (.bm .pop (.loc "waiting") []), .ite (.cmp (.loc "one") .NotIn (.attr (.loc "self") "boxes")) [.cont] [], .asgIdx (.attr (.loc "self") "counts") (.loc "one") (.bf .max2 [.int 0, .bin .Sub (.idx (.attr (.loc "self") "counts") (.loc "one")) (.int 1)]), .ite (.cmp (.idx (.attr (.loc "self") "counts") (.loc "one")) .Eq (.int 0)) [.asg "what" (.bm .pop (.attr (.loc "self") "boxes") [.loc "one"]), .expr (.bm .pop (.attr (.loc "self") "counts") [.loc "one"]), .asg "gone" (.bin .Add (.loc "gone") (.int 1)), .ite (.cmp (.idx (.loc "what") (.int 0)) .Eq (.str "branch")) [.asg "waiting" (.bin .Add (.loc "waiting") (.comp (.idx (.loc "row") (.int 1)) "row" (.idx (.loc "what") (.int 1)) []))] []] []], .ret (.loc "gone")]
theorem d_Pile_let_go {P : Pm} {G : Gx} {n : Nat} (Y : PmOk P) (B : BltOk P) (GO : GxOk P G) (FN : SndFn P G n) (hm : Bool) : SS P G n hm (scOf (inA 10 8)) (bodyOf (inA 10 8)) b_Pile_let_go := (ss_cons (s1_asg (by kernel_rfl) (by kernel_rfl) (se_list (ses_cons (by kernel_rfl) (se_meth Y GO FN (by kernel_rfl) (by kernel_rfl) (by kernel_rfl) (Nat.le_of_ble_eq_true rfl) (se_loc (by kernel_rfl)) (ses_cons (by kernel_rfl) (se_loc (by kernel_rfl)) ses_nil)) ses_nil))) (ss_cons (s1_asg (by kernel_rfl) (by kernel_rfl) se_int) (ss_cons (s1_while (st_cmp Y (se_loc (by kernel_rfl)) (se_list ses_nil) (by kernel_rfl)) (ss_cons (s1_asg (by kernel_rfl) (by kernel_rfl) (se_bm (by kernel_rfl) (by kernel_rfl) (by kernel_rfl) (by kernel_rfl) (Nat.le_of_ble_eq_true rfl) (se_loc (by kernel_rfl)) ses_nil)) (ss_cons (s1_if (st_cmp Y (se_loc (by kernel_rfl)) (se_attr Y GO (by kernel_rfl) (se_loc (by kernel_rfl))) (by kernel_rfl)) (ss_cons s1_cont ss_nil) ss_nil) (ss_cons (s1_asgIdx Y (se_attr Y GO (by kernel_rfl) (se_loc (by kernel_rfl))) (se_loc (by kernel_rfl)) (se_bf Y B (k := 2) (by kernel_rfl) (by kernel_rfl) (by kernel_rfl) (ses_cons (by kernel_rfl) se_int (ses_cons (by kernel_rfl) (se_bin (se_idx1 (se_attr Y GO (by kernel_rfl) (se_loc (by kernel_rfl))) (se_loc (by kernel_rfl)) rfl) se_int) ses_nil)))) (ss_cons (s1_if (st_cmp Y (se_idx1 (se_attr Y GO (by kernel_rfl) (se_loc (by kernel_rfl))) (se_loc (by kernel_rfl)) rfl) se_int (by kernel_rfl)) (ss_cons (s1_asg (by kernel_rfl) (by kernel_rfl) (se_bm (by kernel_rfl) (by kernel_rfl) (by kernel_rfl) (by kernel_rfl) (Nat.le_of_ble_eq_true rfl) (se_attr Y GO (by kernel_rfl) (se_loc (by kernel_rfl))) (ses_cons (by kernel_rfl) (se_loc (by kernel_rfl)) ses_nil))) (ss_cons (s1_expr (by kernel_rfl) (se_bm (by kernel_rfl) (by kernel_rfl) (by kernel_rfl) (by kernel_rfl) (Nat.le_of_ble_eq_true rfl) (se_attr Y GO (by kernel_rfl) (se_loc (by kernel_rfl))) (ses_cons (by kernel_rfl) (se_loc (by kernel_rfl)) ses_nil))) (ss_cons (s1_asg (by kernel_rfl) (by kernel_rfl) (se_bin (se_loc (by kernel_rfl)) se_int)) (ss_cons (s1_if (st_cmp Y (se_idx1 (se_loc (by kernel_rfl)) se_int rfl) se_str (by kernel_rfl)) (ss_cons (s1_asg (by kernel_rfl) (by kernel_rfl) (se_bin (se_loc (by kernel_rfl)) (se_comp (by kernel_rfl) (by kernel_rfl) (se_idx1 (se_loc (by kernel_rfl)) se_int rfl) (se_idx1 (se_loc (by kernel_rfl)) se_int rfl) STall.nil))) ss_nil) ss_nil) ss_nil)))) ss_nil) ss_nil))))) (ss_cons (s1_ret (se_loc (by kernel_rfl))) ss_nil))))
theorem at_Pile_let_go {P : Pm} (Y : PmOk P) (B : BltOk P) (hK : P.K = KK P.w.params) : ∃ sc body, FnAt P 179 ["self", "box"] sc body ∧ ∀ {G : Gx} {n : Nat}, GxOk P G → SndFn P G n → ∀ hm, SS P G n hm sc body b_Pile_let_go :=
  ⟨scOf (inA 10 8), bodyOf (inA 10 8), fn_at (o := { cls := .type "function", data := .func fd_Pile_let_go }) (fd := fd_Pile_let_go) Y (by rw [hK]; kernel_rfl) rfl (by rw [hK]; kernel_rfl) (by kernel_rfl) rfl rfl rfl (fun vals h => by obtain ⟨a, b, rfl⟩ := len2 h; rfl) (by kernel_rfl) (by rw [hK]; kernel_rfl), fun GO FN hm => d_Pile_let_go Y B GO FN hm⟩
def b_Pile_kept : List Sm := [.ret (.bf .sorted [.attr (.loc "self") "boxes"])]
theorem d_Pile_kept {P : Pm} {G : Gx} {n : Nat} (Y : PmOk P) (B : BltOk P) (GO : GxOk P G) (FN : SndFn P G n) (hm : Bool) : SS P G n hm (scOf (inA 10 9)) (bodyOf (inA 10 9)) b_Pile_kept := (ss_cons (s1_ret (se_bf Y B (k := 1) (by kernel_rfl) (by kernel_rfl) (by kernel_rfl) (ses_cons (by kernel_rfl) (se_attr Y GO (by kernel_rfl) (se_loc (by kernel_rfl))) ses_nil))) ss_nil)
theorem at_Pile_kept {P : Pm} (Y : PmOk P) (B : BltOk P) (hK : P.K = KK P.w.params) : ∃ sc body, FnAt P 186 ["self"] sc body ∧ ∀ {G : Gx} {n : Nat}, GxOk P G → SndFn P G n → ∀ hm, SS P G n hm sc body b_Pile_kept :=
  ⟨scOf (inA 10 9), bodyOf (inA 10 9), fn_at (o := { cls := .type "function", data := .func fd_Pile_kept }) (fd := fd_Pile_kept) Y (by rw [hK]; kernel_rfl) rfl (by rw [hK]; kernel_rfl) (by kernel_rfl) rfl rfl rfl (fun vals h => by obtain ⟨a, rfl⟩ := len1 h; rfl) (by kernel_rfl) (by rw [hK]; kernel_rfl), fun GO FN hm => d_Pile_kept Y B GO FN hm⟩
def b__law_whole : List Sm := [.ret (.bop true [.isi (.loc "_law_seen") .int, .not (.isi (.loc "_law_seen") .bool)])]
theorem d__law_whole {P : Pm} {G : Gx} {n : Nat} (Y : PmOk P) (B : BltOk P) (GO : GxOk P G) (FN : SndFn P G n) (hm : Bool) : SS P G n hm (scOf (stA 12)) (bodyOf (stA 12)) b__law_whole := (ss_cons (s1_ret (se_bop1 (sbs_cons (se_isi Y B GO (by kernel_rfl) (by kernel_rfl) (by kernel_rfl) (by kernel_rfl) (se_loc (by kernel_rfl))) (sbs_one (se_not (se_isi Y B GO (by kernel_rfl) (by kernel_rfl) (by kernel_rfl) (by kernel_rfl) (se_loc (by kernel_rfl)))))))) ss_nil)
theorem at__law_whole {P : Pm} (Y : PmOk P) (B : BltOk P) (hK : P.K = KK P.w.params) : ∃ sc body, FnAt P 200 ["_law_seen"] sc body ∧ ∀ {G : Gx} {n : Nat}, GxOk P G → SndFn P G n → ∀ hm, SS P G n hm sc body b__law_whole :=
  ⟨scOf (stA 12), bodyOf (stA 12), fn_at (o := { cls := .type "function", data := .func fd__law_whole }) (fd := fd__law_whole) Y (by rw [hK]; kernel_rfl) rfl (by rw [hK]; kernel_rfl) (by kernel_rfl) rfl rfl rfl (fun vals h => by obtain ⟨a, rfl⟩ := len1 h; rfl) (by kernel_rfl) (by rw [hK]; kernel_rfl), fun GO FN hm => d__law_whole Y B GO FN hm⟩
def b__law_cell_at : List Sm := [.ite (.cmp (.loc "_law_k") .Lt (.bf .len [.loc "_law_script"])) [.ret (.idx (.loc "_law_script") (.loc "_law_k"))] [], .ret (.int 0)]
theorem d__law_cell_at {P : Pm} {G : Gx} {n : Nat} (Y : PmOk P) (B : BltOk P) (GO : GxOk P G) (FN : SndFn P G n) (hm : Bool) : SS P G n hm (scOf (stA 13)) (bodyOf (stA 13)) b__law_cell_at := (ss_cons (s1_if (st_cmp Y (se_loc (by kernel_rfl)) (se_bf Y B (k := 1) (by kernel_rfl) (by kernel_rfl) (by kernel_rfl) (ses_cons (by kernel_rfl) (se_loc (by kernel_rfl)) ses_nil)) (by kernel_rfl)) (ss_cons (s1_ret (se_idx1 (se_loc (by kernel_rfl)) (se_loc (by kernel_rfl)) rfl)) ss_nil) ss_nil) (ss_cons (s1_ret se_int) ss_nil))
theorem at__law_cell_at {P : Pm} (Y : PmOk P) (B : BltOk P) (hK : P.K = KK P.w.params) : ∃ sc body, FnAt P 207 ["_law_script", "_law_k"] sc body ∧ ∀ {G : Gx} {n : Nat}, GxOk P G → SndFn P G n → ∀ hm, SS P G n hm sc body b__law_cell_at :=
  ⟨scOf (stA 13), bodyOf (stA 13), fn_at (o := { cls := .type "function", data := .func fd__law_cell_at }) (fd := fd__law_cell_at) Y (by rw [hK]; kernel_rfl) rfl (by rw [hK]; kernel_rfl) (by kernel_rfl) rfl rfl rfl (fun vals h => by obtain ⟨a, b, rfl⟩ := len2 h; rfl) (by kernel_rfl) (by rw [hK]; kernel_rfl), fun GO FN hm => d__law_cell_at Y B GO FN hm⟩
def b__law_count : List Sm := [.ret (.bop true [.call (.glob "_law_whole") [.loc "_law_seen"], .cmp (.loc "_law_seen") .Eq (.loc "_law_due")])]
theorem d__law_count {P : Pm} {G : Gx} {n : Nat} (Y : PmOk P) (B : BltOk P) (GO : GxOk P G) (FN : SndFn P G n) (hm : Bool) : SS P G n hm (scOf (stA 14)) (bodyOf (stA 14)) b__law_count := (ss_cons (s1_ret (se_bop1 (sbs_cons (se_call Y GO FN (by kernel_rfl) (se_glob Y GO (by kernel_rfl)) (ses_cons (by kernel_rfl) (se_loc (by kernel_rfl)) ses_nil)) (sbs_one (se_cmp Y (se_loc (by kernel_rfl)) (se_loc (by kernel_rfl)) (by kernel_rfl)))))) ss_nil)
theorem at__law_count {P : Pm} (Y : PmOk P) (B : BltOk P) (hK : P.K = KK P.w.params) : ∃ sc body, FnAt P 214 ["_law_seen", "_law_due"] sc body ∧ ∀ {G : Gx} {n : Nat}, GxOk P G → SndFn P G n → ∀ hm, SS P G n hm sc body b__law_count :=
  ⟨scOf (stA 14), bodyOf (stA 14), fn_at (o := { cls := .type "function", data := .func fd__law_count }) (fd := fd__law_count) Y (by rw [hK]; kernel_rfl) rfl (by rw [hK]; kernel_rfl) (by kernel_rfl) rfl rfl rfl (fun vals h => by obtain ⟨a, b, rfl⟩ := len2 h; rfl) (by kernel_rfl) (by rw [hK]; kernel_rfl), fun GO FN hm => d__law_count Y B GO FN hm⟩
def b__law_leaf : List Sm := [.ite (.bop false [.not (.isi (.loc "_law_seen") .tuple), .cmp (.bf .len [.loc "_law_seen"]) .NotEq (.int 2), .not (.isi (.idx (.loc "_law_seen") (.int 0)) .str), .cmp (.idx (.loc "_law_seen") (.int 0)) .NotEq (.str "leaf")]) [.ret (.bool false)] [], .ret (.call (.glob "_law_count") [.idx (.loc "_law_seen") (.int 1), .loc "_law_number"])]
theorem d__law_leaf {P : Pm} {G : Gx} {n : Nat} (Y : PmOk P) (B : BltOk P) (GO : GxOk P G) (FN : SndFn P G n) (hm : Bool) : SS P G n hm (scOf (stA 15)) (bodyOf (stA 15)) b__law_leaf := (ss_cons (s1_if (st_bop (sts_more (st_not (st_of_se (se_isi Y B GO (by kernel_rfl) (by kernel_rfl) (by kernel_rfl) (by kernel_rfl) (se_loc (by kernel_rfl))) rfl)) (sts_more (st_cmp Y (se_bf Y B (k := 1) (by kernel_rfl) (by kernel_rfl) (by kernel_rfl) (ses_cons (by kernel_rfl) (se_loc (by kernel_rfl)) ses_nil)) se_int (by kernel_rfl)) (sts_more (st_not (st_of_se (se_isi Y B GO (by kernel_rfl) (by kernel_rfl) (by kernel_rfl) (by kernel_rfl) (se_idx1 (se_loc (by kernel_rfl)) se_int rfl)) rfl)) (sts_one (st_cmp Y (se_idx1 (se_loc (by kernel_rfl)) se_int rfl) se_str (by kernel_rfl))))))) (ss_cons (s1_ret se_bool) ss_nil) ss_nil) (ss_cons (s1_ret (se_call Y GO FN (by kernel_rfl) (se_glob Y GO (by kernel_rfl)) (ses_cons (by kernel_rfl) (se_idx1 (se_loc (by kernel_rfl)) se_int rfl) (ses_cons (by kernel_rfl) (se_loc (by kernel_rfl)) ses_nil)))) ss_nil))
theorem at__law_leaf {P : Pm} (Y : PmOk P) (B : BltOk P) (hK : P.K = KK P.w.params) : ∃ sc body, FnAt P 221 ["_law_seen", "_law_number"] sc body ∧ ∀ {G : Gx} {n : Nat}, GxOk P G → SndFn P G n → ∀ hm, SS P G n hm sc body b__law_leaf :=
  ⟨scOf (stA 15), bodyOf (stA 15), fn_at (o := { cls := .type "function", data := .func fd__law_leaf }) (fd := fd__law_leaf) Y (by rw [hK]; kernel_rfl) rfl (by rw [hK]; kernel_rfl) (by kernel_rfl) rfl rfl rfl (fun vals h => by obtain ⟨a, b, rfl⟩ := len2 h; rfl) (by kernel_rfl) (by rw [hK]; kernel_rfl), fun GO FN hm => d__law_leaf Y B GO FN hm⟩
def b__law_asked : List Sm := [.ite (.cmp (.loc "_law_way") .Eq (.int 0)) [.expr (.meth (.loc "_law_pile") "content" [.loc "_law_box"])] [.ite (.cmp (.loc "_law_way") .Eq (.int 1)) [.expr (.meth (.loc "_law_pile") "holders" [.loc "_law_box"])] [.ite (.cmp (.loc "_law_way") .Eq (.int 2)) [.expr (.meth (.loc "_law_pile") "hold" [.loc "_law_box"])] [.ite (.cmp (.loc "_law_way") .Eq (.int 3)) [.expr (.meth (.loc "_law_pile") "let_go" [.loc "_law_box"])] [.expr (.meth (.loc "_law_pile") "branch" [.list [.tup [.str "a", .loc "_law_box"]]])]]]]]
theorem d__law_asked {P : Pm} {G : Gx} {n : Nat} (Y : PmOk P) (B : BltOk P) (GO : GxOk P G) (FN : SndFn P G n) (hm : Bool) : SS P G n hm (scOf (stA 16)) (bodyOf (stA 16)) b__law_asked := (ss_cons (s1_if (st_cmp Y (se_loc (by kernel_rfl)) se_int (by kernel_rfl)) (ss_cons (s1_expr (by kernel_rfl) (se_meth Y GO FN (by kernel_rfl) (by kernel_rfl) (by kernel_rfl) (Nat.le_of_ble_eq_true rfl) (se_loc (by kernel_rfl)) (ses_cons (by kernel_rfl) (se_loc (by kernel_rfl)) ses_nil))) ss_nil) (ss_cons (s1_if (st_cmp Y (se_loc (by kernel_rfl)) se_int (by kernel_rfl)) (ss_cons (s1_expr (by kernel_rfl) (se_meth Y GO FN (by kernel_rfl) (by kernel_rfl) (by kernel_rfl) (Nat.le_of_ble_eq_true rfl) (se_loc (by kernel_rfl)) (ses_cons (by kernel_rfl) (se_loc (by kernel_rfl)) ses_nil))) ss_nil) (ss_cons (s1_if (st_cmp Y (se_loc (by kernel_rfl)) se_int (by kernel_rfl)) (ss_cons (s1_expr (by kernel_rfl) (se_meth Y GO FN (by kernel_rfl) (by kernel_rfl) (by kernel_rfl) (Nat.le_of_ble_eq_true rfl) (se_loc (by kernel_rfl)) (ses_cons (by kernel_rfl) (se_loc (by kernel_rfl)) ses_nil))) ss_nil) (ss_cons (s1_if (st_cmp Y (se_loc (by kernel_rfl)) se_int (by kernel_rfl)) (ss_cons (s1_expr (by kernel_rfl) (se_meth Y GO FN (by kernel_rfl) (by kernel_rfl) (by kernel_rfl) (Nat.le_of_ble_eq_true rfl) (se_loc (by kernel_rfl)) (ses_cons (by kernel_rfl) (se_loc (by kernel_rfl)) ses_nil))) ss_nil) (ss_cons (s1_expr (by kernel_rfl) (se_meth Y GO FN (by kernel_rfl) (by kernel_rfl) (by kernel_rfl) (Nat.le_of_ble_eq_true rfl) (se_loc (by kernel_rfl)) (ses_cons (by kernel_rfl) (se_list (ses_cons (by kernel_rfl) (se_tup (ses_cons (by kernel_rfl) se_str (ses_cons (by kernel_rfl) (se_loc (by kernel_rfl)) ses_nil))) ses_nil)) ses_nil))) ss_nil)) ss_nil)) ss_nil)) ss_nil)) ss_nil)
theorem at__law_asked {P : Pm} (Y : PmOk P) (B : BltOk P) (hK : P.K = KK P.w.params) : ∃ sc body, FnAt P 228 ["_law_pile", "_law_box", "_law_way"] sc body ∧ ∀ {G : Gx} {n : Nat}, GxOk P G → SndFn P G n → ∀ hm, SS P G n hm sc body b__law_asked :=
  ⟨scOf (stA 16), bodyOf (stA 16), fn_at (o := { cls := .type "function", data := .func fd__law_asked }) (fd := fd__law_asked) Y (by rw [hK]; kernel_rfl) rfl (by rw [hK]; kernel_rfl) (by kernel_rfl) rfl rfl rfl (fun vals h => by obtain ⟨a, b, c, rfl⟩ := len3 h; rfl) (by kernel_rfl) (by rw [hK]; kernel_rfl), fun GO FN hm => d__law_asked Y B GO FN hm⟩
def b__law_refused : List Sm := [.try_ [.expr (.call (.glob "_law_asked") [.loc "_law_pile", .loc "_law_box", .loc "_law_way"])] [.mk "SnapError" (some "e") [.ite (.bop false [.isi (.loc "e") (.cls "BadPath"), .isi (.loc "e") (.cls "BadNumber"), .isi (.loc "e") (.cls "Nothing"), .isi (.loc "e") (.cls "NoShot")]) [.ret (.bool false)] [], .ite (.bop false [.isi (.loc "e") (.cls "LeafThere"), .isi (.loc "e") (.cls "BranchThere")]) [.ret (.bool false)] [], .ret (.bop true [.isi (.loc "e") (.cls "NoBox"), .isi (.loc "e") .valueError])]], .ret (.bool false)]
theorem d__law_refused {P : Pm} {G : Gx} {n : Nat} (Y : PmOk P) (B : BltOk P) (GO : GxOk P G) (FN : SndFn P G n) (hm : Bool) : SS P G n hm (scOf (stA 17)) (bodyOf (stA 17)) b__law_refused := (ss_cons (s1_try Y GO (ss_cons (s1_expr (by kernel_rfl) (se_call Y GO FN (by kernel_rfl) (se_glob Y GO (by kernel_rfl)) (ses_cons (by kernel_rfl) (se_loc (by kernel_rfl)) (ses_cons (by kernel_rfl) (se_loc (by kernel_rfl)) (ses_cons (by kernel_rfl) (se_loc (by kernel_rfl)) ses_nil))))) ss_nil) (SH.as (by kernel_rfl) (by kernel_rfl) (ss_cons (s1_if (st_bop (sts_more (st_of_se (se_isi_cls Y B GO (by kernel_rfl) (by kernel_rfl) (by kernel_rfl) (se_loc (by kernel_rfl))) rfl) (sts_more (st_of_se (se_isi_cls Y B GO (by kernel_rfl) (by kernel_rfl) (by kernel_rfl) (se_loc (by kernel_rfl))) rfl) (sts_more (st_of_se (se_isi_cls Y B GO (by kernel_rfl) (by kernel_rfl) (by kernel_rfl) (se_loc (by kernel_rfl))) rfl) (sts_one (st_of_se (se_isi_cls Y B GO (by kernel_rfl) (by kernel_rfl) (by kernel_rfl) (se_loc (by kernel_rfl))) rfl)))))) (ss_cons (s1_ret se_bool) ss_nil) ss_nil) (ss_cons (s1_if (st_bop (sts_more (st_of_se (se_isi_cls Y B GO (by kernel_rfl) (by kernel_rfl) (by kernel_rfl) (se_loc (by kernel_rfl))) rfl) (sts_one (st_of_se (se_isi_cls Y B GO (by kernel_rfl) (by kernel_rfl) (by kernel_rfl) (se_loc (by kernel_rfl))) rfl)))) (ss_cons (s1_ret se_bool) ss_nil) ss_nil) (ss_cons (s1_ret (se_bop1 (sbs_cons (se_isi_cls Y B GO (by kernel_rfl) (by kernel_rfl) (by kernel_rfl) (se_loc (by kernel_rfl))) (sbs_one (se_isi Y B GO (by kernel_rfl) (by kernel_rfl) (by kernel_rfl) (by kernel_rfl) (se_loc (by kernel_rfl))))))) ss_nil))) SH.nil)) (ss_cons (s1_ret se_bool) ss_nil))
theorem at__law_refused {P : Pm} (Y : PmOk P) (B : BltOk P) (hK : P.K = KK P.w.params) : ∃ sc body, FnAt P 235 ["_law_pile", "_law_box", "_law_way"] sc body ∧ ∀ {G : Gx} {n : Nat}, GxOk P G → SndFn P G n → ∀ hm, SS P G n hm sc body b__law_refused :=
  ⟨scOf (stA 17), bodyOf (stA 17), fn_at (o := { cls := .type "function", data := .func fd__law_refused }) (fd := fd__law_refused) Y (by rw [hK]; kernel_rfl) rfl (by rw [hK]; kernel_rfl) (by kernel_rfl) rfl rfl rfl (fun vals h => by obtain ⟨a, b, c, rfl⟩ := len3 h; rfl) (by kernel_rfl) (by rw [hK]; kernel_rfl), fun GO FN hm => d__law_refused Y B GO FN hm⟩
def b__law_kept : List Sm := [.ite (.bop false [.not (.isi (.loc "_law_seen") .list), .cmp (.bf .len [.loc "_law_seen"]) .NotEq (.bf .len [.loc "_law_due"])]) [.ret (.bool false)] [], .ret (.bf .all [.comp (.call (.glob "_law_count") [.idx (.loc "_law_seen") (.loc "_law_k"), .idx (.loc "_law_due") (.loc "_law_k")]) "_law_k" (.bf .range [.bf .len [.loc "_law_due"]]) []])]
theorem d__law_kept {P : Pm} {G : Gx} {n : Nat} (Y : PmOk P) (B : BltOk P) (GO : GxOk P G) (FN : SndFn P G n) (hm : Bool) : SS P G n hm (scOf (stA 18)) (bodyOf (stA 18)) b__law_kept := (ss_cons (s1_if (st_bop (sts_more (st_not (st_of_se (se_isi Y B GO (by kernel_rfl) (by kernel_rfl) (by kernel_rfl) (by kernel_rfl) (se_loc (by kernel_rfl))) rfl)) (sts_one (st_cmp Y (se_bf Y B (k := 1) (by kernel_rfl) (by kernel_rfl) (by kernel_rfl) (ses_cons (by kernel_rfl) (se_loc (by kernel_rfl)) ses_nil)) (se_bf Y B (k := 1) (by kernel_rfl) (by kernel_rfl) (by kernel_rfl) (ses_cons (by kernel_rfl) (se_loc (by kernel_rfl)) ses_nil)) (by kernel_rfl))))) (ss_cons (s1_ret se_bool) ss_nil) ss_nil) (ss_cons (s1_ret (se_bf Y B (k := 1) (by kernel_rfl) (by kernel_rfl) (by kernel_rfl) (ses_cons (by kernel_rfl) (se_comp (by kernel_rfl) (by kernel_rfl) (se_bf Y B (k := 1) (by kernel_rfl) (by kernel_rfl) (by kernel_rfl) (ses_cons (by kernel_rfl) (se_bf Y B (k := 1) (by kernel_rfl) (by kernel_rfl) (by kernel_rfl) (ses_cons (by kernel_rfl) (se_loc (by kernel_rfl)) ses_nil)) ses_nil)) (se_call Y GO FN (by kernel_rfl) (se_glob Y GO (by kernel_rfl)) (ses_cons (by kernel_rfl) (se_idx1 (se_loc (by kernel_rfl)) (se_loc (by kernel_rfl)) rfl) (ses_cons (by kernel_rfl) (se_idx1 (se_loc (by kernel_rfl)) (se_loc (by kernel_rfl)) rfl) ses_nil))) STall.nil) ses_nil))) ss_nil))
theorem at__law_kept {P : Pm} (Y : PmOk P) (B : BltOk P) (hK : P.K = KK P.w.params) : ∃ sc body, FnAt P 240 ["_law_seen", "_law_due"] sc body ∧ ∀ {G : Gx} {n : Nat}, GxOk P G → SndFn P G n → ∀ hm, SS P G n hm sc body b__law_kept :=
  ⟨scOf (stA 18), bodyOf (stA 18), fn_at (o := { cls := .type "function", data := .func fd__law_kept }) (fd := fd__law_kept) Y (by rw [hK]; kernel_rfl) rfl (by rw [hK]; kernel_rfl) (by kernel_rfl) rfl rfl rfl (fun vals h => by obtain ⟨a, b, rfl⟩ := len2 h; rfl) (by kernel_rfl) (by rw [hK]; kernel_rfl), fun GO FN hm => d__law_kept Y B GO FN hm⟩
def b_law : List Sm := [.asg "_law_pile" (.call (.glob "Pile") []), .asg "_law_ahead" (.bin .Mod (.call (.glob "_law_cell_at") [.loc "_law_script", .int 0]) (.int 6)), .for_ "_law_k" (.bf .range [.loc "_law_ahead"]) [.ite (.not (.call (.glob "_law_count") [.meth (.loc "_law_pile") "leaf" [.bin .Sub (.loc "_law_k") (.int 2)], .bin .Add (.loc "_law_k") (.int 1)])) [.ret (.bool false)] []], .asg "_law_number" (.bin .Add (.bin .Sub (.bin .Mod (.call (.glob "_law_cell_at") [.loc "_law_script", .int 1]) (.bin .Sub (.bin .Mult (.int 2) (.bin .Pow (.int 10) (.int 30))) (.int 1))) (.bin .Pow (.int 10) (.int 30))) (.int 1)), .asg "_law_box" (.meth (.loc "_law_pile") "leaf" [.loc "_law_number"]), .ite (.bop false [.not (.call (.glob "_law_count") [.loc "_law_box", .bin .Add (.loc "_law_ahead") (.int 1)]), .not (.call (.glob "_law_count") [.attr (.loc "_law_pile") "made", .bin .Add (.loc "_law_ahead") (.int 1)])]) [.ret (.bool false)] [], .asg "_law_many" (.bin .Mod (.call (.glob "_law_cell_at") [.loc "_law_script", .int 2]) (.int 10)), .for_ "_law_k" (.bf .range [.loc "_law_many"]) [.ite (.bop false [.not (.call (.glob "_law_count") [.meth (.loc "_law_pile") "holders" [.loc "_law_box"], .loc "_law_k"]), .cmp (.meth (.loc "_law_pile") "hold" [.loc "_law_box"]) .IsNot (.none)]) [.ret (.bool false)] []], .asg "_law_left" (.loc "_law_many"), .for_ "_law_k" (.bf .range [.bf .max2 [.int 1, .loc "_law_many"]]) [.ite (.bop false [.not (.call (.glob "_law_leaf") [.meth (.loc "_law_pile") "content" [.loc "_law_box"], .loc "_law_number"]), .not (.call (.glob "_law_count") [.meth (.loc "_law_pile") "holders" [.loc "_law_box"], .loc "_law_left"])]) [.ret (.bool false)] [], .asg "_law_left" (.bf .max2 [.int 0, .bin .Sub (.loc "_law_left") (.int 1)]), .ite (.not (.call (.glob "_law_count") [.meth (.loc "_law_pile") "let_go" [.loc "_law_box"], .bf .int [.cmp (.loc "_law_left") .Eq (.int 0)]])) [.ret (.bool false)] []], .asg "_law_odd" (.idx (.list [.none, .bool true, .str "1", .int 0, .neg (.int 1), .bin .Add (.loc "_law_box") (.int 1), .list [.int 1], .tup [.int 1], .dict [] []]) (.bin .Mod (.call (.glob "_law_cell_at") [.loc "_law_script", .int 3]) (.int 9))), .for_ "_law_way" (.bf .range [.int 5]) [.ite (.bop false [.not (.call (.glob "_law_refused") [.loc "_law_pile", .loc "_law_box", .loc "_law_way"]), .not (.call (.glob "_law_refused") [.loc "_law_pile", .loc "_law_odd", .loc "_law_way"])]) [.ret (.bool false)] []], .ret (.bop true [.call (.glob "_law_kept") [.meth (.loc "_law_pile") "kept" [], .comp (.bin .Add (.loc "_law_k") (.int 1)) "_law_k" (.bf .range [.loc "_law_ahead"]) []], .call (.glob "_law_count") [.attr (.loc "_law_pile") "made", .bin .Add (.loc "_law_ahead") (.int 1)]])]
theorem d_law {P : Pm} {G : Gx} {n : Nat} (Y : PmOk P) (B : BltOk P) (GO : GxOk P G) (FN : SndFn P G n) (hm : Bool) : SS P G n hm (scOf (stA 19)) (bodyOf (stA 19)) b_law := (ss_cons (s1_asg (by kernel_rfl) (by kernel_rfl) (se_call Y GO FN (by kernel_rfl) (se_glob Y GO (by kernel_rfl)) ses_nil)) (ss_cons (s1_asg (by kernel_rfl) (by kernel_rfl) (se_bin (se_call Y GO FN (by kernel_rfl) (se_glob Y GO (by kernel_rfl)) (ses_cons (by kernel_rfl) (se_loc (by kernel_rfl)) (ses_cons (by kernel_rfl) se_int ses_nil))) se_int)) (ss_cons (s1_for (by kernel_rfl) (by kernel_rfl) (se_bf Y B (k := 1) (by kernel_rfl) (by kernel_rfl) (by kernel_rfl) (ses_cons (by kernel_rfl) (se_loc (by kernel_rfl)) ses_nil)) (ss_cons (s1_if (st_not (st_of_se (se_call Y GO FN (by kernel_rfl) (se_glob Y GO (by kernel_rfl)) (ses_cons (by kernel_rfl) (se_meth Y GO FN (by kernel_rfl) (by kernel_rfl) (by kernel_rfl) (Nat.le_of_ble_eq_true rfl) (se_loc (by kernel_rfl)) (ses_cons (by kernel_rfl) (se_bin (se_loc (by kernel_rfl)) se_int) ses_nil)) (ses_cons (by kernel_rfl) (se_bin (se_loc (by kernel_rfl)) se_int) ses_nil))) rfl)) (ss_cons (s1_ret se_bool) ss_nil) ss_nil) ss_nil)) (ss_cons (s1_asg (by kernel_rfl) (by kernel_rfl) (se_bin (se_bin (se_bin (se_call Y GO FN (by kernel_rfl) (se_glob Y GO (by kernel_rfl)) (ses_cons (by kernel_rfl) (se_loc (by kernel_rfl)) (ses_cons (by kernel_rfl) se_int ses_nil))) (se_bin (se_bin se_int (se_bin se_int se_int)) se_int)) (se_bin se_int se_int)) se_int)) (ss_cons (s1_asg (by kernel_rfl) (by kernel_rfl) (se_meth Y GO FN (by kernel_rfl) (by kernel_rfl) (by kernel_rfl) (Nat.le_of_ble_eq_true rfl) (se_loc (by kernel_rfl)) (ses_cons (by kernel_rfl) (se_loc (by kernel_rfl)) ses_nil))) (ss_cons (s1_if (st_bop (sts_more (st_not (st_of_se (se_call Y GO FN (by kernel_rfl) (se_glob Y GO (by kernel_rfl)) (ses_cons (by kernel_rfl) (se_loc (by kernel_rfl)) (ses_cons (by kernel_rfl) (se_bin (se_loc (by kernel_rfl)) se_int) ses_nil))) rfl)) (sts_one (st_not (st_of_se (se_call Y GO FN (by kernel_rfl) (se_glob Y GO (by kernel_rfl)) (ses_cons (by kernel_rfl) (se_attr Y GO (by kernel_rfl) (se_loc (by kernel_rfl))) (ses_cons (by kernel_rfl) (se_bin (se_loc (by kernel_rfl)) se_int) ses_nil))) rfl))))) (ss_cons (s1_ret se_bool) ss_nil) ss_nil) (ss_cons (s1_asg (by kernel_rfl) (by kernel_rfl) (se_bin (se_call Y GO FN (by kernel_rfl) (se_glob Y GO (by kernel_rfl)) (ses_cons (by kernel_rfl) (se_loc (by kernel_rfl)) (ses_cons (by kernel_rfl) se_int ses_nil))) se_int)) (ss_cons (s1_for (by kernel_rfl) (by kernel_rfl) (se_bf Y B (k := 1) (by kernel_rfl) (by kernel_rfl) (by kernel_rfl) (ses_cons (by kernel_rfl) (se_loc (by kernel_rfl)) ses_nil)) (ss_cons (s1_if (st_bop (sts_more (st_not (st_of_se (se_call Y GO FN (by kernel_rfl) (se_glob Y GO (by kernel_rfl)) (ses_cons (by kernel_rfl) (se_meth Y GO FN (by kernel_rfl) (by kernel_rfl) (by kernel_rfl) (Nat.le_of_ble_eq_true rfl) (se_loc (by kernel_rfl)) (ses_cons (by kernel_rfl) (se_loc (by kernel_rfl)) ses_nil)) (ses_cons (by kernel_rfl) (se_loc (by kernel_rfl)) ses_nil))) rfl)) (sts_one (st_cmp Y (se_meth Y GO FN (by kernel_rfl) (by kernel_rfl) (by kernel_rfl) (Nat.le_of_ble_eq_true rfl) (se_loc (by kernel_rfl)) (ses_cons (by kernel_rfl) (se_loc (by kernel_rfl)) ses_nil)) se_none (by kernel_rfl))))) (ss_cons (s1_ret se_bool) ss_nil) ss_nil) ss_nil)) (ss_cons (s1_asg (by kernel_rfl) (by kernel_rfl) (se_loc (by kernel_rfl))) (ss_cons (s1_for (by kernel_rfl) (by kernel_rfl) (se_bf Y B (k := 1) (by kernel_rfl) (by kernel_rfl) (by kernel_rfl) (ses_cons (by kernel_rfl) (se_bf Y B (k := 2) (by kernel_rfl) (by kernel_rfl) (by kernel_rfl) (ses_cons (by kernel_rfl) se_int (ses_cons (by kernel_rfl) (se_loc (by kernel_rfl)) ses_nil))) ses_nil)) (ss_cons (s1_if (st_bop (sts_more (st_not (st_of_se (se_call Y GO FN (by kernel_rfl) (se_glob Y GO (by kernel_rfl)) (ses_cons (by kernel_rfl) (se_meth Y GO FN (by kernel_rfl) (by kernel_rfl) (by kernel_rfl) (Nat.le_of_ble_eq_true rfl) (se_loc (by kernel_rfl)) (ses_cons (by kernel_rfl) (se_loc (by kernel_rfl)) ses_nil)) (ses_cons (by kernel_rfl) (se_loc (by kernel_rfl)) ses_nil))) rfl)) (sts_one (st_not (st_of_se (se_call Y GO FN (by kernel_rfl) (se_glob Y GO (by kernel_rfl)) (ses_cons (by kernel_rfl) (se_meth Y GO FN (by kernel_rfl) (by kernel_rfl) (by kernel_rfl) (Nat.le_of_ble_eq_true rfl) (se_loc (by kernel_rfl)) (ses_cons (by kernel_rfl) (se_loc (by kernel_rfl)) ses_nil)) (ses_cons (by kernel_rfl) (se_loc (by kernel_rfl)) ses_nil))) rfl))))) (ss_cons (s1_ret se_bool) ss_nil) ss_nil) (ss_cons (s1_asg (by kernel_rfl) (by kernel_rfl) (se_bf Y B (k := 2) (by kernel_rfl) (by kernel_rfl) (by kernel_rfl) (ses_cons (by kernel_rfl) se_int (ses_cons (by kernel_rfl) (se_bin (se_loc (by kernel_rfl)) se_int) ses_nil)))) (ss_cons (s1_if (st_not (st_of_se (se_call Y GO FN (by kernel_rfl) (se_glob Y GO (by kernel_rfl)) (ses_cons (by kernel_rfl) (se_meth Y GO FN (by kernel_rfl) (by kernel_rfl) (by kernel_rfl) (Nat.le_of_ble_eq_true rfl) (se_loc (by kernel_rfl)) (ses_cons (by kernel_rfl) (se_loc (by kernel_rfl)) ses_nil)) (ses_cons (by kernel_rfl) (se_bf Y B (k := 1) (by kernel_rfl) (by kernel_rfl) (by kernel_rfl) (ses_cons (by kernel_rfl) (se_cmp Y (se_loc (by kernel_rfl)) se_int (by kernel_rfl)) ses_nil)) ses_nil))) rfl)) (ss_cons (s1_ret se_bool) ss_nil) ss_nil) ss_nil)))) (ss_cons (s1_asg (by kernel_rfl) (by kernel_rfl) (se_idx1 (se_list (ses_cons (by kernel_rfl) se_none (ses_cons (by kernel_rfl) se_bool (ses_cons (by kernel_rfl) se_str (ses_cons (by kernel_rfl) se_int (ses_cons (by kernel_rfl) (se_neg se_int) (ses_cons (by kernel_rfl) (se_bin (se_loc (by kernel_rfl)) se_int) (ses_cons (by kernel_rfl) (se_list (ses_cons (by kernel_rfl) se_int ses_nil)) (ses_cons (by kernel_rfl) (se_tup (ses_cons (by kernel_rfl) se_int ses_nil)) (ses_cons (by kernel_rfl) se_dict0 ses_nil)))))))))) (se_bin (se_call Y GO FN (by kernel_rfl) (se_glob Y GO (by kernel_rfl)) (ses_cons (by kernel_rfl) (se_loc (by kernel_rfl)) (ses_cons (by kernel_rfl) se_int ses_nil))) se_int) rfl)) (ss_cons (s1_for (by kernel_rfl) (by kernel_rfl) (se_bf Y B (k := 1) (by kernel_rfl) (by kernel_rfl) (by kernel_rfl) (ses_cons (by kernel_rfl) se_int ses_nil)) (ss_cons (s1_if (st_bop (sts_more (st_not (st_of_se (se_call Y GO FN (by kernel_rfl) (se_glob Y GO (by kernel_rfl)) (ses_cons (by kernel_rfl) (se_loc (by kernel_rfl)) (ses_cons (by kernel_rfl) (se_loc (by kernel_rfl)) (ses_cons (by kernel_rfl) (se_loc (by kernel_rfl)) ses_nil)))) rfl)) (sts_one (st_not (st_of_se (se_call Y GO FN (by kernel_rfl) (se_glob Y GO (by kernel_rfl)) (ses_cons (by kernel_rfl) (se_loc (by kernel_rfl)) (ses_cons (by kernel_rfl) (se_loc (by kernel_rfl)) (ses_cons (by kernel_rfl) (se_loc (by kernel_rfl)) ses_nil)))) rfl))))) (ss_cons (s1_ret se_bool) ss_nil) ss_nil) ss_nil)) (ss_cons (s1_ret (se_bop1 (sbs_cons (se_call Y GO FN (by kernel_rfl) (se_glob Y GO (by kernel_rfl)) (ses_cons (by kernel_rfl) (se_meth Y GO FN (by kernel_rfl) (by kernel_rfl) (by kernel_rfl) (Nat.le_of_ble_eq_true rfl) (se_loc (by kernel_rfl)) ses_nil) (ses_cons (by kernel_rfl) (se_comp (by kernel_rfl) (by kernel_rfl) (se_bf Y B (k := 1) (by kernel_rfl) (by kernel_rfl) (by kernel_rfl) (ses_cons (by kernel_rfl) (se_loc (by kernel_rfl)) ses_nil)) (se_bin (se_loc (by kernel_rfl)) se_int) STall.nil) ses_nil))) (sbs_one (se_call Y GO FN (by kernel_rfl) (se_glob Y GO (by kernel_rfl)) (ses_cons (by kernel_rfl) (se_attr Y GO (by kernel_rfl) (se_loc (by kernel_rfl))) (ses_cons (by kernel_rfl) (se_bin (se_loc (by kernel_rfl)) se_int) ses_nil))))))) ss_nil)))))))))))))
theorem at_law {P : Pm} (Y : PmOk P) (B : BltOk P) (hK : P.K = KK P.w.params) : ∃ sc body, FnAt P 245 ["_law_script"] sc body ∧ ∀ {G : Gx} {n : Nat}, GxOk P G → SndFn P G n → ∀ hm, SS P G n hm sc body b_law :=
  ⟨scOf (stA 19), bodyOf (stA 19), fn_at (o := { cls := .type "function", data := .func fd_law }) (fd := fd_law) Y (by rw [hK]; kernel_rfl) rfl (by rw [hK]; kernel_rfl) (by kernel_rfl) rfl rfl rfl (fun vals h => by obtain ⟨a, rfl⟩ := len1 h; rfl) (by kernel_rfl) (by rw [hK]; kernel_rfl), fun GO FN hm => d_law Y B GO FN hm⟩
def tabL : List (Addr × (List Str × List Sm)) := [(125, (["self"], b_Pile___init__)), (132, (["self", "box"], b_Pile_need)), (139, (["self", "what"], b_Pile_fresh)), (146, (["self", "number"], b_Pile_leaf)), (153, (["self", "rows"], b_Pile_branch)), (160, (["self", "box"], b_Pile_content)), (167, (["self", "box"], b_Pile_hold)), (174, (["self", "box"], b_Pile_holders)), (179, (["self", "box"], b_Pile_let_go)), (186, (["self"], b_Pile_kept)), (200, (["_law_seen"], b__law_whole)), (207, (["_law_script", "_law_k"], b__law_cell_at)), (214, (["_law_seen", "_law_due"], b__law_count)), (221, (["_law_seen", "_law_number"], b__law_leaf)), (228, (["_law_pile", "_law_box", "_law_way"], b__law_asked)), (235, (["_law_pile", "_law_box", "_law_way"], b__law_refused)), (240, (["_law_seen", "_law_due"], b__law_kept)), (245, (["_law_script"], b_law))]
def tab : Tab := fun f => tabL.lookup f
theorem tab_ok {P : Pm} (Y : PmOk P) (B : BltOk P) (hK : P.K = KK P.w.params) : TabOk P tab := by
  refine ⟨fun f ps sm h => ?_⟩
  have h : (f, (ps, sm)) ∈ tabL := tab_mem h
  simp only [tabL, List.mem_cons, List.not_mem_nil, or_false, Prod.mk.injEq] at h
  rcases h with ⟨rfl, rfl, rfl⟩ | ⟨rfl, rfl, rfl⟩ | ⟨rfl, rfl, rfl⟩ | ⟨rfl, rfl, rfl⟩ | ⟨rfl, rfl, rfl⟩ | ⟨rfl, rfl, rfl⟩ | ⟨rfl, rfl, rfl⟩ | ⟨rfl, rfl, rfl⟩ | ⟨rfl, rfl, rfl⟩ | ⟨rfl, rfl, rfl⟩ | ⟨rfl, rfl, rfl⟩ | ⟨rfl, rfl, rfl⟩ | ⟨rfl, rfl, rfl⟩ | ⟨rfl, rfl, rfl⟩ | ⟨rfl, rfl, rfl⟩ | ⟨rfl, rfl, rfl⟩ | ⟨rfl, rfl, rfl⟩ | ⟨rfl, rfl, rfl⟩
  · exact at_Pile___init__ Y B hK
  · exact at_Pile_need Y B hK
  · exact at_Pile_fresh Y B hK
  · exact at_Pile_leaf Y B hK
  · exact at_Pile_branch Y B hK
  · exact at_Pile_content Y B hK
  · exact at_Pile_hold Y B hK
  · exact at_Pile_holders Y B hK
  · exact at_Pile_let_go Y B hK
  · exact at_Pile_kept Y B hK
  · exact at__law_whole Y B hK
  · exact at__law_cell_at Y B hK
  · exact at__law_count Y B hK
  · exact at__law_leaf Y B hK
  · exact at__law_asked Y B hK
  · exact at__law_refused Y B hK
  · exact at__law_kept Y B hK
  · exact at_law Y B hK
end Mine.L3
end

section
open PySem PySem.W PyProof.Rows PySem.Challenge
set_option maxHeartbeats 0
namespace Mine.L3
theorem holds_of {names : List Str} (h : LawTells KK names tab 245) : rw_uf040010_03.Holds :=
  holds_law said fun said => holds_open (q := view) (d := lawD) (kwd := []) left (Hook.of hook) (Hook.keeps hook) (fun s e => xl_of s (Bool.and_eq_true_iff.mp e).1) XL.keeps (by kernel_rfl) (by kernel_rfl) (by kernel_rfl) (fun s e => recFacts_of (Bool.and_eq_true_iff.mp e).2) (by rfl) said (by decide +kernel) ⟨rfl, rfl, rfl, rfl, rfl, by decide +kernel⟩ (by w_witness2) (by
  intro w s₀ s₁ mg mb G Y fa o pm cd doc dV kV ho hd hcd hD hmg hg args vals as hpre hlay hrd hwl hlo
  have KX := kIn_of Y
  clear ho hd hcd hD
  refine Ground.open G ?_
  intro T B D TE TW
  wrow_args hpre hlay hrd hwl hlo
  rename_i hL ra w1 r0 hI hr hc hc'
  refine law_runs (K := KK) (names := names) (tab := tab) KX (topRead_of T) hmg rfl (by kernel_rfl) tab_ok hL hI hc h fun s' h1 h2 h3 => GoodW.toG ⟨.inl ⟨.bool true, .bool true, [], rfl, fun _ => rfl, .bool true, by kernel_rfl, fun _ => ⟨.nil, fun _ h => (nomatch h)⟩⟩, h3, h2, h1.trans hg⟩)
end Mine.L3
end

section
open PySem PyProof.Rows
namespace Mine.L3
open Mine
structure Facts (g : Gx) : Prop where
  g_SnapError : g.glob "SnapError" = some (.ref 24)
  g_BadPath : g.glob "BadPath" = some (.ref 37)
  g_BadNumber : g.glob "BadNumber" = some (.ref 49)
  g_Nothing : g.glob "Nothing" = some (.ref 61)
  g_LeafThere : g.glob "LeafThere" = some (.ref 73)
  g_BranchThere : g.glob "BranchThere" = some (.ref 85)
  g_NoShot : g.glob "NoShot" = some (.ref 97)
  g_NoBox : g.glob "NoBox" = some (.ref 109)
  g_Pile : g.glob "Pile" = some (.ref 189)
  g__law_whole : g.glob "_law_whole" = some (.ref 200)
  g__law_cell_at : g.glob "_law_cell_at" = some (.ref 207)
  g__law_count : g.glob "_law_count" = some (.ref 214)
  g__law_leaf : g.glob "_law_leaf" = some (.ref 221)
  g__law_asked : g.glob "_law_asked" = some (.ref 228)
  g__law_refused : g.glob "_law_refused" = some (.ref 235)
  g__law_kept : g.glob "_law_kept" = some (.ref 240)
  g_law : g.glob "law" = some (.ref 245)
  i_SnapError : g.init 24 = none
  i_BadPath : g.init 37 = none
  i_BadNumber : g.init 49 = none
  i_Nothing : g.init 61 = none
  i_LeafThere : g.init 73 = none
  i_BranchThere : g.init 85 = none
  i_NoShot : g.init 97 = none
  i_NoBox : g.init 109 = none
  i__law_whole : g.init 200 = none
  i__law_cell_at : g.init 207 = none
  i__law_count : g.init 214 = none
  i__law_leaf : g.init 221 = none
  i__law_asked : g.init 228 = none
  i__law_refused : g.init 235 = none
  i__law_kept : g.init 240 = none
  i_law : g.init 245 = none
  i_Pile : g.init 189 = some 125
  m_Pile_need : g.meth 189 "need" = some 132
  m_Pile_fresh : g.meth 189 "fresh" = some 139
  m_Pile_leaf : g.meth 189 "leaf" = some 146
  m_Pile_branch : g.meth 189 "branch" = some 153
  m_Pile_content : g.meth 189 "content" = some 160
  m_Pile_hold : g.meth 189 "hold" = some 167
  m_Pile_holders : g.meth 189 "holders" = some 174
  m_Pile_let_go : g.meth 189 "let_go" = some 179
  m_Pile_kept : g.meth 189 "kept" = some 186
  f_Pile_boxes : g.fld 189 "boxes" = true
  f_Pile_counts : g.fld 189 "counts" = true
  f_Pile_made : g.fld 189 "made" = true
  e_SnapError : g.isExc 24 = true
  e_BadPath : g.isExc 37 = true
  e_BadNumber : g.isExc 49 = true
  e_Nothing : g.isExc 61 = true
  e_LeafThere : g.isExc 73 = true
  e_BranchThere : g.isExc 85 = true
  e_NoShot : g.isExc 97 = true
  e_NoBox : g.isExc 109 = true
  s_SnapError_SnapError : g.sub 24 24 = true
  s_SnapError_BadPath : g.sub 24 37 = false
  s_SnapError_BadNumber : g.sub 24 49 = false
  s_SnapError_Nothing : g.sub 24 61 = false
  s_SnapError_LeafThere : g.sub 24 73 = false
  s_SnapError_BranchThere : g.sub 24 85 = false
  s_SnapError_NoShot : g.sub 24 97 = false
  s_SnapError_NoBox : g.sub 24 109 = false
  s_BadPath_SnapError : g.sub 37 24 = true
  s_BadPath_BadPath : g.sub 37 37 = true
  s_BadPath_BadNumber : g.sub 37 49 = false
  s_BadPath_Nothing : g.sub 37 61 = false
  s_BadPath_LeafThere : g.sub 37 73 = false
  s_BadPath_BranchThere : g.sub 37 85 = false
  s_BadPath_NoShot : g.sub 37 97 = false
  s_BadPath_NoBox : g.sub 37 109 = false
  s_BadNumber_SnapError : g.sub 49 24 = true
  s_BadNumber_BadPath : g.sub 49 37 = false
  s_BadNumber_BadNumber : g.sub 49 49 = true
  s_BadNumber_Nothing : g.sub 49 61 = false
  s_BadNumber_LeafThere : g.sub 49 73 = false
  s_BadNumber_BranchThere : g.sub 49 85 = false
  s_BadNumber_NoShot : g.sub 49 97 = false
  s_BadNumber_NoBox : g.sub 49 109 = false
  s_Nothing_SnapError : g.sub 61 24 = true
  s_Nothing_BadPath : g.sub 61 37 = false
  s_Nothing_BadNumber : g.sub 61 49 = false
  s_Nothing_Nothing : g.sub 61 61 = true
  s_Nothing_LeafThere : g.sub 61 73 = false
  s_Nothing_BranchThere : g.sub 61 85 = false
  s_Nothing_NoShot : g.sub 61 97 = false
  s_Nothing_NoBox : g.sub 61 109 = false
  s_LeafThere_SnapError : g.sub 73 24 = true
  s_LeafThere_BadPath : g.sub 73 37 = false
  s_LeafThere_BadNumber : g.sub 73 49 = false
  s_LeafThere_Nothing : g.sub 73 61 = false
  s_LeafThere_LeafThere : g.sub 73 73 = true
  s_LeafThere_BranchThere : g.sub 73 85 = false
  s_LeafThere_NoShot : g.sub 73 97 = false
  s_LeafThere_NoBox : g.sub 73 109 = false
  s_BranchThere_SnapError : g.sub 85 24 = true
  s_BranchThere_BadPath : g.sub 85 37 = false
  s_BranchThere_BadNumber : g.sub 85 49 = false
  s_BranchThere_Nothing : g.sub 85 61 = false
  s_BranchThere_LeafThere : g.sub 85 73 = false
  s_BranchThere_BranchThere : g.sub 85 85 = true
  s_BranchThere_NoShot : g.sub 85 97 = false
  s_BranchThere_NoBox : g.sub 85 109 = false
  s_NoShot_SnapError : g.sub 97 24 = true
  s_NoShot_BadPath : g.sub 97 37 = false
  s_NoShot_BadNumber : g.sub 97 49 = false
  s_NoShot_Nothing : g.sub 97 61 = false
  s_NoShot_LeafThere : g.sub 97 73 = false
  s_NoShot_BranchThere : g.sub 97 85 = false
  s_NoShot_NoShot : g.sub 97 97 = true
  s_NoShot_NoBox : g.sub 97 109 = false
  s_NoBox_SnapError : g.sub 109 24 = true
  s_NoBox_BadPath : g.sub 109 37 = false
  s_NoBox_BadNumber : g.sub 109 49 = false
  s_NoBox_Nothing : g.sub 109 61 = false
  s_NoBox_LeafThere : g.sub 109 73 = false
  s_NoBox_BranchThere : g.sub 109 85 = false
  s_NoBox_NoShot : g.sub 109 97 = false
  s_NoBox_NoBox : g.sub 109 109 = true
def names : List Str := ["SnapError", "BadPath", "BadNumber", "Nothing", "LeafThere", "BranchThere", "NoShot", "NoBox"]
theorem facts (p : Params) : Facts (gOf (KK p) names) := by
  refine ⟨?_, ?_, ?_, ?_, ?_, ?_, ?_, ?_, ?_, ?_, ?_, ?_, ?_, ?_, ?_, ?_, ?_, ?_, ?_, ?_, ?_, ?_, ?_, ?_, ?_, ?_, ?_, ?_, ?_, ?_, ?_, ?_, ?_, ?_, ?_, ?_, ?_, ?_, ?_, ?_, ?_, ?_, ?_, ?_, ?_, ?_, ?_, ?_, ?_, ?_, ?_, ?_, ?_, ?_, ?_, ?_, ?_, ?_, ?_, ?_, ?_, ?_, ?_, ?_, ?_, ?_, ?_, ?_, ?_, ?_, ?_, ?_, ?_, ?_, ?_, ?_, ?_, ?_, ?_, ?_, ?_, ?_, ?_, ?_, ?_, ?_, ?_, ?_, ?_, ?_, ?_, ?_, ?_, ?_, ?_, ?_, ?_, ?_, ?_, ?_, ?_, ?_, ?_, ?_, ?_, ?_, ?_, ?_, ?_, ?_, ?_, ?_, ?_, ?_, ?_, ?_, ?_, ?_⟩ <;> kernel_rfl
theorem Facts.gg {g : Gx} (f : Facts g) (tab : Tab) (n : Nat) : Facts (GG g tab n) := by
  cases n <;> exact ⟨f.g_SnapError, f.g_BadPath, f.g_BadNumber, f.g_Nothing, f.g_LeafThere, f.g_BranchThere, f.g_NoShot, f.g_NoBox, f.g_Pile, f.g__law_whole, f.g__law_cell_at, f.g__law_count, f.g__law_leaf, f.g__law_asked, f.g__law_refused, f.g__law_kept, f.g_law, f.i_SnapError, f.i_BadPath, f.i_BadNumber, f.i_Nothing, f.i_LeafThere, f.i_BranchThere, f.i_NoShot, f.i_NoBox, f.i__law_whole, f.i__law_cell_at, f.i__law_count, f.i__law_leaf, f.i__law_asked, f.i__law_refused, f.i__law_kept, f.i_law, f.i_Pile, f.m_Pile_need, f.m_Pile_fresh, f.m_Pile_leaf, f.m_Pile_branch, f.m_Pile_content, f.m_Pile_hold, f.m_Pile_holders, f.m_Pile_let_go, f.m_Pile_kept, f.f_Pile_boxes, f.f_Pile_counts, f.f_Pile_made, f.e_SnapError, f.e_BadPath, f.e_BadNumber, f.e_Nothing, f.e_LeafThere, f.e_BranchThere, f.e_NoShot, f.e_NoBox, f.s_SnapError_SnapError, f.s_SnapError_BadPath, f.s_SnapError_BadNumber, f.s_SnapError_Nothing, f.s_SnapError_LeafThere, f.s_SnapError_BranchThere, f.s_SnapError_NoShot, f.s_SnapError_NoBox, f.s_BadPath_SnapError, f.s_BadPath_BadPath, f.s_BadPath_BadNumber, f.s_BadPath_Nothing, f.s_BadPath_LeafThere, f.s_BadPath_BranchThere, f.s_BadPath_NoShot, f.s_BadPath_NoBox, f.s_BadNumber_SnapError, f.s_BadNumber_BadPath, f.s_BadNumber_BadNumber, f.s_BadNumber_Nothing, f.s_BadNumber_LeafThere, f.s_BadNumber_BranchThere, f.s_BadNumber_NoShot, f.s_BadNumber_NoBox, f.s_Nothing_SnapError, f.s_Nothing_BadPath, f.s_Nothing_BadNumber, f.s_Nothing_Nothing, f.s_Nothing_LeafThere, f.s_Nothing_BranchThere, f.s_Nothing_NoShot, f.s_Nothing_NoBox, f.s_LeafThere_SnapError, f.s_LeafThere_BadPath, f.s_LeafThere_BadNumber, f.s_LeafThere_Nothing, f.s_LeafThere_LeafThere, f.s_LeafThere_BranchThere, f.s_LeafThere_NoShot, f.s_LeafThere_NoBox, f.s_BranchThere_SnapError, f.s_BranchThere_BadPath, f.s_BranchThere_BadNumber, f.s_BranchThere_Nothing, f.s_BranchThere_LeafThere, f.s_BranchThere_BranchThere, f.s_BranchThere_NoShot, f.s_BranchThere_NoBox, f.s_NoShot_SnapError, f.s_NoShot_BadPath, f.s_NoShot_BadNumber, f.s_NoShot_Nothing, f.s_NoShot_LeafThere, f.s_NoShot_BranchThere, f.s_NoShot_NoShot, f.s_NoShot_NoBox, f.s_NoBox_SnapError, f.s_NoBox_BadPath, f.s_NoBox_BadNumber, f.s_NoBox_Nothing, f.s_NoBox_LeafThere, f.s_NoBox_BranchThere, f.s_NoBox_NoShot, f.s_NoBox_NoBox⟩
end Mine.L3
end

section
open PySem PyProof.Rows
namespace Mine.L3
open Mine

structure PileAt (H : Hp) (x d bx ct : Addr) (bs cs : List (Int × Value)) (mk : Int) : Prop where
  i : H x = some (.inst 189 d)
  n : H d = some (.ns [("boxes", .ref bx), ("counts", .ref ct), ("made", .int mk 0)])
  b : H bx = some (.idict bs)
  c : H ct = some (.idict cs)
  ne : bx ≠ ct

def Off3 (H H' : Hp) (d bx ct : Addr) : Prop := ∀ a, a ≠ d → a ≠ bx → a ≠ ct → H' a = H a

/-- is the thing a box that is there -/
def good (bs : List (Int × Value)) (H : Hp) : Value → Option Bool
  | .none => some false
  | .bool _ => some false
  | .int i _ => some (valueAt bs i).isSome
  | .str _ _ => some false
  | .ref a => (match H a with
    | some (.list _) => some false
    | some (.tup _) => some false
    | some (.idict _) => some false
    | some (.sdict _) => some false
    | _ => none)
  | _ => none

theorem c_need {G : Gx} (F : Facts G) {hm : Bool} {H : Hp} {x d bx ct : Addr} {bs cs : List (Int × Value)} {mk : Int} (hp : PileAt H x d bx ct bs cs mk) {v : Value} {b : Bool} (hg : good bs H v = some b) {Q : QV} {X : XV}
    (h : if b then Q v H else hm = false ∧ X 109 H) : wpF G hm ["self", "box"] b_Pile_need [.ref x, v] H Q X := by
  refine ⟨rfl, ?_⟩
  unfold good at hg
  split at hg
  · cases hg
    conv => whnf
    refine ⟨rfl, ?_⟩
    conv => whnf
    refine ⟨rfl, ?_⟩
    conv => whnf
    refine ⟨h.1, ?_⟩
    conv => whnf
    rw [F.g_NoBox]
    exact ⟨F.e_NoBox, h.2⟩
  · cases hg
    conv => whnf
    refine ⟨rfl, ?_⟩
    conv => whnf
    refine ⟨h.1, ?_⟩
    conv => whnf
    rw [F.g_NoBox]
    exact ⟨F.e_NoBox, h.2⟩
  · cases hg
    conv => whnf
    refine ⟨rfl, ?_⟩
    conv => whnf
    refine ⟨rfl, ?_⟩
    conv => whnf
    rw [hp.i]
    conv => whnf
    rw [hp.n]
    conv => whnf
    refine ⟨F.f_Pile_boxes, ?_⟩
    conv => whnf
    rw [hp.b]
    conv => whnf
    rename_i i t
    cases hb : (valueAt bs i).isSome with
    | true =>
      conv => whnf
      rw [hb] at h
      exact h
    | false =>
      conv => whnf
      rw [hb] at h
      refine ⟨h.1, ?_⟩
      conv => whnf
      rw [F.g_NoBox]
      exact ⟨F.e_NoBox, h.2⟩
  · cases hg
    conv => whnf
    refine ⟨rfl, ?_⟩
    conv => whnf
    refine ⟨rfl, ?_⟩
    conv => whnf
    refine ⟨h.1, ?_⟩
    conv => whnf
    rw [F.g_NoBox]
    exact ⟨F.e_NoBox, h.2⟩
  · split at hg
    all_goals first | (cases hg; done) | skip
    all_goals
      rename_i hx
      cases hg
      conv => whnf
      rw [hx]
      conv => whnf
      refine ⟨rfl, ?_⟩
      conv => whnf
      rw [hx]
      conv => whnf
      refine ⟨rfl, ?_⟩
      conv => whnf
      refine ⟨h.1, ?_⟩
      conv => whnf
      rw [F.g_NoBox]
      exact ⟨F.e_NoBox, h.2⟩
  · cases hg

theorem PileAt.ds {H : Hp} {x d bx ct : Addr} {bs cs : List (Int × Value)} {mk : Int} (hp : PileAt H x d bx ct bs cs mk) : x ≠ d ∧ x ≠ bx ∧ x ≠ ct ∧ d ≠ bx ∧ d ≠ ct ∧ bx ≠ d ∧ ct ≠ d := by
  refine ⟨?_, ?_, ?_, ?_, ?_, ?_, ?_⟩ <;> (intro e; subst e)
  · have := hp.i; rw [hp.n] at this; cases this
  · have := hp.i; rw [hp.b] at this; cases this
  · have := hp.i; rw [hp.c] at this; cases this
  · have := hp.n; rw [hp.b] at this; cases this
  · have := hp.n; rw [hp.c] at this; cases this
  · have := hp.n; rw [hp.b] at this; cases this
  · have := hp.n; rw [hp.c] at this; cases this

theorem ns_made (bx ct : Addr) (mk mk' : Int) : stored [((Str.ofString "boxes"), Value.ref bx), (Str.ofString "counts", .ref ct), (Str.ofString "made", .int mk 0)] (Str.ofString "made") (.int mk' 0) = [(Str.ofString "boxes", .ref bx), (Str.ofString "counts", .ref ct), (Str.ofString "made", .int mk' 0)] := by
  rfl

theorem PileAt.made {H : Hp} {x d bx ct : Addr} {bs cs : List (Int × Value)} {mk : Int} (hp : PileAt H x d bx ct bs cs mk) (mk' : Int) : PileAt (H.upd d (.ns [(Str.ofString "boxes", .ref bx), (Str.ofString "counts", .ref ct), (Str.ofString "made", .int mk' 0)])) x d bx ct bs cs mk' := by
  obtain ⟨n1, n2, n3, n4, n5, n6, n7⟩ := hp.ds
  exact ⟨(Hp.upd_ne _ _ n1).trans hp.i, Hp.upd_same _ _ _, (Hp.upd_ne _ _ n6).trans hp.b, (Hp.upd_ne _ _ n7).trans hp.c, hp.ne⟩
theorem PileAt.box {H : Hp} {x d bx ct : Addr} {bs cs : List (Int × Value)} {mk : Int} (hp : PileAt H x d bx ct bs cs mk) (bs' : List (Int × Value)) : PileAt (H.upd bx (.idict bs')) x d bx ct bs' cs mk := by
  obtain ⟨n1, n2, n3, n4, n5, n6, n7⟩ := hp.ds
  exact ⟨(Hp.upd_ne _ _ n2).trans hp.i, (Hp.upd_ne _ _ n4).trans hp.n, Hp.upd_same _ _ _, (Hp.upd_ne _ _ hp.ne.symm).trans hp.c, hp.ne⟩
theorem PileAt.cnt {H : Hp} {x d bx ct : Addr} {bs cs : List (Int × Value)} {mk : Int} (hp : PileAt H x d bx ct bs cs mk) (cs' : List (Int × Value)) : PileAt (H.upd ct (.idict cs')) x d bx ct bs cs' mk := by
  obtain ⟨n1, n2, n3, n4, n5, n6, n7⟩ := hp.ds
  exact ⟨(Hp.upd_ne _ _ n3).trans hp.i, (Hp.upd_ne _ _ n5).trans hp.n, (Hp.upd_ne _ _ hp.ne).trans hp.b, Hp.upd_same _ _ _, hp.ne⟩
theorem off_d (H : Hp) (d bx ct : Addr) (o : AObj) : Off3 H (H.upd d o) d bx ct := fun _ h _ _ => Hp.upd_ne _ _ h
theorem off_b (H : Hp) (d bx ct : Addr) (o : AObj) : Off3 H (H.upd bx o) d bx ct := fun _ _ h _ => Hp.upd_ne _ _ h
theorem off_c (H : Hp) (d bx ct : Addr) (o : AObj) : Off3 H (H.upd ct o) d bx ct := fun _ _ _ h => Hp.upd_ne _ _ h
theorem Off3.trans {H H1 H2 : Hp} {d bx ct : Addr} (h1 : Off3 H H1 d bx ct) (h2 : Off3 H1 H2 d bx ct) : Off3 H H2 d bx ct := fun a x y z => (h2 a x y z).trans (h1 a x y z)

theorem c_fresh {G : Gx} (F : Facts G) {hm : Bool} {H : Hp} {x d bx ct : Addr} {bs cs : List (Int × Value)} {mk : Int} (hp : PileAt H x d bx ct bs cs mk) {v : Value} {Q : QV} {X : XV} (z1 : bs.length ≤ sizeLine) (z2 : cs.length ≤ sizeLine)
    (h : ∀ H', PileAt H' x d bx ct (stored bs (mk + 1) v) (stored cs (mk + 1) (.int 0 0)) (mk + 1) → Off3 H H' d bx ct → Q (.int (mk + 1) 0) H') : wpF G hm ["self", "what"] b_Pile_fresh [.ref x, v] H Q X := by
  refine ⟨rfl, ?_⟩
  conv => whnf
  rw [hp.i]
  conv => whnf
  rw [hp.n]
  conv => whnf
  refine ⟨F.f_Pile_made, ?_⟩
  conv => whnf
  rw [hp.i]
  conv => whnf
  rw [hp.n]
  conv => whnf
  refine ⟨F.f_Pile_made, by simp, ?_⟩
  conv => whnf
  rw [ns_made]
  have p1 := hp.made (mk + 1)
  have o1 := off_d H d bx ct (.ns [(Str.ofString "boxes", .ref bx), (Str.ofString "counts", .ref ct), (Str.ofString "made", .int (mk + 1) 0)])
  generalize H.upd d (.ns [(Str.ofString "boxes", .ref bx), (Str.ofString "counts", .ref ct), (Str.ofString "made", .int (mk + 1) 0)]) = H1 at *
  rw [p1.i]
  conv => whnf
  rw [p1.n]
  conv => whnf
  refine ⟨F.f_Pile_boxes, ?_⟩
  conv => whnf
  rw [p1.i]
  conv => whnf
  rw [p1.n]
  conv => whnf
  refine ⟨F.f_Pile_made, ?_⟩
  conv => whnf
  rw [p1.b]
  conv => whnf
  refine ⟨z1, ?_⟩
  conv => whnf
  have p2 := p1.box (stored bs (mk + 1) v)
  have o2 := o1.trans (off_b H1 d bx ct (.idict (stored bs (mk + 1) v)))
  generalize H1.upd bx (.idict (stored bs (mk + 1) v)) = H2 at *
  rw [p2.i]
  conv => whnf
  rw [p2.n]
  conv => whnf
  refine ⟨F.f_Pile_counts, ?_⟩
  conv => whnf
  rw [p2.i]
  conv => whnf
  rw [p2.n]
  conv => whnf
  refine ⟨F.f_Pile_made, ?_⟩
  conv => whnf
  rw [p2.c]
  conv => whnf
  refine ⟨z2, ?_⟩
  conv => whnf
  have p3 := p2.cnt (stored cs (mk + 1) (.int 0 0))
  have o3 := o2.trans (off_c H2 d bx ct (.idict (stored cs (mk + 1) (.int 0 0))))
  generalize H2.upd ct (.idict (stored cs (mk + 1) (.int 0 0))) = H3 at *
  rw [p3.i]
  conv => whnf
  rw [p3.n]
  conv => whnf
  exact ⟨F.f_Pile_made, h _ p3 o3⟩

theorem c_kept {G : Gx} (F : Facts G) {H : Hp} {x d bx ct : Addr} {bs cs : List (Int × Value)} {mk : Int} (hp : PileAt H x d bx ct bs cs mk) {Q : QV} {X : XV} (hz : bs.length < 64)
    (h : ∀ ms : List Int, ms.Perm (bs.map (·.1)) → ms.Pairwise (· ≤ ·) → newV (.list (ms.map fun n => Value.int n 0)) H Q) : wpF G false ["self"] b_Pile_kept [.ref x] H Q X := by
  refine ⟨rfl, ?_⟩
  conv => whnf
  rw [hp.i]
  conv => whnf
  rw [hp.n]
  conv => whnf
  refine ⟨F.f_Pile_boxes, ?_⟩
  conv => whnf
  refine ⟨.inr rfl, ?_⟩
  conv => whnf
  rw [hp.b]
  conv => whnf
  refine ⟨by simpa using hz, bs.map (·.1), by simp, h⟩

/-- a thing that can be asked whether it is a whole number -/
def whole (H : Hp) : Value → Option Bool
  | .none => some false
  | .bool _ => some false
  | .int _ _ => some true
  | .str _ _ => some false
  | .ref a => (match H a with
    | some (.list _) => some false
    | some (.tup _) => some false
    | some (.idict _) => some false
    | some (.sdict _) => some false
    | _ => none)
  | _ => none

theorem c_whole {G : Gx} {hm : Bool} {H : Hp} {v : Value} {b : Bool} (hg : whole H v = some b) {Q : QV} {X : XV} (h : Q (.bool b) H) : wpF G hm ["_law_seen"] b__law_whole [v] H Q X := by
  refine ⟨rfl, ?_⟩
  unfold whole at hg
  split at hg
  · cases hg
    conv => whnf
    exact ⟨rfl, h⟩
  · cases hg
    conv => whnf
    refine ⟨rfl, ?_⟩
    conv => whnf
    exact ⟨rfl, h⟩
  · cases hg
    conv => whnf
    refine ⟨rfl, ?_⟩
    conv => whnf
    exact ⟨rfl, h⟩
  · cases hg
    conv => whnf
    exact ⟨rfl, h⟩
  · split at hg
    all_goals first | (cases hg; done) | skip
    all_goals
      rename_i hx
      cases hg
      conv => whnf
      rw [hx]
      exact ⟨rfl, h⟩
  · cases hg

theorem c_cell {G : Gx} {hm : Bool} {H : Hp} {a : Addr} {ns : List Int} {k : Nat} {t : Tok} (hr : H a = some (.rlist (ns.map fun n => Value.int n 0))) {Q : QV} {X : XV} (h : Q (.int (ns.getD k 0) 0) H) : wpF G hm ["_law_script", "_law_k"] b__law_cell_at [.ref a, .int k t] H Q X := by
  refine ⟨rfl, ?_⟩
  conv => whnf
  refine ⟨.inl rfl, ?_⟩
  conv => whnf
  rw [hr]
  simp only [List.length_map, cmpV, truthV]
  by_cases hk : (k : Int) < (ns.length : Int)
  · rw [decide_eq_true hk]
    conv => whnf
    rw [hr]
    have hk' : k < ns.length := by omega
    have e : at? (ns.map fun n => Value.int n 0) (k : Int) = some (.int (ns.getD k 0) 0) := by
      simp [at?, List.getD, hk']
    simp only [e]
    exact h
  · rw [decide_eq_false hk]
    conv => whnf
    have : ns.getD k 0 = 0 := by simp [List.getD, List.getElem?_eq_none (show ns.length ≤ k by omega)]
    rw [this] at h
    exact h

/-- level one -/
structure L1 (G : Gx) : Prop where
  need : ∀ {hm : Bool} {H : Hp} {x d bx ct : Addr} {bs cs : List (Int × Value)} {mk : Int}, PileAt H x d bx ct bs cs mk → ∀ {v : Value} {b : Bool}, good bs H v = some b → ∀ {Q : QV} {X : XV}, (if b then Q v H else hm = false ∧ X 109 H) → G.fn 132 hm [.ref x, v] H Q X
  fresh : ∀ {hm : Bool} {H : Hp} {x d bx ct : Addr} {bs cs : List (Int × Value)} {mk : Int}, PileAt H x d bx ct bs cs mk → ∀ {v : Value} {Q : QV} {X : XV}, bs.length ≤ sizeLine → cs.length ≤ sizeLine →
    (∀ H', PileAt H' x d bx ct (stored bs (mk + 1) v) (stored cs (mk + 1) (.int 0 0)) (mk + 1) → Off3 H H' d bx ct → Q (.int (mk + 1) 0) H') → G.fn 139 hm [.ref x, v] H Q X
  kept : ∀ {H : Hp} {x d bx ct : Addr} {bs cs : List (Int × Value)} {mk : Int}, PileAt H x d bx ct bs cs mk → ∀ {Q : QV} {X : XV}, bs.length < 64 → (∀ ms : List Int, ms.Perm (bs.map (·.1)) → ms.Pairwise (· ≤ ·) → newV (.list (ms.map fun n => Value.int n 0)) H Q) → G.fn 186 false [.ref x] H Q X
  whole : ∀ {hm : Bool} {H : Hp} {v : Value} {b : Bool}, whole H v = some b → ∀ {Q : QV} {X : XV}, Q (.bool b) H → G.fn 200 hm [v] H Q X
  cell : ∀ {hm : Bool} {H : Hp} {a : Addr} {ns : List Int} {k : Nat} {t : Tok}, H a = some (.rlist (ns.map fun n => Value.int n 0)) → ∀ {Q : QV} {X : XV}, Q (.int (ns.getD k 0) 0) H → G.fn 207 hm [.ref a, .int k t] H Q X

theorem l1 {g : Gx} (f : Facts g) (n : Nat) : L1 (GG g tab (n + 1)) where
  need := fun hp _ _ hg _ _ h => c_need (f.gg tab n) hp hg h
  fresh := fun hp _ _ _ z1 z2 h => c_fresh (f.gg tab n) hp z1 z2 h
  kept := fun hp _ _ hz h => c_kept (f.gg tab n) hp hz h
  whole := fun hg _ _ h => c_whole hg h
  cell := fun hr _ _ h => c_cell hr h

theorem c_leaf {G : Gx} (F : Facts G) (L : L1 G) {hm : Bool} {H : Hp} {x d bx ct : Addr} {bs cs : List (Int × Value)} {mk : Int} (hp : PileAt H x d bx ct bs cs mk) {v : Value} {Q : QV} {X : XV} (z1 : bs.length ≤ sizeLine) (z2 : cs.length ≤ sizeLine)
    (h : ∀ c H', H c = none → H' c = some (.tup [.str (Str.ofString "leaf") 0, v]) → PileAt H' x d bx ct (stored bs (mk + 1) (.ref c)) (stored cs (mk + 1) (.int 0 0)) (mk + 1) → (∀ a, a ≠ d → a ≠ bx → a ≠ ct → a ≠ c → H' a = H a) → Q (.int (mk + 1) 0) H') :
    wpF G hm ["self", "number"] b_Pile_leaf [.ref x, v] H Q X := by
  refine ⟨rfl, ?_⟩
  conv => whnf
  rw [hp.i]
  conv => whnf
  rw [hp.n, F.m_Pile_fresh]
  conv => whnf
  refine ⟨rfl, ?_⟩
  conv => whnf
  refine ⟨by simp [sizeLine], fun c hc => ?_⟩
  conv => whnf
  have ne : ∀ {a o}, H a = some o → a ≠ c := fun ha q => by rw [q, hc] at ha; cases ha
  have hp' : PileAt (H.upd c (.tup [.str (Str.ofString "leaf") 0, v])) x d bx ct bs cs mk := ⟨(Hp.upd_ne _ _ (ne hp.i)).trans hp.i, (Hp.upd_ne _ _ (ne hp.n)).trans hp.n, (Hp.upd_ne _ _ (ne hp.b)).trans hp.b, (Hp.upd_ne _ _ (ne hp.c)).trans hp.c, hp.ne⟩
  refine L.fresh hp' z1 z2 fun H' p' o' => h c H' hc ((o' c (ne hp.n).symm (ne hp.b).symm (ne hp.c).symm).trans (Hp.upd_same _ _ _)) p' fun a h1 h2 h3 h4 => (o' a h1 h2 h3).trans (Hp.upd_ne _ _ h4)

theorem c_hold {G : Gx} (F : Facts G) (L : L1 G) {hm : Bool} {H : Hp} {x d bx ct : Addr} {bs cs : List (Int × Value)} {mk : Int} (hp : PileAt H x d bx ct bs cs mk) {v : Value} {b : Bool} (hg : good bs H v = some b) {Q : QV} {X : XV} (z2 : cs.length ≤ sizeLine)
    (h : if b then ∃ i t k, v = .int i t ∧ valueAt cs i = some (.int k 0) ∧ ∀ H', PileAt H' x d bx ct bs (stored cs i (.int (k + 1) 0)) mk → Off3 H H' d bx ct → Q .none H' else hm = false ∧ X 109 H) : wpF G hm ["self", "box"] b_Pile_hold [.ref x, v] H Q X := by
  refine ⟨rfl, ?_⟩
  conv => whnf
  rw [hp.i]
  conv => whnf
  rw [hp.n, F.m_Pile_need]
  conv => whnf
  refine ⟨rfl, ?_⟩
  conv => whnf
  refine L.need hp hg ?_
  cases b with
  | false => exact h
  | true =>
    obtain ⟨i, t, k, rfl, hk, h⟩ := h
    conv => whnf
    rw [hp.i]
    conv => whnf
    rw [hp.n]
    conv => whnf
    refine ⟨F.f_Pile_counts, ?_⟩
    conv => whnf
    rw [hp.c]
    conv => whnf
    rw [hk]
    conv => whnf
    rw [hp.i]
    conv => whnf
    rw [hp.n]
    conv => whnf
    refine ⟨F.f_Pile_counts, ?_⟩
    conv => whnf
    rw [hp.c]
    conv => whnf
    refine ⟨z2, ?_⟩
    conv => whnf
    exact h _ (hp.cnt _) (off_c _ _ _ _ _)

theorem c_holders {G : Gx} (F : Facts G) (L : L1 G) {hm : Bool} {H : Hp} {x d bx ct : Addr} {bs cs : List (Int × Value)} {mk : Int} (hp : PileAt H x d bx ct bs cs mk) {v : Value} {b : Bool} (hg : good bs H v = some b) {Q : QV} {X : XV}
    (h : if b then ∃ i t k, v = .int i t ∧ valueAt cs i = some k ∧ Q k H else hm = false ∧ X 109 H) : wpF G hm ["self", "box"] b_Pile_holders [.ref x, v] H Q X := by
  refine ⟨rfl, ?_⟩
  conv => whnf
  rw [hp.i]
  conv => whnf
  rw [hp.n]
  conv => whnf
  refine ⟨F.f_Pile_counts, ?_⟩
  conv => whnf
  rw [hp.i]
  conv => whnf
  rw [hp.n, F.m_Pile_need]
  conv => whnf
  refine ⟨rfl, ?_⟩
  conv => whnf
  refine L.need hp hg ?_
  cases b with
  | false => exact h
  | true =>
    obtain ⟨i, t, k, rfl, hk, h⟩ := h
    conv => whnf
    rw [hp.c]
    conv => whnf
    rw [hk]
    exact h

theorem c_content {G : Gx} (F : Facts G) (L : L1 G) {hm : Bool} {H : Hp} {x d bx ct : Addr} {bs cs : List (Int × Value)} {mk : Int} (hp : PileAt H x d bx ct bs cs mk) {v : Value} {b : Bool} (hg : good bs H v = some b) {Q : QV} {X : XV}
    (h : if b then ∃ i t c w, v = .int i t ∧ valueAt bs i = some (.ref c) ∧ H c = some (.tup [.str (Str.ofString "leaf") 0, w]) ∧ Q (.ref c) H else hm = false ∧ X 109 H) : wpF G hm ["self", "box"] b_Pile_content [.ref x, v] H Q X := by
  refine ⟨rfl, ?_⟩
  conv => whnf
  rw [hp.i]
  conv => whnf
  rw [hp.n]
  conv => whnf
  refine ⟨F.f_Pile_boxes, ?_⟩
  conv => whnf
  rw [hp.i]
  conv => whnf
  rw [hp.n, F.m_Pile_need]
  conv => whnf
  refine ⟨rfl, ?_⟩
  conv => whnf
  refine L.need hp hg ?_
  cases b with
  | false => exact h
  | true =>
    obtain ⟨i, t, c, w, rfl, hk, hc, h⟩ := h
    conv => whnf
    rw [hp.b]
    conv => whnf
    rw [hk]
    conv => whnf
    rw [hc]
    conv => whnf
    exact h
end Mine.L3
end

section
open PySem PyProof.Rows
namespace Mine.L3
open Mine

def Off4 (H H' : Hp) (d bx ct : Addr) : Prop := ∀ a, a ≠ d → a ≠ bx → a ≠ ct → H a ≠ none → H' a = H a
theorem Off3.four {H H' : Hp} {d bx ct : Addr} (h : Off3 H H' d bx ct) : Off4 H H' d bx ct := fun a h1 h2 h3 _ => h a h1 h2 h3
theorem Off4.trans {H H1 H2 : Hp} {d bx ct : Addr} (h1 : Off4 H H1 d bx ct) (h2 : Off4 H1 H2 d bx ct) : Off4 H H2 d bx ct := fun a x y z n => (h2 a x y z (by rw [h1 a x y z n]; exact n)).trans (h1 a x y z n)
theorem off_new {H : Hp} {c : Addr} (hc : H c = none) (o : AObj) (d bx ct : Addr) : Off4 H (H.upd c o) d bx ct := fun a _ _ _ n => Hp.upd_ne _ _ fun e => n (e ▸ hc)
theorem PileAt.new {H : Hp} {x d bx ct c : Addr} {bs cs : List (Int × Value)} {mk : Int} (hp : PileAt H x d bx ct bs cs mk) (hc : H c = none) (o : AObj) : PileAt (H.upd c o) x d bx ct bs cs mk := by
  have ne : ∀ {a o}, H a = some o → a ≠ c := fun ha q => by rw [q, hc] at ha; cases ha
  exact ⟨(Hp.upd_ne _ _ (ne hp.i)).trans hp.i, (Hp.upd_ne _ _ (ne hp.n)).trans hp.n, (Hp.upd_ne _ _ (ne hp.b)).trans hp.b, (Hp.upd_ne _ _ (ne hp.c)).trans hp.c, hp.ne⟩
theorem PileAt.other {H : Hp} {x d bx ct c : Addr} {bs cs : List (Int × Value)} {mk : Int} (hp : PileAt H x d bx ct bs cs mk) (h1 : c ≠ x) (h2 : c ≠ d) (h3 : c ≠ bx) (h4 : c ≠ ct) (o : AObj) : PileAt (H.upd c o) x d bx ct bs cs mk :=
  ⟨(Hp.upd_ne _ _ h1.symm).trans hp.i, (Hp.upd_ne _ _ h2.symm).trans hp.n, (Hp.upd_ne _ _ h3.symm).trans hp.b, (Hp.upd_ne _ _ h4.symm).trans hp.c, hp.ne⟩

theorem c_let_go {G : Gx} (F : Facts G) (L : L1 G) {H : Hp} {x d bx ct : Addr} {bs cs : List (Int × Value)} {mk : Int} (hp : PileAt H x d bx ct bs cs mk) {v : Value} {b : Bool} (hg : good bs H v = some b) {Q : QV} {X : XV} (z1 : bs.length ≤ sizeLine) (z2 : cs.length ≤ sizeLine)
    (h : if b then ∃ i t k c w, v = .int i t ∧ valueAt cs i = some (.int k 0) ∧ valueAt bs i = some (.ref c) ∧ H c = some (.tup [.str (Str.ofString "leaf") 0, w]) ∧ (stored cs i (.int (max 0 (k - 1)) 0)).length ≤ sizeLine ∧ valueAt (stored cs i (.int (max 0 (k - 1)) 0)) i = some (.int (max 0 (k - 1)) 0) ∧
      (max 0 (k - 1) = 0 → ∀ H', PileAt H' x d bx ct (PySem.without bs i) (PySem.without (stored cs i (.int (max 0 (k - 1)) 0)) i) mk → Off4 H H' d bx ct → Q (.int 1 0) H') ∧
      (max 0 (k - 1) ≠ 0 → ∀ H', PileAt H' x d bx ct bs (stored cs i (.int (max 0 (k - 1)) 0)) mk → Off4 H H' d bx ct → Q (.int 0 0) H') else X 109 H) : wpF G false ["self", "box"] b_Pile_let_go [.ref x, v] H Q X := by
  refine ⟨rfl, ?_⟩
  conv => whnf
  rw [hp.i]
  conv => whnf
  rw [hp.n, F.m_Pile_need]
  conv => whnf
  refine ⟨rfl, ?_⟩
  conv => whnf
  refine L.need hp hg ?_
  cases b with
  | false => exact ⟨rfl, h⟩
  | true =>
    obtain ⟨i, t, k, c, w, rfl, hk, hb, hc, z3, hs, h0, h1⟩ := h
    conv => whnf
    refine ⟨by simp [sizeLine], fun wl hwl => ?_⟩
    conv => whnf
    have p1 := hp.new hwl (.list [.int i t])
    have o1 := off_new hwl (.list [.int i t]) d bx ct
    have hw1 : (H.upd wl (.list [.int i t])) wl = some (.list [.int i t]) := Hp.upd_same _ _ _
    have hc1 : (H.upd wl (.list [.int i t])) c = some (.tup [.str (Str.ofString "leaf") 0, w]) := (Hp.upd_ne _ _ fun e => by rw [e, hwl] at hc; cases hc).trans hc
    have nx : wl ≠ x := fun e => by rw [e, hp.i] at hwl; cases hwl
    have nd : wl ≠ d := fun e => by rw [e, hp.n] at hwl; cases hwl
    have nb : wl ≠ bx := fun e => by rw [e, hp.b] at hwl; cases hwl
    have nc : wl ≠ ct := fun e => by rw [e, hp.c] at hwl; cases hwl
    generalize H.upd wl (.list [.int i t]) = H1 at *
    refine ⟨2, ?_⟩
    conv => whnf
    refine ⟨by simp [sizeLine], fun e1 he1 => ?_⟩
    conv => whnf
    have p2 := p1.new he1 (.list [])
    have o2 := o1.trans (off_new he1 (.list []) d bx ct)
    have hw2 : (H1.upd e1 (.list [])) wl = some (.list [.int i t]) := (Hp.upd_ne _ _ fun e => by rw [← e, hw1] at he1; cases he1).trans hw1
    have hc2 : (H1.upd e1 (.list [])) c = some (.tup [.str (Str.ofString "leaf") 0, w]) := (Hp.upd_ne _ _ fun e => by rw [← e, hc1] at he1; cases he1).trans hc1
    have he2 : (H1.upd e1 (.list [])) e1 = some (.list []) := Hp.upd_same _ _ _
    generalize H1.upd e1 (.list []) = H2 at *
    refine ⟨.list [.int i], .list [], .list hw2 (.cons (.int i t) .nil), .list he2 .nil, rfl, rfl, ?_⟩
    conv => whnf
    rw [hw2]
    conv => whnf
    refine ⟨.inr rfl, ?_⟩
    conv => whnf
    rw [hw2]
    conv => whnf
    refine ⟨by simp [sizeLine], ?_⟩
    conv => whnf
    have p3 := p2.other nx nd nb nc (.list [Value.int i t].dropLast)
    have hw3 : (H2.upd wl (.list [Value.int i t].dropLast)) wl = some (.list []) := Hp.upd_same _ _ _
    have hc3 : (H2.upd wl (.list [Value.int i t].dropLast)) c = some (.tup [.str (Str.ofString "leaf") 0, w]) := (Hp.upd_ne _ _ fun e => by rw [e, hw2] at hc2; cases hc2).trans hc2
    have o3 : Off4 H (H2.upd wl (.list [Value.int i t].dropLast)) d bx ct := fun a h1 h2 h3 n => (Hp.upd_ne _ _ fun e => n (by rw [e]; exact hwl)).trans (o2 a h1 h2 h3 n)
    generalize H2.upd wl (.list [Value.int i t].dropLast) = H3 at *
    rw [p3.i]
    conv => whnf
    rw [p3.n]
    conv => whnf
    refine ⟨F.f_Pile_boxes, ?_⟩
    conv => whnf
    rw [p3.b]
    conv => whnf
    rw [hb]
    conv => whnf
    rw [p3.i]
    conv => whnf
    rw [p3.n]
    conv => whnf
    refine ⟨F.f_Pile_counts, ?_⟩
    conv => whnf
    rw [p3.c]
    conv => whnf
    rw [hk]
    conv => whnf
    refine ⟨.inr rfl, ?_⟩
    conv => whnf
    rw [p3.i]
    conv => whnf
    rw [p3.n]
    conv => whnf
    refine ⟨F.f_Pile_counts, ?_⟩
    conv => whnf
    rw [p3.c]
    conv => whnf
    refine ⟨z2, ?_⟩
    have p4 := p3.cnt (stored cs i (.int (max 0 (k - 1)) 0))
    have o4 := o3.trans (off_c H3 d bx ct (.idict (stored cs i (.int (max 0 (k - 1)) 0)))).four
    have hc4 : (H3.upd ct (.idict (stored cs i (.int (max 0 (k - 1)) 0)))) c = some (.tup [.str (Str.ofString "leaf") 0, w]) := (Hp.upd_ne _ _ fun e => by rw [e, p3.c] at hc3; cases hc3).trans hc3
    have hw4 : (H3.upd ct (.idict (stored cs i (.int (max 0 (k - 1)) 0)))) wl = some (.list []) := (Hp.upd_ne _ _ nc).trans hw3
    conv => whnf
    generalize H3.upd ct (.idict (stored cs i (.int (max 0 (k - 1)) 0))) = H4 at *
    rw [p4.i]
    conv => whnf
    rw [p4.n]
    conv => whnf
    refine ⟨F.f_Pile_counts, ?_⟩
    conv => whnf
    rw [p4.c]
    conv => whnf
    rw [hs]
    conv => whnf
    by_cases hz : max 0 (k - 1) = 0
    · rw [decide_eq_true hz]
      conv => whnf
      rw [p4.i]
      conv => whnf
      rw [p4.n]
      conv => whnf
      refine ⟨F.f_Pile_boxes, ?_⟩
      conv => whnf
      rw [p4.b]
      conv => whnf
      refine ⟨.inl rfl, ?_⟩
      conv => whnf
      rw [p4.b]
      conv => whnf
      refine ⟨z1, ?_⟩
      conv => whnf
      rw [hb]
      conv => whnf
      have p5 := p4.box (PySem.without bs i)
      have o5 := o4.trans (off_b H4 d bx ct (.idict (PySem.without bs i))).four
      have hc5 : (H4.upd bx (.idict (PySem.without bs i))) c = some (.tup [.str (Str.ofString "leaf") 0, w]) := (Hp.upd_ne _ _ fun e => by rw [e, p4.b] at hc4; cases hc4).trans hc4
      have hw5 : (H4.upd bx (.idict (PySem.without bs i))) wl = some (.list []) := (Hp.upd_ne _ _ nb).trans hw4
      generalize H4.upd bx (.idict (PySem.without bs i)) = H5 at *
      rw [p5.i]
      conv => whnf
      rw [p5.n]
      conv => whnf
      refine ⟨F.f_Pile_counts, ?_⟩
      conv => whnf
      rw [p5.c]
      conv => whnf
      refine ⟨.inl rfl, ?_⟩
      conv => whnf
      rw [p5.c]
      conv => whnf
      refine ⟨z3, ?_⟩
      conv => whnf
      rw [hs]
      conv => whnf
      have p6 := p5.cnt (PySem.without (stored cs i (.int (max 0 (k - 1)) 0)) i)
      have o6 := o5.trans (off_c H5 d bx ct (.idict (PySem.without (stored cs i (.int (max 0 (k - 1)) 0)) i))).four
      have hc6 : (H5.upd ct (.idict (PySem.without (stored cs i (.int (max 0 (k - 1)) 0)) i))) c = some (.tup [.str (Str.ofString "leaf") 0, w]) := (Hp.upd_ne _ _ fun e => by rw [e, p5.c] at hc5; cases hc5).trans hc5
      have hw6 : (H5.upd ct (.idict (PySem.without (stored cs i (.int (max 0 (k - 1)) 0)) i))) wl = some (.list []) := (Hp.upd_ne _ _ nc).trans hw5
      generalize H5.upd ct (.idict (PySem.without (stored cs i (.int (max 0 (k - 1)) 0)) i)) = H6 at *
      rw [hc6]
      conv => whnf
      refine ⟨by simp [sizeLine], fun e2 hn2 => ?_⟩
      conv => whnf
      have he3 : (H6.upd e2 (.list [])) e2 = some (.list []) := Hp.upd_same _ _ _
      have hw7 : (H6.upd e2 (.list [])) wl = some (.list []) := (Hp.upd_ne _ _ fun e => by rw [← e, hw6] at hn2; cases hn2).trans hw6
      refine ⟨.list [], .list [], .list hw7 .nil, .list he3 .nil, rfl, rfl, ?_⟩
      conv => whnf
      exact h0 hz _ (p6.new hn2 _) (o6.trans (off_new hn2 _ _ _ _))
    · rw [decide_eq_false hz]
      conv => whnf
      refine ⟨by simp [sizeLine], fun e2 hn2 => ?_⟩
      conv => whnf
      have he3 : (H4.upd e2 (.list [])) e2 = some (.list []) := Hp.upd_same _ _ _
      have hw7 : (H4.upd e2 (.list [])) wl = some (.list []) := (Hp.upd_ne _ _ fun e => by rw [← e, hw4] at hn2; cases hn2).trans hw4
      refine ⟨.list [], .list [], .list hw7 .nil, .list he3 .nil, rfl, rfl, ?_⟩
      conv => whnf
      exact h1 hz _ (p4.new hn2 _) (o4.trans (off_new hn2 _ _ _ _))
end Mine.L3
end

section
open PySem PyProof.Rows
namespace Mine.L3
open Mine

theorem c_count {G : Gx} (F : Facts G) (L : L1 G) {hm : Bool} {H : Hp} {i : Int} {t u : Tok} {Q : QV} {X : XV} (h : Q (.bool true) H) : wpF G hm ["_law_seen", "_law_due"] b__law_count [.int i t, .int i u] H Q X := by
  refine ⟨rfl, ?_⟩
  conv => whnf
  rw [F.g__law_whole]
  conv => whnf
  rw [F.i__law_whole]
  conv => whnf
  refine L.whole (b := true) rfl ?_
  conv => whnf
  rw [decide_eq_true rfl]
  conv => whnf
  exact h

theorem c_branch_bad {G : Gx} (F : Facts G) (L : L1 G) {H : Hp} {x d bx ct rw' tp : Addr} {bs cs : List (Int × Value)} {mk : Int} (hp : PileAt H x d bx ct bs cs mk) {v u : Value} (hg : good bs H v = some false) (hr : H rw' = some (.list [.ref tp])) (ht : H tp = some (.tup [u, v])) {Q : QV} {X : XV} (h : X 109 H) : wpF G false ["self", "rows"] b_Pile_branch [.ref x, .ref rw'] H Q X := by
  refine ⟨rfl, ?_⟩
  conv => whnf
  refine ⟨rfl, ?_⟩
  conv => whnf
  rw [hr]
  conv => whnf
  refine ⟨hr, ?_⟩
  conv => whnf
  rw [hp.i]
  conv => whnf
  rw [hp.n, F.m_Pile_need]
  conv => whnf
  refine ⟨rfl, ?_⟩
  conv => whnf
  rw [ht]
  conv => whnf
  exact L.need hp hg ⟨rfl, h⟩

theorem c_law_leaf {G : Gx} (F : Facts G) {H : Hp} {c : Addr} {i : Int} {t u : Tok} (hc : H c = some (.tup [.str (Str.ofString "leaf") 0, .int i t])) {Q : QV} {X : XV} (hcount : ∀ {Q : QV} {X : XV}, Q (.bool true) H → G.fn 214 false [.int i t, .int i u] H Q X) (h : Q (.bool true) H) : wpF G false ["_law_seen", "_law_number"] b__law_leaf [.ref c, .int i u] H Q X := by
  refine ⟨rfl, ?_⟩
  conv => whnf
  rw [hc]
  conv => whnf
  refine ⟨rfl, ?_⟩
  conv => whnf
  refine ⟨.inl rfl, ?_⟩
  conv => whnf
  rw [hc]
  conv => whnf
  rw [hc]
  conv => whnf
  refine ⟨rfl, ?_⟩
  conv => whnf
  rw [hc]
  conv => whnf
  rw [F.g__law_count]
  conv => whnf
  rw [hc]
  conv => whnf
  rw [F.i__law_count]
  conv => whnf
  exact hcount h

/-- no box of the pile, nor a part of it -/
structure Bad (bs : List (Int × Value)) (H : Hp) (d bx ct : Addr) (v : Value) : Prop where
  g : good bs H v = some false
  n : ∀ a, v = .ref a → a ≠ d ∧ a ≠ bx ∧ a ≠ ct ∧ H a ≠ none

theorem Bad.off {bs : List (Int × Value)} {H H' : Hp} {d bx ct : Addr} {v : Value} (h : Bad bs H d bx ct v) (o : Off4 H H' d bx ct) : Bad bs H' d bx ct v := by
  refine ⟨?_, fun a e => ?_⟩
  · have g := h.g
    have n := h.n
    cases v <;> first | exact g | skip
    rename_i a
    obtain ⟨n1, n2, n3, n4⟩ := n a rfl
    unfold good at g ⊢
    simp only [o a n1 n2 n3 n4]
    exact g
  · obtain ⟨n1, n2, n3, n4⟩ := h.n a e
    exact ⟨n1, n2, n3, by rw [o a n1 n2 n3 n4]; exact n4⟩

/-- level two -/
structure L2 (G : Gx) : Prop extends L1 G where
  leaf : ∀ {H : Hp} {x d bx ct : Addr} {bs cs : List (Int × Value)} {mk : Int}, PileAt H x d bx ct bs cs mk → ∀ {v : Value} {Q : QV} {X : XV}, bs.length ≤ sizeLine → cs.length ≤ sizeLine →
    (∀ c H', H c = none → H' c = some (.tup [.str (Str.ofString "leaf") 0, v]) → PileAt H' x d bx ct (stored bs (mk + 1) (.ref c)) (stored cs (mk + 1) (.int 0 0)) (mk + 1) → (∀ a, a ≠ d → a ≠ bx → a ≠ ct → a ≠ c → H' a = H a) → Q (.int (mk + 1) 0) H') → G.fn 146 false [.ref x, v] H Q X
  hold : ∀ {H : Hp} {x d bx ct : Addr} {bs cs : List (Int × Value)} {mk : Int}, PileAt H x d bx ct bs cs mk → ∀ {v : Value} {b : Bool}, good bs H v = some b → ∀ {Q : QV} {X : XV}, cs.length ≤ sizeLine →
    (if b then ∃ i t k, v = .int i t ∧ valueAt cs i = some (.int k 0) ∧ ∀ H', PileAt H' x d bx ct bs (stored cs i (.int (k + 1) 0)) mk → Off3 H H' d bx ct → Q .none H' else false = false ∧ X 109 H) → G.fn 167 false [.ref x, v] H Q X
  holders : ∀ {H : Hp} {x d bx ct : Addr} {bs cs : List (Int × Value)} {mk : Int}, PileAt H x d bx ct bs cs mk → ∀ {v : Value} {b : Bool}, good bs H v = some b → ∀ {Q : QV} {X : XV},
    (if b then ∃ i t k, v = .int i t ∧ valueAt cs i = some k ∧ Q k H else false = false ∧ X 109 H) → G.fn 174 false [.ref x, v] H Q X
  content : ∀ {H : Hp} {x d bx ct : Addr} {bs cs : List (Int × Value)} {mk : Int}, PileAt H x d bx ct bs cs mk → ∀ {v : Value} {b : Bool}, good bs H v = some b → ∀ {Q : QV} {X : XV},
    (if b then ∃ i t c w, v = .int i t ∧ valueAt bs i = some (.ref c) ∧ H c = some (.tup [.str (Str.ofString "leaf") 0, w]) ∧ Q (.ref c) H else false = false ∧ X 109 H) → G.fn 160 false [.ref x, v] H Q X
  let_go : ∀ {H : Hp} {x d bx ct : Addr} {bs cs : List (Int × Value)} {mk : Int}, PileAt H x d bx ct bs cs mk → ∀ {v : Value} {b : Bool}, good bs H v = some b → ∀ {Q : QV} {X : XV}, bs.length ≤ sizeLine → cs.length ≤ sizeLine →
    (if b then ∃ i t k c w, v = .int i t ∧ valueAt cs i = some (.int k 0) ∧ valueAt bs i = some (.ref c) ∧ H c = some (.tup [.str (Str.ofString "leaf") 0, w]) ∧ (stored cs i (.int (max 0 (k - 1)) 0)).length ≤ sizeLine ∧ valueAt (stored cs i (.int (max 0 (k - 1)) 0)) i = some (.int (max 0 (k - 1)) 0) ∧
      (max 0 (k - 1) = 0 → ∀ H', PileAt H' x d bx ct (PySem.without bs i) (PySem.without (stored cs i (.int (max 0 (k - 1)) 0)) i) mk → Off4 H H' d bx ct → Q (.int 1 0) H') ∧
      (max 0 (k - 1) ≠ 0 → ∀ H', PileAt H' x d bx ct bs (stored cs i (.int (max 0 (k - 1)) 0)) mk → Off4 H H' d bx ct → Q (.int 0 0) H') else X 109 H) → G.fn 179 false [.ref x, v] H Q X
  count : ∀ {hm : Bool} {H : Hp} {i : Int} {t u : Tok} {Q : QV} {X : XV}, Q (.bool true) H → G.fn 214 hm [.int i t, .int i u] H Q X
  branch : ∀ {H : Hp} {x d bx ct rw' tp : Addr} {bs cs : List (Int × Value)} {mk : Int}, PileAt H x d bx ct bs cs mk → ∀ {v u : Value}, good bs H v = some false → H rw' = some (.list [.ref tp]) → H tp = some (.tup [u, v]) → ∀ {Q : QV} {X : XV}, X 109 H → G.fn 153 false [.ref x, .ref rw'] H Q X

theorem l2 {g : Gx} (f : Facts g) (n : Nat) : L2 (GG g tab (n + 2)) where
  toL1 := l1 f (n + 1)
  leaf := fun hp _ _ _ z1 z2 h => c_leaf (f.gg tab _) (l1 f n) hp z1 z2 h
  hold := fun hp _ _ hg _ _ z h => c_hold (f.gg tab _) (l1 f n) hp hg z h
  holders := fun hp _ _ hg _ _ h => c_holders (f.gg tab _) (l1 f n) hp hg h
  content := fun hp _ _ hg _ _ h => c_content (f.gg tab _) (l1 f n) hp hg h
  let_go := fun hp _ _ hg _ _ z1 z2 h => c_let_go (f.gg tab _) (l1 f n) hp hg z1 z2 h
  count := fun h => c_count (f.gg tab _) (l1 f n) h
  branch := fun hp _ _ hg hr ht _ _ h => c_branch_bad (f.gg tab _) (l1 f n) hp hg hr ht h

theorem c_asked {G : Gx} (F : Facts G) (L : L2 G) {H : Hp} {x d bx ct : Addr} {bs cs : List (Int × Value)} {mk : Int} (hp : PileAt H x d bx ct bs cs mk) {v : Value} (hg : Bad bs H d bx ct v) (z1 : bs.length ≤ sizeLine) (z2 : cs.length ≤ sizeLine) {w : Int} (hw : 0 ≤ w ∧ w < 5) {t : Tok} {Q : QV} {X : XV} (h : ∀ H', PileAt H' x d bx ct bs cs mk → Off4 H H' d bx ct → X 109 H') :
    wpF G false ["_law_pile", "_law_box", "_law_way"] b__law_asked [.ref x, v, .int w t] H Q X := by
  refine ⟨rfl, ?_⟩
  obtain rfl | rfl | rfl | rfl | rfl : w = 0 ∨ w = 1 ∨ w = 2 ∨ w = 3 ∨ w = 4 := by omega
  · conv => whnf
    rw [hp.i]
    conv => whnf
    rw [hp.n, F.m_Pile_content]
    conv => whnf
    refine ⟨rfl, ?_⟩
    conv => whnf
    exact L.content hp hg.g ⟨rfl, h H hp fun _ _ _ _ _ => rfl⟩
  · conv => whnf
    rw [hp.i]
    conv => whnf
    rw [hp.n, F.m_Pile_holders]
    conv => whnf
    refine ⟨rfl, ?_⟩
    conv => whnf
    exact L.holders hp hg.g ⟨rfl, h H hp fun _ _ _ _ _ => rfl⟩
  · conv => whnf
    rw [hp.i]
    conv => whnf
    rw [hp.n, F.m_Pile_hold]
    conv => whnf
    refine ⟨rfl, ?_⟩
    conv => whnf
    exact L.hold hp hg.g z2 ⟨rfl, h H hp fun _ _ _ _ _ => rfl⟩
  · conv => whnf
    rw [hp.i]
    conv => whnf
    rw [hp.n, F.m_Pile_let_go]
    conv => whnf
    refine ⟨rfl, ?_⟩
    conv => whnf
    exact L.let_go hp hg.g z1 z2 (h H hp fun _ _ _ _ _ => rfl)
  · conv => whnf
    rw [hp.i]
    conv => whnf
    rw [hp.n, F.m_Pile_branch]
    conv => whnf
    refine ⟨rfl, ?_⟩
    conv => whnf
    refine ⟨by simp [sizeLine], fun tp htp => ?_⟩
    conv => whnf
    refine ⟨by simp [sizeLine], fun rr hrr => ?_⟩
    conv => whnf
    have p1 := (hp.new htp (.tup [.str (Str.ofString "a") 0, v])).new hrr (.list [.ref tp])
    have o1 := (off_new htp (.tup [.str (Str.ofString "a") 0, v]) d bx ct).trans (off_new hrr (.list [.ref tp]) d bx ct)
    have g1 := hg.off o1
    refine L.branch p1 g1.g (Hp.upd_same _ _ _) ((Hp.upd_ne _ _ fun e => ?_).trans (Hp.upd_same _ _ _)) (h _ p1 o1)
    rw [← e, Hp.upd_same] at hrr
    cases hrr

/-- level three -/
structure L3 (G : Gx) : Prop extends L2 G where
  lleaf : ∀ {H : Hp} {c : Addr} {i : Int} {t u : Tok}, H c = some (.tup [.str (Str.ofString "leaf") 0, .int i t]) → ∀ {Q : QV} {X : XV}, Q (.bool true) H → G.fn 221 false [.ref c, .int i u] H Q X
  asked : ∀ {H : Hp} {x d bx ct : Addr} {bs cs : List (Int × Value)} {mk : Int}, PileAt H x d bx ct bs cs mk → ∀ {v : Value}, Bad bs H d bx ct v → bs.length ≤ sizeLine → cs.length ≤ sizeLine → ∀ {w : Int}, 0 ≤ w ∧ w < 5 → ∀ {t : Tok} {Q : QV} {X : XV}, (∀ H', PileAt H' x d bx ct bs cs mk → Off4 H H' d bx ct → X 109 H') → G.fn 228 false [.ref x, v, .int w t] H Q X

theorem l3 {g : Gx} (f : Facts g) (n : Nat) : L3 (GG g tab (n + 3)) where
  toL2 := l2 f (n + 1)
  lleaf := fun hc _ _ h => c_law_leaf (f.gg tab _) hc (fun h => (l2 f n).count h) h
  asked := fun hp _ hg z1 z2 _ hw _ _ _ h => c_asked (f.gg tab _) (l2 f n) hp hg z1 z2 hw h

theorem c_refused {G : Gx} (F : Facts G) (L : L3 G) {H : Hp} {x d bx ct : Addr} {bs cs : List (Int × Value)} {mk : Int} (hp : PileAt H x d bx ct bs cs mk) {v : Value} (hg : Bad bs H d bx ct v) (z1 : bs.length ≤ sizeLine) (z2 : cs.length ≤ sizeLine) {w : Int} (hw : 0 ≤ w ∧ w < 5) {t : Tok} {Q : QV} {X : XV} (h : ∀ H', PileAt H' x d bx ct bs cs mk → Off4 H H' d bx ct → Q (.bool true) H') :
    wpF G false ["_law_pile", "_law_box", "_law_way"] b__law_refused [.ref x, v, .int w t] H Q X := by
  refine ⟨rfl, ?_⟩
  conv => whnf
  rw [F.g__law_asked]
  conv => whnf
  rw [F.i__law_asked]
  conv => whnf
  refine L.asked hp hg z1 z2 hw fun H' p' o' => ?_
  refine ⟨rfl, F.e_NoBox, ?_⟩
  conv => whnf
  rw [F.g_SnapError]
  conv => whnf
  refine ⟨F.e_SnapError, ?_⟩
  rw [F.s_NoBox_SnapError]
  conv => whnf
  intro e he
  have he1 : (H'.upd e (.exc 109)) e = some (.exc 109) := Hp.upd_same _ _ _
  have p1 := p'.new he (.exc 109)
  have o1 := o'.trans (off_new he (.exc 109) d bx ct)
  generalize H'.upd e (.exc 109) = H1 at *
  conv => whnf
  rw [he1]
  conv => whnf
  refine ⟨F.e_NoBox, ?_⟩
  conv => whnf
  rw [F.g_BadPath]
  conv => whnf
  refine ⟨F.e_BadPath, ?_⟩
  rw [F.s_NoBox_BadPath]
  conv => whnf
  rw [he1]
  conv => whnf
  refine ⟨F.e_NoBox, ?_⟩
  conv => whnf
  rw [F.g_BadNumber]
  conv => whnf
  refine ⟨F.e_BadNumber, ?_⟩
  rw [F.s_NoBox_BadNumber]
  conv => whnf
  rw [he1]
  conv => whnf
  refine ⟨F.e_NoBox, ?_⟩
  conv => whnf
  rw [F.g_Nothing]
  conv => whnf
  refine ⟨F.e_Nothing, ?_⟩
  rw [F.s_NoBox_Nothing]
  conv => whnf
  rw [he1]
  conv => whnf
  refine ⟨F.e_NoBox, ?_⟩
  conv => whnf
  rw [F.g_NoShot]
  conv => whnf
  refine ⟨F.e_NoShot, ?_⟩
  rw [F.s_NoBox_NoShot]
  conv => whnf
  rw [he1]
  conv => whnf
  refine ⟨F.e_NoBox, ?_⟩
  conv => whnf
  rw [F.g_LeafThere]
  conv => whnf
  refine ⟨F.e_LeafThere, ?_⟩
  rw [F.s_NoBox_LeafThere]
  conv => whnf
  rw [he1]
  conv => whnf
  refine ⟨F.e_NoBox, ?_⟩
  conv => whnf
  rw [F.g_BranchThere]
  conv => whnf
  refine ⟨F.e_BranchThere, ?_⟩
  rw [F.s_NoBox_BranchThere]
  conv => whnf
  rw [he1]
  conv => whnf
  refine ⟨F.e_NoBox, ?_⟩
  conv => whnf
  rw [F.g_NoBox]
  conv => whnf
  refine ⟨F.e_NoBox, ?_⟩
  rw [F.s_NoBox_NoBox]
  conv => whnf
  rw [he1]
  conv => whnf
  refine ⟨F.e_NoBox, ?_⟩
  conv => whnf
  exact h _ p1 o1

theorem c_law_kept {G : Gx} (F : Facts G) (L : L2 G) {H : Hp} {a b : Addr} {ms : List Int} (ha : H a = some (.list (ms.map fun n => Value.int n 0))) (hb : H b = some (.list (ms.map fun n => Value.int n 0))) (hz : ms.length < 2 ^ 20) {Q : QV} {X : XV} (h : ∀ H', (∀ c o, H c = some o → H' c = some o) → Q (.bool true) H') : wpF G false ["_law_seen", "_law_due"] b__law_kept [.ref a, .ref b] H Q X := by
  refine ⟨rfl, ?_⟩
  conv => whnf
  rw [ha]
  conv => whnf
  refine ⟨rfl, ?_⟩
  conv => whnf
  refine ⟨.inl rfl, ?_⟩
  conv => whnf
  rw [ha]
  conv => whnf
  refine ⟨.inl rfl, ?_⟩
  conv => whnf
  rw [hb]
  conv => whnf
  rw [show decide (((ms.map fun n => Value.int n 0).length : Int) = ((ms.map fun n => Value.int n 0).length : Int)) = true from decide_eq_true rfl]
  conv => whnf
  refine ⟨.inl rfl, ?_⟩
  conv => whnf
  rw [hb]
  conv => whnf
  refine ⟨.inr rfl, ?_⟩
  conv => whnf
  have ez : ((ms.map fun n => Value.int n 0).length : Int) = (ms.length : Nat) := by simp
  rw [ez]
  refine ⟨by omega, by omega, fun r hr => ?_⟩
  refine ⟨rfl, ?_⟩
  have e1 : ∀ c o, H c = some o → (H.upd r (.range 0 (ms.length : Nat) 1)) c = some o := fun c o hc => (Hp.upd_ne _ _ fun e => by rw [e, hr] at hc; cases hc).trans hc
  have hr1 : (H.upd r (.range 0 (ms.length : Nat) 1)) r = some (.range 0 (ms.length : Nat) 1) := Hp.upd_same _ _ _
  generalize H.upd r (.range 0 (ms.length : Nat) 1) = H1 at *
  conv => whnf
  rw [hr1]
  conv => whnf
  refine ⟨small_nat (by omega), ?_⟩
  refine ⟨by rw [rangeL_len]; simp [sizeLine]; omega, ?_⟩
  refine compG_map (f := fun _ => .bool true) trivial _ _ (fun v hv k' hk' => ?_) ?_
  · rw [rangeL_nat] at hv
    obtain ⟨j, hj, rfl⟩ := List.mem_map.1 hv
    have hj : j < ms.length := List.mem_range.1 hj
    have ea : at? (ms.map fun n => Value.int n 0) (j : Int) = some (.int (ms[j]'hj) 0) := by simp [at?, hj]
    conv => whnf
    rw [F.g__law_count]
    conv => whnf
    rw [e1 _ _ ha]
    conv => whnf
    rw [ea]
    conv => whnf
    rw [e1 _ _ hb]
    conv => whnf
    rw [ea]
    conv => whnf
    rw [F.i__law_count]
    conv => whnf
    exact L.count hk'
  · refine fun q hq => ?_
    have eq : ∀ c o, H1 c = some o → (H1.upd q (.list ([] ++ (rangeL 0 (ms.length : Nat) 1).map fun _ => .bool true))) c = some o := fun c o hc => (Hp.upd_ne _ _ fun e => by rw [e, hq] at hc; cases hc).trans hc
    refine ⟨.inr rfl, ?_⟩
    conv => whnf
    rw [Hp.upd_same]
    refine ⟨(rangeL 0 (ms.length : Nat) 1).map fun _ => true, by simp, ?_⟩
    have : ((rangeL 0 (ms.length : Nat) 1).map fun _ => true).all id = true := by simp
    rw [this]
    exact h _ fun c o hc => eq c o (e1 c o hc)
end Mine.L3
end

section
open PySem PyProof.Rows
namespace Mine.L3
open Mine

/-- level four -/
structure L4 (G : Gx) : Prop extends L3 G where
  refused : ∀ {H : Hp} {x d bx ct : Addr} {bs cs : List (Int × Value)} {mk : Int}, PileAt H x d bx ct bs cs mk → ∀ {v : Value}, Bad bs H d bx ct v → bs.length ≤ sizeLine → cs.length ≤ sizeLine → ∀ {w : Int}, 0 ≤ w ∧ w < 5 → ∀ {t : Tok} {Q : QV} {X : XV}, (∀ H', PileAt H' x d bx ct bs cs mk → Off4 H H' d bx ct → Q (.bool true) H') → G.fn 235 false [.ref x, v, .int w t] H Q X
  lkept : ∀ {H : Hp} {a b : Addr} {ms : List Int}, H a = some (.list (ms.map fun n => Value.int n 0)) → H b = some (.list (ms.map fun n => Value.int n 0)) → ms.length < 2 ^ 20 → ∀ {Q : QV} {X : XV}, (∀ H', (∀ c o, H c = some o → H' c = some o) → Q (.bool true) H') → G.fn 240 false [.ref a, .ref b] H Q X
  init : ∀ {H : Hp} {x d : Addr}, H d = none → H x = none → d ≠ x → ∀ {Q : QV} {X : XV}, (∀ H' bx ct, PileAt H' x d bx ct [] [] 0 → (∀ c o, H c = some o → H' c = some o) → Q .none H') → G.fn 125 false [.ref x] ((H.upd d (.ns [])).upd x (.inst 189 d)) Q X

theorem c_init {G : Gx} (F : Facts G) {H : Hp} {x d : Addr} (hd : H d = none) (hx : H x = none) (hdx : d ≠ x) {Q : QV} {X : XV} (h : ∀ H' bx ct, PileAt H' x d bx ct [] [] 0 → (∀ c o, H c = some o → H' c = some o) → Q .none H') : wpF G false ["self"] b_Pile___init__ [.ref x] ((H.upd d (.ns [])).upd x (.inst 189 d)) Q X := by
  refine ⟨rfl, ?_⟩
  have hx1 : ((H.upd d (.ns [])).upd x (.inst 189 d)) x = some (.inst 189 d) := Hp.upd_same _ _ _
  have hd1 : ((H.upd d (.ns [])).upd x (.inst 189 d)) d = some (.ns []) := (Hp.upd_ne _ _ hdx).trans (Hp.upd_same _ _ _)
  have o1 : ∀ c o, H c = some o → ((H.upd d (.ns [])).upd x (.inst 189 d)) c = some o := fun c o hc => by
    rw [Hp.upd_ne _ _ (fun e => by rw [e, hx] at hc; cases hc), Hp.upd_ne _ _ (fun e => by rw [e, hd] at hc; cases hc)]; exact hc
  generalize (H.upd d (.ns [])).upd x (.inst 189 d) = H1 at *
  conv => whnf
  refine .inl ⟨rfl, rfl, fun bx hb => ?_⟩
  conv => whnf
  have nbx : x ≠ bx := fun e => by rw [← e, hx1] at hb; cases hb
  have nbd : d ≠ bx := fun e => by rw [← e, hd1] at hb; cases hb
  have hx2 : (H1.upd bx (.idict [])) x = some (.inst 189 d) := (Hp.upd_ne _ _ nbx).trans hx1
  have hd2 : (H1.upd bx (.idict [])) d = some (.ns []) := (Hp.upd_ne _ _ nbd).trans hd1
  have hb2 : (H1.upd bx (.idict [])) bx = some (.idict []) := Hp.upd_same _ _ _
  have o2 : ∀ c o, H c = some o → (H1.upd bx (.idict [])) c = some o := fun c o hc => by
    have := o1 c o hc
    rw [Hp.upd_ne _ _ (fun e => by rw [e, hb] at this; cases this)]; exact this
  generalize H1.upd bx (.idict []) = H2 at *
  rw [hx2]
  conv => whnf
  rw [hd2]
  conv => whnf
  refine ⟨F.f_Pile_boxes, by simp, ?_⟩
  conv => whnf
  refine .inl ⟨rfl, rfl, fun ct hc => ?_⟩
  conv => whnf
  have ndc : ∀ c o, H c = some o → c ≠ d := fun c o hc e => by rw [e, hd] at hc; cases hc
  have hx3 : (H2.upd d (.ns (stored [] (Str.ofString "boxes") (.ref bx)))) x = some (.inst 189 d) := (Hp.upd_ne _ _ hdx.symm).trans hx2
  have hd3 : (H2.upd d (.ns (stored [] (Str.ofString "boxes") (.ref bx)))) d = some (.ns [(Str.ofString "boxes", .ref bx)]) := Hp.upd_same _ _ _
  have hb3 : (H2.upd d (.ns (stored [] (Str.ofString "boxes") (.ref bx)))) bx = some (.idict []) := (Hp.upd_ne _ _ nbd.symm).trans hb2
  have o3 : ∀ c o, H c = some o → (H2.upd d (.ns (stored [] (Str.ofString "boxes") (.ref bx)))) c = some o := fun c o hc => (Hp.upd_ne _ _ (ndc c o hc)).trans (o2 c o hc)
  generalize H2.upd d (.ns (stored [] (Str.ofString "boxes") (.ref bx))) = H3 at *
  have ncx : x ≠ ct := fun e => by rw [← e, hx3] at hc; cases hc
  have ncd : d ≠ ct := fun e => by rw [← e, hd3] at hc; cases hc
  have ncb : bx ≠ ct := fun e => by rw [← e, hb3] at hc; cases hc
  have hx4 : (H3.upd ct (.idict [])) x = some (.inst 189 d) := (Hp.upd_ne _ _ ncx).trans hx3
  have hd4 : (H3.upd ct (.idict [])) d = some (.ns [(Str.ofString "boxes", .ref bx)]) := (Hp.upd_ne _ _ ncd).trans hd3
  have hb4 : (H3.upd ct (.idict [])) bx = some (.idict []) := (Hp.upd_ne _ _ ncb).trans hb3
  have hc4 : (H3.upd ct (.idict [])) ct = some (.idict []) := Hp.upd_same _ _ _
  have o4 : ∀ c o, H c = some o → (H3.upd ct (.idict [])) c = some o := fun c o h1 => by
    have := o3 c o h1
    rw [Hp.upd_ne _ _ (fun e => by rw [e, hc] at this; cases this)]; exact this
  generalize H3.upd ct (.idict []) = H4 at *
  rw [hx4]
  conv => whnf
  rw [hd4]
  conv => whnf
  refine ⟨F.f_Pile_counts, by simp, ?_⟩
  conv => whnf
  have hx5 : (H4.upd d (.ns (stored [(Str.ofString "boxes", .ref bx)] (Str.ofString "counts") (.ref ct)))) x = some (.inst 189 d) := (Hp.upd_ne _ _ hdx.symm).trans hx4
  have hd5 : (H4.upd d (.ns (stored [(Str.ofString "boxes", .ref bx)] (Str.ofString "counts") (.ref ct)))) d = some (.ns [(Str.ofString "boxes", .ref bx), (Str.ofString "counts", .ref ct)]) := Hp.upd_same _ _ _
  have hb5 : (H4.upd d (.ns (stored [(Str.ofString "boxes", .ref bx)] (Str.ofString "counts") (.ref ct)))) bx = some (.idict []) := (Hp.upd_ne _ _ nbd.symm).trans hb4
  have hc5 : (H4.upd d (.ns (stored [(Str.ofString "boxes", .ref bx)] (Str.ofString "counts") (.ref ct)))) ct = some (.idict []) := (Hp.upd_ne _ _ ncd.symm).trans hc4
  have o5 : ∀ c o, H c = some o → (H4.upd d (.ns (stored [(Str.ofString "boxes", .ref bx)] (Str.ofString "counts") (.ref ct)))) c = some o := fun c o hc => (Hp.upd_ne _ _ (ndc c o hc)).trans (o4 c o hc)
  generalize H4.upd d (.ns (stored [(Str.ofString "boxes", .ref bx)] (Str.ofString "counts") (.ref ct))) = H5 at *
  rw [hx5]
  conv => whnf
  rw [hd5]
  conv => whnf
  refine ⟨F.f_Pile_made, by simp, ?_⟩
  conv => whnf
  exact h _ bx ct ⟨(Hp.upd_ne _ _ hdx.symm).trans hx5, Hp.upd_same _ _ _, (Hp.upd_ne _ _ nbd.symm).trans hb5, (Hp.upd_ne _ _ ncd.symm).trans hc5, ncb⟩ fun c o hc => (Hp.upd_ne _ _ (ndc c o hc)).trans (o5 c o hc)

theorem l4 {g : Gx} (f : Facts g) (n : Nat) : L4 (GG g tab (n + 4)) where
  toL3 := l3 f (n + 1)
  refused := fun hp _ hg z1 z2 _ hw _ _ _ h => c_refused (f.gg tab _) (l3 f n) hp hg z1 z2 hw h
  lkept := fun ha hb hz _ _ h => c_law_kept (f.gg tab _) (l3 f n).toL2 ha hb hz h
  init := fun hd hx hdx _ _ h => c_init (f.gg tab _) hd hx hdx h
end Mine.L3
end

section
open PySem PyProof.Rows
namespace Mine.L3
open Mine

def keysTo (n : Nat) : List Int := (List.range n).map fun (k : Nat) => (k : Int) + 1
theorem keys_not (n : Nat) {m : Int} (h : m ≤ 0 ∨ (n : Int) < m) : m ∉ keysTo n := by
  intro q
  obtain ⟨k, hk, e⟩ := List.mem_map.1 q
  have := List.mem_range.1 hk
  omega
theorem keys_succ (n : Nat) : keysTo (n + 1) = keysTo n ++ [(n : Int) + 1] := by
  simp [keysTo, List.range_succ]
theorem keys_len {bs : List (Int × Value)} {n : Nat} (h : bs.map (·.1) = keysTo n) : bs.length = n := by
  have := congrArg List.length h
  simpa [keysTo] using this

theorem PileAt.neR {H : Hp} {x d bx ct a : Addr} {bs cs : List (Int × Value)} {mk : Int} {xs : List Value} (hp : PileAt H x d bx ct bs cs mk) (h : H a = some (.rlist xs)) : a ≠ d ∧ a ≠ bx ∧ a ≠ ct :=
  ⟨fun e => (by rw [e, hp.n] at h; cases h), fun e => (by rw [e, hp.b] at h; cases h), fun e => (by rw [e, hp.c] at h; cases h)⟩
theorem PileAt.neT {H : Hp} {x d bx ct a : Addr} {bs cs : List (Int × Value)} {mk : Int} {xs : List Value} (hp : PileAt H x d bx ct bs cs mk) (h : H a = some (.tup xs)) : a ≠ d ∧ a ≠ bx ∧ a ≠ ct :=
  ⟨fun e => (by rw [e, hp.n] at h; cases h), fun e => (by rw [e, hp.b] at h; cases h), fun e => (by rw [e, hp.c] at h; cases h)⟩
theorem Off4.at {H H' : Hp} {d bx ct a : Addr} {o : AObj} (h : Off4 H H' d bx ct) (n : a ≠ d ∧ a ≠ bx ∧ a ≠ ct) (e : H a = some o) : H' a = some o := (h a n.1 n.2.1 n.2.2 (by rw [e]; exact nofun)).trans e

theorem c_law {G : Gx} (F : Facts G) (L : L4 G) {a : Addr} {ns : List Int} {H : Hp} (hs : H a = some (.rlist (ns.map fun n => Value.int n 0))) {Q : QV} {X : XV} (h : ∀ H', Q (.bool true) H') : wpF G false ["_law_script"] b_law [.ref a] H Q X := by
  refine ⟨rfl, ?_⟩
  conv => whnf
  rw [F.g_Pile]
  conv => whnf
  rw [F.i_Pile]
  conv => whnf
  intro d x hd hx hdx
  refine L.init hd hx hdx fun H1 bx ct p1 e1 => ⟨rfl, ?_⟩
  have hs1 := e1 _ _ hs
  conv => whnf
  rw [F.g__law_cell_at]
  conv => whnf
  rw [F.i__law_cell_at]
  conv => whnf
  refine L.cell (k := 0) hs1 ?_
  have h6 : 0 ≤ ns.getD 0 0 % 6 ∧ ns.getD 0 0 % 6 < 6 := ⟨Int.emod_nonneg _ (by decide), Int.emod_lt_of_pos _ (by decide)⟩
  conv => whnf
  refine ⟨by decide, ?_⟩
  obtain ⟨n, hn⟩ := Int.eq_ofNat_of_zero_le h6.1
  rw [hn] at h6 ⊢
  conv => whnf
  refine ⟨.inr rfl, ?_⟩
  conv => whnf
  refine ⟨by omega, by omega, fun r hr => ?_⟩
  conv => whnf
  refine ⟨rfl, ?_⟩
  conv => whnf
  rw [Hp.upd_same]
  conv => whnf
  refine ⟨small_nat (by omega), ?_⟩
  have p2 := p1.new hr (.range 0 (n : Nat) 1)
  have hs2 : (H1.upd r (.range 0 (n : Nat) 1)) a = some (.rlist (ns.map fun n => Value.int n 0)) := (Hp.upd_ne _ _ fun e => by rw [e, hr] at hs1; cases hs1).trans hs1
  generalize H1.upd r (.range 0 (n : Nat) 1) = H2 at *
  refine forG_range (fun i l H => Ls l [("_law_pile", .ref x), ("_law_script", .ref a), ("_law_ahead", .int n 0)] ∧ H a = some (.rlist (ns.map fun n => Value.int n 0)) ∧ ∃ bs cs, PileAt H x d bx ct bs cs i ∧ bs.map (·.1) = keysTo i ∧ cs.map (·.1) = keysTo i) (fun _ _ _ _ => trivial) ?_ ?_ ⟨⟨rfl, rfl, rfl, trivial⟩, hs2, [], [], p2, rfl, rfl⟩
  · rintro i hi l H ⟨hl, hs, bs, cs, hp, kb, kc⟩ K hK _
    have hl' := hl.upd (y := "_law_k") (v := .int i 0) rfl
    have hk : (l.upd "_law_k" (.int i 0)) "_law_k" = some (.int i 0) := rfl
    generalize l.upd "_law_k" (.int i 0) = l1 at *
    obtain ⟨h1, h2, h3, -⟩ := id hl'
    conv => whnf
    rw [F.g__law_count]
    conv => whnf
    rw [h1]
    conv => whnf
    rw [hp.i]
    conv => whnf
    rw [hp.n, F.m_Pile_leaf]
    conv => whnf
    refine ⟨rfl, ?_⟩
    conv => whnf
    rw [hk]
    conv => whnf
    have nb : (i : Int) + 1 ∉ bs.map (·.1) := by rw [kb]; exact keys_not i (by omega)
    have nc : (i : Int) + 1 ∉ cs.map (·.1) := by rw [kc]; exact keys_not i (by omega)
    refine L.leaf hp (by rw [keys_len kb]; simp [sizeLine]; omega) (by rw [keys_len kc]; simp [sizeLine]; omega) fun c H' hc hc' p' o' => ?_
    conv => whnf
    rw [hk]
    conv => whnf
    rw [F.i__law_count]
    conv => whnf
    refine L.count ?_
    conv => whnf
    refine (hK _ _ ⟨hl', ?_, _, _, p', ?_, ?_⟩).1
    · exact (o' a (hp.neR hs).1 (hp.neR hs).2.1 (hp.neR hs).2.2 fun e => by rw [e, hc] at hs; cases hs).trans hs
    · rw [st_new _ nb, List.map_append, kb, keys_succ]; rfl
    · rw [st_new _ nc, List.map_append, kc, keys_succ]; rfl
  · rintro l H ⟨hl, hs, bs, cs, hp, kb, kc⟩
    obtain ⟨h1, h2, h3, -⟩ := id hl
    conv => whnf
    rw [F.g__law_cell_at]
    conv => whnf
    rw [h2]
    conv => whnf
    rw [F.i__law_cell_at]
    conv => whnf
    refine L.cell (k := 1) hs ?_
    conv => whnf
    refine ⟨by decide, by decide, by decide, ?_⟩
    conv => whnf
    refine ⟨.inl (by decide), ?_⟩
    conv => whnf
    refine ⟨by decide, ?_⟩
    conv => whnf
    refine ⟨by decide, by decide, by decide, ?_⟩
    conv => whnf
    generalize ns.getD 1 0 % (2 * 10 ^ Int.toNat 30 - 1) - 10 ^ Int.toNat 30 + 1 = num
    have hl2 : Ls (l.upd "_law_number" (.int num 0)) [("_law_pile", .ref x), ("_law_script", .ref a), ("_law_ahead", .int n 0), ("_law_number", .int num 0)] := ⟨h1, h2, h3, rfl, trivial⟩
    generalize l.upd "_law_number" (.int num 0) = l2 at *
    clear hl h1 h2 h3
    obtain ⟨h1, h2, h3, h4, -⟩ := id hl2
    rw [h1]
    conv => whnf
    rw [hp.i]
    conv => whnf
    rw [hp.n, F.m_Pile_leaf]
    conv => whnf
    refine ⟨rfl, ?_⟩
    conv => whnf
    rw [h4]
    conv => whnf
    have nb : (n : Int) + 1 ∉ bs.map (·.1) := by rw [kb]; exact keys_not n (by omega)
    have nc : (n : Int) + 1 ∉ cs.map (·.1) := by rw [kc]; exact keys_not n (by omega)
    have zb : bs.length ≤ 6 := by rw [keys_len kb]; omega
    have zc : cs.length ≤ 6 := by rw [keys_len kc]; omega
    refine L.leaf hp (by simp [sizeLine]; omega) (by simp [sizeLine]; omega) fun c H3 hc hc3 p3 o3 => ?_
    have hs3 := (o3 a (hp.neR hs).1 (hp.neR hs).2.1 (hp.neR hs).2.2 fun e => by rw [e, hc] at hs; cases hs).trans hs
    rw [st_new _ nb, st_new _ nc] at p3
    conv => whnf
    have hl3 : Ls (l2.upd "_law_box" (.int (n + 1) 0)) [("_law_pile", .ref x), ("_law_script", .ref a), ("_law_ahead", .int n 0), ("_law_number", .int num 0), ("_law_box", .int (n + 1) 0)] := ⟨h1, h2, h3, h4, rfl, trivial⟩
    generalize l2.upd "_law_box" (.int (n + 1) 0) = l3 at *
    clear hl2 h1 h2 h3 h4
    obtain ⟨h1, h2, h3, h4, h5, -⟩ := id hl3
    rw [F.g__law_count]
    conv => whnf
    rw [h5]
    conv => whnf
    rw [h3]
    conv => whnf
    rw [F.i__law_count]
    conv => whnf
    refine L.count ?_
    conv => whnf
    rw [F.g__law_count]
    conv => whnf
    rw [h1]
    conv => whnf
    rw [p3.i]
    conv => whnf
    rw [p3.n]
    conv => whnf
    refine ⟨F.f_Pile_made, ?_⟩
    conv => whnf
    rw [h3]
    conv => whnf
    rw [F.i__law_count]
    conv => whnf
    refine L.count ?_
    conv => whnf
    rw [F.g__law_cell_at]
    conv => whnf
    rw [h2]
    conv => whnf
    rw [F.i__law_cell_at]
    conv => whnf
    refine L.cell (k := 2) hs3 ?_
    have h10 : 0 ≤ ns.getD 2 0 % 10 ∧ ns.getD 2 0 % 10 < 10 := ⟨Int.emod_nonneg _ (by decide), Int.emod_lt_of_pos _ (by decide)⟩
    conv => whnf
    refine ⟨by decide, ?_⟩
    obtain ⟨mn, hmn⟩ := Int.eq_ofNat_of_zero_le h10.1
    rw [hmn] at h10 ⊢
    conv => whnf
    have hl4 : Ls (l3.upd "_law_many" (.int mn 0)) [("_law_pile", .ref x), ("_law_script", .ref a), ("_law_ahead", .int n 0), ("_law_number", .int num 0), ("_law_box", .int (n + 1) 0), ("_law_many", .int mn 0)] := ⟨h1, h2, h3, h4, h5, rfl, trivial⟩
    generalize l3.upd "_law_many" (.int mn 0) = l4 at *
    clear hl3 h1 h2 h3 h4 h5
    obtain ⟨h1, h2, h3, h4, h5, h6', -⟩ := id hl4
    refine ⟨.inr rfl, ?_⟩
    conv => whnf
    refine ⟨by omega, by omega, fun r4 hr4 => ?_⟩
    conv => whnf
    refine ⟨rfl, ?_⟩
    conv => whnf
    rw [Hp.upd_same]
    conv => whnf
    refine ⟨small_nat (by omega), ?_⟩
    have p4 := p3.new hr4 (.range 0 (mn : Nat) 1)
    have hs4 : (H3.upd r4 (.range 0 (mn : Nat) 1)) a = some (.rlist (ns.map fun n => Value.int n 0)) := (Hp.upd_ne _ _ fun e => by rw [e, hr4] at hs3; cases hs3).trans hs3
    have hc4 : (H3.upd r4 (.range 0 (mn : Nat) 1)) c = some (.tup [.str (Str.ofString "leaf") 0, .int num 0]) := (Hp.upd_ne _ _ fun e => by rw [e, hr4] at hc3; cases hc3).trans hc3
    generalize H3.upd r4 (.range 0 (mn : Nat) 1) = H4 at *
    have gd : ∀ H : Hp, good (bs ++ [((n : Int) + 1, .ref c)]) H (.int (n + 1) 0) = some true := fun H => by
      show some (valueAt (bs ++ [((n : Int) + 1, .ref c)]) ((n : Int) + 1)).isSome = _
      rw [va_same nb]; rfl
    refine forG_range (fun i l H => Ls l [("_law_pile", .ref x), ("_law_script", .ref a), ("_law_ahead", .int n 0), ("_law_number", .int num 0), ("_law_box", .int (n + 1) 0), ("_law_many", .int mn 0)] ∧ H a = some (.rlist (ns.map fun n => Value.int n 0)) ∧ H c = some (.tup [.str (Str.ofString "leaf") 0, .int num 0]) ∧ PileAt H x d bx ct (bs ++ [((n : Int) + 1, .ref c)]) (cs ++ [((n : Int) + 1, .int i 0)]) (n + 1)) (fun _ _ _ _ => trivial) ?_ ?_ ⟨hl4, hs4, hc4, p4⟩
    · clear hs4 hc4 p4 hl4 h1 h2 h3 h4 h5 h6'
      rintro i hi l H ⟨hl, hs, hc, hp⟩ K hK _
      have hl' := hl.upd (y := "_law_k") (v := .int i 0) rfl
      have hk : (l.upd "_law_k" (.int i 0)) "_law_k" = some (.int i 0) := rfl
      generalize l.upd "_law_k" (.int i 0) = l1 at *
      obtain ⟨h1, h2, h3, h4, h5, h6', -⟩ := id hl'
      conv => whnf
      rw [F.g__law_count]
      conv => whnf
      rw [h1]
      conv => whnf
      rw [hp.i]
      conv => whnf
      rw [hp.n, F.m_Pile_holders]
      conv => whnf
      refine ⟨rfl, ?_⟩
      conv => whnf
      rw [h5]
      conv => whnf
      refine L.holders hp (gd H) ⟨_, _, _, rfl, va_same nc, ?_⟩
      conv => whnf
      rw [hk]
      conv => whnf
      rw [F.i__law_count]
      conv => whnf
      refine L.count ?_
      conv => whnf
      rw [h1]
      conv => whnf
      rw [hp.i]
      conv => whnf
      rw [hp.n, F.m_Pile_hold]
      conv => whnf
      refine ⟨rfl, ?_⟩
      conv => whnf
      rw [h5]
      conv => whnf
      refine L.hold hp (gd H) (by simp [sizeLine]; omega) ⟨_, _, _, rfl, va_same nc, fun H' p' o' => ?_⟩
      conv => whnf
      rw [st_same _ _ nc] at p'
      exact (hK _ _ ⟨hl', o'.four.at (hp.neR hs) hs, o'.four.at (hp.neT hc) hc, p'⟩).1
    · clear hs4 hc4 p4 hl4 h1 h2 h3 h4 h5 h6'
      rintro l H ⟨hl, hs, hc, hp⟩
      obtain ⟨h1, h2, h3, h4, h5, h6', -⟩ := id hl
      conv => whnf
      rw [h6']
      conv => whnf
      have hl2 : Ls (l.upd "_law_left" (.int mn 0)) [("_law_pile", .ref x), ("_law_script", .ref a), ("_law_ahead", .int n 0), ("_law_number", .int num 0), ("_law_box", .int (n + 1) 0), ("_law_many", .int mn 0), ("_law_left", .int mn 0)] := ⟨h1, h2, h3, h4, h5, h6', rfl, trivial⟩
      generalize l.upd "_law_left" (.int mn 0) = l2 at *
      clear hl h1 h2 h3 h4 h5 h6'
      obtain ⟨h1, h2, h3, h4, h5, h6', h7, -⟩ := id hl2
      rw [h6']
      conv => whnf
      refine ⟨.inr rfl, ?_⟩
      conv => whnf
      refine ⟨.inr rfl, ?_⟩
      obtain ⟨T, hT⟩ : ∃ T : Nat, max 1 (mn : Int) = (T : Int) := ⟨max 1 mn, by omega⟩
      have hT' : T = max 1 mn := by omega
      rw [hT]
      conv => whnf
      refine ⟨by omega, by omega, fun r5 hr5 => ?_⟩
      conv => whnf
      refine ⟨rfl, ?_⟩
      conv => whnf
      rw [Hp.upd_same]
      conv => whnf
      refine ⟨small_nat (by omega), ?_⟩
      have p5 := hp.new hr5 (.range 0 (T : Nat) 1)
      have hs5 : (H.upd r5 (.range 0 (T : Nat) 1)) a = some (.rlist (ns.map fun n => Value.int n 0)) := (Hp.upd_ne _ _ fun e => by rw [e, hr5] at hs; cases hs).trans hs
      have hc5 : (H.upd r5 (.range 0 (T : Nat) 1)) c = some (.tup [.str (Str.ofString "leaf") 0, .int num 0]) := (Hp.upd_ne _ _ fun e => by rw [e, hr5] at hc; cases hc).trans hc
      generalize H.upd r5 (.range 0 (T : Nat) 1) = H5 at *
      refine forG_range (fun i l H => Ls l [("_law_pile", .ref x), ("_law_script", .ref a), ("_law_ahead", .int n 0), ("_law_number", .int num 0), ("_law_box", .int (n + 1) 0), ("_law_many", .int mn 0), ("_law_left", .int (mn - i : Nat) 0)] ∧ H a = some (.rlist (ns.map fun n => Value.int n 0)) ∧ (i < T → H c = some (.tup [.str (Str.ofString "leaf") 0, .int num 0]) ∧ PileAt H x d bx ct (bs ++ [((n : Int) + 1, .ref c)]) (cs ++ [((n : Int) + 1, .int (mn - i : Nat) 0)]) (n + 1)) ∧ (T ≤ i → PileAt H x d bx ct bs cs (n + 1))) (fun _ _ _ _ => trivial) ?_ ?_ ⟨hl2, hs5, fun _ => ⟨hc5, p5⟩, fun h => by omega⟩
      · clear hs5 hc5 p5 hl2 h1 h2 h3 h4 h5 h6' hs hc hp h7 hr5
        rintro i hi l H ⟨hl, hs, hpc, -⟩ K hK _
        obtain ⟨hc, hp⟩ := hpc hi
        have hl' := hl.upd (y := "_law_k") (v := .int i 0) rfl
        have hk : (l.upd "_law_k" (.int i 0)) "_law_k" = some (.int i 0) := rfl
        generalize l.upd "_law_k" (.int i 0) = l1 at *
        clear hl
        obtain ⟨h1, h2, h3, h4, h5, h6', h7, -⟩ := id hl'
        conv => whnf
        rw [F.g__law_leaf]
        conv => whnf
        rw [h1]
        conv => whnf
        rw [hp.i]
        conv => whnf
        rw [hp.n, F.m_Pile_content]
        conv => whnf
        refine ⟨rfl, ?_⟩
        conv => whnf
        rw [h5]
        conv => whnf
        refine L.content hp (gd H) ⟨_, _, c, _, rfl, va_same nb, hc, ?_⟩
        conv => whnf
        rw [h4]
        conv => whnf
        rw [F.i__law_leaf]
        conv => whnf
        refine L.lleaf hc ?_
        conv => whnf
        rw [F.g__law_count]
        conv => whnf
        rw [h1]
        conv => whnf
        rw [hp.i]
        conv => whnf
        rw [hp.n, F.m_Pile_holders]
        conv => whnf
        refine ⟨rfl, ?_⟩
        conv => whnf
        rw [h5]
        conv => whnf
        refine L.holders hp (gd H) ⟨_, _, _, rfl, va_same nc, ?_⟩
        conv => whnf
        rw [h7]
        conv => whnf
        rw [F.i__law_count]
        conv => whnf
        refine L.count ?_
        conv => whnf
        rw [h7]
        conv => whnf
        refine ⟨.inr rfl, ?_⟩
        conv => whnf
        have eL : max 0 (((mn - i : Nat) : Int) - 1) = ((mn - (i + 1) : Nat) : Int) := by omega
        rw [eL]
        have hl3 : Ls (l1.upd "_law_left" (.int (mn - (i + 1) : Nat) 0)) [("_law_pile", .ref x), ("_law_script", .ref a), ("_law_ahead", .int n 0), ("_law_number", .int num 0), ("_law_box", .int (n + 1) 0), ("_law_many", .int mn 0), ("_law_left", .int (mn - (i + 1) : Nat) 0)] := ⟨h1, h2, h3, h4, h5, h6', rfl, trivial⟩
        generalize l1.upd "_law_left" (.int (mn - (i + 1) : Nat) 0) = l3 at *
        clear hl' h1 h2 h3 h4 h5 h6' h7
        obtain ⟨h1, h2, h3, h4, h5, h6', h7, -⟩ := id hl3
        rw [F.g__law_count]
        conv => whnf
        rw [h1]
        conv => whnf
        rw [hp.i]
        conv => whnf
        rw [hp.n, F.m_Pile_let_go]
        conv => whnf
        refine ⟨rfl, ?_⟩
        conv => whnf
        rw [h5]
        conv => whnf
        refine L.let_go hp (gd H) (by simp [sizeLine]; omega) (by simp [sizeLine]; omega) ⟨_, _, _, c, _, rfl, va_same nc, va_same nb, hc, ?_, ?_, fun hz H' p' o' => ?_, fun hz H' p' o' => ?_⟩
        · rw [st_same _ _ nc]; simp [sizeLine]; omega
        · rw [st_same _ _ nc, va_same nc]
        · rw [wo_same _ nb, st_same _ _ nc, wo_same _ nc] at p'
          rw [eL] at hz
          conv => whnf
          rw [h7]
          conv => whnf
          refine ⟨.inr rfl, ?_⟩
          rw [decide_eq_true hz]
          conv => whnf
          rw [F.i__law_count]
          conv => whnf
          refine L.count ?_
          conv => whnf
          exact (hK _ _ ⟨hl3, o'.at (hp.neR hs) hs, fun h => by omega, fun _ => p'⟩).1
        · rw [st_same _ _ nc, eL] at p'
          rw [eL] at hz
          conv => whnf
          rw [h7]
          conv => whnf
          refine ⟨.inr rfl, ?_⟩
          rw [decide_eq_false hz]
          conv => whnf
          rw [F.i__law_count]
          conv => whnf
          refine L.count ?_
          conv => whnf
          exact (hK _ _ ⟨hl3, o'.at (hp.neR hs) hs, fun h => ⟨o'.at (hp.neT hc) hc, p'⟩, fun h => by omega⟩).1
      · clear hs5 hc5 p5 hl2 h1 h2 h3 h4 h5 h6' hs hc hp h7 hr5
        rintro l H ⟨hl, hs, -, hp⟩
        have hp := hp (Nat.le_refl _)
        obtain ⟨h1, h2, h3, h4, h5, h6', h7, -⟩ := id hl
        conv => whnf
        rw [h5]
        conv => whnf
        refine ⟨by simp [sizeLine], fun ol hol => ?_⟩
        have q1 := hp.new hol (.list [.int 1 0])
        have s1 : Bad bs (H.upd ol (.list [.int 1 0])) d bx ct (.ref ol) := by
          refine ⟨by show (match (H.upd ol (.list [.int 1 0])) ol with | some (.list _) => some false | some (.tup _) => some false | some (.idict _) => some false | some (.sdict _) => some false | _ => none) = _; rw [Hp.upd_same], ?_⟩
          rintro _ ⟨⟩
          exact ⟨fun e => (by rw [e, hp.n] at hol; cases hol), fun e => (by rw [e, hp.b] at hol; cases hol), fun e => (by rw [e, hp.c] at hol; cases hol), (by rw [Hp.upd_same]; exact nofun)⟩
        have hs1 := (off_new hol (.list [.int 1 0]) d bx ct).at (hp.neR hs) hs
        generalize H.upd ol (.list [.int 1 0]) = H6 at *
        conv => whnf
        refine ⟨by simp [sizeLine], fun ot hot => ?_⟩
        have o2 := off_new hot (.tup [.int 1 0]) d bx ct
        have q2 := q1.new hot (.tup [.int 1 0])
        have s1 := s1.off o2
        have s2 : Bad bs (H6.upd ot (.tup [.int 1 0])) d bx ct (.ref ot) := by
          refine ⟨by show (match (H6.upd ot (.tup [.int 1 0])) ot with | some (.list _) => some false | some (.tup _) => some false | some (.idict _) => some false | some (.sdict _) => some false | _ => none) = _; rw [Hp.upd_same], ?_⟩
          rintro _ ⟨⟩
          exact ⟨fun e => (by rw [e, q1.n] at hot; cases hot), fun e => (by rw [e, q1.b] at hot; cases hot), fun e => (by rw [e, q1.c] at hot; cases hot), (by rw [Hp.upd_same]; exact nofun)⟩
        have hs2 := o2.at (q1.neR hs1) hs1
        generalize H6.upd ot (.tup [.int 1 0]) = H7 at *
        conv => whnf
        refine .inl ⟨rfl, rfl, fun od hod => ?_⟩
        have o3 := off_new hod (.idict []) d bx ct
        have q3 := q2.new hod (.idict [])
        have s1 := s1.off o3
        have s2 := s2.off o3
        have s3 : Bad bs (H7.upd od (.idict [])) d bx ct (.ref od) := by
          refine ⟨by show (match (H7.upd od (.idict [])) od with | some (.list _) => some false | some (.tup _) => some false | some (.idict _) => some false | some (.sdict _) => some false | _ => none) = _; rw [Hp.upd_same], ?_⟩
          rintro _ ⟨⟩
          exact ⟨fun e => (by rw [e, q2.n] at hod; cases hod), fun e => (by rw [e, q2.b] at hod; cases hod), fun e => (by rw [e, q2.c] at hod; cases hod), (by rw [Hp.upd_same]; exact nofun)⟩
        have hs3 := o3.at (q2.neR hs2) hs2
        generalize H7.upd od (.idict []) = H8 at *
        conv => whnf
        refine ⟨by simp [sizeLine], fun oL hoL => ?_⟩
        conv => whnf
        have o4 := off_new hoL (.list [.none, .bool true, .str "1" 0, .int 0 0, .int (-1) 0, .int ((n : Int) + 1 + 1) 0, .ref ol, .ref ot, .ref od]) d bx ct
        have q4 := q3.new hoL (.list [.none, .bool true, .str "1" 0, .int 0 0, .int (-1) 0, .int ((n : Int) + 1 + 1) 0, .ref ol, .ref ot, .ref od])
        have s1 := s1.off o4
        have s2 := s2.off o4
        have s3 := s3.off o4
        have hs4 := o4.at (q3.neR hs3) hs3
        have hL4 : (H8.upd oL (.list [.none, .bool true, .str "1" 0, .int 0 0, .int (-1) 0, .int ((n : Int) + 1 + 1) 0, .ref ol, .ref ot, .ref od])) oL = _ := Hp.upd_same _ _ _
        generalize H8.upd oL (.list [.none, .bool true, .str "1" 0, .int 0 0, .int (-1) 0, .int ((n : Int) + 1 + 1) 0, .ref ol, .ref ot, .ref od]) = H9 at *
        have gi : ∀ (H : Hp) (m : Int) (t : Tok), (m ≤ 0 ∨ (n : Int) < m) → Bad bs H d bx ct (.int m t) := fun H m t hm => by
          refine ⟨?_, fun a e => nomatch e⟩
          show some (valueAt bs m).isSome = _
          rw [va_none (by rw [kb]; exact keys_not n hm)]; rfl
        obtain ⟨v, hv, bv⟩ : ∃ v, at? [Value.none, .bool true, .str "1" 0, .int 0 0, .int (-1) 0, .int ((n : Int) + 1 + 1) 0, .ref ol, .ref ot, .ref od] (ns.getD 3 0 % 9) = some v ∧ Bad bs H9 d bx ct v := by
          have e0 : 0 ≤ ns.getD 3 0 % 9 := Int.emod_nonneg _ (by decide)
          have e9 : ns.getD 3 0 % 9 < 9 := Int.emod_lt_of_pos _ (by decide)
          generalize ns.getD 3 0 % 9 = j at *
          obtain rfl | rfl | rfl | rfl | rfl | rfl | rfl | rfl | rfl : j = 0 ∨ j = 1 ∨ j = 2 ∨ j = 3 ∨ j = 4 ∨ j = 5 ∨ j = 6 ∨ j = 7 ∨ j = 8 := by omega
          · exact ⟨_, rfl, rfl, fun a e => nomatch e⟩
          · exact ⟨_, rfl, rfl, fun a e => nomatch e⟩
          · exact ⟨_, rfl, rfl, fun a e => nomatch e⟩
          · exact ⟨_, rfl, gi _ _ _ (by omega)⟩
          · exact ⟨_, rfl, gi _ _ _ (by omega)⟩
          · exact ⟨_, rfl, gi _ _ _ (by omega)⟩
          · exact ⟨_, rfl, s1⟩
          · exact ⟨_, rfl, s2⟩
          · exact ⟨_, rfl, s3⟩
        rw [F.g__law_cell_at]
        conv => whnf
        rw [h2]
        conv => whnf
        rw [F.i__law_cell_at]
        conv => whnf
        refine L.cell (k := 3) hs4 ?_
        conv => whnf
        refine ⟨by decide, ?_⟩
        conv => whnf
        rw [hL4]
        conv => whnf
        rw [hv]
        conv => whnf
        have hl5 : Ls (l.upd "_law_odd" v) [("_law_pile", .ref x), ("_law_ahead", .int n 0), ("_law_box", .int (n + 1) 0), ("_law_odd", v)] := ⟨h1, h3, h5, rfl, trivial⟩
        generalize l.upd "_law_odd" v = l5 at *
        clear hl h1 h2 h3 h4 h5 h6' h7
        refine ⟨.inr rfl, ?_⟩
        conv => whnf
        refine ⟨by decide, by decide, fun r6 hr6 => ?_⟩
        conv => whnf
        refine ⟨rfl, ?_⟩
        conv => whnf
        rw [Hp.upd_same]
        conv => whnf
        refine ⟨small_nat (n := 5) (by decide), ?_⟩
        have q5 := q4.new hr6 (.range 0 (5 : Nat) 1)
        have bv := bv.off (off_new hr6 (.range 0 (5 : Nat) 1) d bx ct)
        refine forG_range (n := 5) (fun i l H => Ls l [("_law_pile", .ref x), ("_law_ahead", .int n 0), ("_law_box", .int (n + 1) 0), ("_law_odd", v)] ∧ Bad bs H d bx ct v ∧ PileAt H x d bx ct bs cs (n + 1)) (fun _ _ _ _ => trivial) ?_ ?_ ⟨hl5, bv, q5⟩
        · clear hl5 q5 bv hr6 hs4 q4 q3 q2 q1 hp s1 s2 s3 o4 o3 o2 hL4 hoL hod hot hol
          rintro i hi l H ⟨hl, hb, hp⟩ K hK _
          have hl' := hl.upd (y := "_law_way") (v := .int i 0) rfl
          have hk : (l.upd "_law_way" (.int i 0)) "_law_way" = some (.int i 0) := rfl
          generalize l.upd "_law_way" (.int i 0) = l1 at *
          clear hl
          obtain ⟨h1, h3, h5, h7, -⟩ := id hl'
          conv => whnf
          rw [F.g__law_refused]
          conv => whnf
          rw [h1]
          conv => whnf
          rw [h5]
          conv => whnf
          rw [hk]
          conv => whnf
          rw [F.i__law_refused]
          conv => whnf
          refine L.refused hp (gi H _ _ (by omega)) (by simp [sizeLine]; omega) (by simp [sizeLine]; omega) (by omega) fun H1 p1 o1 => ?_
          have hb := hb.off o1
          conv => whnf
          rw [F.g__law_refused]
          conv => whnf
          rw [h1]
          conv => whnf
          rw [h7]
          conv => whnf
          rw [hk]
          conv => whnf
          rw [F.i__law_refused]
          conv => whnf
          refine L.refused p1 hb (by simp [sizeLine]; omega) (by simp [sizeLine]; omega) (by omega) fun H2 p2 o2 => ?_
          conv => whnf
          exact (hK _ _ ⟨hl', hb.off o2, p2⟩).1
        · clear hl5 q5 bv hr6 hs4 q4 q3 q2 q1 hp s1 s2 s3 o4 o3 o2 hL4 hoL hod hot hol
          rintro l H ⟨hl, hb, hp⟩
          obtain ⟨h1, h3, h5, h7, -⟩ := id hl
          conv => whnf
          rw [F.g__law_kept]
          conv => whnf
          rw [h1]
          conv => whnf
          rw [hp.i]
          conv => whnf
          rw [hp.n, F.m_Pile_kept]
          conv => whnf
          refine ⟨rfl, ?_⟩
          conv => whnf
          refine L.kept hp (by omega) fun ms hms hpw b1 hb1 => ?_
          conv => whnf
          have ems : ms = keysTo n := by
            rw [kb] at hms
            refine perm_eq hms hpw ?_
            unfold keysTo
            rw [List.pairwise_map]
            exact List.Pairwise.imp (fun h => by omega) List.pairwise_lt_range
          subst ems
          rw [h3]
          conv => whnf
          refine ⟨.inr rfl, ?_⟩
          conv => whnf
          refine ⟨by omega, by omega, fun r7 hr7 => ?_⟩
          conv => whnf
          refine ⟨rfl, ?_⟩
          conv => whnf
          rw [Hp.upd_same]
          conv => whnf
          refine ⟨small_nat (by omega), ?_⟩
          refine ⟨by rw [rangeL_len]; simp [sizeLine]; omega, ?_⟩
          have p1 := (hp.new hb1 (.list ((keysTo n).map fun n => Value.int n 0))).new hr7 (.range 0 (n : Nat) 1)
          have b1' : ((H.upd b1 (.list ((keysTo n).map fun n => Value.int n 0))).upd r7 (.range 0 (n : Nat) 1)) b1 = some (.list ((keysTo n).map fun n => Value.int n 0)) := (Hp.upd_ne _ _ fun e => by rw [← e, Hp.upd_same] at hr7; cases hr7).trans (Hp.upd_same _ _ _)
          generalize (H.upd b1 (.list ((keysTo n).map fun n => Value.int n 0))).upd r7 (.range 0 (n : Nat) 1) = H1 at *
          refine compG_map (f := fun v => match v with | .int i _ => .int (i + 1) 0 | v => v) trivial _ _ (fun v hv k' hk' => ?_) ?_
          · rw [rangeL_nat] at hv
            obtain ⟨j, hj, rfl⟩ := List.mem_map.1 hv
            conv => whnf
            exact hk'
          · intro b2 hb2
            have e2 : [] ++ (rangeL 0 (n : Nat) 1).map (fun v => match v with | .int i _ => .int (i + 1) 0 | v => v) = (keysTo n).map fun n => Value.int n 0 := by
              rw [rangeL_nat]; simp [keysTo]
            rw [e2] at *
            have p2 := p1.new hb2 (.list ((keysTo n).map fun n => Value.int n 0))
            conv => whnf
            rw [F.i__law_kept]
            conv => whnf
            refine L.lkept ((Hp.upd_ne _ _ fun e => by rw [← e, b1'] at hb2; cases hb2).trans b1') (Hp.upd_same _ _ _) (by simp [keysTo]; omega) fun H2 e2 => ?_
            have p3 : PileAt H2 x d bx ct bs cs (n + 1) := ⟨e2 _ _ p2.i, e2 _ _ p2.n, e2 _ _ p2.b, e2 _ _ p2.c, p2.ne⟩
            conv => whnf
            rw [F.g__law_count]
            conv => whnf
            rw [h1]
            conv => whnf
            rw [p3.i]
            conv => whnf
            rw [p3.n]
            conv => whnf
            refine ⟨F.f_Pile_made, ?_⟩
            conv => whnf
            rw [h3]
            conv => whnf
            rw [F.i__law_count]
            conv => whnf
            refine L.count ?_
            conv => whnf
            exact h _

theorem law_tells {g : Gx} (f : Facts g) {a : Addr} {ns : List Int} {H : Hp} (hs : H a = some (.rlist (ns.map fun n => Value.int n 0))) : (GG g tab 13).fn 245 false [.ref a] H (fun v _ => v = .bool true) (fun _ _ => False) :=
  c_law (f.gg tab 12) (l4 f 8) hs fun _ => rfl
end Mine.L3
end

theorem PySem.Challenge.cw_uf040010_03_holds : PySem.Challenge.rw_uf040010_03.Holds :=
  Mine.L3.holds_of fun p a ns _ => Mine.L3.law_tells (Mine.L3.facts p) (H := Mine.hOf a ns) (by unfold Mine.hOf; exact if_pos rfl)
