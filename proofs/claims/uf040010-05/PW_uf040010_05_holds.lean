import PyProof.Rows.All
import OpenK.KMake
import OpenK.KWalk
import OpenK.KMore
import OpenK.KOwn
import KE.KDictSum
import KE.KDictList
import KE.KItem
import KE.KLam
import KE.KSortKey
import KE.KNestM
import PySem.Challenge.RW_uf040010_05
set_option Elab.async false
set_option linter.unusedVariables false
set_option linter.unusedSimpArgs false
set_option linter.unusedSectionVars false
set_option maxRecDepth 100000
set_option compiler.extract_closed false
set_option hygiene false
set_option genSizeOf false
set_option genSizeOfSpec false
set_option bootstrap.genMatcherCode false
set_option genInjectivity false

section
open PySem PySem.W PyProof.Rows
namespace Mine
noncomputable def topRunT (tb:String→Option Builtin) (p:Program) (w:World) (n₀:Nat) (ann:Option Value):Nat→SharedT→Thread→Option SharedT
  | 0,_,_=>none
  | n + 1,s,t=>match through t with
    | true=>some s
    | false=>match stepOk n₀ ann t with
      | false=>none
      | true=>match stepT (denote tb) p w s t with
        | some (s',t')=>topRunT tb p w n₀ ann n s' t'
        | none=>none
theorem topRun_of {tb:String→Option Builtin} {p:Program} {w:World} {n₀:Nat} {ann:Option Value}:∀ {n:Nat} {s s':SharedT} {t:Thread},topRunT tb p w n₀ ann n s t = some s'→topRun tb p w n₀ ann n s.abs t = some s'.abs
  | 0,_,_,_,h=>by cases h
  | n + 1,s,s',t,h=>by
    unfold topRunT at h
    unfold topRun
    cases he:through t with
    | true=>rw [he] at h;cases h;rfl
    | false =>
      rw [he] at h
      cases hk:stepOk n₀ ann t with
      | false=>rw [hk] at h;cases h
      | true =>
        rw [hk] at h
        cases hs:stepT (denote tb) p w s t with
        | none=>rw [hs] at h;cases h
        | some r=>obtain ⟨s₂,t₂⟩:=r;rw [hs] at h;rw [stepT_spec hs];exact topRun_of h
noncomputable def fillT:List Obj→BT→Nat→Option (BT×Nat)
  | [],t,n=>some (t,n)
  | o :: r,t,n=>match ((t.ins n o).get n).isSome with
    | true=>fillT r (t.ins n o) (n + 1)
    | false=>none
theorem fill_abs {life:Life}:∀ (l:List Obj) (t:BT) (n:Nat) {t':BT} {n':Nat},fillT l t n = some (t',n')→(absHeap t' n' life).objs.toList = (absHeap t n life).objs.toList++l
  | [],t,n,t',n',h=>by cases h;simp
  | o :: r,t,n,t',n',h=>by
    unfold fillT at h
    cases g:((t.ins n o).get n).isSome with
    | false=>rw [g] at h;cases h
    | true =>
      rw [g] at h
      rw [fill_abs r _ _ h,absHeap_ins g]
      show ((absHeap t n life).objs.push o).toList++r = _
      simp
noncomputable def toT (s:Shared):Option SharedT:=match fillT s.heap.objs.toList .nil 0 with
  | some (t,n)=>some ⟨t,n,s.heap.life,s.gens,s.drawn,s.toks,s.os⟩
  | none=>none
theorem toT_abs {s:Shared} {x:SharedT} (h:toT s = some x):x.abs = s:=by
  unfold toT at h
  cases e:fillT s.heap.objs.toList .nil 0 with
  | none=>rw [e] at h;cases h
  | some r =>
    obtain ⟨t,n⟩:=r
    rw [e] at h
    cases h
    have:=fill_abs (life:=s.heap.life) _ _ _ e
    obtain ⟨⟨objs,life⟩,gens,drawn,toks,os⟩:=s
    show Shared.mk (absHeap t n life) gens drawn toks os = _
    congr 1
    have e2:(absHeap t n life).objs.toList = objs.toList:=by simpa [absHeap,BT.list] using this
    have e3:(absHeap t n life).objs = objs:=Array.toList_inj.mp e2
    show Heap.mk (absHeap t n life).objs life = _
    rw [e3]
noncomputable def topFromT (tb:String→Option Builtin) (p:Program) (w:World) (N:Nat) (s₀:Shared):Option Shared :=
  match s₀.heap.isNs mainGlobals && s₀.gens.size == 0 with
  | true=>match toT s₀ with
    | some x=>(topRunT tb p w s₀.heap.objs.size (s₀.heap.nsMap mainGlobals "__annotations__") N x (topStub p)).bind fun s₁=>match staticsOk (importedModules p.main.body) s₀.heap s₁.abs.heap && namesBound p s₁.abs.heap && gensDone s₁.abs && laidKept s₀.heap s₁.abs.heap with
      | true=>some s₁.abs
      | false=>none
    | none=>none
  | false=>none
theorem topFrom_of {tb:String→Option Builtin} {p:Program} {w:World} {N:Nat} {s₀ r:Shared} (h:topFromT tb p w N s₀ = some r):topFrom tb p w N s₀ = some r:=by
  unfold topFromT at h
  unfold topFrom
  cases e:s₀.heap.isNs mainGlobals && s₀.gens.size == 0 with
  | false=>rw [e] at h;cases h
  | true =>
    rw [e] at h
    dsimp only at h ⊢
    cases ex:toT s₀ with
    | none=>rw [ex] at h;cases h
    | some x =>
      rw [ex] at h
      dsimp only at h
      cases er:topRunT tb p w s₀.heap.objs.size (s₀.heap.nsMap mainGlobals "__annotations__") N x (topStub p) with
      | none=>rw [er] at h;cases h
      | some s₁ =>
        rw [er] at h
        have:=topRun_of er
        rw [toT_abs ex] at this
        rw [this]
        exact h
theorem left_of {p q:Program} {loose:List Str} {Xt:Shared→Bool} {α:Type} {Yf:Shared→α} {Ya:World→α} {N:Nat}
    (h:∀ w:World,Option.map (fun s=>(openSeen q loose (importedModules p.main.body) Xt true s,Yf s)) ((fencedOpening treeTable p w N).bind (topFromT treeTable p w N)) = some (openGood q loose,Ya w)):LeftO p q loose Xt Yf Ya N:=by
  intro w
  have h:=h w
  unfold openEnds
  cases e:fencedOpening treeTable p w N with
  | none=>rw [e] at h;cases h
  | some s₀ =>
    rw [e] at h
    simp only [Option.bind_some] at h ⊢
    cases e2:topFromT treeTable p w N s₀ with
    | none=>rw [e2] at h;cases h
    | some r=>rw [e2] at h;rw [topFrom_of e2];exact h
end Mine
end

section
open PySem PySem.W PyProof.Rows PySem.Challenge
set_option maxHeartbeats 0
set_option maxRecDepth 1000000
namespace Mine.L5
section
noncomputable def stA (i:Nat):Stmt:=pw_uf040010_05.main.body.getD i (.Pass default)
noncomputable def inA (i j:Nat):Stmt:=match stA i with
  | .ClassDef _ _ _ b _ _ _ _ _ _ _=>b.getD j (.Pass default)
  | s=>s
noncomputable def fo (st:Stmt) (q:String) (m:Value) (c:Nat):FuncData:=match st with
  | .FunctionDef n a b _ _ _ sc _ _ _=>{ name:=n,qualname:=q,params:=a,body:=.stmts b,scope:=sc,globals:=3,closure:=[],defaults:=.none,kwdefaults:=.none,pyModule:=m,code:=.ref c }
  | _=>default
noncomputable def en (P:Params) (x:String) (t:Nat) (v:Value):DictEntry:={ hash:=PyData.keyHash P x,key:=.str x t,val:=v }
noncomputable def KK (P:Params):Frag:=[
  (2,{ cls:=Value.none,data:=Data.dict #[] }),
  (3,{ cls:=Value.type "dict",data:=Data.dict #[en P "__name__" 165 (Value.str (Str.ofString "law_uf040010_05") 667),en P "__doc__" 166 (Value.none),en P "__package__" 167 (Value.none),en P "__loader__" 168 (Value.builtin "__main__.__loader__#opaque"),en P "__spec__" 169 (Value.none),en P "__annotations__" 170 (Value.ref 6),en P "__builtins__" 171 (Value.ref 4),en P "__file__" 173 (Value.str (Str.ofString "/claim/cut.py") 172),en P "__cached__" 174 (Value.none),en P "_wall" 193 (Value.ref 21),en P "SnapError" 213 (Value.ref 31),en P "BadPath" 229 (Value.ref 44),en P "BadNumber" 245 (Value.ref 56),en P "Nothing" 261 (Value.ref 68),en P "LeafThere" 277 (Value.ref 80),en P "BranchThere" 293 (Value.ref 92),en P "NoShot" 309 (Value.ref 104),en P "NoBox" 325 (Value.ref 116),en P "LETTERS" 329 (Value.str (Str.ofString "abcdefghijklmnopqrstuvwxyz") 328),en P "MOST" 331 (Value.int 8 330),en P "is_name" 337 (Value.ref 123),en P "checked" 343 (Value.ref 128),en P "Pile" 446 (Value.ref 206),en P "box_of" 457 (Value.ref 217),en P "without" 463 (Value.ref 222),en P "placed" 469 (Value.ref 227),en P "BOUND" 475 (Value.int 1000000000000000000000000000000 474),en P "need_way" 483 (Value.ref 234),en P "need_number" 490 (Value.ref 241),en P "Store" 666 (Value.ref 366),en P "_law_cell_at" 676 (Value.ref 377),en P "_law_word_by" 682 (Value.ref 382),en P "_law_paths" 694 (Value.ref 389),en P "_law_asked" 705 (Value.ref 396),en P "_law_told" 718 (Value.ref 403),en P "_law_due_of_view" 727 (Value.ref 410),en P "_law_due" 737 (Value.ref 417),en P "law" 755 (Value.ref 424)] 38 }),
  (20,{ cls:=Value.type "code",data:=Data.fields #[Value.str (Str.ofString "_wall") 187,Value.str (Str.ofString "_wall") 188,Value.str (Str.ofString "/claim/cut.py") 189,Value.int 1 0,Value.int 1 0,Value.int 0 0,Value.int 0 0,Value.int 3 0,Value.ref 15,Value.bool true,Value.int 181 0,Value.ref 16,Value.none,Value.ref 17,Value.ref 18,Value.ref 19,Value.int 191 0,Value.int 1 0,Value.str (Str.ofString "/claim/cut.py") 192] }),
  (21,{ cls:=.type "function",data:=.func (fo (stA 0) "_wall" (Value.str (Str.ofString "__main__") 164) 20) }),
  (30,{ cls:=Value.type "dict",data:=Data.dict #[en P "__module__" 203 (Value.str (Str.ofString "snaptree.errors") 194),en P "__firstlineno__" 207 (Value.int 5 206),en P "__static_attributes__" 208 (Value.ref 29),en P "__weakref__" 210 (Value.ref 32),en P "__doc__" 211 (Value.none)] 3 }),
  (31,{ cls:=Value.type "type",data:=Data.cls { name:=Str.ofString "SnapError",bases:=[Value.type "ValueError"],mro:=[Value.ref 31,Value.type "ValueError",Value.type "Exception",Value.type "BaseException",Value.type "object"],ns:=30,qualname:=Str.ofString "SnapError",subclasses:=[Value.ref 44,Value.ref 56,Value.ref 68,Value.ref 80,Value.ref 92,Value.ref 104,Value.ref 116] },slots:=#[some (Value.ref 22),none,some (Value.str (Str.ofString "SnapError") 196),some (Value.str (Str.ofString "SnapError") 204),some (Value.builtin "ValueError.__new__"),some (Value.bool true)] }),
  (32,{ cls:=Value.type "getset_descriptor",data:=Data.fields #[Value.str (Str.ofString "__weakref__") 209,Value.ref 31,Value.builtin "ExceptionGroup.__weakref__",Value.none] }),
  (43,{ cls:=Value.type "dict",data:=Data.dict #[en P "__module__" 221 (Value.str (Str.ofString "snaptree.errors") 194),en P "__firstlineno__" 225 (Value.int 7 224),en P "__static_attributes__" 226 (Value.ref 42),en P "__doc__" 227 (Value.none)] 2 }),
  (44,{ cls:=Value.type "type",data:=Data.cls { name:=Str.ofString "BadPath",bases:=[Value.ref 31],mro:=[Value.ref 44,Value.ref 31,Value.type "ValueError",Value.type "Exception",Value.type "BaseException",Value.type "object"],ns:=43,qualname:=Str.ofString "BadPath" },slots:=#[some (Value.ref 35),none,some (Value.str (Str.ofString "BadPath") 214),some (Value.str (Str.ofString "BadPath") 222),some (Value.builtin "ValueError.__new__"),some (Value.bool true)] }),
  (55,{ cls:=Value.type "dict",data:=Data.dict #[en P "__module__" 237 (Value.str (Str.ofString "snaptree.errors") 194),en P "__firstlineno__" 241 (Value.int 9 240),en P "__static_attributes__" 242 (Value.ref 54),en P "__doc__" 243 (Value.none)] 2 }),
  (56,{ cls:=Value.type "type",data:=Data.cls { name:=Str.ofString "BadNumber",bases:=[Value.ref 31],mro:=[Value.ref 56,Value.ref 31,Value.type "ValueError",Value.type "Exception",Value.type "BaseException",Value.type "object"],ns:=55,qualname:=Str.ofString "BadNumber" },slots:=#[some (Value.ref 47),none,some (Value.str (Str.ofString "BadNumber") 230),some (Value.str (Str.ofString "BadNumber") 238),some (Value.builtin "ValueError.__new__"),some (Value.bool true)] }),
  (67,{ cls:=Value.type "dict",data:=Data.dict #[en P "__module__" 253 (Value.str (Str.ofString "snaptree.errors") 194),en P "__firstlineno__" 257 (Value.int 11 256),en P "__static_attributes__" 258 (Value.ref 66),en P "__doc__" 259 (Value.none)] 2 }),
  (68,{ cls:=Value.type "type",data:=Data.cls { name:=Str.ofString "Nothing",bases:=[Value.ref 31],mro:=[Value.ref 68,Value.ref 31,Value.type "ValueError",Value.type "Exception",Value.type "BaseException",Value.type "object"],ns:=67,qualname:=Str.ofString "Nothing" },slots:=#[some (Value.ref 59),none,some (Value.str (Str.ofString "Nothing") 246),some (Value.str (Str.ofString "Nothing") 254),some (Value.builtin "ValueError.__new__"),some (Value.bool true)] }),
  (79,{ cls:=Value.type "dict",data:=Data.dict #[en P "__module__" 269 (Value.str (Str.ofString "snaptree.errors") 194),en P "__firstlineno__" 273 (Value.int 13 272),en P "__static_attributes__" 274 (Value.ref 78),en P "__doc__" 275 (Value.none)] 2 }),
  (80,{ cls:=Value.type "type",data:=Data.cls { name:=Str.ofString "LeafThere",bases:=[Value.ref 31],mro:=[Value.ref 80,Value.ref 31,Value.type "ValueError",Value.type "Exception",Value.type "BaseException",Value.type "object"],ns:=79,qualname:=Str.ofString "LeafThere" },slots:=#[some (Value.ref 71),none,some (Value.str (Str.ofString "LeafThere") 262),some (Value.str (Str.ofString "LeafThere") 270),some (Value.builtin "ValueError.__new__"),some (Value.bool true)] }),
  (91,{ cls:=Value.type "dict",data:=Data.dict #[en P "__module__" 285 (Value.str (Str.ofString "snaptree.errors") 194),en P "__firstlineno__" 289 (Value.int 15 288),en P "__static_attributes__" 290 (Value.ref 90),en P "__doc__" 291 (Value.none)] 2 }),
  (92,{ cls:=Value.type "type",data:=Data.cls { name:=Str.ofString "BranchThere",bases:=[Value.ref 31],mro:=[Value.ref 92,Value.ref 31,Value.type "ValueError",Value.type "Exception",Value.type "BaseException",Value.type "object"],ns:=91,qualname:=Str.ofString "BranchThere" },slots:=#[some (Value.ref 83),none,some (Value.str (Str.ofString "BranchThere") 278),some (Value.str (Str.ofString "BranchThere") 286),some (Value.builtin "ValueError.__new__"),some (Value.bool true)] }),
  (103,{ cls:=Value.type "dict",data:=Data.dict #[en P "__module__" 301 (Value.str (Str.ofString "snaptree.errors") 194),en P "__firstlineno__" 305 (Value.int 17 304),en P "__static_attributes__" 306 (Value.ref 102),en P "__doc__" 307 (Value.none)] 2 }),
  (104,{ cls:=Value.type "type",data:=Data.cls { name:=Str.ofString "NoShot",bases:=[Value.ref 31],mro:=[Value.ref 104,Value.ref 31,Value.type "ValueError",Value.type "Exception",Value.type "BaseException",Value.type "object"],ns:=103,qualname:=Str.ofString "NoShot" },slots:=#[some (Value.ref 95),none,some (Value.str (Str.ofString "NoShot") 294),some (Value.str (Str.ofString "NoShot") 302),some (Value.builtin "ValueError.__new__"),some (Value.bool true)] }),
  (115,{ cls:=Value.type "dict",data:=Data.dict #[en P "__module__" 317 (Value.str (Str.ofString "snaptree.errors") 194),en P "__firstlineno__" 321 (Value.int 19 320),en P "__static_attributes__" 322 (Value.ref 114),en P "__doc__" 323 (Value.none)] 2 }),
  (116,{ cls:=Value.type "type",data:=Data.cls { name:=Str.ofString "NoBox",bases:=[Value.ref 31],mro:=[Value.ref 116,Value.ref 31,Value.type "ValueError",Value.type "Exception",Value.type "BaseException",Value.type "object"],ns:=115,qualname:=Str.ofString "NoBox" },slots:=#[some (Value.ref 107),none,some (Value.str (Str.ofString "NoBox") 310),some (Value.str (Str.ofString "NoBox") 318),some (Value.builtin "ValueError.__new__"),some (Value.bool true)] }),
  (122,{ cls:=Value.type "code",data:=Data.fields #[Value.str (Str.ofString "is_name") 332,Value.str (Str.ofString "is_name") 333,Value.str (Str.ofString "/claim/cut.py") 334,Value.int 24 0,Value.int 1 0,Value.int 0 0,Value.int 0 0,Value.int 3 0,Value.ref 119,Value.bool true,Value.int 181 0,Value.ref 120,Value.none,Value.none,Value.none,Value.ref 121,Value.int 335 0,Value.int 24 0,Value.str (Str.ofString "/claim/cut.py") 336] }),
  (123,{ cls:=.type "function",data:=.func (fo (stA 13) "is_name" (Value.str (Str.ofString "snaptree.paths") 326) 122) }),
  (127,{ cls:=Value.type "code",data:=Data.fields #[Value.str (Str.ofString "checked") 338,Value.str (Str.ofString "checked") 339,Value.str (Str.ofString "/claim/cut.py") 340,Value.int 28 0,Value.int 1 0,Value.int 0 0,Value.int 0 0,Value.int 3 0,Value.ref 124,Value.bool true,Value.int 181 0,Value.ref 125,Value.none,Value.none,Value.none,Value.ref 126,Value.int 341 0,Value.int 28 0,Value.str (Str.ofString "/claim/cut.py") 342] }),
  (128,{ cls:=.type "function",data:=.func (fo (stA 14) "checked" (Value.str (Str.ofString "snaptree.paths") 326) 127) }),
  (141,{ cls:=Value.type "code",data:=Data.fields #[Value.str (Str.ofString "__init__") 358,Value.str (Str.ofString "Pile.__init__") 359,Value.str (Str.ofString "/claim/cut.py") 360,Value.int 37 0,Value.int 1 0,Value.int 0 0,Value.int 0 0,Value.int 3 0,Value.ref 136,Value.bool true,Value.int 181 0,Value.ref 137,Value.none,Value.ref 138,Value.ref 139,Value.ref 140,Value.int 362 0,Value.int 37 0,Value.str (Str.ofString "/claim/cut.py") 363] }),
  (142,{ cls:=.type "function",data:=.func (fo (inA 16 0) "Pile.__init__" (Value.str (Str.ofString "snaptree.pile") 344) 141) }),
  (148,{ cls:=Value.type "code",data:=Data.fields #[Value.str (Str.ofString "need") 365,Value.str (Str.ofString "Pile.need") 366,Value.str (Str.ofString "/claim/cut.py") 367,Value.int 42 0,Value.int 2 0,Value.int 0 0,Value.int 0 0,Value.int 3 0,Value.ref 143,Value.bool true,Value.int 181 0,Value.ref 144,Value.none,Value.ref 145,Value.ref 146,Value.ref 147,Value.int 370 0,Value.int 42 0,Value.str (Str.ofString "/claim/cut.py") 371] }),
  (149,{ cls:=.type "function",data:=.func (fo (inA 16 1) "Pile.need" (Value.str (Str.ofString "snaptree.pile") 344) 148) }),
  (155,{ cls:=Value.type "code",data:=Data.fields #[Value.str (Str.ofString "fresh") 373,Value.str (Str.ofString "Pile.fresh") 374,Value.str (Str.ofString "/claim/cut.py") 375,Value.int 47 0,Value.int 2 0,Value.int 0 0,Value.int 0 0,Value.int 3 0,Value.ref 150,Value.bool true,Value.int 181 0,Value.ref 151,Value.none,Value.ref 152,Value.ref 153,Value.ref 154,Value.int 378 0,Value.int 47 0,Value.str (Str.ofString "/claim/cut.py") 379] }),
  (156,{ cls:=.type "function",data:=.func (fo (inA 16 2) "Pile.fresh" (Value.str (Str.ofString "snaptree.pile") 344) 155) }),
  (162,{ cls:=Value.type "code",data:=Data.fields #[Value.str (Str.ofString "leaf") 381,Value.str (Str.ofString "Pile.leaf") 382,Value.str (Str.ofString "/claim/cut.py") 383,Value.int 53 0,Value.int 2 0,Value.int 0 0,Value.int 0 0,Value.int 3 0,Value.ref 157,Value.bool true,Value.int 181 0,Value.ref 158,Value.none,Value.ref 159,Value.ref 160,Value.ref 161,Value.int 386 0,Value.int 53 0,Value.str (Str.ofString "/claim/cut.py") 387] }),
  (163,{ cls:=.type "function",data:=.func (fo (inA 16 3) "Pile.leaf" (Value.str (Str.ofString "snaptree.pile") 344) 162) }),
  (169,{ cls:=Value.type "code",data:=Data.fields #[Value.str (Str.ofString "branch") 389,Value.str (Str.ofString "Pile.branch") 390,Value.str (Str.ofString "/claim/cut.py") 391,Value.int 56 0,Value.int 2 0,Value.int 0 0,Value.int 0 0,Value.int 3 0,Value.ref 164,Value.bool true,Value.int 181 0,Value.ref 165,Value.none,Value.ref 166,Value.ref 167,Value.ref 168,Value.int 395 0,Value.int 56 0,Value.str (Str.ofString "/claim/cut.py") 396] }),
  (170,{ cls:=.type "function",data:=.func (fo (inA 16 4) "Pile.branch" (Value.str (Str.ofString "snaptree.pile") 344) 169) }),
  (176,{ cls:=Value.type "code",data:=Data.fields #[Value.str (Str.ofString "content") 398,Value.str (Str.ofString "Pile.content") 399,Value.str (Str.ofString "/claim/cut.py") 400,Value.int 63 0,Value.int 2 0,Value.int 0 0,Value.int 0 0,Value.int 3 0,Value.ref 171,Value.bool true,Value.int 181 0,Value.ref 172,Value.none,Value.ref 173,Value.ref 174,Value.ref 175,Value.int 404 0,Value.int 63 0,Value.str (Str.ofString "/claim/cut.py") 405] }),
  (177,{ cls:=.type "function",data:=.func (fo (inA 16 5) "Pile.content" (Value.str (Str.ofString "snaptree.pile") 344) 176) }),
  (183,{ cls:=Value.type "code",data:=Data.fields #[Value.str (Str.ofString "hold") 407,Value.str (Str.ofString "Pile.hold") 408,Value.str (Str.ofString "/claim/cut.py") 409,Value.int 69 0,Value.int 2 0,Value.int 0 0,Value.int 0 0,Value.int 3 0,Value.ref 178,Value.bool true,Value.int 181 0,Value.ref 179,Value.none,Value.ref 180,Value.ref 181,Value.ref 182,Value.int 412 0,Value.int 69 0,Value.str (Str.ofString "/claim/cut.py") 413] }),
  (184,{ cls:=.type "function",data:=.func (fo (inA 16 6) "Pile.hold" (Value.str (Str.ofString "snaptree.pile") 344) 183) }),
  (190,{ cls:=Value.type "code",data:=Data.fields #[Value.str (Str.ofString "holders") 415,Value.str (Str.ofString "Pile.holders") 416,Value.str (Str.ofString "/claim/cut.py") 417,Value.int 73 0,Value.int 2 0,Value.int 0 0,Value.int 0 0,Value.int 3 0,Value.ref 185,Value.bool true,Value.int 181 0,Value.ref 186,Value.none,Value.ref 187,Value.ref 188,Value.ref 189,Value.int 420 0,Value.int 73 0,Value.str (Str.ofString "/claim/cut.py") 421] }),
  (191,{ cls:=.type "function",data:=.func (fo (inA 16 7) "Pile.holders" (Value.str (Str.ofString "snaptree.pile") 344) 190) }),
  (195,{ cls:=Value.type "code",data:=Data.fields #[Value.str (Str.ofString "let_go") 423,Value.str (Str.ofString "Pile.let_go") 424,Value.str (Str.ofString "/claim/cut.py") 425,Value.int 76 0,Value.int 2 0,Value.int 0 0,Value.int 0 0,Value.int 3 0,Value.ref 192,Value.bool true,Value.int 181 0,Value.ref 193,Value.none,Value.none,Value.none,Value.ref 194,Value.int 426 0,Value.int 76 0,Value.str (Str.ofString "/claim/cut.py") 427] }),
  (196,{ cls:=.type "function",data:=.func (fo (inA 16 8) "Pile.let_go" (Value.str (Str.ofString "snaptree.pile") 344) 195) }),
  (202,{ cls:=Value.type "code",data:=Data.fields #[Value.str (Str.ofString "kept") 429,Value.str (Str.ofString "Pile.kept") 430,Value.str (Str.ofString "/claim/cut.py") 431,Value.int 92 0,Value.int 1 0,Value.int 0 0,Value.int 0 0,Value.int 3 0,Value.ref 197,Value.bool true,Value.int 181 0,Value.ref 198,Value.none,Value.ref 199,Value.ref 200,Value.ref 201,Value.int 433 0,Value.int 92 0,Value.str (Str.ofString "/claim/cut.py") 434] }),
  (203,{ cls:=.type "function",data:=.func (fo (inA 16 9) "Pile.kept" (Value.str (Str.ofString "snaptree.pile") 344) 202) }),
  (205,{ cls:=Value.type "dict",data:=Data.dict #[en P "__module__" 353 (Value.str (Str.ofString "snaptree.pile") 344),en P "__firstlineno__" 357 (Value.int 35 356),en P "__init__" 364 (Value.ref 142),en P "need" 372 (Value.ref 149),en P "fresh" 380 (Value.ref 156),en P "leaf" 388 (Value.ref 163),en P "branch" 397 (Value.ref 170),en P "content" 406 (Value.ref 177),en P "hold" 414 (Value.ref 184),en P "holders" 422 (Value.ref 191),en P "let_go" 428 (Value.ref 196),en P "kept" 435 (Value.ref 203),en P "__static_attributes__" 439 (Value.ref 204),en P "__dict__" 441 (Value.ref 207),en P "__weakref__" 443 (Value.ref 208),en P "__doc__" 444 (Value.none)] 4 }),
  (206,{ cls:=Value.type "type",data:=Data.cls { name:=Str.ofString "Pile",bases:=[Value.type "object"],mro:=[Value.ref 206,Value.type "object"],ns:=205,qualname:=Str.ofString "Pile" },slots:=#[none,none,some (Value.str (Str.ofString "Pile") 346),some (Value.str (Str.ofString "Pile") 354),some (Value.builtin "object.__new__"),some (Value.bool true)] }),
  (207,{ cls:=Value.type "getset_descriptor",data:=Data.fields #[Value.str (Str.ofString "__dict__") 440,Value.ref 206,Value.builtin "function.__dict__",Value.builtin "function.__dict__#set"] }),
  (208,{ cls:=Value.type "getset_descriptor",data:=Data.fields #[Value.str (Str.ofString "__weakref__") 442,Value.ref 206,Value.builtin "ExceptionGroup.__weakref__",Value.none] }),
  (216,{ cls:=Value.type "code",data:=Data.fields #[Value.str (Str.ofString "box_of") 449,Value.str (Str.ofString "box_of") 450,Value.str (Str.ofString "/claim/cut.py") 451,Value.int 95 0,Value.int 2 0,Value.int 0 0,Value.int 0 0,Value.int 3 0,Value.ref 211,Value.bool true,Value.int 181 0,Value.ref 212,Value.none,Value.ref 213,Value.ref 214,Value.ref 215,Value.int 455 0,Value.int 95 0,Value.str (Str.ofString "/claim/cut.py") 456] }),
  (217,{ cls:=.type "function",data:=.func (fo (stA 18) "box_of" (Value.str (Str.ofString "snaptree.rows") 447) 216) }),
  (221,{ cls:=Value.type "code",data:=Data.fields #[Value.str (Str.ofString "without") 458,Value.str (Str.ofString "without") 459,Value.str (Str.ofString "/claim/cut.py") 460,Value.int 100 0,Value.int 2 0,Value.int 0 0,Value.int 0 0,Value.int 3 0,Value.ref 218,Value.bool true,Value.int 181 0,Value.ref 219,Value.none,Value.none,Value.none,Value.ref 220,Value.int 461 0,Value.int 100 0,Value.str (Str.ofString "/claim/cut.py") 462] }),
  (222,{ cls:=.type "function",data:=.func (fo (stA 19) "without" (Value.str (Str.ofString "snaptree.rows") 447) 221) }),
  (226,{ cls:=Value.type "code",data:=Data.fields #[Value.str (Str.ofString "placed") 464,Value.str (Str.ofString "placed") 465,Value.str (Str.ofString "/claim/cut.py") 466,Value.int 102 0,Value.int 3 0,Value.int 0 0,Value.int 0 0,Value.int 3 0,Value.ref 223,Value.bool true,Value.int 181 0,Value.ref 224,Value.none,Value.none,Value.none,Value.ref 225,Value.int 467 0,Value.int 102 0,Value.str (Str.ofString "/claim/cut.py") 468] }),
  (227,{ cls:=.type "function",data:=.func (fo (stA 20) "placed" (Value.str (Str.ofString "snaptree.rows") 447) 226) }),
  (233,{ cls:=Value.type "code",data:=Data.fields #[Value.str (Str.ofString "need_way") 476,Value.str (Str.ofString "need_way") 477,Value.str (Str.ofString "/claim/cut.py") 478,Value.int 108 0,Value.int 1 0,Value.int 0 0,Value.int 0 0,Value.int 3 0,Value.ref 228,Value.bool true,Value.int 181 0,Value.ref 229,Value.none,Value.ref 230,Value.ref 231,Value.ref 232,Value.int 481 0,Value.int 108 0,Value.str (Str.ofString "/claim/cut.py") 482] }),
  (234,{ cls:=.type "function",data:=.func (fo (stA 23) "need_way" (Value.str (Str.ofString "snaptree.store") 470) 233) }),
  (240,{ cls:=Value.type "code",data:=Data.fields #[Value.str (Str.ofString "need_number") 484,Value.str (Str.ofString "need_number") 485,Value.str (Str.ofString "/claim/cut.py") 486,Value.int 113 0,Value.int 1 0,Value.int 0 0,Value.int 0 0,Value.int 3 0,Value.ref 235,Value.bool true,Value.int 181 0,Value.ref 236,Value.none,Value.ref 237,Value.ref 238,Value.ref 239,Value.int 488 0,Value.int 113 0,Value.str (Str.ofString "/claim/cut.py") 489] }),
  (241,{ cls:=.type "function",data:=.func (fo (stA 24) "need_number" (Value.str (Str.ofString "snaptree.store") 470) 240) }),
  (254,{ cls:=Value.type "code",data:=Data.fields #[Value.str (Str.ofString "__init__") 503,Value.str (Str.ofString "Store.__init__") 504,Value.str (Str.ofString "/claim/cut.py") 505,Value.int 118 0,Value.int 1 0,Value.int 0 0,Value.int 0 0,Value.int 3 0,Value.ref 249,Value.bool true,Value.int 181 0,Value.ref 250,Value.none,Value.ref 251,Value.ref 252,Value.ref 253,Value.int 507 0,Value.int 118 0,Value.str (Str.ofString "/claim/cut.py") 508] }),
  (255,{ cls:=.type "function",data:=.func (fo (inA 25 0) "Store.__init__" (Value.str (Str.ofString "snaptree.store") 470) 254) }),
  (261,{ cls:=Value.type "code",data:=Data.fields #[Value.str (Str.ofString "top") 510,Value.str (Str.ofString "Store.top") 511,Value.str (Str.ofString "/claim/cut.py") 512,Value.int 125 0,Value.int 2 0,Value.int 0 0,Value.int 0 0,Value.int 3 0,Value.ref 256,Value.bool true,Value.int 181 0,Value.ref 257,Value.none,Value.ref 258,Value.ref 259,Value.ref 260,Value.int 515 0,Value.int 125 0,Value.str (Str.ofString "/claim/cut.py") 516] }),
  (262,{ cls:=.type "function",data:=.func (fo (inA 25 1) "Store.top" (Value.str (Str.ofString "snaptree.store") 470) 261) }),
  (268,{ cls:=Value.type "code",data:=Data.fields #[Value.str (Str.ofString "found") 518,Value.str (Str.ofString "Store.found") 519,Value.str (Str.ofString "/claim/cut.py") 520,Value.int 132 0,Value.int 3 0,Value.int 0 0,Value.int 0 0,Value.int 3 0,Value.ref 263,Value.bool true,Value.int 181 0,Value.ref 264,Value.none,Value.ref 265,Value.ref 266,Value.ref 267,Value.int 526 0,Value.int 132 0,Value.str (Str.ofString "/claim/cut.py") 527] }),
  (269,{ cls:=.type "function",data:=.func (fo (inA 25 2) "Store.found" (Value.str (Str.ofString "snaptree.store") 470) 268) }),
  (275,{ cls:=Value.type "code",data:=Data.fields #[Value.str (Str.ofString "ways") 529,Value.str (Str.ofString "Store.ways") 530,Value.str (Str.ofString "/claim/cut.py") 531,Value.int 142 0,Value.int 2 0,Value.int 0 0,Value.int 0 0,Value.int 3 0,Value.ref 270,Value.bool true,Value.int 181 0,Value.ref 271,Value.none,Value.ref 272,Value.ref 273,Value.ref 274,Value.int 537 0,Value.int 142 0,Value.str (Str.ofString "/claim/cut.py") 538] }),
  (276,{ cls:=.type "function",data:=.func (fo (inA 25 3) "Store.ways" (Value.str (Str.ofString "snaptree.store") 470) 275) }),
  (282,{ cls:=Value.type "code",data:=Data.fields #[Value.str (Str.ofString "changed") 540,Value.str (Str.ofString "Store.changed") 541,Value.str (Str.ofString "/claim/cut.py") 542,Value.int 152 0,Value.int 2 0,Value.int 0 0,Value.int 0 0,Value.int 3 0,Value.ref 277,Value.bool true,Value.int 181 0,Value.ref 278,Value.none,Value.ref 279,Value.ref 280,Value.ref 281,Value.int 546 0,Value.int 152 0,Value.str (Str.ofString "/claim/cut.py") 547] }),
  (283,{ cls:=.type "function",data:=.func (fo (inA 25 4) "Store.changed" (Value.str (Str.ofString "snaptree.store") 470) 282) }),
  (289,{ cls:=Value.type "code",data:=Data.fields #[Value.str (Str.ofString "put") 549,Value.str (Str.ofString "Store.put") 550,Value.str (Str.ofString "/claim/cut.py") 551,Value.int 158 0,Value.int 3 0,Value.int 0 0,Value.int 0 0,Value.int 3 0,Value.ref 284,Value.bool true,Value.int 181 0,Value.ref 285,Value.none,Value.ref 286,Value.ref 287,Value.ref 288,Value.int 560 0,Value.int 158 0,Value.str (Str.ofString "/claim/cut.py") 561] }),
  (290,{ cls:=.type "function",data:=.func (fo (inA 25 5) "Store.put" (Value.str (Str.ofString "snaptree.store") 470) 289) }),
  (296,{ cls:=Value.type "code",data:=Data.fields #[Value.str (Str.ofString "cut") 563,Value.str (Str.ofString "Store.cut") 564,Value.str (Str.ofString "/claim/cut.py") 565,Value.int 175 0,Value.int 2 0,Value.int 0 0,Value.int 0 0,Value.int 3 0,Value.ref 291,Value.bool true,Value.int 181 0,Value.ref 292,Value.none,Value.ref 293,Value.ref 294,Value.ref 295,Value.int 572 0,Value.int 175 0,Value.str (Str.ofString "/claim/cut.py") 573] }),
  (297,{ cls:=.type "function",data:=.func (fo (inA 25 6) "Store.cut" (Value.str (Str.ofString "snaptree.store") 470) 296) }),
  (303,{ cls:=Value.type "code",data:=Data.fields #[Value.str (Str.ofString "snap") 575,Value.str (Str.ofString "Store.snap") 576,Value.str (Str.ofString "/claim/cut.py") 577,Value.int 185 0,Value.int 1 0,Value.int 0 0,Value.int 0 0,Value.int 3 0,Value.ref 298,Value.bool true,Value.int 181 0,Value.ref 299,Value.none,Value.ref 300,Value.ref 301,Value.ref 302,Value.int 579 0,Value.int 185 0,Value.str (Str.ofString "/claim/cut.py") 580] }),
  (304,{ cls:=.type "function",data:=.func (fo (inA 25 7) "Store.snap" (Value.str (Str.ofString "snaptree.store") 470) 303) }),
  (310,{ cls:=Value.type "code",data:=Data.fields #[Value.str (Str.ofString "shot") 582,Value.str (Str.ofString "Store.shot") 583,Value.str (Str.ofString "/claim/cut.py") 584,Value.int 191 0,Value.int 2 0,Value.int 0 0,Value.int 0 0,Value.int 3 0,Value.ref 305,Value.bool true,Value.int 181 0,Value.ref 306,Value.none,Value.ref 307,Value.ref 308,Value.ref 309,Value.int 587 0,Value.int 191 0,Value.str (Str.ofString "/claim/cut.py") 588] }),
  (311,{ cls:=.type "function",data:=.func (fo (inA 25 8) "Store.shot" (Value.str (Str.ofString "snaptree.store") 470) 310) }),
  (317,{ cls:=Value.type "code",data:=Data.fields #[Value.str (Str.ofString "drop") 590,Value.str (Str.ofString "Store.drop") 591,Value.str (Str.ofString "/claim/cut.py") 592,Value.int 196 0,Value.int 2 0,Value.int 0 0,Value.int 0 0,Value.int 3 0,Value.ref 312,Value.bool true,Value.int 181 0,Value.ref 313,Value.none,Value.ref 314,Value.ref 315,Value.ref 316,Value.int 596 0,Value.int 196 0,Value.str (Str.ofString "/claim/cut.py") 597] }),
  (318,{ cls:=.type "function",data:=.func (fo (inA 25 9) "Store.drop" (Value.str (Str.ofString "snaptree.store") 470) 317) }),
  (324,{ cls:=Value.type "code",data:=Data.fields #[Value.str (Str.ofString "back") 599,Value.str (Str.ofString "Store.back") 600,Value.str (Str.ofString "/claim/cut.py") 601,Value.int 201 0,Value.int 2 0,Value.int 0 0,Value.int 0 0,Value.int 3 0,Value.ref 319,Value.bool true,Value.int 181 0,Value.ref 320,Value.none,Value.ref 321,Value.ref 322,Value.ref 323,Value.int 604 0,Value.int 201 0,Value.str (Str.ofString "/claim/cut.py") 605] }),
  (325,{ cls:=.type "function",data:=.func (fo (inA 25 10) "Store.back" (Value.str (Str.ofString "snaptree.store") 470) 324) }),
  (331,{ cls:=Value.type "code",data:=Data.fields #[Value.str (Str.ofString "shot_numbers") 607,Value.str (Str.ofString "Store.shot_numbers") 608,Value.str (Str.ofString "/claim/cut.py") 609,Value.int 204 0,Value.int 1 0,Value.int 0 0,Value.int 0 0,Value.int 3 0,Value.ref 326,Value.bool true,Value.int 181 0,Value.ref 327,Value.none,Value.ref 328,Value.ref 329,Value.ref 330,Value.int 611 0,Value.int 204 0,Value.str (Str.ofString "/claim/cut.py") 612] }),
  (332,{ cls:=.type "function",data:=.func (fo (inA 25 11) "Store.shot_numbers" (Value.str (Str.ofString "snaptree.store") 470) 331) }),
  (338,{ cls:=Value.type "code",data:=Data.fields #[Value.str (Str.ofString "kind") 614,Value.str (Str.ofString "Store.kind") 615,Value.str (Str.ofString "/claim/cut.py") 616,Value.int 207 0,Value.int 3 0,Value.int 0 0,Value.int 0 0,Value.int 3 0,Value.ref 333,Value.bool true,Value.int 181 0,Value.ref 334,Value.none,Value.ref 335,Value.ref 336,Value.ref 337,Value.int 621 0,Value.int 207 0,Value.str (Str.ofString "/claim/cut.py") 622] }),
  (339,{ cls:=.type "function",data:=.func (fo (inA 25 12) "Store.kind" (Value.str (Str.ofString "snaptree.store") 470) 338) }),
  (345,{ cls:=Value.type "code",data:=Data.fields #[Value.str (Str.ofString "value") 624,Value.str (Str.ofString "Store.value") 625,Value.str (Str.ofString "/claim/cut.py") 626,Value.int 213 0,Value.int 3 0,Value.int 0 0,Value.int 0 0,Value.int 3 0,Value.ref 340,Value.bool true,Value.int 181 0,Value.ref 341,Value.none,Value.ref 342,Value.ref 343,Value.ref 344,Value.int 631 0,Value.int 213 0,Value.str (Str.ofString "/claim/cut.py") 632] }),
  (346,{ cls:=.type "function",data:=.func (fo (inA 25 13) "Store.value" (Value.str (Str.ofString "snaptree.store") 470) 345) }),
  (350,{ cls:=Value.type "code",data:=Data.fields #[Value.str (Str.ofString "names") 634,Value.str (Str.ofString "Store.names") 635,Value.str (Str.ofString "/claim/cut.py") 636,Value.int 221 0,Value.int 3 0,Value.int 0 0,Value.int 0 0,Value.int 3 0,Value.ref 347,Value.bool true,Value.int 181 0,Value.ref 348,Value.none,Value.none,Value.none,Value.ref 349,Value.int 637 0,Value.int 221 0,Value.str (Str.ofString "/claim/cut.py") 638] }),
  (351,{ cls:=.type "function",data:=.func (fo (inA 25 14) "Store.names" (Value.str (Str.ofString "snaptree.store") 470) 350) }),
  (357,{ cls:=Value.type "code",data:=Data.fields #[Value.str (Str.ofString "both") 640,Value.str (Str.ofString "Store.both") 641,Value.str (Str.ofString "/claim/cut.py") 642,Value.int 230 0,Value.int 2 0,Value.int 0 0,Value.int 0 0,Value.int 3 0,Value.ref 352,Value.bool true,Value.int 181 0,Value.ref 353,Value.none,Value.ref 354,Value.ref 355,Value.ref 356,Value.int 646 0,Value.int 230 0,Value.str (Str.ofString "/claim/cut.py") 647] }),
  (358,{ cls:=.type "function",data:=.func (fo (inA 25 15) "Store.both" (Value.str (Str.ofString "snaptree.store") 470) 357) }),
  (362,{ cls:=Value.type "code",data:=Data.fields #[Value.str (Str.ofString "changes") 649,Value.str (Str.ofString "Store.changes") 650,Value.str (Str.ofString "/claim/cut.py") 651,Value.int 238 0,Value.int 3 0,Value.int 0 0,Value.int 0 0,Value.int 3 0,Value.ref 359,Value.bool true,Value.int 181 0,Value.ref 360,Value.none,Value.none,Value.none,Value.ref 361,Value.int 652 0,Value.int 238 0,Value.str (Str.ofString "/claim/cut.py") 653] }),
  (363,{ cls:=.type "function",data:=.func (fo (inA 25 16) "Store.changes" (Value.str (Str.ofString "snaptree.store") 470) 362) }),
  (365,{ cls:=Value.type "dict",data:=Data.dict #[en P "__module__" 498 (Value.str (Str.ofString "snaptree.store") 470),en P "__firstlineno__" 502 (Value.int 116 501),en P "__init__" 509 (Value.ref 255),en P "top" 517 (Value.ref 262),en P "found" 528 (Value.ref 269),en P "ways" 539 (Value.ref 276),en P "changed" 548 (Value.ref 283),en P "put" 562 (Value.ref 290),en P "cut" 574 (Value.ref 297),en P "snap" 581 (Value.ref 304),en P "shot" 589 (Value.ref 311),en P "drop" 598 (Value.ref 318),en P "back" 606 (Value.ref 325),en P "shot_numbers" 613 (Value.ref 332),en P "kind" 623 (Value.ref 339),en P "value" 633 (Value.ref 346),en P "names" 639 (Value.ref 351),en P "both" 648 (Value.ref 358),en P "changes" 654 (Value.ref 363),en P "__static_attributes__" 659 (Value.ref 364),en P "__dict__" 661 (Value.ref 367),en P "__weakref__" 663 (Value.ref 368),en P "__doc__" 664 (Value.none)] 4 }),
  (366,{ cls:=Value.type "type",data:=Data.cls { name:=Str.ofString "Store",bases:=[Value.type "object"],mro:=[Value.ref 366,Value.type "object"],ns:=365,qualname:=Str.ofString "Store" },slots:=#[none,none,some (Value.str (Str.ofString "Store") 491),some (Value.str (Str.ofString "Store") 499),some (Value.builtin "object.__new__"),some (Value.bool true)] }),
  (367,{ cls:=Value.type "getset_descriptor",data:=Data.fields #[Value.str (Str.ofString "__dict__") 660,Value.ref 366,Value.builtin "function.__dict__",Value.builtin "function.__dict__#set"] }),
  (368,{ cls:=Value.type "getset_descriptor",data:=Data.fields #[Value.str (Str.ofString "__weakref__") 662,Value.ref 366,Value.builtin "ExceptionGroup.__weakref__",Value.none] }),
  (376,{ cls:=Value.type "code",data:=Data.fields #[Value.str (Str.ofString "_law_cell_at") 669,Value.str (Str.ofString "_law_cell_at") 670,Value.str (Str.ofString "/claim/cut.py") 671,Value.int 255 0,Value.int 2 0,Value.int 0 0,Value.int 0 0,Value.int 3 0,Value.ref 371,Value.bool true,Value.int 181 0,Value.ref 372,Value.none,Value.ref 373,Value.ref 374,Value.ref 375,Value.int 674 0,Value.int 255 0,Value.str (Str.ofString "/claim/cut.py") 675] }),
  (377,{ cls:=.type "function",data:=.func (fo (stA 27) "_law_cell_at" (Value.str (Str.ofString "law_uf040010_05") 667) 376) }),
  (381,{ cls:=Value.type "code",data:=Data.fields #[Value.str (Str.ofString "_law_word_by") 677,Value.str (Str.ofString "_law_word_by") 678,Value.str (Str.ofString "/claim/cut.py") 679,Value.int 259 0,Value.int 1 0,Value.int 0 0,Value.int 0 0,Value.int 3 0,Value.ref 378,Value.bool true,Value.int 181 0,Value.ref 379,Value.none,Value.none,Value.none,Value.ref 380,Value.int 680 0,Value.int 259 0,Value.str (Str.ofString "/claim/cut.py") 681] }),
  (382,{ cls:=.type "function",data:=.func (fo (stA 28) "_law_word_by" (Value.str (Str.ofString "law_uf040010_05") 667) 381) }),
  (388,{ cls:=Value.type "code",data:=Data.fields #[Value.str (Str.ofString "_law_paths") 683,Value.str (Str.ofString "_law_paths") 684,Value.str (Str.ofString "/claim/cut.py") 685,Value.int 262 0,Value.int 1 0,Value.int 0 0,Value.int 0 0,Value.int 3 0,Value.ref 383,Value.bool true,Value.int 181 0,Value.ref 384,Value.none,Value.ref 385,Value.ref 386,Value.ref 387,Value.int 692 0,Value.int 262 0,Value.str (Str.ofString "/claim/cut.py") 693] }),
  (389,{ cls:=.type "function",data:=.func (fo (stA 29) "_law_paths" (Value.str (Str.ofString "law_uf040010_05") 667) 388) }),
  (395,{ cls:=Value.type "code",data:=Data.fields #[Value.str (Str.ofString "_law_asked") 695,Value.str (Str.ofString "_law_asked") 696,Value.str (Str.ofString "/claim/cut.py") 697,Value.int 269 0,Value.int 5 0,Value.int 0 0,Value.int 0 0,Value.int 3 0,Value.ref 390,Value.bool true,Value.int 181 0,Value.ref 391,Value.none,Value.ref 392,Value.ref 393,Value.ref 394,Value.int 703 0,Value.int 269 0,Value.str (Str.ofString "/claim/cut.py") 704] }),
  (396,{ cls:=.type "function",data:=.func (fo (stA 30) "_law_asked" (Value.str (Str.ofString "law_uf040010_05") 667) 395) }),
  (402,{ cls:=Value.type "code",data:=Data.fields #[Value.str (Str.ofString "_law_told") 706,Value.str (Str.ofString "_law_told") 707,Value.str (Str.ofString "/claim/cut.py") 708,Value.int 290 0,Value.int 5 0,Value.int 0 0,Value.int 0 0,Value.int 3 0,Value.ref 397,Value.bool true,Value.int 181 0,Value.ref 398,Value.none,Value.ref 399,Value.ref 400,Value.ref 401,Value.int 716 0,Value.int 290 0,Value.str (Str.ofString "/claim/cut.py") 717] }),
  (403,{ cls:=.type "function",data:=.func (fo (stA 31) "_law_told" (Value.str (Str.ofString "law_uf040010_05") 667) 402) }),
  (409,{ cls:=Value.type "code",data:=Data.fields #[Value.str (Str.ofString "_law_due_of_view") 719,Value.str (Str.ofString "_law_due_of_view") 720,Value.str (Str.ofString "/claim/cut.py") 721,Value.int 299 0,Value.int 3 0,Value.int 0 0,Value.int 0 0,Value.int 3 0,Value.ref 404,Value.bool true,Value.int 181 0,Value.ref 405,Value.none,Value.ref 406,Value.ref 407,Value.ref 408,Value.int 725 0,Value.int 299 0,Value.str (Str.ofString "/claim/cut.py") 726] }),
  (410,{ cls:=.type "function",data:=.func (fo (stA 32) "_law_due_of_view" (Value.str (Str.ofString "law_uf040010_05") 667) 409) }),
  (416,{ cls:=Value.type "code",data:=Data.fields #[Value.str (Str.ofString "_law_due") 728,Value.str (Str.ofString "_law_due") 729,Value.str (Str.ofString "/claim/cut.py") 730,Value.int 315 0,Value.int 4 0,Value.int 0 0,Value.int 0 0,Value.int 3 0,Value.ref 411,Value.bool true,Value.int 181 0,Value.ref 412,Value.none,Value.ref 413,Value.ref 414,Value.ref 415,Value.int 735 0,Value.int 315 0,Value.str (Str.ofString "/claim/cut.py") 736] }),
  (417,{ cls:=.type "function",data:=.func (fo (stA 33) "_law_due" (Value.str (Str.ofString "law_uf040010_05") 667) 416) }),
  (423,{ cls:=Value.type "code",data:=Data.fields #[Value.str (Str.ofString "law") 738,Value.str (Str.ofString "law") 739,Value.str (Str.ofString "/claim/cut.py") 740,Value.int 327 0,Value.int 1 0,Value.int 0 0,Value.int 0 0,Value.int 3 0,Value.ref 418,Value.bool true,Value.int 181 0,Value.ref 419,Value.none,Value.ref 420,Value.ref 421,Value.ref 422,Value.int 753 0,Value.int 327 0,Value.str (Str.ofString "/claim/cut.py") 754] }),
  (424,{ cls:=.type "function",data:=.func (fo (stA 34) "law" (Value.str (Str.ofString "law_uf040010_05") 667) 423) })]
noncomputable def asK:List Nat:=[2,3,20,21,30,31,32,43,44,55,56,67,68,79,80,91,92,103,104,115,116,122,123,127,128,141,142,148,149,155,156,162,163,169,170,176,177,183,184,190,191,195,196,202,203,205,206,207,208,216,217,221,222,226,227,233,234,240,241,254,255,261,262,268,269,275,276,282,283,289,290,296,297,303,304,310,311,317,318,324,325,331,332,338,339,345,346,350,351,357,358,362,363,365,366,367,368,376,377,381,382,388,389,395,396,402,403,409,410,416,417,423,424]
noncomputable def kept:Stmt→Bool
  | .Assign [.Name x _] _ _=>x != "__name__"
  | _=>true
noncomputable def view:Program:={ pw_uf040010_05 with main:={ pw_uf040010_05.main with body:=pw_uf040010_05.main.body.filter kept } }
noncomputable def lawD:DefRec:=match (stA 34) with
  | .FunctionDef n a b _ _ _ sc _ _ p=>⟨n,a,b,sc,p⟩
  | _=>⟨"law",default,[],default,default⟩
noncomputable abbrev LAM:Option (Nat×Nat):=some (362,360)
noncomputable abbrev hook:Hook:=kmHook KK asK (fun _=>by kernel_rfl) [360]
theorem left:LeftO rw_uf040010_05.row.prog view ["BOUND"] (fun s=>xlAt view [("BOUND", .int 1000000000000000000000000000000)] s && recOk (RowW.records rw_uf040010_05.row.toRowW) s) hook.obs hook.val 7136:=left_of (by
  intro w
  kernel_rfl)
theorem said:rw_uf040010_05.wellSaid = true:=by kernel_rfl
end
end Mine.L5
end

section
open PySem PyProof.Rows
namespace Mine
@[reducible] noncomputable def numKind:PyProof.Rows.KeyKind where
  α:=Int
  blt a b:=decide (a < b)
  irrefl a:=decide_eq_false (Int.lt_irrefl a)
  trans a b c h1 h2:=decide_eq_true (Int.lt_trans (of_decide_eq_true h1) (of_decide_eq_true h2))
  negTrans a b c h:=(Int.lt_or_le a b).elim (fun q=>.inl (decide_eq_true q)) fun q=>.inr (decide_eq_true (Int.lt_of_le_of_lt q (of_decide_eq_true h)))
  total a b h1 h2:=Int.le_antisymm (Int.not_lt.1 (of_decide_eq_false h2)) (Int.not_lt.1 (of_decide_eq_false h1))
  keyOf v:=match v with | .int n _=>some n | _=>none
  dflt:=0
theorem numKind_oneLt:numKind.OneLt:=by
  intro prog w A E s x y a b Q ha hb h
  cases x <;> simp only [numKind,reduceCtorEq,Option.some.injEq] at ha
  cases y <;> simp only [numKind,reduceCtorEq,Option.some.injEq] at hb
  cases ha;cases hb
  exact oneLt_int h
section
variable {prog:Program} {w:World} {A:Around} {E:Value→Shared→Prop} {s:Shared}
theorem sort_any {κ:PyProof.Rows.KeyKind} (hO:κ.OneLt) {a:Addr} {vs:List Value} {n:Nat} {P:Fin→Shared→Prop} (ho:s.heap.get? a = some (seqObj "list" vs.toArray n))
    (h0:KeysOf κ (pairsOf vs)) (hkk:∀ v₁ v₂ rest,vs = v₁ :: v₂ :: rest→PyProof.Rows.keyKind' (v₁ :: v₂ :: rest).toArray = pure oneType') (h64:vs.length < 64)
    (h:∀ st':SortSt,(arrOf st').Perm (pairsOf vs)→SortedToK κ (arrOf st') (pairsOf vs).size→P (.done (.ret .none)) { s with heap:=sortedHeap s.heap a vs ((arrOf st').map (·.2)) }) :
    wpAny (model prog w) A (Builtin.«list.sort» ⟨[.ref a],[]⟩) P E s :=
  list_sort_treeK hO ho h0 hkk h64 h
theorem sort_ints {a:Addr} {vs:List Value} {ns:List Int} {n:Nat} {P:Fin→Shared→Prop} (ho:s.heap.get? a = some (seqObj "list" vs.toArray n)) (hI:IntsAre vs ns) (hz:vs.length < 64)
    (h:∀ (out:Array Value) (ns':List Int),IntsAre out.toList ns'→ns'.Perm ns→ns'.Pairwise (·≤·)→P (.done (.ret .none)) { s with heap:=sortedHeap s.heap a vs out }) :
    wpAny (model prog w) A (Builtin.«list.sort» ⟨[.ref a],[]⟩) P E s:=by
  refine sort_any numKind_oneLt ho ?_ ?_ hz fun st' hp hs=>?_
  · intro p hp
    obtain ⟨n,t,e⟩:=hI.intKeys p hp
    exact ⟨n,by rw [e]⟩
  · intro v1 v2 r e
    exact keyKind_ints (by rw [← e];exact hI)
  · have e:∀ k,KK numKind (arrOf st') k = K (arrOf st') k:=fun k=>by
      unfold KK K
      cases (arrOf st')[k]? with
      | none=>rfl
      | some p=>obtain ⟨u,v⟩:=p;cases u <;> rfl
    obtain ⟨ns',r1,r2,r3⟩:=sorted_out hI hp fun i j hij hj=>by
      have:=hs i j hij hj
      rw [e,e] at this
      have:decide (K (arrOf st') j < K (arrOf st') i) = false:=this
      exact Int.not_lt.1 (of_decide_eq_false this)
    exact h _ ns' r1 r2 r3
end
end Mine
end

section
open PySem PyProof.Rows
namespace Mine
noncomputable def HdAt (A:Around) (h:Heap):Prop:=A.handled = none∨∃ e o vs,A.handled = some (.ref e)∧h.get? e = some o∧o.data = .fields vs∧vs[2]? = some Value.none
section
variable {prog:Program} {w:World} {A:Around} {E:Value→Shared→Prop} {s:Shared}
theorem entry_unchain:entryFor table "proto.unchain" = some Builtin.«proto.unchain»:=entryFor_of_fast (by kernel_rfl)
theorem unchain_at {v sl:Value} {e:Addr} {o:Obj} {vs:Array Value} {b:Bool} {Q:Value→Shared→Prop} (h1:s.heap.get? e = some o) (h2:o.data = .fields vs) (h3:vs[2]? = some Value.none) (q:Q .none s) :
    wpAny (model prog w) A (runValue (.builtin "proto.unchain" ⟨[v, .ref e,sl, .bool b],[]⟩)) Q E s:=by
  refine runValue_entry entry_unchain ?_
  show wpAny _ _ (field (.ref e) 2 >>= _) _ _ s
  refine wpAny_bind (wpAny_field h1 h2 h3 ?_)
  show wpAny _ _ (if (Value.none == Value.none) = true then _ else _) _ _ s
  rw [if_pos (show (Value.none == Value.none) = true from rfl)]
  exact wpAny_pure ⟨_,rfl,q⟩
theorem raiseNew_at {α:Type} {Q:α→Shared→Prop} {a:Addr} {o:Obj} {vs:Array Value} (hd:HdAt A s.heap) (hn:∀ e,A.handled = some (.ref e)→e≠a) (h1:s.heap.get? a = some o) (h2:o.data = .fields vs) (h3:2 < vs.size)
    (h:∀ h' o',Heap.ExtBut a s.heap h'→h'.get? a = some o'→o'.cls = o.cls→E (.ref a) { s with heap:=h' }):wpAny (model prog w) A (raiseNew (α:=α) (.ref a)) Q E s:=by
  unfold raiseNew
  refine wpAny_bind (wpAny_handled ?_)
  rcases hd with hd | ⟨e,oe,ve,e1,e2,e3,e4⟩
  · rw [hd]
    exact wpAny_bind (wpAny_pure (wpAny_throw (h _ _ (fun _ _ _ x=>x) h1 rfl)))
  · rw [e1]
    have ne:=hn e e1
    dsimp only
    rw [if_pos (by simpa using ne)]
    refine wpAny_bind (wpAny_holding (unchain_at e2 e3 e4 ?_))
    refine wpAny_bind ?_
    refine wpAny_mono (wpAny_setField (x:=.ref e) (i:=2) h1 h2 h3 (Q:=fun _ s'=>s' = { s with heap:=s.heap.update a (Obj.mapFields (·.setIfInBounds 2 (.ref e))) }) rfl) (fun _ s' z=>?_) fun _ _ z=>z
    subst z
    exact wpAny_throw (h _ _ (Heap.SameBut.update ..).extBut (Heap.get?_update_self _ h1 (Obj.isFreed_of_fields (Obj.data_mapFields h2 _))) (Obj.cls_mapFields ..))
theorem next_list_end {it l:Addr} {i:Nat} {items} {Q:Option Value→Shared→Prop} (hh:HdAt A s.heap) (hn:∀ e,A.handled = some (.ref e)→e≠it)
    (hit:s.heap.IsListIter it l i) (hl:s.heap.IsList l items) (hx:items[i]? = none)
    (hQ:∀ h',Heap.ExtBut it s.heap h'→Q none { s with heap:=h' }):wpAny (model prog w) A (pyNext (.ref it)) Q E s:=by
  obtain ⟨o,ho,hc,hd⟩:=id hit
  obtain ⟨ol,hol,_,nl,hdl⟩:=hl
  unfold pyNext
  refine wpAny_bind (wpAny_attempt (wpAny_callSpecial?_slot (name:=Str.ofString "__next__") hit.typeIs slot_listiter_next
    (wpAny_call_entry slot_listiter_next hit.typeIs entry_listiter_next ?_ (args_listiter_next _))))
  show wpAny _ _ (field (.ref it) 0 >>= _) _ _ s
  refine wpAny_bind (wpAny_field ho hd (x:=.ref l) rfl ?_)
  show wpAny _ _ (if (Value.ref l == Value.none) = true then _ else _) _ _ s
  rw [if_neg (show ¬ ((Value.ref l == Value.none) = true) from Bool.false_ne_true)]
  show wpAny _ _ (field (.ref it) 1 >>= _) _ _ s
  refine wpAny_bind (wpAny_field ho hd (x:=.int i 0) rfl ?_)
  show wpAny _ _ (seqItems? (.ref l) >>= _) _ _ s
  refine wpAny_bind (wpAny_seqItems hol hdl ?_)
  simp only [Int.toNat_natCast,hx]
  refine wpAny_bind (wpAny_rule (wpAny_bind (wpAny_setField ho hd (by simp) ?_)))
  show wpAny _ _ (newExc (.type "StopIteration") [] >>= _) _ _ _
  refine wpAny_bind ?_
  simp only [newExc,newTuple]
  refine wpAny_bind (wpAny_newObj_type ?_ (by size_fits))
  refine wpAny_bind (m:=firstArgMember _ _) (wpAny_of_eq (a:=Value.none) (by first | rfl | (simp only [firstArgMember];rfl)) ?_)
  refine wpAny_newObj_type ?_ (by size_fits)
  refine raiseNew_at (hh.imp id fun ⟨e,o,vs,e1,e2,e3,e4⟩=>⟨e,o,vs,e1,(((Heap.SameBut.update ..).extBut.push _).push _) e o (hn e e1) e2,e3,e4⟩) (fun e e1=>?_) (Heap.get?_push_size _ rfl) rfl (by rw [show ownMembersOf (.type "StopIteration") [] = #[] from rfl];simp) fun h' o' x1 x2 x3=>?_
  · rcases hh with hh | ⟨e',o,vs,e1',e2,_⟩
    · rw [show A.in1.handled = none from hh] at e1;cases e1
    · rw [show A.in1.handled = some (.ref e') from e1'] at e1
      cases e1
      have:=Heap.lt_size e2
      intro q;subst q
      rw [Heap.size_push,Heap.size_after_update] at this
      exact absurd this (Nat.not_lt.2 (Nat.le_succ _))
  refine wpAny_bind (wpAny_isInstance (T := "StopIteration") (b:=true) ⟨_,x2,x3⟩ isSubtype_stop ?_)
  refine wpAny_pure (hQ _ fun b o hb e=>x1 b o ?_ ((((Heap.SameBut.update ..).extBut.push _).push _) b o hb e))
  intro q;subst q
  have:=Heap.lt_size e
  rw [Heap.size_push,Heap.size_after_update] at this
  exact absurd this (Nat.not_lt.2 (Nat.le_succ _))
end
end Mine
end

section
open PySem PyProof.Rows PySem.Calls
namespace Mine
noncomputable def er:Value→Value
  | .int i _=>.int i 0
  | .float b _=>.float b 0
  | .str x _=>.str x 0
  | .bytes b _=>.bytes b 0
  | v=>v
theorem er_int {V:Value} {i:Int} {t:Tok} (h:er V = .int i t):∃ u,V = .int i u:=by
  cases V <;> simp [er] at h;exact ⟨_,by rw [h.1]⟩
theorem er_str {V:Value} {x:Str} {t:Tok} (h:er V = .str x t):∃ u,V = .str x u:=by
  cases V <;> simp [er] at h;exact ⟨_,by rw [h.1]⟩
theorem er_bool {V:Value} {b:Bool} (h:er V = .bool b):V = .bool b:=by
  cases V <;> simp [er] at h;rw [h]
theorem er_none {V:Value} (h:er V = .none):V = .none:=by
  cases V <;> simp [er] at h;rfl
theorem er_ref {V:Value} {a:Addr} (h:er V = .ref a):V = .ref a:=by
  cases V <;> simp [er] at h;rw [h]
inductive AObj where
  | list (xs:List Value)
  | rlist (xs:List Value)
  | tup (xs:List Value)
  | idict (kvs:List (Int×Value))
  | sdict (kvs:List (Str×Value))
  | inst (C d:Addr)
  | ns (kvs:List (Str×Value))
  | range (lo hi st:Int)
  | exc (C:Addr)
  | tab
noncomputable abbrev Hp:=Addr→Option AObj
noncomputable abbrev Loc:=Str→Option Value
noncomputable abbrev QV:=Value→Hp→Prop
noncomputable abbrev XV:=Addr→Hp→Prop
noncomputable def Hp.upd (H:Hp) (a:Addr) (o:AObj):Hp:=fun b=>if b = a then some o else H b
noncomputable def Loc.upd (l:Loc) (x:Str) (v:Value):Loc:=fun y=>if y = x then some v else l y
noncomputable def Loc.del (l:Loc) (x:Str):Loc:=fun y=>if y = x then none else l y
theorem Hp.upd_same (H:Hp) (a:Addr) (o:AObj):H.upd a o a = some o:=by simp [Hp.upd]
theorem Hp.upd_ne (H:Hp) {a b:Addr} (o:AObj) (h:b≠a):H.upd a o b = H b:=by simp [Hp.upd,h]
inductive Ty where
  | str | int | bool | list | tuple | listOrTuple | valueError
  | cls (x:Str)
  deriving DecidableEq
inductive Bf where
  | len | list | sorted | sortedSet | sortedKey0 | int | all | max2 | range
  deriving DecidableEq
inductive Bm where
  | append | pop | join
  deriving DecidableEq
inductive Ex where
  | none
  | bool (b:Bool)
  | int (i:Int)
  | str (x:Str)
  | loc (x:Str)
  | glob (x:Str)
  | attr (o:Ex) (a:Str)
  | bin (op:Operator) (l r:Ex)
  | neg (e:Ex)
  | not (e:Ex)
  | bop (isAnd:Bool) (es:List Ex)
  | cmp (l:Ex) (op:CmpOp) (r:Ex)
  | cmp2 (l:Ex) (op:CmpOp) (m:Ex) (op2:CmpOp) (r:Ex)
  | isi (e:Ex) (t:Ty)
  | bf (f:Bf) (args:List Ex)
  | bm (m:Bm) (o:Ex) (args:List Ex)
  | call (f:Ex) (args:List Ex)
  | meth (o:Ex) (m:Str) (args:List Ex)
  | idx (o i:Ex)
  | slice (o:Ex) (lo hi:Option Ex)
  | list (es:List Ex)
  | tup (es:List Ex)
  | dict (ks vs:List Ex)
  | comp (elt:Ex) (x:Str) (src:Ex) (ifs:List Ex)
mutual
inductive Sm where
  | expr (e:Ex)
  | asg (x:Str) (e:Ex)
  | asgAttr (o:Ex) (a:Str) (e:Ex)
  | asgIdx (o i e:Ex)
  | ite (c:Ex) (t f:List Sm)
  | for_ (x:Str) (src:Ex) (body:List Sm)
  | while_ (c:Ex) (body:List Sm)
  | ret (e:Ex)
  | raise (c:Str)
  | try_ (body:List Sm) (hs:List Hd)
  | cont
  | pass
inductive Hd where
  | mk (c:Str) (n:Option Str) (body:List Sm)
end
structure Pm where
  prog:Program
  w:World
  s₀:Shared
  mg:Str→Option Value
  mb:Str→Option Value
  K:PySem.W.Frag
  lam:Option (Addr×Addr):=none
noncomputable abbrev Pm.base (P:Pm):Heap:=P.s₀.heap
noncomputable abbrev Pm.M (P:Pm):Model:=model P.prog P.w
structure PmOk (P:Pm):Prop where
  g:P.base.Ns mainGlobals P.mg
  b:P.base.Ns builtinsNs P.mb
  lim:P.base.NoLimit
  kin:P.K.In P.base
  lam:∀ c T,P.lam = some (c,T)→PySem.W.CodeHd P.base c T∧P.base.BuiltinsAt P.mg T
inductive All2 {α β:Type} (R:α→β→Prop):List α→List β→Prop where
  | nil:All2 R [] []
  | cons {a b as bs}:R a b→All2 R as bs→All2 R (a :: as) (b :: bs)
noncomputable def NsEs (w:World) (es:List DictEntry) (kvs:List (Str×Value)):Prop :=
  All2 (fun e p=>(∃ t,e.key = .str p.1 t)∧er e.val = p.2∧e.hash = PyData.keyHash w.params p.1) es kvs
noncomputable def IsL (h:Heap) (a:Addr) (vs:Array Value):Prop:=∃ n,h.get? a = some { cls:=.type "list",dict:=none,data:=.seq vs n,slots:=#[] }
noncomputable def Mt (P:Pm) (h:Heap) (a:Addr):AObj→Prop
  | .list xs=>∃ vs,h.IsList a vs∧vs.toList.map er = xs∧xs.length≤2 ^ 25∧IsL h a vs
  | .rlist xs=>∃ vs,h.IsList a vs∧vs.toList.map er = xs∧xs.length≤2 ^ 25
  | .tup xs=>∃ vs,h.IsTuple a vs∧vs.toList.map er = xs∧xs.length≤2 ^ 25
  | .idict kvs=>∃ ks,h.DictOf (intKind P.prog P.w) a ks∧ks.map (fun p=>(p.1,er p.2)) = kvs
  | .sdict kvs=>∃ ks,h.DictOf (PySem.strKind P.prog P.w) a ks∧ks.map (fun p=>(p.1,er p.2)) = kvs
  | .inst C d=>h.get? a = some { cls:=.ref C,dict:=some d,data:=.plain }
  | .ns kvs=>∃ es n,h.get? a = some { cls:=.type "dict",data:=.dict es n }∧NsEs P.w es.toList kvs∧(kvs.map (·.1)).Nodup
  | .range lo hi st=>∃ t u v,IsRange h a lo hi st t u v
  | .exc C=>∃ vs sl,h.get? a = some { cls:=.ref C,dict:=none,data:=.fields vs,slots:=sl }
  | .tab=>∃ c ps,P.lam = some (c,a)∧h.get? a = some (PySem.W.tabObj ps)∧TriplesOk ps.toList
theorem Mt.congr {P:Pm} {h h':Heap} {a:Addr} {o:AObj} (e:h'.get? a = h.get? a) (m:Mt P h a o):Mt P h' a o:=by
  cases o with
  | list xs=>obtain ⟨vs,⟨o,ho,r⟩,q1,q2,n,q3⟩:=m;exact ⟨vs,⟨o,e.trans ho,r⟩,q1,q2,n,e.trans q3⟩
  | rlist xs=>obtain ⟨vs,⟨o,ho,r⟩,q⟩:=m;exact ⟨vs,⟨o,e.trans ho,r⟩,q⟩
  | tup xs=>obtain ⟨vs,⟨o,ho,r⟩,q⟩:=m;exact ⟨vs,⟨o,e.trans ho,r⟩,q⟩
  | idict xs=>obtain ⟨vs,⟨o,es,ep,ho,r⟩,q⟩:=m;exact ⟨vs,⟨o,es,ep,e.trans ho,r⟩,q⟩
  | sdict xs=>obtain ⟨vs,⟨o,es,ep,ho,r⟩,q⟩:=m;exact ⟨vs,⟨o,es,ep,e.trans ho,r⟩,q⟩
  | inst C d=>exact e.trans m
  | ns kvs=>obtain ⟨es,n,ho,r⟩:=m;exact ⟨es,n,e.trans ho,r⟩
  | range lo hi st=>obtain ⟨t,u,v,ho⟩:=m;exact ⟨t,u,v,e.trans ho⟩
  | exc C=>obtain ⟨vs,sl,ho⟩:=m;exact ⟨vs,sl,e.trans ho⟩
  | tab=>obtain ⟨c,ps,h1,h2,h3⟩:=m;exact ⟨c,ps,h1,e.trans h2,h3⟩
theorem Mt.some {P:Pm} {h:Heap} {a:Addr} {o:AObj} (m:Mt P h a o):∃ O,h.get? a = some O:=by
  cases o with
  | list xs=>obtain ⟨vs,⟨o,ho,r⟩,q⟩:=m;exact ⟨o,ho⟩
  | rlist xs=>obtain ⟨vs,⟨o,ho,r⟩,q⟩:=m;exact ⟨o,ho⟩
  | tup xs=>obtain ⟨vs,⟨o,ho,r⟩,q⟩:=m;exact ⟨o,ho⟩
  | idict xs=>obtain ⟨vs,⟨o,es,ep,ho,r⟩,q⟩:=m;exact ⟨o,ho⟩
  | sdict xs=>obtain ⟨vs,⟨o,es,ep,ho,r⟩,q⟩:=m;exact ⟨o,ho⟩
  | inst C d=>exact ⟨_,m⟩
  | ns kvs=>obtain ⟨es,n,ho,r⟩:=m;exact ⟨_,ho⟩
  | range lo hi st=>obtain ⟨t,u,v,ho⟩:=m;exact ⟨_,ho⟩
  | exc C=>obtain ⟨vs,sl,ho⟩:=m;exact ⟨_,ho⟩
  | tab=>obtain ⟨c,ps,h1,h2,h3⟩:=m;exact ⟨_,h2⟩
structure Fm where
  env:Env
  A:Around
  g:Addr→Option Obj
  fr:Addr→Option Data
  ro:Bool
  x:Option Addr:=none
noncomputable def lamX:Str := "looked"
structure FmOk (P:Pm) (F:Fm):Prop where
  kind:F.env.scope.kind = .function
  glob:F.env.globals = mainGlobals
  blt:F.env.builtins = builtinsNs
  base:∀ b o,P.base.get? b = some o→F.g b = some o
  above:P.base.objs.size≤F.env.locals
  lg:F.g F.env.locals = none
  lf:F.fr F.env.locals = none
  cl:∀ x c,(x,c)∈F.env.cells→c≠F.env.locals
  cg:F.ro = false→∀ x c,(x,c)∈F.env.cells→F.g c = none∧F.fr c = none
  apart:F.env.cells.Pairwise (fun x y=>x.2≠y.2)
  cn:∀ x c,(x,c)∈F.env.cells→F.env.cells.lookup x = some c
  cf:∀ x c,(x,c)∈F.env.cells→F.fr c = none
  fg:∀ b d,F.fr b = some d→F.g b = none∧∀ vs,d≠.fields vs
  frames:∃ fenv outer,F.A.frames = some (fenv :: outer)∧(F.ro = false→fenv = F.env∧F.env.frame = some F.env.locals) ∧
    ∀ e∈fenv :: outer,e.scope.kind≠.module∧∃ b,e.frame = some b∧(b = F.env.locals∨(F.fr b).isSome = true)
  xg:∀ a,F.x = some a→(∃ O,F.g a = some O)∧F.A.handled = some (.ref a)
  code:∀ c T,P.lam = some (c,T)→F.env.kindOf lamX = some .local→F.env.code = .ref c
noncomputable def Bigs (P:Pm) (a:Addr):AObj→Prop
  | .idict _ | .sdict _=>P.base.objs.size≤a
  | _=>True
theorem bigs_of {P:Pm} {a:Addr} {o:AObj} (h:P.base.objs.size≤a):Bigs P a o:=by cases o <;> first | exact h | trivial
noncomputable def AObj.isR:AObj→Bool
  | .rlist _=>true
  | .exc _=>true
  | _=>false
noncomputable def AObj.isRL:AObj→Bool
  | .rlist _=>true
  | _=>false
noncomputable def Hp.del (H:Hp) (e:Addr):Hp:=fun b=>if b = e then none else H b
noncomputable def Fre (P:Pm) (F:Fm) (a:Addr):AObj→Prop
  | .rlist _=>∃ O,P.base.get? a = some O
  | .exc _=>F.x = some a
  | _=>F.g a = none∧F.fr a = none∧a≠F.env.locals∧∀ x c,(x,c)∈F.env.cells→a≠c
theorem fre_of {P:Pm} {F:Fm} {a:Addr} {o:AObj} (hr:o.isR = false) (h:F.g a = none∧F.fr a = none∧a≠F.env.locals∧∀ x c,(x,c)∈F.env.cells→a≠c):Fre P F a o:=by cases o <;> first | exact h | cases hr
theorem of_fre {P:Pm} {F:Fm} {a:Addr} {o:AObj} (h:Fre P F a o) (hr:o.isR = false):F.g a = none∧F.fr a = none∧a≠F.env.locals∧∀ x c,(x,c)∈F.env.cells→a≠c:=by cases o <;> first | exact h | cases hr
theorem r_fre {P:Pm} {F:Fm} {a:Addr} {o:AObj} (h:Fre P F a o) (hr:o.isR = true):(∃ O,P.base.get? a = some O)∨F.x = some a:=by cases o <;> first | exact .inl h | exact .inr h | cases hr
theorem fre_r {P:Pm} {F F':Fm} {a:Addr} {o:AObj} (hr:o.isR = true) (hx:F'.x = F.x) (h:Fre P F a o):Fre P F' a o:=by cases o <;> first | exact h | exact hx.trans h | cases hr
structure Inv (P:Pm) (F:Fm) (l:Loc) (H:Hp) (s:Shared):Prop where
  gens:s.gens = P.s₀.gens
  os:s.os = P.s₀.os
  keep:∀ b o,F.g b = some o→s.heap.get? b = some o
  frk:∀ b d,F.fr b = some d→∃ o,s.heap.get? b = some o∧o.data = d
  loc:∃ m,s.heap.Ns F.env.locals m∧∀ x v,l x = some v→F.env.kindOf x = some .local→∃ V,m x = some V∧er V = v
  cel:∀ x c,F.env.cells.lookup x = some c→∃ vo,s.heap.IsCell c vo ∧
    ∀ v,l x = some v→(F.env.kindOf x = some .cell∨F.env.kindOf x = some .free)→∃ V,vo = some V∧er V = v
  objs:∀ a o,H a = some o→Mt P s.heap a o
  free:∀ a o,H a = some o→Fre P F a o
  big:∀ a o,H a = some o→Bigs P a o
section
variable {P:Pm} {F:Fm} {l:Loc} {H:Hp} {s:Shared}
theorem Inv.toks (I:Inv P F l H s) (t:Nat):Inv P F l H { s with toks:=t }:=⟨I.gens,I.os,I.keep,I.frk,I.loc,I.cel,I.objs,I.free,I.big⟩
theorem Inv.lt_of (I:Inv P F l H s) {a:Addr} {o:AObj} (h:H a = some o):a < s.heap.objs.size:=let ⟨_,e⟩:=(I.objs a o h).some;Heap.lt_size e
theorem Inv.fresh (I:Inv P F l H s):H s.heap.objs.size = none:=by
  cases e:H s.heap.objs.size with
  | none=>rfl
  | some o=>exact absurd (I.lt_of e) (Nat.lt_irrefl _)
structure Off (F:Fm) (H:Hp) (a:Addr):Prop where
  h:H a = none
  g:F.g a = none
  fr:F.fr a = none
  l:a≠F.env.locals
  c:∀ x c,(x,c)∈F.env.cells→a≠c
theorem Inv.off (K:FmOk P F) (I:Inv P F l H s) {a:Addr} (n:s.heap.get? a = none):Off F H a:=by
  refine ⟨?_, ?_, ?_, ?_, ?_⟩
  · cases e:H a with
    | none=>rfl
    | some o=>obtain ⟨_,e'⟩:=(I.objs a o e).some;rw [n] at e';cases e'
  · cases e:F.g a with
    | none=>rfl
    | some o=>have:=I.keep a o e;rw [n] at this;cases this
  · cases e:F.fr a with
    | none=>rfl
    | some o=>obtain ⟨_,e',_⟩:=I.frk a o e;rw [n] at e';cases e'
  · rintro rfl
    obtain ⟨m,⟨o,es,ep,ho,_⟩,_⟩:=I.loc
    rw [n] at ho;cases ho
  · rintro x c hm rfl
    obtain ⟨vo,⟨o,ho,_⟩,_⟩:=I.cel x a (K.cn x a hm)
    rw [n] at ho;cases ho
theorem Inv.step (I:Inv P F l H s) {h':Heap} {t:Nat} (k:∀ b o,s.heap.get? b = some o→¬ Off F H b→h'.get? b = some o):Inv P F l H { s with heap:=h',toks:=t }:=by
  refine ⟨I.gens,I.os,fun b o e=>k b o (I.keep b o e) fun q=>?_,fun b d e=>?_, ?_,fun x c e=>?_,fun a o e=>?_,I.free,I.big⟩
  · rw [q.g] at e;cases e
  · obtain ⟨o,ho,hd⟩:=I.frk b d e
    exact ⟨o,k b o ho fun q=>(by rw [q.fr] at e;cases e),hd⟩
  · obtain ⟨m,⟨o,es,ep,ho,r⟩,q⟩:=I.loc
    exact ⟨m,⟨o,es,ep,k _ _ ho fun q=>q.l rfl,r⟩,q⟩
  · obtain ⟨vo,⟨o,ho,r⟩,q⟩:=I.cel x c e
    exact ⟨vo,⟨o,k _ _ ho fun q=>q.c x c (mem_of_lookup e) rfl,r⟩,q⟩
  · obtain ⟨O,ho⟩:=(I.objs a o e).some
    refine (I.objs a o e).congr ((k _ _ ho fun q=>?_).trans ho.symm)
    rw [q.h] at e;cases e
theorem r_g {a:Addr} {o:AObj} (K:FmOk P F) (h:Fre P F a o) (hr:o.isR = true):∃ O,F.g a = some O:=(r_fre h hr).elim (fun ⟨O,e⟩=>⟨O,K.base _ _ e⟩) fun e=>(K.xg a e).1
theorem Inv.neL (K:FmOk P F) (I:Inv P F l H s) {a:Addr} {o:AObj} (h:H a = some o):a≠F.env.locals:=by
  cases hr:o.isR with
  | false=>exact (of_fre (I.free a o h) hr).2.2.1
  | true =>
    obtain ⟨O,e⟩:=r_g K (I.free a o h) hr
    rintro rfl
    rw [K.lg] at e;cases e
theorem Inv.frN (K:FmOk P F) (I:Inv P F l H s) {a:Addr} {o:AObj} (h:H a = some o):F.fr a = none:=by
  cases hr:o.isR with
  | false=>exact (of_fre (I.free a o h) hr).2.1
  | true =>
    obtain ⟨O,e⟩:=r_g K (I.free a o h) hr
    cases q:F.fr a with
    | none=>rfl
    | some d=>rw [(K.fg a d q).1] at e;cases e
theorem Inv.neC (K:FmOk P F) (I:Inv P F l H s) {a:Addr} {o:AObj} (h:H a = some o) {x:Str} {c:Addr} (hm:(x,c)∈F.env.cells):a≠c:=by
  cases hr:o.isR with
  | false=>exact (of_fre (I.free a o h) hr).2.2.2 x c hm
  | true =>
    rintro rfl
    obtain ⟨vo,⟨oc,ho,hd⟩,_⟩:=I.cel x a (K.cn x a hm)
    have m:=I.objs a o h
    cases o <;> first | (cases hr;done) | skip
    · obtain ⟨vs,⟨ol,hl,_,n,hs⟩,_⟩:=m
      rw [ho] at hl;cases hl
      rw [hd] at hs;cases hs
    · obtain ⟨vs,sl,hl⟩:=m
      rw [ho] at hl;cases hl
      cases hd
end
end Mine
end

section
open PySem PyProof.Rows PySem.Calls
namespace Mine
noncomputable def allNews (base h:Heap) (L:Addr):List (Addr×Obj) :=
  (List.range h.objs.size).filterMap fun a=>if a = L then none else match base.get? a with
    | some _=>none
    | none=>(h.get? a).map fun o=>(a,o)
theorem mem_allNews {base h:Heap} {L a:Addr} {o:Obj} (ho:h.get? a = some o) (hl:a≠L) (hb:base.get? a = none):(a,o)∈allNews base h L:=by
  refine List.mem_filterMap.mpr ⟨a,List.mem_range.mpr (Heap.lt_size ho), ?_⟩
  rw [if_neg hl,hb,ho];rfl
theorem allNews_mem {base h:Heap} {L:Addr} {p:Addr×Obj} (hp:p∈allNews base h L):h.get? p.1 = some p.2∧p.1≠L∧base.get? p.1 = none:=by
  obtain ⟨a,_,e⟩:=List.mem_filterMap.mp hp
  by_cases hl:a = L
  · rw [if_pos hl] at e;cases e
  · rw [if_neg hl] at e
    cases hb:base.get? a with
    | some o=>rw [hb] at e;cases e
    | none =>
      rw [hb] at e
      cases ho:h.get? a with
      | none=>simp [ho] at e
      | some o =>
        simp [ho] at e
        subst e
        exact ⟨ho,hl,hb⟩
theorem news_all (base h:Heap) (L:Addr):News base L h (allNews base h L):=fun _ hp=>allNews_mem hp
section
variable {P:Pm} {F:Fm} {l:Loc} {H:Hp} {s:Shared}
theorem Inv.fr (K:FmOk P F) (I:Inv P F l H s):∃ m,Fr P.base F.env.locals s.heap m∧∀ x v,l x = some v→F.env.kindOf x = some .local→∃ V,m x = some V∧er V = v:=by
  obtain ⟨m,hn,q⟩:=I.loc
  exact ⟨m,⟨hn,fun b o e=>I.keep b o (K.base b o e),K.above⟩,q⟩
theorem kept_all {base h h':Heap} {L:Addr} {m:Str→Option Value} {news:List (Addr×Obj)} (F:Fr base L h' m) (N:News base L h' news) (hsub:∀ p∈allNews base h L,p∈news)
    (hb:base.StaysIn h) {b:Addr} {o:Obj} (e:h.get? b = some o) (hl:b≠L):h'.get? b = some o:=by
  cases q:base.get? b with
  | some o'=>have:=hb b o' q;rw [e] at this;cases this;exact F.keep b o q
  | none=>exact (N _ (hsub _ (mem_allNews e hl q))).1
theorem Inv.stepL (I:Inv P F l H s) {h':Heap} {t:Nat} (k:∀ b o,s.heap.get? b = some o→b≠F.env.locals→¬ Off F H b→h'.get? b = some o)
    {m:Str→Option Value} (hn:h'.Ns F.env.locals m) (K:FmOk P F) {l':Loc}
    (hm:∀ x v,l' x = some v→F.env.kindOf x = some .local→∃ V,m x = some V∧er V = v)
    (hc:∀ x v,l' x = some v→(F.env.kindOf x = some .cell∨F.env.kindOf x = some .free)→l x = some v):Inv P F l' H { s with heap:=h',toks:=t }:=by
  refine ⟨I.gens,I.os,fun b o e=>k b o (I.keep b o e) (fun q=>?_) fun q=>?_,fun b d e=>?_,⟨m,hn,hm⟩,fun x c e=>?_,fun a o e=>?_,I.free,I.big⟩
  · rw [q,K.lg] at e;cases e
  · rw [q.g] at e;cases e
  · obtain ⟨o,ho,hd⟩:=I.frk b d e
    exact ⟨o,k b o ho (fun q=>by rw [q,K.lf] at e;cases e) fun q=>(by rw [q.fr] at e;cases e),hd⟩
  · obtain ⟨vo,⟨o,ho,r⟩,q⟩:=I.cel x c e
    exact ⟨vo,⟨o,k _ _ ho (K.cl x c (mem_of_lookup e)) fun q=>q.c x c (mem_of_lookup e) rfl,r⟩,fun v hv hk=>q v (hc x v hv hk) hk⟩
  · obtain ⟨O,ho⟩:=(I.objs a o e).some
    refine (I.objs a o e).congr ((k _ _ ho (I.neL K e) fun q=>?_).trans ho.symm)
    rw [q.h] at e;cases e
theorem Inv.push (I:Inv P F l H s) (o:Obj):Inv P F l H { s with heap:=s.heap.push o } :=
  I.step (t:=s.toks) fun _ _ e _=>Heap.get?_push_of_some o e
theorem Inv.more (K:FmOk P F) (I:Inv P F l H s) {h':Heap} {t:Nat} {a:Addr} {o:AObj} (n:s.heap.get? a = none) (hz:Bigs P a o) (k:∀ b o,s.heap.get? b = some o→h'.get? b = some o) (m:Mt P h' a o) (hr:o.isR = false:=by rfl) :
    Inv P F l (H.upd a o) { s with heap:=h',toks:=t }:=by
  have I':=I.step (t:=t) (h':=h') fun b o e _=>k b o e
  have of:=I.off K n
  refine ⟨I'.gens,I'.os,I'.keep,I'.frk,I'.loc,I'.cel,fun b o' e=>?_,fun b o' e=>?_,fun b o' e=>?_⟩
  · by_cases q:b = a
    · subst q;rw [Hp.upd_same] at e;cases e;exact m
    · rw [Hp.upd_ne _ _ q] at e;exact I'.objs b o' e
  · by_cases q:b = a
    · subst q;rw [Hp.upd_same] at e;cases e;exact fre_of hr ⟨of.g,of.fr,of.l,of.c⟩
    · rw [Hp.upd_ne _ _ q] at e;exact I.free b o' e
  · by_cases q:b = a
    · subst q;rw [Hp.upd_same] at e;cases e;exact hz
    · rw [Hp.upd_ne _ _ q] at e;exact I.big b o' e
theorem Inv.base_le (K:FmOk P F) (I:Inv P F l H s):P.base.objs.size≤s.heap.objs.size:=by
  obtain ⟨m,hn,_⟩:=I.loc
  exact Nat.le_of_lt (Nat.lt_of_le_of_lt K.above hn.lt)
theorem Inv.alloc (K:FmOk P F) (I:Inv P F l H s) {O:Obj} {o:AObj} {t:Nat} (m:Mt P (s.heap.push O) s.heap.objs.size o) (hr:o.isR = false:=by rfl):Inv P F l (H.upd s.heap.objs.size o) { s with heap:=s.heap.push O,toks:=t } :=
  I.more K (Heap.get?_none_of_le (Nat.le_refl _)) (bigs_of (I.base_le K)) (fun _ _ e=>Heap.get?_push_of_some O e) m hr
theorem Inv.track (I:Inv P F l H s) {a:Addr} {o:AObj} (of:Off F H a) (hz:Bigs P a o) (m:Mt P s.heap a o) (hr:o.isR = false:=by rfl):Inv P F l (H.upd a o) s:=by
  refine ⟨I.gens,I.os,I.keep,I.frk,I.loc,I.cel,fun b o' e=>?_,fun b o' e=>?_,fun b o' e=>?_⟩
  · by_cases q:b = a
    · subst q;rw [Hp.upd_same] at e;cases e;exact m
    · rw [Hp.upd_ne _ _ q] at e;exact I.objs b o' e
  · by_cases q:b = a
    · subst q;rw [Hp.upd_same] at e;cases e;exact fre_of hr ⟨of.g,of.fr,of.l,of.c⟩
    · rw [Hp.upd_ne _ _ q] at e;exact I.free b o' e
  · by_cases q:b = a
    · subst q;rw [Hp.upd_same] at e;cases e;exact hz
    · rw [Hp.upd_ne _ _ q] at e;exact I.big b o' e
theorem Inv.after (K:FmOk P F) (I:Inv P F l H s) {h':Heap} {t:Nat} {m:Str→Option Value} {news:List (Addr×Obj)}
    (hm:∀ x v,l x = some v→F.env.kindOf x = some .local→∃ V,m x = some V∧er V = v) (F':Fr P.base F.env.locals h' m) (N':News P.base F.env.locals h' news)
    (hsub:∀ p∈allNews P.base s.heap F.env.locals,p∈news):Inv P F l H { s with heap:=h',toks:=t } :=
  I.stepL (fun _ _ e hb _=>kept_all F' N' hsub (fun b o e=>I.keep b o (K.base b o e)) e hb) F'.ns K hm fun _ _ h _=>h
theorem Inv.ofSize (K:FmOk P F) (I:Inv P F l H s):Off F H s.heap.objs.size:=I.off K (Heap.get?_none_of_le (Nat.le_refl _))
theorem Inv.put (I:Inv P F l H s) {h':Heap} {t:Nat} {a:Addr} {o o':AObj} (ha:H a = some o) (k:∀ b,b≠a→h'.get? b = s.heap.get? b) (m:Mt P h' a o') (hb:Bigs P a o→Bigs P a o':=by exact id) (hr:o.isR = false:=by rfl) (hr':o'.isR = false:=by rfl) :
    Inv P F l (H.upd a o') { s with heap:=h',toks:=t }:=by
  obtain ⟨fg,ff,fl,fc⟩:=of_fre (I.free a o ha) hr
  refine ⟨I.gens,I.os,fun b O e=>(k b fun q=>?_).trans (I.keep b O e),fun b d e=>?_, ?_,fun x c e=>?_,fun b O e=>?_,fun b O e=>?_,fun b O e=>?_⟩
  · rw [q,fg] at e;cases e
  · obtain ⟨O,ho,hd⟩:=I.frk b d e
    exact ⟨O,(k b fun q=>by rw [q,ff] at e;cases e).trans ho,hd⟩
  · obtain ⟨m',⟨O,es,ep,ho,r⟩,q⟩:=I.loc
    exact ⟨m',⟨O,es,ep,(k _ (Ne.symm fl)).trans ho,r⟩,q⟩
  · obtain ⟨vo,⟨O,ho,r⟩,q⟩:=I.cel x c e
    exact ⟨vo,⟨O,(k _ (Ne.symm (fc x c (mem_of_lookup e)))).trans ho,r⟩,q⟩
  · by_cases q:b = a
    · subst q;rw [Hp.upd_same] at e;cases e;exact m
    · rw [Hp.upd_ne _ _ q] at e;exact (I.objs b O e).congr (k b q)
  · by_cases q:b = a
    · subst q;rw [Hp.upd_same] at e;cases e;exact fre_of hr' ⟨fg,ff,fl,fc⟩
    · rw [Hp.upd_ne _ _ q] at e;exact I.free b O e
  · by_cases q:b = a
    · subst q;rw [Hp.upd_same] at e;cases e;exact hb (I.big _ _ ha)
    · rw [Hp.upd_ne _ _ q] at e;exact I.big b O e
theorem Inv.putL (K:FmOk P F) (I:Inv P F l H s) {h':Heap} {t:Nat} {a:Addr} {o o':AObj} (ha:H a = some o) (k:∀ b O,s.heap.get? b = some O→b≠a→b≠F.env.locals→h'.get? b = some O)
    {m:Str→Option Value} (hn:h'.Ns F.env.locals m) (hm:∀ x v,l x = some v→F.env.kindOf x = some .local→∃ V,m x = some V∧er V = v) (mt:Mt P h' a o') (hb:Bigs P a o→Bigs P a o':=by exact id) (hr:o.isR = false:=by rfl) (hr':o'.isR = false:=by rfl) :
    Inv P F l (H.upd a o') { s with heap:=h',toks:=t }:=by
  obtain ⟨fg,ff,fl,fc⟩:=of_fre (I.free a o ha) hr
  refine ⟨I.gens,I.os,fun b O e=>k b O (I.keep b O e) (fun q=>?_) fun q=>?_,fun b d e=>?_,⟨m,hn,hm⟩,fun x c e=>?_,fun b O e=>?_,fun b O e=>?_,fun b O e=>?_⟩
  · rw [q,fg] at e;cases e
  · rw [q,K.lg] at e;cases e
  · obtain ⟨O,ho,hd⟩:=I.frk b d e
    exact ⟨O,k b O ho (fun q=>by rw [q,ff] at e;cases e) (fun q=>by rw [q,K.lf] at e;cases e),hd⟩
  · obtain ⟨vo,⟨O,ho,r⟩,q⟩:=I.cel x c e
    exact ⟨vo,⟨O,k _ _ ho (Ne.symm (fc x c (mem_of_lookup e))) (K.cl x c (mem_of_lookup e)),r⟩,q⟩
  · by_cases q:b = a
    · subst q;rw [Hp.upd_same] at e;cases e;exact mt
    · rw [Hp.upd_ne _ _ q] at e
      obtain ⟨O',ho⟩:=(I.objs b O e).some
      exact (I.objs b O e).congr ((k b O' ho q (I.neL K e)).trans ho.symm)
  · by_cases q:b = a
    · subst q;rw [Hp.upd_same] at e;cases e;exact fre_of hr' ⟨fg,ff,fl,fc⟩
    · rw [Hp.upd_ne _ _ q] at e;exact I.free b O e
  · by_cases q:b = a
    · subst q;rw [Hp.upd_same] at e;cases e;exact hb (I.big _ _ ha)
    · rw [Hp.upd_ne _ _ q] at e;exact I.big b O e
theorem filterMap_ne {f:Nat→Option (Addr×Obj)} (hf:∀ a p,f a = some p→p.1 = a):∀ xs:List Nat,xs.Pairwise (·≠·)→(xs.filterMap f).Pairwise fun p q=>p.1≠q.1
  | [],_=>.nil
  | x :: xs,h=>by
    obtain ⟨h1,h2⟩:=List.pairwise_cons.mp h
    rw [List.filterMap_cons]
    split
    · exact filterMap_ne hf xs h2
    · rename_i p hp
      refine List.pairwise_cons.mpr ⟨fun q hq e=>?_,filterMap_ne hf xs h2⟩
      obtain ⟨y,hy,e'⟩:=List.mem_filterMap.mp hq
      have e1:p.1 = x:=hf _ _ hp
      have e2:q.1 = y:=hf _ _ e'
      exact h1 y hy (e1.symm.trans (e.trans e2))
theorem allNews_split {base h:Heap} {L a:Addr} {o:Obj} (hm:(a,o)∈allNews base h L):∃ pre post,allNews base h L = pre++(a,o) :: post∧(∀ p∈pre,p.1≠a)∧∀ p∈post,p.1≠a:=by
  obtain ⟨pre,post,e⟩:=List.append_of_mem hm
  have hp:(allNews base h L).Pairwise fun p q=>p.1≠q.1:=by
    refine filterMap_ne (fun b p hb=>?_) _ (List.Pairwise.imp (fun h=>Nat.ne_of_lt h) List.pairwise_lt_range)
    by_cases e:b = L
    · rw [if_pos e] at hb;cases hb
    · rw [if_neg e] at hb
      cases q:base.get? b with
      | some o=>rw [q] at hb;cases hb
      | none =>
        rw [q] at hb
        obtain ⟨o,_,rfl⟩:=Option.map_eq_some_iff.mp hb
        rfl
  rw [e] at hp
  obtain ⟨_,h2,h3⟩:=List.pairwise_append.mp hp
  exact ⟨pre,post,e,fun p hp=>h3 p hp (a,o) (.head _),fun p hp=>((List.pairwise_cons.mp h2).1 p hp).symm⟩
end
section
variable {P:Pm} {F:Fm} {l:Loc} {H:Hp} {s:Shared} {E:Value→Shared→Prop}
noncomputable def Own (env:Env) (x:Str):Prop:=env.kindOf x = some .local∨((env.kindOf x = some .cell∨env.kindOf x = some .free)∧∃ c,env.cells.lookup x = some c)
theorem ld_loc (K:FmOk P F) (I:Inv P F l H s) {x:Str} {pos:Pos} {v:Value} {Q:Value→Shared→Prop} (hv:l x = some v) (ho:Own F.env x) (hd:(x == ("__debug__" : Str)) = false) (hcd:(x == ("__classdict__" : Str)) = false)
    (h:∀ V,er V = v→Q V s):wpAny P.M F.A (eval (.Name x pos) F.env) Q E s:=by
  refine wpAny_Name ?_ hd
  rcases ho with hl | ⟨hk,c,hc⟩
  · obtain ⟨m,hn,q⟩:=I.loc
    obtain ⟨V,hV,e⟩:=q x v hv hl
    exact wpAny_loadName_local K.kind hl hn hV (h V e)
  · obtain ⟨vo,hi,q⟩:=I.cel x c hc
    obtain ⟨V,rfl,e⟩:=q v hv hk
    rcases hk with hk | hk
    · exact wpAny_loadName_cell K.kind hk hc hi (h V e)
    · exact wpAny_loadName_free K.kind hk hc hi (h V e) hcd
theorem ld_glob (Y:PmOk P) (K:FmOk P F) (I:Inv P F l H s) {x:Str} {pos:Pos} {v:Value} {Q:Value→Shared→Prop} (hv:P.mg x = some v∨(P.mg x = none∧P.mb x = some v)) (hk:F.env.kindOf x = some .globalImplicit) (hd:(x == ("__debug__" : Str)) = false)
    (h:Q v s):wpAny P.M F.A (eval (.Name x pos) F.env) Q E s:=by
  have k:∀ b o,P.base.get? b = some o→s.heap.get? b = some o:=fun b o e=>I.keep b o (K.base b o e)
  refine Calls.Name_function_global K.kind hk ?_ hd
  rcases hv with hv | ⟨h1,h2⟩
  · exact Calls.loadGlobal_global (by rw [K.glob];exact Y.g.keeps k) hv h
  · exact Calls.loadGlobal_builtin (by rw [K.glob];exact Y.g.keeps k) h1 (by rw [K.blt];exact Y.b.keeps k) h2 h
theorem st_loc (K:FmOk P F) (I:Inv P F l H s) (hro:F.ro = false) {x:Str} {V:Value} {Q:Unit→Shared→Prop} (ho:F.env.kindOf x = some .local∨(F.env.kindOf x = some .cell∧∃ c,F.env.cells.lookup x = some c))
    (h:∀ s',Inv P F (l.upd x (er V)) H s'→Q () s'):wpAny P.M F.A (storeName F.env x V) Q E s:=by
  rcases ho with hl | ⟨hk,c,hc⟩
  · obtain ⟨m,hn,q⟩:=I.loc
    refine wpAny_storeName_local hl hn (fun h' hn' hs=>h _ (I.stepL (t:=s.toks + 1) (fun b o e hb _=>hs.extBut b o hb e) hn' K (fun y v hy hky=>?_) fun y v hy hky=>?_)) (by rw [K.kind];rfl)
    · by_cases e:y = x
      · subst e;simp [Loc.upd] at hy;subst hy;exact ⟨V,by simp,rfl⟩
      · simp [Loc.upd,e] at hy;simp [e];exact q y v hy hky
    · by_cases e:y = x
      · subst e;rw [hl] at hky;simp at hky
      · simpa [Loc.upd,e] using hy
  · obtain ⟨vo,hi,q⟩:=I.cel x c hc
    have hm:=mem_of_lookup hc
    refine wpAny_storeName_cell K.kind hk hc hi fun h' hi' hs=>h _ ?_
    have other:∀ b o,s.heap.get? b = some o→b≠c→h'.get? b = some o:=fun b o e hb=>(hs.2 b hb).trans e
    have g1:=(K.cg hro x c hm)
    refine ⟨I.gens,I.os,fun b o e=>other b o (I.keep b o e) fun z=>?_,fun b d e=>?_, ?_,fun y c' e=>?_,fun a o e=>?_,I.free,I.big⟩
    · rw [z,g1.1] at e;cases e
    · obtain ⟨o,ho,hd⟩:=I.frk b d e
      exact ⟨o,other b o ho (fun z=>by rw [z,g1.2] at e;cases e),hd⟩
    · obtain ⟨m,⟨o,es,ep,ho,r⟩,q⟩:=I.loc
      refine ⟨m,⟨o,es,ep,other _ _ ho (Ne.symm (K.cl x c hm)),r⟩,fun y v hy hky=>q y v ?_ hky⟩
      by_cases z:y = x
      · subst z;rw [hk] at hky;cases hky
      · simpa [Loc.upd,z] using hy
    · by_cases z:y = x
      · subst z
        rw [hc] at e;cases e
        exact ⟨some V,hi',fun v hv _=>⟨V,rfl,by simpa [Loc.upd] using hv⟩⟩
      · obtain ⟨vo',⟨o,ho,r⟩,q'⟩:=I.cel y c' e
        refine ⟨vo',⟨o,other _ _ ho fun w=>z ?_,r⟩,fun v hv hky=>q' v (by simpa [Loc.upd,z] using hv) hky⟩
        exact name_of_addr K.apart (mem_of_lookup e) (w ▸ hm)
    · obtain ⟨O,ho⟩:=(I.objs a o e).some
      exact (I.objs a o e).congr ((other a O ho (I.neC K e hm)).trans ho.symm)
end
end Mine
end

section
open PySem PyProof.Rows PySem.Calls
namespace Mine
structure Gx where
  glob:Str→Option Value
  fn:Addr→Bool→List Value→Hp→QV→XV→Prop
  meth:Addr→Str→Option Addr
  init:Addr→Option Addr
  isExc:Addr→Bool
  sub:Addr→Addr→Bool
  fld:Addr→Str→Bool
noncomputable def at? {α:Type} (xs:List α) (k:Int):Option α :=
  if 0≤k then xs[k.toNat]? else if -(xs.length:Int)≤k then xs[(k + xs.length).toNat]? else none
noncomputable def cutAt (n:Nat) (i:Int):Nat:=if i < 0 then (i + n).toNat else min i.toNat n
noncomputable def hiAt (n:Nat):Option Int→Nat
  | none=>n
  | some i=>cutAt n i
noncomputable def loAt (n:Nat):Option Int→Nat
  | none=>0
  | some i=>cutAt n i
noncomputable def pySlice {α:Type} (xs:List α) (lo hi:Option Int):List α:=(xs.take (hiAt xs.length hi)).drop (loAt xs.length lo)
mutual
inductive Rd (H:Hp):Value→PyData→Prop where
  | none:Rd H .none .none
  | bool (b:Bool):Rd H (.bool b) (.bool b)
  | int (i:Int) (t:Tok):Rd H (.int i t) (.int i)
  | str (x:Str) (t:Tok):Rd H (.str x t) (.str x)
  | list {a:Addr} {xs:List Value} {ds:List PyData}:H a = some (.list xs)→RdAll H xs ds→Rd H (.ref a) (.list ds)
  | tup {a:Addr} {xs:List Value} {ds:List PyData}:H a = some (.tup xs)→RdAll H xs ds→Rd H (.ref a) (.tuple ds)
  | rlist {a:Addr} {xs:List Value} {ds:List PyData}:H a = some (.rlist xs)→RdAll H xs ds→Rd H (.ref a) (.list ds)
inductive RdAll (H:Hp):List Value→List PyData→Prop where
  | nil:RdAll H [] []
  | cons {v:Value} {vs:List Value} {d:PyData} {ds:List PyData}:Rd H v d→RdAll H vs ds→RdAll H (v :: vs) (d :: ds)
end
noncomputable def newV (o:AObj) (H:Hp) (Q:QV):Prop:=∀ c,H c = none→Q (.ref c) (H.upd c o)
noncomputable def chr1 (c:Nat):Str:=⟨#[c]⟩
noncomputable def onSome {α:Type} (o:Option α) (k:α→Prop):Prop:=match o with | some v=>k v | none=>False
noncomputable def onInt (v:Value) (k:Int→Prop):Prop:=match v with | .int i _=>k i | _=>False
noncomputable def onStr (v:Value) (k:Str→Prop):Prop:=match v with | .str x _=>k x | _=>False
noncomputable def onRef (v:Value) (k:Addr→Prop):Prop:=match v with | .ref a=>k a | _=>False
noncomputable def onBool (v:Value) (k:Bool→Prop):Prop:=match v with | .bool b=>k b | _=>False
noncomputable def on1 (xs:List Value) (k:Value→Prop):Prop:=match xs with | v :: r=>(match r with | []=>k v | _ :: _=>False) | []=>False
noncomputable def on2 (xs:List Value) (k:Value→Value→Prop):Prop:=match xs with | v :: r=>on1 r (k v) | []=>False
theorem onInt_elim {V v:Value} {k:Int→Prop} (e:er V = v) (h:onInt v k):∃ i t,V = .int i t∧k i:=by
  subst e;cases V <;> first | exact h.elim | exact ⟨_,_,rfl,h⟩
theorem onStr_elim {V v:Value} {k:Str→Prop} (e:er V = v) (h:onStr v k):∃ i t,V = .str i t∧k i:=by
  subst e;cases V <;> first | exact h.elim | exact ⟨_,_,rfl,h⟩
theorem onRef_elim {V v:Value} {k:Addr→Prop} (e:er V = v) (h:onRef v k):∃ a,V = .ref a∧k a:=by
  subst e;cases V <;> first | exact h.elim | exact ⟨_,rfl,h⟩
theorem onBool_elim {V v:Value} {k:Bool→Prop} (e:er V = v) (h:onBool v k):∃ a,V = .bool a∧k a:=by
  subst e;cases V <;> first | exact h.elim | exact ⟨_,rfl,h⟩
theorem on1_elim {Vs:List Value} {k:Value→Prop} (h:on1 (Vs.map er) k):∃ V,Vs = [V]∧k (er V):=by
  cases Vs with
  | nil=>exact h.elim
  | cons V r=>cases r with
    | nil=>exact ⟨V,rfl,h⟩
    | cons _ _=>exact h.elim
theorem on2_elim {Vs:List Value} {k:Value→Value→Prop} (h:on2 (Vs.map er) k):∃ V W,Vs = [V,W]∧k (er V) (er W):=by
  cases Vs with
  | nil=>exact h.elim
  | cons V r =>
    obtain ⟨W,rfl,h⟩:=on1_elim (Vs:=r) (k:=k (er V)) h
    exact ⟨V,W,rfl,h⟩
noncomputable def on0 (xs:List Value) (k:Prop):Prop:=match xs with | []=>k | _ :: _=>False
theorem on0_elim {Vs:List Value} {k:Prop} (h:on0 (Vs.map er) k):Vs = []∧k:=by
  cases Vs with
  | nil=>exact ⟨rfl,h⟩
  | cons _ _=>exact h.elim
noncomputable def addR (a b:Addr) (H:Hp) (Q:QV):Prop:=match H a with
  | some (.list xs)=>(match H b with | some (.list ys)=>xs.length + ys.length≤sizeLine∧newV (.list (xs++ys)) H Q | _=>False)
  | _=>False
noncomputable def addV (a b:Value) (H:Hp) (Q:QV):Prop:=match a with
  | .int x _=>onInt b fun y=>Q (.int (x + y) 0) H
  | .str x _=>onStr b fun y=>x.length + y.length≤sizeLine∧Q (.str (x++y) 0) H
  | .ref a=>onRef b fun b=>addR a b H Q
  | _=>False
noncomputable def multV (a b:Value) (H:Hp) (Q:QV):Prop:=match a with
  | .int x _=>onInt b fun y=>(x.natAbs < 2 ^ 63∨y.natAbs < 2 ^ 63)∧Q (.int (x * y) 0) H
  | .str x _=>onInt b fun n=>x.length≤1000∧n≤1000∧-1000≤n∧Q (.str (Txt.mul x n) 0) H
  | .ref a=>onInt b fun n=>(match H a with
    | some (.list xs)=>n≤1000∧-1000≤n∧xs.length≤1000∧newV (.list (List.replicate n.toNat xs).flatten) H Q
    | _=>False)
  | _=>False
noncomputable def binV (op:Operator) (a b:Value) (H:Hp) (Q:QV):Prop :=
  match op with
  | .Add=>addV a b H Q
  | .Sub=>onInt a fun x=>onInt b fun y=>Q (.int (x - y) 0) H
  | .Mult=>multV a b H Q
  | .FloorDiv=>onInt a fun x=>onInt b fun y=>0 < y∧y < 2 ^ 63∧Q (.int (x / y) 0) H
  | .Mod=>onInt a fun x=>onInt b fun y=>0 < y∧Q (.int (x % y) 0) H
  | .Pow=>onInt a fun x=>onInt b fun y=>0≤y∧y≤100∧x.natAbs < 2 ^ 63∧Q (.int (x ^ y.toNat) 0) H
  | _=>False
noncomputable def eqV (a b:Value) (H:Hp) (k:Bool→Prop):Prop :=
  match a,b with
  | .int x _, .int y _=>k (decide (x = y))
  | .str x _, .str y _=>k (decide (x = y))
  | .none, .str _ _=>k false
  | a,b=>∃ da db,Rd H a da∧Rd H b db∧SeqAt.shaped da = true∧SeqAt.shaped db = true∧k (PyData.eqv da db)
noncomputable def inV (a b:Value) (H:Hp) (k:Bool→Prop):Prop :=
  match a,b with
  | .str x _, .str y _=>k (Txt.contains y x)
  | .int i _, .ref d=>match H d with
    | some (.idict kvs)=>k (valueAt kvs i).isSome
    | some (.list xs)=>∃ ns:List Int,xs = ns.map (fun n=>Value.int n 0)∧k (decide (i∈ns))
    | _=>False
  | _,_=>False
noncomputable def cmpV (op:CmpOp) (a b:Value) (H:Hp) (Q:QV):Prop :=
  match op with
  | .Eq=>eqV a b H fun r=>Q (.bool r) H
  | .NotEq=>eqV a b H fun r=>Q (.bool (!r)) H
  | .In=>inV a b H fun r=>Q (.bool r) H
  | .NotIn=>inV a b H fun r=>Q (.bool (!r)) H
  | .Is=>match b with
    | .none=>(match a with | .none=>Q (.bool true) H | .builtin _=>False | _=>Q (.bool false) H)
    | _=>False
  | .IsNot=>match b with
    | .none=>(match a with | .none=>Q (.bool false) H | .builtin _=>False | _=>Q (.bool true) H)
    | _=>False
  | .Lt=>match a,b with
    | .int x _, .int y _=>Q (.bool (decide (x < y))) H
    | .str x _, .str y _=>Q (.bool (decide (x.cps.toList < y.cps.toList))) H
    | _,_=>False
  | .Gt=>match a,b with
    | .int x _, .int y _=>Q (.bool (decide (y < x))) H
    | .str x _, .str y _=>Q (.bool (decide (y.cps.toList < x.cps.toList))) H
    | _,_=>False
  | .LtE=>match a,b with
    | .int x _, .int y _=>Q (.bool (decide (x≤y))) H
    | _,_=>False
  | .GtE=>match a,b with
    | .int x _, .int y _=>Q (.bool (decide (y≤x))) H
    | _,_=>False
noncomputable def idxV (o i:Value) (H:Hp) (Q:QV):Prop :=
  match o,i with
  | .ref a, .int k _=>match H a with
    | some (.list xs)=>(match at? xs k with | some v=>Q v H | none=>False)
    | some (.rlist xs)=>(match at? xs k with | some v=>Q v H | none=>False)
    | some (.tup xs)=>(match at? xs k with | some v=>Q v H | none=>False)
    | some (.idict kvs)=>(match valueAt kvs k with | some v=>Q v H | none=>False)
    | _=>False
  | .str x _, .int k _=>(match at? x.cps.toList k with | some c=>x.length≤sizeLine∧Q (.str (chr1 c) 0) H | none=>False)
  | _,_=>False
noncomputable def partOf (v:Value):Option (Option Int) :=
  match v with
  | .none=>some none
  | .int i _=>some (some i)
  | _=>none
noncomputable def sliceV (o lo hi:Value) (H:Hp) (Q:QV):Prop :=
  match partOf lo,partOf hi with
  | some l,some h=>match o with
    | .ref a=>(match H a with
      | some (.list xs)=>xs.length≤sizeLine∧newV (.list (pySlice xs l h)) H Q
      | _=>False)
    | .str x _=>x.length≤sizeLine∧Q (.str ⟨(pySlice x.cps.toList l h).toArray⟩ 0) H
    | _=>False
  | _,_=>False
noncomputable def attrV (G:Gx) (o:Value) (a:Str) (H:Hp) (Q:QV):Prop :=
  match o with
  | .ref x=>match H x with
    | some (.inst C d)=>(match H d with
      | some (.ns kvs)=>G.fld C a = true∧(match valueAt kvs a with | some (.builtin _)=>False | some v=>Q v H | none=>False)
      | _=>False)
    | _=>False
  | _=>False
noncomputable def truthV (v:Value) (k:Bool→Prop):Prop:=match v with | .bool b=>k b | _=>False
noncomputable def lenV (v:Value) (H:Hp) (Q:QV):Prop :=
  match v with
  | .str x _=>x.length≤sizeLine∧Q (.int x.length 0) H
  | .ref a=>match H a with
    | some (.list xs)=>Q (.int xs.length 0) H
    | some (.rlist xs)=>Q (.int xs.length 0) H
    | some (.tup xs)=>Q (.int xs.length 0) H
    | _=>False
  | _=>False
noncomputable def Ty.blt:Ty→Bool
  | .str | .int | .bool | .list | .tuple | .listOrTuple=>true
  | _=>false
noncomputable def isiV (G:Gx) (v:Value) (t:Ty) (H:Hp) (Q:QV):Prop :=
  match v with
  | .none=>t.blt = true∧Q (.bool false) H
  | .bool _=>t.blt = true∧Q (.bool (t == .bool || t == .int)) H
  | .int _ _=>t.blt = true∧Q (.bool (t == .int)) H
  | .str _ _=>t.blt = true∧Q (.bool (t == .str)) H
  | .ref a=>match H a with
    | some (.list _)=>t.blt = true∧Q (.bool (t == .list || t == .listOrTuple)) H
    | some (.tup _)=>t.blt = true∧Q (.bool (t == .tuple || t == .listOrTuple)) H
    | some (.idict _)=>t.blt = true∧Q (.bool false) H
    | some (.sdict _)=>t.blt = true∧Q (.bool false) H
    | some (.exc C)=>G.isExc C = true∧(match t with
      | .valueError=>Q (.bool true) H
      | .cls x=>(match G.glob x with | some (.ref D)=>G.isExc D = true∧Q (.bool (G.sub C D)) H | _=>False)
      | _=>False)
    | _=>False
  | _=>False
noncomputable def rangeL (lo hi st:Int):List Value :=
  (List.range (Builtin.Range.rangeSize lo hi st).toNat).map fun (k:Nat)=>.int (lo + (k:Int) * st) 0
noncomputable def iterV (v:Value) (H:Hp) (k:(Hp→Prop)→List Value→Prop):Prop :=
  match v with
  | .str x _=>k (fun _=>True) (x.cps.toList.map fun c=>.str (chr1 c) 0)
  | .ref a=>match H a with
    | some (.list xs)=>k (fun H'=>H' a = some (.list xs)) xs
    | some (.tup xs)=>k (fun H'=>H' a = some (.tup xs)) xs
    | some (.range lo hi st)=>Builtin.Range.small lo hi st = true∧k (fun _=>True) (rangeL lo hi st)
    | _=>False
  | _=>False
noncomputable def seqV (v:Value) (H:Hp) (k:List Value→Prop):Prop :=
  match v with
  | .ref a=>match H a with
    | some (.list xs)=>k xs
    | some (.tup xs)=>k xs
    | some (.range lo hi st)=>Builtin.Range.small lo hi st = true∧k (rangeL lo hi st)
    | _=>False
  | _=>False
noncomputable def rangeV (args:List Value) (H:Hp) (Q:QV):Prop :=
  match args with
  | [.int hi _]=>hi < 2 ^ 60∧-(2 ^ 60) < hi∧newV (.range 0 hi 1) H Q
  | [.int lo _, .int hi _]=>hi < 2 ^ 60∧-(2 ^ 60) < hi∧lo < 2 ^ 60∧-(2 ^ 60) < lo∧newV (.range lo hi 1) H Q
  | [.int lo _, .int hi _, .int st _]=>st≠0∧-1000 < st∧st < 1000∧hi < 2 ^ 60∧-(2 ^ 60) < hi∧lo < 2 ^ 60∧-(2 ^ 60) < lo∧newV (.range lo hi st) H Q
  | _=>False
noncomputable def sortedV (v:Value) (H:Hp) (Q:QV):Prop :=
  match v with
  | .ref a=>match H a with
    | some (.idict kvs)=>kvs.length < 64∧∀ ms:List Int,ms.Perm (kvs.map (·.1))→ms.Pairwise (·≤·)→newV (.list (ms.map fun n=>Value.int n 0)) H Q
    | _=>False
  | _=>False
noncomputable def strsOf:List Value→Option (List Str)
  | []=>some []
  | .str x _ :: r=>(strsOf r).map (x :: ·)
  | _ :: _=>none
noncomputable def bfV (f:Bf) (args:List Value) (H:Hp) (Q:QV):Prop :=
  match f with
  | .len=>on1 args fun v=>lenV v H Q
  | .list=>on1 args fun v=>seqV v H fun xs=>xs.length≤sizeLine∧newV (.list xs) H Q
  | .sorted=>on1 args fun v=>sortedV v H Q
  | .int=>on1 args fun v=>onBool v fun b=>Q (.int (if b then 1 else 0) 0) H
  | .all=>on1 args fun v=>onRef v fun a=>(match H a with
    | some (.list xs)=>∃ bs:List Bool,xs = bs.map Value.bool∧Q (.bool (bs.all id)) H
    | _=>False)
  | .max2=>on2 args fun v w=>onInt v fun x=>onInt w fun y=>Q (.int (max x y) 0) H
  | .range=>rangeV args H Q
  | .sortedKey0=>on1 args fun v=>onRef v fun a=>(match H a with
    | some (.list xs)=>xs = []∧(∃ T,H T = some .tab)∧newV (.list []) H Q
    | _=>False)
  | _=>False
inductive Bk where
  | list | dict | str
noncomputable def bmV (b:Bk) (m:Bm) (o:Value) (args:List Value) (H:Hp) (Q:QV):Prop :=
  match b with
  | .list=>(match m with
    | .append=>onRef o fun a=>on1 args fun v=>(match H a with
      | some (.list xs)=>xs.length≤sizeLine∧Q .none (H.upd a (.list (xs++[v])))
      | _=>False)
    | .pop=>onRef o fun a=>on0 args (match H a with
      | some (.list xs)=>xs.length≤sizeLine∧(match xs.getLast? with | some v=>Q v (H.upd a (.list xs.dropLast)) | none=>False)
      | _=>False)
    | _=>False)
  | .dict=>(match m with
    | .pop=>onRef o fun a=>on1 args fun v=>onInt v fun k=>(match H a with
      | some (.idict kvs)=>kvs.length≤sizeLine∧(match valueAt kvs k with | some v=>Q v (H.upd a (.idict (PySem.without kvs k))) | none=>False)
      | _=>False)
    | _=>False)
  | .str=>(match m with
    | .join=>onStr o fun x=>on1 args fun v=>onRef v fun a=>(match H a with
      | some (.list xs)=>(match strsOf xs with
        | some ss=>JoinOk x ss = true∧Q (.str (Txt.join x ss) 0) H
        | none=>False)
      | _=>False)
    | _=>False)
noncomputable def callV (G:Gx) (hm:Bool) (f:Value) (args:List Value) (H:Hp) (Q:QV) (X:XV):Prop :=
  match f with
  | .ref a=>match G.init a with
    | some fi=>∀ d x,H d = none→H x = none→d≠x→G.fn fi hm (.ref x :: args) ((H.upd d (.ns [])).upd x (.inst a d)) (fun r H'=>r = .none∧Q (.ref x) H') X
    | none=>G.fn a hm args H Q X
  | _=>False
noncomputable def methV (G:Gx) (o:Value) (m:Str) (H:Hp) (k:Addr→Prop):Prop :=
  match o with
  | .ref x=>match H x with
    | some (.inst C d)=>(match H d,G.meth C m with
      | some (.ns kvs),some f=>valueAt kvs m = none∧k f
      | _,_=>False)
    | _=>False
  | _=>False
noncomputable def bmOn (m:Bm) (v:Value) (H:Hp) (k:Bk→Prop):Prop :=
  match v with
  | .str _ _=>m = .join∧k .str
  | .ref a=>(match H a with
    | some (.list _)=>(m = .append∨m = .pop)∧k .list
    | some (.idict _)=>m = .pop∧k .dict
    | _=>False)
  | _=>False
noncomputable def compG (guard:Hp→Prop) (step:Value→Hp→(Option Value→Hp→Prop)→Prop):List Value→List Value→Hp→(List Value→Hp→Prop)→Prop
  | [],acc,H,k=>guard H∧k acc H
  | v :: vs,acc,H,k=>guard H∧step v H fun r H'=>compG guard step vs (match r with | some u=>acc++[u] | none=>acc) H' k
noncomputable def dictV:List Value→List Value→Hp→QV→Prop:=fun ks vs H Q =>
  (ks = []∧vs = []∧newV (.idict []) H Q) ∨
  (∃ ss:List Str,ks = ss.map (fun x=>Value.str x 0)∧ss.Nodup∧ss.length = vs.length∧ss.length≤15∧ss≠[]∧newV (.sdict (ss.zip vs)) H Q)
noncomputable def iterH (hm:Bool) (v:Value) (H:Hp) (k:(Hp→Prop)→List Value→Prop):Prop :=
  (hm = false∧iterV v H k)∨(hm = true∧∃ a,v = .ref a∧H a = some (.list [])∧k (fun H=>H a = some (.list [])) [])
noncomputable def bfH (hm:Bool) (f:Bf) (vs:List Value) (H:Hp):Prop:=(f = .len∨f = .int)∨hm = false∨(f = .list∧∃ a xs,vs = [.ref a]∧H a = some (.list xs))∨(f = .all∧∃ a,vs = [.ref a]∧H a = some (.list []))
mutual
noncomputable def wpE (G:Gx) (hm:Bool):Ex→Loc→Hp→QV→XV→Prop
  | .none,_,H,Q,_=>Q .none H
  | .bool b,_,H,Q,_=>Q (.bool b) H
  | .int i,_,H,Q,_=>Q (.int i 0) H
  | .str x,_,H,Q,_=>Q (.str x 0) H
  | .loc x,l,H,Q,_=>onSome (l x) fun v=>Q v H
  | .glob x,_,H,Q,_=>onSome (G.glob x) fun v=>Q v H
  | .attr o a,l,H,Q,X=>wpE G hm o l H (fun v H1=>attrV G v a H1 Q) X
  | .bin op x y,l,H,Q,X=>wpE G hm x l H (fun a H1=>wpE G hm y l H1 (fun b H2=>binV op a b H2 Q) X) X
  | .neg x,l,H,Q,X=>wpE G hm x l H (fun a H1=>match a with | .int i _=>Q (.int (-i) 0) H1 | _=>False) X
  | .not x,l,H,Q,X=>wpE G hm x l H (fun a H1=>truthV a fun b=>Q (.bool (!b)) H1) X
  | .bop a es,l,H,Q,X=>wpB G hm a es l H Q X
  | .cmp x op y,l,H,Q,X=>wpE G hm x l H (fun a H1=>wpE G hm y l H1 (fun b H2=>cmpV op a b H2 Q) X) X
  | .cmp2 x op y op2 z,l,H,Q,X=>wpE G hm x l H (fun a H1=>wpE G hm y l H1 (fun b H2=>cmpV op a b H2 fun c H3=>truthV c fun r =>
      if r then wpE G hm z l H3 (fun d H4=>cmpV op2 b d H4 Q) X else Q (.bool false) H3) X) X
  | .isi e t,l,H,Q,X=>wpE G hm e l H (fun v H1=>isiV G v t H1 Q) X
  | .bf f args,l,H,Q,X=>wpEs G hm args l H (fun vs H1=>bfH hm f vs H1∧bfV f vs H1 Q) X
  | .bm m o args,l,H,Q,X=>wpE G hm o l H (fun v H1=>bmOn m v H1 fun b=>wpEs G hm args l H1 (fun vs H2=>bmV b m v vs H2 Q) X) X
  | .call f args,l,H,Q,X=>wpE G hm f l H (fun v H1=>wpEs G hm args l H1 (fun vs H2=>callV G hm v vs H2 Q X) X) X
  | .meth o m args,l,H,Q,X=>wpE G hm o l H (fun v H1=>methV G v m H1 fun f=>wpEs G hm args l H1 (fun vs H2=>G.fn f hm (v :: vs) H2 Q X) X) X
  | .idx o i,l,H,Q,X=>wpE G hm o l H (fun v H1=>wpE G hm i l H1 (fun k H2=>idxV v k H2 Q) X) X
  | .slice o lo hi,l,H,Q,X=>wpE G hm o l H (fun v H1=>wpO G hm lo l H1 (fun a H2=>wpO G hm hi l H2 (fun b H3=>sliceV v a b H3 Q) X) X) X
  | .list es,l,H,Q,X=>wpEs G hm es l H (fun vs H1=>vs.length≤sizeLine∧newV (.list vs) H1 Q) X
  | .tup es,l,H,Q,X=>wpEs G hm es l H (fun vs H1=>vs.length≤sizeLine∧newV (.tup vs) H1 Q) X
  | .dict ks vs,l,H,Q,X=>wpEs G hm ks l H (fun a H1=>wpEs G hm vs l H1 (fun b H2=>dictV a b H2 Q) X) X
  | .comp elt x src ifs,l,H,Q,X=>wpE G hm src l H (fun v H1=>iterH hm v H1 fun guard items=>items.length≤sizeLine ∧
      compG guard (fun v H2 k=>wpB G hm true ifs ((l.del ".0").upd x v) H2 (fun c H3=>truthV c fun r =>
        if r then wpE G hm elt ((l.del ".0").upd x v) H3 (fun u H4=>k (some u) H4) (fun _ _=>False) else k none H3) (fun _ _=>False)) items [] H1
        fun us H'=>newV (.list us) H' Q) X
noncomputable def wpEs (G:Gx) (hm:Bool):List Ex→Loc→Hp→(List Value→Hp→Prop)→XV→Prop
  | [],_,H,Q,_=>Q [] H
  | e :: es,l,H,Q,X=>wpE G hm e l H (fun v H1=>wpEs G hm es l H1 (fun vs H2=>Q (v :: vs) H2) X) X
noncomputable def wpO (G:Gx) (hm:Bool):Option Ex→Loc→Hp→QV→XV→Prop
  | none,_,H,Q,_=>Q .none H
  | some e,l,H,Q,X=>wpE G hm e l H Q X
noncomputable def wpB (G:Gx) (hm:Bool) (isAnd:Bool):List Ex→Loc→Hp→QV→XV→Prop
  | [],_,H,Q,_=>Q (.bool isAnd) H
  | e :: es,l,H,Q,X=>wpE G hm e l H (fun v H1=>truthV v fun b=>if b = isAnd then (match es with | []=>Q (.bool b) H1 | _=>wpB G hm isAnd es l H1 Q X) else Q (.bool b) H1) X
end
noncomputable def setAttrV (G:Gx) (o:Value) (a:Str) (v:Value) (H:Hp) (k:Hp→Prop):Prop :=
  match o with
  | .ref x=>match H x with
    | some (.inst C d)=>(match H d with
      | some (.ns kvs)=>G.fld C a = true∧kvs.length≤100∧k (H.upd d (.ns (stored kvs a v)))
      | _=>False)
    | _=>False
  | _=>False
noncomputable def setItemV (o i v:Value) (H:Hp) (k:Hp→Prop):Prop :=
  match o,i with
  | .ref a, .int n _=>match H a with
    | some (.idict kvs)=>kvs.length≤sizeLine∧k (H.upd a (.idict (stored kvs n v)))
    | _=>False
  | _,_=>False
inductive Fl where
  | next | cont
  | ret (v:Value)
noncomputable abbrev QS:=Fl→Loc→Hp→Prop
noncomputable abbrev XS:=Addr→Loc→Hp→Prop
noncomputable def forG (guard:Hp→Prop) (x:Str) (body:Loc→Hp→QS→Prop):List Value→Loc→Hp→QS→Prop
  | [],l,H,Q=>guard H∧Q .next l H
  | v :: vs,l,H,Q=>guard H∧body (l.upd x v) H fun f l' H'=>match f with
    | .next | .cont=>forG guard x body vs l' H' Q
    | .ret r=>Q (.ret r) l' H'
noncomputable def whileN (test:Loc→Hp→(Bool→Hp→Prop)→Prop) (body:Loc→Hp→QS→Prop) (Q:QS):Nat→Loc→Hp→Prop
  | 0,_,_=>False
  | n + 1,l,H=>test l H fun b H1=>if b then body l H1 (fun f l' H'=>match f with
      | .next | .cont=>whileN test body Q n l' H'
      | .ret r=>Q (.ret r) l' H') else Q .next l H1
mutual
noncomputable def wpS (G:Gx) (hm:Bool):Sm→Loc→Hp→QS→XS→Prop
  | .expr e,l,H,Q,X=>wpE G hm e l H (fun _ H'=>Q .next l H') (fun C H'=>X C l H')
  | .asg x e,l,H,Q,X=>wpE G hm e l H (fun v H'=>Q .next (l.upd x v) H') (fun C H'=>X C l H')
  | .asgAttr o a e,l,H,Q,X=>wpE G hm e l H (fun v H1=>wpE G hm o l H1 (fun ov H2=>setAttrV G ov a v H2 fun H'=>Q .next l H') (fun C H'=>X C l H')) (fun C H'=>X C l H')
  | .asgIdx o i e,l,H,Q,X=>wpE G hm e l H (fun v H1=>wpE G hm o l H1 (fun ov H2=>wpE G hm i l H2 (fun iv H3=>setItemV ov iv v H3 fun H'=>Q .next l H') (fun C H'=>X C l H')) (fun C H'=>X C l H')) (fun C H'=>X C l H')
  | .ite c t f,l,H,Q,X=>wpE G hm c l H (fun v H1=>truthV v fun b=>if b then wpSs G hm t l H1 Q X else wpSs G hm f l H1 Q X) (fun C H'=>X C l H')
  | .for_ x src body,l,H,Q,X=>wpE G hm src l H (fun v H1=>iterH hm v H1 fun guard items=>forG guard x (fun l' H' K=>wpSs G hm body l' H' K X) items l H1 Q) (fun C H'=>X C l H')
  | .while_ c body,l,H,Q,X=>∃ n,whileN (fun l' H' K=>wpE G hm c l' H' (fun v H1=>truthV v fun b=>K b H1) (fun C H'=>X C l' H')) (fun l' H' K=>wpSs G hm body l' H' K X) Q n l H
  | .ret e,l,H,Q,X=>wpE G hm e l H (fun v H'=>Q (.ret v) l H') (fun C H'=>X C l H')
  | .raise c,l,H,_,X=>hm = false∧(match G.glob c with | some (.ref C)=>G.isExc C = true∧X C l H | _=>False)
  | .try_ body hs,l,H,Q,X=>wpSs G hm body l H Q fun C l' H'=>hm = false∧G.isExc C = true∧wpH G hs C l' H' Q X
  | .cont,l,H,Q,_=>Q .cont l H
  | .pass,l,H,Q,_=>Q .next l H
noncomputable def wpSs (G:Gx) (hm:Bool):List Sm→Loc→Hp→QS→XS→Prop
  | [],l,H,Q,_=>Q .next l H
  | st :: r,l,H,Q,X=>wpS G hm st l H (fun f l' H'=>match f with | .next=>wpSs G hm r l' H' Q X | f=>Q f l' H') X
noncomputable def wpH (G:Gx):List Hd→Addr→Loc→Hp→QS→XS→Prop
  | [],C,l,H,_,X=>X C l H
  | .mk c n body :: r,C,l,H,Q,X=>match G.glob c with
    | some (.ref D)=>G.isExc D = true∧if G.sub C D then (match n with
        | none=>wpSs G true body l H Q (fun _ _ _=>False)
        | some y=>∀ e,H e = none→wpSs G true body (l.upd y (.ref e)) (H.upd e (.exc C)) (fun f l' H'=>Q f (l'.del y) (H'.del e)) (fun _ _ _=>False))
      else wpH G r C l H Q X
    | _=>False
end
noncomputable def wpF (G:Gx) (hm:Bool) (params:List Str) (body:List Sm) (args:List Value) (H:Hp) (Q:QV) (X:XV):Prop :=
  params.length = args.length∧wpSs G hm body (fun x=>(params.zip args).lookup x) H
    (fun f _ H'=>match f with | .next=>Q .none H' | .ret v=>Q v H' | .cont=>False) (fun C _ H'=>X C H')
end Mine
end

section
open PySem PyProof.Rows PySem.Calls
namespace Mine
noncomputable def PostE (P:Pm) (F:Fm) (l:Loc) (Q:QV):Value→Shared→Prop:=fun V s'=>∃ H',Inv P F l H' s'∧Q (er V) H'
section
variable {P:Pm} {F:Fm} {l:Loc} {H:Hp} {s:Shared} {E:Value→Shared→Prop} {Q:QV} {A' B' a b:Value}
theorem same_int {x:Int} {t:Nat} (I:Inv P F l H s) (h:Q (.int x 0) H) (u:Tok):PostE P F l Q (.int x u) { s with toks:=t }:=⟨H,I.toks t,h⟩
theorem IsL.isList {h:Heap} {a:Addr} {vs:Array Value} (x:IsL h a vs):h.IsList a vs:=let ⟨n,e⟩:=x;⟨_,e,rfl,n,rfl⟩
theorem mt_list {h:Heap} {a:Addr} {vs:Array Value} (hl:IsL h a vs) (hz:vs.size≤2 ^ 25):Mt P h a (.list (vs.toList.map er)):=⟨vs,hl.isList,rfl,by simpa using hz,hl⟩
theorem mt_tup {h:Heap} {a:Addr} {vs:Array Value} (hl:h.IsTuple a vs) (hz:vs.size≤2 ^ 25):Mt P h a (.tup (vs.toList.map er)):=⟨vs,hl,rfl,by simpa using hz⟩
theorem new_list (K:FmOk P F) (I:Inv P F l H s) {h':Heap} {t:Nat} {m:Str→Option Value} {vs:Array Value} {n:Nat}
    (hm:∀ x v,l x = some v→F.env.kindOf x = some .local→∃ V,m x = some V∧er V = v) (F':Fr P.base F.env.locals h' m)
    (N':News P.base F.env.locals h' ((s.heap.objs.size,{ cls:=.type "list",data:=.seq vs n }) :: allNews P.base s.heap F.env.locals))
    (hz:vs.size≤2 ^ 25) (h:newV (.list (vs.toList.map er)) H Q):PostE P F l Q (.ref s.heap.objs.size) { s with heap:=h',toks:=t } :=
  ⟨_,(I.after K hm F' N' fun _ hp=>.tail _ hp).track (I.ofSize K) (bigs_of (I.base_le K)) (mt_list ⟨n,(N' _ (.head _)).1⟩ hz),h _ I.fresh⟩
theorem abs63 {y:Int} (h:0 < y) (h2:y < 2 ^ 63):y.natAbs < 2 ^ 63:=Int.natAbs_lt_natAbs_of_nonneg_of_lt (Int.le_of_lt h) h2
theorem intBits_lt {x:Int} (h:x.natAbs < 2 ^ 63):Builtin.Int.intBits x≤64:=by
  unfold Builtin.Int.intBits
  split
  · exact Nat.zero_le _
  · exact Nat.le_succ_of_le ((Nat.log2_lt (n:=x.natAbs) (k:=63) (by intro q;simp_all)).mpr h)
theorem s_mulL (K:FmOk P F) (I:Inv P F l H s) {a:Addr} {xs:List Value} {n:Int} {u:Tok} (hx:H a = some (.list xs)) (h1:n≤1000) (h2:-1000≤n) (h3:xs.length≤1000) (q:newV (.list (List.replicate n.toNat xs).flatten) H Q) :
    wpAny P.M F.A (binaryOp .Mult (.ref a) (.int n u)) (PostE P F l Q) E s:=by
  obtain ⟨m,Fr,hm⟩:=I.fr K
  obtain ⟨vs,hl,rfl,z1,k,hk⟩:=I.objs _ _ hx
  rw [List.length_map,Array.length_toList] at h3
  have hz:vs.size * n.toNat≤1000 * 1000:=Nat.mul_le_mul h3 (Int.toNat_le.2 h1)
  have e:=listMul_foldl_if vs n.toNat
  refine mul_list Fr (news_all _ _ _) hk (Int.le_trans (by decide) h2) (Int.lt_of_le_of_lt h1 (by decide)) (Nat.le_trans hz (by decide)) fun h' F' N'=>?_
  rw [e] at N'
  refine new_list K I (t:=s.toks) hm F' N' ?_ ?_
  · rw [List.size_toArray,List.length_flatten,List.map_replicate,List.sum_replicate_nat,Array.length_toList]
    exact Nat.le_trans (Nat.le_of_eq (Nat.mul_comm ..)) (Nat.le_trans hz (by decide))
  · rw [List.map_flatten,List.map_replicate];exact q
theorem s_bin (K:FmOk P F) (I:Inv P F l H s) (op:Operator) (ha:er A' = a) (hb:er B' = b) (h:binV op a b H Q):wpAny P.M F.A (binaryOp op A' B') (PostE P F l Q) E s:=by
  unfold binV at h
  split at h
  · unfold addV at h
    split at h
    · obtain ⟨_,rfl⟩:=er_int ha;obtain ⟨y,_,rfl,h⟩:=onInt_elim hb h
      exact add_int (same_int I h _)
    · obtain ⟨_,rfl⟩:=er_str ha;obtain ⟨y,_,rfl,h⟩:=onStr_elim hb h
      exact add_str (fun t' tk=>⟨H,I.toks tk,h.2⟩) h.1
    · have:=er_ref ha;subst this;obtain ⟨y,rfl,h⟩:=onRef_elim hb h
      obtain ⟨m,Fr,hm⟩:=I.fr K
      unfold addR at h
      split at h
      · rename_i xs hx
        split at h
        · rename_i ys hy
          obtain ⟨vs,hl,rfl,z1⟩:=I.objs _ _ hx
          obtain ⟨ws,hl',rfl,z2⟩:=I.objs _ _ hy
          simp only [List.length_map,Array.length_toList] at h z1 z2
          refine add_arrays Fr (news_all _ _ _) hl hl' (fun h' F' N'=>new_list K I (t:=s.toks) hm F' N' ?_ ?_) h.1
          · simp;have:=h.1;simp [sizeLine] at this;exact Nat.le_trans this (by decide)
          · simpa using h.2
        · exact h.elim
      · exact h.elim
    · exact h.elim
  · obtain ⟨x,_,rfl,h⟩:=onInt_elim ha h;obtain ⟨y,_,rfl,h⟩:=onInt_elim hb h
    exact sub_int (same_int I h _)
  · unfold multV at h
    split at h
    · rename_i x _;obtain ⟨_,rfl⟩:=er_int ha;obtain ⟨y,_,rfl,h⟩:=onInt_elim hb h
      refine mul_int (same_int I h.2 _) ?_
      unfold IntMulOk shortFactorBits
      rcases h.1 with q | q
      · have:=intBits_lt q;simp;omega
      · have:=intBits_lt q;simp;omega
    · rename_i x _;obtain ⟨_,rfl⟩:=er_str ha;obtain ⟨n,_,rfl,h⟩:=onInt_elim hb h
      refine SB.mul ?_ (fun t' tk=>⟨H,I.toks tk,h.2.2.2⟩)
      obtain ⟨h1,h2,h3,_⟩:=h
      refine ⟨by simp;omega,fun q _=>?_,fun q _=>?_⟩
      · have:(1000:Int)≤(2 ^ 63 - 1) / n:=by
          apply Int.le_ediv_of_mul_le (by omega)
          have:1000 * n≤1000 * 1000:=Int.mul_le_mul_of_nonneg_left h2 (by omega)
          omega
        omega
      · have:x.length * n.toNat≤1000 * 1000:=Nat.mul_le_mul h1 (by omega)
        simp [Builtin.Str.tooLong,sizeLine];omega
    · have:=er_ref ha;subst this;obtain ⟨n,_,rfl,h⟩:=onInt_elim hb h
      split at h
      · rename_i xs hx
        obtain ⟨h1,h2,h3,q⟩:=h
        exact s_mulL K I hx h1 h2 h3 q
      · exact h.elim
    · exact h.elim
  · obtain ⟨x,_,rfl,h⟩:=onInt_elim ha h;obtain ⟨y,_,rfl,h⟩:=onInt_elim hb h
    refine floordiv_int (Int.ne_of_gt h.1) ?_ (.inl ?_)
    · rw [Int.fdiv_eq_ediv_of_nonneg _ (Int.le_of_lt h.1)];exact same_int I h.2.2 _
    · unfold Builtin.divisionGoesByPylong
      have:y.natAbs.log2 < 63:=by
        by_cases hy:y.natAbs = 0
        · rw [hy];decide
        · exact (Nat.log2_lt hy).mpr (abs63 h.1 h.2.1)
      have h0:¬ y = 0:=Int.ne_of_gt h.1
      simp [h0]
      exact fun z=>absurd z (Nat.not_lt.2 (Nat.succ_le_of_lt (Nat.lt_of_le_of_lt (Nat.div_le_self ..) (Nat.lt_of_lt_of_le this (show 63≤300 by decide)))))
  · obtain ⟨x,_,rfl,h⟩:=onInt_elim ha h;obtain ⟨y,_,rfl,h⟩:=onInt_elim hb h
    refine mod_int (Int.ne_of_gt h.1) ?_
    rw [Int.fmod_eq_emod_of_nonneg _ (Int.le_of_lt h.1)];exact same_int I h.2 _
  · obtain ⟨x,_,rfl,h⟩:=onInt_elim ha h;obtain ⟨y,_,rfl,h⟩:=onInt_elim hb h
    have:=intBits_lt h.2.2.1
    refine pow_int h.1 ?_ (same_int I h.2.2.2 _)
    have h1:(Builtin.Int.intBits x:Int) * y≤64 * 100:=Int.mul_le_mul (Int.ofNat_le.2 this) h.2.1 h.1 (by decide)
    exact Int.le_trans h1 (by decide)
  · exact h.elim
theorem reads_of (I:Inv P F l H s) {v:Value} {d:PyData} (h:Rd H v d):∀ V,er V = v→∃ as,Reads s.heap V d as:=by
  refine Rd.rec (motive_1:=fun v d _=>∀ V,er V = v→∃ as,Reads s.heap V d as) (motive_2:=fun vs ds _=>∀ Vs:List Value,Vs.map er = vs→∃ as,ReadsAll s.heap Vs ds as)
    (fun V e=>⟨[],by rw [er_none e];exact .none⟩) (fun b V e=>⟨[],by rw [er_bool e];exact .bool b⟩) (fun i t V e=>⟨[],by obtain ⟨u,rfl⟩:=er_int e;exact .int i u⟩) (fun x t V e=>⟨[],by obtain ⟨u,rfl⟩:=er_str e;exact .str x u⟩) ?_ ?_ ?_ ?_ ?_ h
  · intro a xs ds ha _ ih V e
    have:=er_ref e;subst this
    obtain ⟨vs,⟨o,ho,hc,n,hd⟩,q,_⟩:=I.objs _ _ ha
    obtain ⟨as,r⟩:=ih vs.toList q
    exact ⟨_, .list ho hc hd r⟩
  · intro a xs ds ha _ ih V e
    have:=er_ref e;subst this
    obtain ⟨vs,⟨o,ho,hc,n,hd⟩,q,_⟩:=I.objs _ _ ha
    obtain ⟨as,r⟩:=ih vs.toList q
    exact ⟨_, .tuple ho hc hd r⟩
  · intro a xs ds ha _ ih V e
    have:=er_ref e;subst this
    obtain ⟨vs,⟨o,ho,hc,n,hd⟩,q,_⟩:=I.objs _ _ ha
    obtain ⟨as,r⟩:=ih vs.toList q
    exact ⟨_, .list ho hc hd r⟩
  · intro Vs e
    cases Vs with
    | nil=>exact ⟨[], .nil⟩
    | cons=>cases e
  · intro v vs d ds _ _ i1 i2 Vs e
    cases Vs with
    | nil=>cases e
    | cons V Vs =>
      obtain ⟨as,p⟩:=i1 V (List.cons.inj e).1
      obtain ⟨bs,q⟩:=i2 Vs (List.cons.inj e).2
      exact ⟨_, .cons p q⟩
theorem beq_dec {α:Type} [DecidableEq α] (x y:α):(x == y) = decide (x = y):=by rw [Bool.eq_iff_iff];simp
theorem s_eq (I:Inv P F l H s) (hu:F.A.units + 64 < cLine) (ha:er A' = a) (hb:er B' = b) (h:eqV a b H fun r=>Q (.bool r) H):wpAny P.M F.A (compareOp .Eq A' B') (PostE P F l Q) E s:=by
  unfold eqV at h
  split at h
  · obtain ⟨_,rfl⟩:=er_int ha;obtain ⟨_,rfl⟩:=er_int hb
    exact eq_int ⟨H,I,by rw [beq_dec];exact h⟩
  · obtain ⟨_,rfl⟩:=er_str ha;obtain ⟨_,rfl⟩:=er_str hb
    exact eq_str ⟨H,I,by rw [beq_dec];exact h⟩
  · rw [er_none ha];obtain ⟨_,rfl⟩:=er_str hb;exact EqNone.eq_none_str ⟨H,I,h⟩
  · obtain ⟨da,db,ra,rb,sa,sb,q⟩:=h
    obtain ⟨as,ra⟩:=reads_of I ra A' ha
    obtain ⟨bs,rb⟩:=reads_of I rb B' hb
    exact SeqAt.compareEq_shaped ra rb sa sb hu ⟨H,I,q⟩
theorem s_ne (I:Inv P F l H s) (hu:F.A.units + 64 < cLine) (ha:er A' = a) (hb:er B' = b) (h:eqV a b H fun r=>Q (.bool (!r)) H):wpAny P.M F.A (compareOp .NotEq A' B') (PostE P F l Q) E s:=by
  unfold eqV at h
  split at h
  · obtain ⟨_,rfl⟩:=er_int ha;obtain ⟨_,rfl⟩:=er_int hb
    exact ne_int ⟨H,I,by show Q (.bool (_ != _)) H;unfold bne;rw [beq_dec];exact h⟩
  · obtain ⟨_,rfl⟩:=er_str ha;obtain ⟨_,rfl⟩:=er_str hb
    exact ne_str ⟨H,I,by show Q (.bool (_ != _)) H;unfold bne;rw [beq_dec];exact h⟩
  · rw [er_none ha];obtain ⟨_,rfl⟩:=er_str hb;exact EqNone.ne_none_str ⟨H,I,h⟩
  · obtain ⟨da,db,ra,rb,sa,sb,q⟩:=h
    obtain ⟨as,ra⟩:=reads_of I ra A' ha
    obtain ⟨bs,rb⟩:=reads_of I rb B' hb
    exact SeqAt.compareNe_shaped ra rb sa sb hu ⟨H,I,q⟩
theorem valueAt_er {K:Type} [DecidableEq K] (ks:List (K×Value)) (k:K):valueAt (ks.map fun p=>(p.1,er p.2)) k = (valueAt ks k).map er:=by
  unfold valueAt
  induction ks with
  | nil=>rfl
  | cons p r ih =>
    simp only [List.map_cons,List.find?_cons]
    by_cases e:p.1 = k
    · simp [e]
    · simp [e];simpa using ih
theorem not_modules (Y:PmOk P) (I:Inv P F l H s) {a:Addr} {o:AObj} (h:H a = some o) (hb:Bigs P a o→P.base.objs.size≤a:=by exact id):(a == sysModules) = false:=by
  have h3:sysModules < mainGlobals:=by decide
  exact beq_eq_false_iff_ne.mpr (Nat.ne_of_gt (Nat.lt_of_lt_of_le (Nat.lt_trans h3 Y.g.lt) (hb (I.big a o h))))
theorem ints_of:∀ {vs:List Value} {ns:List Int},vs.map er = ns.map (fun n=>Value.int n 0)→IntsAre vs ns
  | [],[],_=>.nil
  | [],_ :: _,e=>by simp at e
  | _ :: _,[],e=>by simp at e
  | v :: vs,n :: ns,e=>by
    simp only [List.map_cons,List.cons.injEq] at e
    obtain ⟨t,rfl⟩:=er_int e.1
    exact .cons n t (ints_of e.2)
theorem any_mem (ns:List Int) (i:Int):ns.any (· == i) = decide (i∈ns):=by
  rw [Bool.eq_iff_iff];simp
theorem s_in (Y:PmOk P) (I:Inv P F l H s) (ha:er A' = a) (hb:er B' = b) (h:inV a b H fun r=>Q (.bool r) H):wpAny P.M F.A (compareOp .In A' B') (PostE P F l Q) E s:=by
  unfold inV at h
  split at h
  · obtain ⟨_,rfl⟩:=er_str ha;obtain ⟨_,rfl⟩:=er_str hb
    exact in_str ⟨H,I,h⟩
  · obtain ⟨_,rfl⟩:=er_int ha;have:=er_ref hb;subst this
    split at h
    · rename_i hx
      obtain ⟨ks,hd,rfl⟩:=I.objs _ _ hx
      refine wpAny_in_of (intKind_is _ _ _ _) (not_modules Y I hx) hd.mapOf ⟨H,I.toks _, ?_⟩
      rw [valueAt_er] at h
      simpa [er] using h
    · rename_i hx
      obtain ⟨ns,rfl,h⟩:=h
      obtain ⟨⟨vs⟩,hl,q,_⟩:=I.objs _ _ hx
      exact in_list_ints hl (ints_of q) ⟨H,I,by rw [any_mem];exact h⟩
    · exact h.elim
  · exact h.elim
theorem s_notin (Y:PmOk P) (I:Inv P F l H s) (ha:er A' = a) (hb:er B' = b) (h:inV a b H fun r=>Q (.bool (!r)) H):wpAny P.M F.A (compareOp .NotIn A' B') (PostE P F l Q) E s:=by
  unfold inV at h
  split at h
  · obtain ⟨_,rfl⟩:=er_str ha;obtain ⟨_,rfl⟩:=er_str hb
    exact notIn_str ⟨H,I,h⟩
  · obtain ⟨_,rfl⟩:=er_int ha;have:=er_ref hb;subst this
    split at h
    · rename_i hx
      obtain ⟨ks,hd,rfl⟩:=I.objs _ _ hx
      refine wpAny_notIn_of (intKind_is _ _ _ _) (not_modules Y I hx) hd.mapOf ⟨H,I.toks _, ?_⟩
      rw [valueAt_er] at h
      simpa [er] using h
    · rename_i hx
      obtain ⟨ns,rfl,h⟩:=h
      obtain ⟨⟨vs⟩,hl,q,_⟩:=I.objs _ _ hx
      exact notin_list_ints hl (ints_of q) ⟨H,I,by rw [any_mem];exact h⟩
    · exact h.elim
  · exact h.elim
theorem s_is (I:Inv P F l H s) (h:match er A' with | .none=>Q (.bool true) H | .builtin _=>False | _=>Q (.bool false) H):wpAny P.M F.A (compareOp .Is A' .none) (PostE P F l Q) E s:=by
  cases A' <;> dsimp only [er] at h
  case none=>exact wpAny_is_plain rfl ⟨H,I,h⟩
  all_goals exact wpAny_is_other rfl (by simp) ⟨H,I,h⟩
theorem s_isnot (I:Inv P F l H s) (h:match er A' with | .none=>Q (.bool false) H | .builtin _=>False | _=>Q (.bool true) H):wpAny P.M F.A (compareOp .IsNot A' .none) (PostE P F l Q) E s:=by
  cases A' <;> dsimp only [er] at h
  case none=>exact wpAny_isNot_self rfl ⟨H,I,h⟩
  all_goals exact wpAny_isNot_other rfl (by simp) ⟨H,I,h⟩
theorem s_cmp (Y:PmOk P) (I:Inv P F l H s) (hu:F.A.units + 64 < cLine) (op:CmpOp) (ha:er A' = a) (hb:er B' = b) (h:cmpV op a b H Q):wpAny P.M F.A (compareOp op A' B') (PostE P F l Q) E s:=by
  unfold cmpV at h
  cases op <;> dsimp only at h
  · exact s_eq I hu ha hb h
  · exact s_ne I hu ha hb h
  · split at h
    · obtain ⟨_,rfl⟩:=er_int ha;obtain ⟨_,rfl⟩:=er_int hb;exact lt_int ⟨H,I,h⟩
    · obtain ⟨_,rfl⟩:=er_str ha;obtain ⟨_,rfl⟩:=er_str hb;exact lt_str ⟨H,I,h⟩
    · exact h.elim
  · split at h
    · obtain ⟨_,rfl⟩:=er_int ha;obtain ⟨_,rfl⟩:=er_int hb;exact le_int ⟨H,I,h⟩
    · exact h.elim
  · split at h
    · obtain ⟨_,rfl⟩:=er_int ha;obtain ⟨_,rfl⟩:=er_int hb;exact gt_int ⟨H,I,h⟩
    · obtain ⟨_,rfl⟩:=er_str ha;obtain ⟨_,rfl⟩:=er_str hb;exact PySem.P.gt_str ⟨H,I,h⟩
    · exact h.elim
  · split at h
    · obtain ⟨_,rfl⟩:=er_int ha;obtain ⟨_,rfl⟩:=er_int hb;exact ge_int ⟨H,I,h⟩
    · exact h.elim
  · split at h
    · rw [er_none hb];subst ha;exact s_is I h
    · exact h.elim
  · split at h
    · rw [er_none hb];subst ha;exact s_isnot I h
    · exact h.elim
  · exact s_in Y I ha hb h
  · exact s_notin Y I ha hb h
end
end Mine
end

section
open PySem PyProof.Rows PySem.Calls
namespace Mine
theorem slice_core {α:Type} (xs:List α) (a:Nat):∀ n:Nat,a + n≤xs.length→((List.range n).map (fun k=>a + k)).filterMap (fun i=>xs[i]?) = (xs.take (a + n)).drop a
  | 0,_=>by simp
  | n + 1,h=>by
    have ih:=slice_core xs a n (Nat.le_of_succ_le h)
    rw [List.range_succ,List.map_append,List.filterMap_append,ih]
    have hl:a + n < xs.length:=h
    simp only [List.map_cons,List.map_nil,List.filterMap_cons,List.getElem?_eq_getElem hl,List.filterMap_nil]
    have:xs.take (a + (n + 1)) = xs.take (a + n)++[xs[a + n]]:=by rw [← Nat.add_assoc];exact List.take_succ_eq_append_getElem hl
    rw [this,List.drop_append_of_le_length]
    rw [List.length_take];exact Nat.le_min.2 ⟨Nat.le_add_right ..,Nat.le_trans (Nat.le_add_right ..) (Nat.le_of_lt hl)⟩
theorem clip_eq (n:Nat) (i:Int):(max 0 (min (if i < 0 then i + n else i) (n:Int))) = (cutAt n i:Int):=by
  unfold cutAt
  split
  · rename_i h
    rw [Int.ofNat_toNat,Int.min_eq_left (Int.le_trans (Int.add_le_add_right (Int.le_of_lt h) _) (Int.le_of_eq (Int.zero_add _))),Int.max_comm]
  · rename_i h
    have h:=Int.not_lt.1 h
    rw [Int.max_eq_right (Int.le_min.2 ⟨h,Int.natCast_nonneg _⟩)]
    obtain ⟨m,rfl⟩:=Int.eq_ofNat_of_zero_le h
    rw [Int.toNat_natCast]
    rcases Nat.le_total m n with q | q
    · rw [Nat.min_eq_left q,Int.min_eq_left (Int.ofNat_le.2 q)]
    · rw [Nat.min_eq_right q,Int.min_eq_right (Int.ofNat_le.2 q)]
theorem cutAt_le (n:Nat) (i:Int):cutAt n i≤n:=Int.ofNat_le.1 (clip_eq n i ▸ Int.max_le.2 ⟨Int.natCast_nonneg _,Int.min_le_right ..⟩)
theorem hiAt_le (n:Nat) (i:Option Int):hiAt n i≤n:=by cases i <;> simp [hiAt,cutAt_le]
theorem sliceRange_one (a b:Nat):sliceRange (a:Int) (b:Int) 1 = (List.range (b - a)).map fun k=>a + k:=by
  have e:(if (1:Int) > 0 then (if (a:Int) < b then ((b:Int) - a + 1 - 1) / 1 else 0) else (if (a:Int) > b then ((a:Int) - b - 1 - 1) / (-1) else 0)).toNat = b - a:=by
    rw [if_pos Int.one_pos,Int.add_sub_cancel,Int.ediv_one]
    split
    · exact Int.toNat_sub b a
    · rename_i h;exact (Nat.sub_eq_zero_of_le (Int.ofNat_le.1 (Int.not_lt.1 h))).symm
  unfold sliceRange
  simp only [e]
  apply List.map_congr_left
  intro k _
  rw [Int.one_mul,← Int.natCast_add,Int.toNat_natCast]
theorem sliceIdx (n:Nat) (lo hi:Option Int):sliceRange (sliceBounds lo hi none n).1 (sliceBounds lo hi none n).2.1 (sliceBounds lo hi none n).2.2 = (List.range (hiAt n hi - loAt n lo)).map fun k=>loAt n lo + k:=by
  have h1:(sliceBounds lo hi none n).1 = (loAt n lo:Int):=by
    cases lo with
    | none=>simp [sliceBounds,loAt]
    | some i=>simp only [sliceBounds,Option.getD,loAt];rw [if_pos Int.one_pos];exact clip_eq _ _
  have h2:(sliceBounds lo hi none n).2.1 = (hiAt n hi:Int):=by
    cases hi with
    | none=>simp [sliceBounds,hiAt]
    | some i=>simp only [sliceBounds,Option.getD,hiAt];rw [if_pos Int.one_pos];exact clip_eq _ _
  have h3:(sliceBounds lo hi none n).2.2 = 1:=rfl
  rw [h1,h2,h3,sliceRange_one]
theorem slicePick_eq {α:Type} (xs:List α) (lo hi:Option Int) :
    (sliceRange (sliceBounds lo hi none xs.length).1 (sliceBounds lo hi none xs.length).2.1 (sliceBounds lo hi none xs.length).2.2).filterMap (fun i=>xs[i]?) = pySlice xs lo hi:=by
  have key:∀ a b:Nat,b≤xs.length→((List.range (b - a)).map fun k=>a + k).filterMap (fun i=>xs[i]?) = (xs.take b).drop a:=by
    intro a b hb
    by_cases hab:b≤a
    · have:b - a = 0:=Nat.sub_eq_zero_of_le hab
      rw [this]
      rw [List.drop_eq_nil_of_le (by rw [List.length_take];exact Nat.le_trans (Nat.min_le_left ..) hab)]
      simp
    · have e:=Nat.add_sub_cancel' (Nat.le_of_not_le hab)
      rw [slice_core xs a (b - a) (Nat.le_trans (Nat.le_of_eq e) hb),e]
  rw [sliceIdx]
  exact key _ _ (hiAt_le _ _)
theorem pySlice_whole {α:Type} (xs:List α) (lo hi:Option Int) (h:hiAt xs.length hi - loAt xs.length lo = xs.length):pySlice xs lo hi = xs:=by
  have:=hiAt_le xs.length hi
  unfold pySlice
  by_cases z:xs.length = 0
  · have:=List.eq_nil_of_length_eq_zero z;subst this;simp
  · have h2:hiAt xs.length hi = xs.length:=Nat.le_antisymm this (Nat.le_trans (Nat.le_of_eq h.symm) (Nat.sub_le ..))
    have h1:loAt xs.length lo = 0:=Nat.eq_zero_of_not_pos fun q=>Nat.ne_of_lt (Nat.sub_lt (Nat.lt_of_lt_of_le (Nat.pos_of_ne_zero z) (Nat.le_of_eq h2.symm)) q) (h.trans h2.symm)
    rw [h1,h2];simp
theorem pySlice_len {α:Type} (xs:List α) (lo hi:Option Int):(pySlice xs lo hi).length≤xs.length:=by
  unfold pySlice;rw [List.length_drop,List.length_take];exact Nat.le_trans (Nat.sub_le ..) (Nat.min_le_right ..)
theorem pySlice_map {α β:Type} (f:α→β) (xs:List α) (lo hi:Option Int):pySlice (xs.map f) lo hi = (pySlice xs lo hi).map f:=by
  unfold pySlice
  simp [List.map_take,List.map_drop]
theorem at_map {α β:Type} (f:α→β) (xs:List α) (k:Int) {v:β} (h:at? (xs.map f) k = some v):∃ u,at? xs k = some u∧f u = v:=by
  unfold at? at *
  simp only [List.length_map,List.getElem?_map] at h
  split at h
  · rename_i q;rw [if_pos q];exact Option.map_eq_some_iff.mp h
  · rename_i q;rw [if_neg q]
    split at h
    · rename_i q;rw [if_pos q];exact Option.map_eq_some_iff.mp h
    · cases h
theorem at_seqIndex {α:Type} (xs:List α) (k:Int) {v:α} (h:at? xs k = some v):∃ j,seqIndex? k xs.length = some j∧xs[j]? = some v∧-(xs.length:Int)≤k∧k < xs.length:=by
  unfold at? at h
  split at h
  · rename_i q
    have b:=(List.getElem?_eq_some_iff.mp h).1
    have b2:k < xs.length:=Int.lt_of_le_of_lt (Int.self_le_toNat k) (Int.ofNat_lt.2 b)
    refine ⟨k.toNat, ?_,h,Int.le_trans (Int.neg_nonpos_of_nonneg (Int.natCast_nonneg _)) q,b2⟩
    simp only [seqIndex?,if_neg (Int.not_lt.2 q)]
    rw [if_pos (Bool.and_eq_true_iff.2 ⟨decide_eq_true q,decide_eq_true b2⟩)]
  · split at h
    · rename_i q1 q2
      have q1:=Int.not_le.1 q1
      have q3:=Int.add_lt_add_right q1 (xs.length:Int)
      rw [Int.zero_add] at q3
      have q4:0≤k + xs.length:=Int.add_nonneg_iff_neg_le.2 q2
      refine ⟨(k + xs.length).toNat, ?_,h,q2,Int.lt_of_lt_of_le q1 (Int.natCast_nonneg _)⟩
      simp only [seqIndex?,if_pos q1]
      rw [if_pos (Bool.and_eq_true_iff.2 ⟨decide_eq_true q4,decide_eq_true q3⟩)]
    · cases h
section
variable {P:Pm} {F:Fm} {l:Loc} {H:Hp} {s:Shared} {E:Value→Shared→Prop} {Q:QV} {A' B' a b:Value}
theorem idx_hi {k:Int} {n:Nat} (e:k < n) (z:n≤2 ^ 25):k < 2 ^ 63:=Int.lt_of_lt_of_le e (Int.le_trans (Int.ofNat_le.2 z) (by decide))
theorem idx_lo {k:Int} {n:Nat} (e:-(n:Int)≤k) (z:n≤2 ^ 25):-2 ^ 63≤k:=Int.le_trans (Int.neg_le_neg (Int.le_trans (Int.ofNat_le.2 z) (by decide))) e
theorem s_idx (I:Inv P F l H s) (ha:er A' = a) (hb:er B' = b) (h:idxV a b H Q):wpAny P.M F.A (getItem A' B') (PostE P F l Q) E s:=by
  unfold idxV at h
  split at h
  · rename_i x k _;have:=er_ref ha;subst this;obtain ⟨_,rfl⟩:=er_int hb
    split at h
    · rename_i xs hx
      obtain ⟨⟨vs⟩,hl,q,z,_⟩:=I.objs _ _ hx
      split at h
      · rename_i v hv
        subst q
        obtain ⟨V,hV,rfl⟩:=at_map er vs k hv
        simp only [List.length_map] at z
        obtain ⟨j,e1,e2,e3,e4⟩:=at_seqIndex vs k hV
        by_cases hk:0≤k
        · refine wpAny_getItem_list hl hk (idx_hi e4 z) (x:=V) ?_ ⟨H,I,h⟩
          simp only [at?,if_pos hk] at hV
          simpa using hV
        · refine wpAny_getItem_list_neg hl (Int.not_le.1 hk) (by simpa using e3) (idx_lo e3 z) (x:=V) ?_ ⟨H,I,h⟩
          simp only [at?,if_neg hk,if_pos e3] at hV
          simpa using hV
      · exact h.elim
    · rename_i xs hx
      obtain ⟨⟨vs⟩,hl,q,z⟩:=I.objs _ _ hx
      split at h
      · rename_i v hv
        subst q
        obtain ⟨V,hV,rfl⟩:=at_map er vs k hv
        simp only [List.length_map] at z
        obtain ⟨j,e1,e2,e3,e4⟩:=at_seqIndex vs k hV
        by_cases hk:0≤k
        · refine wpAny_getItem_list hl hk (idx_hi e4 z) (x:=V) ?_ ⟨H,I,h⟩
          simp only [at?,if_pos hk] at hV
          simpa using hV
        · refine wpAny_getItem_list_neg hl (Int.not_le.1 hk) (by simpa using e3) (idx_lo e3 z) (x:=V) ?_ ⟨H,I,h⟩
          simp only [at?,if_neg hk,if_pos e3] at hV
          simpa using hV
      · exact h.elim
    · rename_i xs hx
      obtain ⟨⟨vs⟩,hl,q,z⟩:=I.objs _ _ hx
      split at h
      · rename_i v hv
        subst q
        obtain ⟨V,hV,rfl⟩:=at_map er vs k hv
        simp only [List.length_map] at z
        obtain ⟨j,e1,e2,e3,e4⟩:=at_seqIndex vs k hV
        exact getItem_tuple hl (idx_lo e3 z) (idx_hi e4 z) (j:=j) (by simpa using e1) (x:=V) (by simpa using e2) ⟨H,I,h⟩
      · exact h.elim
    · rename_i kvs hx
      obtain ⟨ks,hd,rfl⟩:=I.objs _ _ hx
      split at h
      · rename_i v hv
        rw [valueAt_er] at hv
        obtain ⟨V,hV,rfl⟩:=Option.map_eq_some_iff.mp hv
        exact wpAny_getItem_of (intKind_is _ _ _ _) hd.mapOf hV ⟨H,I.toks _,h⟩
      · exact h.elim
    · exact h.elim
  · rename_i x _ k _;obtain ⟨_,rfl⟩:=er_str ha;obtain ⟨_,rfl⟩:=er_int hb
    split at h
    · rename_i c hc
      obtain ⟨j,e1,e2,e3,e4⟩:=at_seqIndex _ k hc
      have hz:=h.1
      have hlen:x.cps.toList.length = x.length:=by simp [Str.length]
      rw [hlen] at e1 e3 e4
      simp only [sizeLine] at hz
      refine getItem_str (c:=c) (by simp;exact ⟨idx_lo e3 (Nat.le_trans hz (by decide)),idx_hi e4 (Nat.le_trans hz (by decide))⟩) ?_ ⟨H,I.toks _,h.2⟩
      rw [e1]
      simpa using e2
    · exact h.elim
  · exact h.elim
theorem partOf_er {V:Value} {i:Option Int} (h:partOf (er V) = some i):IsPart V i:=by
  cases V <;> simp [er,partOf] at h <;> subst h
  · exact .none
  · exact .int _ _
theorem s_len (I:Inv P F l H s) (ha:er A' = a) (h:lenV a H Q):wpAny P.M F.A (call (.builtin "len") [A']) (PostE P F l Q) E s:=by
  unfold lenV at h
  split at h
  · obtain ⟨_,rfl⟩:=er_str ha
    have:=h.1
    simp only [sizeLine] at this
    exact len_str (fun z=>absurd (Int.le_trans z (Int.ofNat_le.2 this)) (by decide)) ⟨H,I.toks _,h.2⟩
  · have:=er_ref ha;subst this
    split at h
    · rename_i hx
      obtain ⟨vs,hl,rfl,z,_⟩:=I.objs _ _ hx
      simp only [List.length_map,Array.length_toList] at h z
      exact len_list hl (Int.lt_of_le_of_lt (Int.ofNat_le.2 z) (by decide)) ⟨H,I.toks _,h⟩
    · rename_i hx
      obtain ⟨vs,hl,rfl,z⟩:=I.objs _ _ hx
      simp only [List.length_map,Array.length_toList] at h z
      exact len_list hl (Int.lt_of_le_of_lt (Int.ofNat_le.2 z) (by decide)) ⟨H,I.toks _,h⟩
    · rename_i hx
      obtain ⟨vs,hl,rfl,z⟩:=I.objs _ _ hx
      simp only [List.length_map,Array.length_toList] at h z
      exact len_tuple hl (Int.lt_of_le_of_lt (Int.ofNat_le.2 z) (by decide)) ⟨H,I.toks _,h⟩
    · exact h.elim
  · exact h.elim
end
end Mine
end

section
open PySem PyProof.Rows PySem.Calls
open PySem.W (dictOf getL putL putN plainGet hasDictIn findIn isFn noGet plainOver takerIn makesIn subIn)
namespace Mine
section
variable {w:World} {es:List DictEntry} {kvs:List (Str×Value)} {a:Str}
theorem isStr_key {k:Value} {x y:Str} {t:Tok} (h:k = .str x t):k.isStr y = decide (x = y):=by
  subst h;exact beq_dec _ _
theorem NsEs.noRef (h:NsEs w es kvs):es.any (·.refKey) = false:=by
  unfold NsEs at h
  induction h with
  | nil=>rfl
  | cons h _ ih =>
    obtain ⟨⟨t,ht⟩,_⟩:=h
    rw [List.any_cons,ih]
    simp [DictEntry.refKey,ht]
theorem valueAt_cons {K:Type} [DecidableEq K] (p:K×Value) (r:List (K×Value)) (k:K):valueAt (p :: r) k = if p.1 = k then some p.2 else valueAt r k:=by
  unfold valueAt
  by_cases e:p.1 = k <;> simp [e]
theorem NsEs.find (h:NsEs w es kvs):(es.find? (·.key.isStr a)).map (fun e=>er e.val) = valueAt kvs a:=by
  unfold NsEs at h
  induction h with
  | nil=>rfl
  | @cons e0 p _ _ h _ ih =>
    obtain ⟨⟨t,ht⟩,hv,_⟩:=h
    rw [valueAt_cons,List.find?_cons,isStr_key ht]
    by_cases e:p.1 = a
    · simp [e,hv]
    · simp [e,ih]
theorem NsEs.get (h:NsEs w es kvs):∃ V,getL a es = some V∧V.map er = valueAt kvs a:=by
  have f:=h.find (a:=a)
  unfold getL
  cases q:es.find? (·.key.isStr a) with
  | some e=>rw [q] at f;exact ⟨some e.val,rfl,f⟩
  | none=>rw [q] at f;rw [h.noRef];exact ⟨none,rfl,f⟩
theorem stored_cons {K:Type} [DecidableEq K] (p:K×Value) (r:List (K×Value)) (k:K) (v:Value) (hp:p.1 ∉ r.map (·.1)):stored (p :: r) k v = if p.1 = k then (p.1,v) :: r else p :: stored r k v:=by
  unfold stored
  by_cases e:p.1 = k
  · simp only [List.any_cons,e,decide_true,Bool.true_or,if_true,List.map_cons]
    congr 1
    conv=>rhs;rw [← List.map_id r]
    apply List.map_congr_left
    intro q hq
    rw [if_neg]
    · rfl
    · intro h;exact hp (by rw [e,← h];exact List.mem_map_of_mem hq)
  · simp only [List.any_cons,e,decide_false,Bool.false_or,List.map_cons,if_false]
    split <;> rfl
theorem NsEs.put (h:NsEs w es kvs) (hnd:(kvs.map (·.1)).Nodup) {v:Value} {t:Tok}:NsEs w (putL a (PyData.keyHash w.params a) (.str a t) v es) (stored kvs a (er v)):=by
  unfold NsEs at *
  induction h with
  | nil=>exact .cons ⟨⟨t,rfl⟩,rfl,rfl⟩ .nil
  | cons h r ih =>
    rename_i e p es kvs
    obtain ⟨⟨t',ht⟩,hv,hh⟩:=h
    simp only [List.map_cons,List.nodup_cons] at hnd
    rw [stored_cons _ _ _ _ hnd.1]
    unfold putL
    rw [isStr_key ht]
    by_cases q:p.1 = a
    · simp only [q,decide_true,if_true]
      exact .cons ⟨⟨t',by rw [ht,q]⟩,rfl,by rw [hh,q]⟩ r
    · simp only [q,decide_false,if_false,Bool.false_eq_true]
      exact .cons ⟨⟨t',ht⟩,hv,hh⟩ (ih hnd.2)
theorem putL_len (x:Str) (hs:Int) (k v:Value):∀ es:List DictEntry,(putL x hs k v es).length≤es.length + 1
  | []=>by simp [putL]
  | e :: r=>by
    unfold putL
    split
    · simp
    · simp;exact putL_len x hs k v r
theorem NsEs.length (h:NsEs w es kvs):es.length = kvs.length:=by
  unfold NsEs at h
  induction h with
  | nil=>rfl
  | cons _ _ ih=>simp [ih]
end
structure ExcCls (K:PySem.W.Frag) (D:Addr):Prop where
  ga:findIn K (.ref D) "__getattribute__" = some (some (.builtin "BaseException.__getattribute__"))
  gr:findIn K (.ref D) "__getattr__" = some none
  fo:PySem.W.findObj K D none "__class__" = some (.bind (.builtin "getset_descriptor.__get__") (.builtin "object.__class__"))
  ob:PySem.W.mroIn K D (.type "object") = some true
  be:PySem.W.mroIn K D (.type "BaseException") = some true
  cl:(PySem.W.clsIn K D).isSome = true
  ty:PySem.W.typeIn K (.ref D) = some (.type "type")
  ve:subIn K (.ref D) (.type "ValueError") = some true
noncomputable abbrev veMro:List Value:=[.type "ValueError", .type "Exception", .type "BaseException", .type "object"]
noncomputable def OwnObj (h:Heap) (C:Addr):Prop:=∃ bm N nm q bs hdct sn sub ab col dd k0 k1 k2 k3 k5 mN,h.get? C = some (excClassObj nm q C N bs bm hdct sn sub ab col dd k0 k1 k2 k3 k5 "ValueError.__new__")∧h.Ns N mN∧mN "__init__" = none∧OwnTail h veMro bm
structure GxOk (P:Pm) (G:Gx):Prop where
  glob:∀ x v,G.glob x = some v→∃ V,er V = v∧(P.mg x = some V∨(P.mg x = none∧P.mb x = some V))
  fld:∀ C a,G.fld C a = true→plainGet P.K C a = true∧hasDictIn P.K C = true∧findIn P.K (.ref C) a = some none ∧
    findIn P.K (.ref C) "__setattr__" = some (some (.builtin "object.__setattr__"))∧plainOver P.K C = true∧takerIn P.K C a = some none
  meth:∀ C m f,G.meth C m = some f→plainGet P.K C m = true∧findIn P.K (.ref C) m = some (some (.ref f))∧isFn P.K (.ref f) = true
  init:∀ C f,G.init C = some f→makesIn P.K C = true∧findIn P.K (.ref C) "__init__" = some (some (.ref f))∧isFn P.K (.ref f) = true∧PySem.W.keepIn P.K (.ref C) = true
  exc:∀ C,G.isExc C = true→ExcCls P.K C
  sub:∀ C D,G.isExc C = true→G.isExc D = true→subIn P.K (.ref C) (.ref D) = some (G.sub C D)
  self:∀ C,G.isExc C = true→G.sub C C = true
  own:∀ C,G.isExc C = true→OwnObj P.base C
section
variable {P:Pm} {F:Fm} {G:Gx} {l:Loc} {H:Hp} {s:Shared} {E:Value→Shared→Prop} {Q:QV} {A' B' a b:Value}
theorem Inv.kin (Y:PmOk P) (K:FmOk P F) (I:Inv P F l H s):P.K.In s.heap:=Y.kin.keeps fun b o e=>I.keep b o (K.base b o e)
theorem ns_nodup {kvs:List (Str×Value)} {k:Str} {v:Value} (h:(kvs.map (·.1)).Nodup):((stored kvs k v).map (·.1)).Nodup:=by
  unfold stored
  split
  · rw [List.map_map]
    have:((fun x:Str×Value=>x.1) ∘ fun kv:Str×Value=>if kv.1 = k then (kv.1,v) else kv) = fun kv=>kv.1:=by
      funext kv;simp only [Function.comp];split <;> rfl
    rw [this];exact h
  · rename_i q
    rw [List.map_append]
    refine List.nodup_append.mpr ⟨h,by simp,fun a ha b hb e=>?_⟩
    simp at hb
    subst hb
    obtain ⟨p,hp,e2⟩:=List.mem_map.mp ha
    apply q
    rw [List.any_eq_true]
    exact ⟨p,hp,by simp [e2,e]⟩
theorem s_attr (Y:PmOk P) (GO:GxOk P G) (K:FmOk P F) (I:Inv P F l H s) {n:Str} {ex:Bool} (ha:er A' = a) (h:attrV G a n H Q):wpAny P.M F.A (getAttr A' n ex) (PostE P F l Q) E s:=by
  unfold attrV at h
  split at h
  · rename_i x;have:=er_ref ha;subst this
    split at h
    · rename_i C d hx
      split at h
      · rename_i kvs hd
        obtain ⟨hf,h⟩:=h
        obtain ⟨m,Fr,hm⟩:=I.fr K
        have ox:=I.objs _ _ hx
        obtain ⟨es,k,od,ne,_⟩:=I.objs _ _ hd
        obtain ⟨V,g1,g2⟩:=ne.get (a:=n)
        obtain ⟨f1,f2,f3,f4,f5,f6⟩:=GO.fld C n hf
        have II:PySem.W.InstAt s.heap x { cls:=.ref C,dict:=some d,data:=.plain } C (some (dictOf es.toList k)):=⟨ox,rfl,rfl,by simpa [dictOf] using od⟩
        cases V with
        | none=>rw [← g2] at h;exact h.elim
        | some V =>
          rw [← g2] at h
          refine PySem.W.get_own Fr Y.kin II f1 f2 f3 rfl g1 ?_ ⟨H,I.toks _, ?_⟩
          · cases V <;> first | rfl | exact h.elim
          · cases V <;> first | exact h | exact h.elim
      · exact h.elim
    · exact h.elim
  · exact h.elim
theorem s_setattr (Y:PmOk P) (GO:GxOk P G) (K:FmOk P F) (I:Inv P F l H s) {n:Str} {k:Hp→Prop} (ha:er A' = a) (hb:er B' = b) (h:setAttrV G a n b H k):wpAny P.M F.A (setAttr A' n B') (fun _ s'=>∃ H',Inv P F l H' s'∧k H') E s:=by
  unfold setAttrV at h
  split at h
  · rename_i x;have:=er_ref ha;subst this
    split at h
    · rename_i C d hx
      split at h
      · rename_i kvs hd
        obtain ⟨hf,hlen,h⟩:=h
        obtain ⟨m,Fr,hm⟩:=I.fr K
        have ox:=I.objs _ _ hx
        obtain ⟨es,ep,od,ne,nd⟩:=I.objs _ _ hd
        obtain ⟨V,g1,g2⟩:=ne.get (a:=n)
        obtain ⟨f1,f2,f3,f4,f5,f6⟩:=GO.fld C n hf
        have od':s.heap.get? d = some (dictOf es.toList ep):=by simpa [dictOf] using od
        have II:PySem.W.InstAt s.heap x { cls:=.ref C,dict:=some d,data:=.plain } C (some (dictOf es.toList ep)):=⟨ox,rfl,rfl,od'⟩
        have hdL:=(I.neL K hd)
        have hdB:P.base.get? d = none:=by
          cases q:P.base.get? d with
          | none=>rfl
          | some o=>have:=K.base _ _ q;rw [(of_fre (I.free _ _ hd) rfl).1] at this;cases this
        obtain ⟨pre,post,e,h1,h2⟩:=allNews_split (mem_allNews od' hdL hdB)
        have el:es.toList.length = kvs.length:=ne.length
        refine PySem.W.set_plain (I.kin Y K) II f4 (PySem.W.osa_dict (s:={ s with toks:=s.toks + 1 }) (K:=P.K) (es:=putL n (PyData.keyHash P.w.params n) (.str n (s.toks + 1)) B' es.toList) (n:=putN n es.toList ep)
          Fr (pre:=pre) (post:=post) (e ▸ news_all _ _ _) ((I.toks (s.toks + 1)).kin Y K) II rfl f5 f6 f2 (by rw [PySem.W.lookIn_dict,g1];rfl) h1 h2 (PySem.W.putName_dict ..) rfl ?_ fun h' F' N'=>?_)
        · have:=putL_len n (PyData.keyHash P.w.params n) (.str n (s.toks + 1)) B' es.toList
          omega
        · refine ⟨_,I.putL K (t:=s.toks + 1 + 1) hd (fun c O eo hc hL=>?_) F'.ns hm (o':=.ns (stored kvs n b)) ?_,h⟩
          · cases q:P.base.get? c with
            | some o'=>exact (F'.keep c o' q).trans (by rw [← eo];exact (I.keep c o' (K.base c o' q)).symm)
            | none =>
              have hm:=mem_allNews eo hL q
              rw [e] at hm
              refine (N' (c,O) ?_).1
              rcases List.mem_append.mp hm with q | q
              · exact List.mem_append_left _ q
              · rcases List.mem_cons.mp q with q | q
                · exact absurd (congrArg Prod.fst q) hc
                · exact List.mem_append_right _ (.tail _ q)
          · refine ⟨(putL n (PyData.keyHash P.w.params n) (.str n (s.toks + 1)) B' es.toList).toArray,putN n es.toList ep,(N' (d,dictOf _ _) (by simp)).1, ?_,ns_nodup nd⟩
            have:=ne.put (a:=n) (v:=B') (t:=s.toks + 1) nd
            rw [hb] at this
            simpa using this
      · exact h.elim
    · exact h.elim
  · exact h.elim
end
end Mine
end

section
open PySem PyProof.Rows PySem.Calls
namespace Mine
noncomputable def ExcAt (h:Heap) (e C:Addr) (T:Option Addr):Prop :=
  ∃ oe vs,h.get? e = some oe∧oe.cls = .ref C∧oe.data = .fields vs∧(oe.dict = none∧vs[2]? = some .none)∧(match T with
    | none=>vs[1]? = some .none
    | some t=>vs[1]? = some (.ref t)∧t≠e∧∃ ot ts,h.get? t = some ot∧ot.data = .fields ts∧3 < ts.size)
theorem dict_mapFields (f:Array Value→Array Value) (o:Obj):(o.mapFields f).dict = o.dict:=by
  unfold Obj.mapFields;split <;> rfl
structure Exc (P:Pm) (F:Fm) (H:Hp) (s:Shared) (e C:Addr) (b:Bool):Prop where
  big:True
  off:Off F H e
  at_:∃ T,ExcAt s.heap e C T∧(∀ t,T = some t→Off F H t)∧(b = true→T.isSome = true)
theorem Exc.weak {P:Pm} {F:Fm} {H:Hp} {s:Shared} {e C:Addr} {b:Bool} (x:Exc P F H s e C b):Exc P F H s e C false :=
  ⟨x.big,x.off,let ⟨T,h,o,_⟩:=x.at_;⟨T,h,o,fun q=>nomatch q⟩⟩
noncomputable def PostX (P:Pm) (F:Fm) (l:Loc) (X:XV):Value→Shared→Prop:=fun EV s'=>∃ H' e C,EV = .ref e∧Inv P F l H' s'∧Exc P F H' s' e C false∧X C H'
section
variable {P:Pm} {F:Fm} {G:Gx} {l:Loc} {H:Hp} {s:Shared} {E:Value→Shared→Prop}
theorem Inv.slotsOnly (K:FmOk P F) (I:Inv P F l H s) {S:List Addr} {h':Heap} (hS:∀ b∈S,b = F.env.locals∨(F.fr b).isSome = true) (x:Heap.SlotsOnly S s.heap h'):Inv P F l H { s with heap:=h' }:=by
  have out:∀ b,b≠F.env.locals→F.fr b = none→h'.get? b = s.heap.get? b:=fun b h1 h2=>x.2.1 b fun q=>(hS b q).elim h1 fun e=>by rw [h2] at e;cases e
  refine ⟨I.gens,I.os,fun b o e=>?_,fun b d e=>?_, ?_,fun y c e=>?_,fun a o e=>?_,I.free,I.big⟩
  · refine (out b (fun q=>?_) ?_).trans (I.keep b o e)
    · rw [q,K.lg] at e;cases e
    · cases q:F.fr b with
      | none=>rfl
      | some d=>rw [(K.fg b d q).1] at e;cases e
  · obtain ⟨o,ho,hd⟩:=I.frk b d e
    obtain ⟨sl,q⟩:=x.2.2 b o ho
    exact ⟨_,q,hd⟩
  · obtain ⟨m,⟨o,es,ep,ho,hd,r⟩,q⟩:=I.loc
    obtain ⟨sl,q'⟩:=x.2.2 _ o ho
    exact ⟨m,⟨_,es,ep,q',hd,r⟩,q⟩
  · obtain ⟨vo,⟨o,ho,hd⟩,q⟩:=I.cel y c e
    obtain ⟨sl,q'⟩:=x.2.2 _ o ho
    exact ⟨vo,⟨_,q',hd⟩,q⟩
  · exact (I.objs a o e).congr (out a (I.neL K e) (I.frN K e))
theorem frames_fun (K:FmOk P F) (I:Inv P F l H s) (base:Heap) (hb:∀ b,base.get? b = none):∀ {es:List Env},(∀ e∈es,e.scope.kind≠.module∧∃ b,e.frame = some b∧(b = F.env.locals∨(F.fr b).isSome = true))→s.heap.FunFrames base es
  | [],_=>trivial
  | e :: es,h=>by
    obtain ⟨h1,b,h2,h3⟩:=h e (.head _)
    refine ⟨h1, ?_,frames_fun K I base hb fun e he=>h e (.tail _ he)⟩
    rcases h3 with rfl | h3
    · obtain ⟨m,⟨o,es',ep,ho,hd,r⟩,q⟩:=I.loc
      exact ⟨_,o,h2,hb _,ho,fun vs e=>by rw [hd] at e;cases e⟩
    · obtain ⟨d,hd⟩:=Option.isSome_iff_exists.mp h3
      obtain ⟨o,ho,e⟩:=I.frk b d hd
      exact ⟨b,o,h2,hb _,ho,fun vs q=>(K.fg b d hd).2 vs (e ▸ q)⟩
theorem ExcAt.slots {S:List Addr} {h h':Heap} {e C:Addr} {T:Option Addr} (x:Heap.SlotsOnly S h h') (a:ExcAt h e C T):ExcAt h' e C T:=by
  obtain ⟨oe,vs,h1,h2,h3,h5,h4⟩:=a
  obtain ⟨sl,q⟩:=x.2.2 _ _ h1
  refine ⟨_,vs,q,h2,h3,h5, ?_⟩
  cases T with
  | none=>exact h4
  | some t =>
    obtain ⟨a1,a2,ot,ts,a3,a4,a5⟩:=h4
    obtain ⟨sl',q'⟩:=x.2.2 _ _ a3
    exact ⟨a1,a2,_,ts,q',a4,a5⟩
theorem s_entry (K:FmOk P F) (I:Inv P F l H s) (hro:F.ro = false) {e C:Addr} {T:Option Addr} (ha:ExcAt s.heap e C T) (hof:Off F H e) (hb:True) {head:Value} {hadNext:Bool} {Q:Unit→Shared→Prop}
    (h:∀ s',Inv P F l H s'→Exc P F H s' e C true→Q () s') :
    wpAny P.M F.A (do let a ← frameOf F.env;let pl ← entryPlaceOf F.env.locals hadNext;let b ← EntryCells.newEntry head a .none (rawInt F.env.locals) .none pl;setField (.ref e) 1 b) Q E s:=by
  obtain ⟨fenv,outer,hfr,hown,hall⟩:=K.frames
  obtain ⟨rfl,hf⟩:=hown hro
  have ff:=frames_fun K I {} (fun b=>rfl) hall
  refine wpAny_bind (wpAny_frameOf_fun hfr ff hf fun h₁ hs₁=>?_)
  have hS:∀ b∈(F.env :: outer).filterMap (·.frame),b = F.env.locals∨(F.fr b).isSome = true:=fun b hb=>by
    obtain ⟨e',he',q⟩:=List.mem_filterMap.mp hb
    obtain ⟨_,b',q',r⟩:=hall e' he'
    rw [q] at q';cases q';exact r
  have I₁:=I.slotsOnly K hS hs₁
  have a₁:=ha.slots hs₁
  refine wpAny_bind (wpAny_entryPlaceOf fun pl hpl=>?_)
  unfold EntryCells.newEntry newFields
  refine wpAny_bind (wpAny_newObj_type ?_ (hpl.sizeOk5 _ _ _ _ _))
  obtain ⟨oe,vs,h1,h2,h3,h5,h4⟩:=a₁
  have hsz:1 < vs.size:=by
    cases T with
    | none=>exact (Array.getElem?_eq_some_iff.mp h4).1
    | some t=>exact (Array.getElem?_eq_some_iff.mp h4.1).1
  generalize hot:({ cls:=.type "traceback",dict:=none,data:=.fields ([head, .ref F.env.locals, .none,rawInt F.env.locals, .none]++(if pl.isEmpty then List.replicate 6 Value.none else pl)).toArray }:Obj) = ot
  have I₂:=I₁.push ot
  have he₂:=Heap.get?_push_of_some (h:=h₁) ot h1
  have hof₂:Off F H h₁.objs.size:=I₁.ofSize K
  refine wpAny_setField he₂ h3 hsz (h _ ?_ ?_)
  · refine I₂.step (t:=s.toks) fun b o hb hn=>?_
    rw [Heap.get?_update_other _ _ (show e≠b from fun q=>hn (q ▸ hof))]
    exact hb
  · have hd:=Obj.data_mapFields h3 (·.setIfInBounds 1 (Value.ref h₁.objs.size))
    have hne:h₁.objs.size≠e:=Nat.ne_of_gt (Heap.lt_size h1)
    refine ⟨hb,hof,some h₁.objs.size,⟨_,_,Heap.get?_update_self _ he₂ (Obj.isFreed_of_fields hd),(Obj.cls_mapFields _ _).trans h2,hd,⟨(dict_mapFields _ _).trans h5.1,(Array.getElem?_setIfInBounds_ne (by decide)).trans h5.2⟩,by simp [hsz],hne,ot,([head, .ref F.env.locals, .none,rawInt F.env.locals, .none]++(if pl.isEmpty then List.replicate 6 Value.none else pl)).toArray, ?_, ?_, ?_⟩,fun t ht=>?_,fun _=>rfl⟩
    · rw [Heap.get?_update_other _ _ (Ne.symm hne)]
      exact Heap.get?_push_size _ (by rw [← hot];rfl)
    · rw [← hot]
    · simp only [List.size_toArray,List.length_append,List.length_cons,List.length_nil];exact Nat.lt_of_lt_of_le (show 3 < 0 + 1 + 1 + 1 + 1 + 1 by decide) (Nat.le_add_right ..)
    · cases ht;exact hof₂
theorem s_note (K:FmOk P F) (I:Inv P F l H s) (hro:F.ro = false) {e C:Addr} {b:Bool} (x:Exc P F H s e C b) {Q:Unit→Shared→Prop}
    (h:∀ s',Inv P F l H s'→Exc P F H s' e C true→Q () s'):wpAny P.M F.A (noteFrame (.ref e) F.env) Q E s:=by
  obtain ⟨fenv,outer,hfr,hown,hall⟩:=K.frames
  obtain ⟨_,hf⟩:=hown hro
  obtain ⟨hb,hof,T,ha,ht,_⟩:=x
  have ha':=ha
  obtain ⟨oe,vs,h1,h2,h3,h5,h4⟩:=ha
  unfold noteFrame
  simp only [hf]
  cases T with
  | none =>
    refine wpAny_bind (wpAny_field h1 h3 h4 ?_)
    rw [if_neg (by decide)]
    exact s_entry K I hro ha' hof hb h
  | some t =>
    obtain ⟨a1,a2,ot,ts,a3,a4,a5⟩:=h4
    refine wpAny_bind (wpAny_field h1 h3 a1 ?_)
    rw [if_pos (show (Value.ref t != Value.none) = true from by simp)]
    refine wpAny_bind (wpAny_field a3 a4 (Array.getElem?_eq_getElem a5) ?_)
    split
    · exact wpAny_pure (h s I ⟨hb,hof,some t,ha',ht,fun _=>rfl⟩)
    · refine wpAny_bind (wpAny_setField a3 a4 a5 ?_)
      have hoft:=ht t rfl
      have other:∀ c,c≠t→(s.heap.update t (Obj.mapFields (·.setIfInBounds 3 Value.none))).get? c = s.heap.get? c:=fun c hc=>Heap.get?_update_other _ _ (Ne.symm hc)
      have I₁:Inv P F l H { s with heap:=s.heap.update t (Obj.mapFields (·.setIfInBounds 3 Value.none)) }:=I.step (t:=s.toks) fun c o hc hn=>(other c fun q=>hn (q ▸ hoft)).trans hc
      have hd:=Obj.data_mapFields a4 (·.setIfInBounds 3 Value.none)
      refine s_entry K I₁ hro (T:=some t) ⟨oe,vs,(other e (Ne.symm a2)).trans h1,h2,h3,h5,a1,a2,_,_,Heap.get?_update_self _ a3 (Obj.isFreed_of_fields hd),hd,by simpa using a5⟩ hof hb h
theorem s_flight (I:Inv P F l H s) {e C:Addr} {b:Bool} (x:Exc P F H s e C b) {fo:Option Addr} {Q:Unit→Shared→Prop}
    (h:∀ s',Inv P F l H s'→Exc P F H s' e C b→Q () s'):wpAny P.M F.A (setFlight (.ref e) fo) Q E s:=by
  obtain ⟨hb,hof,T,ha,ht,hbt⟩:=x
  have ha':=ha
  obtain ⟨oe,vs,h1,h2,h3,h5,h4⟩:=ha
  unfold setFlight
  cases T with
  | none =>
    refine wpAny_bind (wpAny_field h1 h3 h4 ?_)
    rw [if_neg (by decide)]
    exact wpAny_pure (h s I ⟨hb,hof,none,ha',ht,hbt⟩)
  | some t =>
    obtain ⟨a1,a2,ot,ts,a3,a4,a5⟩:=h4
    refine wpAny_bind (wpAny_field h1 h3 a1 ?_)
    rw [if_pos (show (Value.ref t != Value.none) = true from by simp)]
    have hoft:=ht t rfl
    have other:∀ f c,c≠t→(s.heap.update t f).get? c = s.heap.get? c:=fun f c hc=>Heap.get?_update_other _ _ (Ne.symm hc)
    have hd:=Obj.data_mapFields a4 (·.setIfInBounds 3 (fo.elim Value.none fun f=>rawInt f))
    refine wpAny_setField a3 a4 a5 (h _ (I.step (t:=s.toks) fun c o hc hn=>(other _ c fun q=>hn (q ▸ hoft)).trans hc) ⟨hb,hof,some t,⟨oe,vs,(other _ e (Ne.symm a2)).trans h1,h2,h3,h5,a1,a2,_,_,Heap.get?_update_self _ a3 (Obj.isFreed_of_fields hd),hd,by simpa using a5⟩,ht,hbt⟩)
theorem s_leaving (K:FmOk P F) (I:Inv P F l H s) (hro:F.ro = false) {e C:Addr} {b:Bool} (x:Exc P F H s e C b) {Q:Unit→Shared→Prop}
    (h:∀ s',Inv P F l H s'→Exc P F H s' e C true→Q () s'):wpAny P.M F.A (leaving F.env (.ref e)) Q E s:=by
  unfold leaving
  exact wpAny_bind (s_note K I hro x fun s' I' x'=>s_flight I' x' h)
theorem s_cameBack (I:Inv P F l H s) {e C:Addr} (x:Exc P F H s e C true) (h:∀ s',Inv P F l H s'→Exc P F H s' e C true→E (.ref e) s'):cameBackBy P.M F.A F.env E (.ref e) s:=by
  obtain ⟨hb,hof,T,ha,ht,hbt⟩:=x
  have ha':=ha
  obtain ⟨oe,vs,h1,h2,h3,h5,h4⟩:=ha
  unfold cameBackBy
  cases T with
  | none=>simp at hbt
  | some t =>
    obtain ⟨a1,a2,r⟩:=h4
    refine wpAny_bind (wpAny_field h1 h3 a1 ?_)
    rw [if_neg (by simp)]
    exact s_flight I ⟨hb,hof,some t,ha',ht,fun _=>rfl⟩ h
end
end Mine
end

section
open PySem PyProof.Rows PySem.Calls
namespace Mine
noncomputable def isLoc (sc:Scope) (x:Str):Option Bool :=
  match sc.names.lookup x with
  | some .local | some .cell | some .free=>if x == ("__classdict__" : Str) || x == ("__debug__" : Str) then none else some true
  | some .globalImplicit=>if x == ("__debug__" : Str) then none else some false
  | _=>none
noncomputable def notSuper:Expr→Bool
  | .Call (.Name id _) _ _ _=>id != ("super" : Str)
  | _=>true
noncomputable def bltL:List (Str×Value):=[("len", .builtin "len"),("isinstance", .builtin "isinstance"),("list", .type "list"),("tuple", .type "tuple"),("sorted", .builtin "sorted"),("dict", .type "dict"),("int", .type "int"),("all", .builtin "all"),("max", .builtin "max"),("min", .builtin "min"),("range", .type "range"),("str", .type "str"),("bool", .type "bool"),("ValueError", .type "ValueError"),("set", .type "set")]
noncomputable def bltTab (x:Str):Option Value:=bltL.lookup x
noncomputable def compFine (sc scope:Scope) (x:Str):Bool :=
  scope.kind == .function && (scope.names.map (·.1)).Nodup && scope.names.all (fun y=>y.2 != .cell && (y.2 != .local || y.1 == x || y.1 == (".0" : Str)) && (y.2 != .free || sc.names.lookup y.1 == some .cell)) && scope.names.lookup x == some .local && x != lamX
end Mine
end

section
open PySem PyProof.Rows PySem.Calls
namespace Mine
noncomputable def Room (n:Nat) (A:Around):Prop:=A.depth + 2 * n + 2 < recursionLimit∧A.units + 30 * n + 200 < cLine
noncomputable def RoomC (n:Nat) (A:Around):Prop:=A.depth + 2 * n + 1 < recursionLimit∧A.units + 30 * n + 190 < cLine
theorem Room.c {n:Nat} {A:Around} (R:Room n A):RoomC n A:=⟨Nat.lt_of_succ_lt R.1,Nat.lt_of_le_of_lt (Nat.add_le_add_left (show 190≤200 by decide) _) R.2⟩
theorem Room.cmp {n:Nat} {A:Around} (R:Room n A):A.units + 64 < cLine:=Nat.lt_of_le_of_lt (Nat.add_le_add (Nat.le_add_right ..) (show 64≤200 by decide)) R.2
theorem RoomC.deep {n:Nat} {A:Around} (R:RoomC n A):A.depth < recursionLimit:=Nat.lt_of_le_of_lt (Nat.le_trans (Nat.le_add_right ..) (Nat.le_add_right ..)) R.1
theorem RoomC.in1 {n:Nat} {A:Around} (R:RoomC (n + 1) A):A.depth + 1 + 2 * n + 2 < recursionLimit:=by rw [Nat.add_right_comm A.depth 1];exact R.1
theorem RoomC.in2 {n:Nat} {A:Around} (R:RoomC (n + 1) A):A.units + 3 + 30 * n + 200 < cLine:=by rw [Nat.add_right_comm A.units 3];exact Nat.lt_of_le_of_lt (Nat.add_le_add_left (show 203≤220 by decide) (A.units + 30 * n)) R.2
noncomputable def HdK (F:Fm):Prop:=F.A.handled = none∨∃ e o vs,F.A.handled = some (.ref e)∧F.g e = some o∧o.data = .fields vs∧vs[2]? = some Value.none
noncomputable def HmOk (hm:Bool) (F:Fm):Prop:=HdK F∧(hm = false→F.A.handled = none)
noncomputable def PostC (P:Pm) (F:Fm) (l:Loc) (Q:QV) (X:XV):Result→Shared→Prop:=fun r s'=>match r with
  | .ok (.ret V)=>PostE P F l Q V s'
  | .ok _=>False
  | .error EV=>PostX P F l X EV s'
structure SndFn (P:Pm) (G:Gx) (n:Nat):Prop where
  keep:∀ {f hm args H Q X},G.fn f hm args H Q X→PySem.W.keepIn P.K (.ref f) = true
  run:∀ {f hm args H Q X},G.fn f hm args H Q X→∀ {F l s vals},FmOk P F→RoomC n F.A→HmOk hm F→Inv P F l H s→vals.map er = args →
    codeAny P.M F.A (.call (.ref f) ⟨vals,[]⟩) (PostC P F l Q X) s
structure BltOk (P:Pm):Prop where
  blt:∀ x v,bltTab x = some v→P.mg x = none∧P.mb x = some v
structure ScOk (sc:Scope) (F:Fm):Prop where
  loc:∀ x,isLoc sc x = some true→Own F.env x
  glob:∀ x,isLoc sc x = some false→F.env.kindOf x = some .globalImplicit
  locl:∀ x,sc.names.lookup x = some .local→F.env.kindOf x = some .local
  cell:∀ x,sc.names.lookup x = some .cell→F.env.kindOf x = some .cell∧∃ c,F.env.cells.lookup x = some c
section
variable {P:Pm} {F:Fm} {G:Gx} {n:Nat} {hm:Bool} {l:Loc} {H:Hp} {s:Shared}
theorem isLoc_true {sc:Scope} {x:Str} (h:isLoc sc x = some true):(x == ("__debug__" : Str)) = false∧(x == ("__classdict__" : Str)) = false:=by
  unfold isLoc at h
  split at h <;> first | (split at h <;> simp_all) | simp_all
theorem isLoc_false {sc:Scope} {x:Str} (h:isLoc sc x = some false):(x == ("__debug__" : Str)) = false:=by
  unfold isLoc at h
  split at h <;> first | (split at h <;> simp_all) | simp_all
noncomputable def SE (P:Pm) (G:Gx) (n:Nat) (hm:Bool) (sc:Scope) (e:Expr) (e':Ex):Prop :=
  ∀ ⦃F:Fm⦄ ⦃l:Loc⦄,FmOk P F→ScOk sc F→Room n F.A→HmOk hm F→∀ {H:Hp} {s:Shared} {Q:QV} {X:XV},Inv P F l H s→wpE G hm e' l H Q X→wpAny P.M F.A (eval e F.env) (PostE P F l Q) (PostX P F l X) s
noncomputable def SEs (P:Pm) (G:Gx) (n:Nat) (hm:Bool) (sc:Scope) (es:List Expr) (es':List Ex):Prop :=
  ∀ ⦃F:Fm⦄ ⦃l:Loc⦄,FmOk P F→ScOk sc F→Room n F.A→HmOk hm F→∀ {H:Hp} {s:Shared} {Q:List Value→Hp→Prop} {X:XV} {pos:Pos},Inv P F l H s→wpEs G hm es' l H Q X →
    wpAny P.M F.A (spliced (backTo pos (starEach es F.env))) (fun Vs s'=>∃ H',Inv P F l H' s'∧Q (Vs.map er) H') (PostX P F l X) s
noncomputable def ST (P:Pm) (G:Gx) (n:Nat) (hm:Bool) (sc:Scope) (e:Expr) (e':Ex):Prop :=
  ∀ ⦃F:Fm⦄ ⦃l:Loc⦄,FmOk P F→ScOk sc F→Room n F.A→HmOk hm F→∀ {H:Hp} {s:Shared} {k:Bool→Hp→Prop} {X:XV},Inv P F l H s→wpE G hm e' l H (fun v H'=>truthV v fun b=>k b H') X →
    wpAny P.M F.A (isTrue e F.env (eval e F.env)) (fun b s'=>∃ H',Inv P F l H' s'∧k b H') (PostX P F l X) s
theorem truth_of {V:Value} {k:Bool→Prop} (h:truthV (er V) k):∃ b,V = .bool b∧k b:=by
  unfold truthV at h
  split at h
  · rename_i b e;exact ⟨b,er_bool e,h⟩
  · exact h.elim
theorem SE.test {sc:Scope} {e:Expr} {e':Ex} (h:SE P G n hm sc e e') (he:∀ env whole,isTrue e env whole = (do let v ← whole;standAt e.pos;holding [v] (truthy v))):ST P G n hm sc e e':=by
  intro F l K S R HM H s k X I q
  rw [he]
  refine wpAny_bind (wpAny_mono (h K S R HM I q) (fun V s' z=>?_) fun _ _ z=>z)
  obtain ⟨H',I',z⟩:=z
  obtain ⟨b,rfl,z⟩:=truth_of z
  exact wpAny_bind (wpAny_standAt (wpAny_holding (wpAny_truthy_bool ⟨H',I',z⟩)))
theorem se_none {sc:Scope} {kk:Nat} {pos:Pos}:SE P G n hm sc (.Constant .none kk pos) .none:=fun F l K S R HM H s Q X I q=>wpAny_pure ⟨H,I,q⟩
theorem se_bool {sc:Scope} {b:Bool} {kk:Nat} {pos:Pos}:SE P G n hm sc (.Constant (.bool b) kk pos) (.bool b):=fun F l K S R HM H s Q X I q=>wpAny_pure ⟨H,I,q⟩
theorem se_int {sc:Scope} {i:Int} {kk:Nat} {pos:Pos}:SE P G n hm sc (.Constant (.int i) kk pos) (.int i):=fun F l K S R HM H s Q X I q=>wpAny_Constant_int ⟨H,I.toks _,q⟩
theorem se_str {sc:Scope} {x:Str} {kk:Nat} {pos:Pos}:SE P G n hm sc (.Constant (.str x) kk pos) (.str x):=fun F l K S R HM H s Q X I q=>wpAny_Constant_str ⟨H,I.toks _,q⟩
theorem se_loc {sc:Scope} {x:Str} {pos:Pos} (hl:isLoc sc x = some true):SE P G n hm sc (.Name x pos) (.loc x):=by
  intro F l K S R HM H s Q X I q
  have q:onSome (l x) (fun v=>Q v H):=q
  cases hv:l x with
  | none=>rw [hv] at q;exact (q:False).elim
  | some v=>rw [hv] at q;exact ld_loc K I hv (S.loc x hl) (isLoc_true hl).1 (isLoc_true hl).2 fun V e=>⟨H,I,e ▸ q⟩
theorem se_glob (Y:PmOk P) (GO:GxOk P G) {sc:Scope} {x:Str} {pos:Pos} (hl:isLoc sc x = some false):SE P G n hm sc (.Name x pos) (.glob x):=by
  intro F l K S R HM H s Q X I q
  have q:onSome (G.glob x) (fun v=>Q v H):=q
  cases hv:G.glob x with
  | none=>rw [hv] at q;exact (q:False).elim
  | some v =>
    rw [hv] at q
    obtain ⟨V,rfl,hV⟩:=GO.glob x v hv
    exact ld_glob Y K I hV (S.glob x hl) (isLoc_false hl) ⟨H,I,q⟩
theorem attrBase {o:Expr} {a:Str} {env:Env} {whole:Sem Value} {M:Model} {A:Around} {Q:Value→Shared→Prop} {E:Value→Shared→Prop} {s:Shared} (h:notSuper o = true) (q:wpAny M A whole Q E s):wpAny M A (attributeBase o a env whole) Q E s:=by
  unfold attributeBase
  split
  · have h':(_ != ("super" : Str)) = true:=h
    rw [if_pos (by rw [h'];rfl)]
    exact q
  · exact q
theorem se_attr (Y:PmOk P) (GO:GxOk P G) {sc:Scope} {v:Expr} {v':Ex} {a:Str} {pos:Pos} (hs:notSuper v = true) (h:SE P G n hm sc v v'):SE P G n hm sc (.Attribute v a pos) (.attr v' a):=by
  intro F l K S R HM H s Q X I q
  show wpAny P.M F.A (do let o ← attributeBase v a F.env (eval v F.env);standAt pos.atName;let r ← holding [o] (getAttr o a true);letTemporaryGo v o r;pure r) _ _ s
  conv at q=>whnf
  refine wpAny_bind (attrBase hs (wpAny_mono (h K S R HM I q) (fun V s' z=>?_) fun _ _ z=>z))
  obtain ⟨H',I',z⟩:=z
  exact wpAny_bind (wpAny_standAt (wpAny_bind (wpAny_holding (wpAny_mono (s_attr Y GO K I' rfl z) (fun V' s'' y=>wpAny_bind (wpAny_letTemporaryGo (wpAny_pure y))) fun _ _ z=>z))))
theorem se_bin {sc:Scope} {x y:Expr} {x' y':Ex} {op:Operator} {pos:Pos} (hx:SE P G n hm sc x x') (hy:SE P G n hm sc y y'):SE P G n hm sc (.BinOp x op y pos) (.bin op x' y'):=by
  intro F l K S R HM H s Q X I q
  conv at q=>whnf
  refine wpAny_BinOp (wpAny_mono (hx K S R HM I q) (fun V s' z=>?_) fun _ _ z=>z)
  obtain ⟨H',I',z⟩:=z
  refine wpAny_mono (hy K S R HM I' z) (fun V' s'' z=>?_) fun _ _ z=>z
  obtain ⟨H'',I'',z⟩:=z
  exact s_bin K I'' op rfl rfl z
theorem se_neg {sc:Scope} {x:Expr} {x':Ex} {pos:Pos} (hx:SE P G n hm sc x x'):SE P G n hm sc (.UnaryOp .USub x pos) (.neg x'):=by
  intro F l K S R HM H s Q X I q
  conv at q=>whnf
  show wpAny P.M F.A (do let v ← eval x F.env;standAt pos;holding [v] (unaryOp .USub v)) _ _ s
  refine wpAny_bind (wpAny_mono (hx K S R HM I q) (fun V s' z=>?_) fun _ _ z=>z)
  obtain ⟨H',I',z⟩:=z
  refine wpAny_bind (wpAny_standAt (wpAny_holding ?_))
  split at z
  · rename_i i _ e
    obtain ⟨_,rfl⟩:=er_int e
    exact neg_int ⟨H',I'.toks _,z⟩
  · exact z.elim
theorem st_not {sc:Scope} {x:Expr} {x':Ex} {pos:Pos} (hx:ST P G n hm sc x x'):ST P G n hm sc (.UnaryOp .Not x pos) (.not x'):=by
  intro F l K S R HM H s k X I q
  conv at q=>whnf
  show wpAny P.M F.A (do return !(← isTrue x F.env (eval x F.env))) _ _ s
  exact wpAny_bind (wpAny_mono (hx K S R HM I q) (fun V s' z=>wpAny_pure z) fun _ _ z=>z)
theorem se_cmp (Y:PmOk P) {sc:Scope} {x y:Expr} {x' y':Ex} {op:CmpOp} {pos:Pos} (hx:SE P G n hm sc x x') (hy:SE P G n hm sc y y') (hb:behindInMarks op y = false):SE P G n hm sc (.Compare x [op] [y] pos) (.cmp x' op y'):=by
  intro F l K S R HM H s Q X I q
  conv at q=>whnf
  refine wpAny_Compare1 (wpAny_mono (hx K S R HM I q) (fun V s' z=>?_) fun _ _ z=>z) hb
  obtain ⟨H',I',z⟩:=z
  refine wpAny_mono (hy K S R HM I' z) (fun V' s'' z=>?_) fun _ _ z=>z
  obtain ⟨H'',I'',z⟩:=z
  exact s_cmp Y I'' R.cmp op rfl rfl z
theorem st_cmp (Y:PmOk P) {sc:Scope} {x y:Expr} {x' y':Ex} {op:CmpOp} {pos:Pos} (hx:SE P G n hm sc x x') (hy:SE P G n hm sc y y') (hb:behindInMarks op y = false):ST P G n hm sc (.Compare x [op] [y] pos) (.cmp x' op y'):=by
  intro F l K S R HM H s k X I q
  conv at q=>whnf
  refine wpAny_isTrue_Compare1 (wpAny_mono (hx K S R HM I q) (fun V s' z=>?_) fun _ _ z=>z) hb
  obtain ⟨H',I',z⟩:=z
  refine wpAny_mono (hy K S R HM I' z) (fun V' s'' z=>?_) fun _ _ z=>z
  obtain ⟨H'',I'',z⟩:=z
  refine wpAny_mono (s_cmp Y I'' R.cmp op rfl rfl z) (fun V s' z=>?_) fun _ _ z=>z
  obtain ⟨H',I',z⟩:=z
  obtain ⟨b,rfl,z⟩:=truth_of z
  exact wpAny_truthy_bool ⟨H',I',z⟩
theorem st_cmp2 (Y:PmOk P) {sc:Scope} {x y z:Expr} {x' y' z':Ex} {op op2:CmpOp} {pos:Pos} (hx:SE P G n hm sc x x') (hy:SE P G n hm sc y y') (hz:SE P G n hm sc z z') (hb:behindInMarks op2 z = false) :
    ST P G n hm sc (.Compare x [op,op2] [y,z] pos) (.cmp2 x' op y' op2 z'):=by
  intro F l K S R HM H s k X I q
  conv at q=>whnf
  refine isTrue_chain (wpAny_mono (hx K S R HM I q) (fun V s' q=>?_) fun _ _ z=>z) hb
  obtain ⟨H1,I1,q⟩:=q
  unfold testChain
  refine wpAny_bind (wpAny_holding (wpAny_mono (hy K S R HM I1 q) (fun V2 s2 q=>?_) fun _ _ z=>z))
  obtain ⟨H2,I2,q⟩:=q
  refine wpAny_bind (wpAny_standAt (wpAny_bind (wpAny_holding (wpAny_mono (s_cmp Y I2 R.cmp op rfl rfl q) (fun V3 s3 q=>?_) fun _ _ z=>z))))
  obtain ⟨H3,I3,q⟩:=q
  obtain ⟨b,rfl,q⟩:=truth_of q
  refine wpAny_bind (wpAny_release' (wpAny_bind (wpAny_holding (wpAny_truthy_bool ?_))))
  cases b with
  | false =>
    simp only [Bool.false_eq_true,if_false] at q ⊢
    exact wpAny_pure ⟨H3,I3,q⟩
  | true =>
    simp only [if_true] at q ⊢
    unfold testChain
    refine wpAny_bind (wpAny_holding (wpAny_mono (hz K S R HM I3 q) (fun V4 s4 q=>?_) fun _ _ z=>z))
    obtain ⟨H4,I4,q⟩:=q
    refine wpAny_bind (wpAny_standAt (wpAny_bind (wpAny_operate' (wpAny_mono (s_cmp Y I4 R.cmp op2 rfl rfl q) (fun V5 s5 q=>?_) fun _ _ z=>z))))
    obtain ⟨H5,I5,q⟩:=q
    obtain ⟨b,rfl,q⟩:=truth_of q
    exact wpAny_holding (wpAny_truthy_bool ⟨H5,I5,q⟩)
theorem idx_type {Q:QV} {V k:Value} (I:Inv P F l H s) (q:idxV (er V) k H Q):∃ T id,s.TypeIs V T∧typeLookup (.type T) (Str.ofString "__getitem__") = pure (some (.builtin id)):=by
  unfold idxV at q
  split at q
  · rename_i a _ _ e;have:=er_ref e;subst this
    split at q
    · rename_i hx;obtain ⟨vs,hl,_⟩:=I.objs _ _ hx;exact ⟨_,_,hl.typeIs,slot_list_getitem.lookup⟩
    · rename_i hx;obtain ⟨vs,hl,_⟩:=I.objs _ _ hx;exact ⟨_,_,hl.typeIs,slot_list_getitem.lookup⟩
    · rename_i hx;obtain ⟨vs,⟨o,ho,hc,_⟩,_⟩:=I.objs _ _ hx;exact ⟨"tuple",_,⟨o,ho,hc⟩,slot_tuple_getitem.lookup⟩
    · rename_i hx;obtain ⟨vs,hl,_⟩:=I.objs _ _ hx;exact ⟨_,_,hl.mapOf.typeIs,slot_dict_getitem.lookup⟩
    · exact q.elim
  · rename_i x _ _ _ e;obtain ⟨_,rfl⟩:=er_str e
    exact ⟨"str",_,rfl,PySem.F.slot_str_getitem.lookup⟩
  · exact q.elim
theorem se_idx {sc:Scope} {x y:Expr} {x' y':Ex} {pos:Pos} (hx:SE P G n hm sc x x') (hy:SE P G n hm sc y y') (hsl:∀ o i,subscripted y false o i = operate [o,i] (getItem o i)):SE P G n hm sc (.Subscript x y pos) (.idx x' y'):=by
  intro F l K S R HM H s Q X I q
  conv at q=>whnf
  refine Subscript_ (wpAny_mono (hx K S R HM I q) (fun V s' q=>?_) fun _ _ z=>z)
  obtain ⟨H1,I1,q⟩:=q
  refine wpAny_mono (hy K S R HM I1 q) (fun V2 s2 q=>?_) fun _ _ z=>z
  obtain ⟨H2,I2,q⟩:=q
  obtain ⟨T,id,h1,h2⟩:=idx_type I2 q
  exact tail_any h1 h2 (s_idx I2 rfl rfl q) (hsl _ _)
noncomputable def SO (P:Pm) (G:Gx) (n:Nat) (hm:Bool) (sc:Scope) (e:Option Expr) (e':Option Ex):Prop :=
  ∀ ⦃F:Fm⦄ ⦃l:Loc⦄,FmOk P F→ScOk sc F→Room n F.A→HmOk hm F→∀ {H:Hp} {s:Shared} {Q:QV} {X:XV},Inv P F l H s→wpO G hm e' l H Q X→wpAny P.M F.A (evalPart e F.env) (PostE P F l Q) (PostX P F l X) s
theorem so_none {sc:Scope}:SO P G n hm sc none none:=by
  intro F l K S R HM H s Q X I q
  simp only [wpO] at q
  exact wpAny_evalPart_none ⟨H,I,q⟩
theorem so_some {sc:Scope} {e:Expr} {e':Ex} (h:SE P G n hm sc e e'):SO P G n hm sc (some e) (some e'):=by
  intro F l K S R HM H s Q X I q
  simp only [wpO] at q
  exact wpAny_evalPart_some (h K S R HM I q)
theorem s_slice (K:FmOk P F) (I:Inv P F l H s) {E:Value→Shared→Prop} {Q:QV} {o lo hi:Value} {A' L' U':Value} {sl:Addr} (hs:s.heap.IsSliceOf sl L' U' .none) (ha:er A' = o) (hl:er L' = lo) (hu:er U' = hi) (h:sliceV o lo hi H Q) :
    wpAny P.M F.A (getItem A' (.ref sl)) (PostE P F l Q) E s:=by
  unfold sliceV at h
  split at h
  · rename_i a b ea eb
    have pa:=partOf_er (V:=L') (by rw [hl];exact ea)
    have pb:=partOf_er (V:=U') (by rw [hu];exact eb)
    split at h
    · rename_i x;have:=er_ref ha;subst this
      split at h
      · rename_i xs hx
        obtain ⟨vs,hL,rfl,z⟩:=I.objs _ _ hx
        simp only [List.length_map,Array.length_toList] at h z
        refine wpAny_getItem_list_slice hL hs pa pb .none (by simp) ⟨_,I.alloc K (t:=s.toks) (mt_list ⟨0,Heap.get?_push_size _ rfl⟩ ?_), ?_⟩ h.1
        · have h1:=pySlice_len vs.toList a b
          have h2:slicePick vs a b none = (pySlice vs.toList a b).toArray:=by
            unfold slicePick
            rw [← slicePick_eq]
            simp only [Array.getElem?_toList,Array.length_toList]
          rw [h2]
          simp only [Array.length_toList] at h1
          simp;first | exact Nat.le_trans h1 z.1 | exact Nat.le_trans h1 z
        · have h2:slicePick vs a b none = (pySlice vs.toList a b).toArray:=by
            unfold slicePick
            rw [← slicePick_eq]
            simp only [Array.getElem?_toList,Array.length_toList]
          have:=h.2 _ I.fresh
          rw [pySlice_map] at this
          rw [h2]
          exact this
      · exact h.elim
    · rename_i x _;obtain ⟨t,rfl⟩:=er_str ha
      have hp:∀ {V:Value} {i:Option Int},IsPart V i→∃ l',partValue l' = V∧l'.map (·.1) = i:=by
        intro V i hV
        cases hV with
        | none=>exact ⟨none,rfl,rfl⟩
        | int i t=>exact ⟨some (i,t),rfl,rfl⟩
      obtain ⟨l',e1,h2⟩:=hp pa
      obtain ⟨u',e2,h3⟩:=hp pb
      obtain ⟨o,o1,o2,o3⟩:=hs
      refine wpAny_getItem_str_slice (l:=l') (u:=u') (st:=none) ⟨o,o1,o2,by rw [o3,e1,e2];rfl⟩ rfl ?_
      have hlen:x.cps.toList.length = x.length:=by simp [Str.length]
      have idx:slicePicked x l' u' none = (List.range (hiAt x.length b - loAt x.length a)).map fun k=>loAt x.length a + k:=by
        unfold slicePicked
        rw [h2,h3,← sliceIdx]
        rfl
      have pk:(slicePicked x l' u' none).filterMap (x.cps[·]?) = pySlice x.cps.toList a b:=by
        rw [← slicePick_eq,sliceIdx,hlen,idx]
        simp only [Array.getElem?_toList]
      have q:=h.2
      unfold sliceMade
      split
      · rename_i hc
        have hc:(slicePicked x l' u' none).length = x.length:=by simpa using hc
        rw [idx] at hc
        simp only [List.length_map,List.length_range] at hc
        have w:=pySlice_whole x.cps.toList a b (by rw [hlen];exact hc)
        rw [w] at q
        exact ⟨H,I,q⟩
      · rw [pk]
        refine ⟨?_,H,I.toks _,q⟩
        have:=pySlice_len x.cps.toList a b
        have h1:=h.1
        rw [hlen] at this
        show (pySlice x.cps.toList a b).toArray.size≤sizeLine
        simp only [List.size_toArray]
        exact Nat.le_trans this h1
    · exact h.elim
  · exact h.elim
theorem slice_type {Q:QV} {V a b:Value} (I:Inv P F l H s) (q:sliceV (er V) a b H Q):∃ T id,s.TypeIs V T∧typeLookup (.type T) (Str.ofString "__getitem__") = pure (some (.builtin id)):=by
  unfold sliceV at q
  split at q
  · split at q
    · rename_i e;have:=er_ref e;subst this
      split at q
      · rename_i hx;obtain ⟨vs,hl,_⟩:=I.objs _ _ hx;exact ⟨_,_,hl.typeIs,slot_list_getitem.lookup⟩
      · exact q.elim
    · rename_i e;obtain ⟨_,rfl⟩:=er_str e
      exact ⟨"str",_,rfl,PySem.F.slot_str_getitem.lookup⟩
    · exact q.elim
  · exact q.elim
theorem se_slice {sc:Scope} {x:Expr} {x':Ex} {lo hi:Option Expr} {lo' hi':Option Ex} {p pos:Pos} (hx:SE P G n hm sc x x') (hl:SO P G n hm sc lo lo') (hh:SO P G n hm sc hi hi') :
    SE P G n hm sc (.Subscript x (.Slice lo hi none p) pos) (.slice x' lo' hi'):=by
  intro F l K S R HM H s Q X I q
  conv at q=>whnf
  refine Subscript_ (wpAny_mono (hx K S R HM I q) (fun V s' q=>?_) fun _ _ z=>z)
  obtain ⟨H1,I1,q⟩:=q
  refine wpAny_Slice (wpAny_mono (hl K S R HM I1 q) (fun V2 s2 q=>?_) fun _ _ z=>z)
  obtain ⟨H2,I2,q⟩:=q
  refine wpAny_mono (hh K S R HM I2 q) (fun V3 s3 q=>?_) fun _ _ z=>z
  obtain ⟨H3,I3,q⟩:=q
  refine wpAny_evalPart_none ?_
  have I4:=I3.push { cls:=.type "slice",data:=.fields #[V2,V3, .none] }
  have ty:=slice_type I4 q
  obtain ⟨T,id,h1,h2⟩:=ty
  exact tail_any h1 h2 (s_slice K I4 (Heap.IsSliceOf.new _ _ _ _) rfl rfl rfl q) rfl
end
end Mine
end

section
open PySem PyProof.Rows PySem.Calls
namespace Mine
section
variable {P:Pm} {F:Fm} {G:Gx} {n:Nat} {hm:Bool} {l:Loc} {H:Hp} {s:Shared}
noncomputable def notStar:Expr→Bool
  | .Starred ..=>false
  | _=>true
theorem star_cons {e:Expr} {es:List Expr} {env:Env} (h:notStar e = true):starEach (e :: es) env = (false,eval e env) :: starEach es env:=by
  cases e <;> first | rfl | cases h
theorem ses_nil {sc:Scope}:SEs P G n hm sc [] []:=by
  intro F l K S R HM H s Q X pos I q
  conv at q=>whnf
  exact spliced_nil ⟨H,I,q⟩
theorem ses_cons {sc:Scope} {e:Expr} {e':Ex} {es:List Expr} {es':List Ex} (hn:notStar e = true) (h:SE P G n hm sc e e') (r:SEs P G n hm sc es es'):SEs P G n hm sc (e :: es) (e' :: es'):=by
  intro F l K S R HM H s Q X pos I q
  conv at q=>whnf
  rw [star_cons hn]
  refine spliced_cons (wpAny_mono (h K S R HM I q) (fun V s' q=>?_) fun _ _ z=>z)
  obtain ⟨H1,I1,q⟩:=q
  exact wpAny_mono (r K S R HM I1 q) (fun Vs s'' z=>z) fun _ _ z=>z
noncomputable def STs (P:Pm) (G:Gx) (n:Nat) (hm:Bool) (sc:Scope) (es:List Expr) (es':List Ex):Prop :=
  ∀ ⦃F:Fm⦄ ⦃l:Loc⦄,FmOk P F→ScOk sc F→Room n F.A→HmOk hm F→∀ {H:Hp} {s:Shared} {k:Bool→Hp→Prop} {X:XV} {op:BoolOp},Inv P F l H s→wpB G hm (op == .And) es' l H (fun v H'=>truthV v fun b=>k b H') X →
    wpAny P.M F.A (allTrue op es F.env) (fun b s'=>∃ H',Inv P F l H' s'∧k b H') (PostX P F l X) s
theorem sts_nil {sc:Scope}:STs P G n hm sc [] []:=by
  intro F l K S R HM H s k X op I q
  simp only [wpB,truthV] at q
  exact wpAny_pure ⟨H,I,q⟩
theorem sts_cons {sc:Scope} {e:Expr} {e':Ex} {es:List Expr} {es':List Ex} (hl:es' = []→es = []) (h:ST P G n hm sc e e') (r:STs P G n hm sc es es'):STs P G n hm sc (e :: es) (e' :: es'):=by
  intro F l K S R HM H s k X op I q
  rw [wpB] at q
  show wpAny P.M F.A (do match op,← isTrue e F.env (eval e F.env) with | .And,false=>pure false | .Or,true=>pure true | _,_=>allTrue op es F.env) _ _ s
  refine wpAny_bind (wpAny_mono (h K S R HM I q) (fun b s' q=>?_) fun _ _ z=>z)
  obtain ⟨H1,I1,q⟩:=q
  cases op <;> cases b <;> simp only [beq_self_eq_true,if_true,show ((BoolOp.Or == BoolOp.And) = false) from rfl,Bool.false_eq_true,if_false,reduceCtorEq] at q ⊢
  · exact wpAny_pure ⟨H1,I1,q⟩
  · cases es' with
    | nil=>rw [hl rfl];exact wpAny_pure ⟨H1,I1,q⟩
    | cons a as=>exact r K S R HM I1 q
  · cases es' with
    | nil=>rw [hl rfl];exact wpAny_pure ⟨H1,I1,q⟩
    | cons a as=>exact r K S R HM I1 q
  · exact wpAny_pure ⟨H1,I1,q⟩
theorem st_bop {sc:Scope} {op:BoolOp} {es:List Expr} {es':List Ex} {pos:Pos} (h:STs P G n hm sc es es'):ST P G n hm sc (.BoolOp op es pos) (.bop (op == .And) es'):=by
  intro F l K S R HM H s k X I q
  conv at q=>whnf
  exact h K S R HM I q
theorem se_list {sc:Scope} {es:List Expr} {es':List Ex} {pos:Pos} (h:SEs P G n hm sc es es'):SE P G n hm sc (.List es pos) (.list es'):=by
  intro F l K S R HM H s Q X I q
  conv at q=>whnf
  refine List_ (wpAny_mono (h K S R HM I q) (fun Vs s' q=>?_) fun _ _ z=>z)
  obtain ⟨H1,I1,hz,q⟩:=q
  simp only [List.length_map] at hz
  have hz':=hz
  simp only [sizeLine] at hz'
  refine wpAny_newList ⟨_,I1.alloc K (t:=s'.toks) (mt_list ⟨0,Heap.get?_push_size _ rfl⟩ ?_),q _ I1.fresh⟩ hz
  simp;exact Nat.le_trans hz' (by decide)
theorem se_tup {sc:Scope} {es:List Expr} {es':List Ex} {pos:Pos} {kk:Nat} (h:SEs P G n hm sc es es'):SE P G n hm sc (.Tuple es kk pos) (.tup es'):=by
  intro F l K S R HM H s Q X I q
  conv at q=>whnf
  refine Tuple_ (wpAny_mono (h K S R HM I q) (fun Vs s' q=>?_) fun _ _ z=>z)
  obtain ⟨H1,I1,hz,q⟩:=q
  simp only [List.length_map] at hz
  have hz':=hz
  simp only [sizeLine] at hz'
  refine wpAny_newTuple ⟨_,I1.alloc K (t:=s'.toks) (mt_tup ⟨_,Heap.get?_push_size _ rfl,rfl,0,rfl⟩ ?_),q _ I1.fresh⟩ hz
  simp;exact Nat.le_trans hz' (by decide)
theorem evalArgs_any {M:Model} {A:Around} {E:Value→Shared→Prop} {s:Shared} {f:Value} {env:Env} {es:List Expr} {pos:Pos} {Q:Args→Shared→Prop} (hs:es.all notStar = true)
    (h:wpAny M A (spliced (backTo pos (starEach es env))) (fun vs s'=>Q ⟨vs,[]⟩ s') E s):wpAny M A (evalArgs f true (backTo pos (starEach es env)) []) Q E s:=by
  cases es with
  | nil =>
    unfold evalArgs
    show wpAny M A (spliced [] >>= _) Q E s
    refine wpAny_bind (wpAny_mono h (fun vs s' z=>?_) fun _ _ z=>z)
    refine wpAny_bind (wpAny_pure ?_)
    refine wpAny_holding ?_
    show wpAny M A (evalAll [] >>= _) Q E s'
    exact wpAny_bind (wpAny_pure (wpAny_bind (wpAny_pure (wpAny_pure z))))
  | cons e es =>
    rw [star_cons (by simp at hs;exact hs.1)] at h ⊢
    exact evalArgs_plain h
theorem backTo_plain {env:Env} {pos:Pos}:∀ {es:List Expr},es.all notStar = true→(backTo pos (starEach es env)).any (·.1) = false
  | [],_=>rfl
  | e :: es,h=>by
    simp at h
    rw [star_cons h.1]
    show (false || (backTo pos (starEach es env)).any (·.1)) = false
    rw [backTo_plain (by simpa using h.2)];rfl
theorem callWith_any {M:Model} {A:Around} {E:Value→Shared→Prop} {s:Shared} {f:Value} {env:Env} {first:List Value} {es:List Expr} {pos:Pos} {Q:Value→Shared→Prop} (hs:es.all notStar = true)
    (h:wpAny M A (spliced (backTo pos (starEach es env))) (fun vs s'=>(∃ k,(k = Keeper.frame∨k = Keeper.machine)∧PySem.W.Looks M s'.heap (keeperOf f) k)∧wpAny M A (call f (first++vs)) Q E s') E s) :
    wpAny M A (callWith pos f first (backTo pos (starEach es env)) []) Q E s:=by
  unfold callWith
  refine wpAny_bind (wpAny_holding (evalArgs_any hs (wpAny_mono h (fun vs s' q=>?_) fun _ _ z=>z)))
  refine wpAny_bind (wpAny_standAt ?_)
  obtain ⟨⟨k,hk,lk⟩,q⟩:=q
  simp only [backTo_plain hs,List.any_nil,Bool.or_false]
  refine wpAny_bind (lk.here ?_)
  rcases hk with rfl | rfl
  · dsimp only
    split
    · exact wpAny_bind (wpAny_mono q (fun v s'' z=>wpAny_bind (wpAny_holding (wpAny_point (wpAny_pure z)))) fun _ _ z=>z)
    · unfold callMarked
      exact wpAny_bind (wpAny_keep (wpAny_mono q (fun v s'' z=>wpAny_bind (wpAny_holding (wpAny_point (wpAny_pure z)))) fun _ _ z=>z))
  · exact wpAny_bind (wpAny_mono q (fun v s'' z=>wpAny_bind (wpAny_holding (wpAny_point (wpAny_pure z)))) fun _ _ z=>z)
end
end Mine
end

section
open PySem PyProof.Rows PySem.Calls
namespace Mine
theorem strs_vals:∀ (vs xs:List Value) (ss:List Str),vs.map er = xs→strsOf xs = some ss→∃ l:List (Str×Tok),vs = strValues l∧l.map (·.1) = ss
  | [],_,ss,e,h=>by subst e;cases h;exact ⟨[],rfl,rfl⟩
  | V :: vs,_,ss,e,h=>by
    subst e
    cases V <;> simp only [List.map_cons,er,strsOf] at h <;> first | (cases h;done) | skip
    obtain ⟨r,hr,rfl⟩:=Option.map_eq_some_iff.1 h
    obtain ⟨l,e1,e2⟩:=strs_vals vs _ r rfl hr
    rename_i x t
    exact ⟨(x,t) :: l,by rw [e1];rfl,by rw [← e2];rfl⟩
section
variable {P:Pm} {F:Fm} {G:Gx} {n:Nat} {hm:Bool} {l:Loc} {H:Hp} {s:Shared}
theorem Inv.withA (I:Inv P F l H s) (A:Around):Inv P { F with A:=A } l H s:=⟨I.gens,I.os,I.keep,I.frk,I.loc,I.cel,I.objs,I.free,I.big⟩
theorem Inv.ofA {A:Around} (I:Inv P { F with A:=A } l H s):Inv P F l H s:=⟨I.gens,I.os,I.keep,I.frk,I.loc,I.cel,I.objs,I.free,I.big⟩
theorem Off.ofA {A:Around} {a:Addr} (x:Off { F with A:=A } H a):Off F H a:=⟨x.h,x.g,x.fr,x.l,x.c⟩
theorem Exc.ofA {A:Around} {e C:Addr} {b:Bool} (x:Exc P { F with A:=A } H s e C b):Exc P F H s e C b:=⟨x.big,x.off.ofA,let ⟨T,h1,h2,h3⟩:=x.at_;⟨T,h1,fun t ht=>(h2 t ht).ofA,h3⟩⟩
theorem PostX.ofA {A:Around} {X:XV} {V:Value} (h:PostX P { F with A:=A } l X V s):PostX P F l X V s:=let ⟨H',e,C,q,I,x,z⟩:=h;⟨H',e,C,q,I.ofA,x.ofA,z⟩
theorem FmOk.withA (K:FmOk P F) {A:Around} (h:A.frames = F.A.frames) (hx:F.x = none∨A.handled = F.A.handled):FmOk P { F with A:=A } :=
  ⟨K.kind,K.glob,K.blt,K.base,K.above,K.lg,K.lf,K.cl,K.cg,K.apart,K.cn,K.cf,K.fg,let ⟨f,o,a,b,c⟩:=K.frames;⟨f,o,h.trans a,b,c⟩,fun a e=>⟨(K.xg a e).1,hx.elim (fun z=>by rw [z] at e;cases e) fun z=>z.trans (K.xg a e).2⟩,K.code⟩
theorem tc_weight (a:Addr) (Vs:List Value):(Code.builtin "type.__call__" ⟨.ref a :: Vs,[]⟩).weight = 1:=by
  unfold Code.weight
  rw [show (Code.builtin "type.__call__" ⟨.ref a :: Vs,[]⟩).frames = 0 from rfl,show (Code.builtin "type.__call__" ⟨.ref a :: Vs,[]⟩).isCreation = true from rfl,
    show (Code.builtin "type.__call__" ⟨.ref a :: Vs,[]⟩).isGuard = false from by show guardIds.contains "type.__call__" = false;decide +kernel,show (Code.builtin "type.__call__" ⟨.ref a :: Vs,[]⟩).isCaller = false from rfl]
  rfl
theorem tc_room {A:Around} (R:Room n A) (a:Addr) (Vs:List Value):RoomC n (A.under (.builtin "type.__call__" ⟨.ref a :: Vs,[]⟩)):=by
  refine ⟨?_, ?_⟩
  · show A.depth + (Code.builtin "type.__call__" ⟨.ref a :: Vs,[]⟩).weight + 2 * n + 1 < _
    rw [tc_weight,Nat.add_right_comm A.depth 1];exact R.1
  · show A.units + 1 + 30 * n + 190 < _
    rw [Nat.add_right_comm A.units 1];exact Nat.lt_of_le_of_lt (Nat.add_le_add_left (show 191≤200 by decide) _) R.2
theorem tc_frames {A:Around} (a:Addr) (Vs:List Value):(A.under (.builtin "type.__call__" ⟨.ref a :: Vs,[]⟩)).frames = A.frames:=by
  show pushEnvs [] A.frames = A.frames
  cases A.frames <;> rfl
theorem s_call (Y:PmOk P) (GO:GxOk P G) (FN:SndFn P G n) (K:FmOk P F) (R:Room n F.A) (HM:HmOk hm F) (I:Inv P F l H s) {V:Value} {Vs:List Value} {Q:QV} {X:XV} (h:callV G hm (er V) (Vs.map er) H Q X) :
    (∃ k,(k = Keeper.frame∨k = Keeper.machine)∧PySem.W.Looks P.M s.heap (keeperOf V) k)∧wpAny P.M F.A (call V Vs) (PostE P F l Q) (PostX P F l X) s:=by
  unfold callV at h
  split at h
  · rename_i a e;have:=er_ref e;subst this
    split at h
    · rename_i fi hi
      obtain ⟨i1,i2,i3,i4⟩:=GO.init a fi hi
      have kin:=I.kin Y K
      refine ⟨PySem.W.looks_keep i4 kin,wpAny_call ?_⟩
      have I1:=I.alloc K (O:=PySem.W.emptyDict) (o:=.ns []) (t:=s.toks) ⟨#[],0,Heap.get?_push_size _ rfl, .nil, .nil⟩
      have I2:=I1.alloc K (O:=PySem.W.instObj a s.heap.objs.size) (o:=.inst a s.heap.objs.size) (t:=s.toks) (Heap.get?_push_size _ rfl)
      have hsz:(s.heap.push PySem.W.emptyDict).objs.size = s.heap.objs.size + 1:=Heap.size_push ..
      simp only [hsz] at I2
      have q:=h s.heap.objs.size (s.heap.objs.size + 1) I.fresh (by
        have:=I1.fresh
        simp only [hsz] at this
        rwa [Hp.upd_ne _ _ (Nat.succ_ne_self _)] at this) (Nat.ne_of_lt (Nat.lt_succ_self _))
      obtain ⟨hh,hg,hd,ht,ho⟩:=s
      refine PySem.W.make_core (PySem.W.makes_of kin i1) (PySem.W.looks_findIn kin i2) (fun self=>PySem.W.bind_fn kin self (beq_iff_eq.mp i3)) (.inl (by simp)) ?_
      refine codeAny_mono (FN.run q (F:={ F with A:=F.A.under (.builtin "type.__call__" ⟨.ref a :: Vs,[]⟩) }) (l:=l) (K.withA (tc_frames _ _) (.inr rfl)) (tc_room R _ _) HM (I2.withA _) rfl) fun r s' z=>?_
      rcases r with e | (_ | _ | _ | v)
      · exact PostX.ofA z
      · exact z.elim
      · exact z.elim
      · exact z.elim
      · obtain ⟨H',I',q1,q2⟩:=z
        exact ⟨er_none q1,H',I'.ofA,q2⟩
    · refine ⟨PySem.W.looks_keep (FN.keep h) (I.kin Y K),wpAny_call (codeAny_mono (FN.run h K R.c HM I rfl) fun r s' z=>?_)⟩
      rcases r with e | (_ | _ | _ | v) <;> exact z
  · exact h.elim
theorem se_call (Y:PmOk P) (GO:GxOk P G) (FN:SndFn P G n) {sc:Scope} {f:Str} {p pos:Pos} {args:List Expr} {f':Ex} {args':List Ex} (hs:args.all notStar = true) (hf:SE P G n hm sc (.Name f p) f') (ha:SEs P G n hm sc args args') :
    SE P G n hm sc (.Call (.Name f p) args [] pos) (.call f' args'):=by
  intro F l K S R HM H s Q X I q
  conv at q=>whnf
  refine wpAny_Call_NameR (wpAny_mono (hf K S R HM I q) (fun V s' q=>?_) fun _ _ z=>z)
  obtain ⟨H1,I1,q⟩:=q
  refine callWith_any hs (wpAny_mono (ha K S R HM I1 q) (fun Vs s2 q=>?_) fun _ _ z=>z)
  obtain ⟨H2,I2,q⟩:=q
  exact s_call Y GO FN K R HM I2 q
theorem s_method (Y:PmOk P) (GO:GxOk P G) (K:FmOk P F) (I:Inv P F l H s) {E:Value→Shared→Prop} {V:Value} {m:Str} {k:Addr→Prop} {pl:Sem Bool} {Q:Value×List Value→Shared→Prop} (h:methV G (er V) m H k)
    (hq:∀ f x,V = .ref x→k f→Q (.ref f,[.ref x]) s):wpAny P.M F.A (getMethod V m pl) Q E s:=by
  unfold methV at h
  split at h
  · rename_i x e;have:=er_ref e;subst this
    split at h
    · rename_i C d hx
      split at h
      · rename_i kvs f hd hm
        obtain ⟨hv,hk⟩:=h
        obtain ⟨mm,Fr,hmm⟩:=I.fr K
        obtain ⟨es,kk,od,ne,_⟩:=I.objs _ _ hd
        obtain ⟨W,g1,g2⟩:=ne.get (a:=m)
        obtain ⟨f1,f2,f3⟩:=GO.meth C m f hm
        have II:PySem.W.InstAt s.heap x { cls:=.ref C,dict:=some d,data:=.plain } C (some (PySem.W.dictOf es.toList kk)):=⟨I.objs _ _ hx,rfl,rfl,by simpa [PySem.W.dictOf] using od⟩
        rw [hv] at g2
        cases W with
        | none=>exact PySem.W.method_inst Fr Y.kin II f1 f2 f3 g1 (hq f x rfl hk)
        | some W=>simp at g2
      · exact h.elim
    · exact h.elim
  · exact h.elim
theorem backTo_stars {env:Env} {pos:Pos}:∀ {es:List Expr},es.all notStar = true→(backTo pos (starEach es env)).all (fun x=>!x.1) = true
  | [],_=>rfl
  | e :: es,h=>by
    simp at h
    rw [star_cons h.1]
    show (true && (backTo pos (starEach es env)).all (fun x=>!x.1)) = true
    rw [backTo_stars (by simpa using h.2)];rfl
theorem attrBase_eq {o:Expr} {a:Str} {env:Env} {whole:Sem Value} (h:notSuper o = true):attributeBase o a env whole = whole:=by
  unfold attributeBase
  split
  · have h':(_ != ("super" : Str)) = true:=h
    rw [if_pos (by rw [h'];rfl)]
  · rfl
theorem se_meth (Y:PmOk P) (GO:GxOk P G) (FN:SndFn P G n) {sc:Scope} {o:Expr} {m:Str} {ap pos:Pos} {args:List Expr} {o':Ex} {args':List Ex} (hs:args.all notStar = true) (hsup:notSuper o = true) (hline:(ap.endLine == pos.line) = true) (hlen:args.length < 29)
    (ho:SE P G n hm sc o o') (ha:SEs P G n hm sc args args') :
    SE P G n hm sc (.Call (.Attribute o m ap) args [] pos) (.meth o' m args'):=by
  intro F l K S R HM H s Q X I q
  conv at q=>whnf
  rw [arm_eval_Call,attrBase_eq hsup]
  refine wpAny_bind (wpAny_mono (ho K S R HM I q) (fun V s' q=>?_) fun _ _ z=>z)
  obtain ⟨H1,I1,q⟩:=q
  refine wpAny_bind (wpAny_standAt ?_)
  have hform:methodCallForm (args.length + ([]:List Keyword).length) (backTo pos (starEach args F.env)) (backToKw pos (keywordEach [] F.env)) = true:=by
    unfold methodCallForm
    rw [backTo_stars hs]
    have:backToKw pos (keywordEach [] F.env) = []:=rfl
    simp [this];exact Nat.lt_succ_of_lt ‹_›
  have hpos:methodCallPos true o F.env ap pos = pure pos:=by unfold methodCallPos;simp [hline]
  unfold methodCall
  rw [hform]
  refine wpAny_bind (wpAny_holding (s_method Y GO K I1 q fun f x e q=>?_))
  subst e
  refine wpAny_bind (wpAny_of_eq hpos ?_)
  refine callWith_any hs (wpAny_mono (ha K S R HM I1 q) (fun Vs s2 q=>?_) fun _ _ z=>z)
  obtain ⟨H2,I2,q⟩:=q
  refine ⟨PySem.W.looks_keep (FN.keep q) (I2.kin Y K),wpAny_call (codeAny_mono (FN.run q K R.c HM I2 rfl) fun r s' z=>?_)⟩
  rcases r with e | (_ | _ | _ | v) <;> exact z
noncomputable def bmName:Bm→Str
  | .append => "append" | .pop => "pop" | .join => "join"
noncomputable def bmId:Bk→Bm→String
  | .list, .append => "list.append"
  | .list,_ => "list.pop"
  | .dict,_ => "dict.pop"
  | .str,_ => "str.join"
theorem bm_get {M:Model} {A:Around} {E:Value→Shared→Prop} {s:Shared} {v:Value} {T:String} {name nm:Str} {id idd:String} {pl:Sem Bool} {Q:Value×List Value→Shared→Prop} (sl:Slot T nm idd) (hT:s.TypeIs v T) (pa:PlainAttrs T)
    (hty:typeOf (.builtin idd) = pure (.type "method_descriptor")) (hd:∀ a,v = .ref a→∃ o,s.heap.get? a = some o∧o.dict = none) (h:Q (.builtin id,[v]) s) (e1:name = nm:=by rfl) (e2:id = idd:=by rfl):wpAny M A (getMethod v name pl) Q E s:=by
  subst e1 e2
  exact getMethod_builtin hT pa sl hty hd h
theorem s_bmOn (I:Inv P F l H s) {E:Value→Shared→Prop} {V:Value} {m:Bm} {k:Bk→Prop} {pl:Sem Bool} {Q:Value×List Value→Shared→Prop} (h:bmOn m (er V) H k)
    (hq:∀ b,k b→Q (.builtin (bmId b m),[V]) s):wpAny P.M F.A (getMethod V (bmName m) pl) Q E s:=by
  unfold bmOn at h
  split at h
  · rename_i x _ e;obtain ⟨t,rfl⟩:=er_str e
    obtain ⟨rfl,h⟩:=h
    exact bm_get PySem.F.slot_str_join rfl PySem.F.plainAttrs_str PySem.F.type_str_join (fun _ e=>nomatch e) (hq .str h)
  · rename_i a e;have:=er_ref e;subst this
    split at h
    · rename_i xs hx
      obtain ⟨vs,hl,_,_,n,e⟩:=I.objs _ _ hx
      have hd:∀ b,Value.ref a = .ref b→∃ o,s.heap.get? b = some o∧o.dict = none:=fun b q=>by cases q;exact ⟨_,e,rfl⟩
      obtain ⟨rfl | rfl,h⟩:=h
      · exact bm_get slot_list_append hl.typeIs PySem.F.plainAttrs_list type_list_append hd (hq .list h)
      · exact bm_get PySem.F.slot_list_pop hl.typeIs PySem.F.plainAttrs_list PySem.F.type_list_pop hd (hq .list h)
    · rename_i xs hx
      obtain ⟨vs,hl,_⟩:=I.objs _ _ hx
      obtain ⟨rfl,h⟩:=h
      exact bm_get PySem.F.slot_dict_pop hl.mapOf.typeIs PySem.F.plainAttrs_dict PySem.F.type_dict_pop hl.mapOf.noDict (hq .dict h)
    · exact h.elim
  · exact h.elim
theorem mapSeq_exact (f:Array Value→Array Value) (vs:Array Value) (n:Nat):∃ n',Obj.mapSeq f { cls:=.type "list",dict:=none,data:=.seq vs n,slots:=#[] } = { cls:=.type "list",dict:=none,data:=.seq (f vs) n',slots:=#[] }:=by
  unfold Obj.mapSeq
  exact ⟨_,rfl⟩
theorem IsL.update {h:Heap} {a:Addr} {vs:Array Value} (x:IsL h a vs) (f:Array Value→Array Value):IsL (h.update a (Obj.mapSeq f)) a (f vs):=by
  obtain ⟨n,e⟩:=x
  obtain ⟨n',e'⟩:=mapSeq_exact f vs n
  exact ⟨n',by rw [Heap.get?_update_self _ e (by rw [e'];rfl),e']⟩
theorem without_er {K:Type} [DecidableEq K] (ks:List (K×Value)) (k:K):(PySem.without ks k).map (fun p=>(p.1,er p.2)) = PySem.without (ks.map fun p=>(p.1,er p.2)) k:=by
  unfold PySem.without
  rw [List.filter_map]
  rfl
theorem s_bm (K:FmOk P F) (I:Inv P F l H s) {E:Value→Shared→Prop} {V:Value} {Vs:List Value} {b:Bk} {m:Bm} {Q:QV} (h:bmV b m (er V) (Vs.map er) H Q) :
    wpAny P.M F.A (call (.builtin (bmId b m)) (V :: Vs)) (PostE P F l Q) E s:=by
  unfold bmV at h
  split at h
  · split at h
    · obtain ⟨a,eV,h'⟩:=onRef_elim rfl h;clear h;subst eV
      obtain ⟨W,eW,h⟩:=on1_elim h';clear h';subst eW
      split at h
      · rename_i xs hx
        obtain ⟨hz,q⟩:=h
        obtain ⟨vs,hl,e,hz2,ex⟩:=I.objs _ _ hx
        have hsz:vs.size≤sizeLine:=by rw [← e] at hz;simpa using hz
        obtain ⟨n,e0⟩:=id ex
        refine wpAny_call_entry slot_list_append hl.typeIs entry_list_append ?_ (args_list_append _ _)
        show wpAny _ _ (updateSeq a (·.push W) >>= fun _=>ret .none) _ _ s
        refine wpAny_bind (wpAny_updateSeq e0 rfl (wpAny_pure ⟨.none,rfl, ?_⟩) hsz)
        refine ⟨_,I.put (t:=s.toks) hx (fun b hb=>Heap.get?_update_other _ _ (Ne.symm hb)) (mt_list (ex.update _) ?_), ?_⟩
        · simp only [Array.size_push];exact Nat.le_trans (Nat.succ_le_succ hsz) (by decide)
        · simpa [e,er] using q
      · exact h.elim
    · obtain ⟨a,eV,h'⟩:=onRef_elim rfl h;clear h;subst eV
      obtain ⟨eW,h⟩:=on0_elim h';clear h';subst eW
      split at h
      · rename_i xs hx
        obtain ⟨hz,q⟩:=h
        obtain ⟨vs,hl,e,hz2,ex⟩:=I.objs _ _ hx
        have hsz:vs.size≤sizeLine:=by rw [← e] at hz;simpa using hz
        obtain ⟨n,e0⟩:=id ex
        split at q
        · rename_i v hv
          obtain ⟨y,hy,hyv⟩:∃ y,vs[vs.size - 1]? = some y∧er y = v:=by
            rw [← e,List.getLast?_map] at hv
            obtain ⟨y,hy,e'⟩:=Option.map_eq_some_iff.mp hv
            refine ⟨y, ?_,e'⟩
            rw [List.getLast?_eq_getElem?] at hy
            simpa using hy
          subst hyv
          refine call_meets PySem.F.slot_list_pop hl.typeIs PySem.F.entry_list_pop (PySem.F.args_list_pop_1 _) (PySem.MeetsSeq.list_pop_last a vs n y hy hsz) ⟨e0, ?_⟩
          have dl:(vs.eraseIdxIfInBounds (vs.size - 1)).toList = vs.toList.dropLast:=by
            obtain ⟨l⟩:=vs
            simp only [List.eraseIdxIfInBounds_toArray,List.size_toArray,List.eraseIdx_length_sub_one]
          refine ⟨_,I.put (t:=s.toks) hx (fun b hb=>Heap.get?_update_other _ _ (Ne.symm hb)) (mt_list (ex.update _) ?_), ?_⟩
          · rw [← Array.length_toList,dl]
            rw [List.length_dropLast,Array.length_toList];exact Nat.le_trans (Nat.sub_le ..) (Nat.le_trans hsz (by decide))
          · have:((vs.eraseIdxIfInBounds (vs.size - 1)).toList.map er) = xs.dropLast:=by
              rw [dl,← e,List.map_dropLast]
            rw [this];exact q
        · exact q.elim
      · exact h.elim
    · exact h.elim
  · split at h
    · obtain ⟨a,eV,h'⟩:=onRef_elim rfl h;clear h;subst eV
      obtain ⟨W,eW,h2⟩:=on1_elim h';clear h';subst eW
      obtain ⟨k,t,eW,h⟩:=onInt_elim rfl h2;clear h2;subst eW
      split at h
      · rename_i kvs hx
        obtain ⟨hz,q⟩:=h
        obtain ⟨ks,hd,e⟩:=I.objs _ _ hx
        split at q
        · rename_i v hv
          rw [← e] at hv
          rw [valueAt_er] at hv
          obtain ⟨W,hw,hwv⟩:=Option.map_eq_some_iff.mp hv
          subst hwv
          refine call_meetsIn PySem.F.slot_dict_pop hd.mapOf.typeIs PySem.F.entry_dict_pop (PySem.F.args_dict_pop_2 _ _) (meets_dict_pop_there _ a (intKind_is _ _ _ _) [] (.inl rfl) rfl) ⟨ks,W,hd,by rw [← e] at hz;simpa using hz,hw,fun h' hd' sb=>?_⟩
          refine ⟨_,I.put (t:=s.toks + 1) (o':=.idict ((PySem.without ks k).map fun p=>(p.1,er p.2))) hx (fun b hb=>sb.2 b hb) ⟨_,hd',rfl⟩, ?_⟩
          have:(PySem.without ks k).map (fun p=>(p.1,er p.2)) = PySem.without kvs k:=by rw [← e,without_er]
          rw [this];exact q
        · exact q.elim
      · exact h.elim
    · exact h.elim
  · split at h
    · obtain ⟨x,t,eV,h'⟩:=onStr_elim rfl h;clear h;subst eV
      obtain ⟨W,eW,h2⟩:=on1_elim h';clear h';subst eW
      obtain ⟨a,eW,h⟩:=onRef_elim rfl h2;clear h2;subst eW
      split at h
      · rename_i xs hx
        obtain ⟨vs,hl,e,_⟩:=I.objs _ _ hx
        split at h
        · rename_i ss hs
          obtain ⟨ok,q⟩:=h
          obtain ⟨ls,e1,e2⟩:=strs_vals _ _ _ e hs
          refine PySem.SC.join (l:=ls) (by rw [← e1];simpa using hl) e2 ok fun t' k=>⟨H,I.toks _,q⟩
        · exact h.elim
      · exact h.elim
    · exact h.elim
end
end Mine
end

section
open PySem PyProof.Rows PySem.Calls
open PySem.W (Looks Frag InstAt findIn findObj mroIn subIn typeIn clsIn looks_findIn looks_find looks_mroIn looks_subIn looks_typeIn class_get handed_on)
namespace Mine
section
variable {prog:Program} {w:World} {A:Around} {E:Value→Shared→Prop} {s:Shared} {K:Frag} {x D:Addr} {ox:Obj}
theorem exc_check {M:Model} {nameV:Value} {Q:Unit→Shared→Prop} (C:ExcCls K D) (X:K.In s.heap) (I:InstAt s.heap x ox D none) (hq:Q () s):wpAny M A (checkBuiltinCall "BaseException.__getattribute__" ⟨[.ref x,nameV],[]⟩) Q E s:=by
  have hk:builtinKind "BaseException.__getattribute__" = some .slot:=by decide +kernel
  have hsplit:splitId "BaseException.__getattribute__" = some ("BaseException", "__getattribute__"):=by decide +kernel
  have ha:=PySem.F.args_bexc_ga (.ref x) nameV
  have L0:=I.type (M:=M)
  have L1:Looks M s.heap (isInstance (.ref x) (.type "BaseException")) true:=L0.andThen (looks_mroIn X C.be)
  obtain ⟨hh,g,d,t,os⟩:=s
  simp only [checkBuiltinCall,hk,hsplit]
  refine wpAny_bind (L1.at ?_)
  repeat (any_goals (first | assumption | wp_step))
theorem exc_attr {tk:Tok} {fill expr:Bool} {Q:Value→Shared→Prop} (C:ExcCls K D) (X:K.In s.heap) (I:InstAt s.heap x ox D none) (hq:Q (.ref D) s) :
    wpAny (model prog w) A (getAttrBy (.ref x) (.str "__class__" tk) fill expr) Q E s:=by
  have L0:=I.type (M:=model prog w)
  have L1:=looks_findIn (M:=model prog w) X C.ga
  have L2:=looks_findIn (M:=model prog w) X C.gr
  have L3:=looks_find (M:=model prog w) X I C.fo
  have I':=I
  have X':=X
  have CG:=fun {A':Around} {R:Result→Shared→Prop} (h:R (.ok (.ret (.ref D))) s)=>class_get (prog:=prog) (w:=w) (A:=A') (tp:=.ref D) X I C.ob h
  have EC:=fun {A':Around} {E':Value→Shared→Prop} {nameV:Value} {Q':Unit→Shared→Prop} (hq:Q' () s)=>exc_check (M:=model prog w) (A:=A') (E:=E') (nameV:=nameV) C X I hq
  obtain ⟨hh,g,d,t,os⟩:=s
  unfold getAttrBy
  refine wpAny_holding (wpAny_bind (L0.at (wpAny_bind (L1.at ?_))))
  show wpAny _ _ (getAttrByItsOwn _ _ _ _ _ _) _ _ _
  unfold getAttrByItsOwn hookBefore
  refine wpAny_bind ?_
  show wpAny _ _ (typeLookup (.ref D) "__getattr__") _ _ _
  refine L2.at ?_
  refine wpAny_bind (wpAny_attempt (wpAny_holding ?_))
  have hb:callGetattribute (.ref x) (.str "__class__" tk) (.builtin "BaseException.__getattribute__") expr = boundAndCalled (.builtin "BaseException.__getattribute__") (.ref x) (.str "__class__" tk):=by
    unfold callGetattribute
    rw [if_neg (by cases expr <;> decide)]
  rw [hb]
  unfold boundAndCalled
  refine wpAny_bind (wpAny_of_eq (PySem.F.excAttr_ValueError.ga.bind (.ref x)) ?_)
  refine wpAny_call ?_
  refine codeAny_call_builtin PySem.F.excAttr_ValueError.ga.plain PySem.F.entry_bexc_ga (EC ?_)
  unfold Builtin.«object.__getattribute__»
  repeat (any_goals (first | assumption | with_reducible refine L0.at ?_ | with_reducible refine L3.at ?_ | wp_step))
  refine CG ?_
  dsimp only
  refine wpAny_pure ?_
  dsimp only
  exact handed_on rfl hq
theorem exc_class {Q:Option Value→Shared→Prop} (C:ExcCls K D) (X:K.In s.heap) (I:InstAt s.heap x ox D none) (hq:Q (some (.ref D)) { s with toks:=s.toks + 1 }) :
    wpAny (model prog w) A (getAttr? (.ref x) "__class__") Q E s:=by
  unfold getAttr? getAttrBy?
  exact wpAny_bind (wpAny_mkText (wpAny_bind (wpAny_attempt (exc_attr (s:={ s with toks:=s.toks + 1 }) C X I (wpAny_pure hq)))))
structure AskCls (K:Frag) (c:Value):Prop where
  ty:∀ (M:Model) h',K.In h'→Looks M h' (typeOf c) (.type "type")
  is:∀ (M:Model) h',K.In h'→Looks M h' (isType c) true
theorem exc_nested {c:Value} {dep:Int} {tk:Tok} {b:Bool} {Q:Fin→Shared→Prop} (C:ExcCls K D) (X:K.In s.heap) (I:InstAt s.heap x ox D none) (U:AskCls K c)
    (hne:(Value.ref D == c) = true→b = true) (hsub:∀ (M:Model) h',K.In h'→Looks M h' (isSubtype (.ref D) c) b) (h:∀ t,Q (.done (.ret (.bool b))) { s with toks:=t }) :
    wpAny (model prog w) A (Builtin.«isinstance.nested» ⟨[.ref x,c, .int dep tk],[]⟩) Q E s:=by
  obtain ⟨cdD,hcD⟩:=Option.isSome_iff_exists.mp C.cl
  have hisD:Looks (model prog w) s.heap (isType (.ref D)) true:=by
    unfold PySem.W.clsIn at hcD
    split at hcD
    · rename_i ho
      intro A' Q' E' s' k q
      unfold isType loadHead
      exact wpAny_bind (wpAny_loadPart (k _ _ (X _ _ ho)) (wpAny_pure q))
    · cases hcD
  have hty:=U.ty (model prog w) _ X
  have his:=U.is (model prog w) _ X
  have hs:=hsub (model prog w) _ X
  have EC:=fun {A':Around} {E':Value→Shared→Prop} {Q':Option Value→Shared→Prop} (hq:Q' (some (.ref D)) { s with toks:=s.toks + 1 })=>exc_class (prog:=prog) (w:=w) (A:=A') (E:=E') C X I hq
  have L0:=I.type (M:=model prog w)
  obtain ⟨h0,g,d,tt,os⟩:=s
  have LI:Looks (model prog w) h0 (isInstance (.ref x) c) b:=L0.andThen hs
  unfold Builtin.«isinstance.nested»
  refine wpAny_bind (L0.at ?_)
  by_cases q:(Value.ref D == c) = true
  · rw [if_pos q]
    have:=hne q
    subst this
    exact wpAny_bind (wpAny_rule (wpAny_bind (wpAny_pure (wpAny_pure (h _)))))
  rw [if_neg q]
  refine wpAny_bind (hty.at ?_)
  rw [if_pos (by decide)]
  k_delta "plainIsInstance"
  refine wpAny_bind (wpAny_bind (his.at ?_))
  simp only [Bool.not_true,Bool.false_eq_true,if_false]
  refine wpAny_bind (LI.at ?_)
  cases b with
  | true =>
    simp only [if_true]
    exact wpAny_pure (wpAny_pure (h _))
  | false =>
    simp only [Bool.false_eq_true,if_false]
    refine wpAny_bind (EC ?_)
    refine wpAny_bind (hisD.at ?_)
    simp only [Bool.not_true,Bool.false_eq_true,if_false]
    refine wpAny_bind (wpAny_rule ?_)
    refine hs.at ?_
    first
      | exact wpAny_pure (h _)
      | exact wpAny_pure (wpAny_pure (h _))
      | exact wpAny_bind (wpAny_pure (wpAny_pure (h _)))
theorem exc_isi {c:Value} {b:Bool} {Q:Value→Shared→Prop} (C:ExcCls K D) (X:K.In s.heap) (I:InstAt s.heap x ox D none) (U:AskCls K c)
    (hne:(Value.ref D == c) = true→b = true) (hsub:∀ (M:Model) h',K.In h'→Looks M h' (isSubtype (.ref D) c) b) (h:∀ t,Q (.bool b) { s with toks:=t }) :
    wpAny (model prog w) A (call (.builtin "isinstance") [.ref x,c]) Q E s :=
  call_isinstance (S:=fun _ R s=>(K.In s.heap∧InstAt s.heap x ox D none)∧∀ t,R (.ok (.ret (.bool b))) { s with toks:=t })
    (fun _ _ _ _ _ hs=>isinstance_outer (exc_nested C hs.1.1 hs.1.2 U hne hsub hs.2) (by intro q;cases q)) ⟨⟨X,I⟩,h⟩
end
end Mine
end

section
open PySem PyProof.Rows PySem.Calls
open PySem.W (Looks looks_subIn looks_typeIn)
namespace Mine
section
variable {P:Pm} {F:Fm} {G:Gx} {n:Nat} {hm:Bool} {l:Loc} {H:Hp} {s:Shared}
noncomputable def Ty.val:Ty→Option Value
  | .str=>some (.type "str") | .int=>some (.type "int") | .bool=>some (.type "bool") | .list=>some (.type "list") | .tuple=>some (.type "tuple") | .valueError=>some (.type "ValueError")
  | _=>none
theorem ask_own (K:PySem.W.Frag) {D:Addr} (C:ExcCls K D):AskCls K (.ref D):=by
  refine ⟨fun M h' X=>looks_typeIn X C.ty,fun M h' X=>?_⟩
  obtain ⟨cd,hc⟩:=Option.isSome_iff_exists.mp C.cl
  unfold PySem.W.clsIn at hc
  split at hc
  · rename_i ho
    intro A' Q' E' s' k q
    unfold isType loadHead
    exact wpAny_bind (wpAny_loadPart (k _ _ (X _ _ ho)) (wpAny_pure q))
  · cases hc
theorem meta_VE:typeOf (.type "ValueError") = pure (.type "type"):=by kernel_rfl
theorem ask_VE (K:PySem.W.Frag):AskCls K (.type "ValueError"):=⟨fun _ _ _=>Looks.of_pure meta_VE,fun _ _ _=>Looks.of_pure rfl⟩
theorem exc_inst (I:Inv P F l H s) {x D:Addr} (h:H x = some (.exc D)):∃ ox,PySem.W.InstAt s.heap x ox D none:=by
  obtain ⟨vs,sl,e⟩:=I.objs _ _ h
  exact ⟨_,e,rfl,rfl,trivial⟩
theorem s_isi (Y:PmOk P) (GO:GxOk P G) (K:FmOk P F) (I:Inv P F l H s) {E:Value→Shared→Prop} {V T:Value} {t:Ty} {Q:QV} (ht:t.val = some T) (h:isiV G (er V) t H Q) :
    wpAny P.M F.A (call (.builtin "isinstance") [V,T]) (PostE P F l Q) E s:=by
  have R:∀ {b:Bool} {u:Nat},Q (.bool b) H→PostE P F l Q (.bool b) { s with toks:=u }:=fun q=>⟨H,I.toks _,q⟩
  unfold isiV at h
  split at h
  · rename_i e;have:=er_none e;subst this
    obtain ⟨hb,q⟩:=h
    cases t <;> cases ht <;> first | cases hb | skip
    · exact IsiPair.NoneType_str (R q)
    · exact IsiPair.NoneType_int (R q)
    · exact IsiPair.NoneType_bool (R q)
    · exact IsiPair.NoneType_list (R q)
    · exact IsiPair.NoneType_tuple (R q)
  · rename_i e;have:=er_bool e;subst this
    obtain ⟨hb,q⟩:=h
    cases t <;> cases ht <;> first | cases hb | skip
    · exact IsiPair.bool_str (R q)
    · exact IsiPair.bool_int (R (u:=s.toks) q)
    · exact IsiPair.bool_bool (R (u:=s.toks) q)
    · exact IsiPair.bool_list (R q)
    · exact IsiPair.bool_tuple (R q)
  · rename_i e;obtain ⟨u,rfl⟩:=er_int e
    obtain ⟨hb,q⟩:=h
    cases t <;> cases ht <;> first | cases hb | skip
    · exact IsiPair.int_str (R q)
    · exact IsiPair.int_int (R (u:=s.toks) q)
    · exact IsiPair.int_bool (R q)
    · exact IsiPair.int_list (R q)
    · exact IsiPair.int_tuple (R q)
  · rename_i e;obtain ⟨u,rfl⟩:=er_str e
    obtain ⟨hb,q⟩:=h
    cases t <;> cases ht <;> first | cases hb | skip
    · exact IsiPair.str_str (R (u:=s.toks) q)
    · exact IsiPair.str_int (R q)
    · exact IsiPair.str_bool (R q)
    · exact IsiPair.str_list (R q)
    · exact IsiPair.str_tuple (R q)
  · rename_i a e;have:=er_ref e;subst this
    split at h
    · rename_i hx
      obtain ⟨hb,q⟩:=h
      obtain ⟨vs,⟨o,ho,hc,_⟩,_⟩:=I.objs _ _ hx
      cases t <;> cases ht <;> first | cases hb | skip
      · exact IsiPair.list_str ho hc (R q)
      · exact IsiPair.list_int ho hc (R q)
      · exact IsiPair.list_bool ho hc (R q)
      · exact IsiPair.list_list ho hc (R (u:=s.toks) q)
      · exact IsiPair.list_tuple ho hc (R q)
    · rename_i hx
      obtain ⟨hb,q⟩:=h
      obtain ⟨vs,⟨o,ho,hc,_⟩,_⟩:=I.objs _ _ hx
      cases t <;> cases ht <;> first | cases hb | skip
      · exact IsiPair.tuple_str ho hc (R q)
      · exact IsiPair.tuple_int ho hc (R q)
      · exact IsiPair.tuple_bool ho hc (R q)
      · exact IsiPair.tuple_list ho hc (R q)
      · exact IsiPair.tuple_tuple ho hc (R (u:=s.toks) q)
    · rename_i hx
      obtain ⟨hb,q⟩:=h
      obtain ⟨vs,⟨o,es,ep,ho,hc,_⟩,_⟩:=I.objs _ _ hx
      cases t <;> cases ht <;> first | cases hb | skip
      · exact IsiPair.dict_str ho hc.1 (R q)
      · exact IsiPair.dict_int ho hc.1 (R q)
      · exact IsiPair.dict_bool ho hc.1 (R q)
      · exact IsiPair.dict_list ho hc.1 (R q)
      · exact IsiPair.dict_tuple ho hc.1 (R q)
    · rename_i hx
      obtain ⟨hb,q⟩:=h
      obtain ⟨vs,⟨o,es,ep,ho,hc,_⟩,_⟩:=I.objs _ _ hx
      cases t <;> cases ht <;> first | cases hb | skip
      · exact IsiPair.dict_str ho hc.1 (R q)
      · exact IsiPair.dict_int ho hc.1 (R q)
      · exact IsiPair.dict_bool ho hc.1 (R q)
      · exact IsiPair.dict_list ho hc.1 (R q)
      · exact IsiPair.dict_tuple ho hc.1 (R q)
    · rename_i C hx
      obtain ⟨he,q⟩:=h
      obtain ⟨ox,II⟩:=exc_inst I hx
      cases t <;> cases ht <;> first | exact q.elim | skip
      exact exc_isi (GO.exc C he) (I.kin Y K) II (ask_VE _) (fun _=>rfl) (fun M h' X=>looks_subIn X (GO.exc C he).ve) fun t=>R q
    · exact h.elim
  · exact h.elim
theorem s_isi_cls (Y:PmOk P) (GO:GxOk P G) (K:FmOk P F) (I:Inv P F l H s) {E:Value→Shared→Prop} {V:Value} {x:Str} {D:Addr} {Q:QV} (hD:G.glob x = some (.ref D)) (h:isiV G (er V) (.cls x) H Q) :
    wpAny P.M F.A (call (.builtin "isinstance") [V, .ref D]) (PostE P F l Q) E s:=by
  unfold isiV at h
  split at h
  · cases h.1
  · cases h.1
  · cases h.1
  · cases h.1
  · rename_i a e;have:=er_ref e;subst this
    split at h
    · cases h.1
    · cases h.1
    · cases h.1
    · cases h.1
    · rename_i C hx
      obtain ⟨he,q⟩:=h
      dsimp only at q
      rw [hD] at q
      obtain ⟨hd,q⟩:=q
      obtain ⟨ox,II⟩:=exc_inst I hx
      refine exc_isi (GO.exc C he) (I.kin Y K) II (ask_own _ (GO.exc D hd)) (fun e=>?_) (fun M h' X=>looks_subIn X (GO.sub C D he hd)) fun t=>⟨H,I.toks _,q⟩
      have:C = D:=by simpa using e
      subst this;exact GO.self C he
    · exact h.elim
  · exact h.elim
theorem machine_builtin (M:Model) (h:Heap) (id:String):∃ k,(k = Keeper.frame∨k = Keeper.machine)∧Looks M h (keeperOf (.builtin id)) k:=⟨.machine, .inr rfl,Looks.of_pure rfl⟩
theorem ld_blt (Y:PmOk P) (B:BltOk P) {sc:Scope} (K:FmOk P F) (S:ScOk sc F) (I:Inv P F l H s) {E:Value→Shared→Prop} {x:Str} {p:Pos} {v:Value} {Q:Value→Shared→Prop} (hb:bltTab x = some v) (hl:isLoc sc x = some false) (h:Q v s):wpAny P.M F.A (eval (.Name x p) F.env) Q E s :=
  ld_glob Y K I (.inr (B.blt x v hb)) (S.glob x hl) (isLoc_false hl) h
theorem se_isi (Y:PmOk P) (B:BltOk P) (GO:GxOk P G) {sc:Scope} {e:Expr} {e':Ex} {x:Str} {t:Ty} {p p2 pos:Pos} (hn:notStar e = true) (hi:isLoc sc "isinstance" = some false) (hx:isLoc sc x = some false) {T:Value} (hT:t.val = some T) (hb:bltTab x = some T) (he:SE P G n hm sc e e') :
    SE P G n hm sc (.Call (.Name "isinstance" p) [e, .Name x p2] [] pos) (.isi e' t):=by
  intro F l K S R HM H s Q X I q
  conv at q=>whnf
  refine wpAny_Call_NameR (ld_blt Y B K S I (v:=.builtin "isinstance") (by decide +kernel) hi ?_)
  refine callWith_any (by rw [List.all_cons,hn];rfl) ?_
  rw [star_cons hn]
  refine spliced_cons (wpAny_mono (he K S R HM I q) (fun V s' q=>?_) fun _ _ z=>z)
  obtain ⟨H1,I1,q⟩:=q
  refine spliced_cons (ld_blt Y B K S I1 hb hx (spliced_nil ⟨machine_builtin _ _ _, ?_⟩))
  exact s_isi Y GO K I1 hT q
theorem se_isi_cls (Y:PmOk P) (B:BltOk P) (GO:GxOk P G) {sc:Scope} {e:Expr} {e':Ex} {x:Str} {p p2 pos:Pos} (hn:notStar e = true) (hi:isLoc sc "isinstance" = some false) (hx:isLoc sc x = some false) (he:SE P G n hm sc e e') :
    SE P G n hm sc (.Call (.Name "isinstance" p) [e, .Name x p2] [] pos) (.isi e' (.cls x)):=by
  intro F l K S R HM H s Q X I q
  conv at q=>whnf
  refine wpAny_Call_NameR (ld_blt Y B K S I (v:=.builtin "isinstance") (by decide +kernel) hi ?_)
  refine callWith_any (by rw [List.all_cons,hn];rfl) ?_
  rw [star_cons hn]
  refine spliced_cons (wpAny_mono (he K S R HM I q) (fun V s' q=>?_) fun _ _ z=>z)
  obtain ⟨H1,I1,q⟩:=q
  have hD:∃ D,G.glob x = some (.ref D):=by
    unfold isiV at q
    split at q <;> first | (cases q.1;done) | skip
    · split at q <;> first | (cases q.1;done) | skip
      · obtain ⟨_,q⟩:=q
        dsimp only at q
        split at q
        · rename_i hD;exact ⟨_,hD⟩
        · exact q.elim
      · exact q.elim
    · exact q.elim
  obtain ⟨D,hD⟩:=hD
  obtain ⟨W,hW,hV⟩:=GO.glob x _ hD
  have:=er_ref hW;subst this
  refine spliced_cons (ld_glob Y K I1 hV (S.glob x hx) (isLoc_false hx) (spliced_nil ⟨machine_builtin _ _ _, ?_⟩))
  exact s_isi_cls Y GO K I1 hD q
theorem se_bm {sc:Scope} {o:Expr} {m:Str} {b:Bm} {ap pos:Pos} {args:List Expr} {o':Ex} {args':List Ex} (hb:m = bmName b) (hs:args.all notStar = true) (hsup:notSuper o = true) (hline:(ap.endLine == pos.line) = true) (hlen:args.length < 29)
    (ho:SE P G n hm sc o o') (ha:SEs P G n hm sc args args') :
    SE P G n hm sc (.Call (.Attribute o m ap) args [] pos) (.bm b o' args'):=by
  intro F l K S R HM H s Q X I q
  subst hb
  conv at q=>whnf
  rw [arm_eval_Call,attrBase_eq hsup]
  refine wpAny_bind (wpAny_mono (ho K S R HM I q) (fun V s' q=>?_) fun _ _ z=>z)
  obtain ⟨H1,I1,q⟩:=q
  refine wpAny_bind (wpAny_standAt ?_)
  have hform:methodCallForm (args.length + ([]:List Keyword).length) (backTo pos (starEach args F.env)) (backToKw pos (keywordEach [] F.env)) = true:=by
    unfold methodCallForm
    rw [backTo_stars hs]
    have:backToKw pos (keywordEach [] F.env) = []:=rfl
    simp [this];exact Nat.lt_succ_of_lt ‹_›
  have hpos:methodCallPos true o F.env ap pos = pure pos:=by unfold methodCallPos;simp [hline]
  unfold methodCall
  rw [hform]
  refine wpAny_bind (wpAny_holding (s_bmOn I1 q fun b q=>?_))
  refine wpAny_bind (wpAny_of_eq hpos ?_)
  refine callWith_any hs (wpAny_mono (ha K S R HM I1 q) (fun Vs s2 q=>?_) fun _ _ z=>z)
  obtain ⟨H2,I2,q⟩:=q
  exact ⟨machine_builtin _ _ _,s_bm K I2 q⟩
end
end Mine
end

section
open PySem PyProof.Rows PySem.Calls
namespace Mine
noncomputable def Fm.also (F:Fm) (c:Addr) (o:Obj):Fm:={ F with g:=fun b=>if b = c then some o else F.g b }
section
variable {P:Pm} {F:Fm} {G:Gx} {n:Nat} {hm:Bool} {l:Loc} {H:Hp} {s:Shared} {c:Addr} {o:Obj}
theorem FmOk.also (K:FmOk P F) (x:Off F H c):FmOk P (F.also c o):=by
  refine ⟨K.kind,K.glob,K.blt,fun b o' e=>?_,K.above, ?_,K.lf,K.cl,fun hr y d hy=>?_,K.apart,K.cn,K.cf,fun b d e=>?_,K.frames,fun a e=>?_,K.code⟩
  · show (if b = c then some o else F.g b) = some o'
    have:=K.base b o' e
    rw [if_neg (fun q=>by rw [q,x.g] at this;cases this)]
    exact this
  · show (if F.env.locals = c then some o else F.g F.env.locals) = none
    rw [if_neg (Ne.symm x.l)];exact K.lg
  · obtain ⟨h1,h2⟩:=K.cg hr y d hy
    refine ⟨?_,h2⟩
    show (if d = c then some o else F.g d) = none
    rw [if_neg (Ne.symm (x.c y d hy))];exact h1
  · obtain ⟨h1,h2⟩:=K.fg b d e
    refine ⟨?_,h2⟩
    show (if b = c then some o else F.g b) = none
    have e':F.fr b = some d:=e
    rw [if_neg (fun q=>by rw [q,x.fr] at e';cases e')];exact h1
  · refine ⟨?_,(K.xg a e).2⟩
    show ∃ O,(if a = c then some o else F.g a) = some O
    split
    · exact ⟨_,rfl⟩
    · exact (K.xg a e).1
theorem Inv.also (I:Inv P F l H s) (x:Off F H c) (h:s.heap.get? c = some o):Inv P (F.also c o) l H s:=by
  refine ⟨I.gens,I.os,fun b o' e=>?_,I.frk,I.loc,I.cel,I.objs,fun a o' e=>?_,I.big⟩
  · by_cases q:b = c
    · have e:(if b = c then some o else F.g b) = some o':=e
      rw [if_pos q] at e;cases e;rw [q];exact h
    · have e:(if b = c then some o else F.g b) = some o':=e
      rw [if_neg q] at e;exact I.keep b o' e
  · cases hr:o'.isR with
    | true=>exact fre_r (F:=F) (F':=F.also c o) hr rfl (I.free a o' e)
    | false =>
      obtain ⟨h1,h2⟩:=of_fre (I.free a o' e) hr
      refine fre_of hr ⟨?_,h2⟩
      show (if a = c then some o else F.g a) = none
      rw [if_neg (fun q=>by rw [q,x.h] at e;cases e)];exact h1
theorem Inv.back (K:FmOk P F) (x:Off F H c) {l':Loc} {H':Hp} (I:Inv P (F.also c o) l' H' s):Inv P F l' H' s∧s.heap.get? c = some o∧Off F H' c:=by
  refine ⟨⟨I.gens,I.os,fun b o' e=>?_,I.frk,I.loc,I.cel,I.objs,fun a o' e=>?_,I.big⟩,I.keep c o (by show (if c = c then some o else F.g c) = some o;rw [if_pos rfl]), ?_,x.g,x.fr,x.l,x.c⟩
  · refine I.keep b o' ?_
    show (if b = c then some o else F.g b) = some o'
    rw [if_neg (fun q=>by rw [q,x.g] at e;cases e)];exact e
  · cases hr:o'.isR with
    | true=>exact fre_r (F:=F.also c o) (F':=F) hr rfl (I.free a o' e)
    | false =>
      obtain ⟨h1,h2⟩:=of_fre (I.free a o' e) hr
      refine fre_of hr ⟨?_,h2⟩
      have h1:(if a = c then some o else F.g a) = none:=h1
      split at h1
      · cases h1
      · exact h1
  · cases e:H' c with
    | none=>rfl
    | some o' =>
      cases hr:o'.isR with
      | true =>
        rcases r_fre (I.free c o' e) hr with ⟨O,e'⟩ | e'
        · have:=K.base _ _ e'
          rw [x.g] at this;cases this
        · obtain ⟨O,e'⟩:=(K.xg c e').1
          rw [x.g] at e';cases e'
      | false =>
        have:=(of_fre (I.free c o' e) hr).1
        have this:(if c = c then some o else F.g c) = none:=this
        rw [if_pos rfl] at this;cases this
theorem Off.back {H':Hp} {a:Addr} (x:Off (F.also c o) H' a):Off F H' a:=by
  refine ⟨x.h, ?_,x.fr,x.l,x.c⟩
  have:(if a = c then some o else F.g a) = none:=x.g
  split at this
  · cases this
  · exact this
theorem Exc.back {H':Hp} {e C:Addr} {b:Bool} (x:Exc P (F.also c o) H' s e C b):Exc P F H' s e C b :=
  ⟨x.big,x.off.back,let ⟨T,h1,h2,h3⟩:=x.at_;⟨T,h1,fun t ht=>(h2 t ht).back,h3⟩⟩
end
noncomputable def HdJ (A:Around) (J:Addr) (h:Heap):Prop:=A.handled = none∨∃ e o vs,A.handled = some (.ref e)∧e≠J∧h.get? e = some o∧o.data = .fields vs∧vs[2]? = some Value.none
theorem HdK.at_ {P:Pm} {F:Fm} {l:Loc} {H:Hp} {s:Shared} (k:HdK F) (I:Inv P F l H s) {J:Addr} (hJ:F.g J = none):HdJ F.A J s.heap :=
  k.imp id fun ⟨e,o,vs,h1,h2,h3,h4⟩=>⟨e,o,vs,h1,(fun q=>by rw [q,hJ] at h2;cases h2),I.keep e o h2,h3,h4⟩
theorem HdK.also {F:Fm} (k:HdK F) {c:Addr} {o:Obj} (hc:F.g c = none):HdK (F.also c o) :=
  k.imp id fun ⟨e,o',vs,h1,h2,h3,h4⟩=>⟨e,o',vs,h1,by show (if e = c then some o else F.g e) = some o';rw [if_neg (fun q=>by rw [q,hc] at h2;cases h2)];exact h2,h3,h4⟩
theorem HmOk.also {F:Fm} {hm:Bool} (k:HmOk hm F) {c:Addr} {o:Obj} (hc:F.g c = none):HmOk hm (F.also c o):=⟨k.1.also hc,k.2⟩
structure Turns (P:Pm) (A:Around) (J:Addr) (guard:Hp→Prop) (items:List Value) (St:Nat→Heap→Prop):Prop where
  at_:∀ i h,St i h→∃ o,h.get? J = some o
  frame:∀ i h h',St i h→(∀ o,h.get? J = some o→h'.get? J = some o)→St i h'
  item:∀ i (s:Shared) (Q:Option Value→Shared→Prop) (E:Value→Shared→Prop) (H:Hp),(∀ a o,H a = some o→Mt P s.heap a o)→H J = none→guard H→St i s.heap→∀ v,items[i]? = some v →
    (∀ V h' tk,er V = v→St (i + 1) h'→(∀ b o,b≠J→s.heap.get? b = some o→h'.get? b = some o)→Q (some V) { s with heap:=h',toks:=tk })→wpAny P.M A (pyNext (.ref J)) Q E s
  done:∀ (s:Shared) (Q:Option Value→Shared→Prop) (E:Value→Shared→Prop) (H:Hp),(∀ a o,H a = some o→Mt P s.heap a o)→H J = none→guard H→St items.length s.heap→HdJ A J s.heap →
    (∀ h' tk,(∀ b o,b≠J→s.heap.get? b = some o→h'.get? b = some o)→Q none { s with heap:=h',toks:=tk })→wpAny P.M A (pyNext (.ref J)) Q E s
  self:∀ i (s:Shared) (Q:Value→Shared→Prop) (E:Value→Shared→Prop),St i s.heap→Q (.ref J) s→wpAny P.M A (pyIter (.ref J)) Q E s
theorem turns_list {P:Pm} {A:Around} (hh:A.handled = none) (J a:Addr) (xs:List Value):Turns P A J (fun H=>H a = some (.list xs)) xs (fun i h=>h.IsListIter J a i) where
  at_:=fun i h ⟨o,ho,_⟩=>⟨o,ho⟩
  frame:=fun i h h' ⟨o,ho,r⟩ k=>⟨o,k o ho,r⟩
  item:=fun i s Q E H mt hJ g st v hv hq=>by
    obtain ⟨vs,hl,e,_⟩:=mt a _ g
    have hne:a≠J:=fun q=>by rw [q,hJ] at g;cases g
    rw [← e,List.getElem?_map] at hv
    obtain ⟨V,hV,e2⟩:=Option.map_eq_some_iff.mp hv
    have hi:i < vs.size:=by have:=(List.getElem?_eq_some_iff.mp hV).1;simpa using this
    refine (Walks.list (prog:=P.prog) (w:=P.w) hh J a hne vs).item i s Q E hi ⟨st,hl⟩ fun V' h' tk hP st' k=>hq V' h' tk ?_ st'.1 fun b o hb=>k b o (by simp [hb])
    have:some V' = some V:=by rw [← hP];simpa using hV
    cases this;exact e2
  done:=fun s Q E H mt hJ g st _ hq=>by
    obtain ⟨vs,hl,e,_⟩:=mt a _ g
    have hne:a≠J:=fun q=>by rw [q,hJ] at g;cases g
    refine (Walks.list (prog:=P.prog) (w:=P.w) hh J a hne vs).done s Q E ⟨?_,hl⟩ fun h' tk k=>hq h' tk fun b o hb=>k b o (by simp [hb])
    have:vs.size = xs.length:=by rw [← e];simp
    rw [this];exact st
  self:=fun i s Q E st hq=>wpAny_pyIter_listiter st hq
theorem turns_nil {P:Pm} {A:Around} (J a:Addr):Turns P A J (fun H=>H a = some (.list [])) [] (fun i h=>h.IsListIter J a i) where
  at_:=fun i h ⟨o,ho,_⟩=>⟨o,ho⟩
  frame:=fun i h h' ⟨o,ho,r⟩ k=>⟨o,k o ho,r⟩
  item:=fun i s Q E H mt hJ g st v hv hq=>by cases hv
  done:=fun s Q E H mt hJ g st hd hq=>by
    obtain ⟨vs,hl,e,_⟩:=mt a _ g
    have e:vs.toList = []:=List.map_eq_nil_iff.1 e
    refine next_list_end (hd.imp id fun ⟨e,o,vs,h1,_,h2,h3,h4⟩=>⟨e,o,vs,h1,h2,h3,h4⟩) (fun e h1=>?_) st hl (by rw [← Array.getElem?_toList,e];rfl) fun h' x=>hq h' s.toks fun b o hb=>x b o hb
    rcases hd with hd | ⟨e',_,_,h2,h3,_⟩
    · rw [hd] at h1;cases h1
    · rw [h2] at h1;cases h1;exact h3
  self:=fun i s Q E st hq=>wpAny_pyIter_listiter st hq
theorem turns_tup {P:Pm} {A:Around} (hh:A.handled = none) (J a:Addr) (xs:List Value):Turns P A J (fun H=>H a = some (.tup xs)) xs (fun i h=>h.IsTupleIter J a i) where
  at_:=fun i h ⟨o,ho,_⟩=>⟨o,ho⟩
  frame:=fun i h h' ⟨o,ho,r⟩ k=>⟨o,k o ho,r⟩
  item:=fun i s Q E H mt hJ g st v hv hq=>by
    obtain ⟨vs,hl,e,_⟩:=mt a _ g
    have hne:a≠J:=fun q=>by rw [q,hJ] at g;cases g
    rw [← e,List.getElem?_map] at hv
    obtain ⟨V,hV,e2⟩:=Option.map_eq_some_iff.mp hv
    have hi:i < vs.size:=by have:=(List.getElem?_eq_some_iff.mp hV).1;simpa using this
    refine (Walks.tuple (prog:=P.prog) (w:=P.w) hh J a hne vs).item i s Q E hi ⟨st,hl⟩ fun V' h' tk hP st' k=>hq V' h' tk ?_ st'.1 fun b o hb=>k b o (by simp [hb])
    have:some V' = some V:=by rw [← hP];simpa using hV
    cases this;exact e2
  done:=fun s Q E H mt hJ g st _ hq=>by
    obtain ⟨vs,hl,e,_⟩:=mt a _ g
    have hne:a≠J:=fun q=>by rw [q,hJ] at g;cases g
    refine (Walks.tuple (prog:=P.prog) (w:=P.w) hh J a hne vs).done s Q E ⟨?_,hl⟩ fun h' tk k=>hq h' tk fun b o hb=>k b o (by simp [hb])
    have:vs.size = xs.length:=by rw [← e];simp
    rw [this];exact st
  self:=fun i s Q E st hq=>wpAny_pyIter_tupleiter st hq
theorem turns_range {P:Pm} {A:Around} (hh:A.handled = none) (J:Addr) (lo hi st:Int):Turns P A J (fun _=>True) (rangeL lo hi st) (fun i h=>IsRangeIter h J (lo + (i:Nat) * st) (((Builtin.Range.rangeSize lo hi st).toNat:Int) - (i:Nat)) st) where
  at_:=fun i h r=>⟨_,r⟩
  frame:=fun i h h' r k=>k _ r
  item:=fun i s Q E H mt hJ g r v hv hq=>by
    have hi:i < (Builtin.Range.rangeSize lo hi st).toNat:=by have:=(List.getElem?_eq_some_iff.mp hv).1;simpa [rangeL] using this
    refine (Walks.range (prog:=P.prog) (w:=P.w) hh J lo st _).item i s Q E hi r fun V h' tk hP st' k=>hq V h' tk ?_ st' fun b o hb=>k b o (by simp [hb])
    obtain ⟨t,rfl⟩:=hP
    simp [rangeL,hi] at hv
    simp [er,hv]
  done:=fun s Q E H mt hJ g r _ hq=>by
    have:(rangeL lo hi st).length = (Builtin.Range.rangeSize lo hi st).toNat:=by simp [rangeL]
    rw [this] at r
    exact (Walks.range (prog:=P.prog) (w:=P.w) hh J lo st (Builtin.Range.rangeSize lo hi st).toNat).done s Q E r fun h' tk k=>hq h' tk fun b o hb=>k b o (by simp [hb])
  self:=fun i s Q E r hq=>wpAny_pyIter_rangeiter r hq
theorem turns_str {P:Pm} {A:Around} {J:Addr} {x:Str} {St:Nat→Heap→Prop} (W:Walks P.prog P.w A J [J] [J] x.cps.size (SignAt x) St) (hat:∀ i h,St i h→∃ o,h.get? J = some o):Turns P A J (fun _=>True) (x.cps.toList.map fun c=>.str (chr1 c) 0) St where
  at_:=hat
  frame:=fun i h h' r k=>W.frame i h h' r fun b hb o e=>by simp at hb;subst hb;exact k o e
  item:=fun i s Q E H mt hJ g r v hv hq=>by
    have hi:i < x.cps.size:=by have:=(List.getElem?_eq_some_iff.mp hv).1;simpa using this
    refine W.item i s Q E hi r fun V h' tk hP st' k=>hq V h' tk ?_ st' fun b o hb=>k b o (by simp [hb])
    obtain ⟨c,u,hc,rfl⟩:=hP
    simp at hv
    obtain ⟨c',hc',rfl⟩:=hv
    rw [hc] at hc';cases hc'
    rfl
  done:=fun s Q E H mt hJ g r _ hq=>by
    refine W.done s Q E (by simpa using r) fun h' tk k=>hq h' tk fun b o hb=>k b o (by simp [hb])
  self:=fun i s Q E r hq=>W.self i s Q E r hq
section
variable {P:Pm} {F:Fm} {G:Gx} {n:Nat} {hm:Bool} {l:Loc} {H:Hp} {s:Shared}
theorem s_iter (K:FmOk P F) (HM:HmOk hm F) (I:Inv P F l H s) {E:Value→Shared→Prop} {V:Value} {k:(Hp→Prop)→List Value→Prop} (h:iterH hm (er V) H k) :
    wpAny P.M F.A (pyIter V) (fun it s'=>∃ guard items J St,k guard items∧it = .ref J∧Inv P F l H s'∧Off F H J∧P.base.objs.size≤J∧St 0 s'.heap∧∀ A:Around,A.handled = F.A.handled→Turns P A J guard items St) E s:=by
  have of:=I.ofSize K
  have bz:=I.base_le K
  rcases h with ⟨hf,h⟩ | ⟨_,a,e,hx,h⟩
  rotate_left
  · have:=er_ref e;subst this
    obtain ⟨vs,hl,_⟩:=I.objs _ _ hx
    exact wpAny_pyIter_list hl ⟨_,_,_,_,h,rfl,I.push _,of,bz,⟨_,Heap.get?_push_size _ rfl,rfl,rfl⟩,fun A _=>turns_nil _ a⟩
  have hn:=HM.2 hf
  rw [hn]
  unfold iterV at h
  split at h
  · rename_i x _ e;obtain ⟨t,rfl⟩:=er_str e
    cases ha:x.cps.all (· < 128)
    · exact wpAny_pyIter_wide ha ⟨_,_,_,_,h,rfl,I.push _,of,bz,⟨_,Heap.get?_push_size _ rfl,rfl,rfl⟩,fun A hA=>turns_str (Walks.strWide hA _ x t) fun i h ⟨o,ho,_⟩=>⟨o,ho⟩⟩
    · exact wpAny_pyIter_ascii ha ⟨_,_,_,_,h,rfl,I.push _,of,bz,⟨_,Heap.get?_push_size _ rfl,rfl,rfl⟩,fun A hA=>turns_str (Walks.strAscii hA _ x t) fun i h ⟨o,ho,_⟩=>⟨o,ho⟩⟩
  · rename_i a e;have:=er_ref e;subst this
    split at h
    · rename_i xs hx
      obtain ⟨vs,hl,_⟩:=I.objs _ _ hx
      exact wpAny_pyIter_list hl ⟨_,_,_,_,h,rfl,I.push _,of,bz,⟨_,Heap.get?_push_size _ rfl,rfl,rfl⟩,fun A hA=>turns_list hA _ a xs⟩
    · rename_i xs hx
      obtain ⟨vs,hl,_⟩:=I.objs _ _ hx
      exact wpAny_pyIter_tuple hl ⟨_,_,_,_,h,rfl,I.push _,of,bz,⟨_,Heap.get?_push_size _ rfl,rfl,rfl⟩,fun A hA=>turns_tup hA _ a xs⟩
    · rename_i lo hi st hx
      obtain ⟨t,u,v,hr⟩:=I.objs _ _ hx
      refine wpAny_pyIter_range hr h.1 ⟨_,_,_,_,h.2,rfl,I.push _,of,bz, ?_,fun A hA=>turns_range hA _ lo hi st⟩
      have hz:((Builtin.Range.rangeSize lo hi st).toNat:Int) = Builtin.Range.rangeSize lo hi st:=(rangeSize_toNat lo hi st).symm
      show IsRangeIter _ _ (lo + ((0:Nat):Int) * st) (((Builtin.Range.rangeSize lo hi st).toNat:Int) - ((0:Nat):Int)) st
      rw [hz]
      have e1:lo + ((0:Nat):Int) * st = lo:=by simp
      have e2:Builtin.Range.rangeSize lo hi st - ((0:Nat):Int) = Builtin.Range.rangeSize lo hi st:=by simp
      rw [e1,e2]
      exact Heap.get?_push_size _ rfl
    · exact h.elim
  · exact h.elim
end
end Mine
end

section
open PySem PyProof.Rows PySem.Calls
open PySem.W (Looks looks_subIn looks_typeIn looks_mroIn)
namespace Mine
noncomputable def PostS (P:Pm) (F:Fm) (Q:QS):Flow→Shared→Prop:=fun f s'=>∃ l' H',Inv P F l' H' s'∧(match f with
  | .next=>Q .next l' H'
  | .cont=>Q .cont l' H'
  | .ret V=>Q (.ret (er V)) l' H'
  | .brk=>False)
noncomputable def PostSX (P:Pm) (F:Fm) (X:XS):Value→Shared→Prop:=fun EV s'=>∃ l' H' e C,EV = .ref e∧Inv P F l' H' s'∧Exc P F H' s' e C false∧X C l' H'
section
variable {P:Pm} {F:Fm} {G:Gx} {n:Nat} {hm:Bool} {l:Loc} {H:Hp} {s:Shared}
theorem left1 {n i:Nat} (h:i < n):n - (i + 1) + 1 < n - i + 1:=Nat.succ_lt_succ (Nat.sub_lt_sub_left h (Nat.lt_succ_self i))
theorem PostX.toS {X:XS} {V:Value} {s':Shared} (h:PostX P F l (fun C H'=>X C l H') V s'):PostSX P F X V s' :=
  let ⟨H',e,C,q,I,x,z⟩:=h;⟨l,H',e,C,q,I,x,z⟩
noncomputable def S1 (P:Pm) (G:Gx) (n:Nat) (hm:Bool) (sc:Scope) (st:Stmt) (st':Sm):Prop :=
  ∀ ⦃F:Fm⦄ ⦃l:Loc⦄,FmOk P F→ScOk sc F→Room n F.A→HmOk hm F→F.ro = false→∀ {H:Hp} {s:Shared} {Q:QS} {X:XS},Inv P F l H s→wpS G hm st' l H Q X→wpAny P.M F.A (exec st F.env) (PostS P F Q) (PostSX P F X) s
noncomputable def SS (P:Pm) (G:Gx) (n:Nat) (hm:Bool) (sc:Scope) (st:List Stmt) (st':List Sm):Prop :=
  ∀ ⦃F:Fm⦄ ⦃l:Loc⦄,FmOk P F→ScOk sc F→Room n F.A→HmOk hm F→F.ro = false→∀ {H:Hp} {s:Shared} {Q:QS} {X:XS},Inv P F l H s→wpSs G hm st' l H Q X→wpAny P.M F.A (execs st F.env) (PostS P F Q) (PostSX P F X) s
theorem ss_nil {sc:Scope}:SS P G n hm sc [] []:=by
  intro F l K S R HM ro H s Q X I q
  conv at q=>whnf
  exact wpAny_execs_nil ⟨l,H,I,q⟩
theorem ss_cons {sc:Scope} {st:Stmt} {st':Sm} {r:List Stmt} {r':List Sm} (h:S1 P G n hm sc st st') (hr:SS P G n hm sc r r'):SS P G n hm sc (st :: r) (st' :: r'):=by
  intro F l K S R HM ro H s Q X I q
  conv at q=>whnf
  refine wpAny_execs_cons (wpAny_mono (h K S R HM ro I q) (fun f s' z=>?_) fun _ _ z=>z)
  obtain ⟨l',H',I',z⟩:=z
  cases f with
  | next=>exact hr K S R HM ro I' z
  | brk=>exact z.elim
  | cont=>exact ⟨l',H',I',z⟩
  | ret v=>exact ⟨l',H',I',z⟩
noncomputable def notComp:Expr→Bool
  | .ListComp .. | .SetComp .. | .DictComp ..=>false
  | _=>true
theorem swaps_no {v:Expr} {t:Option Expr} {line:Nat} {env:Env} (h:notComp v = true):swapsWith v t line env = pure false:=by
  cases v <;> first | rfl | cases h
theorem s1_expr {sc:Scope} {e:Expr} {e':Ex} {pos:Pos} (hc:notComp e = true) (h:SE P G n hm sc e e'):S1 P G n hm sc (.Expr e pos) (.expr e'):=by
  intro F l K S R HM ro H s Q X I q
  conv at q=>whnf
  refine wpAny_Expr_any (wpAny_mono (h K S R HM I q) (fun V s' z=>?_) fun _ _ z=>PostX.toS z) ?_ (swaps_no hc)
  · obtain ⟨H',I',z⟩:=z
    exact ⟨l,H',I',z⟩
  · unfold interactive;rw [K.kind];rfl
theorem s1_cont {sc:Scope} {pos:Pos}:S1 P G n hm sc (.Continue pos) .cont:=by
  intro F l K S R HM ro H s Q X I q
  conv at q=>whnf
  rw [arm_exec_Continue]
  exact wpAny_bind (wpAny_standAt (wpAny_pure ⟨l,H,I,q⟩))
theorem s1_ret {sc:Scope} {e:Expr} {e':Ex} {pos:Pos} (h:SE P G n hm sc e e'):S1 P G n hm sc (.Return (some e) pos) (.ret e'):=by
  intro F l K S R HM ro H s Q X I q
  conv at q=>whnf
  rw [arm_exec_Return]
  refine wpAny_bind (wpAny_standAt ?_)
  show wpAny P.M F.A (do return Flow.ret (← eval e F.env)) _ _ s
  refine wpAny_bind (wpAny_mono (h K S R HM I q) (fun V s' z=>wpAny_pure ?_) fun _ _ z=>PostX.toS z)
  obtain ⟨H',I',z⟩:=z
  exact ⟨l,H',I',z⟩
noncomputable def isSt (sc:Scope) (x:Str):Bool:=match sc.names.lookup x with
  | some .local | some .cell=>true
  | _=>false
theorem st_of {sc:Scope} (S:ScOk sc F) {x:Str} (h:isSt sc x = true):F.env.kindOf x = some .local∨(F.env.kindOf x = some .cell∧∃ c,F.env.cells.lookup x = some c):=by
  unfold isSt at h
  split at h
  · rename_i e;exact .inl (S.locl x e)
  · rename_i e;exact .inr (S.cell x e)
  · cases h
theorem s1_asg {sc:Scope} {x:Str} {p pos:Pos} {e:Expr} {e':Ex} (hx:isSt sc x = true) (hc:notComp e = true) (h:SE P G n hm sc e e'):S1 P G n hm sc (.Assign [.Name x p] e pos) (.asg x e'):=by
  intro F l K S R HM ro H s Q X I q
  conv at q=>whnf
  refine wpAny_Assign_Name (wpAny_mono (h K S R HM I q) (fun V s' z=>?_) fun _ _ z=>PostX.toS z) (swaps_no hc)
  obtain ⟨H',I',z⟩:=z
  exact st_loc K I' ro (st_of S hx) fun s'' I''=>⟨_,_,I'',z⟩
theorem swaps_attr {v:Expr} {o:Expr} {a:Str} {p:Pos} {line:Nat} {env:Env}:swapsWith v (some (.Attribute o a p)) line env = pure false:=by
  cases v <;> rfl
theorem swaps_sub {v:Expr} {o i:Expr} {p:Pos} {line:Nat} {env:Env}:swapsWith v (some (.Subscript o i p)) line env = pure false:=by
  cases v <;> rfl
theorem s1_asgAttr (Y:PmOk P) (GO:GxOk P G) {sc:Scope} {o e:Expr} {a:Str} {p pos:Pos} {o' e':Ex} (ho:SE P G n hm sc o o') (h:SE P G n hm sc e e'):S1 P G n hm sc (.Assign [.Attribute o a p] e pos) (.asgAttr o' a e'):=by
  intro F l K S R HM ro H s Q X I q
  conv at q=>whnf
  refine plainObj_wpAny_Assign_Attribute (wpAny_mono (h K S R HM I q) (fun V s' z=>?_) fun _ _ z=>PostX.toS z) swaps_attr
  obtain ⟨H1,I1,z⟩:=z
  refine wpAny_mono (ho K S R HM I1 z) (fun V2 s2 z=>?_) fun _ _ z=>PostX.toS z
  obtain ⟨H2,I2,z⟩:=z
  refine wpAny_mono (s_setattr Y GO K I2 rfl rfl z) (fun _ s3 z=>?_) fun _ _ z=>z
  obtain ⟨H3,I3,z⟩:=z
  exact ⟨l,H3,I3,z⟩
theorem stored_er {K:Type} [DecidableEq K] (ks:List (K×Value)) (k:K) (v:Value):(stored ks k v).map (fun p=>(p.1,er p.2)) = stored (ks.map fun p=>(p.1,er p.2)) k (er v):=by
  unfold stored
  have e1:(ks.map fun p=>(p.1,er p.2)).any (fun kv=>decide (kv.1 = k)) = ks.any (fun kv=>decide (kv.1 = k)):=by rw [List.any_map];rfl
  rw [e1]
  split
  · rw [List.map_map,List.map_map]
    apply List.map_congr_left
    intro p _
    by_cases h:p.1 = k <;> simp [h]
  · simp
theorem s_setitem (Y:PmOk P) (I:Inv P F l H s) {E:Value→Shared→Prop} {O J V:Value} {k:Hp→Prop} (h:setItemV (er O) (er J) (er V) H k):wpAny P.M F.A (setItem O J V) (fun _ s'=>∃ H',Inv P F l H' s'∧k H') E s:=by
  unfold setItemV at h
  split at h
  · rename_i a i _ e1 e2;have:=er_ref e1;subst this;obtain ⟨t,rfl⟩:=er_int e2
    split at h
    · rename_i kvs hx
      obtain ⟨hz,q⟩:=h
      obtain ⟨ks,hd,e⟩:=I.objs _ _ hx
      refine wpAny_setItem_pairs (intKind_is _ _ _ _) hd (fun h' hd' sb=>⟨_,I.put (t:=s.toks + 1) (o':=.idict ((stored ks i V).map fun p=>(p.1,er p.2))) hx (fun b hb=>sb.2 b hb) ⟨_,hd',rfl⟩, ?_⟩) (by rw [← e] at hz;simpa using hz)
      rw [stored_er,e];exact q
    · exact h.elim
  · exact h.elim
theorem s1_asgIdx (Y:PmOk P) {sc:Scope} {o i e:Expr} {p pos:Pos} {o' i' e':Ex} (ho:SE P G n hm sc o o') (hi:SE P G n hm sc i i') (h:SE P G n hm sc e e'):S1 P G n hm sc (.Assign [.Subscript o i p] e pos) (.asgIdx o' i' e'):=by
  intro F l K S R HM ro H s Q X I q
  conv at q=>whnf
  refine wpAny_Assign_Subscript (wpAny_mono (h K S R HM I q) (fun V s' z=>?_) fun _ _ z=>PostX.toS z) swaps_sub
  obtain ⟨H1,I1,z⟩:=z
  refine wpAny_mono (ho K S R HM I1 z) (fun V2 s2 z=>?_) fun _ _ z=>PostX.toS z
  obtain ⟨H2,I2,z⟩:=z
  refine wpAny_mono (hi K S R HM I2 z) (fun V3 s3 z=>?_) fun _ _ z=>PostX.toS z
  obtain ⟨H3,I3,z⟩:=z
  refine wpAny_mono (s_setitem Y I3 z) (fun _ s4 z=>?_) fun _ _ z=>z
  obtain ⟨H4,I4,z⟩:=z
  exact ⟨l,H4,I4,z⟩
theorem s1_if {sc:Scope} {c:Expr} {c':Ex} {t f:List Stmt} {t' f':List Sm} {pos:Pos} (hc:ST P G n hm sc c c') (ht:SS P G n hm sc t t') (hf:SS P G n hm sc f f'):S1 P G n hm sc (.If c t f pos) (.ite c' t' f'):=by
  intro F l K S R HM ro H s Q X I q
  conv at q=>whnf
  refine wpAny_If (wpAny_mono (hc K S R HM (k:=fun b H1=>if b then wpSs G hm t' l H1 Q X else wpSs G hm f' l H1 Q X) I q) (fun b s' z=>?_) fun _ _ z=>PostX.toS z)
  obtain ⟨H',I',z⟩:=z
  cases b with
  | true=>exact ht K S R HM ro I' z
  | false=>exact hf K S R HM ro I' z
theorem s_noted (K:FmOk P F) (ro:F.ro = false) {X:XS} {EV:Value} (z:PostSX P F X EV s):notedBy P.M F.A F.env (fun e s'=>cameBackBy P.M F.A F.env (PostSX P F X) e s') EV s:=by
  obtain ⟨l',H',e,C,rfl,I,x,z⟩:=z
  exact s_note K I ro x fun s' I' x'=>s_cameBack I' x' fun s'' I'' x''=>⟨l',H',e,C,rfl,I'',x''.weak,z⟩
theorem s1_while {sc:Scope} {c:Expr} {c':Ex} {b:List Stmt} {b':List Sm} {pos:Pos} (hc:ST P G n hm sc c c') (hb:SS P G n hm sc b b'):S1 P G n hm sc (.While c b [] pos) (.while_ c' b'):=by
  intro F l K S R HM ro H s Q X I q
  conv at q=>whnf
  obtain ⟨m,q⟩:=q
  refine wpAny_While (codeAny_whileLoop (fun k s=>∃ l H,Inv P F l H s∧whileN (fun l' H' K=>wpE G hm c' l' H' (fun v H1=>truthV v fun b=>K b H1) (fun C H'=>X C l' H')) (fun l' H' K=>wpSs G hm b' l' H' K X) Q k l H) ?_ m ⟨l,H,I,q⟩)
  rintro k s ⟨l,H,I,q⟩
  cases k with
  | zero=>exact q.elim
  | succ k =>
    unfold whileN at q
    refine wpAny_mono (hc K S R HM I q) (fun b s' z=>?_) fun _ _ z=>s_noted K ro (PostX.toS z)
    obtain ⟨H',I',z⟩:=z
    cases b with
    | false =>
      simp only [Bool.false_eq_true,if_false] at z ⊢
      exact wpAny_execs_nil ⟨l,H',I',z⟩
    | true =>
      simp only [if_true] at z ⊢
      refine wpAny_mono (hb K S R HM ro I' z) (fun f s' z=>?_) fun _ _ z=>s_noted K ro z
      obtain ⟨l2,H2,I2,z⟩:=z
      cases f with
      | next=>exact ⟨k,Nat.lt_succ_self _,l2,H2,I2,z⟩
      | cont=>exact ⟨k,Nat.lt_succ_self _,l2,H2,I2,z⟩
      | brk=>exact z.elim
      | ret v=>exact ⟨l2,H2,I2,z⟩
noncomputable def notSet:Expr→Bool
  | .Set ..=>false
  | _=>true
theorem folded_no {e:Expr} {env:Env} {x:Value} (h:notSet e = true):foldedSetIterable e env x = pure x:=by
  cases e <;> first | rfl | cases h
theorem Inv.turn (K:FmOk P F) (I:Inv P F l H s) {J:Addr} (of:Off F H J) {h':Heap} {t:Nat} (k:∀ b o,b≠J→s.heap.get? b = some o→h'.get? b = some o):Inv P F l H { s with heap:=h',toks:=t } :=
  I.step fun b o e hn=>k b o (fun q=>hn (q ▸ of)) e
theorem s1_for {sc:Scope} {x:Str} {px pos:Pos} {it:Expr} {it':Ex} {b:List Stmt} {b':List Sm} (hx:isSt sc x = true) (hset:notSet it = true) (hi:SE P G n hm sc it it') (hb:SS P G n hm sc b b') :
    S1 P G n hm sc (.For (.Name x px) it b [] pos) (.for_ x it' b'):=by
  intro F l K S R HM ro H s Q X I q
  conv at q=>whnf
  refine wpAny_For (wpAny_mono (hi K S R HM I q) (fun V s1 q=>?_) fun _ _ z=>PostX.toS z) (fun _=>folded_no hset)
  obtain ⟨H1,I1,q⟩:=q
  refine wpAny_mono (s_iter K HM I1 q) (fun it s2 q=>?_) fun _ _ z=>z
  obtain ⟨guard,items,J,St,q,rfl,I2,of,bz,st,T⟩:=q
  have T:=T F.A rfl
  refine codeAny_forLoop (fun k s=>∃ i l H,Inv P F l H s∧Off F H J∧St i s.heap∧i≤items.length∧k = items.length - i + 1∧forG guard x (fun l' H' K=>wpSs G hm b' l' H' K X) (items.drop i) l H Q) ?_ (items.length + 1) ⟨0,l,H1,I2,of,st,Nat.zero_le _,rfl,q⟩
  rintro k s ⟨i,l,H,I,of,st,hle,hk,q⟩
  rcases Nat.lt_or_ge i items.length with hi | hi
  · obtain ⟨v,hv⟩:∃ v,items[i]? = some v:=⟨_,List.getElem?_eq_getElem hi⟩
    have hd:items.drop i = v :: items.drop (i + 1):=by
      rw [List.drop_eq_getElem_cons hi]
      have:=List.getElem?_eq_getElem hi
      rw [hv] at this;cases this;rfl
    rw [hd] at q
    unfold forG at q
    obtain ⟨g,q⟩:=q
    refine T.item i s _ _ H I.objs of.h g st v hv fun V h' tk hV st' k'=>?_
    have I':=I.turn (t:=tk) K of k'
    obtain ⟨o,ho⟩:=T.at_ _ _ st'
    dsimp only
    have KA:=K.also (o:=o) of
    have SA:ScOk sc (F.also J o):=⟨S.loc,S.glob,S.locl,S.cell⟩
    refine wpAny_assign_Name (st_loc KA (I'.also of ho) ro (st_of SA hx) fun s3 I3=>?_)
    rw [hV] at I3
    refine wpAny_mono (hb KA SA R (HM.also of.g) ro I3 q) (fun f s4 z=>?_) fun EV s4 z=>?_
    · obtain ⟨l4,H4,I4,z⟩:=z
      obtain ⟨I5,ho5,of5⟩:=I4.back K of
      have st5:St (i + 1) s4.heap:=T.frame _ _ _ st' fun o' e=>by rw [ho] at e;cases e;exact ho5
      have nx:forG guard x (fun l' H' K=>wpSs G hm b' l' H' K X) (items.drop (i + 1)) l4 H4 Q→∃ m,m < k∧∃ i l H,Inv P F l H s4∧Off F H J∧St i s4.heap∧i≤items.length∧m = items.length - i + 1∧forG guard x (fun l' H' K=>wpSs G hm b' l' H' K X) (items.drop i) l H Q :=
        fun q=>⟨items.length - (i + 1) + 1,by rw [hk];exact left1 hi,i + 1,l4,H4,I5,of5,st5,hi,rfl,q⟩
      cases f with
      | next=>exact nx z
      | cont=>exact nx z
      | brk=>exact z.elim
      | ret v=>exact ⟨l4,H4,I5,z⟩
    · obtain ⟨l',H',e,C,rfl,I4,x4,z⟩:=z
      exact s_noted K ro ⟨l',H',e,C,rfl,(I4.back K of).1,x4.back,z⟩
  · have:i = items.length:=Nat.le_antisymm hle hi
    subst this
    rw [List.drop_length] at q
    unfold forG at q
    refine T.done s _ _ H I.objs of.h q.1 st (HM.1.at_ I of.g) fun h' tk k'=>wpAny_execs_nil ⟨l,H,I.turn K of k',q.2⟩
end
end Mine
end

section
open PySem PyProof.Rows PySem.Calls
open PySem.W (Looks looks_subIn looks_typeIn looks_mroIn)
namespace Mine
section
variable {P:Pm} {F:Fm} {G:Gx} {n:Nat} {hm:Bool} {l:Loc} {H:Hp} {s:Shared}
theorem s1_raise (Y:PmOk P) (GO:GxOk P G) {sc:Scope} {x m:Str} {np cpos pos mp:Pos} {kk:Nat} (hl:isLoc sc x = some false):S1 P G n hm sc (.Raise (some (.Call (.Name x np) [.Constant (.str m) kk mp] [] cpos)) none pos) (.raise x):=by
  intro F l K S R HM ro H s Q X I q
  conv at q=>whnf
  obtain ⟨hmf,q⟩:=q
  split at q
  · rename_i C hC
    obtain ⟨he,q⟩:=q
    obtain ⟨V,hV,hg⟩:=GO.glob x _ hC
    have:=er_ref hV;subst this
    obtain ⟨bm,N,nm,qn,bs,hdct,sn,sub,ab,col,dd,k0,k1,k2,k3,k5,mN,c1,c2,c3,c4⟩:=GO.own C he
    have FB:=PySem.F.excBase_ValueError
    refine wpAny_Raise_call_subT (C:=C) (nm:=nm) (q:=qn) (N:=N) (bs:=bs) (bm:=bm) (hdct:=hdct) (sn:=sn) (sub:=sub) (ab:=ab) (col:=col) (dd:=dd) (k0:=k0) (k1:=k1) (k2:=k2) (k3:=k3) (k5:=k5)
      FB (mN:=mN) (c4.hasType FB.hasBase) (HM.2 hmf) (backTo_plain rfl) c3 (ld_glob Y K I hg (S.glob x hl) (isLoc_false hl) ⟨rfl, ?_⟩)
    refine evalArgs_any rfl (spliced_cons (wpAny_Constant_str (k:=kk) (pos:=mp) (spliced_nil ?_)))
    have k:∀ b o,P.base.get? b = some o→s.heap.get? b = some o:=fun b o e=>I.keep b o (K.base b o e)
    refine ⟨rfl,by simp [sizeLine],k _ _ c1,c2.keeps k,c4.keeps k,fun h' e M=>?_⟩
    obtain ⟨t,m1,m2,m3⟩:=M.there
    refine ⟨l,H,e,C,rfl,I.step (t:=s.toks + 1) fun b o hb _=>M.keeps b o hb,⟨trivial,I.off K M.new,none,⟨_,_,m1,rfl,rfl,⟨rfl,rfl⟩,rfl⟩,fun t q=>(nomatch q),fun q=>(nomatch q)⟩,q⟩
  · exact q.elim
theorem s_matches (Y:PmOk P) (GO:GxOk P G) (K:FmOk P F) (I:Inv P F l H s) {A:Around} {E:Value→Shared→Prop} {e C D:Addr} {b:Bool} (x:Exc P F H s e C b) (hc:G.isExc C = true) (hd:G.isExc D = true) {Q:Bool→Shared→Prop} (h:Q (G.sub C D) s) :
    wpAny P.M A (excMatches (.ref e) (.ref D)) Q E s:=by
  have X:=I.kin Y K
  obtain ⟨T,⟨oe,vs,h1,h2,h3,h5,h4⟩,_⟩:=x.at_
  have LT:Looks P.M s.heap (typeOf (.ref D)) (.type "type"):=looks_typeIn X (GO.exc D hd).ty
  have L1:Looks P.M s.heap (isInstance (.ref D) (.type "tuple")) false:=LT.andThen (Looks.of_pure (by rw [isSubtype_type];kernel_rfl))
  have L2:Looks P.M s.heap (isExcClass (.ref D)) true:=by
    have a:=(ask_own _ (GO.exc D hd)).is P.M _ X
    unfold isExcClass
    exact a.andThen (looks_mroIn X (GO.exc D hd).be)
  have L3:Looks P.M s.heap (typeOf (.ref e)) (.ref C):=by
    have II:PySem.W.InstAt s.heap e oe C none:=⟨h1,h2,by unfold PySem.W.notCls;rw [h3],by rw [h5.1];trivial⟩
    exact II.type
  have L4:=looks_subIn (M:=P.M) X (GO.sub C D hc hd)
  obtain ⟨hh,g,d,t,os⟩:=s
  unfold excMatches
  refine wpAny_bind (L1.at ?_)
  simp only [Bool.false_eq_true,if_false]
  refine wpAny_bind (wpAny_pure ?_)
  simp only [List.forIn_cons,List.forIn_nil,bind_assoc,pure_bind]
  refine wpAny_bind (L2.at ?_)
  simp only [Bool.not_true,Bool.false_eq_true,if_false]
  refine wpAny_bind (wpAny_pure (wpAny_bind (wpAny_pure (wpAny_bind (L3.at (wpAny_bind (L4.at ?_)))))))
  cases hb:G.sub C D with
  | true =>
    rw [hb] at h
    exact wpAny_bind (wpAny_pure (wpAny_bind (wpAny_pure (wpAny_pure h))))
  | false =>
    rw [hb] at h
    exact wpAny_bind (wpAny_pure (wpAny_bind (wpAny_pure (wpAny_pure h))))
theorem s_passOn (I:Inv P F l H s) {α:Type} {e C:Addr} (x:Exc P F H s e C true) {what:String} {Q:α→Shared→Prop} {E:Value→Shared→Prop} (h:∀ s',Inv P F l H s'→Exc P F H s' e C true→E (.ref e) s') :
    wpAny P.M F.A (PySem.passOn (α:=α) what (.ref e) F.env) Q E s:=by
  obtain ⟨T,ha,ht,hbt⟩:=x.at_
  obtain ⟨oe,vs,h1,h2,h3,h5,h4⟩:=ha
  unfold PySem.passOn
  cases T with
  | none=>simp at hbt
  | some t =>
    obtain ⟨a1,a2,r⟩:=h4
    refine wpAny_bind (wpAny_field h1 h3 a1 ?_)
    rw [if_neg (by simp)]
    exact wpAny_bind (s_flight I x fun s' I' x'=>wpAny_throw (h s' I' x'))
inductive SH (P:Pm) (G:Gx) (n:Nat) (sc:Scope):List ExceptHandler→List Hd→Prop where
  | nil:SH P G n sc [] []
  | plain {x:Str} {xp pos:Pos} {b₀:Stmt} {body:List Stmt} {body':List Sm} {r:List ExceptHandler} {r':List Hd}:isLoc sc x = some false→SS P G n true sc (b₀ :: body) body'→SH P G n sc r r' →
      SH P G n sc (.ExceptHandler (some (.Name x xp)) none (b₀ :: body) pos :: r) (.mk x none body' :: r')
  | as {x y:Str} {xp pos:Pos} {b₀:Stmt} {body:List Stmt} {body':List Sm} {r:List ExceptHandler} {r':List Hd}:isLoc sc x = some false→sc.names.lookup y = some .local→SS P G n true sc (b₀ :: body) body'→SH P G n sc r r' →
      SH P G n sc (.ExceptHandler (some (.Name x xp)) (some y) (b₀ :: body) pos :: r) (.mk x (some y) body' :: r')
theorem Exc.withA {A:Around} {e C:Addr} {b:Bool} (x:Exc P F H s e C b):Exc P { F with A:=A } H s e C b:=⟨x.big,⟨x.off.h,x.off.g,x.off.fr,x.off.l,x.off.c⟩,let ⟨T,h1,h2,h3⟩:=x.at_;⟨T,h1,fun t ht=>let z:=h2 t ht;⟨z.h,z.g,z.fr,z.l,z.c⟩,h3⟩⟩
theorem x_none (K:FmOk P F) (hh:F.A.handled = none):F.x = none:=by
  cases e:F.x with
  | none=>rfl
  | some a=>have:=(K.xg a e).2;rw [hh] at this;cases this
noncomputable def Fm.named (F:Fm) (e:Addr) (o:Obj):Fm:={ F.also e o with x:=some e }
theorem FmOk.named {o:Obj} {e:Addr} (K:FmOk P F) (x:Off F H e) (h:F.A.handled = some (.ref e)):FmOk P (F.named e o) :=
  have K':=K.also (o:=o) x
  ⟨K'.kind,K'.glob,K'.blt,K'.base,K'.above,K'.lg,K'.lf,K'.cl,K'.cg,K'.apart,K'.cn,K'.cf,K'.fg,K'.frames,fun a q=>by
    have q:some e = some a:=q
    cases q
    exact ⟨⟨o,if_pos rfl⟩,h⟩,K'.code⟩
theorem Inv.named {e C:Addr} {vs:Array Value} {sl:Array (Option Value)} (I:Inv P F l H s) (hx:F.x = none) (x:Off F H e) (h:s.heap.get? e = some { cls:=.ref C,dict:=none,data:=.fields vs,slots:=sl }):Inv P (F.named e { cls:=.ref C,dict:=none,data:=.fields vs,slots:=sl }) l (H.upd e (.exc C)) s:=by
  have I':=I.also x h
  refine ⟨I'.gens,I'.os,I'.keep,I'.frk,I'.loc,I'.cel,fun a o q=>?_,fun a o q=>?_,fun a o q=>?_⟩
  · by_cases z:a = e
    · subst z;rw [Hp.upd_same] at q;cases q;exact ⟨vs,sl,h⟩
    · rw [Hp.upd_ne _ _ z] at q;exact I'.objs a o q
  · by_cases z:a = e
    · subst z;rw [Hp.upd_same] at q;cases q;exact rfl
    · rw [Hp.upd_ne _ _ z] at q
      cases hr:o.isR with
      | false =>
        have f:=of_fre (I'.free a o q) hr
        exact fre_of hr f
      | true =>
        rcases r_fre (I.free a o q) hr with w | w
        · cases o <;> first | exact w | (cases hr;done) | skip
          have:=I.free a _ q
          rw [show Fre P F a (.exc _) = (F.x = some a) from rfl,hx] at this;cases this
        · rw [hx] at w;cases w
  · by_cases z:a = e
    · subst z;rw [Hp.upd_same] at q;cases q;exact trivial
    · rw [Hp.upd_ne _ _ z] at q;exact I'.big a o q
theorem Inv.unnamed {e:Addr} {o:Obj} (K:FmOk P F) (hx:F.x = none) {H0:Hp} (x:Off F H0 e) (I:Inv P (F.named e o) l H s):Inv P F l (H.del e) s:=by
  have sub:∀ a o',(H.del e) a = some o'→a≠e∧H a = some o':=fun a o' q=>by
    have q:(if a = e then none else H a) = some o':=q
    split at q
    · cases q
    · exact ⟨‹_›,q⟩
  refine ⟨I.gens,I.os,fun b o' q=>I.keep b o' ?_,I.frk,I.loc,I.cel,fun a o' q=>I.objs a o' (sub a o' q).2,fun a o' q=>?_,fun a o' q=>I.big a o' (sub a o' q).2⟩
  · show (if b = e then some o else F.g b) = some o'
    rw [if_neg (fun z=>by rw [z,x.g] at q;cases q)];exact q
  · obtain ⟨ne,q⟩:=sub a o' q
    cases hr:o'.isR with
    | true =>
      have f:=I.free a o' q
      cases o' <;> first | (cases hr;done) | skip
      · exact f
      have f:some e = some a:=f
      cases f;exact absurd rfl ne
    | false =>
      obtain ⟨h1,h2⟩:=of_fre (I.free a o' q) hr
      refine fre_of hr ⟨?_,h2⟩
      have h1:(if a = e then some o else F.g a) = none:=h1
      rw [if_neg ne] at h1;exact h1
theorem s_unbind (K:FmOk P F) (I:Inv P F l H s) (ro:F.ro = false) {y:Str} (hy:F.env.kindOf y = some .local) {pos:Pos} {E:Value→Shared→Prop} {Q:Unit→Shared→Prop} (h:∀ s',Inv P F (l.del y) H s'→Q () s') :
    wpAny P.M F.A (do bindName F.env y .none;unbindBehindTheSuite F.env y pos) Q E s:=by
  refine wpAny_bind (wpAny_bindName (st_loc K I ro (.inl hy) fun s1 I1=>?_))
  unfold unbindBehindTheSuite
  obtain ⟨m,hn,hm⟩:=I1.loc
  obtain ⟨V,hV,_⟩:=hm y .none (by simp [Loc.upd,er]) hy
  refine wpAny_onRaise (wpAny_unbindName_local hy hn hV (by rw [K.kind];rfl) fun h' u hn' sb=>h _ ?_)
  refine I1.stepL (t:=s1.toks) (fun b o e hb _=>sb.extBut b o hb e) hn' K (fun x v hx hk=>?_) fun x v hx hk=>?_
  · by_cases q:x = y
    · simp [Loc.del,q] at hx
    · simp [Loc.del,q] at hx
      simp only [if_neg q]
      exact hm x v (by simpa [Loc.upd,q] using hx) hk
  · by_cases q:x = y
    · simp [Loc.del,q] at hx
    · simpa [Loc.upd,Loc.del,q] using hx
theorem s_handle (Y:PmOk P) (GO:GxOk P G) {sc:Scope} {hs:List ExceptHandler} {hs':List Hd} (h:SH P G n sc hs hs') (K:FmOk P F) (S:ScOk sc F) (R:Room n F.A) (hh:F.A.handled = none) (ro:F.ro = false) {e C:Addr} (hc:G.isExc C = true) {Q:QS} {X:XS} :
    ∀ {l H s},Inv P F l H s→Exc P F H s e C true→wpH G hs' C l H Q X→wpAny P.M F.A (handleBy (.ref e) F.env hs) (PostS P F Q) (PostSX P F X) s:=by
  induction h with
  | nil =>
    intro l H s I x q
    simp only [wpH] at q
    exact wpAny_handleBy_nil (s_passOn I x fun s' I' x'=>⟨l,H,e,C,rfl,I',x'.weak,q⟩)
  | @plain y xp pos b₀ body body' r r' hy hb hr ih =>
    intro l H s I x q
    simp only [wpH] at q
    split at q
    · rename_i D hD
      obtain ⟨V,hV,hg⟩:=GO.glob y _ hD
      have:=er_ref hV;subst this
      have KM:FmOk P { F with A:=F.A.mark (some (.ref e)) }:=K.withA rfl (.inl (x_none K hh))
      refine wpAny_handleBy_cons (codeAny_handlers_test ?_) (by intro q;cases q)
      obtain ⟨hdD,q⟩:=q
      refine ld_glob (F:={ F with A:=F.A.mark (some (.ref e)) }) Y KM (I.withA _) hg (S.glob y hy) (isLoc_false hy) (s_matches Y GO K I x hc hdD ?_)
      cases hsub:G.sub C D with
      | false =>
        rw [hsub] at q
        exact ih I x q
      | true =>
        rw [hsub] at q
        simp only [if_true] at q ⊢
        refine codeAny_handlers_suite (s_flight (F:={ F with A:=F.A.mark (some (.ref e)) }) (I.withA _) x.withA fun s1 I1 x1=>?_)
        obtain ⟨T,⟨oe,vs,h1,h2,h3,h5,h4⟩,_⟩:=x1.at_
        have hd:HdK (Fm.also { F with A:=F.A.mark (some (.ref e)) } e oe):=.inr ⟨e,oe,vs,rfl,if_pos rfl,h3,h5.2⟩
        refine wpAny_mono (hb (KM.also x1.off) ⟨S.loc,S.glob,S.locl,S.cell⟩ R ⟨hd,fun z=>nomatch z⟩ ro (I1.also x1.off h1) q) (fun f s2 z=>?_) fun EV s2 z=>?_
        · obtain ⟨l2,H2,I2,z⟩:=z
          exact ⟨l2,H2,(I2.back KM x1.off).1.ofA,z⟩
        · obtain ⟨_,_,_,_,_,_,_,z⟩:=z
          exact z.elim
    · exact q.elim
  | @as x y xp pos b₀ body body' r r' hx hy hb hr ih =>
    intro l H s I ex q
    simp only [wpH] at q
    split at q
    · rename_i D hD
      obtain ⟨V,hV,hg⟩:=GO.glob x _ hD
      have:=er_ref hV;subst this
      have KM:FmOk P { F with A:=F.A.mark (some (.ref e)) }:=K.withA rfl (.inl (x_none K hh))
      refine wpAny_handleBy_cons (codeAny_handlers_test ?_) (by intro q;cases q)
      obtain ⟨hdD,q⟩:=q
      refine ld_glob (F:={ F with A:=F.A.mark (some (.ref e)) }) Y KM (I.withA _) hg (S.glob x hx) (isLoc_false hx) (s_matches Y GO K I ex hc hdD ?_)
      cases hsub:G.sub C D with
      | false =>
        rw [hsub] at q
        exact ih I ex q
      | true =>
        rw [hsub] at q
        simp only [if_true] at q ⊢
        refine codeAny_handlers_suite_as (s_flight (F:={ F with A:=F.A.mark (some (.ref e)) }) (I.withA _) ex.withA fun s1 I1 x1=>?_)
        obtain ⟨T,⟨⟨c,d,dt,sl⟩,vs,h1,h2,h3,h5,h4⟩,_⟩:=x1.at_
        have h2:c = .ref C:=h2
        have h3:dt = .fields vs:=h3
        have h6:d = none:=h5.1
        subst h2 h3 h6
        have hx0:=x_none K hh
        have hxn:(Fm.mk F.env (F.A.mark (some (.ref e))) F.g F.fr F.ro F.x).x = none:=hx0
        have KX:=KM.named (o:={ cls:=.ref C,dict:=none,data:=.fields vs,slots:=sl }) x1.off rfl
        have hd:HdK (Fm.named { F with A:=F.A.mark (some (.ref e)) } e { cls:=.ref C,dict:=none,data:=.fields vs,slots:=sl }):=.inr ⟨e,_,vs,rfl,if_pos rfl,rfl,h5.2⟩
        refine st_loc KX (I1.named hxn x1.off h1) ro (.inl (S.locl y hy)) fun s2 I2=>?_
        refine wpAny_mono (hb KX ⟨S.loc,S.glob,S.locl,S.cell⟩ R ⟨hd,fun z=>nomatch z⟩ ro I2 (q e x1.off.h)) (fun f s3 z=>?_) fun EV s3 z=>?_
        · obtain ⟨l3,H3,I3,z⟩:=z
          refine s_unbind K (I3.unnamed KM hxn x1.off).ofA ro (S.locl y hy) fun s4 I4=>⟨_,_,I4, ?_⟩
          cases f <;> exact z
        · obtain ⟨_,_,_,_,_,_,_,z⟩:=z
          exact z.elim
    · exact q.elim
theorem s1_try (Y:PmOk P) (GO:GxOk P G) {sc:Scope} {body:List Stmt} {body':List Sm} {h₀:ExceptHandler} {hs:List ExceptHandler} {hs':List Hd} {pos:Pos} (hb:SS P G n hm sc body body') (hh:SH P G n sc (h₀ :: hs) hs') :
    S1 P G n hm sc (.Try body (h₀ :: hs) [] [] pos) (.try_ body' hs'):=by
  intro F l K S R HM ro H s Q X I q
  conv at q=>whnf
  refine wpAny_Try_except (wpAny_mono (hb K S R HM ro I q) (fun f s1 z=>?_) fun EV s1 z=>?_)
  · obtain ⟨l1,H1,I1,z⟩:=z
    cases f with
    | next=>exact wpAny_execs_nil ⟨l1,H1,I1,z⟩
    | brk=>exact z.elim
    | cont=>exact ⟨l1,H1,I1,z⟩
    | ret v=>exact ⟨l1,H1,I1,z⟩
  · obtain ⟨l1,H1,e,C,rfl,I1,x1,hf,hc,z⟩:=z
    refine s_note K I1 ro x1 fun s2 I2 x2=>s_flight I2 x2 fun s3 I3 x3=>?_
    exact s_handle Y GO hh K S R (HM.2 hf) ro hc I3 x3 z
end
end Mine
end

section
open PySem PyProof.Rows PySem.Calls
namespace Mine
noncomputable def isCell (F:Fm) (b:Addr):Bool:=F.env.cells.any fun x=>x.2 == b
theorem isCell_mem {F:Fm} {x:Str} {c:Addr} (h:(x,c)∈F.env.cells):isCell F c = true:=by
  unfold isCell
  exact List.any_eq_true.mpr ⟨_,h,by simp⟩
theorem mem_isCell {F:Fm} {c:Addr} (h:isCell F c = true):∃ x,(x,c)∈F.env.cells:=by
  unfold isCell at h
  obtain ⟨⟨x,c'⟩,hm,e⟩:=List.any_eq_true.mp h
  have:c' = c:=by simpa using e
  subst this;exact ⟨x,hm⟩
noncomputable def Fm.call (F:Fm) (h:Heap) (env:Env):Fm where
  env:=env
  A:=F.A.deeper env
  g:=fun b=>if isCell F b then h.get? b else F.g b
  fr:=fun b=>if b = F.env.locals then (h.get? b).map (·.data) else F.fr b
  ro:=false
  x:=F.x
theorem HdK.call {P:Pm} {F:Fm} {l:Loc} {H:Hp} {s:Shared} (k:HdK F) (I:Inv P F l H s) (env:Env):HdK (F.call s.heap env) :=
  k.imp id fun ⟨e,o,vs,h1,h2,h3,h4⟩=>⟨e,o,vs,h1,(by
    show (if isCell F e then s.heap.get? e else F.g e) = some o
    split
    · exact I.keep e o h2
    · exact h2),h3,h4⟩
noncomputable def scFine (sc:Scope) (params:List Str):Bool :=
  sc.kind == .function && !sc.isCoroutine && !sc.isGenerator && (sc.names.map (·.1)).Nodup && sc.names.all (fun x=>x.2 != .free) && params.all (fun x=>sc.names.lookup x == some .local || sc.names.lookup x == some .cell) && params.Nodup
structure FnAt (P:Pm) (f:Addr) (params:List Str) (sc:Scope) (body:List Stmt):Prop where
  at_:∃ o fd,P.base.get? f = some o∧o.data = .func fd∧P.base.CodeRec fd.code fd.qualname∧fd.body = .stmts body∧fd.scope = sc∧fd.closure = []∧fd.globals = mainGlobals∧fd.builtins = builtinsNs∧(∀ c T,P.lam = some (c,T)→sc.names.lookup lamX = some .local→fd.code = .ref c) ∧
    ∀ vals,vals.length = params.length→bindArgs fd ⟨vals,[]⟩ = pure (params.zip vals)
  fine:scFine sc params = true
  keep:PySem.W.keepIn P.K (.ref f) = true
theorem cells_lookup_acc {x:Str}:∀ (names:List (Str×NameKind)) (k:Nat) (acc:List (Str×Addr)),(∃ c,acc.lookup x = some c)→∃ c,(cellsFrom k names acc).lookup x = some c
  | [],k,acc,h=>h
  | (y,kind) :: r,k,acc,h=>by
    unfold cellsFrom
    split
    · refine cells_lookup_acc r _ _ ?_
      rw [List.lookup_cons]
      split
      · exact ⟨_,rfl⟩
      · exact h
    · exact cells_lookup_acc r _ _ h
theorem cells_lookup {x:Str}:∀ (names:List (Str×NameKind)) (k:Nat) (acc:List (Str×Addr)),names.lookup x = some .cell→∃ c,(cellsFrom k names acc).lookup x = some c
  | [],k,acc,h=>by cases h
  | (y,kind) :: r,k,acc,h=>by
    rw [List.lookup_cons] at h
    unfold cellsFrom
    split at h
    · rename_i e
      cases h
      rw [if_pos (by decide)]
      refine cells_lookup_acc r _ _ ⟨k, ?_⟩
      rw [List.lookup_cons,e]
    · split
      · exact cells_lookup r _ _ h
      · exact cells_lookup r _ _ h
theorem cells_names:∀ (names:List (Str×NameKind)) (k:Nat) (acc:List (Str×Addr)),(names.map (·.1)).Nodup→(acc.map (·.1)).Nodup→(∀ x∈names.map (·.1),x ∉ acc.map (·.1))→((cellsFrom k names acc).map (·.1)).Nodup
  | [],k,acc,_,h,_=>h
  | (y,kind) :: r,k,acc,hn,h,hd=>by
    rw [List.map_cons,List.nodup_cons] at hn
    unfold cellsFrom
    split
    · refine cells_names r _ _ hn.2 ?_ ?_
      · rw [List.map_cons,List.nodup_cons]
        exact ⟨hd y (by simp),h⟩
      · intro x hx hm
        rw [List.map_cons,List.mem_cons] at hm
        rcases hm with rfl | hm
        · exact hn.1 hx
        · exact hd x (by rw [List.map_cons];exact .tail _ hx) hm
    · exact cells_names r _ _ hn.2 h fun x hx=>hd x (by rw [List.map_cons];exact .tail _ hx)
theorem lookup_of_mem {α:Type} {x:Str} {c:α}:∀ {l:List (Str×α)},(l.map (·.1)).Nodup→(x,c)∈l→l.lookup x = some c
  | (y,d) :: r,hn,hm=>by
    rw [List.map_cons,List.nodup_cons] at hn
    rw [List.lookup_cons]
    rcases List.mem_cons.mp hm with q | q
    · cases q;simp
    · have:(x == y) = false:=by
        apply beq_eq_false_iff_ne.mpr
        intro e
        exact hn.1 (List.mem_map.mpr ⟨(x,c),q,e⟩)
      rw [this]
      exact lookup_of_mem hn.2 q
theorem bindL_get {k:Str→Option NameKind} {x:Str} (hk:k x = some .local):∀ (ps:List Str) (vs:List Value) (m:Str→Option Value),ps.Nodup→∀ v,((ps.zip (vs.map er)).lookup x = some v→∃ V,bindL k (ps.zip vs) m x = some V∧er V = v)∧((ps.zip vs).lookup x = none→bindL k (ps.zip vs) m x = m x)
  | [],vs,m,_,v=>⟨fun h=>by simp at h,fun _=>rfl⟩
  | p :: ps,[],m,_,v=>⟨fun h=>by simp at h,fun _=>rfl⟩
  | p :: ps,V :: vs,m,hn,v=>by
    rw [List.nodup_cons] at hn
    obtain ⟨h1,h2⟩:=bindL_get hk ps vs (if k p = some .local then fun y=>if y = p then some V else m y else m) hn.2 v
    constructor
    · intro h
      rw [List.map_cons,List.zip_cons_cons,List.lookup_cons] at h
      show ∃ W,bindL k (ps.zip vs) (if k p = some .local then fun y=>if y = p then some V else m y else m) x = some W∧_
      split at h
      · rename_i e
        have:x = p:=by simpa using e
        subst this
        cases h
        have no:(ps.zip vs).lookup x = none:=by
          apply List.lookup_eq_none_iff.mpr
          intro q hq
          have:=(List.of_mem_zip hq).1
          refine bne_iff_ne.mpr ?_
          rintro rfl
          exact hn.1 this
        have:=(bindL_get hk ps vs (if k x = some .local then fun y=>if y = x then some V else m y else m) hn.2 (er V)).2 no
        rw [this,if_pos hk]
        exact ⟨V,by simp,rfl⟩
      · exact h1 h
    · intro h
      rw [List.zip_cons_cons,List.lookup_cons] at h
      show bindL k (ps.zip vs) (if k p = some .local then fun y=>if y = p then some V else m y else m) x = m x
      split at h
      · cases h
      · rename_i e
        rw [h2 h]
        have:x≠p:=by simpa using e
        split
        · simp [this]
        · rfl
theorem bindC_get {k:Str→Option NameKind} {x:Str} (hk:k x≠some .local):∀ (ps:List Str) (vs:List Value) (m:Str→Option Value),ps.Nodup→∀ v,((ps.zip (vs.map er)).lookup x = some v→∃ V,bindC k (ps.zip vs) m x = some V∧er V = v)∧((ps.zip vs).lookup x = none→bindC k (ps.zip vs) m x = m x)
  | [],vs,m,_,v=>⟨fun h=>by simp at h,fun _=>rfl⟩
  | p :: ps,[],m,_,v=>⟨fun h=>by simp at h,fun _=>rfl⟩
  | p :: ps,V :: vs,m,hn,v=>by
    rw [List.nodup_cons] at hn
    obtain ⟨h1,h2⟩:=bindC_get hk ps vs (if k p = some .local then m else fun y=>if y = p then some V else m y) hn.2 v
    constructor
    · intro h
      rw [List.map_cons,List.zip_cons_cons,List.lookup_cons] at h
      show ∃ W,bindC k (ps.zip vs) (if k p = some .local then m else fun y=>if y = p then some V else m y) x = some W∧_
      split at h
      · rename_i e
        have:x = p:=by simpa using e
        subst this
        cases h
        have no:(ps.zip vs).lookup x = none:=by
          apply List.lookup_eq_none_iff.mpr
          intro q hq
          have:=(List.of_mem_zip hq).1
          refine bne_iff_ne.mpr ?_
          rintro rfl
          exact hn.1 this
        have:=(bindC_get hk ps vs (if k x = some .local then m else fun y=>if y = x then some V else m y) hn.2 (er V)).2 no
        rw [this,if_neg hk]
        exact ⟨V,by simp,rfl⟩
      · exact h1 h
    · intro h
      rw [List.zip_cons_cons,List.lookup_cons] at h
      show bindC k (ps.zip vs) (if k p = some .local then m else fun y=>if y = p then some V else m y) x = m x
      split at h
      · cases h
      · rename_i e
        rw [h2 h]
        have:x≠p:=by simpa using e
        split
        · rfl
        · simp [this]
section
variable {P:Pm} {F:Fm} {G:Gx} {n:Nat} {hm:Bool} {l:Loc} {H:Hp} {s:Shared}
theorem call_xg (K:FmOk P F) (I:Inv P F l H s) (env:Env):∀ a,(F.call s.heap env).x = some a→(∃ O,(F.call s.heap env).g a = some O)∧F.A.handled = some (.ref a):=fun a e=>by
  obtain ⟨⟨O,h⟩,h2⟩:=K.xg a e
  refine ⟨⟨O, ?_⟩,h2⟩
  show (if isCell F a then s.heap.get? a else F.g a) = some O
  split
  · exact I.keep a O h
  · exact h
theorem call_frame (K:FmOk P F) (I:Inv P F l H s) {env:Env} (hk:env.scope.kind = .function) (hg:env.globals = mainGlobals) (hb:env.builtins = builtinsNs) (hL:env.locals = s.heap.objs.size) (hf:env.frame = some env.locals)
    (ab:∀ x c,(x,c)∈env.cells→env.locals < c) (ap:env.cells.Pairwise fun x y=>x.2≠y.2) (cn:∀ x c,(x,c)∈env.cells→env.cells.lookup x = some c) (hc:∀ c T,P.lam = some (c,T)→env.kindOf lamX = some .local→env.code = .ref c):FmOk P (F.call s.heap env):=by
  have nn:∀ b,s.heap.objs.size≤b→s.heap.get? b = none:=fun b hb=>Heap.get?_none_of_le hb
  have g0:∀ b,s.heap.objs.size≤b→(F.call s.heap env).g b = none:=fun b hb=>by
    show (if isCell F b then s.heap.get? b else F.g b) = none
    split
    · exact nn b hb
    · exact (I.off K (nn b hb)).g
  have f0:∀ b,s.heap.objs.size≤b→(F.call s.heap env).fr b = none:=fun b hb=>by
    show (if b = F.env.locals then (s.heap.get? b).map (·.data) else F.fr b) = none
    rw [if_neg (I.off K (nn b hb)).l]
    exact (I.off K (nn b hb)).fr
  refine ⟨hk,hg,hb,fun b o e=>?_, ?_, ?_, ?_,fun x c hm=>Nat.ne_of_gt (ab x c hm),fun _ x c hm=>⟨g0 c ?_,f0 c ?_⟩,ap,cn,fun x c hm=>f0 c ?_,fun b d e=>?_, ?_,call_xg K I env,hc⟩
  · show (if isCell F b then s.heap.get? b else F.g b) = some o
    split
    · exact I.keep b o (K.base b o e)
    · exact K.base b o e
  · show P.base.objs.size≤env.locals
    rw [hL];exact I.base_le K
  · exact g0 _ (by show s.heap.objs.size≤env.locals;rw [hL];exact Nat.le_refl _)
  · exact f0 _ (by show s.heap.objs.size≤env.locals;rw [hL];exact Nat.le_refl _)
  · have:=ab x c hm;rw [hL] at this;exact Nat.le_of_lt this
  · have:=ab x c hm;rw [hL] at this;exact Nat.le_of_lt this
  · have:=ab x c hm;rw [hL] at this;exact Nat.le_of_lt this
  · have e:(if b = F.env.locals then (s.heap.get? b).map (·.data) else F.fr b) = some d:=e
    show (if isCell F b then s.heap.get? b else F.g b) = none∧_
    by_cases q:b = F.env.locals
    · rw [if_pos q] at e
      subst q
      constructor
      · split
        · rename_i hc
          obtain ⟨x,hm⟩:=mem_isCell hc
          exact absurd rfl (K.cl x _ hm)
        · exact K.lg
      · obtain ⟨m,⟨o,es,ep,ho,hd,_⟩,_⟩:=I.loc
        rw [ho] at e
        cases e
        intro vs q
        have q:o.data = .fields vs:=q
        rw [hd] at q;cases q
    · rw [if_neg q] at e
      obtain ⟨h1,h2⟩:=K.fg b d e
      refine ⟨?_,h2⟩
      split
      · rename_i hc
        obtain ⟨x,hm⟩:=mem_isCell hc
        rw [K.cf x b hm] at e;cases e
      · exact h1
  · obtain ⟨fenv,outer,h1,h2,h3⟩:=K.frames
    refine ⟨env,fenv :: outer, ?_,fun _=>⟨rfl,hf⟩,fun e he=>?_⟩
    · show F.A.frames.map (env :: ·) = _
      rw [h1];rfl
    · rcases List.mem_cons.mp he with rfl | he
      · exact ⟨by rw [hk];decide,_,hf, .inl rfl⟩
      · obtain ⟨k1,b,k2,k3⟩:=h3 e he
        refine ⟨k1,b,k2, .inr ?_⟩
        show ((if b = F.env.locals then (s.heap.get? b).map (·.data) else F.fr b)).isSome = true
        obtain ⟨m,⟨o,es,ep,ho,hd,_⟩,_⟩:=I.loc
        rcases k3 with rfl | k3
        · rw [if_pos rfl,ho];rfl
        · split
          · rename_i q;rw [q,ho];rfl
          · exact k3
theorem Off.up (K:FmOk P F) {l0:Loc} {H0:Hp} (I:Inv P F l0 H0 s) {env:Env} {H':Hp} {a:Addr} (x:Off (F.call s.heap env) H' a):Off F H' a:=by
  have gx:(if isCell F a then s.heap.get? a else F.g a) = none:=x.g
  have fx:(if a = F.env.locals then (s.heap.get? a).map (·.data) else F.fr a) = none:=x.fr
  have c0:∀ y c,(y,c)∈F.env.cells→a≠c:=by
    rintro y c hm rfl
    rw [if_pos (isCell_mem hm)] at gx
    obtain ⟨vo,⟨o,ho,_⟩,_⟩:=I.cel y a (K.cn y a hm)
    rw [ho] at gx;cases gx
  have l0:a≠F.env.locals:=by
    rintro rfl
    obtain ⟨m,⟨o,es,ep,ho,hd,_⟩,_⟩:=I.loc
    rw [if_pos rfl,ho] at fx;cases fx
  refine ⟨x.h, ?_, ?_,l0,c0⟩
  · split at gx
    · rename_i hc
      obtain ⟨y,hm⟩:=mem_isCell hc
      exact absurd rfl (c0 y a hm)
    · exact gx
  · rw [if_neg l0] at fx;exact fx
theorem Exc.up (K:FmOk P F) {l0:Loc} {H0:Hp} (I:Inv P F l0 H0 s) {env:Env} {H':Hp} {s':Shared} {e C:Addr} {b:Bool} (x:Exc P (F.call s.heap env) H' s' e C b):Exc P F H' s' e C b :=
  ⟨x.big,x.off.up K I,let ⟨T,h1,h2,h3⟩:=x.at_;⟨T,h1,fun t ht=>(h2 t ht).up K I,h3⟩⟩
theorem Inv.up (K:FmOk P F) (I:Inv P F l H s) {env:Env} {l':Loc} {H':Hp} {s':Shared} (I':Inv P (F.call s.heap env) l' H' s'):Inv P F l H' s':=by
  have gc:∀ y c,(y,c)∈F.env.cells→s'.heap.get? c = s.heap.get? c:=fun y c hm=>by
    obtain ⟨vo,⟨o,ho,_⟩,_⟩:=I.cel y c (K.cn y c hm)
    rw [ho]
    refine I'.keep c o ?_
    show (if isCell F c then s.heap.get? c else F.g c) = some o
    rw [if_pos (isCell_mem hm)];exact ho
  refine ⟨I'.gens,I'.os,fun b o e=>I'.keep b o ?_,fun b d e=>I'.frk b d ?_, ?_,fun x c e=>?_,I'.objs,fun a o e=>?_,I'.big⟩
  · show (if isCell F b then s.heap.get? b else F.g b) = some o
    split
    · exact I.keep b o e
    · exact e
  · show (if b = F.env.locals then (s.heap.get? b).map (·.data) else F.fr b) = some d
    rw [if_neg (fun q=>by rw [q,K.lf] at e;cases e)];exact e
  · obtain ⟨m,⟨o,es,ep,ho,hd,r⟩,q⟩:=I.loc
    obtain ⟨o',ho',hd'⟩:=I'.frk F.env.locals o.data (by show (if F.env.locals = F.env.locals then (s.heap.get? F.env.locals).map (·.data) else F.fr F.env.locals) = _;rw [if_pos rfl,ho];rfl)
    exact ⟨m,⟨o',es,ep,ho',hd'.trans hd,r⟩,q⟩
  · obtain ⟨vo,⟨o,ho,r⟩,q⟩:=I.cel x c e
    exact ⟨vo,⟨o,(gc x c (mem_of_lookup e)).trans ho,r⟩,q⟩
  · cases hr:o.isR with
    | true=>exact fre_r (F:=F.call s.heap env) (F':=F) hr rfl (I'.free a o e)
    | false =>
    obtain ⟨h1,h2,h3,h4⟩:=of_fre (I'.free a o e) hr
    refine fre_of hr ?_
    have:=Off.up K I (env:=env) (H':=fun _=>none) (a:=a) ⟨rfl,h1,h2,h3,h4⟩
    exact ⟨this.g,this.fr,this.l,this.c⟩
theorem call_inv (K:FmOk P F) (I:Inv P F l H s) {env:Env} {ps:List Str} {vs:List Value} {s₁:Shared} (hL:env.locals = s.heap.objs.size) (nd:ps.Nodup)
    (x:InCallC s env.locals (bindL env.kindOf (ps.zip vs) fun _=>none) env.cells (bindC env.kindOf (ps.zip vs) fun _=>none) s₁):Inv P (F.call s.heap env) (fun y=>(ps.zip (vs.map er)).lookup y) H s₁:=by
  obtain ⟨⟨⟨h,tk,rfl⟩,ns,keep,fresh⟩,cell,apart,above⟩:=x
  have up:∀ a o,H a = some o→a < env.locals:=fun a o e=>by rw [hL];exact I.lt_of e
  refine ⟨I.gens,I.os,fun b o e=>?_,fun b d e=>?_,⟨_,ns,fun y v hy hk=>((bindL_get hk ps vs _ nd v).1 hy)⟩,fun y c e=>⟨_,cell y c e,fun v hy hk=>((bindC_get (fun q=>?_) ps vs _ nd v).1 hy)⟩,fun a o e=>?_,fun a o e=>?_,I.big⟩
  · have e:(if isCell F b then s.heap.get? b else F.g b) = some o:=e
    split at e
    · exact keep b o e
    · exact keep b o (I.keep b o e)
  · have e:(if b = F.env.locals then (s.heap.get? b).map (·.data) else F.fr b) = some d:=e
    split at e
    · obtain ⟨o,ho,hd⟩:=Option.map_eq_some_iff.mp e
      exact ⟨o,keep b o ho,hd⟩
    · obtain ⟨o,ho,hd⟩:=I.frk b d e
      exact ⟨o,keep b o ho,hd⟩
  · have hk:env.kindOf y = some .cell∨env.kindOf y = some .free:=hk
    rw [q] at hk;simp at hk
  · obtain ⟨O,ho⟩:=(I.objs a o e).some
    exact (I.objs a o e).congr ((keep a O ho).trans ho.symm)
  · cases hr:o.isR with
    | true=>exact fre_r (F:=F) (F':=F.call s.heap env) hr rfl (I.free a o e)
    | false =>
    obtain ⟨h1,h2,h3,h4⟩:=of_fre (I.free a o e) hr
    refine fre_of hr ⟨?_, ?_,Nat.ne_of_lt (up a o e),fun y c hm=>Nat.ne_of_lt (Nat.lt_trans (up a o e) (above y c hm))⟩
    · show (if isCell F a then s.heap.get? a else F.g a) = none
      rw [if_neg (fun q=>by obtain ⟨y,hm⟩:=mem_isCell q;exact h4 y a hm rfl)];exact h1
    · show (if a = F.env.locals then (s.heap.get? a).map (·.data) else F.fr a) = none
      rw [if_neg h3];exact h2
theorem call_def (Y:PmOk P) {f:Addr} {ps:List Str} {sc:Scope} {body:List Stmt} {body':List Sm} (D:FnAt P f ps sc body) (hb:SS P G n hm sc body body') {args:List Value} {Q:QV} {X:XV} (q:wpF G hm ps body' args H Q X)
    (K:FmOk P F) (R:RoomC (n + 1) F.A) (HM:HmOk hm F) (I:Inv P F l H s) {vals:List Value} (hv:vals.map er = args):codeAny P.M F.A (.call (.ref f) ⟨vals,[]⟩) (PostC P F l Q X) s:=by
  subst hv
  obtain ⟨hlen,q⟩:=q
  obtain ⟨o,fd,d1,d2,d3,d4,d5,d6,d7,d8,dl,d9⟩:=D.at_
  have fine:=D.fine
  unfold scFine at fine
  simp only [Bool.and_eq_true,beq_iff_eq,Bool.not_eq_true',decide_eq_true_eq,List.all_eq_true,Bool.or_eq_true,bne_iff_ne,ne_eq] at fine
  obtain ⟨⟨⟨⟨⟨⟨f1,f2⟩,f3⟩,f4⟩,f5⟩,f6⟩,f7⟩:=fine
  have k:∀ b o,P.base.get? b = some o→s.heap.get? b = some o:=fun b o e=>I.keep b o (K.base b o e)
  have kd:∀ x,(callEnvC fd s.heap.objs.size f).kindOf x = sc.names.lookup x:=fun x=>by show fd.scope.names.lookup x = _;rw [d5]
  have cl:∀ x,sc.names.lookup x = some .cell→∃ c,(callEnvC fd s.heap.objs.size f).cells.lookup x = some c:=fun x hx=>by
    show ∃ c,(cellsFrom _ fd.scope.names []).lookup x = some c
    rw [d5];exact cells_lookup _ _ _ hx
  have nf:∀ x,sc.names.lookup x≠some .free:=fun x hx=>f5 _ (mem_of_lookup hx) rfl
  refine codeAny_call_cells (binds:=ps.zip vals) R.deep (k _ _ d1) d2 (Y.lim.keeps k) (d3.keeps k) d4 (d9 vals (by simpa using hlen.symm)) d6 (fun x hx=>?_) (fun s₁ x=>?_) (by rw [d5];exact f2) (by rw [d5];exact f3) (by rw [d5];exact f1)
  · have:=f6 x.1 (List.of_mem_zip (a:=x.1) (b:=x.2) hx).1
    rw [d5]
    rcases this with h | h
    · exact .inl h
    · obtain ⟨c,hc⟩:=cells_lookup (x:=x.1) sc.names (s.heap.objs.size + 1) [] h
      exact .inr ⟨h,by rw [hc];rfl⟩
  · have K':FmOk P (F.call s.heap (callEnvC fd s.heap.objs.size f)):=call_frame K I (by show fd.scope.kind = _;rw [d5];exact f1) d7 d8 rfl rfl x.above x.apart (fun y c hm=>lookup_of_mem (cells_names _ _ _ (by rw [d5];exact f4) .nil (by simp)) hm) fun c T hl hk=>dl c T hl ((kd lamX).symm.trans hk)
    have I':=call_inv K I (env:=callEnvC fd s.heap.objs.size f) rfl f7 x
    have S':ScOk sc (F.call s.heap (callEnvC fd s.heap.objs.size f)):=by
      refine ⟨fun y hy=>?_,fun y hy=>?_,fun y hy=>(kd y).trans hy,fun y hy=>⟨(kd y).trans hy,cl y hy⟩⟩
      · unfold isLoc at hy
        split at hy
        · rename_i e;exact .inl ((kd y).trans e)
        · rename_i e;exact .inr ⟨.inl ((kd y).trans e),cl y e⟩
        · rename_i e;exact absurd e (nf y)
        · split at hy <;> cases hy
        · cases hy
      · unfold isLoc at hy
        split at hy
        · split at hy <;> cases hy
        · split at hy <;> cases hy
        · split at hy <;> cases hy
        · rename_i e;exact (kd y).trans e
        · cases hy
    refine wpAny_mono (hb K' S' ⟨?_, ?_⟩ ⟨HM.1.call I _,HM.2⟩ rfl I' q) (fun fl s' z=>?_) fun EV s' z=>?_
    · show F.A.depth + 1 + 2 * n + 2 < _
      exact R.in1
    · show F.A.units + 3 + 30 * n + 200 < _
      exact R.in2
    · obtain ⟨l2,H2,I2,z⟩:=z
      have I3:=Inv.up K I I2
      cases fl with
      | next=>exact ⟨H2,I3,z⟩
      | brk=>exact z.elim
      | cont=>exact z.elim
      | ret v=>exact ⟨H2,I3,z⟩
    · obtain ⟨l2,H2,e,C,rfl,I2,x2,z⟩:=z
      exact s_leaving K' I2 rfl x2 fun s3 I3 x3=>⟨H2,e,C,rfl,Inv.up K I I3,(Exc.up K I x3).weak,z⟩
end
end Mine
end

section
open PySem PyProof.Rows PySem.Calls
namespace Mine
section
variable {P:Pm} {F:Fm} {G:Gx} {n:Nat} {hm:Bool} {l:Loc} {H:Hp} {s:Shared} {E:Value→Shared→Prop} {Q:QV}
theorem Inv.kept (I:Inv P F l H s) {h':Heap} {t:Nat} (k:∀ b o,s.heap.get? b = some o→h'.get? b = some o):Inv P F l H { s with heap:=h',toks:=t }:=I.step fun b o e _=>k b o e
theorem s_list_new (K:FmOk P F) (I:Inv P F l H s) {h':Heap} {t:Nat} {vs:Array Value} {D:Addr} (hD:s.heap.get? D = none) (hz:P.base.objs.size≤D) (k:∀ b o,s.heap.get? b = some o→h'.get? b = some o) (e:IsL h' D vs) (hs:vs.size≤2 ^ 25) (q:newV (.list (vs.toList.map er)) H Q) :
    PostE P F l Q (.ref D) { s with heap:=h',toks:=t } :=
  ⟨_,I.more K hD (bigs_of hz) k (mt_list e hs),q D (I.off K hD).h⟩
theorem absK {x:Int} (h:-1000 < x) (h2:x < 1000):x.natAbs < 1073741824:=by
  cases x with
  | ofNat n=>exact Nat.lt_trans (Int.ofNat_lt.1 h2) (by decide)
  | negSucc n=>exact Nat.lt_trans (Int.ofNat_lt.1 (Int.lt_of_neg_lt_neg h)) (by decide)
theorem szl {n:Nat} (h:n≤sizeLine):n≤2 ^ 25:=Nat.le_trans h (by decide)
theorem s_copy (K:FmOk P F) (I:Inv P F l H s) {T:String} {a:Addr} {vs:Array Value} (hT:T = "list"∨T = "tuple") {o:Obj} {n:Nat} (ho:s.heap.get? a = some o) (hc:o.cls = .type T) (hd:o.data = .seq vs n) (hz:vs.size≤sizeLine) (q:newV (.list (vs.toList.map er)) H Q) :
    wpAny P.M F.A (call (.type "list") [.ref a]) (PostE P F l Q) E s :=
  call_list_seq (hsz:=hz) a hT ho hc hd fun h' c' hk hD=>s_list_new K I (t:=s.toks) (Heap.get?_none_of_le (Nat.le_refl _)) (I.base_le K) hk ⟨c',hD⟩ (szl hz) q
theorem s_range (K:FmOk P F) (I:Inv P F l H s) {Vs:List Value} (h:rangeV (Vs.map er) H Q):wpAny P.M F.A (call (.type "range") Vs) (PostE P F l Q) E s:=by
  unfold rangeV at h
  split at h
  · rename_i hi _ e
    obtain ⟨t,rfl⟩:∃ t,Vs = [.int hi t]:=by
      cases Vs with
      | nil=>cases e
      | cons W r=>cases r with
        | nil=>simp at e;obtain ⟨t,rfl⟩:=er_int e;exact ⟨t,rfl⟩
        | cons _ _=>simp at e
    exact call_range_1 ⟨_,I.alloc K (o:=.range 0 hi 1) (t:=s.toks + 1 + 1) ⟨_,_,_,IsRange.new ..⟩,h.2.2 _ I.fresh⟩
  · rename_i lo _ hi _ e
    obtain ⟨t,u,rfl⟩:∃ t u,Vs = [.int lo t, .int hi u]:=by
      cases Vs with
      | nil=>cases e
      | cons W r=>cases r with
        | nil=>simp at e
        | cons W2 r=>cases r with
          | nil=>simp at e;obtain ⟨t,rfl⟩:=er_int e.1;obtain ⟨u,rfl⟩:=er_int e.2;exact ⟨t,u,rfl⟩
          | cons _ _=>simp at e
    exact call_range_2 ⟨_,I.alloc K (o:=.range lo hi 1) (t:=s.toks + 1) ⟨_,_,_,IsRange.new ..⟩,h.2.2.2.2 _ I.fresh⟩
  · rename_i lo _ hi _ st _ e
    obtain ⟨t,u,v,rfl⟩:∃ t u v,Vs = [.int lo t, .int hi u, .int st v]:=by
      cases Vs with
      | nil=>cases e
      | cons W r=>cases r with
        | nil=>simp at e
        | cons W2 r=>cases r with
          | nil=>simp at e
          | cons W3 r=>cases r with
            | nil=>simp at e;obtain ⟨t,rfl⟩:=er_int e.1;obtain ⟨u,rfl⟩:=er_int e.2.1;obtain ⟨v,rfl⟩:=er_int e.2.2;exact ⟨t,u,v,rfl⟩
            | cons _ _=>simp at e
    obtain ⟨h0,h1,h2,h3,h4,h5,h6,q⟩:=h
    exact call_range_3 h0 ⟨_,I.alloc K (o:=.range lo hi st) (t:=s.toks) ⟨_,_,_,IsRange.new ..⟩,q _ I.fresh⟩ (.inl (PyProof.noPylong_small (absK ‹_› ‹_›)))
  · exact h.elim
theorem bools_of:∀ {vs:List Value} {bs:List Bool},vs.map er = bs.map Value.bool→vs = bs.map Value.bool
  | [],[],_=>rfl
  | [],_ :: _,e=>by simp at e
  | _ :: _,[],e=>by simp at e
  | v :: vs,b :: bs,e=>by
    simp at e
    have h1:=er_bool e.1
    have h2:=bools_of (vs:=vs) (bs:=bs) (by simpa using e.2)
    rw [List.map_cons,h1,h2]
theorem walks_nil {prog:Program} {w:World} {A:Around} {J a e:Addr} (he:A.handled = some (.ref e)) (h1:e≠J):Walks prog w A J [J,a,e] [J] 0 (fun _ _=>False) (fun i h=>h.IsListIter J a i∧h.IsList a #[]∧∃ o vs,h.get? e = some o∧o.data = .fields vs∧vs[2]? = some Value.none) where
  sub:=fun b hb=>by simp at hb;simp [hb]
  frame:=fun _ _ _ st hk=>⟨st.1.at fun o e=>hk J (by simp) o e,st.2.1.at fun o e=>hk a (by simp) o e,let ⟨o,vs,e1,e2,e3⟩:=st.2.2;⟨o,vs,hk e (by simp) o e1,e2,e3⟩⟩
  item:=fun i s Q E hi st hQ=>absurd hi (Nat.not_lt_zero _)
  done:=fun s Q E st hQ=>by
    obtain ⟨s1,s2,o,vs,e1,e2,e3⟩:=st
    exact next_list_end (.inr ⟨e,o,vs,he,e1,e2,e3⟩) (fun e' q=>by rw [he] at q;cases q;exact h1) s1 s2 rfl fun h' x=>hQ h' s.toks fun b o hb q=>x b o (fun z=>hb (by simp [z])) q
  self:=fun _ _ _ _ st hQ=>wpAny_pyIter_listiter st.1 hQ
theorem s_all (K:FmOk P F) (I:Inv P F l H s) (hh:F.A.handled = none) {a:Addr} {xs:List Value} (hx:H a = some (.list xs)) {bs:List Bool} (hb:xs = bs.map Value.bool) (q:Q (.bool (bs.all id)) H) :
    wpAny P.M F.A (call (.builtin "all") [.ref a]) (PostE P F l Q) E s:=by
  obtain ⟨vs,hl,e,_⟩:=I.objs _ _ hx
  subst hb
  have ev:=bools_of e
  refine call_all_walk (wpAny_pyIter_list hl ⟨s.heap.objs.size,_,_,_,_,_,fun i=>bs.getD i true,rfl,Walks.list (A:=F.A.in1) hh _ a (Nat.ne_of_lt (I.lt_of hx)) vs,⟨⟨_,Heap.get?_push_size _ rfl,rfl,rfl⟩,hl.at fun o e=>Heap.get?_push_of_some _ e⟩, ?_,fun h' tk k=>?_⟩)
  · intro i v s' Q' E' hP hQ
    have:vs.toList[i]? = some v:=by simpa using hP
    rw [ev,List.getElem?_map] at this
    obtain ⟨b,hb,rfl⟩:=Option.map_eq_some_iff.mp this
    have:bs.getD i true = b:=by simp [List.getD,hb]
    have hQ:Q' (bs.getD i true) s':=hQ
    rw [this] at hQ
    exact wpAny_truthy_bool hQ
  · refine ⟨H,(I.push _).turn (J:=s.heap.objs.size) K (I.ofSize K) fun b o hb e=>k b o (by simpa using hb) e, ?_⟩
    have hz:vs.size = bs.length:=by have:=congrArg List.length ev;simpa using this
    have:(List.range vs.size).all (fun i=>bs.getD i true) = bs.all id:=by
      rw [hz]
      apply Bool.eq_iff_iff.mpr
      simp only [List.all_eq_true,List.mem_range,id]
      constructor
      · intro h b hb
        obtain ⟨i,hi,rfl⟩:=List.getElem_of_mem hb
        have:=h i hi
        simpa [List.getD,hi] using this
      · intro h i hi
        simp only [List.getD,List.getElem?_eq_getElem hi,Option.getD_some]
        exact h _ (List.getElem_mem hi)
    rw [this];exact q
theorem s_all_nil (K:FmOk P F) (hd:HdK F) (I:Inv P F l H s) {a:Addr} (hx:H a = some (.list [])) (q:Q (.bool true) H) :
    wpAny P.M F.A (call (.builtin "all") [.ref a]) (PostE P F l Q) E s:=by
  obtain ⟨vs,hl,e,_⟩:=I.objs _ _ hx
  have e:vs.toList = []:=List.map_eq_nil_iff.1 e
  have e:vs = #[]:=Array.toList_eq_nil_iff.1 e
  subst e
  have of:=I.ofSize K
  have nJ:a≠s.heap.objs.size:=Nat.ne_of_lt (I.lt_of hx)
  rcases hd with hh | ⟨ee,oe,ve,h1,h2,h3,h4⟩
  · exact s_all K I hh hx (bs:=[]) rfl q
  · have he:=I.keep ee oe h2
    refine call_all_walk (wpAny_pyIter_list hl ⟨s.heap.objs.size,_,_,_,_,_,fun i=>true,rfl,walks_nil (A:=F.A.in1) (a:=a) (e:=ee) h1 (Nat.ne_of_lt (Heap.lt_size he)),⟨⟨_,Heap.get?_push_size _ rfl,rfl,rfl⟩,hl.at fun o e=>Heap.get?_push_of_some _ e,oe,ve,Heap.get?_push_of_some _ he,h3,h4⟩,fun i v s' Q' E' hP hQ=>hP.elim,fun h' tk k=>?_⟩)
    exact ⟨H,(I.push _).turn (J:=s.heap.objs.size) K of fun b o hb e=>k b o (by simpa using hb) e,q⟩
theorem s_max2 (I:Inv P F l H s) (hh:F.A.handled = none) {a b:Int} {t u:Tok} (q:Q (.int (max a b) 0) H):wpAny P.M F.A (call (.builtin "max") [.int a t, .int b u]) (PostE P F l Q) E s:=by
  refine max_two_ints hh fun h' tk k=>⟨H,I.kept k, ?_⟩
  by_cases hc:b > a
  · rw [if_pos hc];have:max a b = b:=Int.max_eq_right (Int.le_of_lt hc)
    rw [this] at q;exact q
  · rw [if_neg hc];have:max a b = a:=Int.max_eq_left (Int.not_lt.1 hc)
    rw [this] at q;exact q
theorem seq_ints:∀ {vs:List Value} {ns:List Int},IntsAre vs ns→vs.map er = ns.map fun n=>Value.int n 0
  | _,_, .nil=>rfl
  | _,_, .cons i t r=>by
    rw [List.map_cons,List.map_cons,seq_ints r];rfl
theorem dictAt_of {K:Type} [DecidableEq K] {knd:PySem.KeyKind P.prog P.w K} {h:Heap} {a:Addr} {kvs:List (K×Value)} (x:h.DictOf knd a kvs):∃ ep,h.DictAt knd a kvs ep:=by
  obtain ⟨o,es,ep,r⟩:=x
  exact ⟨ep,o,es,r⟩
theorem isInt_val {k:Int} {v:Value} (h:Value.isInt k v = true):∃ t,v = .int k t:=by
  unfold Value.isInt at h
  split at h
  · rename_i i t
    have:i = k:=by simpa using h
    exact ⟨t,by rw [this]⟩
  · cases h
theorem ints_by {vs:List Value} {kvs:List (Int×Value)} (hl:vs.length = kvs.length) (hp:∀ (j:Nat) (v:Value),vs[j]? = some v→∃ k x,kvs[j]? = some (k,x)∧(intKind P.prog P.w).is k v = true):IntsAre vs (kvs.map (·.1)):=by
  apply ints_of
  apply List.ext_getElem?
  intro j
  rw [List.getElem?_map,List.getElem?_map,List.getElem?_map]
  rcases Nat.lt_or_ge j vs.length with h | h
  · obtain ⟨k,x,e1,e2⟩:=hp j vs[j] (List.getElem?_eq_getElem h)
    rw [List.getElem?_eq_getElem h,e1]
    obtain ⟨t,ht⟩:=isInt_val (show Value.isInt k vs[j] = true from e2)
    rw [ht];rfl
  · rw [List.getElem?_eq_none h,List.getElem?_eq_none (Nat.le_trans (Nat.le_of_eq hl.symm) h)];rfl
theorem s_sortD (K:FmOk P F) (I:Inv P F l H s) (hh:F.A.handled = none) {κ:Type} [DecidableEq κ] {knd:PySem.KeyKind P.prog P.w κ} {a:Addr} {ks:List (κ×Value)} (nm:(a == sysModules) = false) (hd:s.heap.DictOf knd a ks) (hlen:ks.length≤sizeLine) {R:List Value→Prop}
    (run:∀ (vs:List Value) (D:Addr) (s':Shared) (E':Value→Shared→Prop) (Z:Fin→Shared→Prop),vs.length = ks.length→(∀ (j:Nat) (v:Value),vs[j]? = some v→∃ k x,ks[j]? = some (k,x)∧knd.is k v = true)→s'.heap.get? D = some (seqObj "list" vs.toArray 0) →
      (∀ out:Array Value,out.size = ks.length→R (out.toList.map er)→Z (.done (.ret .none)) { s' with heap:=sortedHeap s'.heap D vs out })→wpAny P.M F.A.in1.in1 (Builtin.«list.sort» ⟨[.ref D],[]⟩) Z E' s')
    (q:∀ zs,R zs→newV (.list zs) H Q):wpAny P.M F.A (call (.builtin "sorted") [.ref a]) (PostE P F l Q) E s:=by
  obtain ⟨m,Fr,hmm⟩:=I.fr K
  obtain ⟨ep,hd⟩:=dictAt_of hd
  refine PySem.W.kdu_sorted (PySem.W.kdl_dict nm) hh Fr (news_all _ _ _) hd hlen fun D h' tk vs F' N' lt hl hp=>?_
  have oD:h'.get? D = some (seqObj "list" vs.toArray 0):=(N' _ (.head _)).1
  refine wpAny_call_entry slot_list_sort ⟨_,oD,rfl⟩ entry_list_sort (run vs D _ _ _ hl hp oD fun out hz r=>⟨_,rfl, ?_⟩) (args_list_sort _)
  have I':=I.after K (t:=tk) hmm F' N' fun _ hp=>.tail _ hp
  have nn:s.heap.get? D = none:=by
    cases q:s.heap.get? D with
    | none=>rfl
    | some o=>exact absurd (lt _ (mem_allNews q (N' _ (.head _)).2.1 (N' _ (.head _)).2.2)) (Nat.lt_irrefl _)
  have of:=I.off K nn
  obtain ⟨ep2,hat⟩:=sortedHeap_at (out:=out) oD
  refine ⟨_,(I'.turn (t:=tk) (h':=sortedHeap h' D vs out) K of fun b o hb e=>by rw [sortedHeap_old hb (Heap.lt_size e)];exact e).track (o:=.list (out.toList.map er)) of trivial ?_,q _ r _ of.h⟩
  exact mt_list (vs:=out) ⟨ep2,hat⟩ (Nat.le_trans (Nat.le_of_eq hz) (szl hlen))
theorem s_sorted (Y:PmOk P) (K:FmOk P F) (I:Inv P F l H s) (hh:F.A.handled = none) {V:Value} (h:sortedV (er V) H Q):wpAny P.M F.A (call (.builtin "sorted") [V]) (PostE P F l Q) E s:=by
  unfold sortedV at h
  split at h
  · rename_i a e;have:=er_ref e;subst this
    split at h
    · rename_i kvs hx
      obtain ⟨hz,q⟩:=h
      obtain ⟨ks,hd,rfl⟩:=I.objs _ _ hx
      rw [List.length_map] at hz
      rw [List.map_map] at q
      refine s_sortD K I hh (not_modules Y I hx) hd (Nat.le_trans (Nat.le_of_lt hz) (by decide)) (R:=fun zs=>∃ ms:List Int,zs = ms.map (fun n=>Value.int n 0)∧ms.Perm (ks.map (·.1))∧ms.Pairwise (·≤·)) (fun vs D s' E' Z hl hp oD k=>?_) fun zs r=>?_
      · exact sort_ints oD (ints_by hl hp) (by rw [hl];exact hz) fun out ns' a1 a2 a3=>k out (by have:=congrArg List.length (seq_ints a1);rw [List.length_map,List.length_map,Array.length_toList] at this;rw [this,a2.length_eq,List.length_map]) ⟨ns',seq_ints a1,a2,a3⟩
      · obtain ⟨ms,rfl,p1,p2⟩:=r
        exact q ms p1 p2
    · exact h.elim
  · exact h.elim
theorem s_lrange (K:FmOk P F) (I:Inv P F l H s) (hh:F.A.handled = none) {a:Addr} {lo hi st:Int} (hx:H a = some (.range lo hi st)) (hs:Builtin.Range.small lo hi st = true) (hz:(rangeL lo hi st).length≤sizeLine) (q:newV (.list (rangeL lo hi st)) H Q) :
    wpAny P.M F.A (call (.type "list") [.ref a]) (PostE P F l Q) E s:=by
  obtain ⟨t,u,v,hr⟩:=I.objs _ _ hx
  have hl:(rangeL lo hi st).length = (Builtin.Range.rangeSize lo hi st).toNat:=by unfold rangeL;rw [List.length_map,List.length_range]
  rw [hl] at hz
  refine call_list_range hh hr hs (rangeSize_toNat lo hi st) hz fun h' tk acc c hk hD ha=>?_
  have e:acc.toList.map er = rangeL lo hi st:=by
    apply List.ext_getElem?
    intro i
    rw [List.getElem?_map,Array.getElem?_toList]
    unfold rangeL
    rw [List.getElem?_map]
    rcases Nat.lt_or_ge i acc.size with h | h
    · obtain ⟨t',e⟩:=ha.2 i _ (Array.getElem?_eq_getElem h)
      rw [Array.getElem?_eq_getElem h,List.getElem?_range (by rw [← ha.1];exact h),e];rfl
    · rw [Array.getElem?_eq_none h,List.getElem?_eq_none (by rw [List.length_range,← ha.1];exact h)];rfl
  rw [← e] at q
  exact s_list_new K I (t:=tk) (Heap.get?_none_of_le (Nat.le_refl _)) (I.base_le K) hk ⟨c,hD⟩ (by rw [ha.1];exact szl hz) q
end
end Mine
end

section
open PySem PyProof.Rows PySem.Calls
namespace Mine
theorem closure_loop {env:Env}:∀ (names:List (Str×NameKind)) (acc:List (Str×Addr)),(names.map (·.1)).Nodup→(acc.map (·.1)).Nodup→(∀ x∈names.map (·.1),x ∉ acc.map (·.1))→(∀ y,(y,NameKind.free)∈names→∃ c,env.cells.lookup y = some c) →
    ∃ cl,(forIn names acc (fun (x:Str×NameKind) (r:List (Str×Addr))=>match x with | (name,kind)=>if (kind == .free) = true then do let c ← cellOf env name;pure (ForInStep.yield ((name,c) :: r)) else pure (ForInStep.yield r)):Sem (List (Str×Addr))) = pure cl ∧
      (cl.map (·.1)).Nodup∧(∀ p∈acc,p∈cl)∧(∀ y c,(y,c)∈cl→(y,c)∈acc∨env.cells.lookup y = some c)∧∀ y,(y,NameKind.free)∈names→∃ c,(y,c)∈cl
  | [],acc,_,h,_,_=>⟨acc,by rw [List.forIn_nil],h,fun _ hp=>hp,fun _ _ hp=>.inl hp,fun _ hy=>by cases hy⟩
  | (y,kind) :: r,acc,hn,h,hd,hf=>by
    rw [List.map_cons,List.nodup_cons] at hn
    by_cases hk:kind = .free
    · subst hk
      obtain ⟨c,hc⟩:=hf y (.head _)
      obtain ⟨cl,e,h1,h2,h3,h4⟩:=closure_loop (env:=env) r ((y,c) :: acc) hn.2 (by rw [List.map_cons,List.nodup_cons];exact ⟨hd y (by simp),h⟩) (fun x hx hm=>by
        rw [List.map_cons,List.mem_cons] at hm
        rcases hm with rfl | hm
        · exact hn.1 hx
        · exact hd x (by rw [List.map_cons];exact .tail _ hx) hm) (fun z hz=>hf z (.tail _ hz))
      refine ⟨cl, ?_,h1,fun p hp=>h2 p (.tail _ hp),fun z d hz=>?_,fun z hz=>?_⟩
      · rw [List.forIn_cons]
        have:cellOf env y = pure c:=by unfold cellOf;rw [hc]
        simp only [beq_self_eq_true,if_true,this]
        exact e
      · rcases h3 z d hz with q | q
        · rcases List.mem_cons.mp q with q | q
          · cases q;exact .inr hc
          · exact .inl q
        · exact .inr q
      · rcases List.mem_cons.mp hz with q | q
        · cases q;exact ⟨c,h2 _ (.head _)⟩
        · exact h4 z q
    · obtain ⟨cl,e,h1,h2,h3,h4⟩:=closure_loop (env:=env) r acc hn.2 h (fun x hx=>hd x (by rw [List.map_cons];exact .tail _ hx)) (fun z hz=>hf z (.tail _ hz))
      refine ⟨cl, ?_,h1,h2,h3,fun z hz=>?_⟩
      · rw [List.forIn_cons]
        have:(kind == NameKind.free) = false:=beq_eq_false_iff_ne.mpr hk
        simp only [this,Bool.false_eq_true,if_false]
        exact e
      · rcases List.mem_cons.mp hz with q | q
        · cases q;exact absurd rfl hk
        · exact h4 z q
theorem closure_ok {env:Env} {scope:Scope} (hn:(scope.names.map (·.1)).Nodup) (hf:∀ y,(y,NameKind.free)∈scope.names→∃ c,env.cells.lookup y = some c) :
    ∃ cl,closureFor scope env = pure cl∧(cl.map (·.1)).Nodup∧(∀ y c,(y,c)∈cl→env.cells.lookup y = some c)∧∀ y,(y,NameKind.free)∈scope.names→∃ c,(y,c)∈cl:=by
  obtain ⟨cl,e,h1,h2,h3,h4⟩:=closure_loop (env:=env) scope.names [] hn .nil (by simp) hf
  refine ⟨cl, ?_,h1,fun y c hy=>(h3 y c hy).resolve_left (by simp),h4⟩
  simp only [closureFor]
  rw [show (forIn scope.names [] _:Sem (List (Str×Addr))) = pure cl from e]
  rfl
theorem lookup_relabel {env:Env} {scope:Scope} (x:Str):(relabel scope env).names.lookup x = (scope.names.lookup x).map fun k=>if (k == NameKind.free && env.scope.kind == .function && env.kindOf x == some .cell) then NameKind.cell else k:=by
  show (scope.names.map fun (n,k)=>if (k == NameKind.free && env.scope.kind == .function && env.kindOf n == some .cell) then (n,NameKind.cell) else (n,k)).lookup x = _
  induction scope.names with
  | nil=>rfl
  | cons p r ih =>
    obtain ⟨n,k⟩:=p
    rw [List.map_cons]
    by_cases hx:x = n
    · subst hx
      by_cases hc:(k == NameKind.free && env.scope.kind == .function && env.kindOf x == some .cell) = true
      · simp only [List.lookup_cons,beq_self_eq_true,Option.map_some,if_pos hc]
      · simp only [List.lookup_cons,beq_self_eq_true,Option.map_some,if_neg hc]
    · have:(x == n) = false:=beq_eq_false_iff_ne.mpr hx
      simp only [List.lookup_cons,this]
      split <;> simp only [List.lookup_cons,this] <;> exact ih
noncomputable def Fm.comp (F:Fm) (h:Heap) (env:Env):Fm:={ F.call h env with A:=F.A,ro:=true }
section
variable {P:Pm} {F:Fm} {G:Gx} {n:Nat} {hm:Bool} {l:Loc} {H:Hp} {s:Shared}
theorem comp_frame (K:FmOk P F) (I:Inv P F l H s) {env:Env} (hk:env.scope.kind = .function) (hg:env.globals = mainGlobals) (hb:env.builtins = builtinsNs) (hL:s.heap.objs.size≤env.locals)
    (nd:(env.cells.map (·.1)).Nodup) (cs:∀ y c,(y,c)∈env.cells→F.env.cells.lookup y = some c) (hc:env.kindOf lamX≠some .local):FmOk P (F.comp s.heap env):=by
  have nn:∀ b,s.heap.objs.size≤b→s.heap.get? b = none:=fun b hb=>Heap.get?_none_of_le hb
  have cm:∀ y c,(y,c)∈env.cells→(y,c)∈F.env.cells:=fun y c h=>mem_of_lookup (cs y c h)
  have cx:∀ y c,(y,c)∈env.cells→∃ o,s.heap.get? c = some o:=fun y c h=>by
    obtain ⟨vo,⟨o,ho,_⟩,_⟩:=I.cel y c (cs y c h);exact ⟨o,ho⟩
  refine ⟨hk,hg,hb,fun b o e=>?_, ?_, ?_, ?_,fun y c h=>?_,fun q=>(nomatch q), ?_,fun y c h=>lookup_of_mem nd h,fun y c h=>?_,fun b d e=>?_, ?_,call_xg K I env,fun _ _ _ q=>absurd q hc⟩
  · show (if isCell F b then s.heap.get? b else F.g b) = some o
    split
    · exact I.keep b o (K.base b o e)
    · exact K.base b o e
  · exact Nat.le_trans (I.base_le K) hL
  · show (if isCell F env.locals then s.heap.get? env.locals else F.g env.locals) = none
    split
    · exact nn _ hL
    · exact (I.off K (nn _ hL)).g
  · show (if env.locals = F.env.locals then (s.heap.get? env.locals).map (·.data) else F.fr env.locals) = none
    rw [if_neg (I.off K (nn _ hL)).l]
    exact (I.off K (nn _ hL)).fr
  · obtain ⟨o,ho⟩:=cx y c h
    exact Nat.ne_of_lt (Nat.lt_of_lt_of_le (Heap.lt_size ho) hL)
  · refine List.Pairwise.imp_of_mem ?_ (List.pairwise_map.mp nd)
    rintro ⟨y,c⟩ ⟨z,d⟩ h1 h2 hne e
    have e:c = d:=e
    subst e
    exact hne (name_of_addr K.apart (cm y c h1) (cm z c h2))
  · show (if c = F.env.locals then (s.heap.get? c).map (·.data) else F.fr c) = none
    rw [if_neg (K.cl y c (cm y c h))];exact K.cf y c (cm y c h)
  · have e:(if b = F.env.locals then (s.heap.get? b).map (·.data) else F.fr b) = some d:=e
    show (if isCell F b then s.heap.get? b else F.g b) = none∧_
    by_cases q:b = F.env.locals
    · rw [if_pos q] at e
      subst q
      constructor
      · split
        · rename_i hc
          obtain ⟨x,hm⟩:=mem_isCell hc
          exact absurd rfl (K.cl x _ hm)
        · exact K.lg
      · obtain ⟨m,⟨o,es,ep,ho,hd,_⟩,_⟩:=I.loc
        rw [ho] at e
        cases e
        intro vs q
        have q:o.data = .fields vs:=q
        rw [hd] at q;cases q
    · rw [if_neg q] at e
      obtain ⟨h1,h2⟩:=K.fg b d e
      refine ⟨?_,h2⟩
      split
      · rename_i hc
        obtain ⟨x,hm⟩:=mem_isCell hc
        rw [K.cf x b hm] at e;cases e
      · exact h1
  · obtain ⟨fenv,outer,h1,h2,h3⟩:=K.frames
    refine ⟨fenv,outer,h1,fun q=>(nomatch q),fun e he=>?_⟩
    obtain ⟨k1,b,k2,k3⟩:=h3 e he
    refine ⟨k1,b,k2, .inr ?_⟩
    show ((if b = F.env.locals then (s.heap.get? b).map (·.data) else F.fr b)).isSome = true
    obtain ⟨m,⟨o,es,ep,ho,hd,_⟩,_⟩:=I.loc
    rcases k3 with rfl | k3
    · rw [if_pos rfl,ho];rfl
    · split
      · rename_i q;rw [q,ho];rfl
      · exact k3
theorem Inv.compUp (K:FmOk P F) (I:Inv P F l H s) {env:Env} {l':Loc} {H':Hp} {s':Shared} (I':Inv P (F.comp s.heap env) l' H' s'):Inv P F l H' s' :=
  Inv.up K I (env:=env) ⟨I'.gens,I'.os,I'.keep,I'.frk,I'.loc,I'.cel,I'.objs,I'.free,I'.big⟩
theorem Off.compUp (K:FmOk P F) (I:Inv P F l H s) {env:Env} {H':Hp} {a:Addr} (x:Off (F.comp s.heap env) H' a):Off F H' a :=
  Off.up K I (env:=env) ⟨x.h,x.g,x.fr,x.l,x.c⟩
inductive STall (P:Pm) (G:Gx) (n:Nat) (hm:Bool) (sc:Scope):List Expr→List Ex→Prop where
  | nil:STall P G n hm sc [] []
  | cons {e:Expr} {e':Ex} {r:List Expr} {r':List Ex}:ST P G n hm sc e e'→STall P G n hm sc r r'→STall P G n hm sc (e :: r) (e' :: r')
theorem tests_false {env:Env}:∀ (r:List Expr),(forIn r false (fun (c:Expr) (r:Bool)=>if r = true then do let ok ← PySem.isTrue c env (eval c env);pure (ForInStep.yield ok) else pure (ForInStep.yield r)):Sem Bool) = pure false
  | []=>by rw [List.forIn_nil]
  | c :: r=>by
    rw [List.forIn_cons]
    show (forIn r false _:Sem Bool) = _
    exact tests_false r
theorem s_tests {sc:Scope} {es:List Expr} {es':List Ex} (h:STall P G n hm sc es es') (K:FmOk P F) (S:ScOk sc F) (R:Room n F.A) (HM:HmOk hm F) {X:XV} {k:Bool→Hp→Prop}:∀ {H:Hp} {s:Shared},Inv P F l H s→wpB G hm true es' l H (fun v H'=>truthV v fun b=>k b H') X →
    wpAny P.M F.A (forIn es true (fun (c:Expr) (r:Bool)=>if r = true then do let ok ← PySem.isTrue c F.env (eval c F.env);pure (ForInStep.yield ok) else pure (ForInStep.yield r))) (fun b s'=>∃ H',Inv P F l H' s'∧k b H') (PostX P F l X) s:=by
  induction h with
  | nil =>
    intro H s I q
    simp only [wpB,truthV] at q
    rw [List.forIn_nil]
    exact wpAny_pure ⟨H,I,q⟩
  | @cons e e' r r' he hr ih =>
    intro H s I q
    rw [wpB] at q
    rw [List.forIn_cons]
    simp only [if_true]
    refine wpAny_bind (wpAny_bind (wpAny_mono (he K S R HM I q) (fun b s1 z=>wpAny_pure ?_) fun _ _ z=>z))
    obtain ⟨H1,I1,z⟩:=z
    cases b with
    | true =>
      simp only [if_true] at z
      cases hr with
      | nil =>
        dsimp only
        rw [List.forIn_nil]
        exact wpAny_pure ⟨H1,I1,z⟩
      | cons a b=>exact ih I1 z
    | false =>
      simp only [Bool.false_eq_true,if_false,truthV] at z
      dsimp only
      rw [tests_false]
      exact wpAny_pure ⟨H1,I1,z⟩
theorem comp_names {sc scope:Scope} {x:Str} (S:ScOk sc F) (hk:F.env.scope.kind = .function) (hf:compFine sc scope x = true) :
    scope.kind = .function∧(scope.names.map (·.1)).Nodup∧(∀ y∈scope.names,y.2≠.cell)∧(∀ y,scope.names.lookup y = some .local→y = x∨y = (".0" : Str)) ∧
      (∀ y,(y,NameKind.free)∈scope.names→F.env.kindOf y = some .cell∧∃ c,F.env.cells.lookup y = some c)∧scope.names.lookup x = some .local∧x≠lamX:=by
  unfold compFine at hf
  simp only [Bool.and_eq_true,beq_iff_eq,decide_eq_true_eq,List.all_eq_true,Bool.or_eq_true,bne_iff_ne,ne_eq] at hf
  obtain ⟨⟨⟨⟨h1,h2⟩,h3⟩,h4⟩,h5⟩:=hf
  refine ⟨h1,h2,fun y hy=>(h3 y hy).1.1,fun y hy=>?_,fun y hy=>?_,h4,h5⟩
  · have:=(h3 _ (mem_of_lookup hy)).1.2
    rcases this with (q | q) | q
    · exact absurd rfl q
    · exact .inl q
    · exact .inr q
  · have:=(h3 _ hy).2
    rcases this with q | q
    · exact absurd rfl q
    · exact S.cell y q
theorem comp_not {scope:Scope} {x:Str} {cl:List (Str×Addr)} {C:Addr} (n4:∀ y,scope.names.lookup y = some .local→y = x∨y = (".0" : Str)) (n7:x≠lamX):(compEnvC scope cl C F.env).kindOf lamX≠some .local:=fun q=>by
  have q:(relabel scope F.env).names.lookup lamX = some .local:=q
  rw [lookup_relabel] at q
  cases e:scope.names.lookup lamX with
  | none=>rw [e] at q;cases q
  | some k =>
    rw [e] at q
    have q:some (if (k == NameKind.free && F.env.scope.kind == .function && F.env.kindOf lamX == some .cell) then NameKind.cell else k) = some NameKind.local:=q
    injection q with q
    split at q
    · cases q
    · rw [q] at e
      rcases n4 _ e with z | z
      · exact n7 z.symm
      · exact absurd z (by decide +kernel)
theorem comp_sc {sc scope:Scope} {x:Str} (S:ScOk sc F) (hk:F.env.scope.kind = .function) (hf:compFine sc scope x = true) {cl:List (Str×Addr)} (nd:(cl.map (·.1)).Nodup) (hcl:∀ y,(y,NameKind.free)∈scope.names→∃ c,(y,c)∈cl) {h:Heap} {C:Addr} :
    ScOk scope (F.comp h (compEnvC scope cl C F.env)):=by
  obtain ⟨n1,n2,n3,n4,n5,n6,n7⟩:=comp_names S hk hf
  have kd:∀ y k,scope.names.lookup y = some k→(compEnvC scope cl C F.env).kindOf y = some (if (k == NameKind.free && F.env.scope.kind == .function && F.env.kindOf y == some .cell) then NameKind.cell else k):=fun y k hy=>by
    show (relabel scope F.env).names.lookup y = _
    rw [lookup_relabel,hy];rfl
  refine ⟨fun y hy=>?_,fun y hy=>?_,fun y hy=>?_,fun y hy=>?_⟩
  · unfold isLoc at hy
    split at hy
    · rename_i e;exact .inl (kd y _ e)
    · rename_i e;exact absurd rfl (n3 _ (mem_of_lookup e))
    · rename_i e
      obtain ⟨q,_⟩:=n5 y (mem_of_lookup e)
      obtain ⟨c,hc⟩:=hcl y (mem_of_lookup e)
      refine .inr ⟨.inl ?_,c,lookup_of_mem nd hc⟩
      have:=kd y _ e
      rw [hk,q] at this
      exact this
    · split at hy <;> cases hy
    · cases hy
  · unfold isLoc at hy
    split at hy
    · split at hy <;> cases hy
    · split at hy <;> cases hy
    · split at hy <;> cases hy
    · rename_i e;exact kd y _ e
    · cases hy
  · exact kd y _ hy
  · exact absurd rfl (n3 _ (mem_of_lookup hy))
theorem Inv.weak {l':Loc} (I:Inv P F l H s) (h:∀ y v,l' y = some v→l y = some v):Inv P F l' H s :=
  ⟨I.gens,I.os,I.keep,I.frk,let ⟨m,hn,q⟩:=I.loc;⟨m,hn,fun y v hy hk=>q y v (h y v hy) hk⟩,fun y c e=>let ⟨vo,hc,q⟩:=I.cel y c e;⟨vo,hc,fun v hy hk=>q v (h y v hy) hk⟩,I.objs,I.free,I.big⟩
theorem st_local (K:FmOk P F) (I:Inv P F l H s) {x:Str} {V:Value} {E:Value→Shared→Prop} {Q:Unit→Shared→Prop} (hl:F.env.kindOf x = some .local)
    (h:∀ s',Inv P F (l.upd x (er V)) H s'→Q () s'):wpAny P.M F.A (storeName F.env x V) Q E s:=by
  obtain ⟨m,hn,q⟩:=I.loc
  refine wpAny_storeName_local hl hn (fun h' hn' hs=>h _ (I.stepL (t:=s.toks + 1) (fun b o e hb _=>hs.extBut b o hb e) hn' K (fun y v hy hky=>?_) fun y v hy hky=>?_)) (by rw [K.kind];rfl)
  · by_cases e:y = x
    · subst e;simp [Loc.upd] at hy;subst hy;exact ⟨V,by simp,rfl⟩
    · simp [Loc.upd,e] at hy;simp [e];exact q y v hy hky
  · by_cases e:y = x
    · subst e;rw [hl] at hky;simp at hky
    · simpa [Loc.upd,e] using hy
theorem append_at {A:Around} {E:Value→Shared→Prop} {D:Addr} {vs:Array Value} {V:Value} {Q:Value→Shared→Prop} (e:IsL s.heap D vs) (hz:vs.size≤sizeLine) (h:Q .none { s with heap:=s.heap.update D (Obj.mapSeq (·.push V)) }) :
    wpAny P.M A (call (.builtin "list.append") [.ref D,V]) Q E s:=by
  obtain ⟨n,e0⟩:=id e
  refine wpAny_call_entry slot_list_append e.isList.typeIs entry_list_append ?_ (args_list_append _ _)
  show wpAny _ _ (updateSeq D (·.push V) >>= fun _=>ret .none) _ _ s
  exact wpAny_bind (wpAny_updateSeq e0 rfl (wpAny_pure ⟨.none,rfl,h⟩) hz)
theorem comp_inv {sc scope:Scope} {x:Str} (K:FmOk P F) (S:ScOk sc F) (hf:compFine sc scope x = true) (I:Inv P F l H s) {cl:List (Str×Addr)} (c1:∀ y c,(y,c)∈cl→F.env.cells.lookup y = some c) {C:Addr} {h₁:Heap} {t:Nat} (hC:s.heap.objs.size≤C)
    (k:∀ b o,s.heap.get? b = some o→h₁.get? b = some o) {m:Str→Option Value} (hn:h₁.Ns C m):Inv P (F.comp s.heap (compEnvC scope cl C F.env)) ((l.del (".0" : Str)).del x) H { s with heap:=h₁,toks:=t }:=by
  obtain ⟨n1,n2,n3,n4,n5,n6,n7⟩:=comp_names S K.kind hf
  have lt:∀ a o,H a = some o→a < C:=fun a o e=>Nat.lt_of_lt_of_le (I.lt_of e) hC
  refine ⟨I.gens,I.os,fun b o e=>?_,fun b d e=>?_,⟨m,hn,fun y v hy hk=>?_⟩,fun y c e=>?_,fun a o e=>?_,fun a o e=>?_,I.big⟩
  · have e:(if isCell F b then s.heap.get? b else F.g b) = some o:=e
    split at e
    · exact k b o e
    · exact k b o (I.keep b o e)
  · have e:(if b = F.env.locals then (s.heap.get? b).map (·.data) else F.fr b) = some d:=e
    split at e
    · obtain ⟨o,ho,hd⟩:=Option.map_eq_some_iff.mp e
      exact ⟨o,k b o ho,hd⟩
    · obtain ⟨o,ho,hd⟩:=I.frk b d e
      exact ⟨o,k b o ho,hd⟩
  · exfalso
    have hk:(relabel scope F.env).names.lookup y = some .local:=hk
    rw [lookup_relabel] at hk
    obtain ⟨kk,e1,e2⟩:=Option.map_eq_some_iff.mp hk
    have:kk = .local:=by
      split at e2
      · cases e2
      · exact e2
    subst this
    rcases n4 y e1 with rfl | rfl
    · simp [Loc.del] at hy
    · simp only [Loc.del] at hy
      split at hy
      · cases hy
      · simp at hy
  · have hc:=c1 y c (mem_of_lookup e)
    obtain ⟨vo,⟨o,ho,hd⟩,q⟩:=I.cel y c hc
    refine ⟨vo,⟨o,k c o ho,hd⟩,fun v hy hk=>q v ?_ ?_⟩
    · simp only [Loc.del] at hy
      split at hy
      · cases hy
      · split at hy
        · cases hy
        · exact hy
    · have hk:(relabel scope F.env).names.lookup y = some .cell∨(relabel scope F.env).names.lookup y = some .free:=hk
      rw [lookup_relabel] at hk
      have hfr:(y,NameKind.free)∈scope.names:=by
        rcases hk with hk | hk
        · obtain ⟨kk,e1,e2⟩:=Option.map_eq_some_iff.mp hk
          split at e2
          · rename_i hc
            simp only [Bool.and_eq_true,beq_iff_eq] at hc
            have:=hc.1.1
            subst this
            exact mem_of_lookup e1
          · subst e2;exact absurd rfl (n3 _ (mem_of_lookup e1))
        · obtain ⟨kk,e1,e2⟩:=Option.map_eq_some_iff.mp hk
          split at e2
          · cases e2
          · subst e2;exact mem_of_lookup e1
      exact .inl (n5 y hfr).1
  · obtain ⟨O,ho⟩:=(I.objs a o e).some
    exact (I.objs a o e).congr ((k a O ho).trans ho.symm)
  · cases hr:o.isR with
    | true=>exact fre_r (F:=F) (F':=F.comp s.heap (compEnvC scope cl C F.env)) hr rfl (I.free a o e)
    | false =>
    obtain ⟨h1,h2,h3,h4⟩:=of_fre (I.free a o e) hr
    refine fre_of hr ⟨?_, ?_,Nat.ne_of_lt (lt a o e),fun y c hm=>?_⟩
    · show (if isCell F a then s.heap.get? a else F.g a) = none
      rw [if_neg (fun q=>by obtain ⟨y,hm⟩:=mem_isCell q;exact h4 y a hm rfl)];exact h1
    · show (if a = F.env.locals then (s.heap.get? a).map (·.data) else F.fr a) = none
      rw [if_neg h3];exact h2
    · exact h4 y c (mem_of_lookup (c1 y c hm))
noncomputable abbrev Step:=Value→Hp→(Option Value→Hp→Prop)→Prop
noncomputable def stepOf (G:Gx) (hm:Bool) (ifs':List Ex) (elt':Ex) (l:Loc) (x:Str):Step:=fun v H2 k=>wpB G hm true ifs' ((l.del (".0" : Str)).upd x v) H2 (fun c H3=>truthV c fun r =>
        if r then wpE G hm elt' ((l.del (".0" : Str)).upd x v) H3 (fun u H4=>k (some u) H4) (fun _ _=>False) else k none H3) (fun _ _=>False)
structure CpI (P:Pm) (Fc:Fm) (l0:Loc) (St:Nat→Heap→Prop) (J D:Addr) (items:List Value) (guard:Hp→Prop) (step:Step) (k3:List Value→Hp→Prop) (k:Nat) (s:Shared) (i:Nat) (Hc:Hp) (us:Array Value):Prop where
  inv:Inv P Fc l0 Hc s
  ofJ:Off Fc Hc J
  ofD:Off Fc Hc D
  st:St i s.heap
  eD:IsL s.heap D us
  hus:us.size≤i
  hle:i≤items.length
  hk:k = items.length - i + 1
  q:compG guard step (items.drop i) (us.toList.map er) Hc k3
theorem drop_nth {items:List Value} {i:Nat} {v:Value} (hv:items[i]? = some v):items.drop i = v :: items.drop (i + 1):=by
  have hi:=(List.getElem?_eq_some_iff.1 hv).1
  rw [List.drop_eq_getElem_cons hi]
  rw [List.getElem?_eq_getElem hi] at hv
  cases hv;rfl
theorem comp_back {Fc:Fm} {x:Str} {v:Value} {J D:Addr} {oj oD:Obj} (KC:FmOk P Fc) {Hc:Hp} (ofJ:Off Fc Hc J) (ofD:Off Fc Hc D) (ofD1:Off (Fc.also J oj) Hc D) {H5:Hp} {s5:Shared} (I5:Inv P ((Fc.also J oj).also D oD) ((l.del (".0" : Str)).upd x v) H5 s5) :
    Inv P Fc ((l.del (".0" : Str)).del x) H5 s5∧Off Fc H5 J∧Off Fc H5 D∧s5.heap.get? J = some oj∧s5.heap.get? D = some oD:=by
  obtain ⟨I6,e6,o6⟩:=I5.back (KC.also ofJ) ofD1
  obtain ⟨I7,e7,o7⟩:=I6.back KC ofJ
  refine ⟨I7.weak fun y v' hy=>?_,o7,⟨o6.h,ofD.g,o6.fr,o6.l,o6.c⟩,e7,e6⟩
  simp only [Loc.del] at hy
  split at hy
  · cases hy
  · rename_i hne
    simp only [Loc.upd,if_neg hne,Loc.del]
    exact hy
theorem comp_turn {scope:Scope} {x:Str} {elt:Expr} {ifs:List Expr} {elt':Ex} {ifs':List Ex} (he:SE P G n hm scope elt elt') (ht:STall P G n hm scope ifs ifs') {Fc:Fm} (KC:FmOk P Fc) (SC:ScOk scope Fc) (HC:HmOk hm Fc) (R:Room n Fc.A) (hx:Fc.env.kindOf x = some .local)
    {J D:Addr} (hJD:J≠D) {guard:Hp→Prop} {items:List Value} {St:Nat→Heap→Prop} (T:Turns P Fc.A J guard items St) {k3:List Value→Hp→Prop} (hz:items.length≤sizeLine) {k:Nat} {i:Nat} {Hc:Hp} {us:Array Value} (C:CpI P Fc ((l.del (".0" : Str)).del x) St J D items guard (stepOf G hm ifs' elt' l x) k3 k s i Hc us) (hi:i < items.length)
    {Z:Option Value→Shared→Prop} {E E1 E2 E3 E4:Value→Shared→Prop} {px:Pos}
    (hZ:∀ V s₁,wpAny P.M Fc.A (assign (.Name x px) Fc.env V) (fun _ s₂ =>
          wpAny P.M Fc.A (forIn ifs true fun c r=>if r = true then do let ok ← PySem.isTrue c Fc.env (eval c Fc.env);pure (ForInStep.yield ok) else pure (ForInStep.yield r)) (fun ok s₃ =>
            if ok = true then wpAny P.M Fc.A (eval elt Fc.env) (fun u s₄ =>
              wpAny P.M Fc.A (call (.builtin "list.append") [.ref D,u]) (fun _ s₅=>∃ m,m < k∧∃ i Hc us,CpI P Fc ((l.del (".0" : Str)).del x) St J D items guard (stepOf G hm ifs' elt' l x) k3 m s₅ i Hc us) E4 s₄) E3 s₃
            else ∃ m,m < k∧∃ i Hc us,CpI P Fc ((l.del (".0" : Str)).del x) St J D items guard (stepOf G hm ifs' elt' l x) k3 m s₃ i Hc us) E2 s₂) E1 s₁→Z (some V) s₁):wpAny P.M Fc.A (pyNext (.ref J)) Z E s:=by
  obtain ⟨v,hv⟩:∃ v,items[i]? = some v:=⟨_,List.getElem?_eq_getElem hi⟩
  have q:=C.q
  rw [drop_nth hv] at q
  unfold compG at q
  obtain ⟨g,q⟩:=q
  unfold stepOf at q
  refine T.item i s _ _ Hc C.inv.objs C.ofJ.h g C.st v hv fun V h' tk hV st' k'=>hZ _ _ ?_
  have I':=C.inv.turn (t:=tk) KC C.ofJ k'
  obtain ⟨oj,hoj⟩:=T.at_ _ _ st'
  obtain ⟨nD,hoD⟩:=C.eD
  have ofD1:Off (Fc.also J oj) Hc D:=⟨C.ofD.h,by show (if D = J then some oj else Fc.g D) = none;rw [if_neg hJD.symm];exact C.ofD.g,C.ofD.fr,C.ofD.l,C.ofD.c⟩
  have K2:=(KC.also (o:=oj) C.ofJ).also (o:={ cls:=.type "list",dict:=none,data:=.seq us nD,slots:=#[] }) ofD1
  have I2':=(I'.also C.ofJ hoj).also ofD1 (k' _ _ hJD.symm hoD)
  have S2:ScOk scope ((Fc.also J oj).also D { cls:=.type "list",dict:=none,data:=.seq us nD,slots:=#[] }):=⟨SC.loc,SC.glob,SC.locl,SC.cell⟩
  have HM2:HmOk hm ((Fc.also J oj).also D { cls:=.type "list",dict:=none,data:=.seq us nD,slots:=#[] }):=⟨(HC.1.also C.ofJ.g).also ofD1.g,HC.2⟩
  refine wpAny_assign_Name (st_local K2 I2' hx fun s4 I4=>?_)
  rw [hV] at I4
  have eL:(((l.del (".0" : Str)).del x).upd x v) = ((l.del (".0" : Str)).upd x v):=by
    funext y
    by_cases q:y = x <;> simp [Loc.upd,Loc.del,q]
  rw [eL] at I4
  have ok:∀ {H5:Hp} {s5:Shared},s5.heap.get? J = some oj→St (i + 1) s5.heap:=fun e5=>T.frame _ _ _ st' fun o' e=>by rw [hoj] at e;cases e;exact e5
  refine wpAny_mono (s_tests ht K2 S2 R HM2 I4 q) (fun b s5 z=>?_) fun _ _ z=>?_
  · obtain ⟨H5,I5,z⟩:=z
    cases b with
    | false =>
      simp only [Bool.false_eq_true,if_false] at z ⊢
      obtain ⟨b1,b2,b3,b4,b5⟩:=comp_back KC C.ofJ C.ofD ofD1 I5
      exact ⟨_,by rw [C.hk];exact left1 hi,i + 1,H5,us,b1,b2,b3,ok (H5:=H5) b4,⟨nD,b5⟩,Nat.le_succ_of_le C.hus,hi,rfl,z⟩
    | true =>
      simp only [if_true] at z ⊢
      refine wpAny_mono (he K2 S2 R HM2 I5 z) (fun V6 s6 z=>?_) fun _ _ z=>?_
      · obtain ⟨H6,I6,z⟩:=z
        obtain ⟨b1,b2,b3,b4,b5⟩:=comp_back KC C.ofJ C.ofD ofD1 I6
        have b6:IsL s6.heap D us:=⟨nD,b5⟩
        refine append_at b6 (Nat.le_trans C.hus (Nat.le_trans C.hle hz)) ?_
        have kD:∀ b o,b≠D→s6.heap.get? b = some o→(s6.heap.update D (Obj.mapSeq (·.push V6))).get? b = some o:=fun b o hb e=>by rw [Heap.get?_update_other _ _ (Ne.symm hb)];exact e
        refine ⟨_,by rw [C.hk];exact left1 hi,i + 1,H6,us.push V6,b1.turn (t:=s6.toks) KC b3 kD,b2,b3,T.frame _ _ _ (ok (H5:=H6) b4) fun o e=>kD _ _ hJD e,b6.update _,by rw [Array.size_push];exact Nat.succ_le_succ C.hus,hi,rfl, ?_⟩
        rw [Array.toList_push,List.map_append];exact z
      · obtain ⟨_,_,_,_,_,_,z⟩:=z
        exact z.elim
  · obtain ⟨_,_,_,_,_,_,z⟩:=z
    exact z.elim
theorem s_comp_core {sc scope:Scope} {x:Str} {px pos:Pos} {elt it:Expr} {ifs:List Expr} {elt' it':Ex} {ifs':List Ex} (hf:compFine sc scope x = true) (hset:notSet it = true) (hi:SE P G n hm sc it it') (he:SE P G n hm scope elt elt') (ht:STall P G n hm scope ifs ifs')
    (K:FmOk P F) (S:ScOk sc F) (R:Room n F.A) (HM:HmOk hm F) (I:Inv P F l H s) {Q:QV} {X:XV} (q:wpE G hm (.comp elt' x it' ifs') l H Q X)
    {cp:Pos} {use:Option (Value→Sem Unit)} {Q' E':Value→Shared→Prop} (hE:∀ V s',PostX P F l X V s'→E' V s')
    (fin:∀ {Hc:Hp} {s':Shared} {us:Array Value} {D C:Addr} {m:Str→Option Value} {r:Flow},Inv P F l Hc s'→Off F Hc D→Off F Hc C→D≠C→s'.heap.Ns C m→IsL s'.heap D us→us.size≤sizeLine→Q (.ref D) (Hc.upd D (.list (us.toList.map er)))→compPost P.M F.A E' use Q' (.ref D) C (.ok r) s') :
    wpAny P.M F.A (comprehension (.ListComp elt [⟨.Name x px,it,ifs,0⟩] scope pos) scope F.env cp (newList []) false (eval it F.env) use) Q' E' s:=by
  obtain ⟨n1,n2,n3,n4,n5,n6,n7⟩:=comp_names S K.kind hf
  obtain ⟨cl,hcl,nd,c1,c2⟩:=closure_ok (env:=F.env) n2 fun y hy=>(n5 y hy).2
  conv at q=>whnf
  refine wpAny_comprehension_free (use:=use) rfl (fun _=>folded_no hset) hcl n1 (fun y hy hl=>?_) (wpAny_mono (hi K S R HM I q) (fun V s1 q=>?_) hE)
  · obtain ⟨y,k⟩:=y
    have hl:k = .local:=hl
    subst hl
    exact lookup_of_mem n2 hy
  obtain ⟨H1,I1,q⟩:=q
  refine wpAny_mono (s_iter K HM I1 q) (fun itv s2 q=>?_) fun _ _ z=>z
  obtain ⟨guard,items,J,St,⟨hz,q⟩,rfl,I2,of,bz,st,T⟩:=q
  have T:=T F.A rfl
  refine wpAny_newObj_type (wpAny_newFunctionEnv n3 (by intro y hy;simp at hy) (fun h₁ hns hsb=>?_) n1)
  dsimp only at hns hsb ⊢
  generalize hH2:s2.heap.push { cls:=.type "list",dict:=none,data:=.seq ([]:List Value).toArray } = hp2 at hns hsb ⊢
  have hC:hp2.objs.size = s2.heap.objs.size + 1:=by rw [← hH2,Heap.size_push]
  have hDC:s2.heap.objs.size≠hp2.objs.size:=by rw [hC];exact Nat.ne_of_lt (Nat.lt_succ_self _)
  have k1:∀ b o,s2.heap.get? b = some o→h₁.get? b = some o:=fun b o e =>
    hsb.extBut b o (by rw [hC];exact Nat.ne_of_lt (Nat.lt_succ_of_lt (Heap.lt_size e))) (Heap.get?_push_of_some _ (hH2 ▸ Heap.get?_push_of_some _ e))
  have hD1:IsL h₁ s2.heap.objs.size #[]:=⟨0,hsb.extBut _ _ hDC (Heap.get?_push_of_some _ (hH2 ▸ Heap.get?_push_size _ rfl))⟩
  have I3:=comp_inv (t:=s2.toks + ([]:List (Str×Value)).length) K S hf I2 c1 (C:=hp2.objs.size) (by rw [hC];exact Nat.le_succ _) k1 hns
  have KC:FmOk P (F.comp s2.heap (compEnvC scope cl hp2.objs.size F.env)):=comp_frame K I2 (env:=compEnvC scope cl hp2.objs.size F.env) n1 K.glob K.blt (by show s2.heap.objs.size≤hp2.objs.size;rw [hC];exact Nat.le_succ _) nd c1 (comp_not n4 n7)
  have SC:ScOk scope (F.comp s2.heap (compEnvC scope cl hp2.objs.size F.env)):=comp_sc S K.kind hf nd c2
  have kx:(compEnvC scope cl hp2.objs.size F.env).kindOf x = some .local:=SC.locl x n6
  have oJ:Off (F.comp s2.heap (compEnvC scope cl hp2.objs.size F.env)) H1 J:=by
    have hJ:J < s2.heap.objs.size:=by obtain ⟨o,ho⟩:=T.at_ _ _ st;exact Heap.lt_size ho
    refine ⟨of.h, ?_, ?_, ?_,fun y c hm=>of.c y c (mem_of_lookup (c1 y c hm))⟩
    · show (if isCell F J then s2.heap.get? J else F.g J) = none
      rw [if_neg (fun q=>by obtain ⟨y,hm⟩:=mem_isCell q;exact of.c y J hm rfl)];exact of.g
    · show (if J = F.env.locals then (s2.heap.get? J).map (·.data) else F.fr J) = none
      rw [if_neg of.l];exact of.fr
    · show J≠hp2.objs.size
      rw [hC];exact Nat.ne_of_lt (Nat.lt_succ_of_lt hJ)
  have ofD:=I2.ofSize K
  have oD:Off (F.comp s2.heap (compEnvC scope cl hp2.objs.size F.env)) H1 s2.heap.objs.size:=by
    refine ⟨ofD.h, ?_, ?_,hDC,fun y c hm=>ofD.c y c (mem_of_lookup (c1 y c hm))⟩
    · show (if isCell F s2.heap.objs.size then s2.heap.get? s2.heap.objs.size else F.g s2.heap.objs.size) = none
      rw [if_neg (fun q=>by obtain ⟨y,hm⟩:=mem_isCell q;exact ofD.c y _ hm rfl)];exact ofD.g
    · show (if s2.heap.objs.size = F.env.locals then (s2.heap.get? s2.heap.objs.size).map (·.data) else F.fr s2.heap.objs.size) = none
      rw [if_neg ofD.l];exact ofD.fr
  have hJD:J≠s2.heap.objs.size:=by obtain ⟨o,ho⟩:=T.at_ _ _ st;exact Nat.ne_of_lt (Heap.lt_size ho)
  have HC:HdK (F.comp s2.heap (compEnvC scope cl hp2.objs.size F.env)):=HM.1.call I2 (compEnvC scope cl hp2.objs.size F.env)
  generalize hFc:F.comp s2.heap (compEnvC scope cl hp2.objs.size F.env) = Fc at *
  have eA:Fc.A = F.A:=by rw [← hFc];rfl
  have eE:Fc.env = compEnvC scope cl hp2.objs.size F.env:=by rw [← hFc];rfl
  have TC:Turns P Fc.A J guard items St:=by rw [eA];exact T
  have loop:∀ s3:Shared,s3 = { s2 with heap:=h₁,toks:=s2.toks + ([]:List (Str×Value)).length } →
      codeAny P.M F.A (.compLoop (.ListComp elt [⟨.Name x px,it,ifs,0⟩] scope pos) 0 (.ref J) (.ref s2.heap.objs.size) (compEnvC scope cl hp2.objs.size F.env))
        (compPost P.M F.A E' use Q' (.ref s2.heap.objs.size) hp2.objs.size) s3:=by
    rintro s3 rfl
    refine codeAny_compLoop_tests (fun k s=>∃ i Hc us,CpI P Fc ((l.del (".0" : Str)).del x) St J s2.heap.objs.size items guard (stepOf G hm ifs' elt' l x) (fun us H'=>newV (.list us) H' Q) k s i Hc us) ?_ (items.length + 1) ⟨0,H1,#[],I3,oJ,oD,T.frame _ _ _ st fun o e=>k1 _ _ e,hD1,Nat.le_refl _,Nat.zero_le _,rfl,q⟩
    rintro k s ⟨i,Hc,us,C⟩
    rcases Nat.lt_or_ge i items.length with hi | hi
    · rw [← eE,← eA]
      exact comp_turn he ht KC SC ⟨HC,fun z=>by rw [eA];exact HM.2 z⟩ (by rw [eA];exact R) (by rw [eE];exact kx) hJD TC hz C hi fun V s₁ h=>h
    · obtain ⟨I,ofJ,ofD,st,eD,hus,hle,hk,q⟩:=C
      have:i = items.length:=Nat.le_antisymm hle hi
      subst this
      rw [List.drop_length] at q
      unfold compG at q
      refine T.done s _ _ Hc I.objs ofJ.h q.1 st (eA ▸ HC.at_ I ofJ.g) fun h' tk k'=>?_
      have I':=I.turn (t:=tk) KC ofJ k'
      have eD':IsL h' s2.heap.objs.size us:=let ⟨nD,e⟩:=eD;⟨nD,k' _ _ hJD.symm e⟩
      obtain ⟨m,hnC,_⟩:=I'.loc
      rw [eE] at hnC
      have nC:Hc hp2.objs.size = none:=by
        cases e:Hc hp2.objs.size with
        | none=>rfl
        | some o =>
          have:=I'.neL KC e
          rw [eE] at this
          exact absurd rfl this
      rw [← hFc] at I' ofD
      have IF:=Inv.compUp K I2 I'
      have ofDF:=Off.compUp K I2 ofD
      have ofC0:=I2.off K (a:=hp2.objs.size) (Heap.get?_none_of_le (by rw [hC];exact Nat.le_succ _))
      exact fin IF ofDF ⟨nC,ofC0.g,ofC0.fr,ofC0.l,ofC0.c⟩ hDC hnC eD' (Nat.le_trans hus hz) (q.2 _ ofDF.h)
  exact codeAny_compStart_list (loop _ rfl) (T.self 0 _ _ _ (T.frame _ _ _ st fun o e=>k1 _ _ e) (loop _ rfl))
theorem s_comp {sc scope:Scope} {x:Str} {px pos:Pos} {elt it:Expr} {ifs:List Expr} {elt' it':Ex} {ifs':List Ex} (hf:compFine sc scope x = true) (hset:notSet it = true) (hi:SE P G n hm sc it it') (he:SE P G n hm scope elt elt') (ht:STall P G n hm scope ifs ifs')
    (K:FmOk P F) (S:ScOk sc F) (R:Room n F.A) (HM:HmOk hm F) (I:Inv P F l H s) {Q:QV} {X:XV} (q:wpE G hm (.comp elt' x it' ifs') l H Q X) :
    wpAny P.M F.A (eval (.ListComp elt [⟨.Name x px,it,ifs,0⟩] scope pos) F.env) (PostE P F l Q) (PostX P F l X) s:=by
  rw [eval_ListComp]
  refine s_comp_core hf hset hi he ht K S R HM I q (use:=none) (fun _ _ z=>z) fun {Hc s' us D C m r} IF oD oC hDC hn eD hz q=>⟨m,hn,fun h'' sb=>?_⟩
  have IG:=IF.turn (t:=s'.toks) (h':=h'') K oC fun b o hb e=>sb.extBut b o hb e
  exact ⟨_,IG.track (o:=.list (us.toList.map er)) oD trivial (mt_list (let ⟨nD,e⟩:=eD;⟨nD,sb.extBut _ _ hDC e⟩) (szl hz)),q⟩
noncomputable def swapFine (sc scope:Scope) (y:Str):Bool:=sc.names.lookup y == some .local && !(scope.names.any fun z=>z.1 == y && (z.2 == .local || z.2 == .cell))
theorem s1_asgComp_ok {sc scope:Scope} {x y:Str} {px py pos spos:Pos} {elt it:Expr} {ifs:List Expr} {elt' it':Ex} {ifs':List Ex} (hs:(swapFine sc scope y && py.line == pos.line) = true) (hf:compFine sc scope x = true) (hset:notSet it = true) (hi:SE P G n hm sc it it') (he:SE P G n hm scope elt elt') (ht:STall P G n hm scope ifs ifs')
    (K:FmOk P F) (S:ScOk sc F) (R:Room n F.A) (HM:HmOk hm F) (ro:F.ro = false) (I:Inv P F l H s) {Q:QS} {X:XS} (q:wpS G hm (.asg y (.comp elt' x it' ifs')) l H Q X) :
    wpAny P.M F.A (exec (.Assign [.Name y py] (.ListComp elt [⟨.Name x px,it,ifs,0⟩] scope pos) spos) F.env) (PostS P F Q) (PostSX P F X) s:=by
  simp only [swapFine,Bool.and_eq_true,beq_iff_eq,Bool.not_eq_true'] at hs
  obtain ⟨⟨h1,h2⟩,h3⟩:=hs
  have ky:F.env.kindOf y = some .local:=S.locl y h1
  have hsw:swapsWith (.ListComp elt [⟨.Name x px,it,ifs,0⟩] scope pos) (some (.Name y py)) spos.line F.env = pure true:=by
    have:(F.env.blockKind == .function && F.env.kindOf y == some .local && py.line == pos.line && !(scope.names.any fun (n,k)=>n == y && (k == .local || k == .cell))) = true:=by
      rw [ky]
      have e:F.env.blockKind = .function:=by unfold Env.blockKind;rw [K.kind];rfl
      rw [e,h3]
      have e2:(scope.names.any fun (n,k)=>n == y && (k == .local || k == .cell)) = false:=h2
      rw [e2];simp
    show (pure (F.env.blockKind == .function && F.env.kindOf y == some .local && py.line == pos.line && !(scope.names.any fun (n,k)=>n == y && (k == .local || k == .cell))):Sem Bool) = pure true
    rw [this]
  rw [exec_Assign_Name_used _ _ _ _ hsw]
  conv at q=>whnf
  refine wpAny_bind (wpAny_standAt (wpAny_bind ?_))
  show wpAny _ F.A (do let _ ← comprehension (.ListComp elt [⟨.Name x px,it,ifs,0⟩] scope pos) scope F.env _ (newList []) false (eval it F.env) (some (assign (.Name y py) F.env))) _ _ s
  refine wpAny_bind (wpAny_mono (s_comp_core hf hset hi he ht K S R HM I q (use:=some (assign (.Name y py) F.env)) (Q':=fun _ s'=>PostS P F Q .next s') (fun _ _ z=>PostX.toS z) fun {Hc s' us D C m r} IF oD oC hDC hn eD hz q=>?_) (fun _ s' hq=>wpAny_pure (wpAny_pure hq)) fun _ _ e=>e)
  show wpAny P.M F.A (assign (.Name y py) F.env (.ref D)) (fun _ s''=>∃ m,s''.heap.Ns C m∧∀ h',Heap.SameBut C s''.heap h'→PostS P F Q .next { s'' with heap:=h' }) (PostSX P F X) s'
  obtain ⟨oc,es,ep,hoc,hrest⟩:=id hn
  have I1:=IF.track (o:=.list (us.toList.map er)) oD trivial (mt_list eD (szl hz))
  have oC1:Off F (Hc.upd D (.list (us.toList.map er))) C:=⟨(Hp.upd_ne _ _ (Ne.symm hDC)).trans oC.h,oC.g,oC.fr,oC.l,oC.c⟩
  have I2:=I1.also oC1 hoc
  refine wpAny_assign_Name (st_local (F:=F.also C oc) (K.also oC1) I2 ky fun s4 I4=>?_)
  obtain ⟨I5,hC5,oC5⟩:=Inv.back K oC1 I4
  refine ⟨m,⟨oc,es,ep,hC5,hrest⟩,fun h' sb=>⟨_,_,I5.turn (t:=s4.toks) (h':=h') K oC5 fun b o hb e=>sb.extBut b o hb e,q⟩⟩
end
end Mine
end

section
open PySem PyProof.Rows PySem.Calls
namespace Mine
section
variable {P:Pm} {F:Fm} {G:Gx} {n:Nat} {hm:Bool} {l:Loc} {H:Hp} {s:Shared} {E:Value→Shared→Prop} {Q:QV}
noncomputable def bfVal:Bf→Option Value
  | .len=>some (.builtin "len") | .list=>some (.type "list") | .sorted=>some (.builtin "sorted") | .int=>some (.type "int") | .all=>some (.builtin "all") | .max2=>some (.builtin "max") | .range=>some (.type "range")
  | _=>none
theorem s_bf (Y:PmOk P) (K:FmOk P F) (HM:HmOk hm F) (I:Inv P F l H s) {b:Bf} {v:Value} {Vs:List Value} (hv:bfVal b = some v) (hf:bfH hm b (Vs.map er) H) (h:bfV b (Vs.map er) H Q):wpAny P.M F.A (call v Vs) (PostE P F l Q) E s:=by
  have hh:b≠.len→b≠.list→b≠.all→b≠.int→F.A.handled = none:=fun n1 n2 n3 n4=>by
    rcases hf with (z | z) | z | z | z
    · exact absurd z n1
    · exact absurd z n4
    · exact HM.2 z
    · exact absurd z.1 n2
    · exact absurd z.1 n3
  unfold bfV at h
  split at h
  · obtain ⟨V,eV,h'⟩:=on1_elim h;clear h;subst eV;have h:=h';clear h'
    cases hv
    exact s_len I rfl h
  · obtain ⟨V,eV,h'⟩:=on1_elim h;clear h;subst eV;have h:=h';clear h'
    cases hv
    unfold seqV at h
    split at h
    · rename_i a e;have:=er_ref e;subst this
      split at h
      · rename_i hx
        obtain ⟨vs,⟨o,ho,hc,n,hd⟩,e2,_⟩:=I.objs _ _ hx
        rw [← e2] at h
        exact s_copy K I (.inl rfl) ho hc hd (by simpa using h.1) h.2
      · rename_i hx
        obtain ⟨vs,⟨o,ho,hc,n,hd⟩,e2,_⟩:=I.objs _ _ hx
        rw [← e2] at h
        exact s_copy K I (.inr rfl) ho hc hd (by simpa using h.1) h.2
      · rename_i lo hi st hx
        have hn:F.A.handled = none:=by
          rcases hf with (z | z) | z | ⟨_,a',xs,e1,e2⟩ | z
          · cases z
          · cases z
          · exact HM.2 z
          · injection e1 with e1 _
            injection e1 with e1
            rw [← e1,hx] at e2;cases e2
          · cases z.1
        exact s_lrange K I hn hx h.1 h.2.1 h.2.2
      · exact h.elim
    · exact h.elim
  · obtain ⟨V,eV,h'⟩:=on1_elim h;clear h;subst eV;have h:=h';clear h'
    cases hv
    exact s_sorted Y K I (hh nofun nofun nofun nofun) h
  · obtain ⟨V,eV,h'⟩:=on1_elim h;clear h;subst eV;have h:=h';clear h'
    cases hv
    obtain ⟨b,eV,h'⟩:=onBool_elim rfl h;clear h;subst eV;have h:=h';clear h'
    exact call_int_bool ⟨H,I.toks _,h⟩
  · obtain ⟨V,eV,h'⟩:=on1_elim h;clear h;subst eV;have h:=h';clear h'
    cases hv
    obtain ⟨a,eV,h'⟩:=onRef_elim rfl h;clear h;subst eV;have h:=h';clear h'
    split at h
    · rename_i hx
      obtain ⟨bs,hb,q⟩:=h
      rcases hf with (z | z) | z | z | ⟨_,a',e1,e2⟩
      · cases z
      · cases z
      · exact s_all K I (HM.2 z) hx hb q
      · cases z.1
      · injection e1 with e1 _
        injection e1 with e1
        rw [← e1,hx] at e2
        injection e2 with e2;injection e2 with e2
        subst e2
        have:bs = []:=List.map_eq_nil_iff.1 hb.symm
        subst this
        exact s_all_nil K HM.1 I hx q
    · exact h.elim
  · obtain ⟨V,W,eV,h'⟩:=on2_elim h;clear h;subst eV;have h:=h';clear h'
    cases hv
    obtain ⟨x,_,eV,h'⟩:=onInt_elim rfl h;clear h;subst eV;have h:=h';clear h'
    obtain ⟨y,_,eV,h'⟩:=onInt_elim rfl h;clear h;subst eV;have h:=h';clear h'
    exact s_max2 I (hh nofun nofun nofun nofun) h
  · cases hv
    exact s_range K I h
  · cases hv
  · exact h.elim
theorem se_bf (Y:PmOk P) (B:BltOk P) {sc:Scope} {f:Str} {b:Bf} {p pos:Pos} {args:List Expr} {args':List Ex} {v:Value} (hv:bfVal b = some v) (hbt:bltTab f = some v) (hs:args.all notStar = true) (hl:isLoc sc f = some false) (ha:SEs P G n hm sc args args') :
    SE P G n hm sc (.Call (.Name f p) args [] pos) (.bf b args'):=by
  intro F l K S R HM H s Q X I q
  conv at q=>whnf
  refine wpAny_Call_NameR (ld_blt Y B K S I hbt hl ?_)
  refine callWith_any hs (wpAny_mono (ha K S R HM I q) (fun Vs s2 q=>?_) fun _ _ z=>z)
  obtain ⟨H2,I2,hf,q⟩:=q
  refine ⟨?_,s_bf Y K HM I2 hv hf q⟩
  cases b <;> cases hv <;> exact ⟨.machine, .inr rfl,PySem.W.Looks.of_pure rfl⟩
theorem se_dict0 {sc:Scope} {pos:Pos}:SE P G n hm sc (.Dict [] [] pos) (.dict [] []):=by
  intro F l K S R HM H s Q X I q
  conv at q=>whnf
  refine wpAny_Dict_empty ⟨_,I.alloc K (o:=.idict []) (t:=s.toks) ⟨[],⟨_,#[],0,Heap.get?_push_size _ rfl, ?_,rfl, ?_, ?_,by simp⟩,rfl⟩, ?_⟩
  · exact ⟨rfl,rfl,rfl⟩
  · intro e he;simp at he
  · exact Pairs.nil
  · rcases q with ⟨_,_,q⟩ | ⟨ss,e,_,_,_,hne,_⟩
    · exact q _ I.fresh
    · simp at e;exact absurd e hne
end
end Mine
end

section
open PySem PyProof.Rows PySem.Calls
namespace Mine
theorem se_comp {P:Pm} {G:Gx} {n:Nat} {hm:Bool} {sc scope:Scope} {x:Str} {px pos:Pos} {elt it:Expr} {ifs:List Expr} {elt' it':Ex} {ifs':List Ex} (hf:compFine sc scope x = true) (hset:notSet it = true) (hi:SE P G n hm sc it it') (he:SE P G n hm scope elt elt') (ht:STall P G n hm scope ifs ifs') :
    SE P G n hm sc (.ListComp elt [⟨.Name x px,it,ifs,0⟩] scope pos) (.comp elt' x it' ifs'):=by
  intro F l K S R HM H s Q X I q
  exact s_comp hf hset hi he ht K S R HM I q
theorem s1_asgComp {P:Pm} {G:Gx} {n:Nat} {hm:Bool} {sc scope:Scope} {x y:Str} {px py pos spos:Pos} {elt it:Expr} {ifs:List Expr} {elt' it':Ex} {ifs':List Ex} (hs:(swapFine sc scope y && py.line == pos.line) = true) (hf:compFine sc scope x = true) (hset:notSet it = true) (hi:SE P G n hm sc it it') (he:SE P G n hm scope elt elt') (ht:STall P G n hm scope ifs ifs') :
    S1 P G n hm sc (.Assign [.Name y py] (.ListComp elt [⟨.Name x px,it,ifs,0⟩] scope pos) spos) (.asg y (.comp elt' x it' ifs')) :=
  fun _ _ K S R HM ro _ _ _ _ I q=>s1_asgComp_ok hs hf hset hi he ht K S R HM ro I q
section
variable {P:Pm} {F:Fm} {G:Gx} {n:Nat} {hm:Bool} {l:Loc} {H:Hp} {s:Shared}
theorem ans2 {Ps:Shared→Prop} {x c d:Value} {a b:Bool} (h1:Answers Ps x c a) (h2:Answers Ps x d b):AnswersAll Ps x [c,d] [a,b]:=.cons h1 (.cons h2 .nil)
theorem s_isi_lt (I:Inv P F l H s) {E:Value→Shared→Prop} {V:Value} {tp:Addr} {Q:QV} (ht:s.heap.get? tp = some { cls:=.type "tuple",data:=.seq #[.type "list", .type "tuple"] }) (h:isiV G (er V) .listOrTuple H Q) :
    wpAny P.M F.A (call (.builtin "isinstance") [V, .ref tp]) (PostE P F l Q) E s:=by
  have R:∀ {b:Bool},Q (.bool b) H→∀ u,PostE P F l Q (.bool b) { s with toks:=u }:=fun q _=>⟨H,I.toks _,q⟩
  unfold isiV at h
  cases V with
  | none=>exact IsiPair.tupleOfB (Tx := "NoneType") (ans2 (Answers.of_false_none (by decide +kernel) PySem.F.isi_meta_list PySem.F.sub_NoneType_list) (Answers.of_false_none (by decide +kernel) PySem.F.isi_meta_tuple PySem.F.sub_NoneType_tuple)) rfl ht rfl (R h.2)
  | bool b=>exact IsiPair.tupleOfB (Tx := "bool") (ans2 (Answers.of_false_bool (by decide +kernel) PySem.F.isi_meta_list PySem.F.sub_bool_list) (Answers.of_false_bool (by decide +kernel) PySem.F.isi_meta_tuple PySem.F.sub_bool_tuple)) rfl ht rfl (R h.2)
  | int i t=>exact IsiPair.tupleOfB (Tx := "int") (ans2 (Answers.of_false_int (by decide +kernel) PySem.F.isi_meta_list PySem.F.sub_int_list) (Answers.of_false_int (by decide +kernel) PySem.F.isi_meta_tuple PySem.F.sub_int_tuple)) rfl ht rfl (R h.2)
  | str x t=>exact IsiPair.tupleOfB (Tx := "str") (ans2 (Answers.of_false_str (by decide +kernel) PySem.F.isi_meta_list PySem.F.sub_str_list) (Answers.of_false_str (by decide +kernel) PySem.F.isi_meta_tuple PySem.F.sub_str_tuple)) rfl ht rfl (R h.2)
  | ref a =>
    simp only [er] at h
    cases hx:H a with
    | none=>rw [hx] at h;exact h.elim
    | some o =>
      rw [hx] at h
      cases o with
      | list xs =>
        obtain ⟨vs,⟨o,ho,hc,_⟩,_⟩:=I.objs _ _ hx
        exact IsiPair.tupleOfB (Tx := "list") (ans2 (Answers.of_true PySem.F.isi_meta_list PySem.F.sub_list_list) (Answers.of_false_list (by decide +kernel) PySem.F.isi_meta_tuple PySem.F.sub_list_tuple)) ⟨o,ho,hc⟩ ht rfl (R h.2)
      | tup xs =>
        obtain ⟨vs,⟨o,ho,hc,_⟩,_⟩:=I.objs _ _ hx
        exact IsiPair.tupleOfB (Tx := "tuple") (ans2 (Answers.of_false_tuple (by decide +kernel) PySem.F.isi_meta_list PySem.F.sub_tuple_list) (Answers.of_true PySem.F.isi_meta_tuple PySem.F.sub_tuple_tuple)) ⟨o,ho,hc⟩ ht rfl (R h.2)
      | idict kvs =>
        obtain ⟨vs,⟨o,es,ep,ho,hc,_⟩,_⟩:=I.objs _ _ hx
        exact IsiPair.tupleOfB (Tx := "dict") (ans2 (Answers.of_false_dict (by decide +kernel) PySem.F.isi_meta_list PySem.F.sub_dict_list) (Answers.of_false_dict (by decide +kernel) PySem.F.isi_meta_tuple PySem.F.sub_dict_tuple)) ⟨o,ho,hc.1⟩ ht rfl (R h.2)
      | sdict kvs =>
        obtain ⟨vs,⟨o,es,ep,ho,hc,_⟩,_⟩:=I.objs _ _ hx
        exact IsiPair.tupleOfB (Tx := "dict") (ans2 (Answers.of_false_dict (by decide +kernel) PySem.F.isi_meta_list PySem.F.sub_dict_list) (Answers.of_false_dict (by decide +kernel) PySem.F.isi_meta_tuple PySem.F.sub_dict_tuple)) ⟨o,ho,hc.1⟩ ht rfl (R h.2)
      | exc C=>exact h.2.elim
      | tab=>exact h.elim
      | rlist _=>exact h.elim
      | inst _ _=>exact h.elim
      | ns _=>exact h.elim
      | range _ _ _=>exact h.elim
  | _=>exact h.elim
theorem se_isi_lt (Y:PmOk P) (B:BltOk P) {sc:Scope} {e:Expr} {e':Ex} {p p2 p3 p4 pos:Pos} {kk:Nat} (hn:notStar e = true) (hi:isLoc sc "isinstance" = some false) (hx:isLoc sc "list" = some false) (hy:isLoc sc "tuple" = some false) (he:SE P G n hm sc e e') :
    SE P G n hm sc (.Call (.Name "isinstance" p) [e, .Tuple [.Name "list" p2, .Name "tuple" p3] kk p4] [] pos) (.isi e' .listOrTuple):=by
  intro F l K S R HM H s Q X I q
  conv at q=>whnf
  refine wpAny_Call_NameR (ld_blt Y B K S I (v:=.builtin "isinstance") (by decide +kernel) hi ?_)
  refine callWith_any (by rw [List.all_cons,hn];rfl) ?_
  rw [star_cons hn]
  refine spliced_cons (wpAny_mono (he K S R HM I q) (fun V s' q=>?_) fun _ _ z=>z)
  obtain ⟨H1,I1,q⟩:=q
  refine spliced_cons (Tuple_ (k:=kk) (spliced_cons (ld_blt Y B K S I1 (v:=.type "list") (by decide +kernel) hx (spliced_cons (ld_blt Y B K S I1 (v:=.type "tuple") (by decide +kernel) hy (spliced_nil (wpAny_newTuple ?_ (by simp [sizeLine]))))))))
  refine spliced_nil ⟨machine_builtin _ _ _, ?_⟩
  have I2:=I1.step (t:=s'.toks) (h':=s'.heap.push { cls:=.type "tuple",data:=.seq #[.type "list", .type "tuple"] }) fun b o e _=>Heap.get?_push_of_some _ e
  exact s_isi_lt I2 (Heap.get?_push_size _ rfl) q
end
section
variable {P:Pm} {G:Gx} {n:Nat} {hm:Bool} {sc:Scope}
theorem sts_one {e:Expr} {e':Ex} (h:ST P G n hm sc e e'):STs P G n hm sc [e] [e']:=sts_cons (fun _=>rfl) h sts_nil
theorem sts_more {e e2:Expr} {e' e2':Ex} {es:List Expr} {es':List Ex} (h:ST P G n hm sc e e') (r:STs P G n hm sc (e2 :: es) (e2' :: es')):STs P G n hm sc (e :: e2 :: es) (e' :: e2' :: es'):=sts_cons (fun q=>nomatch q) h r
theorem se_idx1 {x y:Expr} {x' y':Ex} {pos:Pos} (hx:SE P G n hm sc x x') (hy:SE P G n hm sc y y') (hsl:(fun o i=>subscripted y false o i) = fun o i=>operate [o,i] (getItem o i)):SE P G n hm sc (.Subscript x y pos) (.idx x' y'):=se_idx hx hy fun o i=>congrFun (congrFun hsl o) i
theorem st_of_se {e:Expr} {e':Ex} (h:SE P G n hm sc e e') (he:(fun env whole=>PySem.isTrue e env whole) = fun env whole=>(do let v ← whole;standAt e.pos;holding [v] (truthy v))):ST P G n hm sc e e':=SE.test h fun env w=>congrFun (congrFun he env) w
end
theorem len1 {vals:List Value} (h:vals.length = 1):∃ a,vals = [a]:=by
  cases vals with
  | nil=>cases h
  | cons a r=>cases r with
    | nil=>exact ⟨a,rfl⟩
    | cons _ _=>simp at h
theorem len2 {vals:List Value} (h:vals.length = 2):∃ a b,vals = [a,b]:=by
  cases vals with
  | nil=>cases h
  | cons a r =>
    obtain ⟨b,rfl⟩:=len1 (vals:=r) (by simpa using h)
    exact ⟨a,b,rfl⟩
theorem len3 {vals:List Value} (h:vals.length = 3):∃ a b c,vals = [a,b,c]:=by
  cases vals with
  | nil=>cases h
  | cons a r =>
    obtain ⟨b,c,rfl⟩:=len2 (vals:=r) (by simpa using h)
    exact ⟨a,b,c,rfl⟩
theorem len4 {vals:List Value} (h:vals.length = 4):∃ a b c d,vals = [a,b,c,d]:=by
  cases vals with
  | nil=>cases h
  | cons a r =>
    obtain ⟨b,c,d,rfl⟩:=len3 (vals:=r) (by simpa using h)
    exact ⟨a,b,c,d,rfl⟩
theorem len5 {vals:List Value} (h:vals.length = 5):∃ a b c d e,vals = [a,b,c,d,e]:=by
  cases vals with
  | nil=>cases h
  | cons a r =>
    obtain ⟨b,c,d,e,rfl⟩:=len4 (vals:=r) (by simpa using h)
    exact ⟨a,b,c,d,e,rfl⟩
noncomputable def bodyOf:Stmt→List Stmt
  | .FunctionDef _ _ b _ _ _ _ _ _ _=>b
  | _=>[]
noncomputable def scOf:Stmt→Scope
  | .FunctionDef _ _ _ _ _ _ sc _ _ _=>sc
  | _=>default
end Mine
end

section
open PySem PyProof.Rows PySem.Calls
open PySem.W (tabObj kla_makeFunction kla_makeFunctionHit kla_eval)
namespace Mine
section
variable {P:Pm} {F:Fm} {G:Gx} {n:Nat} {hm:Bool} {l:Loc} {H:Hp} {s:Shared} {E:Value→Shared→Prop} {Q:QV}
theorem Hp.upd_id {H:Hp} {a:Addr} {o:AObj} (h:H a = some o):H.upd a o = H:=by
  funext b
  by_cases e:b = a
  · rw [e,Hp.upd_same];exact h.symm
  · exact Hp.upd_ne _ _ e
theorem Inv.tabUp (K:FmOk P F) (I:Inv P F l H s) {T:Addr} (hT:H T = some .tab) {h':Heap} {t:Nat} (x:Heap.ExtBut T s.heap h') (m:Mt P h' T .tab):Inv P F l H { s with heap:=h',toks:=t }:=by
  obtain ⟨mm,hn,hm⟩:=I.loc
  have:=I.putL K (t:=t) hT (o':=.tab) (fun b O e h1 _=>x b O h1 e) (hn.extBut x (I.neL K hT).symm) hm m
  rw [Hp.upd_id hT] at this
  exact this
theorem tab_push {ps:Array Value} {pos:Pos} {c:Addr} (h:TriplesOk ps.toList):TriplesOk (ps++#[rawInt pos.line,rawInt pos.col,Value.ref c]).toList:=by
  rw [Array.toList_append];exact TriplesOk_snoc _ _ _ _ h
theorem s_lam (Y:PmOk P) (K:FmOk P F) (I:Inv P F l H s) {T:Addr} (hT:H T = some .tab) (hk:F.env.kindOf lamX = some .local) {params:Arguments} {body:Expr} {scope:Scope} {pos:Pos} (hd:defaultsOf params F.env = ([],[])) (hcl:closureFor scope F.env = pure [])
    {Q:Value→Shared→Prop} (q:∀ f s',Inv P F l H s'→Q (.ref f) s'):wpAny P.M F.A (eval (.Lambda params body scope pos) F.env) Q E s:=by
  obtain ⟨c,ps,h1,h2,h3⟩:=I.objs _ _ hT
  obtain ⟨C,bm,ob,b1,b2,b3,b4,b5,b6⟩:=Y.lam c T h1
  have hc:=K.code c T h1 hk
  have kp:∀ b o,P.base.get? b = some o→s.heap.get? b = some o:=fun b o e=>I.keep b o (K.base b o e)
  have hg:=Y.g.keeps kp
  have hgT:mainGlobals≠T:=fun z=>by
    obtain ⟨o,es,ep,e,hd,_⟩:=hg
    rw [z,h2] at e;cases e;cases hd
  have B:s.heap.BuiltinsAt P.mg T:=⟨bm,ob,b1,b2,b3,b4,kp _ _ b5,b6⟩
  refine kla_eval hd ?_
  cases e:codeAmong pos ps.toList with
  | none =>
    refine kla_makeFunction hcl K.glob hg hc (C.keeps kp) h2 h3 e hgT B fun c' ctv h' tk hx hge hlt hrec htb=>?_
    have I1:=I.tabUp K (t:=tk) hT hx ⟨c,_,h1,htb,tab_push h3⟩
    exact q _ _ (I1.push _)
  | some cv =>
    refine kla_makeFunctionHit hcl K.glob hg hc (C.keeps kp) h2 h3 e B fun ctv h' tk hk2 hsz=>?_
    have I1:=I.kept (t:=tk) hk2
    exact q _ _ (I1.push _)
theorem se_key0 (Y:PmOk P) (B:BltOk P) {sc:Scope} {e:Expr} {e':Ex} {p pos kp lp:Pos} {params:Arguments} {body:Expr} {scope:Scope} (hn:notStar e = true) (hl:isLoc sc "sorted" = some false) (hk:sc.names.lookup lamX = some .local)
    (hd:∀ env,defaultsOf params env = ([],[])) (hcl:∀ env,closureFor scope env = pure []) (he:SE P G n hm sc e e') :
    SE P G n hm sc (.Call (.Name "sorted" p) [e] [⟨some "key", .Lambda params body scope lp,kp⟩] pos) (.bf .sortedKey0 [e']):=by
  intro F l K S R HM H s Q X I q
  refine wpAny_Call_Name_kw (ld_blt Y B K S I (x := "sorted") (v:=.builtin "sorted") (by decide +kernel) hl ?_)
  refine callWith_kw (wpAny_mono (ses_cons hn he ses_nil K S R HM I q) (fun Vs s1 q=>?_) fun _ _ z=>z) (by rw [star_cons hn];rfl) (by rw [star_cons hn];rfl)
  obtain ⟨H1,I1,hf,q⟩:=q
  obtain ⟨V,eV,q2⟩:=on1_elim q
  subst eV
  obtain ⟨a,eV,q3⟩:=onRef_elim rfl q2
  subst eV
  clear q q2
  split at q3
  · rename_i xs hx
    obtain ⟨ex,⟨T,hT⟩,q⟩:=q3
    subst ex
    refine kws_cons (s_lam Y K I1 hT (S.locl _ hk) (hd _) (hcl _) fun f s2 I2=>kws_nil ?_)
    obtain ⟨vs,hl,ev,_⟩:=I2.objs _ _ hx
    have ev:vs = #[]:=Array.toList_eq_nil_iff.1 (List.map_eq_nil_iff.1 ev)
    subst ev
    obtain ⟨m,Fr,hmm⟩:=I2.fr K
    refine ksk_sorted (kz:=[]) (vs:=[]) (b:=false) Fr (news_all _ _ _) hl rfl (by decide) (ksk_s1 _ _) (fun x=>ksk_l1 _ _) (fun x=>ksk_t1 _ _) (fun i v k e=>nomatch e) fun D h' tk out c F' N' lt ko=>?_
    obtain ⟨qs,hp,ho,_⟩:=ko
    have hp:qs = []:=List.perm_nil.1 hp
    subst hp
    have ho:out.toList = []:=ho
    have I3:=I2.after K (t:=tk) hmm F' N' fun _ hp=>.tail _ hp
    have nn:s2.heap.get? D = none:=by
      cases z:s2.heap.get? D with
      | none=>rfl
      | some o=>exact absurd (lt _ (mem_allNews z (N' _ (.head _)).2.1 (N' _ (.head _)).2.2)) (Nat.lt_irrefl _)
    have of:=I2.off K nn
    refine ⟨_,I3.track (o:=.list []) of trivial ?_,q _ of.h⟩
    have:=mt_list (P:=P) (vs:=out) ⟨c,(N' _ (.head _)).1⟩ (by rw [← Array.length_toList,ho];exact Nat.zero_le _)
    rw [ho] at this
    exact this
  · exact q3.elim
theorem se_never {sc:Scope} {e:Expr}:SE P G n hm sc e (.bf .sortedSet []):=fun _ _ _ _ _ _ _ _ _ _ _ q=>q.2.elim
theorem se_dictn {sc:Scope} {x:Str} {b:Bool} {kb:Nat} {xp bp pos:Pos} (hl:isLoc sc x = some true):SE P G n hm sc (.Dict [some (.Name x xp)] [.Constant (.bool b) kb bp] pos) (.dict [.loc x] [.bool b]):=by
  intro F l K S R HM H s Q X I q
  have q:onSome (l x) (fun v=>dictV [v] [.bool b] H Q):=q
  cases hv:l x with
  | none=>rw [hv] at q;exact (q:False).elim
  | some v =>
  rw [hv] at q
  have q:dictV [v] [.bool b] H Q:=q
  rcases q with ⟨e,_⟩ | ⟨ss,e,_,_,_,_,q⟩
  · cases e
  cases ss with
  | nil=>cases e
  | cons y ys =>
  injection e with e1 e2
  have:ys = []:=List.map_eq_nil_iff.1 e2.symm
  subst this
  refine wpAny_Dict_pairs (knd:=PySem.strKind P.prog P.w) (pairs:=[(eval (.Name x xp) F.env,do let v ← eval (.Constant (.bool b) kb bp) F.env;standAt pos;pure v)]) rfl (by simp) (by simp) ?_
  unfold evalPairs
  refine wpAny_bind (ld_loc K (I.push _) hv (S.loc x hl) (isLoc_true hl).1 (isLoc_true hl).2 fun V eV=>?_)
  obtain ⟨t,rfl⟩:=er_str (eV.trans e1)
  refine wpAny_bind (wpAny_holding (wpAny_bind (wpAny_pure (wpAny_bind (wpAny_standAt (wpAny_pure ?_))))))
  refine wpAny_bind (wpAny_holding ?_)
  unfold evalPairs
  refine wpAny_pure (wpAny_pure ⟨[(y, .bool b)],⟨strKind_is _ _ _ _,rfl,trivial⟩, ?_,fun h' hd sb=>?_⟩)
  · exact ⟨_,#[],0,Heap.get?_push_size _ rfl,⟨rfl,rfl,rfl⟩,rfl,(fun e he=>by simp at he),Pairs.nil,by simp⟩
  · have k:∀ c o,s.heap.get? c = some o→h'.get? c = some o:=fun c o e=>sb.extBut c o (Nat.ne_of_lt (Heap.lt_size e)) (Heap.get?_push_of_some _ e)
    exact ⟨_,I.more K (o:=.sdict [(y, .bool b)]) (Heap.get?_none_of_le (Nat.le_refl _)) (I.base_le K) k ⟨_,hd,rfl⟩,q _ I.fresh⟩
end
end Mine
end

section
open PySem PyProof.Rows PySem.Calls
namespace Mine
noncomputable abbrev Tab:=Addr→Option (List Str×List Sm)
noncomputable def GG (g:Gx) (tab:Tab):Nat→Gx
  | 0=>{ g with fn:=fun _ _ _ _ _ _=>False }
  | n + 1=>{ g with fn:=fun f hm args H Q X=>match tab f with
      | some (ps,sm)=>wpF (GG g tab n) hm ps sm args H Q X
      | none=>False }
structure TabOk (P:Pm) (tab:Tab):Prop where
  ok:∀ f ps sm,tab f = some (ps,sm)→∃ sc body,FnAt P f ps sc body∧∀ {G:Gx} {n:Nat},GxOk P G→SndFn P G n→∀ hm,SS P G n hm sc body sm
section
variable {P:Pm} {g:Gx} {tab:Tab}
theorem gg_ok (GO:GxOk P g) (n:Nat):GxOk P (GG g tab n):=by
  cases n <;> exact ⟨GO.glob,GO.fld,GO.meth,GO.init,GO.exc,GO.sub,GO.self,GO.own⟩
theorem gg_snd (Y:PmOk P) (B:BltOk P) (GO:GxOk P g) (T:TabOk P tab):∀ n,SndFn P (GG g tab n) n
  | 0=>⟨fun h=>h.elim,fun h=>h.elim⟩
  | n + 1=>by
    have ih:=gg_snd Y B GO T n
    refine ⟨fun {f hm args H Q X} h=>?_,fun {f hm args H Q X} h {F l s vals} K R HM I hv=>?_⟩
    · have h:(match tab f with | some (ps,sm)=>wpF (GG g tab n) hm ps sm args H Q X | none=>False):=h
      split at h
      · rename_i ps sm e
        obtain ⟨sc,body,D,_⟩:=T.ok f ps sm e
        exact D.keep
      · exact h.elim
    · have h:(match tab f with | some (ps,sm)=>wpF (GG g tab n) hm ps sm args H Q X | none=>False):=h
      split at h
      · rename_i ps sm e
        obtain ⟨sc,body,D,htr⟩:=T.ok f ps sm e
        exact call_def Y D (htr (gg_ok GO n) ih hm) h K R HM I hv
      · exact h.elim
theorem call_top (Y:PmOk P) (B:BltOk P) (GO:GxOk P g) (T:TabOk P tab) {n:Nat} {f:Addr} {A:Around} (hA:A.frames = some []) (hh:A.handled = none) (R:RoomC (n + 1) A) {vals:List Value} {Q:QV} {H₀:Hp} {h:Heap} (hk:∀ b o,P.base.get? b = some o→h.get? b = some o) (hz:h.objs.size = P.base.objs.size) (hH:∀ a o,H₀ a = some o→(o.isRL = true∧Mt P P.base a o)∨(o = .tab∧P.base.get? a = none∧Mt P h a o))
    (q:(GG g tab (n + 1)).fn f false (vals.map er) H₀ Q (fun _ _=>False)) :
    codeAny P.M A (.call (.ref f) ⟨vals,[]⟩) (fun r s'=>∃ V H',r = .ok (.ret V)∧Q (er V) H'∧s'.gens = P.s₀.gens∧s'.os = P.s₀.os∧(∀ b o,P.base.get? b = some o→s'.heap.get? b = some o)∧∀ a o,H' a = some o→Mt P s'.heap a o) { P.s₀ with heap:=h }:=by
  have q:(match tab f with | some (ps,sm)=>wpF (GG g tab n) false ps sm (vals.map er) H₀ Q (fun _ _=>False) | none=>False):=q
  split at q
  · rename_i ps sm e
    obtain ⟨sc,body,D,htr⟩:=T.ok f ps sm e
    have hb:SS P (GG g tab n) n false sc body sm:=htr (gg_ok GO n) (gg_snd Y B GO T n) false
    obtain ⟨hlen,q⟩:=q
    obtain ⟨o,fd,d1,d2,d3,d4,d5,d6,d7,d8,dl,d9⟩:=D.at_
    have fine:=D.fine
    unfold scFine at fine
    simp only [Bool.and_eq_true,beq_iff_eq,Bool.not_eq_true',decide_eq_true_eq,List.all_eq_true,Bool.or_eq_true,bne_iff_ne,ne_eq] at fine
    obtain ⟨⟨⟨⟨⟨⟨f1,f2⟩,f3⟩,f4⟩,f5⟩,f6⟩,f7⟩:=fine
    have kd:∀ x,(callEnvC fd h.objs.size f).kindOf x = sc.names.lookup x:=fun x=>by show fd.scope.names.lookup x = _;rw [d5]
    have cl:∀ x,sc.names.lookup x = some .cell→∃ c,(callEnvC fd h.objs.size f).cells.lookup x = some c:=fun x hx=>by
      show ∃ c,(cellsFrom _ fd.scope.names []).lookup x = some c
      rw [d5];exact cells_lookup _ _ _ hx
    have nf:∀ x,sc.names.lookup x≠some .free:=fun x hx=>f5 _ (mem_of_lookup hx) rfl
    have d1':=hk _ _ d1
    have d3':h.CodeRec fd.code fd.qualname:=let ⟨c,oc,vs,tq,a1,a2,a3⟩:=d3;⟨c,oc,vs,tq,a1,hk _ _ a2,a3⟩
    refine codeAny_call_cells (binds:=ps.zip vals) R.deep d1' d2 (Y.lim.keeps hk) d3' d4 (d9 vals (by simpa using hlen.symm)) d6 (fun x hx=>?_) (fun s₁ x=>?_) (by rw [d5];exact f2) (by rw [d5];exact f3) (by rw [d5];exact f1)
    · have:=f6 x.1 (List.of_mem_zip (a:=x.1) (b:=x.2) hx).1
      rw [d5]
      rcases this with z | z
      · exact .inl z
      · obtain ⟨c,hc⟩:=cells_lookup (x:=x.1) sc.names (h.objs.size + 1) [] z
        exact .inr ⟨z,by rw [hc];rfl⟩
    · let F:Fm:={ env:=callEnvC fd h.objs.size f,A:=A.deeper (callEnvC fd h.objs.size f),g:=fun b=>P.base.get? b,fr:=fun _=>none,ro:=false }
      have nn:∀ b,h.objs.size≤b→P.base.get? b = none:=fun b hb=>Heap.get?_none_of_le (hz ▸ hb)
      have ab:∀ y c,(y,c)∈F.env.cells→h.objs.size < c:=x.above
      have K:FmOk P F:=by
        refine ⟨by show fd.scope.kind = _;rw [d5];exact f1,d7,d8,fun b o e=>e,Nat.le_of_eq hz.symm,nn _ (Nat.le_refl _),rfl,fun y c hm=>Nat.ne_of_gt (ab y c hm),fun _ y c hm=>⟨nn c (Nat.le_of_lt (ab y c hm)),rfl⟩,x.apart,
          fun y c hm=>lookup_of_mem (cells_names _ _ _ (by rw [d5];exact f4) .nil (by simp)) hm,fun _ _ _=>rfl,fun b d e=>(nomatch e), ?_,fun a e=>(nomatch e),fun c T hl hk=>dl c T hl ((kd lamX).symm.trans hk)⟩
        refine ⟨F.env,[], ?_,fun _=>⟨rfl,rfl⟩,fun e he=>?_⟩
        · show A.frames.map _ = _
          rw [hA];rfl
        · rcases List.mem_cons.mp he with rfl | he
          · exact ⟨by show fd.scope.kind≠_;rw [d5,f1];decide,_,rfl, .inl rfl⟩
          · cases he
      have S:ScOk sc F:=by
        refine ⟨fun y hy=>?_,fun y hy=>?_,fun y hy=>(kd y).trans hy,fun y hy=>⟨(kd y).trans hy,cl y hy⟩⟩
        · unfold isLoc at hy
          split at hy
          · rename_i e;exact .inl ((kd y).trans e)
          · rename_i e;exact .inr ⟨.inl ((kd y).trans e),cl y e⟩
          · rename_i e;exact absurd e (nf y)
          · split at hy <;> cases hy
          · cases hy
        · unfold isLoc at hy
          split at hy
          · split at hy <;> cases hy
          · split at hy <;> cases hy
          · split at hy <;> cases hy
          · rename_i e;exact (kd y).trans e
          · cases hy
      have I:Inv P F (fun y=>(ps.zip (vals.map er)).lookup y) H₀ s₁:=by
        obtain ⟨⟨⟨h2,tk,rfl⟩,ns,keep,fresh⟩,cell,apart,above⟩:=x
        refine ⟨rfl,rfl,fun b o e=>keep b o (hk b o e),fun b d e=>(nomatch e),⟨_,ns,fun y v hy hk=>((bindL_get hk ps vals _ f7 v).1 hy)⟩,fun y c e=>⟨_,cell y c e,fun v hy hk=>((bindC_get (fun q=>?_) ps vals _ f7 v).1 hy)⟩,fun a o e=>?_,fun a o e=>?_,fun a o e=>?_⟩
        · have hk:(callEnvC fd h.objs.size f).kindOf y = some .cell∨(callEnvC fd h.objs.size f).kindOf y = some .free:=hk
          rw [q] at hk;simp at hk
        · rcases hH a o e with ⟨_,z⟩ | ⟨_,_,z⟩
          · obtain ⟨O,ho⟩:=z.some
            exact z.congr ((keep a O (hk a O ho)).trans ho.symm)
          · obtain ⟨O,ho⟩:=z.some
            exact z.congr ((keep a O ho).trans ho.symm)
        · rcases hH a o e with ⟨hr,z⟩ | ⟨rfl,hn,z⟩
          · cases o <;> first | exact z.some | cases hr
          · have lt:a < h.objs.size:=let ⟨_,ho⟩:=z.some;Heap.lt_size ho
            exact ⟨hn,rfl,Nat.ne_of_lt lt,fun y c hm=>Nat.ne_of_lt (Nat.lt_trans lt (above y c hm))⟩
        · rcases hH a o e with ⟨hr,_⟩ | ⟨rfl,_⟩
          · cases o <;> first | trivial | cases hr
          · trivial
      refine wpAny_mono (hb K S ⟨?_, ?_⟩ ⟨.inl hh,fun _=>hh⟩ rfl I q) (fun fl s' z=>?_) fun EV s' z=>?_
      · show A.depth + 1 + 2 * n + 2 < _
        exact R.in1
      · show A.units + 3 + 30 * n + 200 < _
        exact R.in2
      · obtain ⟨l2,H2,I2,z⟩:=z
        cases fl with
        | next=>exact ⟨_,H2,rfl,z,I2.gens,I2.os,I2.keep,I2.objs⟩
        | brk=>exact z.elim
        | cont=>exact z.elim
        | ret v=>exact ⟨_,H2,rfl,z,I2.gens,I2.os,I2.keep,I2.objs⟩
      · obtain ⟨_,_,_,_,_,_,_,z⟩:=z
        exact z.elim
  · exact q.elim
end
end Mine
end

section
open PySem PyProof.Rows PySem.Calls
open PySem.W (Frag nsIn mg_of ns_none_of findIn plainGet hasDictIn isFn plainOver takerIn makesIn subIn mroIn clsIn typeIn findObj excIn keepIn codeIn codeRec_of own_of_in TopRead)
namespace Mine
noncomputable def excOk (K:Frag) (names:List Str) (C:Addr):Bool :=
  findIn K (.ref C) "__getattribute__" == some (some (.builtin "BaseException.__getattribute__")) && findIn K (.ref C) "__getattr__" == some none &&
  (match findObj K C none "__class__" with | some (.bind g a)=>g == .builtin "getset_descriptor.__get__" && a == .builtin "object.__class__" | _=>false) &&
  mroIn K C (.type "object") == some true && mroIn K C (.type "BaseException") == some true && (clsIn K C).isSome && typeIn K (.ref C) == some (.type "type") && subIn K (.ref C) (.type "ValueError") == some true &&
  subIn K (.ref C) (.ref C) == some true && excIn K C veMro "ValueError.__new__" && names.any fun x=>nsIn K mainGlobals x == some (some (.ref C))
noncomputable def gOf (K:Frag) (names:List Str):Gx where
  glob:=fun x=>match nsIn K mainGlobals x with | some (some v)=>some (er v) | _=>none
  fn:=fun _ _ _ _ _ _=>False
  meth:=fun C m=>match findIn K (.ref C) m with | some (some (.ref f))=>if plainGet K C m && isFn K (.ref f) then some f else none | _=>none
  init:=fun C=>match findIn K (.ref C) "__init__" with | some (some (.ref f))=>if makesIn K C && isFn K (.ref f) && keepIn K (.ref C) then some f else none | _=>none
  isExc:=excOk K names
  sub:=fun C D=>subIn K (.ref C) (.ref D) == some true
  fld:=fun C a=>plainGet K C a && hasDictIn K C && findIn K (.ref C) a == some none && findIn K (.ref C) "__setattr__" == some (some (.builtin "object.__setattr__")) && plainOver K C && takerIn K C a == some none
theorem g_ok {P:Pm} {names:List Str} {p:Program} {loose:List Str} (Y:PmOk P) (T:TopRead p loose P.mg P.mb P.base):GxOk P (gOf P.K names):=by
  refine ⟨fun x v h=>?_,fun C a h=>?_,fun C m f h=>?_,fun C f h=>?_,fun C h=>?_,fun C D h _=>?_,fun C h=>?_,fun C h=>?_⟩
  · have h:(match nsIn P.K mainGlobals x with | some (some v)=>some (er v) | _=>none) = some v:=h
    split at h
    · rename_i V e
      cases h
      exact ⟨V,rfl, .inl (mg_of Y.kin T.g e)⟩
    · cases h
  · simp only [gOf,Bool.and_eq_true,beq_iff_eq] at h
    obtain ⟨⟨⟨⟨⟨h1,h2⟩,h3⟩,h4⟩,h5⟩,h6⟩:=h
    exact ⟨h1,h2,h3,h4,h5,h6⟩
  · have h:(match findIn P.K (.ref C) m with | some (some (.ref f))=>if plainGet P.K C m && isFn P.K (.ref f) then some f else none | _=>none) = some f:=h
    split at h
    · rename_i f' e
      split at h
      · rename_i q
        simp only [Bool.and_eq_true] at q
        cases h
        exact ⟨q.1,e,q.2⟩
      · cases h
    · cases h
  · have h:(match findIn P.K (.ref C) "__init__" with | some (some (.ref f))=>if makesIn P.K C && isFn P.K (.ref f) && keepIn P.K (.ref C) then some f else none | _=>none) = some f:=h
    split at h
    · rename_i f' e
      split at h
      · rename_i q
        simp only [Bool.and_eq_true] at q
        cases h
        exact ⟨q.1.1,e,q.1.2,q.2⟩
      · cases h
    · cases h
  · have h:excOk P.K names C = true:=h
    unfold excOk at h
    simp only [Bool.and_eq_true,beq_iff_eq] at h
    obtain ⟨⟨⟨⟨⟨⟨⟨⟨⟨⟨h1,h2⟩,h3⟩,h4⟩,h5⟩,h6⟩,h7⟩,h8⟩,h9⟩,h10⟩,h11⟩:=h
    refine ⟨h1,h2, ?_,h4,h5,h6,h7,h8⟩
    split at h3
    · rename_i g a e
      simp only [Bool.and_eq_true,beq_iff_eq] at h3
      rw [e,h3.1,h3.2]
    · cases h3
  · have h:excOk P.K names C = true:=h
    unfold excOk at h
    simp only [Bool.and_eq_true,beq_iff_eq] at h
    obtain ⟨⟨⟨⟨⟨⟨⟨⟨⟨⟨h1,h2⟩,h3⟩,h4⟩,h5⟩,h6⟩,h7⟩,h8⟩,h9⟩,h10⟩,h11⟩:=h
    show subIn P.K (.ref C) (.ref D) = some (subIn P.K (.ref C) (.ref D) == some true)
    show mroIn P.K C (.ref D) = some (mroIn P.K C (.ref D) == some true)
    unfold mroIn at h4 ⊢
    obtain ⟨cd,hc,h4⟩:=Option.bind_eq_some_iff.mp h4
    rw [hc]
    simp only [Option.bind_some]
    split at h4
    · cases h4
    · rename_i q
      rw [if_neg q]
      cases cd.mro.contains (Value.ref D) <;> rfl
  · have h:excOk P.K names C = true:=h
    unfold excOk at h
    simp only [Bool.and_eq_true,beq_iff_eq] at h
    obtain ⟨⟨⟨⟨⟨⟨⟨⟨⟨⟨h1,h2⟩,h3⟩,h4⟩,h5⟩,h6⟩,h7⟩,h8⟩,h9⟩,h10⟩,h11⟩:=h
    exact beq_iff_eq.mpr h9
  · have h:excOk P.K names C = true:=h
    unfold excOk at h
    simp only [Bool.and_eq_true] at h
    obtain ⟨⟨_,h10⟩,h11⟩:=h
    obtain ⟨x,_,hx⟩:=List.any_eq_true.mp h11
    exact (own_of_in Y.kin T (beq_iff_eq.mp hx) h10).obj
noncomputable def bltNames:List Str:=["len", "isinstance", "list", "tuple", "sorted", "dict", "int", "all", "max", "min", "range", "str", "bool", "ValueError", "set"]
theorem blt_mem {x:Str} {v:Value} (h:bltTab x = some v):x∈bltNames∧bootBuiltins x = some v∧x≠"__name__" := by
  have hm:(x,v)∈bltL:=mem_of_lookup h
  have:=List.all_eq_true.1 (show (bltL.all fun p=>bltNames.contains p.1 && bootBuiltins p.1 == some p.2 && p.1 != "__name__") = true by decide +kernel) _ hm
  simp only [Bool.and_eq_true,beq_iff_eq,bne_iff_ne,List.contains_iff_mem] at this
  exact ⟨this.1.1,this.1.2,this.2⟩
theorem blt_ok {P:Pm} {p:Program} {loose:List Str} (Y:PmOk P) (T:TopRead p loose P.mg P.mb P.base) (h:bltNames.all (fun x=>nsIn P.K mainGlobals x == some none) = true):BltOk P:=by
  refine ⟨fun x v hx=>?_⟩
  obtain ⟨h1,h2,h3⟩:=blt_mem hx
  have:=List.all_eq_true.mp h x h1
  exact ⟨ns_none_of Y.kin T.g (beq_iff_eq.mp this),(T.builtins x h3).trans h2⟩
theorem tab_mem {α:Type} {a:Addr} {b:α}:∀ {l:List (Addr×α)},l.lookup a = some b→(a,b)∈l
  | [],h=>by cases h
  | (c,d) :: r,h=>by
    rw [List.lookup_cons] at h
    split at h
    · rename_i e
      cases h
      have:a = c:=by simpa using e
      rw [this];exact .head _
    · exact .tail _ (tab_mem h)
theorem fn_at {P:Pm} {f:Addr} {o:Obj} {fd:FuncData} {ps:List Str} {body:List Stmt} (Y:PmOk P) (h1:P.K.lookup f = some o) (h2:o.data = .func fd) (h3:codeIn P.K fd.code fd.qualname = true) (h4:fd.body = .stmts body) (h5:fd.closure = []) (h6:fd.globals = mainGlobals) (h7:fd.builtins = builtinsNs)
    (h8:∀ vals,vals.length = ps.length→bindArgs fd ⟨vals,[]⟩ = pure (ps.zip vals)) (h9:scFine fd.scope ps = true) (h10:keepIn P.K (.ref f) = true) (h11:∀ c T,P.lam = some (c,T)→fd.scope.names.lookup lamX = some .local→fd.code = .ref c):FnAt P f ps fd.scope body :=
  ⟨⟨o,fd,Y.kin _ _ h1,h2,codeRec_of Y.kin h3,h4,rfl,h5,h6,h7,h11,h8⟩,h9,h10⟩
noncomputable def RowOk (P:Pm) (e:Addr×(List Str×List Sm)):Prop:=∃ sc body,FnAt P e.1 e.2.1 sc body∧∀ {G:Gx} {n:Nat},GxOk P G→SndFn P G n→∀ hm,SS P G n hm sc body e.2.2
inductive RowsOk (P:Pm):List (Addr×(List Str×List Sm))→Prop where
  | nil:RowsOk P []
  | cons {e:Addr×(List Str×List Sm)} {r:List (Addr×(List Str×List Sm))}:RowOk P e→RowsOk P r→RowsOk P (e :: r)
theorem RowsOk.mem {P:Pm} {L:List (Addr×(List Str×List Sm))} (h:RowsOk P L):∀ {e},e∈L→RowOk P e:=by
  induction h with
  | nil=>intro e h;cases h
  | cons h1 _ ih =>
    intro e h
    cases h with
    | head=>exact h1
    | tail _ h=>exact ih h
theorem tabOk_of {P:Pm} {L:List (Addr×(List Str×List Sm))} (h:RowsOk P L):TabOk P (fun f=>L.lookup f):=⟨fun _ _ _ e=>h.mem (tab_mem e)⟩
end Mine
end

section
open PySem PyProof.Rows PySem.Calls
open PySem.W (Frag nsIn mg_of TopRead)
namespace Mine
theorem len63 {n:Nat} (h:¬ (63:Int) < (n:Int)):n≤63:=Int.ofNat_le.1 (Int.not_lt.1 h)
noncomputable def hOfT (a T:Addr) (ns:List Int):Hp:=fun b=>if b = a then some (.rlist (ns.map fun n=>Value.int n 0)) else if b = T then some .tab else none
noncomputable def LawTellsT (K:Params→Frag) (names:List Str) (tab:Tab) (f T:Addr):Prop :=
  ∀ (p:Params) (a:Addr) (ns:List Int),a≠T→ns.length≤63→(GG (gOf (K p) names) tab 13).fn f false [.ref a] (hOfT a T ns) (fun v H=>v = .bool true∧H T = some .tab) (fun _ _=>False)
theorem law_runsT {prog vp:Program} {w:World} {s:Shared} {mg mb:Str→Option Value} {mean:ExcName→Option Value} {K:Params→Frag} {names loose:List Str} {tab:Tab} {f fa a c T:Addr} {nm:Str} {vs:List Value} {ns:List Int} {Q:Value→Shared→Prop} {E:Value→Shared→Prop}
    (KX:(K w.params).In s.heap) (Tp:Top vp loose mean mg mb s.heap) (hT:s.heap.get? T = some (PySem.W.tabObj #[])) (hc:PySem.W.codeHdIn (K w.params) c T = true) (hnt:PySem.W.noTabs (K w.params) = true) (hmg:mg nm = some (.ref fa)) (hf:nsIn (K w.params) mainGlobals nm = some (some (.ref f))) (hb:bltNames.all (fun x=>nsIn (K w.params) mainGlobals x == some none) = true)
    (TO:∀ {P:Pm},PmOk P→BltOk P→P.K = K P.w.params→P.lam = some (c,T)→TabOk P tab) (hL:s.heap.IsList a vs.toArray) (hI:IntsAre vs ns) (hl:¬ (63:Int) < (ns.length:Int)) (law:LawTellsT K names tab f T)
    (q:∀ s',s'.gens = s.gens→s'.os = s.os→(∀ b o,b≠T→s.heap.get? b = some o→s'.heap.get? b = some o)→(∃ ps,s'.heap.get? T = some (PySem.W.tabObj ps))→Q (.bool true) s') :
    wpAny (model prog w) callerA (call (.ref fa) [.ref a]) Q E s:=by
  have TA:PySem.W.TabsAt [(c,T)] s.heap:=fun z hz=>by
    rw [List.mem_singleton.1 hz]
    exact ⟨PySem.W.codeHd_of_K KX hc,hT⟩
  have KG:=PySem.W.ghost_K TA KX hnt
  have TG:=PySem.W.ghost_top TA Tp
  let P:Pm:={ prog:=prog,w:=w,s₀:={ s with heap:=PySem.W.ghostOf s.heap [(c,T)] },mg:=mg,mb:=mb,K:=K w.params,lam:=some (c,T) }
  have hN:(PySem.W.ghostOf s.heap [(c,T)]).get? T = none:=PySem.W.hideAll_none _ (.head _)
  have hG:∀ b o,b≠T→s.heap.get? b = some o→(PySem.W.ghostOf s.heap [(c,T)]).get? b = some o:=fun b o hb e=>PySem.W.ghost_ne e fun z=>hb (List.mem_singleton.1 z)
  have CH:=PySem.W.ghost_code TA
  have Y:PmOk P:=⟨TG.g,TG.b,TG.nolimit,KG,fun c' T' e=>by
    cases e
    obtain ⟨bm,ob,b1,b2,b3,b4,b5,b6⟩:=TG.bmain
    refine ⟨CH.1,bm,ob,b1,b2,fun z=>?_,fun z=>?_,b3,b4,b5,b6⟩
    · obtain ⟨o,es,ep,e,hd,_⟩:=TG.g
      rw [z,e] at b3;cases b3;rw [hd] at b6;cases b6
    · rw [z,hN] at b3;cases b3⟩
  have T':TopRead _ _ P.mg P.mb P.base:=PySem.W.topRead_of TG
  have GO:GxOk P (gOf P.K names):=g_ok Y T'
  have na:a≠T:=fun z=>by
    obtain ⟨o,e,hcl,_⟩:=hL
    rw [z,hT] at e;cases e;cases hcl
  have hH:∀ b o,hOfT a T ns b = some o→(o.isRL = true∧Mt P P.base b o)∨(o = .tab∧P.base.get? b = none∧Mt P s.heap b o):=fun b o h=>by
    unfold hOfT at h
    split at h
    · rename_i e
      cases h
      subst e
      exact .inl ⟨rfl,vs.toArray,PySem.W.ghost_list TA hL,seq_ints hI,by simp;exact Nat.le_trans (len63 hl) (by decide)⟩
    · split at h
      · rename_i e
        cases h
        subst e
        exact .inr ⟨rfl,hN,c,#[],rfl,hT,trivial⟩
      · cases h
  have B:BltOk P:=blt_ok Y T' hb
  have e:fa = f:=by
    have:=mg_of KX Tp.g hf
    rw [hmg] at this
    cases this;rfl
  subst e
  have L:=law w.params a ns na (len63 hl)
  refine wpAny_call (codeAny_mono (call_top (P:=P) Y B GO (TO Y B rfl rfl) (n:=12) rfl rfl ?_ (vals:=[.ref a]) (h:=s.heap) (fun b o e=>PySem.W.of_hideAll _ e) (PySem.W.hideAll_size _ _).symm hH L) fun r s' z=>?_)
  · exact ⟨by decide,by decide⟩
  · obtain ⟨V,H',rfl,⟨hV,hT'⟩,h1,h2,h3,h4⟩:=z
    have:=er_bool hV
    subst this
    obtain ⟨c',ps,_,e,_⟩:=h4 _ _ hT'
    exact q s' h1 h2 (fun b o hb e=>h3 b o (hG b o hb e)) ⟨ps,e⟩
end Mine
end

section
open PySem PyProof.Rows PySem.Calls PySem.W
namespace Mine
section
variable {P:Pm} {lam:Option (Addr×Addr)} {K:List (Addr×Obj)} {f:Addr} {fd:FuncData} {body:List Stmt} {b:List Sm} {x y z u v:Str}
noncomputable def lamOk (lam:Option (Addr×Addr)) (fd:FuncData):Bool:=match lam with
  | some (c,_)=>fd.scope.names.lookup lamX != some .local || fd.code == .ref c
  | none=>true
theorem row_of {ps:List Str} (Y:PmOk P) (hK:P.K = K) (hl:P.lam = lam) (h1:K.lookup f = some { cls:=.type "function",data:=.func fd }) (h2:fd.body = .stmts body) (h3:(codeIn K fd.code fd.qualname && scFine fd.scope ps && keepIn K (.ref f) && lamOk lam fd) = true) (h5:fd.closure = []∧fd.globals = mainGlobals∧fd.builtins = builtinsNs)
    (d:∀ {G:Gx} {n:Nat},GxOk P G→SndFn P G n→∀ hm,SS P G n hm fd.scope body b) (h8:∀ vals,vals.length = ps.length→bindArgs fd ⟨vals,[]⟩ = pure (ps.zip vals)):RowOk P (f,(ps,b)):=by
  subst hK
  obtain ⟨h3,h9⟩:=Bool.and_eq_true_iff.1 h3
  have h3:=Bool.and_eq_true_iff.1 h3
  have h4:=Bool.and_eq_true_iff.1 h3.1
  refine ⟨_,_,fn_at Y h1 rfl h4.1 h2 h5.1 h5.2.1 h5.2.2 h8 h4.2 h3.2 fun c T e hk=>?_,d⟩
  rw [← hl,e] at h9
  have h9:(fd.scope.names.lookup lamX != some .local || fd.code == .ref c) = true:=h9
  rw [hk] at h9
  exact beq_iff_eq.1 h9
theorem row1 (Y:PmOk P) (hK:P.K = K) (hl:P.lam = lam) (h1:K.lookup f = some { cls:=.type "function",data:=.func fd }) (h2:fd.body = .stmts body) (h3:(codeIn K fd.code fd.qualname && scFine fd.scope [x] && keepIn K (.ref f) && lamOk lam fd) = true) (h5:fd.closure = []∧fd.globals = mainGlobals∧fd.builtins = builtinsNs)
    (d:∀ {G:Gx} {n:Nat},GxOk P G→SndFn P G n→∀ hm,SS P G n hm fd.scope body b) (h8:∀ a,bindArgs fd ⟨[a],[]⟩ = pure [(x,a)]):RowOk P (f,([x],b)) :=
  row_of Y hK hl h1 h2 h3 h5 d fun vals h=>by obtain ⟨a,rfl⟩:=len1 h;exact h8 a
theorem row2 (Y:PmOk P) (hK:P.K = K) (hl:P.lam = lam) (h1:K.lookup f = some { cls:=.type "function",data:=.func fd }) (h2:fd.body = .stmts body) (h3:(codeIn K fd.code fd.qualname && scFine fd.scope [x,y] && keepIn K (.ref f) && lamOk lam fd) = true) (h5:fd.closure = []∧fd.globals = mainGlobals∧fd.builtins = builtinsNs)
    (d:∀ {G:Gx} {n:Nat},GxOk P G→SndFn P G n→∀ hm,SS P G n hm fd.scope body b) (h8:∀ a c,bindArgs fd ⟨[a,c],[]⟩ = pure [(x,a),(y,c)]):RowOk P (f,([x,y],b)) :=
  row_of Y hK hl h1 h2 h3 h5 d fun vals h=>by obtain ⟨a,c,rfl⟩:=len2 h;exact h8 a c
theorem row3 (Y:PmOk P) (hK:P.K = K) (hl:P.lam = lam) (h1:K.lookup f = some { cls:=.type "function",data:=.func fd }) (h2:fd.body = .stmts body) (h3:(codeIn K fd.code fd.qualname && scFine fd.scope [x,y,z] && keepIn K (.ref f) && lamOk lam fd) = true) (h5:fd.closure = []∧fd.globals = mainGlobals∧fd.builtins = builtinsNs)
    (d:∀ {G:Gx} {n:Nat},GxOk P G→SndFn P G n→∀ hm,SS P G n hm fd.scope body b) (h8:∀ a c e,bindArgs fd ⟨[a,c,e],[]⟩ = pure [(x,a),(y,c),(z,e)]):RowOk P (f,([x,y,z],b)) :=
  row_of Y hK hl h1 h2 h3 h5 d fun vals h=>by obtain ⟨a,c,e,rfl⟩:=len3 h;exact h8 a c e
theorem row4 (Y:PmOk P) (hK:P.K = K) (hl:P.lam = lam) (h1:K.lookup f = some { cls:=.type "function",data:=.func fd }) (h2:fd.body = .stmts body) (h3:(codeIn K fd.code fd.qualname && scFine fd.scope [x,y,z,u] && keepIn K (.ref f) && lamOk lam fd) = true) (h5:fd.closure = []∧fd.globals = mainGlobals∧fd.builtins = builtinsNs)
    (d:∀ {G:Gx} {n:Nat},GxOk P G→SndFn P G n→∀ hm,SS P G n hm fd.scope body b) (h8:∀ a c e g,bindArgs fd ⟨[a,c,e,g],[]⟩ = pure [(x,a),(y,c),(z,e),(u,g)]):RowOk P (f,([x,y,z,u],b)) :=
  row_of Y hK hl h1 h2 h3 h5 d fun vals h=>by obtain ⟨a,c,e,g,rfl⟩:=len4 h;exact h8 a c e g
theorem row5 (Y:PmOk P) (hK:P.K = K) (hl:P.lam = lam) (h1:K.lookup f = some { cls:=.type "function",data:=.func fd }) (h2:fd.body = .stmts body) (h3:(codeIn K fd.code fd.qualname && scFine fd.scope [x,y,z,u,v] && keepIn K (.ref f) && lamOk lam fd) = true) (h5:fd.closure = []∧fd.globals = mainGlobals∧fd.builtins = builtinsNs)
    (d:∀ {G:Gx} {n:Nat},GxOk P G→SndFn P G n→∀ hm,SS P G n hm fd.scope body b) (h8:∀ a c e g i,bindArgs fd ⟨[a,c,e,g,i],[]⟩ = pure [(x,a),(y,c),(z,e),(u,g),(v,i)]):RowOk P (f,([x,y,z,u,v],b)) :=
  row_of Y hK hl h1 h2 h3 h5 d fun vals h=>by obtain ⟨a,c,e,g,i,rfl⟩:=len5 h;exact h8 a c e g i
end
end Mine
end

section
open PySem PyProof.Rows
namespace Mine
theorem lo60 (k:Nat):-2 ^ 60 < (k:Int):=Int.lt_of_lt_of_le (by decide) (Int.natCast_nonneg k)
theorem up60 {k:Nat} (h:k < 2 ^ 60):(k:Int) < 2 ^ 60:=Int.lt_of_lt_of_le (Int.ofNat_lt.2 h) (by decide)
theorem rsize_nat (n:Nat):Builtin.Range.rangeSize 0 (n:Int) 1 = n:=by
  unfold Builtin.Range.rangeSize
  rw [if_pos (by decide)]
  split
  · rw [Int.sub_zero,Int.ediv_one,Int.sub_add_cancel]
  · exact Int.le_antisymm (Int.natCast_nonneg _) (Int.not_lt.1 ‹_›)
theorem rangeL_nat (n:Nat):rangeL 0 (n:Int) 1 = (List.range n).map fun (k:Nat)=>Value.int (k:Int) 0:=by
  unfold rangeL
  rw [rsize_nat]
  refine List.map_congr_left fun k _=>?_
  congr 1;rw [Int.mul_one,Int.zero_add]
theorem small_nat {n:Nat} (h:n < 2 ^ 60):Builtin.Range.small 0 (n:Int) 1 = true:=by
  unfold Builtin.Range.small
  rw [rsize_nat]
  simp [Builtin.Range.rangeFitsLong]
  have q:(n:Int) < 9223372036854775808:=Int.ofNat_lt.2 (Nat.lt_trans h (by decide))
  exact ⟨q, .inr q⟩
theorem forG_ind {guard:Hp→Prop} {x:Str} {body:Loc→Hp→QS→Prop} {Q:QS} (I:Nat→Loc→Hp→Prop) {f:Nat→Value} :
    ∀ (m k:Nat),(∀ i l H,I i l H→guard H) →
    (∀ i,k≤i→i < k + m→∀ l H,I i l H→∀ K:QS,(∀ l' H',I (i + 1) l' H'→K .next l' H'∧K .cont l' H')→(∀ r l' H',Q (.ret r) l' H'→K (.ret r) l' H')→body (l.upd x (f i)) H K) →
    (∀ l H,I (k + m) l H→Q .next l H)→∀ l H,I k l H→forG guard x body ((List.range' k m).map f) l H Q
  | 0,k,hg,_,hq,l,H,h=>⟨hg _ _ _ h,hq _ _ h⟩
  | m + 1,k,hg,hb,hq,l,H,h=>by
    refine ⟨hg _ _ _ h,hb k (Nat.le_refl _) (Nat.lt_add_of_pos_right (Nat.succ_pos m)) l H h _ (fun l' H' h'=>?_) fun r l' H' q=>q⟩
    have ih:=forG_ind (guard:=guard) (x:=x) (body:=body) (Q:=Q) I (f:=f) m (k + 1) hg (fun i h1 h2=>hb i (Nat.le_of_succ_le h1) (Nat.succ_add_eq_add_succ k m ▸ h2)) (fun l H h=>hq l H (by rw [show k + (m + 1) = k + 1 + m from (Nat.succ_add_eq_add_succ k m).symm];exact h)) l' H' h'
    exact ⟨ih,ih⟩
theorem forG_range {guard:Hp→Prop} {x:Str} {body:Loc→Hp→QS→Prop} {Q:QS} (I:Nat→Loc→Hp→Prop) {n:Nat} {l:Loc} {H:Hp}
    (hg:∀ i l H,I i l H→guard H)
    (hb:∀ i,i < n→∀ l H,I i l H→∀ K:QS,(∀ l' H',I (i + 1) l' H'→K .next l' H'∧K .cont l' H')→(∀ r l' H',Q (.ret r) l' H'→K (.ret r) l' H')→body (l.upd x (.int (i:Int) 0)) H K)
    (hq:∀ l H,I n l H→Q .next l H) (h:I 0 l H):forG guard x body (rangeL 0 (n:Int) 1) l H Q:=by
  rw [rangeL_nat,List.range_eq_range']
  exact forG_ind I (f:=fun (k:Nat)=>Value.int (k:Int) 0) n 0 hg (fun i _ h2=>hb i (Nat.zero_add n ▸ h2)) (fun l H h=>hq l H (by rw [Nat.zero_add] at h;exact h)) l H h
end Mine
namespace Mine
noncomputable def Ls (l:Loc):List (Str×Value)→Prop
  | []=>True
  | (x,v) :: r=>l x = some v∧Ls l r
section
variable {K:Type} [DecidableEq K]
end
theorem perm_eq {xs ys:List Int} (h:xs.Perm ys) (hx:xs.Pairwise (·≤·)) (hy:ys.Pairwise (·≤·)):xs = ys:=h.eq_of_pairwise (fun a b _ _ h1 h2=>Int.le_antisymm h1 h2) hx hy
end Mine
namespace Mine
theorem forG_list {guard:Hp→Prop} {x:Str} {body:Loc→Hp→QS→Prop} {Q:QS} (I:List Value→Loc→Hp→Prop) (hg:∀ r l H,I r l H→guard H)
    (hb:∀ v r l H,I (v :: r) l H→∀ K:QS,(∀ l' H',I r l' H'→K .next l' H'∧K .cont l' H')→(∀ ρ l' H',Q (.ret ρ) l' H'→K (.ret ρ) l' H')→body (l.upd x v) H K)
    (hq:∀ l H,I [] l H→Q .next l H):∀ (xs:List Value) (l:Loc) (H:Hp),I xs l H→forG guard x body xs l H Q
  | [],l,H,h=>⟨hg _ _ _ h,hq _ _ h⟩
  | v :: r,l,H,h=>⟨hg _ _ _ h,hb v r l H h _ (fun l' H' h'=>⟨forG_list I hg hb hq r l' H' h',forG_list I hg hb hq r l' H' h'⟩) fun _ _ _ q=>q⟩
theorem compG_list {guard:Hp→Prop} {step:Value→Hp→(Option Value→Hp→Prop)→Prop} {k:List Value→Hp→Prop} (I:List Value→List Value→Hp→Prop) (hg:∀ r acc H,I r acc H→guard H)
    (hb:∀ v r acc H,I (v :: r) acc H→∀ K:Option Value→Hp→Prop,(∀ u H',(match u with | some u=>I r (acc++[u]) H' | none=>I r acc H')→K u H')→step v H K)
    (hk:∀ acc H,I [] acc H→k acc H):∀ (xs acc:List Value) (H:Hp),I xs acc H→compG guard step xs acc H k
  | [],acc,H,h=>⟨hg _ _ _ h,hk _ _ h⟩
  | v :: r,acc,H,h=>⟨hg _ _ _ h,hb v r acc H h _ fun u H' h'=>by
      cases u with
      | none=>exact compG_list I hg hb hk r acc H' h'
      | some u=>exact compG_list I hg hb hk r (acc++[u]) H' h'⟩
end Mine
namespace Mine
end Mine
end

section
open PySem PyProof.Rows
namespace Mine
structure Ev (G:Gx) (hm:Bool) (e:Ex) (l:Loc) (H:Hp) (v:Value):Prop where
  run:∀ (Q:QV) (X:XV),Q v H→wpE G hm e l H Q X
structure EvL (G:Gx) (hm:Bool) (es:List Ex) (l:Loc) (H:Hp) (vs:List Value):Prop where
  run:∀ (Q:List Value→Hp→Prop) (X:XV),Q vs H→wpEs G hm es l H Q X
section
variable {G:Gx} {hm:Bool} {l:Loc} {H:Hp}
theorem some_at {α:Type} {o:Option α} {v:α} {k:α→Prop} (h:o = some v) (q:k v):onSome o k:=by subst h;exact q
theorem ev_none:Ev G hm .none l H .none:=.mk fun _ _ q=>q
theorem ev_bool {b:Bool}:Ev G hm (.bool b) l H (.bool b):=.mk fun _ _ q=>q
theorem ev_int {i:Int}:Ev G hm (.int i) l H (.int i 0):=.mk fun _ _ q=>q
theorem ev_str {x:Str}:Ev G hm (.str x) l H (.str x 0):=.mk fun _ _ q=>q
theorem ev_loc {x:Str} {v:Value} (h:l x = some v):Ev G hm (.loc x) l H v:=.mk fun _ _ q=>some_at h q
theorem ev_glob {x:Str} {v:Value} (h:G.glob x = some v):Ev G hm (.glob x) l H v:=.mk fun _ _ q=>some_at h q
noncomputable def nb:Value→Bool
  | .builtin _=>false
  | _=>true
theorem attr_at {x d C:Addr} {a:Str} {Q:QV} {kvs:List (Str×Value)} {v:Value} (hi:H x = some (.inst C d)) (hn:H d = some (.ns kvs)) (hf:G.fld C a = true) (hv:valueAt kvs a = some v) (hb:nb v = true) (q:Q v H):attrV G (.ref x) a H Q:=by
  conv=>whnf
  rw [hi]
  conv=>whnf
  rw [hn]
  refine ⟨hf, ?_⟩
  rw [hv]
  cases v <;> first | exact q | cases hb
theorem ev_attr {o:Ex} {x d C:Addr} {a:Str} {kvs:List (Str×Value)} {v:Value} (ho:Ev G hm o l H (.ref x)) (hi:H x = some (.inst C d)) (hn:H d = some (.ns kvs)) (hf:G.fld C a = true) (hv:valueAt kvs a = some v) (hb:nb v = true):Ev G hm (.attr o a) l H v :=
  .mk fun Q X q=>ho.run (fun v H1=>attrV G v a H1 Q) X (attr_at hi hn hf hv hb q)
section
variable {x y:Ex} {a b:Int} {t u:Tok}
theorem ev_bin {op:Operator} {v w r:Value} (hx:Ev G hm x l H v) (hy:Ev G hm y l H w) (h:∀ Q:QV,Q r H→binV op v w H Q):Ev G hm (.bin op x y) l H r :=
  .mk fun Q X q=>hx.run (fun a H1=>wpE G hm y l H1 (fun b H2=>binV op a b H2 Q) X) X (hy.run (fun b H2=>binV op v b H2 Q) X (h Q q))
theorem ev_add (hx:Ev G hm x l H (.int a t)) (hy:Ev G hm y l H (.int b u)):Ev G hm (.bin .Add x y) l H (.int (a + b) 0):=ev_bin hx hy fun _ q=>q
theorem ev_sub (hx:Ev G hm x l H (.int a t)) (hy:Ev G hm y l H (.int b u)):Ev G hm (.bin .Sub x y) l H (.int (a - b) 0):=ev_bin hx hy fun _ q=>q
theorem ev_mul (hx:Ev G hm x l H (.int a t)) (hy:Ev G hm y l H (.int b u)) (h:a.natAbs < 2 ^ 63∨b.natAbs < 2 ^ 63):Ev G hm (.bin .Mult x y) l H (.int (a * b) 0):=ev_bin hx hy fun _ q=>⟨h,q⟩
theorem ev_div (hx:Ev G hm x l H (.int a t)) (hy:Ev G hm y l H (.int b u)) (h:0 < b) (h2:b < 2 ^ 63):Ev G hm (.bin .FloorDiv x y) l H (.int (a / b) 0):=ev_bin hx hy fun _ q=>⟨h,h2,q⟩
theorem ev_mod (hx:Ev G hm x l H (.int a t)) (hy:Ev G hm y l H (.int b u)) (h:0 < b):Ev G hm (.bin .Mod x y) l H (.int (a % b) 0):=ev_bin hx hy fun _ q=>⟨h,q⟩
theorem ev_pow (hx:Ev G hm x l H (.int a t)) (hy:Ev G hm y l H (.int b u)) (h:0≤b) (h2:b≤100) (h3:a.natAbs < 2 ^ 63):Ev G hm (.bin .Pow x y) l H (.int (a ^ b.toNat) 0):=ev_bin hx hy fun _ q=>⟨h,h2,h3,q⟩
theorem ev_cat {p r:Str} (hx:Ev G hm x l H (.str p t)) (hy:Ev G hm y l H (.str r u)) (h:p.length + r.length≤sizeLine):Ev G hm (.bin .Add x y) l H (.str (p++r) 0):=ev_bin hx hy fun _ q=>⟨h,q⟩
theorem ev_rep {p:Str} (hx:Ev G hm x l H (.str p t)) (hy:Ev G hm y l H (.int b u)) (h:p.length≤1000) (h2:b≤1000) (h3:-1000≤b):Ev G hm (.bin .Mult x y) l H (.str (Txt.mul p b) 0):=ev_bin hx hy fun _ q=>⟨h,h2,h3,q⟩
theorem ev_neg (hx:Ev G hm x l H (.int a t)):Ev G hm (.neg x) l H (.int (-a) 0):=.mk fun Q X q=>hx.run (fun a H1=>match a with | .int i _=>Q (.int (-i) 0) H1 | _=>False) X q
theorem ev_not {b:Bool} (hx:Ev G hm x l H (.bool b)) {z:Bool} (hz:(!b) = z):Ev G hm (.not x) l H (.bool z):=by subst hz;exact .mk fun Q X q=>hx.run (fun a H1=>truthV a fun b=>Q (.bool (!b)) H1) X q
theorem ev_cmp {op:CmpOp} {v w r:Value} (hx:Ev G hm x l H v) (hy:Ev G hm y l H w) (h:∀ Q:QV,Q r H→cmpV op v w H Q):Ev G hm (.cmp x op y) l H r :=
  .mk fun Q X q=>hx.run (fun a H1=>wpE G hm y l H1 (fun b H2=>cmpV op a b H2 Q) X) X (hy.run (fun b H2=>cmpV op v b H2 Q) X (h Q q))
theorem ev_eq (hx:Ev G hm x l H (.int a t)) (hy:Ev G hm y l H (.int b u)) {z:Bool} (hz:(decide (a = b)) = z):Ev G hm (.cmp x .Eq y) l H (.bool z):=by subst hz;exact ev_cmp hx hy fun _ q=>q
theorem ev_lt (hx:Ev G hm x l H (.int a t)) (hy:Ev G hm y l H (.int b u)) {z:Bool} (hz:(decide (a < b)) = z):Ev G hm (.cmp x .Lt y) l H (.bool z):=by subst hz;exact ev_cmp hx hy fun _ q=>q
theorem ev_gt (hx:Ev G hm x l H (.int a t)) (hy:Ev G hm y l H (.int b u)) {z:Bool} (hz:(decide (b < a)) = z):Ev G hm (.cmp x .Gt y) l H (.bool z):=by subst hz;exact ev_cmp hx hy fun _ q=>q
theorem ev_ge (hx:Ev G hm x l H (.int a t)) (hy:Ev G hm y l H (.int b u)) {z:Bool} (hz:(decide (b≤a)) = z):Ev G hm (.cmp x .GtE y) l H (.bool z):=by subst hz;exact ev_cmp hx hy fun _ q=>q
section
variable {p r:Str}
theorem ev_eqs (hx:Ev G hm x l H (.str p t)) (hy:Ev G hm y l H (.str r u)) {z:Bool} (hz:(decide (p = r)) = z):Ev G hm (.cmp x .Eq y) l H (.bool z):=by subst hz;exact ev_cmp hx hy fun _ q=>q
theorem ev_nes (hx:Ev G hm x l H (.str p t)) (hy:Ev G hm y l H (.str r u)) {z:Bool} (hz:(!decide (p = r)) = z):Ev G hm (.cmp x .NotEq y) l H (.bool z):=by subst hz;exact ev_cmp hx hy fun _ q=>q
theorem ev_lts (hx:Ev G hm x l H (.str p t)) (hy:Ev G hm y l H (.str r u)) {z:Bool} (hz:(decide (p.cps.toList < r.cps.toList)) = z):Ev G hm (.cmp x .Lt y) l H (.bool z):=by subst hz;exact ev_cmp hx hy fun _ q=>q
theorem ev_gts (hx:Ev G hm x l H (.str p t)) (hy:Ev G hm y l H (.str r u)) {z:Bool} (hz:(decide (r.cps.toList < p.cps.toList)) = z):Ev G hm (.cmp x .Gt y) l H (.bool z):=by subst hz;exact ev_cmp hx hy fun _ q=>q
theorem ev_ins (hx:Ev G hm x l H (.str p t)) (hy:Ev G hm y l H (.str r u)) {z:Bool} (hz:(Txt.contains r p) = z):Ev G hm (.cmp x .In y) l H (.bool z):=by subst hz;exact ev_cmp hx hy fun _ q=>q
theorem ev_eqns (hx:Ev G hm x l H .none) (hy:Ev G hm y l H (.str r u)):Ev G hm (.cmp x .Eq y) l H (.bool false):=ev_cmp hx hy fun _ q=>q
end
theorem ev_cmp2 {z:Ex} {op op2:CmpOp} {v w s r:Value} (hx:Ev G hm x l H v) (hy:Ev G hm y l H w) (h1:∀ Q:QV,Q (.bool true) H→cmpV op v w H Q) (hz:Ev G hm z l H s) (h2:∀ Q:QV,Q r H→cmpV op2 w s H Q):Ev G hm (.cmp2 x op y op2 z) l H r :=
  .mk fun Q X q=>hx.run (fun a H1=>wpE G hm y l H1 (fun b H2=>cmpV op a b H2 fun c H3=>truthV c fun r =>
      if r then wpE G hm z l H3 (fun d H4=>cmpV op2 b d H4 Q) X else Q (.bool false) H3) X) X (hy.run (fun b H2=>cmpV op v b H2 fun c H3=>truthV c fun r =>
      if r then wpE G hm z l H3 (fun d H4=>cmpV op2 b d H4 Q) X else Q (.bool false) H3) X (h1 _ (hz.run (fun d H4=>cmpV op2 w d H4 Q) X (h2 Q q))))
theorem cmp_le {a b:Int} {t u:Tok} (h:decide (a≤b) = true) (Q:QV) (q:Q (.bool true) H):cmpV .LtE (.int a t) (.int b u) H Q:=by
  show Q (.bool (decide (a≤b))) H
  rw [h];exact q
theorem cmp_lt {a b:Int} {t u:Tok} (h:decide (a < b) = true) (Q:QV) (q:Q (.bool true) H):cmpV .Lt (.int a t) (.int b u) H Q:=by
  show Q (.bool (decide (a < b))) H
  rw [h];exact q
noncomputable def isN:Value→Option Bool
  | .none=>some true
  | .builtin _=>none
  | _=>some false
theorem ev_is {v:Value} {b:Bool} (hx:Ev G hm x l H v) (h:isN v = some b):Ev G hm (.cmp x .Is .none) l H (.bool b):=ev_cmp hx ev_none fun _ q=>by cases v <;> first | (cases h;exact q) | cases h
theorem in_idict {d:Addr} {kvs:List (Int×Value)} {k:Bool→Prop} (h:H d = some (.idict kvs)) (q:k (valueAt kvs a).isSome):inV (.int a t) (.ref d) H k:=by
  conv=>whnf
  rw [h]
  exact q
theorem in_ints {d:Addr} {ns:List Int} {k:Bool→Prop} (h:H d = some (.list (ns.map fun n=>Value.int n 0))) (q:k (decide (a∈ns))):inV (.int a t) (.ref d) H k:=by
  conv=>whnf
  rw [h]
  exact ⟨ns,rfl,q⟩
theorem ev_notin {d:Addr} {kvs:List (Int×Value)} (hx:Ev G hm x l H (.int a t)) (hy:Ev G hm y l H (.ref d)) (h:H d = some (.idict kvs)) {z:Bool} (hz:(!(valueAt kvs a).isSome) = z):Ev G hm (.cmp x .NotIn y) l H (.bool z):=by subst hz;exact ev_cmp hx hy fun Q q=>in_idict (t:=t) (k:=fun r=>Q (.bool (!r)) H) h q
theorem ev_one {k:Bool} {b:Bool} (hx:Ev G hm x l H (.bool b)):Ev G hm (.bop k [x]) l H (.bool b):=.mk fun Q X q=>show wpB G hm k [x] l H Q X from hx.run _ _ (by
  show if b = k then Q (.bool b) H else Q (.bool b) H
  split <;> exact q)
theorem ev_stop {k:Bool} {es:List Ex} (hx:Ev G hm x l H (.bool (!k))):Ev G hm (.bop k (x :: es)) l H (.bool (!k)):=.mk fun Q X q=>show wpB G hm k (x :: es) l H Q X from hx.run _ _ (by
  show if (!k) = k then _ else Q (.bool (!k)) H
  rw [if_neg (by cases k <;> exact nofun)];exact q)
theorem ev_go {k b:Bool} {es:List Ex} (hx:Ev G hm x l H (.bool k)) (hr:Ev G hm (.bop k (y :: es)) l H (.bool b)):Ev G hm (.bop k (x :: y :: es)) l H (.bool b):=.mk fun Q X q=>hx.run (fun v H1=>truthV v fun b=>if b = k then wpB G hm k (y :: es) l H1 Q X else Q (.bool b) H1) X (by
  show if k = k then wpB G hm k (y :: es) l H Q X else Q (.bool k) H
  rw [if_pos rfl];exact hr.run Q X q)
noncomputable def isiOf (t:Ty):Value→Option Bool
  | .none=>if t.blt then some false else none
  | .bool _=>if t.blt then some (t == .bool || t == .int) else none
  | .int _ _=>if t.blt then some (t == .int) else none
  | .str _ _=>if t.blt then some (t == .str) else none
  | _=>none
theorem ev_isi {ty:Ty} {v:Value} {b:Bool} (hx:Ev G hm x l H v) (h:isiOf ty v = some b):Ev G hm (.isi x ty) l H (.bool b):=.mk fun Q X q=>hx.run (fun v H1=>isiV G v ty H1 Q) X (by
  cases v <;> simp only [isiOf] at h <;> first
    | (split at h <;> first | (cases h;exact ⟨‹_›,q⟩) | cases h)
    | cases h)
noncomputable def isiObj (t:Ty):AObj→Option Bool
  | .list _=>if t.blt then some (t == .list || t == .listOrTuple) else none
  | .tup _=>if t.blt then some (t == .tuple || t == .listOrTuple) else none
  | .idict _=>if t.blt then some false else none
  | .sdict _=>if t.blt then some false else none
  | _=>none
theorem ev_isir {ty:Ty} {c:Addr} {o:AObj} {b:Bool} (hx:Ev G hm x l H (.ref c)) (hc:H c = some o) (h:isiObj ty o = some b):Ev G hm (.isi x ty) l H (.bool b):=.mk fun Q X q=>hx.run (fun v H1=>isiV G v ty H1 Q) X (by
  show isiV G (.ref c) ty H Q
  conv=>whnf
  rw [hc]
  cases o <;> simp only [isiObj] at h <;> first
    | (split at h <;> first | (cases h;exact ⟨‹_›,q⟩) | cases h)
    | cases h)
theorem ev_idx {v w r:Value} (hx:Ev G hm x l H v) (hy:Ev G hm y l H w) (h:∀ Q:QV,Q r H→idxV v w H Q):Ev G hm (.idx x y) l H r :=
  .mk fun Q X q=>hx.run (fun v H1=>wpE G hm y l H1 (fun k H2=>idxV v k H2 Q) X) X (hy.run (fun k H2=>idxV v k H2 Q) X (h Q q))
noncomputable def seqO:AObj→Option (List Value)
  | .list xs=>some xs
  | .rlist xs=>some xs
  | .tup xs=>some xs
  | _=>none
theorem idx_at {c:Addr} {o:AObj} {xs:List Value} {r:Value} {Q:QV} (hc:H c = some o) (hs:seqO o = some xs) (h:at? xs a = some r) (q:Q r H):idxV (.ref c) (.int a t) H Q:=by
  conv=>whnf
  rw [hc]
  cases o <;> cases hs <;> (conv=>whnf) <;> rw [h] <;> exact q
theorem ev_at {c:Addr} {o:AObj} {xs:List Value} {r:Value} (hx:Ev G hm x l H (.ref c)) (hy:Ev G hm y l H (.int a t)) (hc:H c = some o) (hs:seqO o = some xs) (h:at? xs a = some r):Ev G hm (.idx x y) l H r:=ev_idx hx hy fun _ q=>idx_at hc hs h q
theorem idx_key {c:Addr} {kvs:List (Int×Value)} {r:Value} {Q:QV} (hc:H c = some (.idict kvs)) (h:valueAt kvs a = some r) (q:Q r H):idxV (.ref c) (.int a t) H Q:=by
  conv=>whnf
  rw [hc]
  conv=>whnf
  rw [h]
  exact q
theorem ev_key {c:Addr} {kvs:List (Int×Value)} {r:Value} (hx:Ev G hm x l H (.ref c)) (hy:Ev G hm y l H (.int a t)) (hc:H c = some (.idict kvs)) (h:valueAt kvs a = some r):Ev G hm (.idx x y) l H r:=ev_idx hx hy fun _ q=>idx_key hc h q
theorem ev_chr {p:Str} {c:Nat} (hx:Ev G hm x l H (.str p t)) (hy:Ev G hm y l H (.int a u)) (h:at? p.cps.toList a = some c) (hz:p.length≤sizeLine):Ev G hm (.idx x y) l H (.str (chr1 c) 0):=ev_idx hx hy fun Q q=>by
  conv=>whnf
  rw [h]
  exact ⟨hz,q⟩
end
theorem evl_nil:EvL G hm [] l H []:=.mk fun _ _ q=>q
theorem evl_cons {e:Ex} {es:List Ex} {v:Value} {vs:List Value} (he:Ev G hm e l H v) (hs:EvL G hm es l H vs):EvL G hm (e :: es) l H (v :: vs) :=
  .mk fun Q X q=>he.run (fun v H1=>wpEs G hm es l H1 (fun vs H2=>Q (v :: vs) H2) X) X (hs.run (fun vs H2=>Q (v :: vs) H2) X q)
theorem ev_bf {f:Bf} {es:List Ex} {vs:List Value} {r:Value} (hs:EvL G hm es l H vs) (hh:bfH hm f vs H) (h:∀ Q:QV,Q r H→bfV f vs H Q):Ev G hm (.bf f es) l H r :=
  .mk fun Q X q=>hs.run (fun vs H1=>bfH hm f vs H1∧bfV f vs H1 Q) X ⟨hh,h Q q⟩
theorem len_at {c:Addr} {o:AObj} {xs:List Value} {Q:QV} (hc:H c = some o) (hs:seqO o = some xs) (q:Q (.int xs.length 0) H):lenV (.ref c) H Q:=by
  conv=>whnf
  rw [hc]
  cases o <;> cases hs <;> exact q
theorem ev_len {x:Ex} {c:Addr} {o:AObj} {xs:List Value} (hx:Ev G hm x l H (.ref c)) (hc:H c = some o) (hs:seqO o = some xs):Ev G hm (.bf .len [x]) l H (.int xs.length 0):=ev_bf (evl_cons hx evl_nil) (.inl (.inl rfl)) fun _ q=>len_at hc hs q
theorem ev_lens {x:Ex} {p:Str} {t:Tok} (hx:Ev G hm x l H (.str p t)) (hz:p.length≤sizeLine):Ev G hm (.bf .len [x]) l H (.int p.length 0):=ev_bf (evl_cons hx evl_nil) (.inl (.inl rfl)) fun _ q=>⟨hz,q⟩
section
variable {x y:Ex} {a b:Int} {t u:Tok}
theorem ev_intb {b:Bool} (hx:Ev G hm x l H (.bool b)):Ev G hm (.bf .int [x]) l H (.int (if b then 1 else 0) 0):=ev_bf (evl_cons hx evl_nil) (.inl (.inr rfl)) fun _ q=>q
theorem ev_max (hx:Ev G false x l H (.int a t)) (hy:Ev G false y l H (.int b u)):Ev G false (.bf .max2 [x,y]) l H (.int (max a b) 0):=ev_bf (evl_cons hx (evl_cons hy evl_nil)) (.inr (.inl rfl)) fun _ q=>q
end
end
end Mine
end

section
open PySem PyProof.Rows
namespace Mine
section
variable {G:Gx} {hm:Bool} {l:Loc} {H:Hp} {Q:QV} {X:XV}
theorem w_ev {e:Ex} {v:Value} (h:Ev G hm e l H v) (q:Q v H):wpE G hm e l H Q X:=h.run Q X q
theorem meth_at {x d C f:Addr} {m:Str} {kvs:List (Str×Value)} {k:Addr→Prop} (hi:H x = some (.inst C d)) (hn:H d = some (.ns kvs)) (hf:G.meth C m = some f) (hv:valueAt kvs m = none) (q:k f):methV G (.ref x) m H k:=by
  conv=>whnf
  rw [hi]
  conv=>whnf
  rw [hn,hf]
  exact ⟨hv,q⟩
theorem w_methW {o:Ex} {m:Str} {args:List Ex} {x d C f:Addr} {kvs:List (Str×Value)} (ho:Ev G hm o l H (.ref x)) (hi:H x = some (.inst C d)) (hn:H d = some (.ns kvs)) (hf:G.meth C m = some f) (hv:valueAt kvs m = none)
    (q:wpEs G hm args l H (fun vs H2=>G.fn f hm (.ref x :: vs) H2 Q X) X):wpE G hm (.meth o m args) l H Q X :=
  ho.run (fun v H1=>methV G v m H1 fun f=>wpEs G hm args l H1 (fun vs H2=>G.fn f hm (v :: vs) H2 Q X) X) X (meth_at hi hn hf hv q)
theorem w_meth {o:Ex} {m:Str} {args:List Ex} {x d C f:Addr} {kvs:List (Str×Value)} {vs:List Value} (ho:Ev G hm o l H (.ref x)) (hi:H x = some (.inst C d)) (hn:H d = some (.ns kvs)) (hf:G.meth C m = some f) (hv:valueAt kvs m = none)
    (ha:EvL G hm args l H vs) (q:G.fn f hm (.ref x :: vs) H Q X):wpE G hm (.meth o m args) l H Q X:=w_methW ho hi hn hf hv (ha.run (fun vs H2=>G.fn f hm (.ref x :: vs) H2 Q X) X q)
theorem w_callW {g:Ex} {args:List Ex} {a:Addr} (hg:Ev G hm g l H (.ref a)) (hi:G.init a = none) (q:wpEs G hm args l H (fun vs H2=>G.fn a hm vs H2 Q X) X):wpE G hm (.call g args) l H Q X :=
  hg.run (fun v H1=>wpEs G hm args l H1 (fun vs H2=>callV G hm v vs H2 Q X) X) X (by
    have:(fun vs H2=>callV G hm (.ref a) vs H2 Q X) = fun vs H2=>G.fn a hm vs H2 Q X:=by
      funext vs H2
      show (match G.init a with | some fi=>_ | none=>_) = _
      rw [hi]
    show wpEs G hm args l H (fun vs H2=>callV G hm (.ref a) vs H2 Q X) X
    rw [this];exact q)
theorem w_call {g:Ex} {args:List Ex} {a:Addr} {vs:List Value} (hg:Ev G hm g l H (.ref a)) (hi:G.init a = none) (ha:EvL G hm args l H vs) (q:G.fn a hm vs H Q X):wpE G hm (.call g args) l H Q X:=w_callW hg hi (ha.run (fun vs H2=>G.fn a hm vs H2 Q X) X q)
theorem w_new {g:Ex} {args:List Ex} {C fi:Addr} {vs:List Value} (hg:Ev G hm g l H (.ref C)) (hi:G.init C = some fi) (ha:EvL G hm args l H vs)
    (q:∀ d x,H d = none→H x = none→d≠x→G.fn fi hm (.ref x :: vs) ((H.upd d (.ns [])).upd x (.inst C d)) (fun r H'=>r = .none∧Q (.ref x) H') X):wpE G hm (.call g args) l H Q X :=
  hg.run (fun v H1=>wpEs G hm args l H1 (fun vs H2=>callV G hm v vs H2 Q X) X) X (ha.run (fun vs H2=>callV G hm (.ref C) vs H2 Q X) X (by
    conv=>whnf
    rw [hi]
    exact q))
theorem wl_nil {Q:List Value→Hp→Prop} (q:Q [] H):wpEs G hm [] l H Q X:=q
theorem wl_cons {e:Ex} {es:List Ex} {Q:List Value→Hp→Prop} (q:wpE G hm e l H (fun v H1=>wpEs G hm es l H1 (fun vs H2=>Q (v :: vs) H2) X) X):wpEs G hm (e :: es) l H Q X:=q
theorem w_list {es:List Ex} {vs:List Value} (ha:EvL G hm es l H vs) (hz:vs.length≤sizeLine) (q:∀ c,H c = none→Q (.ref c) (H.upd c (.list vs))):wpE G hm (.list es) l H Q X:=ha.run (fun vs H1=>vs.length≤sizeLine∧newV (.list vs) H1 Q) X ⟨hz,q⟩
theorem w_tup {es:List Ex} {vs:List Value} (ha:EvL G hm es l H vs) (hz:vs.length≤sizeLine) (q:∀ c,H c = none→Q (.ref c) (H.upd c (.tup vs))):wpE G hm (.tup es) l H Q X:=ha.run (fun vs H1=>vs.length≤sizeLine∧newV (.tup vs) H1 Q) X ⟨hz,q⟩
theorem w_tupW {es:List Ex} (q:wpEs G hm es l H (fun vs H1=>vs.length≤sizeLine∧newV (.tup vs) H1 Q) X):wpE G hm (.tup es) l H Q X:=q
theorem w_listW {es:List Ex} (q:wpEs G hm es l H (fun vs H1=>vs.length≤sizeLine∧newV (.list vs) H1 Q) X):wpE G hm (.list es) l H Q X:=q
theorem w_dict0 (q:∀ c,H c = none→Q (.ref c) (H.upd c (.idict []))):wpE G hm (.dict [] []) l H Q X:=Or.inl ⟨rfl,rfl,q⟩
noncomputable def seqI:AObj→Option (List Value)
  | .list xs=>some xs
  | .tup xs=>some xs
  | _=>none
noncomputable def seqS:AObj→Option (List Value)
  | .list xs=>some xs
  | _=>none
theorem slice_at {a:Addr} {o:AObj} {xs:List Value} {lo hi:Value} {p r:Option Int} (ha:H a = some o) (hs:seqS o = some xs) (hz:xs.length≤sizeLine) (h1:partOf lo = some p) (h2:partOf hi = some r) (q:∀ c,H c = none→Q (.ref c) (H.upd c (.list (pySlice xs p r)))):sliceV (.ref a) lo hi H Q:=by
  unfold sliceV
  rw [h1,h2]
  show (match H a with | some (.list xs)=>_ | _=>False)
  rw [ha]
  cases o <;> cases hs <;> exact ⟨hz,q⟩
theorem w_to {x e:Ex} {a:Addr} {o:AObj} {xs:List Value} {k:Int} {t:Tok} (hx:Ev G hm x l H (.ref a)) (he:Ev G hm e l H (.int k t)) (ha:H a = some o) (hs:seqS o = some xs) (hz:xs.length≤sizeLine) (q:∀ c,H c = none→Q (.ref c) (H.upd c (.list (pySlice xs none (some k))))):wpE G hm (.slice x none (some e)) l H Q X :=
  hx.run (fun v H1=>wpO G hm none l H1 (fun a H2=>wpO G hm (some e) l H2 (fun b H3=>sliceV v a b H3 Q) X) X) X (he.run (fun b H3=>sliceV (.ref a) .none b H3 Q) X (slice_at ha hs hz rfl rfl q))
theorem ev_to {x e:Ex} {p:Str} {k:Int} {t u:Tok} (hx:Ev G hm x l H (.str p u)) (he:Ev G hm e l H (.int k t)) (hz:p.length≤sizeLine):Ev G hm (.slice x none (some e)) l H (.str ⟨(pySlice p.cps.toList none (some k)).toArray⟩ 0) :=
  .mk fun Q X q=>hx.run (fun v H1=>wpO G hm none l H1 (fun a H2=>wpO G hm (some e) l H2 (fun b H3=>sliceV v a b H3 Q) X) X) X (he.run (fun b H3=>sliceV (.str p u) .none b H3 Q) X ⟨hz,q⟩)
theorem addl_at {a b:Addr} {xs ys:List Value} (ha:H a = some (.list xs)) (hb:H b = some (.list ys)) (hz:xs.length + ys.length≤sizeLine) (q:∀ c,H c = none→Q (.ref c) (H.upd c (.list (xs++ys)))):binV .Add (.ref a) (.ref b) H Q:=by
  show addR a b H Q
  unfold addR
  rw [ha]
  dsimp only
  rw [hb]
  exact ⟨hz,q⟩
theorem w_addl {x y:Ex} {a b:Addr} {xs ys:List Value} (hx:Ev G hm x l H (.ref a)) (hy:Ev G hm y l H (.ref b)) (ha:H a = some (.list xs)) (hb:H b = some (.list ys)) (hz:xs.length + ys.length≤sizeLine) (q:∀ c,H c = none→Q (.ref c) (H.upd c (.list (xs++ys)))):wpE G hm (.bin .Add x y) l H Q X :=
  hx.run (fun a H1=>wpE G hm y l H1 (fun b H2=>binV .Add a b H2 Q) X) X (hy.run (fun b H2=>binV .Add (.ref a) b H2 Q) X (addl_at ha hb hz q))
theorem w_binW {op:Operator} {x y:Ex} (q:wpE G hm x l H (fun a H1=>wpE G hm y l H1 (fun b H2=>binV op a b H2 Q) X) X):wpE G hm (.bin op x y) l H Q X:=q
theorem w_cmpW {op:CmpOp} {x y:Ex} (q:wpE G hm x l H (fun a H1=>wpE G hm y l H1 (fun b H2=>cmpV op a b H2 Q) X) X):wpE G hm (.cmp x op y) l H Q X:=q
theorem w_idxW {x y:Ex} (q:wpE G hm x l H (fun v H1=>wpE G hm y l H1 (fun k H2=>idxV v k H2 Q) X) X):wpE G hm (.idx x y) l H Q X:=q
theorem w_notW {x:Ex} (q:wpE G hm x l H (fun a H1=>truthV a fun b=>Q (.bool (!b)) H1) X):wpE G hm (.not x) l H Q X:=q
theorem w_bopW {k:Bool} {es:List Ex} (q:wpB G hm k es l H Q X):wpE G hm (.bop k es) l H Q X:=q
theorem wb_cons {k:Bool} {e e2:Ex} {es:List Ex} (q:wpE G hm e l H (fun v H1=>truthV v fun b=>if b = k then wpB G hm k (e2 :: es) l H1 Q X else Q (.bool b) H1) X):wpB G hm k (e :: e2 :: es) l H Q X:=q
theorem wb_one {k:Bool} {e:Ex} (q:wpE G hm e l H (fun v H1=>truthV v fun b=>Q (.bool b) H1) X):wpB G hm k [e] l H Q X:=by
  have:(fun v (H1:Hp)=>truthV v fun b=>if b = k then Q (.bool b) H1 else Q (.bool b) H1) = fun v H1=>truthV v fun b=>Q (.bool b) H1:=by
    funext v H1;congr 1;funext b;split <;> rfl
  show wpE G hm e l H (fun v H1=>truthV v fun b=>if b = k then Q (.bool b) H1 else Q (.bool b) H1) X
  rw [this];exact q
theorem wb_go {k:Bool} {e e2:Ex} {es:List Ex} (he:Ev G hm e l H (.bool k)) (q:wpB G hm k (e2 :: es) l H Q X):wpB G hm k (e :: e2 :: es) l H Q X:=wb_cons (he.run _ _ (by
  show if k = k then wpB G hm k (e2 :: es) l H Q X else Q (.bool k) H
  rw [if_pos rfl];exact q))
theorem w_bfW {f:Bf} {es:List Ex} (q:wpEs G hm es l H (fun vs H1=>bfH hm f vs H1∧bfV f vs H1 Q) X):wpE G hm (.bf f es) l H Q X:=q
theorem w_range {e:Ex} {n:Int} {t:Tok} (he:Ev G false e l H (.int n t)) (h1:n < 2 ^ 60) (h2:-(2 ^ 60) < n) (q:∀ c,H c = none→Q (.ref c) (H.upd c (.range 0 n 1))):wpE G false (.bf .range [e]) l H Q X :=
  (evl_cons he evl_nil).run (fun vs H1=>bfH false .range vs H1∧bfV .range vs H1 Q) X ⟨.inr (.inl rfl),h1,h2,q⟩
theorem blist_at {a:Addr} {o:AObj} {xs:List Value} (ha:H a = some o) (hs:seqI o = some xs) (hz:xs.length≤sizeLine) (q:∀ c,H c = none→Q (.ref c) (H.upd c (.list xs))):bfV .list [.ref a] H Q:=by
  conv=>whnf
  rw [ha]
  cases o <;> cases hs <;> exact ⟨hz,q⟩
theorem w_blist {e:Ex} {a:Addr} {o:AObj} {xs:List Value} (he:Ev G false e l H (.ref a)) (ha:H a = some o) (hs:seqI o = some xs) (hz:xs.length≤sizeLine) (q:∀ c,H c = none→Q (.ref c) (H.upd c (.list xs))):wpE G false (.bf .list [e]) l H Q X :=
  (evl_cons he evl_nil).run (fun vs H1=>bfH false .list vs H1∧bfV .list vs H1 Q) X ⟨.inr (.inl rfl),blist_at ha hs hz q⟩
theorem w_blistL {e:Ex} {a:Addr} {xs:List Value} (he:Ev G hm e l H (.ref a)) (ha:H a = some (.list xs)) (hz:xs.length≤sizeLine) (q:∀ c,H c = none→Q (.ref c) (H.upd c (.list xs))):wpE G hm (.bf .list [e]) l H Q X :=
  (evl_cons he evl_nil).run (fun vs H1=>bfH hm .list vs H1∧bfV .list vs H1 Q) X ⟨.inr (.inr (.inl ⟨rfl,a,xs,rfl,ha⟩)),blist_at ha rfl hz q⟩
theorem app_at {a:Addr} {xs:List Value} {v:Value} (ha:H a = some (.list xs)) (hz:xs.length≤sizeLine) (q:Q .none (H.upd a (.list (xs++[v])))):bmV .list .append (.ref a) [v] H Q:=by
  conv=>whnf
  rw [ha]
  exact ⟨hz,q⟩
theorem w_appendW {o e:Ex} {a:Addr} {xs:List Value} (ho:Ev G hm o l H (.ref a)) (ha:H a = some (.list xs)) (q:wpE G hm e l H (fun v H1=>bmV .list .append (.ref a) [v] H1 Q) X):wpE G hm (.bm .append o [e]) l H Q X :=
  ho.run (fun v H1=>bmOn .append v H1 fun b=>wpEs G hm [e] l H1 (fun vs H2=>bmV b .append v vs H2 Q) X) X (by
    conv=>whnf
    rw [ha]
    exact ⟨.inl rfl,q⟩)
theorem w_pop {o:Ex} {a:Addr} {xs:List Value} {v:Value} (ho:Ev G hm o l H (.ref a)) (ha:H a = some (.list xs)) (hz:xs.length≤sizeLine) (hv:xs.getLast? = some v) (q:Q v (H.upd a (.list xs.dropLast))):wpE G hm (.bm .pop o []) l H Q X :=
  ho.run (fun v H1=>bmOn .pop v H1 fun b=>wpEs G hm [] l H1 (fun vs H2=>bmV b .pop v vs H2 Q) X) X (by
    conv=>whnf
    rw [ha]
    exact ⟨.inr rfl,by
      conv=>whnf
      rw [ha]
      refine ⟨hz, ?_⟩
      rw [hv]
      exact q⟩)
theorem w_dpop {o e:Ex} {a:Addr} {kvs:List (Int×Value)} {k:Int} {t:Tok} {v:Value} (ho:Ev G hm o l H (.ref a)) (he:Ev G hm e l H (.int k t)) (ha:H a = some (.idict kvs)) (hz:kvs.length≤sizeLine) (hv:valueAt kvs k = some v) (q:Q v (H.upd a (.idict (PySem.without kvs k)))):wpE G hm (.bm .pop o [e]) l H Q X :=
  ho.run (fun v H1=>bmOn .pop v H1 fun b=>wpEs G hm [e] l H1 (fun vs H2=>bmV b .pop v vs H2 Q) X) X (by
    conv=>whnf
    rw [ha]
    exact ⟨rfl,(evl_cons he evl_nil).run _ _ (by
      conv=>whnf
      rw [ha]
      refine ⟨hz, ?_⟩
      rw [hv]
      exact q)⟩)
theorem join_at {x:Str} {t:Tok} {a:Addr} {xs:List Value} {ss:List Str} (ha:H a = some (.list xs)) (hs:strsOf xs = some ss) (hj:JoinOk x ss = true) (q:Q (.str (Txt.join x ss) 0) H):bmV .str .join (.str x t) [.ref a] H Q:=by
  conv=>whnf
  rw [ha]
  conv=>whnf
  rw [hs]
  exact ⟨hj,q⟩
theorem w_joinW {o e:Ex} {x:Str} {t:Tok} (ho:Ev G hm o l H (.str x t)) (q:wpE G hm e l H (fun v H1=>bmV .str .join (.str x t) [v] H1 Q) X):wpE G hm (.bm .join o [e]) l H Q X :=
  ho.run (fun v H1=>bmOn .join v H1 fun b=>wpEs G hm [e] l H1 (fun vs H2=>bmV b .join v vs H2 Q) X) X ⟨rfl,q⟩
noncomputable def ca (l:Loc) (x:Str) (v:Value):Loc:=(l.del ".0").upd x v
theorem iter_at {a:Addr} {o:AObj} {xs:List Value} {k:(Hp→Prop)→List Value→Prop} (ha:H a = some o) (hs:seqI o = some xs) (q:k (fun H'=>H' a = some o) xs):iterV (.ref a) H k:=by
  conv=>whnf
  rw [ha]
  cases o <;> cases hs <;> exact q
theorem comp_run {guard:Hp→Prop} {step:Value→Hp→(Option Value→Hp→Prop)→Prop} {p:Value→Bool} {f:Value→Value} (hg:guard H):∀ (items acc:List Value) {k:List Value→Hp→Prop},
    (∀ v∈items,∀ k':Option Value→Hp→Prop,(if p v then k' (some (f v)) H else k' none H)→step v H k')→k (acc++(items.filter p).map f) H→compG guard step items acc H k
  | [],acc,k,_,h=>⟨hg,by simpa using h⟩
  | v :: vs,acc,k,hs,h=>⟨hg,hs v (List.mem_cons_self ..) _ (by
      have ih:=comp_run (p:=p) (f:=f) hg (step:=step) vs
      cases e:p v with
      | true =>
        rw [List.filter_cons,if_pos e] at h
        exact ih (acc++[f v]) (fun u hu=>hs u (List.mem_cons_of_mem _ hu)) (by simpa using h)
      | false =>
        rw [List.filter_cons,if_neg (by rw [e];exact nofun)] at h
        exact ih acc (fun u hu=>hs u (List.mem_cons_of_mem _ hu)) h)⟩
theorem ev_all0:Ev G hm (.bop true []) l H (.bool true):=.mk fun _ _ q=>q
theorem comp_runA {β:Type} {R:Value→β→Prop} {guard:Hp→Prop} {step:Value→Hp→(Option Value→Hp→Prop)→Prop} {p:β→Bool} {f:Value→Value} (hg:guard H) {items:List Value} {ys:List β} (hr:All2 R items ys):∀ (acc:List Value) {k:List Value→Hp→Prop},
    (∀ v y,R v y→∀ k':Option Value→Hp→Prop,(if p y then k' (some (f v)) H else k' none H)→step v H k')→(∀ zs,All2 R zs (ys.filter p)→zs.length≤items.length→k (acc++zs.map f) H)→compG guard step items acc H k:=by
  induction hr with
  | nil=>intro acc k _ h;exact ⟨hg,by simpa using h [] .nil (Nat.le_refl _)⟩
  | @cons v y vs ys e _ ih =>
    intro acc k hs h
    refine ⟨hg,hs v y e _ ?_⟩
    cases ep:p y with
    | true =>
      rw [if_pos rfl]
      refine ih (acc++[f v]) hs fun zs hz hl=>?_
      have:=h (v :: zs) (by rw [List.filter_cons,if_pos ep];exact .cons e hz) (Nat.succ_le_succ hl)
      simpa using this
    | false =>
      rw [if_neg nofun]
      exact ih acc hs fun zs hz hl=>h zs (by rw [List.filter_cons,if_neg (by rw [ep];exact nofun)];exact hz) (Nat.le_succ_of_le hl)
theorem w_compA {β:Type} {R:Value→β→Prop} {elt src:Ex} {x:Str} {ifs:List Ex} {a:Addr} {o:AObj} {xs:List Value} {ys:List β} (p:β→Bool) (f:Value→Value) (he:Ev G false src l H (.ref a)) (ha:H a = some o) (hs:seqI o = some xs) (hz:xs.length≤sizeLine) (hr:All2 R xs ys)
    (hp:∀ v y,R v y→Ev G false (.bop true ifs) (ca l x v) H (.bool (p y))) (hf:∀ v y,R v y→p y = true→Ev G false elt (ca l x v) H (f v)) (q:∀ zs,All2 R zs (ys.filter p)→zs.length≤xs.length→∀ c,H c = none→Q (.ref c) (H.upd c (.list (zs.map f)))):wpE G false (.comp elt x src ifs) l H Q X :=
  he.run (fun v H1=>iterH false v H1 fun guard items=>items.length≤sizeLine ∧
      compG guard (fun v H2 k=>wpB G false true ifs ((l.del ".0").upd x v) H2 (fun c H3=>truthV c fun r =>
        if r then wpE G false elt ((l.del ".0").upd x v) H3 (fun u H4=>k (some u) H4) (fun _ _=>False) else k none H3) (fun _ _=>False)) items [] H1
        fun us H'=>newV (.list us) H' Q) X (.inl ⟨rfl,iter_at ha hs ⟨hz,comp_runA (p:=p) (f:=f) ha hr [] (fun v y e k' hk=>(hp v y e).run _ _ (by
      show if p y = true then _ else _
      cases ep:p y with
      | true=>rw [ep] at hk;exact (hf v y e ep).run _ _ hk
      | false=>rw [ep] at hk;exact hk)) (fun zs hz hl=>by rw [List.nil_append];exact q zs hz hl)⟩⟩)
theorem comp_runM {β:Type} {R:Value→β→Prop} {guard:Hp→Prop} {step:Value→Hp→(Option Value→Hp→Prop)→Prop} {g:β→Value} (hg:guard H) {items:List Value} {ys:List β} (hr:All2 R items ys):∀ (acc:List Value) {k:List Value→Hp→Prop},
    (∀ v y,R v y→∀ k':Option Value→Hp→Prop,k' (some (g y)) H→step v H k')→k (acc++ys.map g) H→compG guard step items acc H k:=by
  induction hr with
  | nil=>intro acc k _ h;exact ⟨hg,by simpa using h⟩
  | @cons v y vs ys e _ ih =>
    intro acc k hs h
    exact ⟨hg,hs v y e _ (ih (acc++[g y]) hs (by simpa using h))⟩
theorem w_mapA {β:Type} {R:Value→β→Prop} {elt src:Ex} {x:Str} {a:Addr} {o:AObj} {xs:List Value} {ys:List β} (g:β→Value) (he:Ev G false src l H (.ref a)) (ha:H a = some o) (hs:seqI o = some xs) (hz:xs.length≤sizeLine) (hr:All2 R xs ys)
    (hf:∀ v y,R v y→Ev G false elt (ca l x v) H (g y)) (q:∀ c,H c = none→Q (.ref c) (H.upd c (.list (ys.map g)))):wpE G false (.comp elt x src []) l H Q X :=
  he.run (fun v H1=>iterH false v H1 fun guard items=>items.length≤sizeLine ∧
      compG guard (fun v H2 k=>wpB G false true [] ((l.del ".0").upd x v) H2 (fun c H3=>truthV c fun r =>
        if r then wpE G false elt ((l.del ".0").upd x v) H3 (fun u H4=>k (some u) H4) (fun _ _=>False) else k none H3) (fun _ _=>False)) items [] H1
        fun us H'=>newV (.list us) H' Q) X (.inl ⟨rfl,iter_at ha hs ⟨hz,comp_runM (g:=g) ha hr [] (fun v y e k' hk=>(hf v y e).run _ _ hk) (by rw [List.nil_append];exact q)⟩⟩)
theorem w_compS {elt src:Ex} {x:Str} {p:Str} {t:Tok} (g:Nat→Value) (he:Ev G false src l H (.str p t)) (hz:p.cps.toList.length≤sizeLine) (hf:∀ c∈p.cps.toList,Ev G false elt (ca l x (.str (chr1 c) 0)) H (g c)) (q:∀ c,H c = none→Q (.ref c) (H.upd c (.list (p.cps.toList.map g)))):wpE G false (.comp elt x src []) l H Q X :=
  he.run (fun v H1=>iterH false v H1 fun guard items=>items.length≤sizeLine ∧
      compG guard (fun v H2 k=>wpB G false true [] ((l.del ".0").upd x v) H2 (fun c H3=>truthV c fun r =>
        if r then wpE G false elt ((l.del ".0").upd x v) H3 (fun u H4=>k (some u) H4) (fun _ _=>False) else k none H3) (fun _ _=>False)) items [] H1
        fun us H'=>newV (.list us) H' Q) X (.inl ⟨rfl,by rw [List.length_map];exact hz,comp_runM (R:=fun v c=>v = .str (chr1 c) 0∧c∈p.cps.toList) (g:=g) trivial (by
          have:∀ L:List Nat,(∀ c∈L,c∈p.cps.toList)→All2 (fun v c=>v = Value.str (chr1 c) 0∧c∈p.cps.toList) (L.map fun c=>Value.str (chr1 c) 0) L:=by
            intro L
            induction L with
            | nil=>intro _;exact .nil
            | cons c L ih=>intro h;exact .cons ⟨rfl,h c (List.mem_cons_self ..)⟩ (ih fun d hd=>h d (List.mem_cons_of_mem _ hd))
          exact this _ fun c hc=>hc) [] (fun v c e k' hk=>by rw [e.1];exact (hf c e.2).run _ _ hk) (by rw [List.nil_append];exact q)⟩)
theorem w_compI {elt src:Ex} {x:Str} {a:Addr} {o:AObj} {xs:List Value} (I:List Value→List Value→Hp→Prop) (he:Ev G false src l H (.ref a)) (ha:H a = some o) (hs:seqI o = some xs) (hz:xs.length≤sizeLine)
    (hg:∀ r acc H',I r acc H'→H' a = some o) (hb:∀ v r acc H',I (v :: r) acc H'→∀ K:QV,(∀ u H'',I r (acc++[u]) H''→K u H'')→wpE G false elt (ca l x v) H' K (fun _ _=>False)) (h0:I xs [] H) (q:∀ acc H',I [] acc H'→∀ c,H' c = none→Q (.ref c) (H'.upd c (.list acc))):wpE G false (.comp elt x src []) l H Q X :=
  he.run (fun v H1=>iterH false v H1 fun guard items=>items.length≤sizeLine ∧
      compG guard (fun v H2 k=>wpB G false true [] ((l.del ".0").upd x v) H2 (fun c H3=>truthV c fun r =>
        if r then wpE G false elt ((l.del ".0").upd x v) H3 (fun u H4=>k (some u) H4) (fun _ _=>False) else k none H3) (fun _ _=>False)) items [] H1
        fun us H'=>newV (.list us) H' Q) X (.inl ⟨rfl,iter_at ha hs ⟨hz,compG_list I hg (fun v r acc H' h K hK=>hb v r acc H' h (fun u H4=>K (some u) H4) fun u H'' h'=>hK (some u) H'' h') q xs [] H h0⟩⟩)
theorem w_compr {elt n:Ex} {x:Str} {ifs:List Ex} {k:Nat} {t:Tok} (p:Value→Bool) (f:Value→Value) (hn:Ev G false n l H (.int (k:Int) t)) (hz:k≤sizeLine)
    (hp:∀ i < k,∀ H',(∀ a o,H a = some o→H' a = some o)→Ev G false (.bop true ifs) (ca l x (.int (i:Int) 0)) H' (.bool (p (.int (i:Int) 0)))) (hf:∀ i < k,∀ H',(∀ a o,H a = some o→H' a = some o)→p (.int (i:Int) 0) = true→Ev G false elt (ca l x (.int (i:Int) 0)) H' (f (.int (i:Int) 0)))
    (q:∀ d c,H d = none→H c = none→c≠d→Q (.ref c) ((H.upd d (.range 0 k 1)).upd c (.list ((((List.range k).map fun (i:Nat)=>Value.int (i:Int) 0).filter p).map f)))):wpE G false (.comp elt x (.bf .range [n]) ifs) l H Q X:=by
  have hz2:(k:Int) < 2 ^ 60:=Int.lt_of_le_of_lt (Int.ofNat_le.2 hz) (by decide)
  refine w_range (Q:=fun v H1=>iterH false v H1 fun guard items=>items.length≤sizeLine ∧
      compG guard (fun v H2 k=>wpB G false true ifs ((l.del ".0").upd x v) H2 (fun c H3=>truthV c fun r =>
        if r then wpE G false elt ((l.del ".0").upd x v) H3 (fun u H4=>k (some u) H4) (fun _ _=>False) else k none H3) (fun _ _=>False)) items [] H1
        fun us H'=>newV (.list us) H' Q) hn hz2 (lo60 k) fun d hd=>.inl ⟨rfl, ?_⟩
  have hk:∀ a o,H a = some o→(H.upd d (.range 0 k 1)) a = some o:=fun a o e=>(Hp.upd_ne _ _ fun z=>by rw [z,hd] at e;cases e).trans e
  have hdd:(H.upd d (.range 0 k 1)) d = some (.range 0 k 1):=Hp.upd_same _ _ _
  have q':∀ c,(H.upd d (.range 0 k 1)) c = none→Q (.ref c) ((H.upd d (.range 0 k 1)).upd c (.list ((((List.range k).map fun (i:Nat)=>Value.int (i:Int) 0).filter p).map f))):=fun c hc=>by
    have hcd:c≠d:=fun z=>by rw [z,hdd] at hc;cases hc
    refine q d c hd ?_ hcd
    rw [Hp.upd_ne _ _ hcd] at hc;exact hc
  generalize H.upd d (.range 0 k 1) = H1 at *
  conv=>whnf
  rw [hdd]
  refine ⟨small_nat (Nat.lt_of_le_of_lt hz (by decide)), ?_⟩
  rw [rangeL_nat]
  refine ⟨by simpa using hz,comp_run (p:=p) (f:=f) trivial _ [] (fun v hv k' hk'=>?_) (by rw [List.nil_append];exact q')⟩
  obtain ⟨i,hi,rfl⟩:=List.mem_map.1 hv
  have hi:=List.mem_range.1 hi
  refine (hp i hi H1 hk).run _ _ ?_
  show if p (.int (i:Int) 0) = true then _ else _
  cases e:p (.int (i:Int) 0) with
  | true=>rw [e] at hk';exact (hf i hi H1 hk e).run _ _ hk'
  | false=>rw [e] at hk';exact hk'
end
end Mine
end

section
open PySem PyProof.Rows
namespace Mine
section
variable {G:Gx} {hm:Bool} {l:Loc} {H:Hp} {Q:QS} {X:XS} {r:List Sm}
noncomputable def sq (G:Gx) (hm:Bool) (r:List Sm) (Q:QS) (X:XS):QS:=fun f l' H'=>match f with | .next=>wpSs G hm r l' H' Q X | f=>Q f l' H'
theorem ss_nl (q:Q .next l H):wpSs G hm [] l H Q X:=q
theorem sq_next (q:wpSs G hm r l H Q X):sq G hm r Q X .next l H:=q
theorem ss_sq (q:wpSs G hm r l H Q X):wpSs G hm [] l H (sq G hm r Q X) X:=q
theorem ss_asgW {x:Str} {e:Ex} (q:wpE G hm e l H (fun v H'=>wpSs G hm r (l.upd x v) H' Q X) (fun C H'=>X C l H')):wpSs G hm (.asg x e :: r) l H Q X:=q
theorem ss_asg {x:Str} {e:Ex} {v:Value} (he:Ev G hm e l H v) (q:wpSs G hm r (l.upd x v) H Q X):wpSs G hm (.asg x e :: r) l H Q X:=ss_asgW (w_ev he q)
theorem ss_exprW {e:Ex} (q:wpE G hm e l H (fun _ H'=>wpSs G hm r l H' Q X) (fun C H'=>X C l H')):wpSs G hm (.expr e :: r) l H Q X:=q
theorem ss_retW {e:Ex} (q:wpE G hm e l H (fun v H'=>Q (.ret v) l H') (fun C H'=>X C l H')):wpSs G hm (.ret e :: r) l H Q X:=q
theorem ss_ret {e:Ex} {v:Value} (he:Ev G hm e l H v) (q:Q (.ret v) l H):wpSs G hm (.ret e :: r) l H Q X:=ss_retW (w_ev he q)
theorem ss_ifW {c:Ex} {t f:List Sm} (q:wpE G hm c l H (fun v H1=>truthV v fun b=>if b then wpSs G hm t l H1 (sq G hm r Q X) X else wpSs G hm f l H1 (sq G hm r Q X) X) (fun C H'=>X C l H')):wpSs G hm (.ite c t f :: r) l H Q X:=q
theorem ss_if {c:Ex} {t f:List Sm} {b:Bool} (hc:Ev G hm c l H (.bool b)) (ht:b = true→wpSs G hm t l H (sq G hm r Q X) X) (hf:b = false→wpSs G hm f l H (sq G hm r Q X) X):wpSs G hm (.ite c t f :: r) l H Q X:=ss_ifW (w_ev hc (by
  show if b = true then _ else _
  cases b
  · exact hf rfl
  · exact ht rfl))
theorem ss_ift {c:Ex} {t f:List Sm} (hc:Ev G hm c l H (.bool true)) (q:wpSs G hm t l H (sq G hm r Q X) X):wpSs G hm (.ite c t f :: r) l H Q X:=ss_if hc (fun _=>q) nofun
theorem ss_iff {c:Ex} {t f:List Sm} (hc:Ev G hm c l H (.bool false)) (q:wpSs G hm f l H (sq G hm r Q X) X):wpSs G hm (.ite c t f :: r) l H Q X:=ss_if hc nofun (fun _=>q)
theorem ss_iff0 {c:Ex} {t:List Sm} (hc:Ev G hm c l H (.bool false)) (q:wpSs G hm r l H Q X):wpSs G hm (.ite c t [] :: r) l H Q X:=ss_iff hc q
theorem ss_raise {c:Str} {C:Addr} (hh:hm = false) (hg:G.glob c = some (.ref C)) (he:G.isExc C = true) (q:X C l H):wpSs G hm (.raise c :: r) l H Q X:=by
  show hm = false∧(match G.glob c with | some (.ref C)=>G.isExc C = true∧X C l H | _=>False)
  rw [hg];exact ⟨hh,he,q⟩
theorem setattr_at {x d C:Addr} {a:Str} {kvs:List (Str×Value)} {v:Value} {k:Hp→Prop} (hi:H x = some (.inst C d)) (hn:H d = some (.ns kvs)) (hf:G.fld C a = true) (hz:kvs.length≤100) (q:k (H.upd d (.ns (stored kvs a v)))):setAttrV G (.ref x) a v H k:=by
  conv=>whnf
  rw [hi]
  conv=>whnf
  rw [hn]
  exact ⟨hf,hz,q⟩
theorem ss_setW {o:Ex} {a:Str} {e:Ex} (q:wpE G hm e l H (fun v H1=>wpE G hm o l H1 (fun ov H2=>setAttrV G ov a v H2 fun H'=>wpSs G hm r l H' Q X) (fun C H'=>X C l H')) (fun C H'=>X C l H')):wpSs G hm (.asgAttr o a e :: r) l H Q X:=q
theorem ss_set {o:Ex} {a:Str} {e:Ex} {v:Value} {x d C:Addr} {kvs:List (Str×Value)} (he:Ev G hm e l H v) (ho:Ev G hm o l H (.ref x)) (hi:H x = some (.inst C d)) (hn:H d = some (.ns kvs)) (hf:G.fld C a = true) (hz:kvs.length≤100)
    (q:wpSs G hm r l (H.upd d (.ns (stored kvs a v))) Q X):wpSs G hm (.asgAttr o a e :: r) l H Q X:=ss_setW (w_ev he (w_ev ho (setattr_at hi hn hf hz q)))
theorem setkey_at {d:Addr} {kvs:List (Int×Value)} {n:Int} {t:Tok} {v:Value} {k:Hp→Prop} (hd:H d = some (.idict kvs)) (hz:kvs.length≤sizeLine) (q:k (H.upd d (.idict (stored kvs n v)))):setItemV (.ref d) (.int n t) v H k:=by
  conv=>whnf
  rw [hd]
  exact ⟨hz,q⟩
theorem ss_keyW {o i e:Ex} (q:wpE G hm e l H (fun v H1=>wpE G hm o l H1 (fun ov H2=>wpE G hm i l H2 (fun iv H3=>setItemV ov iv v H3 fun H'=>wpSs G hm r l H' Q X) (fun C H'=>X C l H')) (fun C H'=>X C l H')) (fun C H'=>X C l H')):wpSs G hm (.asgIdx o i e :: r) l H Q X:=q
theorem ss_key {o i e:Ex} {v:Value} {d:Addr} {kvs:List (Int×Value)} {n:Int} {t:Tok} (he:Ev G hm e l H v) (ho:Ev G hm o l H (.ref d)) (hi:Ev G hm i l H (.int n t)) (hd:H d = some (.idict kvs)) (hz:kvs.length≤sizeLine)
    (q:wpSs G hm r l (H.upd d (.idict (stored kvs n v))) Q X):wpSs G hm (.asgIdx o i e :: r) l H Q X:=ss_keyW (w_ev he (w_ev ho (w_ev hi (setkey_at hd hz q))))
theorem ss_cont (q:Q .cont l H):wpSs G hm (.cont :: r) l H Q X:=q
theorem tv_t {t f:Prop} (q:t):truthV (.bool true) fun b=>if b = true then t else f:=by
  show if true = true then t else f
  rw [if_pos rfl];exact q
theorem tv_f {t f:Prop} (q:f):truthV (.bool false) fun b=>if b = true then t else f:=by
  show if false = true then t else f
  rw [if_neg nofun];exact q
theorem bo_go {k:Bool} {t:Prop} {f:Bool→Prop} (q:t):truthV (.bool k) fun b=>if b = k then t else f b:=by
  show if k = k then t else f k
  rw [if_pos rfl];exact q
theorem bo_stop {k:Bool} {t:Prop} {f:Bool→Prop} (q:f (!k)):truthV (.bool (!k)) fun b=>if b = k then t else f b:=by
  show if (!k) = k then t else f (!k)
  rw [if_neg (by cases k <;> exact nofun)];exact q
theorem cmp_eqs {p r:Str} {t u:Tok} {b:Bool} {Q:QV} (h:decide (p = r) = b) (q:Q (.bool b) H):cmpV .Eq (.str p t) (.str r u) H Q:=by subst h;exact q
theorem cmp_is {v:Value} {b:Bool} {Q:QV} (h:isN v = some b) (q:Q (.bool b) H):cmpV .Is v .none H Q:=by cases v <;> first | (cases h;exact q) | cases h
theorem ss_forW {x:Str} {src:Ex} {body:List Sm} (q:wpE G hm src l H (fun v H1=>iterH hm v H1 fun guard items=>forG guard x (fun l' H' K=>wpSs G hm body l' H' K X) items l H1 (sq G hm r Q X)) (fun C H'=>X C l H')):wpSs G hm (.for_ x src body :: r) l H Q X:=q
theorem ss_for {x:Str} {src:Ex} {body:List Sm} {a:Addr} {o:AObj} {xs:List Value} (hs:Ev G false src l H (.ref a)) (ha:H a = some o) (ho:seqI o = some xs)
    (q:forG (fun H'=>H' a = some o) x (fun l' H' K=>wpSs G false body l' H' K X) xs l H (sq G false r Q X)):wpSs G false (.for_ x src body :: r) l H Q X:=ss_forW (w_ev hs (.inl ⟨rfl,iter_at ha ho q⟩))
theorem ss_forI {x:Str} {src:Ex} {body:List Sm} {a:Addr} {o:AObj} {xs:List Value} (I:List Value→Loc→Hp→Prop) (hs:Ev G false src l H (.ref a)) (ha:H a = some o) (ho:seqI o = some xs)
    (hg:∀ r l H,I r l H→H a = some o)
    (hb:∀ v rs l' H',I (v :: rs) l' H'→∀ K:QS,(∀ l' H',I rs l' H'→K .next l' H'∧K .cont l' H')→(∀ ρ l' H',Q (.ret ρ) l' H'→K (.ret ρ) l' H')→wpSs G false body (l'.upd x v) H' K X)
    (h0:I xs l H) (hq:∀ l' H',I [] l' H'→wpSs G false r l' H' Q X):wpSs G false (.for_ x src body :: r) l H Q X :=
  ss_for hs ha ho (forG_list I hg hb hq xs l H h0)
theorem ss_forR {x:Str} {e:Ex} {body:List Sm} {n:Nat} {t:Tok} (I:Nat→Loc→Hp→Prop) (he:Ev G false e l H (.int (n:Int) t)) (hz:n < 2 ^ 60)
    (hb:∀ i,i < n→∀ l' H',I i l' H'→∀ K:QS,(∀ l' H',I (i + 1) l' H'→K .next l' H'∧K .cont l' H')→(∀ ρ l' H',Q (.ret ρ) l' H'→K (.ret ρ) l' H')→wpSs G false body (l'.upd x (.int (i:Int) 0)) H' K X)
    (h0:∀ c,H c = none→I 0 l (H.upd c (.range 0 n 1))) (hq:∀ l' H',I n l' H'→wpSs G false r l' H' Q X):wpSs G false (.for_ x (.bf .range [e]) body :: r) l H Q X :=
  ss_forW (w_range he (up60 hz) (lo60 n) fun c hc=>.inl ⟨rfl,by
    have h1:=h0 c hc
    have hcc:(H.upd c (.range 0 n 1)) c = some (.range 0 n 1):=Hp.upd_same _ _ _
    generalize H.upd c (.range 0 n 1) = H1 at *
    conv=>whnf
    rw [hcc]
    exact ⟨small_nat hz,forG_range I (fun _ _ _ _=>trivial) hb hq h1⟩⟩)
theorem ss_while {c:Ex} {body:List Sm} (n:Nat) (q:whileN (fun l' H' K=>wpE G hm c l' H' (fun v H1=>truthV v fun b=>K b H1) (fun C H'=>X C l' H')) (fun l' H' K=>wpSs G hm body l' H' K X) (sq G hm r Q X) n l H):wpSs G hm (.while_ c body :: r) l H Q X:=⟨n,q⟩
theorem ss_tryW {body:List Sm} {hs:List Hd} (q:wpSs G hm body l H (sq G hm r Q X) fun C l' H'=>hm = false∧G.isExc C = true∧wpH G hs C l' H' (sq G hm r Q X) X):wpSs G hm (.try_ body hs :: r) l H Q X:=q
noncomputable def fq (Q:QV):QS:=fun f _ H'=>match f with | .next=>Q .none H' | .ret v=>Q v H' | .cont=>False
noncomputable def fx (X:XV):XS:=fun C _ H'=>X C H'
theorem f_in {ps:List Str} {body:List Sm} {args:List Value} {Q:QV} {X:XV} (hl:ps.length = args.length) (q:wpSs G hm body (fun x=>(ps.zip args).lookup x) H (fq Q) (fx X)):wpF G hm ps body args H Q X:=⟨hl,q⟩
end
end Mine
end

section
open PySem PyProof.Rows
namespace Mine.St
open Mine
noncomputable def b_is_name:List Sm:=[.ite (.bop false [.not (.isi (.loc "thing") .str), .not (.cmp2 (.int 1) .LtE (.bf .len [.loc "thing"]) .LtE (.glob "MOST"))]) [.ret (.bool false)] [], .ret (.bf .all [.comp (.cmp (.loc "sign") .In (.glob "LETTERS")) "sign" (.loc "thing") []])]
noncomputable def b_checked:List Sm:=[.ite (.bop false [.not (.isi (.loc "path") .listOrTuple), .cmp (.bf .len [.loc "path"]) .Gt (.glob "MOST")]) [.raise "BadPath"] [], .ite (.not (.bf .all [.comp (.call (.glob "is_name") [.loc "one"]) "one" (.loc "path") []])) [.raise "BadPath"] [], .ret (.bf .list [.loc "path"])]
noncomputable def b_Pile___init__:List Sm:=[.asgAttr (.loc "self") "boxes" (.dict [] []), .asgAttr (.loc "self") "counts" (.dict [] []), .asgAttr (.loc "self") "made" (.int 0)]
noncomputable def b_Pile_need:List Sm:=[.ite (.bop false [.isi (.loc "box") .bool, .not (.isi (.loc "box") .int), .cmp (.loc "box") .NotIn (.attr (.loc "self") "boxes")]) [.raise "NoBox"] [], .ret (.loc "box")]
noncomputable def b_Pile_fresh:List Sm:=[.asgAttr (.loc "self") "made" (.bin .Add (.attr (.loc "self") "made") (.int 1)), .asgIdx (.attr (.loc "self") "boxes") (.attr (.loc "self") "made") (.loc "what"), .asgIdx (.attr (.loc "self") "counts") (.attr (.loc "self") "made") (.int 0), .ret (.attr (.loc "self") "made")]
noncomputable def b_Pile_leaf:List Sm:=[.ret (.meth (.loc "self") "fresh" [.tup [.str "leaf", .loc "number"]])]
noncomputable def b_Pile_branch:List Sm:=[.for_ "row" (.loc "rows") [.expr (.meth (.loc "self") "need" [.idx (.loc "row") (.int 1)])], .for_ "row" (.loc "rows") [.expr (.meth (.loc "self") "hold" [.idx (.loc "row") (.int 1)])], .ret (.meth (.loc "self") "fresh" [.tup [.str "branch", .bf .list [.loc "rows"]]])]
noncomputable def b_Pile_content:List Sm:=[.asg "what" (.idx (.attr (.loc "self") "boxes") (.meth (.loc "self") "need" [.loc "box"])), .ite (.cmp (.idx (.loc "what") (.int 0)) .Eq (.str "branch")) [.ret (.tup [.str "branch", .bf .list [.idx (.loc "what") (.int 1)]])] [], .ret (.loc "what")]
noncomputable def b_Pile_hold:List Sm:=[.expr (.meth (.loc "self") "need" [.loc "box"]), .asgIdx (.attr (.loc "self") "counts") (.loc "box") (.bin .Add (.idx (.attr (.loc "self") "counts") (.loc "box")) (.int 1))]
noncomputable def b_Pile_let_go:List Sm:=[.asg "waiting" (.list [.meth (.loc "self") "need" [.loc "box"]]), .asg "gone" (.int 0), .while_ (.cmp (.loc "waiting") .NotEq (.list [])) [.asg "one" (.bm .pop (.loc "waiting") []), .ite (.cmp (.loc "one") .NotIn (.attr (.loc "self") "boxes")) [.cont] [], .asgIdx (.attr (.loc "self") "counts") (.loc "one") (.bf .max2 [.int 0, .bin .Sub (.idx (.attr (.loc "self") "counts") (.loc "one")) (.int 1)]), .ite (.cmp (.idx (.attr (.loc "self") "counts") (.loc "one")) .Eq (.int 0)) [.asg "what" (.bm .pop (.attr (.loc "self") "boxes") [.loc "one"]), .expr (.bm .pop (.attr (.loc "self") "counts") [.loc "one"]), .asg "gone" (.bin .Add (.loc "gone") (.int 1)), .ite (.cmp (.idx (.loc "what") (.int 0)) .Eq (.str "branch")) [.asg "waiting" (.bin .Add (.loc "waiting") (.comp (.idx (.loc "row") (.int 1)) "row" (.idx (.loc "what") (.int 1)) []))] []] []], .ret (.loc "gone")]
noncomputable def b_Pile_kept:List Sm:=[.ret (.bf .sorted [.attr (.loc "self") "boxes"])]
noncomputable def b_box_of:List Sm:=[.for_ "row" (.loc "rows") [.ite (.cmp (.idx (.loc "row") (.int 0)) .Eq (.loc "name")) [.ret (.idx (.loc "row") (.int 1))] []], .ret (.none)]
noncomputable def b_without:List Sm:=[.ret (.comp (.loc "row") "row" (.loc "rows") [.cmp (.idx (.loc "row") (.int 0)) .NotEq (.loc "name")])]
noncomputable def b_placed:List Sm:=[.asg "ahead" (.comp (.loc "row") "row" (.loc "rows") [.cmp (.idx (.loc "row") (.int 0)) .Lt (.loc "name")]), .asg "behind" (.comp (.loc "row") "row" (.loc "rows") [.cmp (.idx (.loc "row") (.int 0)) .Gt (.loc "name")]), .ret (.bin .Add (.bin .Add (.loc "ahead") (.list [.tup [.loc "name", .loc "box"]])) (.loc "behind"))]
noncomputable def b_need_way:List Sm:=[.asg "names" (.call (.glob "checked") [.loc "path"]), .ite (.cmp (.loc "names") .Eq (.list [])) [.raise "BadPath"] [], .ret (.loc "names")]
noncomputable def b_need_number:List Sm:=[.ite (.bop false [.isi (.loc "number") .bool, .not (.isi (.loc "number") .int), .not (.cmp2 (.neg (.glob "BOUND")) .Lt (.loc "number") .Lt (.glob "BOUND"))]) [.raise "BadNumber"] []]
noncomputable def b_Store___init__:List Sm:=[.asgAttr (.loc "self") "pile" (.call (.glob "Pile") []), .asgAttr (.loc "self") "tree" (.meth (.attr (.loc "self") "pile") "branch" [.list []]), .expr (.meth (.attr (.loc "self") "pile") "hold" [.attr (.loc "self") "tree"]), .asgAttr (.loc "self") "shots" (.dict [] []), .asgAttr (.loc "self") "last" (.int 0)]
noncomputable def b_Store_top:List Sm:=[.ite (.cmp (.loc "view") .Is (.none)) [.ret (.attr (.loc "self") "tree")] [], .ite (.bop false [.isi (.loc "view") .bool, .not (.isi (.loc "view") .int), .cmp (.loc "view") .NotIn (.attr (.loc "self") "shots")]) [.raise "NoShot"] [], .ret (.idx (.attr (.loc "self") "shots") (.loc "view"))]
noncomputable def b_Store_found:List Sm:=[.for_ "name" (.loc "names") [.asg "what" (.meth (.attr (.loc "self") "pile") "content" [.loc "box"]), .ite (.cmp (.idx (.loc "what") (.int 0)) .Eq (.str "leaf")) [.ret (.none)] [], .asg "box" (.call (.glob "box_of") [.idx (.loc "what") (.int 1), .loc "name"]), .ite (.cmp (.loc "box") .Is (.none)) [.ret (.none)] []], .ret (.loc "box")]
noncomputable def b_Store_ways:List Sm:=[.asg "found" (.list []), .for_ "k" (.bf .range [.bf .len [.loc "names"]]) [.asg "box" (.meth (.loc "self") "found" [.attr (.loc "self") "tree", .slice (.loc "names") none (some (.loc "k"))]), .ite (.cmp (.loc "box") .Is (.none)) [.expr (.bm .append (.loc "found") [.list []])] [.expr (.bm .append (.loc "found") [.idx (.meth (.attr (.loc "self") "pile") "content" [.loc "box"]) (.int 1)])]], .ret (.loc "found")]
noncomputable def b_Store_changed:List Sm:=[.asg "old" (.attr (.loc "self") "tree"), .expr (.meth (.attr (.loc "self") "pile") "hold" [.loc "box"]), .asgAttr (.loc "self") "tree" (.loc "box"), .ret (.meth (.attr (.loc "self") "pile") "let_go" [.loc "old"])]
noncomputable def b_Store_put:List Sm:=[.asg "names" (.call (.glob "need_way") [.loc "path"]), .expr (.call (.glob "need_number") [.loc "number"]), .for_ "k" (.bf .range [.int 1, .bf .len [.loc "names"]]) [.ite (.cmp (.meth (.loc "self") "kind" [.none, .slice (.loc "names") none (some (.loc "k"))]) .Eq (.str "leaf")) [.raise "LeafThere"] []], .asg "kind" (.meth (.loc "self") "kind" [.none, .loc "names"]), .ite (.cmp (.loc "kind") .Eq (.str "branch")) [.raise "BranchThere"] [], .ite (.bop true [.cmp (.loc "kind") .Eq (.str "leaf"), .cmp (.meth (.loc "self") "value" [.none, .loc "names"]) .Eq (.loc "number")]) [.ret (.int 0)] [], .asg "ways" (.meth (.loc "self") "ways" [.loc "names"]), .asg "box" (.meth (.attr (.loc "self") "pile") "leaf" [.loc "number"]), .for_ "k" (.bf .range [.bin .Sub (.bf .len [.loc "names"]) (.int 1), .neg (.int 1), .neg (.int 1)]) [.asg "box" (.meth (.attr (.loc "self") "pile") "branch" [.call (.glob "placed") [.idx (.loc "ways") (.loc "k"), .idx (.loc "names") (.loc "k"), .loc "box"]])], .ret (.meth (.loc "self") "changed" [.loc "box"])]
noncomputable def b_Store_cut:List Sm:=[.asg "names" (.call (.glob "need_way") [.loc "path"]), .ite (.cmp (.meth (.loc "self") "found" [.attr (.loc "self") "tree", .loc "names"]) .Is (.none)) [.raise "Nothing"] [], .asg "ways" (.meth (.loc "self") "ways" [.loc "names"]), .asg "box" (.meth (.attr (.loc "self") "pile") "branch" [.call (.glob "without") [.idx (.loc "ways") (.neg (.int 1)), .idx (.loc "names") (.neg (.int 1))]]), .for_ "k" (.bf .range [.bin .Sub (.bf .len [.loc "names"]) (.int 2), .neg (.int 1), .neg (.int 1)]) [.asg "box" (.meth (.attr (.loc "self") "pile") "branch" [.call (.glob "placed") [.idx (.loc "ways") (.loc "k"), .idx (.loc "names") (.loc "k"), .loc "box"]])], .ret (.meth (.loc "self") "changed" [.loc "box"])]
noncomputable def b_Store_snap:List Sm:=[.asgAttr (.loc "self") "last" (.bin .Add (.attr (.loc "self") "last") (.int 1)), .asgIdx (.attr (.loc "self") "shots") (.attr (.loc "self") "last") (.attr (.loc "self") "tree"), .expr (.meth (.attr (.loc "self") "pile") "hold" [.attr (.loc "self") "tree"]), .ret (.attr (.loc "self") "last")]
noncomputable def b_Store_shot:List Sm:=[.ite (.cmp (.loc "number") .Is (.none)) [.raise "NoShot"] [], .ret (.meth (.loc "self") "top" [.loc "number"])]
noncomputable def b_Store_drop:List Sm:=[.asg "box" (.meth (.loc "self") "shot" [.loc "shot"]), .expr (.bm .pop (.attr (.loc "self") "shots") [.loc "shot"]), .ret (.meth (.attr (.loc "self") "pile") "let_go" [.loc "box"])]
noncomputable def b_Store_back:List Sm:=[.ret (.meth (.loc "self") "changed" [.meth (.loc "self") "shot" [.loc "shot"]])]
noncomputable def b_Store_shot_numbers:List Sm:=[.ret (.bf .sorted [.attr (.loc "self") "shots"])]
noncomputable def b_Store_kind:List Sm:=[.asg "box" (.meth (.loc "self") "found" [.meth (.loc "self") "top" [.loc "view"], .call (.glob "checked") [.loc "path"]]), .ite (.cmp (.loc "box") .Is (.none)) [.ret (.none)] [], .ret (.idx (.meth (.attr (.loc "self") "pile") "content" [.loc "box"]) (.int 0))]
noncomputable def b_Store_value:List Sm:=[.asg "kind" (.meth (.loc "self") "kind" [.loc "view", .loc "path"]), .ite (.cmp (.loc "kind") .Is (.none)) [.raise "Nothing"] [], .ite (.cmp (.loc "kind") .Eq (.str "branch")) [.raise "BranchThere"] [], .ret (.idx (.meth (.attr (.loc "self") "pile") "content" [.meth (.loc "self") "found" [.meth (.loc "self") "top" [.loc "view"], .call (.glob "checked") [.loc "path"]]]) (.int 1))]
noncomputable def b_Store_names:List Sm:=[.asg "kind" (.meth (.loc "self") "kind" [.loc "view", .loc "path"]), .ite (.cmp (.loc "kind") .Is (.none)) [.raise "Nothing"] [], .ite (.cmp (.loc "kind") .Eq (.str "leaf")) [.raise "LeafThere"] [], .asg "rows" (.idx (.meth (.attr (.loc "self") "pile") "content" [.meth (.loc "self") "found" [.meth (.loc "self") "top" [.loc "view"], .call (.glob "checked") [.loc "path"]]]) (.int 1)), .ret (.comp (.idx (.loc "row") (.int 0)) "row" (.loc "rows") [])]
section
variable {α:Type}
noncomputable def get (l:List (Int×α)) (i:Int):Option α:=(l.find? fun p=>p.1 = i).map (·.2)
noncomputable def put (l:List (Int×α)) (i:Int) (a:α):List (Int×α):=if l.any (fun p=>p.1 = i) then l.map (fun p=>if p.1 = i then (p.1,a) else p) else l++[(i,a)]
noncomputable def del (l:List (Int×α)) (i:Int):List (Int×α):=l.filter fun p=>decide (p.1≠i)
theorem all2_get {R:Value→α→Prop} {vs:List (Int×Value)} {bs:List (Int×α)} (h:All2 (fun p q=>p.1 = q.1∧R p.2 q.2) vs bs) (i:Int) :
    (∃ v c,valueAt vs i = some v∧get bs i = some c∧R v c)∨(valueAt vs i = none∧get bs i = none):=by
  induction h with
  | nil=>exact .inr ⟨rfl,rfl⟩
  | @cons p q vs bs h1 _ ih =>
    unfold valueAt get at ih ⊢
    simp only [List.find?_cons]
    by_cases e:p.1 = i
    · rw [decide_eq_true e,decide_eq_true (h1.1 ▸ e)]
      exact .inl ⟨_,_,rfl,rfl,h1.2⟩
    · rw [decide_eq_false e,decide_eq_false (h1.1 ▸ e)]
      exact ih
theorem all2_any {R:Value→α→Prop} {vs:List (Int×Value)} {bs:List (Int×α)} (h:All2 (fun p q=>p.1 = q.1∧R p.2 q.2) vs bs) (i:Int):(vs.any fun p=>p.1 = i) = (bs.any fun p=>p.1 = i):=by
  induction h with
  | nil=>rfl
  | cons h1 _ ih=>simp only [List.any_cons,h1.1,ih]
theorem all2_append {β:Type} {R:α→β→Prop} {a1 a2:List α} {b1 b2:List β} (h1:All2 R a1 b1) (h2:All2 R a2 b2):All2 R (a1++a2) (b1++b2):=by
  induction h1 with
  | nil=>exact h2
  | cons h _ ih=>exact .cons h ih
theorem all2_put {R:Value→α→Prop} {vs:List (Int×Value)} {bs:List (Int×α)} (h:All2 (fun p q=>p.1 = q.1∧R p.2 q.2) vs bs) (i:Int) {v:Value} {a:α} (ha:R v a):All2 (fun p q=>p.1 = q.1∧R p.2 q.2) (stored vs i v) (put bs i a):=by
  unfold stored put
  rw [all2_any h i]
  split
  · rename_i hany;clear hany
    induction h with
    | nil=>exact .nil
    | @cons p q vs bs h1 _ ih =>
      refine .cons ?_ ih
      simp only
      by_cases e:p.1 = i
      · rw [if_pos e,if_pos (h1.1 ▸ e)];exact ⟨h1.1,ha⟩
      · rw [if_neg e,if_neg (h1.1 ▸ e)];exact h1
  · exact all2_append h (.cons ⟨rfl,ha⟩ .nil)
theorem all2_del {R:Value→α→Prop} {vs:List (Int×Value)} {bs:List (Int×α)} (h:All2 (fun p q=>p.1 = q.1∧R p.2 q.2) vs bs) (i:Int):All2 (fun p q=>p.1 = q.1∧R p.2 q.2) (PySem.without vs i) (del bs i):=by
  unfold PySem.without del
  induction h with
  | nil=>exact .nil
  | @cons p q vs bs h1 _ ih =>
    simp only [List.filter_cons]
    by_cases e:p.1 = i
    · rw [if_neg (by simp [e]),if_neg (by simp [← h1.1,e])];exact ih
    · rw [if_pos (by simp [e]),if_pos (by simp [← h1.1,e])];exact .cons h1 ih
theorem all2_len {β:Type} {R:α→β→Prop} {a:List α} {b:List β} (h:All2 R a b):a.length = b.length:=by
  induction h with
  | nil=>rfl
  | cons _ _ ih=>simp [ih]
theorem all2_keys {R:Value→α→Prop} {vs:List (Int×Value)} {bs:List (Int×α)} (h:All2 (fun p q=>p.1 = q.1∧R p.2 q.2) vs bs):vs.map (·.1) = bs.map (·.1):=by
  induction h with
  | nil=>rfl
  | cons h1 _ ih=>simp [ih,h1.1]
theorem all2_imp {β:Type} {R S:α→β→Prop} (f:∀ a b,R a b→S a b) {a:List α} {b:List β} (h:All2 R a b):All2 S a b:=by
  induction h with
  | nil=>exact .nil
  | cons h _ ih=>exact .cons (f _ _ h) ih
theorem get_none {l:List (Int×α)} {m:Int} (h:m ∉ l.map (·.1)):get l m = none:=by
  unfold get
  rw [Option.map_eq_none_iff,List.find?_eq_none]
  intro p hp e
  exact h (List.mem_map.2 ⟨p,hp,of_decide_eq_true e⟩)
theorem get_mem {l:List (Int×α)} {m:Int} {a:α} (h:get l m = some a):m∈l.map (·.1):=by
  apply Decidable.byContradiction
  intro n
  rw [get_none n] at h;cases h
theorem put_new {l:List (Int×α)} {m:Int} (a:α) (h:m ∉ l.map (·.1)):put l m a = l++[(m,a)]:=by
  unfold put
  rw [if_neg]
  intro e
  obtain ⟨p,hp,e⟩:=List.any_eq_true.1 e
  exact h (List.mem_map.2 ⟨p,hp,of_decide_eq_true e⟩)
theorem get_cons (p:Int×α) (l:List (Int×α)) (j:Int):get (p :: l) j = if p.1 = j then some p.2 else get l j:=by
  unfold get
  rw [List.find?_cons]
  by_cases e:p.1 = j
  · rw [if_pos e,decide_eq_true e];rfl
  · rw [if_neg e,decide_eq_false e]
theorem get_store (l:List (Int×α)) (i j:Int) (a:α):get (l.map fun p=>if p.1 = i then (p.1,a) else p) j = if j = i then (if l.any (fun p=>p.1 = i) then some a else none) else get l j:=by
  induction l with
  | nil=>simp [get]
  | cons p l ih =>
    rw [List.map_cons,get_cons,get_cons,List.any_cons,ih]
    by_cases e:p.1 = i
    · rw [if_pos e]
      by_cases ej:j = i
      · subst ej;simp [e]
      · rw [if_neg ej,if_neg (fun q=>ej (by rw [← q];exact e)),if_neg ej,if_neg (fun q=>ej (by rw [← q];exact e))]
    · rw [if_neg e,decide_eq_false e,Bool.false_or]
      by_cases ej:j = i
      · subst ej;rw [if_neg e,if_pos rfl,if_pos rfl]
      · rw [if_neg ej,if_neg ej]
theorem get_append (l m:List (Int×α)) (j:Int):get (l++m) j = (get l j).or (get m j):=by
  induction l with
  | nil=>simp [get]
  | cons p l ih =>
    rw [List.cons_append,get_cons,get_cons,ih]
    split <;> simp
theorem get_put (l:List (Int×α)) (i j:Int) (a:α):get (put l i a) j = if j = i then some a else get l j:=by
  unfold put
  split
  · rename_i h;rw [get_store,if_pos h]
  · rename_i h
    rw [get_append,get_cons]
    by_cases e:j = i
    · subst e
      have:get l j = none:=get_none fun q=>h (by
        obtain ⟨p,hp,e⟩:=List.mem_map.1 q
        exact List.any_eq_true.2 ⟨p,hp,decide_eq_true e⟩)
      rw [this];simp
    · rw [if_neg e,if_neg (fun q=>e q.symm)];simp [get]
theorem get_del (l:List (Int×α)) (i j:Int):get (del l i) j = if j = i then none else get l j:=by
  induction l with
  | nil=>simp [get,del]
  | cons p l ih =>
    unfold del at ih ⊢
    rw [List.filter_cons,get_cons]
    by_cases e:p.1 = i
    · rw [if_neg (by simp [e]),ih]
      by_cases ej:j = i
      · rw [if_pos ej,if_pos ej]
      · rw [if_neg ej,if_neg ej,if_neg (fun q=>ej (by rw [← q];exact e))]
    · rw [if_pos (by simp [e]),get_cons,ih]
      by_cases ej:j = i
      · subst ej;rw [if_neg e,if_pos rfl,if_pos rfl]
      · rw [if_neg ej,if_neg ej]
end
noncomputable abbrev Ad:=Str→Str→Addr
noncomputable def has (x:Str) (l:List Str):Bool:=l.any fun y=>decide (y = x)
structure Env (G:Gx) (A:Ad):Prop where
  nobox:G.glob "NoBox" = some (.ref (A "NoBox" ""))
  nobe:G.isExc (A "NoBox" "") = true
  pm:∀ {m:Str},has m ["need", "fresh", "leaf", "branch", "content", "hold", "holders", "let_go", "kept"] = true→G.meth (A "Pile" "") m = some (A "Pile" m)
  pf:∀ {a:Str},has a ["boxes", "counts", "made"] = true→G.fld (A "Pile" "") a = true
structure EnvS (G:Gx) (A:Ad):Prop where
  p:Env G A
  ex:∀ {x:Str},has x ["SnapError", "BadPath", "BadNumber", "Nothing", "LeafThere", "BranchThere", "NoShot"] = true→G.glob x = some (.ref (A x ""))∧G.isExc (A x "") = true
  fn:∀ {x:Str},has x ["is_name", "checked", "box_of", "placed", "need_way", "need_number"] = true→G.glob x = some (.ref (A x ""))∧G.init (A x "") = none
  letters:G.glob "LETTERS" = some (.str "abcdefghijklmnopqrstuvwxyz" 0)
  most:G.glob "MOST" = some (.int 8 0)
  bound:G.glob "BOUND" = some (.int (10 ^ 30) 0)
  pile:G.glob "Pile" = some (.ref (A "Pile" ""))
  ipile:G.init (A "Pile" "") = some (A "Pile" "__init__")
  store:G.glob "Store" = some (.ref (A "Store" ""))
  istore:G.init (A "Store" "") = some (A "Store" "__init__")
  sm:∀ {m:Str},has m ["top", "found", "ways", "changed", "put", "cut", "snap", "shot", "drop", "back", "shot_numbers", "kind", "value", "names", "both", "changes"] = true→G.meth (A "Store" "") m = some (A "Store" m)
  sf:∀ {a:Str},has a ["pile", "tree", "shots", "last"] = true→G.fld (A "Store" "") a = true
structure PileAt (A:Ad) (H:Hp) (x d bx ct:Addr) (bs cs:List (Int×Value)) (mk:Int):Prop where
  i:H x = some (.inst (A "Pile" "") d)
  n:H d = some (.ns [("boxes", .ref bx),("counts", .ref ct),("made", .int mk 0)])
  b:H bx = some (.idict bs)
  c:H ct = some (.idict cs)
  ne:bx≠ct
inductive Ct where
  | leaf (n:Int)
  | br (rows:List (Str×Int))
noncomputable def chg:AObj→Bool
  | .ns _=>true
  | .idict _=>true
  | .sdict _=>true
  | _=>false
noncomputable def Kp (M:List Addr) (H H':Hp):Prop:=∀ a o,H a = some o→(chg o = false∨a ∉ M)→H' a = some o
theorem Kp.refl (M:List Addr) (H:Hp):Kp M H H:=fun _ _ h _=>h
theorem Kp.trans {M:List Addr} {H H1 H2:Hp} (h1:Kp M H H1) (h2:Kp M H1 H2):Kp M H H2:=fun a o h n=>h2 a o (h1 a o h n) n
theorem Kp.mono {M M':List Addr} {H H':Hp} (h:Kp M H H') (s:∀ a,a∈M→a∈M'):Kp M' H H':=fun a o e n=>h a o e (n.imp id fun n q=>n (s a q))
theorem kp_new {M:List Addr} {H:Hp} {c:Addr} (hc:H c = none) (o:AObj):Kp M H (H.upd c o):=fun a o' h _=>(Hp.upd_ne _ _ fun e=>by rw [e,hc] at h;cases h).trans h
theorem kp_upd {M:List Addr} {H:Hp} {d:Addr} {o':AObj} (hd:H d = some o') (hm:chg o' = true) (hM:d∈M) (o:AObj):Kp M H (H.upd d o):=fun a p h n=>by
  refine (Hp.upd_ne _ _ fun e=>?_).trans h
  subst e
  rw [hd] at h;cases h
  rcases n with n | n
  · rw [hm] at n;cases n
  · exact n hM
theorem Kp.tup {M:List Addr} {H H':Hp} (h:Kp M H H') {a:Addr} {xs:List Value} (e:H a = some (.tup xs)):H' a = some (.tup xs):=h a _ e (.inl rfl)
theorem Kp.list {M:List Addr} {H H':Hp} (h:Kp M H H') {a:Addr} {xs:List Value} (e:H a = some (.list xs)):H' a = some (.list xs):=h a _ e (.inl rfl)
noncomputable def RRow (H:Hp) (v:Value) (r:Str×Int):Prop:=∃ a,v = .ref a∧H a = some (.tup [.str r.1 0, .int r.2 0])
noncomputable def RCt (H:Hp) (v:Value):Ct→Prop
  | .leaf n=>∃ a,v = .ref a∧H a = some (.tup [.str (Str.ofString "leaf") 0, .int n 0])
  | .br rows=>∃ a l xs,v = .ref a∧H a = some (.tup [.str (Str.ofString "branch") 0, .ref l])∧H l = some (.list xs)∧All2 (RRow H) xs rows
theorem RRow.kp {M:List Addr} {H H':Hp} (k:Kp M H H') {v:Value} {r:Str×Int} (h:RRow H v r):RRow H' v r:=let ⟨a,e,q⟩:=h;⟨a,e,k.tup q⟩
theorem RCt.kp {M:List Addr} {H H':Hp} (k:Kp M H H') {v:Value}:∀ {c:Ct},RCt H v c→RCt H' v c
  | .leaf _,⟨a,e,q⟩=>⟨a,e,k.tup q⟩
  | .br _,⟨a,l,xs,e,q,q2,q3⟩=>⟨a,l,xs,e,k.tup q,k.list q2,all2_imp (fun _ _ h=>h.kp k) q3⟩
structure PA where
  x:Addr
  d:Addr
  bx:Addr
  ct:Addr
noncomputable abbrev PA.M (π:PA):List Addr:=[π.d,π.bx,π.ct]
noncomputable def vints (cs:List (Int×Int)):List (Int×Value):=cs.map fun p=>(p.1, .int p.2 0)
structure PileR (A:Ad) (H:Hp) (π:PA) (bs:List (Int×Ct)) (cs:List (Int×Int)) (mk:Int):Prop where
  ex:∃ bvs,PileAt A H π.x π.d π.bx π.ct bvs (vints cs) mk∧All2 (fun p q=>p.1 = q.1∧RCt H p.2 q.2) bvs bs
theorem ints_get (cs:List (Int×Int)) (i:Int):valueAt (vints cs) i = (get cs i).map fun k=>.int k 0:=by
  unfold valueAt get vints
  rw [List.find?_map]
  cases h:cs.find? ((fun kv=>decide (kv.1 = i)) ∘ fun (p:Int×Int)=>(p.1,Value.int p.2 0)) with
  | none =>
    have:cs.find? (fun p=>decide (p.1 = i)) = none:=h
    rw [this];rfl
  | some p =>
    have:cs.find? (fun p=>decide (p.1 = i)) = some p:=h
    rw [this];rfl
theorem ints_put (cs:List (Int×Int)) (i k:Int):stored (vints cs) i (.int k 0) = vints (put cs i k):=by
  unfold stored put vints
  rw [List.any_map]
  have:(cs.any ((fun kv=>decide (kv.1 = i)) ∘ fun (p:Int×Int)=>(p.1,Value.int p.2 0))) = cs.any fun p=>decide (p.1 = i):=rfl
  rw [this]
  split
  · rw [List.map_map,List.map_map]
    refine List.map_congr_left fun p _=>?_
    simp only [Function.comp]
    split <;> rfl
  · rw [List.map_append];rfl
theorem ints_del (cs:List (Int×Int)) (i:Int):PySem.without (vints cs) i = vints (del cs i):=by
  unfold PySem.without del vints
  rw [List.filter_map];rfl
theorem ints_len (cs:List (Int×Int)):(vints cs).length = cs.length:=by simp [vints]
end Mine.St
end

section
open PySem PyProof.Rows Mine Mine.St
local macro_rules | `(tactic| got_up) => `(tactic| first | assumption | exact PileAt.i ‹_› | exact PileAt.n ‹_› | exact PileAt.b ‹_› | exact PileAt.c ‹_›)
local macro_rules | `(tactic| nest_cls) => `(tactic| first
  | assumption | exact Env.pf ‹_› rfl | exact Env.pm ‹_› rfl
  | exact Env.pf (EnvS.p ‹_›) rfl | exact Env.pm (EnvS.p ‹_›) rfl | exact EnvS.sf ‹_› rfl | exact EnvS.sm ‹_› rfl
  | exact EnvS.letters ‹_› | exact EnvS.most ‹_› | exact EnvS.bound ‹_› | exact EnvS.pile ‹_› | exact EnvS.store ‹_› | exact EnvS.ipile ‹_› | exact EnvS.istore ‹_›
  | exact (EnvS.fn ‹_› rfl).1 | exact (EnvS.fn ‹_› rfl).2 | exact (EnvS.ex ‹_› rfl).1 | exact (EnvS.ex ‹_› rfl).2 | exact Env.nobox ‹_› | exact Env.nobe ‹_›)
local macro_rules | `(tactic| mem_news) => `(tactic| first
  | exact ev_loc rfl | exact ev_loc (by assumption) | exact ev_int | exact ev_str | exact ev_none | exact ev_bool
  | (apply ev_glob;nest_cls)
  | (apply ev_attr;mem_news;got_up;got_up;nest_cls;rfl;rfl)
  | (apply ev_at;mem_news;mem_news;got_up;rfl;(first | rfl | assumption))
  | (apply ev_key;mem_news;mem_news;got_up;assumption)
  | ((first | apply ev_not | apply ev_isi);mem_news;rfl)
  | ((first | apply ev_isir | apply ev_len);mem_news;got_up;rfl)
  | ((first | apply ev_is | apply ev_isnot);mem_news;(first | rfl | assumption))
  | ((first | apply ev_add | apply ev_sub | apply ev_max | apply ev_go | apply evl_cons);mem_news;mem_news)
  | (apply ev_stop;mem_news)
  | ((first | apply ev_neg | apply ev_one);mem_news)
  | ((first | apply ev_eq | apply ev_ne | apply ev_lt | apply ev_gt);mem_news;mem_news;(first | rfl | assumption))
  | ((first | apply ev_eqs | apply ev_nes | apply ev_lts | apply ev_gts | apply ev_ins);mem_news;mem_news;(first | rfl | assumption))
  | ((first | apply ev_in | apply ev_notin);mem_news;mem_news;got_up;(first | rfl | assumption))
  | exact evl_nil)

section
open PySem PyProof.Rows
namespace Mine.St
open Mine
theorem ev_cast {G:Gx} {hm:Bool} {e:Ex} {l:Loc} {H:Hp} {v w:Value} (h:Ev G hm e l H v) (q:v = w):Ev G hm e l H w:=q ▸ h
section
variable {A:Ad} {G:Gx} {H:Hp} {π:PA} {bs:List (Int×Ct)} {cs:List (Int×Int)} {mk:Int} {Q:QV} {X:XV}
theorem PileAt.ds {x d bx ct:Addr} {bs cs:List (Int×Value)} (hp:PileAt A H x d bx ct bs cs mk):x≠d∧x≠bx∧x≠ct∧d≠bx∧d≠ct:=by
  refine ⟨?_, ?_, ?_, ?_, ?_⟩ <;> (intro e;subst e)
  · have:=hp.i;rw [hp.n] at this;cases this
  · have:=hp.i;rw [hp.b] at this;cases this
  · have:=hp.i;rw [hp.c] at this;cases this
  · have:=hp.n;rw [hp.b] at this;cases this
  · have:=hp.n;rw [hp.c] at this;cases this
theorem PileAt.made {x d bx ct:Addr} {bs cs:List (Int×Value)} (hp:PileAt A H x d bx ct bs cs mk) (mk':Int):PileAt A (H.upd d (.ns [("boxes", .ref bx),("counts", .ref ct),("made", .int mk' 0)])) x d bx ct bs cs mk':=by
  obtain ⟨n1,n2,n3,n4,n5⟩:=hp.ds
  exact ⟨(Hp.upd_ne _ _ n1).trans hp.i,Hp.upd_same _ _ _,(Hp.upd_ne _ _ n4.symm).trans hp.b,(Hp.upd_ne _ _ n5.symm).trans hp.c,hp.ne⟩
theorem PileAt.box {x d bx ct:Addr} {bs cs:List (Int×Value)} (hp:PileAt A H x d bx ct bs cs mk) (bs':List (Int×Value)):PileAt A (H.upd bx (.idict bs')) x d bx ct bs' cs mk:=by
  obtain ⟨n1,n2,n3,n4,n5⟩:=hp.ds
  exact ⟨(Hp.upd_ne _ _ n2).trans hp.i,(Hp.upd_ne _ _ n4).trans hp.n,Hp.upd_same _ _ _,(Hp.upd_ne _ _ hp.ne.symm).trans hp.c,hp.ne⟩
theorem PileAt.cnt {x d bx ct:Addr} {bs cs:List (Int×Value)} (hp:PileAt A H x d bx ct bs cs mk) (cs':List (Int×Value)):PileAt A (H.upd ct (.idict cs')) x d bx ct bs cs' mk:=by
  obtain ⟨n1,n2,n3,n4,n5⟩:=hp.ds
  exact ⟨(Hp.upd_ne _ _ n3).trans hp.i,(Hp.upd_ne _ _ n5).trans hp.n,(Hp.upd_ne _ _ hp.ne).trans hp.b,Hp.upd_same _ _ _,hp.ne⟩
theorem PileAt.kp0 {M:List Addr} {H':Hp} {bs cs:List (Int×Value)} (p:PileAt A H π.x π.d π.bx π.ct bs cs mk) (k:Kp M H H') (h1:π.d ∉ M) (h2:π.bx ∉ M) (h3:π.ct ∉ M):PileAt A H' π.x π.d π.bx π.ct bs cs mk :=
  ⟨k _ _ p.i (.inl rfl),k _ _ p.n (.inr h1),k _ _ p.b (.inr h2),k _ _ p.c (.inr h3),p.ne⟩
theorem PileAt.new {bs cs:List (Int×Value)} (p:PileAt A H π.x π.d π.bx π.ct bs cs mk) {c:Addr} (hc:H c = none) (o:AObj):PileAt A (H.upd c o) π.x π.d π.bx π.ct bs cs mk:=p.kp0 (kp_new (M:=[]) hc o) (by simp) (by simp) (by simp)
theorem PileAt.kd {bs cs:List (Int×Value)} (p:PileAt A H π.x π.d π.bx π.ct bs cs mk) (o:AObj):Kp π.M H (H.upd π.d o):=kp_upd p.n rfl (by simp [PA.M]) o
theorem PileAt.kb {bs cs:List (Int×Value)} (p:PileAt A H π.x π.d π.bx π.ct bs cs mk) (o:AObj):Kp π.M H (H.upd π.bx o):=kp_upd p.b rfl (by simp [PA.M]) o
theorem PileAt.kc {bs cs:List (Int×Value)} (p:PileAt A H π.x π.d π.bx π.ct bs cs mk) (o:AObj):Kp π.M H (H.upd π.ct o):=kp_upd p.c rfl (by simp [PA.M]) o
theorem PileR.kp {M:List Addr} {H':Hp} (h:PileR A H π bs cs mk) (k:Kp M H H') (h1:π.d ∉ M) (h2:π.bx ∉ M) (h3:π.ct ∉ M):PileR A H' π bs cs mk:=by
  obtain ⟨bvs,p,r⟩:=h.ex
  exact ⟨bvs,p.kp0 k h1 h2 h3,all2_imp (fun _ _ q=>⟨q.1,q.2.kp k⟩) r⟩
theorem PileR.kp0 {H':Hp} (h:PileR A H π bs cs mk) (k:Kp [] H H'):PileR A H' π bs cs mk:=h.kp k (by simp) (by simp) (by simp)
theorem PileR.box (h:PileR A H π bs cs mk) {i:Int} {c:Ct} (e:get bs i = some c):∃ bvs v,PileAt A H π.x π.d π.bx π.ct bvs (vints cs) mk∧All2 (fun p q=>p.1 = q.1∧RCt H p.2 q.2) bvs bs∧valueAt bvs i = some v∧RCt H v c:=by
  obtain ⟨bvs,p,r⟩:=h.ex
  rcases all2_get r i with ⟨v,c',h1,h2,h3⟩ | ⟨h1,h2⟩
  · rw [e] at h2;cases h2;exact ⟨bvs,v,p,r,h1,h3⟩
  · rw [e] at h2;cases h2
theorem ints_some {cs:List (Int×Int)} {i k:Int} (h:get cs i = some k):valueAt (vints cs) i = some (.int k 0):=by rw [ints_get,h];rfl
noncomputable def HasF (tab:Tab) (f:Addr) (ps:List Str) (b:List Sm):Prop:=tab f = some (ps,b)
theorem fn_gg {g:Gx} {tab:Tab} {n:Nat} {f:Addr} {ps:List Str} {b:List Sm} (e:HasF tab f ps b) {hm:Bool} {args:List Value} {H:Hp} {Q:QV} {X:XV} (h:wpF (GG g tab n) hm ps b args H Q X):(GG g tab (n + 1)).fn f hm args H Q X:=by
  show (match tab f with | some (ps,sm)=>wpF (GG g tab n) hm ps sm args H Q X | none=>False)
  have e:tab f = some (ps,b):=e
  rw [e];exact h
theorem Env.gg {g:Gx} {A:Ad} (f:Env g A) (tab:Tab) (n:Nat):Env (GG g tab n) A:=by
  cases n <;> exact ⟨f.nobox,f.nobe,f.pm,f.pf⟩
theorem EnvS.gg {g:Gx} {A:Ad} (f:EnvS g A) (tab:Tab) (n:Nat):EnvS (GG g tab n) A:=by
  have:=f.p.gg tab n
  cases n <;> exact ⟨this,f.ex,f.fn,f.letters,f.most,f.bound,f.pile,f.ipile,f.store,f.istore,f.sm,f.sf⟩
noncomputable def C_need (G:Gx) (A:Ad):Prop:=∀ ⦃H:Hp⦄ ⦃π:PA⦄ ⦃bs:List (Int×Ct)⦄ ⦃cs:List (Int×Int)⦄ ⦃mk:Int⦄,PileR A H π bs cs mk→∀ ⦃i:Int⦄ ⦃t:Tok⦄ ⦃c:Ct⦄,get bs i = some c→∀ ⦃hm:Bool⦄ ⦃Q:QV⦄ ⦃X:XV⦄,Q (.int i t) H→G.fn (A "Pile" "need") hm [.ref π.x, .int i t] H Q X
theorem need_ok (F:Env G A) (h:PileR A H π bs cs mk) {i:Int} {t:Tok} {c:Ct} (e:get bs i = some c) {hm:Bool} (q:Q (.int i t) H):wpF G hm ["self", "box"] b_Pile_need [.ref π.x, .int i t] H Q X:=by
  obtain ⟨bvs,v,p,r,hv,_⟩:=h.box e
  refine f_in rfl ?_
  have hb:(!(valueAt bvs i).isSome) = false:=by rw [hv];rfl
  refine ss_iff0 (by mem_news) ?_
  exact ss_ret (by mem_news) q
noncomputable def C_fresh (G:Gx) (A:Ad):Prop:=∀ ⦃H:Hp⦄ ⦃π:PA⦄ ⦃bs:List (Int×Ct)⦄ ⦃cs:List (Int×Int)⦄ ⦃mk:Int⦄,PileR A H π bs cs mk→∀ ⦃v:Value⦄ ⦃c:Ct⦄,RCt H v c→bs.length≤sizeLine→cs.length≤sizeLine→∀ ⦃Q:QV⦄ ⦃X:XV⦄,
  (∀ H',PileR A H' π (put bs (mk + 1) c) (put cs (mk + 1) 0) (mk + 1)→Kp π.M H H'→Q (.int (mk + 1) 0) H')→G.fn (A "Pile" "fresh") false [.ref π.x,v] H Q X
theorem fresh_ok (F:Env G A) (h:PileR A H π bs cs mk) {v:Value} {c:Ct} (hv:RCt H v c) (z1:bs.length≤sizeLine) (z2:cs.length≤sizeLine)
    (q:∀ H',PileR A H' π (put bs (mk + 1) c) (put cs (mk + 1) 0) (mk + 1)→Kp π.M H H'→Q (.int (mk + 1) 0) H'):wpF G false ["self", "what"] b_Pile_fresh [.ref π.x,v] H Q X:=by
  obtain ⟨bvs,p,r⟩:=h.ex
  refine f_in rfl ?_
  refine ss_set (by mem_news) (by mem_news) p.i p.n (by nest_cls) (by simp) ?_
  have p1:=p.made (mk + 1)
  refine ss_key (by mem_news) (by mem_news) (by mem_news) p1.b (by rw [all2_len r];exact z1) ?_
  have p2:=p1.box (stored bvs (mk + 1) v)
  refine ss_key (by mem_news) (by mem_news) (by mem_news) p2.c (by rw [ints_len];exact z2) ?_
  have p3:=p2.cnt (stored (vints cs) (mk + 1) (.int 0 0))
  have k:=((p.kd _).trans (p1.kb _)).trans (p2.kc (.idict (stored (vints cs) (mk + 1) (.int 0 0))))
  refine ss_ret (by mem_news) (q _ ⟨_,by rw [← ints_put];exact p3,all2_put (all2_imp (fun _ _ z=>⟨z.1,z.2.kp k⟩) r) _ (hv.kp k)⟩ k)
theorem ns_leaf {v:Value} {n:Int} {a:Addr} {H:Hp} (h:v = .ref a) (e:H a = some (.tup [.str (Str.ofString "leaf") 0, .int n 0])):RCt H v (.leaf n):=⟨a,h,e⟩
noncomputable def C_hold (G:Gx) (A:Ad):Prop:=∀ ⦃H:Hp⦄ ⦃π:PA⦄ ⦃bs:List (Int×Ct)⦄ ⦃cs:List (Int×Int)⦄ ⦃mk:Int⦄,PileR A H π bs cs mk→∀ ⦃i k:Int⦄ ⦃t:Tok⦄ ⦃c:Ct⦄,get bs i = some c→get cs i = some k→cs.length≤sizeLine→∀ ⦃Q:QV⦄ ⦃X:XV⦄,
  (∀ H',PileR A H' π bs (put cs i (k + 1)) mk→Kp π.M H H'→Q .none H')→G.fn (A "Pile" "hold") false [.ref π.x, .int i t] H Q X
theorem hold_ok (F:Env G A) (N:C_need G A) (h:PileR A H π bs cs mk) {i k:Int} {t:Tok} {c:Ct} (e:get bs i = some c) (ec:get cs i = some k) (z2:cs.length≤sizeLine)
    (q:∀ H',PileR A H' π bs (put cs i (k + 1)) mk→Kp π.M H H'→Q .none H'):wpF G false ["self", "box"] b_Pile_hold [.ref π.x, .int i t] H Q X:=by
  obtain ⟨bvs,p,r⟩:=h.ex
  refine f_in rfl ?_
  refine ss_exprW (w_meth (by mem_news) p.i p.n (by nest_cls) (by rfl) (by mem_news) (N h e ?_))
  have hv:=ints_some ec
  refine ss_key (by mem_news) (by mem_news) (by mem_news) p.c (by rw [ints_len];exact z2) ?_
  have p3:=p.cnt (stored (vints cs) i (.int (k + 1) 0))
  have kk:=p.kc (.idict (stored (vints cs) i (.int (k + 1) 0)))
  exact ss_nl (q _ ⟨_,by rw [← ints_put];exact p3,all2_imp (fun _ _ z=>⟨z.1,z.2.kp kk⟩) r⟩ kk)
noncomputable def C_leaf (G:Gx) (A:Ad):Prop:=∀ ⦃H:Hp⦄ ⦃π:PA⦄ ⦃bs:List (Int×Ct)⦄ ⦃cs:List (Int×Int)⦄ ⦃mk:Int⦄,PileR A H π bs cs mk→∀ ⦃n:Int⦄,bs.length≤sizeLine→cs.length≤sizeLine→∀ ⦃Q:QV⦄ ⦃X:XV⦄,
  (∀ H',PileR A H' π (put bs (mk + 1) (.leaf n)) (put cs (mk + 1) 0) (mk + 1)→Kp π.M H H'→Q (.int (mk + 1) 0) H')→G.fn (A "Pile" "leaf") false [.ref π.x, .int n 0] H Q X
theorem leaf_ok (F:Env G A) (N:C_fresh G A) (h:PileR A H π bs cs mk) {n:Int} (z1:bs.length≤sizeLine) (z2:cs.length≤sizeLine)
    (q:∀ H',PileR A H' π (put bs (mk + 1) (.leaf n)) (put cs (mk + 1) 0) (mk + 1)→Kp π.M H H'→Q (.int (mk + 1) 0) H'):wpF G false ["self", "number"] b_Pile_leaf [.ref π.x, .int n 0] H Q X:=by
  obtain ⟨bvs,p,r⟩:=h.ex
  refine f_in rfl ?_
  refine ss_retW (w_methW (by mem_news) p.i p.n (by nest_cls) (by rfl) (wl_cons (w_tup (by mem_news) (Nat.le_of_ble_eq_true rfl) fun a ha=>wl_nil ?_)))
  have kn:Kp [] H (H.upd a (.tup [.str (Str.ofString "leaf") 0, .int n 0])):=kp_new ha _
  refine N (h.kp0 kn) (ns_leaf rfl (Hp.upd_same _ _ _)) z1 z2 fun H' h' k'=>q H' h' ((kn.mono (by simp)).trans k')
noncomputable def C_content (G:Gx) (A:Ad):Prop:=∀ ⦃H:Hp⦄ ⦃π:PA⦄ ⦃bs:List (Int×Ct)⦄ ⦃cs:List (Int×Int)⦄ ⦃mk:Int⦄,PileR A H π bs cs mk→∀ ⦃i:Int⦄ ⦃t:Tok⦄ ⦃c:Ct⦄,get bs i = some c→(∀ rows,c = .br rows→rows.length≤sizeLine)→∀ ⦃hm:Bool⦄ ⦃Q:QV⦄ ⦃X:XV⦄,
  (∀ v H',RCt H' v c→Kp [] H H'→(∀ a l u,v = .ref a→H' a = some (.tup [u, .ref l])→H l = none)→Q v H')→G.fn (A "Pile" "content") hm [.ref π.x, .int i t] H Q X
theorem content_ok (F:Env G A) (N:C_need G A) (h:PileR A H π bs cs mk) {i:Int} {t:Tok} {c:Ct} (e:get bs i = some c) (zc:∀ rows,c = .br rows→rows.length≤sizeLine) {hm:Bool}
    (q:∀ v H',RCt H' v c→Kp [] H H'→(∀ a l u,v = .ref a→H' a = some (.tup [u, .ref l])→H l = none)→Q v H'):wpF G hm ["self", "box"] b_Pile_content [.ref π.x, .int i t] H Q X:=by
  obtain ⟨bvs,v,p,r,hv,hc⟩:=h.box e
  refine f_in rfl ?_
  refine ss_asgW (w_idxW (w_ev (v:=.ref π.bx) (by mem_news) (w_meth (by mem_news) p.i p.n (by nest_cls) (by rfl) (by mem_news) (N h e ?_))))
  refine idx_key p.b hv ?_
  cases c with
  | leaf n =>
    obtain ⟨a,rfl,ha⟩:=id hc
    refine ss_iff0 (by mem_news) ?_
    exact ss_ret (by mem_news) (q _ H hc (Kp.refl _ _) fun a' l u e1 e2=>by cases e1;rw [ha] at e2;cases e2)
  | br rows =>
    obtain ⟨a,rl,xs,rfl,ha,hl,hr⟩:=id hc
    refine ss_ift (by mem_news) ?_
    refine ss_retW (w_tupW (wl_cons (w_ev ev_str (wl_cons (w_blistL (by mem_news) hl (by rw [all2_len hr];exact zc rows rfl) fun c hcn=>wl_nil ⟨Nat.le_of_ble_eq_true rfl,fun b hb=>?_⟩)))))
    have k1:Kp [] H (H.upd c (.list xs)):=kp_new hcn _
    have k2:=k1.trans (kp_new (M:=[]) hb (.tup [.str (Str.ofString "branch") 0, .ref c]))
    refine q _ _ ⟨b,c,xs,rfl,Hp.upd_same _ _ _,(kp_new (M:=[]) hb _).list (Hp.upd_same _ _ _),all2_imp (fun _ _ z=>z.kp k2) hr⟩ k2 fun a' l u e1 e2=>?_
    cases e1
    rw [Hp.upd_same] at e2;cases e2;exact hcn
end
end Mine.St
end

section
open PySem PyProof.Rows
namespace Mine.St
open Mine
section
variable {A:Ad} {G:Gx} {H:Hp} {π:PA} {bs:List (Int×Ct)} {cs:List (Int×Int)} {mk:Int} {Q:QV} {X:XV}
noncomputable def holdAll (cs:List (Int×Int)):List (Str×Int)→Option (List (Int×Int))
  | []=>some cs
  | r :: rows=>match get cs r.2 with
    | some k=>holdAll (put cs r.2 (k + 1)) rows
    | none=>none
theorem put_len {α:Type} (l:List (Int×α)) (i:Int) (a b:α) (h:get l i = some b):(put l i a).length = l.length:=by
  unfold put
  rw [if_pos]
  · simp
  · obtain ⟨p,hp,e⟩:=List.mem_map.1 (get_mem h)
    exact List.any_eq_true.2 ⟨p,hp,decide_eq_true e⟩
theorem holdAll_cons {cs cs':List (Int×Int)} {r:Str×Int} {rows:List (Str×Int)} (h:holdAll cs (r :: rows) = some cs'):∃ k,get cs r.2 = some k∧holdAll (put cs r.2 (k + 1)) rows = some cs':=by
  have h:(match get cs r.2 with | some k=>holdAll (put cs r.2 (k + 1)) rows | none=>none) = some cs':=h
  cases e:get cs r.2 with
  | none=>rw [e] at h;cases h
  | some k=>rw [e] at h;exact ⟨k,rfl,h⟩
noncomputable def C_branch (G:Gx) (A:Ad):Prop:=∀ ⦃H:Hp⦄ ⦃π:PA⦄ ⦃bs:List (Int×Ct)⦄ ⦃cs:List (Int×Int)⦄ ⦃mk:Int⦄,PileR A H π bs cs mk→∀ ⦃rl:Addr⦄ ⦃xs:List Value⦄ ⦃rows:List (Str×Int)⦄ ⦃cs':List (Int×Int)⦄,H rl = some (.list xs)→All2 (RRow H) xs rows→(∀ r∈rows,∃ c,get bs r.2 = some c)→holdAll cs rows = some cs' →
  bs.length≤sizeLine→cs.length≤sizeLine→rows.length≤sizeLine→∀ ⦃Q:QV⦄ ⦃X:XV⦄,(∀ H',PileR A H' π (put bs (mk + 1) (.br rows)) (put cs' (mk + 1) 0) (mk + 1)→Kp π.M H H'→Q (.int (mk + 1) 0) H')→G.fn (A "Pile" "branch") false [.ref π.x, .ref rl] H Q X
section
variable {rl:Addr} {xs:List Value} {rows:List (Str×Int)} {cs':List (Int×Int)} {l:Loc} {H0:Hp}
theorem branch_b (F:Env G A) (B:C_fresh G A) (h:PileR A H π bs cs mk) (hl:H0 rl = some (.list xs)) (hr:All2 (RRow H0) xs rows) (kk:Kp π.M H0 H) (z1:bs.length≤sizeLine) (z2:cs.length≤sizeLine) (z3:rows.length≤sizeLine) (g1:l "self" = some (.ref π.x)) (g2:l "rows" = some (.ref rl))
    (q:∀ H',PileR A H' π (put bs (mk + 1) (.br rows)) (put cs (mk + 1) 0) (mk + 1)→Kp π.M H0 H'→Q (.int (mk + 1) 0) H'):wpSs G false (b_Pile_branch.drop 2) l H (fq Q) (fx X):=by
  obtain ⟨bvs',p', -⟩:=id h.ex
  refine ss_retW (w_methW (by mem_news) p'.i p'.n (by nest_cls) (by rfl) (wl_cons (w_tupW (wl_cons (w_ev ev_str (wl_cons (w_blist (by mem_news) (kk.list hl) rfl (by rw [all2_len hr];exact z3) fun c hcn=>wl_nil ⟨Nat.le_of_ble_eq_true rfl,fun b hb=>?_⟩)))))))
  have k2:=(kp_new (M:=[]) hcn (.list xs)).trans (kp_new (M:=[]) hb (.tup [.str (Str.ofString "branch") 0, .ref c]))
  have k3:=kk.trans (k2.mono (M':=π.M) (by simp))
  exact B (h.kp0 k2) (c:=.br rows) ⟨b,c,xs,rfl,Hp.upd_same _ _ _,(kp_new (M:=[]) hb _).list (Hp.upd_same _ _ _),all2_imp (fun _ _ z=>z.kp k3) hr⟩ z1 z2 fun H' h'' k''=>q H' h'' (k3.trans k'')
structure BrI (A:Ad) (π:PA) (mk:Int) (H0:Hp) (bs:List (Int×Ct)) (cs':List (Int×Int)) (rl:Addr) (r:List Value) (rs:List (Str×Int)) (cs1:List (Int×Int)) (l:Loc) (H:Hp):Prop where
  g1:l "self" = some (.ref π.x)
  g2:l "rows" = some (.ref rl)
  k:Kp π.M H0 H
  w:All2 (RRow H0) r rs
  b:∀ x∈rs,∃ c,get bs x.2 = some c
  h:PileR A H π bs cs1 mk
  hh:holdAll cs1 rs = some cs'
  z:cs1.length≤sizeLine
theorem branch_a (F:Env G A) (C:C_hold G A) (B:C_fresh G A) (h:PileR A H π bs cs mk) (hl:H rl = some (.list xs)) (hr:All2 (RRow H) xs rows) (hb:∀ r∈rows,∃ c,get bs r.2 = some c) (hc:holdAll cs rows = some cs')
    (z1:bs.length≤sizeLine) (z2:cs.length≤sizeLine) (z3:rows.length≤sizeLine) (g1:l "self" = some (.ref π.x)) (g2:l "rows" = some (.ref rl))
    (q:∀ H',PileR A H' π (put bs (mk + 1) (.br rows)) (put cs' (mk + 1) 0) (mk + 1)→Kp π.M H H'→Q (.int (mk + 1) 0) H'):wpSs G false (b_Pile_branch.drop 1) l H (fq Q) (fx X):=by
  refine ss_forI (fun r l' H'=>∃ rs cs1,BrI A π mk H bs cs' rl r rs cs1 l' H') (by mem_news) hl rfl (fun r l' H' h=>by obtain ⟨_,_,I⟩:=h;exact I.k.list hl) ?_ ⟨rows,cs,g1,g2,Kp.refl _ _,hr,hb,h,hc,z2⟩ ?_
  · rintro v rs l' H' ⟨ws,cs1,I⟩ K hK _
    have g1:=I.g1
    cases I.w with
    | @cons _ row _ ws' e1 e2 =>
    obtain ⟨a,rfl,ha⟩:=e1
    have ha:=I.k.tup ha
    obtain ⟨c,hcc⟩:=I.b row (List.mem_cons_self ..)
    obtain ⟨k,hk,hh⟩:=holdAll_cons I.hh
    obtain ⟨bvs',p', -⟩:=id I.h.ex
    refine ss_exprW (w_meth (by mem_news) p'.i p'.n (by nest_cls) (by rfl) (by mem_news) (C I.h hcc hk I.z fun H2 h2 k2=>?_))
    exact ss_nl (hK (l'.upd "row" (.ref a)) H2 ⟨ws',_,I.g1,I.g2,I.k.trans k2,e2,fun x hx=>I.b x (List.mem_cons_of_mem _ hx),h2,hh,by rw [put_len _ _ _ _ hk];exact I.z⟩).1
  · rintro l2 H2 ⟨ws,cs1,I⟩
    have hw:=I.w;have hh:=I.hh
    cases hw
    cases hh
    exact branch_b F B I.h hl hr I.k z1 I.z z3 I.g1 I.g2 q
structure BrJ (π:PA) (H0:Hp) (bs:List (Int×Ct)) (rl:Addr) (r:List Value) (rs:List (Str×Int)) (l:Loc) (H:Hp):Prop where
  e:H = H0
  g1:l "self" = some (.ref π.x)
  g2:l "rows" = some (.ref rl)
  w:All2 (RRow H0) r rs
  b:∀ x∈rs,∃ c,get bs x.2 = some c
theorem branch_ok (F:Env G A) (N:C_need G A) (C:C_hold G A) (B:C_fresh G A) (h:PileR A H π bs cs mk) (hl:H rl = some (.list xs)) (hr:All2 (RRow H) xs rows) (hb:∀ r∈rows,∃ c,get bs r.2 = some c) (hc:holdAll cs rows = some cs')
    (z1:bs.length≤sizeLine) (z2:cs.length≤sizeLine) (z3:rows.length≤sizeLine)
    (q:∀ H',PileR A H' π (put bs (mk + 1) (.br rows)) (put cs' (mk + 1) 0) (mk + 1)→Kp π.M H H'→Q (.int (mk + 1) 0) H'):wpF G false ["self", "rows"] b_Pile_branch [.ref π.x, .ref rl] H Q X:=by
  obtain ⟨bvs,p,r⟩:=id h.ex
  refine f_in rfl ?_
  refine ss_forI (fun r l' H'=>∃ rs,BrJ π H bs rl r rs l' H') (by mem_news) hl rfl (fun r l' H' h=>by obtain ⟨_,I⟩:=h;rw [I.e];exact hl) ?_ ⟨rows,rfl,rfl,rfl,hr,hb⟩ ?_
  · rintro v rs l' H' ⟨ws,I⟩ K hK _
    obtain rfl:=I.e
    have g1:=I.g1
    cases I.w with
    | @cons _ row _ ws' e1 e2 =>
    obtain ⟨a,rfl,ha⟩:=e1
    obtain ⟨c,hcc⟩:=I.b row (List.mem_cons_self ..)
    refine ss_exprW (w_meth (by mem_news) p.i p.n (by nest_cls) (by rfl) (by mem_news) (N h hcc ?_))
    exact ss_nl (hK (l'.upd "row" (.ref a)) H' ⟨ws',rfl,I.g1,I.g2,e2,fun x hx=>I.b x (List.mem_cons_of_mem _ hx)⟩).1
  · rintro l1 H1 ⟨ws,I⟩
    obtain rfl:=I.e
    exact branch_a F C B h hl hr hb hc z1 z2 z3 I.g1 I.g2 q
end
noncomputable def kids:Ct→List Int
  | .leaf _=>[]
  | .br rows=>rows.map (·.2)
noncomputable abbrev LgV:=Option (List (Int×Ct)×List (Int×Int)×Int)
noncomputable def lgoB (rec:List Int→List (Int×Ct)→List (Int×Int)→Int→LgV) (one:Int) (w:List Int) (bs:List (Int×Ct)) (cs:List (Int×Int)) (g:Int):LgV:=match get bs one with
  | none=>rec w bs cs g
  | some c=>match get cs one with
    | none=>none
    | some k=>if max 0 (k - 1) = 0 then (if (kids c).length≤2 ^ 20 then rec (w++kids c) (del bs one) (del (put cs one (max 0 (k - 1))) one) (g + 1) else none) else rec w bs (put cs one (max 0 (k - 1))) g
noncomputable def lgo:Nat→List Int→List (Int×Ct)→List (Int×Int)→Int→LgV
  | 0,_,_,_,_=>none
  | n + 1,w,bs,cs,g=>if w.length≤2 ^ 20∧bs.length≤2 ^ 20∧cs.length≤2 ^ 20 then (match w.getLast? with
    | none=>some (bs,cs,g)
    | some one=>lgoB (lgo n) one w.dropLast bs cs g) else none
section
variable {n:Nat} {one g k:Int} {w:List Int} {bs:List (Int×Ct)} {cs:List (Int×Int)} {c:Ct} {r:List (Int×Ct)×List (Int×Int)×Int} {rec:List Int→List (Int×Ct)→List (Int×Int)→Int→LgV}
theorem lgo_eq (hz:w.length≤2 ^ 20∧bs.length≤2 ^ 20∧cs.length≤2 ^ 20) (hl:w.getLast? = some one):lgo (n + 1) w bs cs g = lgoB (lgo n) one w.dropLast bs cs g:=by
  show (if _ then (match w.getLast? with | none=>some (bs,cs,g) | some one=>lgoB (lgo n) one w.dropLast bs cs g) else none) = _
  rw [if_pos hz,hl]
theorem lgo_z (e:lgo (n + 1) w bs cs g = some r):w.length≤2 ^ 20∧bs.length≤2 ^ 20∧cs.length≤2 ^ 20:=by
  apply Decidable.byContradiction
  intro hz
  have e:(if _ then _ else none) = some r:=e
  rw [if_neg hz] at e;cases e
theorem lgo_nil (e:lgo (n + 1) [] bs cs g = some r):r = (bs,cs,g):=by
  have hz:=lgo_z e
  have e:(if _ then some (bs,cs,g) else none) = some r:=e
  rw [if_pos hz] at e
  injection e with e;exact e.symm
theorem lgoB_none (h:get bs one = none):lgoB rec one w bs cs g = rec w bs cs g:=by unfold lgoB;rw [h]
theorem lgoB_no (h:get bs one = some c) (hk:get cs one = none):lgoB rec one w bs cs g = none:=by unfold lgoB;rw [h];dsimp only;rw [hk]
theorem lgoB_some (h:get bs one = some c) (hk:get cs one = some k):lgoB rec one w bs cs g = if max 0 (k - 1) = 0 then (if (kids c).length≤2 ^ 20 then rec (w++kids c) (del bs one) (del (put cs one (max 0 (k - 1))) one) (g + 1) else none) else rec w bs (put cs one (max 0 (k - 1))) g:=by
  unfold lgoB;rw [h];dsimp only;rw [hk]
end
theorem rd_ints {H:Hp}:∀ w:List Int,RdAll H (w.map fun n=>Value.int n 0) (w.map PyData.int)
  | []=>.nil
  | n :: w=>.cons (.int n 0) (rd_ints w)
theorem lay_ints:∀ w:List Int,PyData.canLayAll0 (w.map PyData.int) = true
  | []=>rfl
  | _ :: w=>lay_ints w
theorem depth_ints:∀ w:List Int,PyData.depthAll (w.map PyData.int)≤1
  | []=>Nat.zero_le 1
  | _ :: w=>Nat.max_le.2 ⟨Nat.zero_le 1,depth_ints w⟩
theorem shaped_ints (w:List Int):SeqAt.shaped (.list (w.map PyData.int)) = true:=by
  refine Bool.and_eq_true_iff.2 ⟨lay_ints w,decide_eq_true ?_⟩
  show PyData.depthAll (w.map PyData.int) + 1≤64
  exact Nat.le_trans (Nat.succ_le_succ (depth_ints w)) (by decide)
theorem eqv_nil (w:List PyData):PyData.eqv (.list w) (.list []) = w.isEmpty:=by
  cases w <;> rfl
noncomputable def lgC:Ex:=.cmp (.loc "waiting") .NotEq (.list [])
noncomputable def lgG:List Sm:=[.asg "what" (.bm .pop (.attr (.loc "self") "boxes") [.loc "one"]), .expr (.bm .pop (.attr (.loc "self") "counts") [.loc "one"]), .asg "gone" (.bin .Add (.loc "gone") (.int 1)), .ite (.cmp (.idx (.loc "what") (.int 0)) .Eq (.str "branch")) [.asg "waiting" (.bin .Add (.loc "waiting") (.comp (.idx (.loc "row") (.int 1)) "row" (.idx (.loc "what") (.int 1)) []))] []]
noncomputable def lgB:List Sm:=[.asg "one" (.bm .pop (.loc "waiting") []), .ite (.cmp (.loc "one") .NotIn (.attr (.loc "self") "boxes")) [.cont] [], .asgIdx (.attr (.loc "self") "counts") (.loc "one") (.bf .max2 [.int 0, .bin .Sub (.idx (.attr (.loc "self") "counts") (.loc "one")) (.int 1)]), .ite (.cmp (.idx (.attr (.loc "self") "counts") (.loc "one")) .Eq (.int 0)) lgG []]
theorem Kp.fresh {M:List Addr} {H H1:Hp} (k:Kp M H H1) {c:Addr} (hc:H c = none) (o:AObj):Kp M H (H1.upd c o):=fun a p h n=>(Hp.upd_ne _ _ fun e=>by rw [e,hc] at h;cases h).trans (k a p h n)
theorem PileAt.notList {bvs cvs:List (Int×Value)} (h:PileAt A H π.x π.d π.bx π.ct bvs cvs mk) {a:Addr} {xs:List Value} (e:H a = some (.list xs)):a≠π.x∧a≠π.d∧a≠π.bx∧a≠π.ct :=
  ⟨fun q=>(by rw [q,h.i] at e;cases e),fun q=>(by rw [q,h.n] at e;cases e),fun q=>(by rw [q,h.b] at e;cases e),fun q=>(by rw [q,h.c] at e;cases e)⟩
theorem PileAt.other {bvs cvs:List (Int×Value)} (h:PileAt A H π.x π.d π.bx π.ct bvs cvs mk) {a:Addr} {xs:List Value} (e:H a = some (.list xs)) (o:AObj):PileAt A (H.upd a o) π.x π.d π.bx π.ct bvs cvs mk :=
  let ⟨n1,n2,n3,n4⟩:=h.notList e
  ⟨(Hp.upd_ne _ _ n1.symm).trans h.i,(Hp.upd_ne _ _ n2.symm).trans h.n,(Hp.upd_ne _ _ n3.symm).trans h.b,(Hp.upd_ne _ _ n4.symm).trans h.c,h.ne⟩
theorem Kp.none {bvs cvs:List (Int×Value)} {H0:Hp} (k:Kp π.M H0 H) (h:PileAt A H π.x π.d π.bx π.ct bvs cvs mk) {a:Addr} (e:H a = none):H0 a = none:=by
  cases q:H0 a with
  | none=>rfl
  | some o =>
    by_cases hM:a∈π.M
    · simp only [PA.M,List.mem_cons,List.not_mem_nil,or_false] at hM
      rcases hM with rfl | rfl | rfl
      · rw [h.n] at e;cases e
      · rw [h.b] at e;cases e
      · rw [h.c] at e;cases e
    · rw [k a o q (.inr hM)] at e;cases e
structure LgI (A:Ad) (π:PA) (mk:Int) (H0:Hp) (w:List Int) (bs:List (Int×Ct)) (cs:List (Int×Int)) (g:Int) (wl:Addr) (bvs:List (Int×Value)) (l:Loc) (H:Hp):Prop where
  s:l "self" = some (.ref π.x)
  g:l "gone" = some (.int g 0)
  wa:l "waiting" = some (.ref wl)
  hw:H wl = some (.list (w.map fun n=>Value.int n 0))
  h0:H0 wl = none
  p:PileAt A H π.x π.d π.bx π.ct bvs (vints cs) mk
  r:All2 (fun p q=>p.1 = q.1∧RCt H0 p.2 q.2) bvs bs
  k:Kp π.M H0 H
theorem len_line {n:Nat} (h:n≤2 ^ 20):n≤sizeLine:=Nat.le_trans h (by decide)
section
variable {H0:Hp} {w:List Int} {bs:List (Int×Ct)} {cs:List (Int×Int)} {g:Int} {wl:Addr} {bvs:List (Int×Value)} {l:Loc} {X:XS} {K:QS} {one:Int} {fin:List (Int×Ct)×List (Int×Int)×Int} {n:Nat}
theorem LgI.new (I:LgI A π mk H0 w bs cs g wl bvs l H) {c:Addr} (hc:H c = none) (o:AObj):LgI A π mk H0 w bs cs g wl bvs l (H.upd c o) :=
  ⟨I.s,I.g,I.wa,(kp_new (M:=[]) hc o).list I.hw,I.h0,I.p.new hc o,I.r,I.k.trans (kp_new hc o)⟩
theorem LgI.pop (I:LgI A π mk H0 w bs cs g wl bvs l H) (v:Value):LgI A π mk H0 w.dropLast bs cs g wl bvs (l.upd "one" v) (H.upd wl (.list (w.map fun n=>Value.int n 0).dropLast)) :=
  ⟨I.s,I.g,I.wa,by rw [Hp.upd_same,List.map_dropLast],I.h0,I.p.other I.hw _,I.r,I.k.fresh I.h0 _⟩
theorem LgI.cnt (I:LgI A π mk H0 w bs cs g wl bvs l H) (cs':List (Int×Int)):LgI A π mk H0 w bs cs' g wl bvs l (H.upd π.ct (.idict (vints cs'))) :=
  ⟨I.s,I.g,I.wa,(I.p.kc _).list I.hw,I.h0,I.p.cnt _,I.r,I.k.trans (I.p.kc _)⟩
theorem LgI.box (I:LgI A π mk H0 w bs cs g wl bvs l H) (v:Value):LgI A π mk H0 w (del bs one) cs g wl (PySem.without bvs one) (l.upd "what" v) (H.upd π.bx (.idict (PySem.without bvs one))) :=
  ⟨I.s,I.g,I.wa,(I.p.kb _).list I.hw,I.h0,I.p.box _,all2_del I.r one,I.k.trans (I.p.kb _)⟩
theorem LgI.go (I:LgI A π mk H0 w bs cs g wl bvs l H) (g':Int):LgI A π mk H0 w bs cs g' wl bvs (l.upd "gone" (.int g' 0)) H:=⟨I.s,rfl,I.wa,I.hw,I.h0,I.p,I.r,I.k⟩
theorem LgI.more (I:LgI A π mk H0 w bs cs g wl bvs l H) {w2:Addr} (hw2:H w2 = none) (ks:List Int):LgI A π mk H0 (w++ks) bs cs g w2 bvs (l.upd "waiting" (.ref w2)) (H.upd w2 (.list ((w.map fun n=>Value.int n 0)++ks.map fun n=>Value.int n 0))) :=
  ⟨I.s,I.g,rfl,by rw [Hp.upd_same,List.map_append],I.k.none I.p hw2,I.p.new hw2 _,I.r,I.k.trans (kp_new hw2 _)⟩
theorem lg_kids (F:Env G A) {c:Ct} {v:Value} (hv:RCt H0 v c) (hzk:(kids c).length≤2 ^ 20) (hzw:w.length≤2 ^ 20) (I:LgI A π mk H0 w bs cs g wl bvs l H) (gw:l "what" = some v)
    (hK:∀ wl l' H',LgI A π mk H0 (w++kids c) bs cs g wl bvs l' H'→K .next l' H'):wpSs G false [.ite (.cmp (.idx (.loc "what") (.int 0)) .Eq (.str "branch")) [.asg "waiting" (.bin .Add (.loc "waiting") (.comp (.idx (.loc "row") (.int 1)) "row" (.idx (.loc "what") (.int 1)) []))] []] l H K X:=by
  cases c with
  | leaf m =>
    obtain ⟨a,rfl,ha⟩:=hv
    have ha:=I.k.tup ha
    exact ss_iff0 (by mem_news) (ss_nl (hK wl _ _ (by rw [kids,List.append_nil];exact I)))
  | br rows =>
    obtain ⟨a,rl,xs,rfl,ha,hrl,hrr⟩:=hv
    have ha:=I.k.tup ha
    have hrl:=I.k.list hrl
    have hkl:(kids (.br rows)).length = rows.length:=List.length_map ..
    have hlen:xs.length≤2 ^ 20:=by rw [all2_len hrr,← hkl];exact hzk
    refine ss_ift (by mem_news) ?_
    refine ss_asgW (w_binW (w_ev (ev_loc I.wa) (w_mapA (fun r:Str×Int=>.int r.2 0) (by mem_news) hrl rfl (len_line hlen) hrr (fun v row hv=>?_) fun nl hnl=>?_)))
    · obtain ⟨b,rfl,hb⟩:=hv
      have hb:=I.k.tup hb
      mem_news
    · have I':=I.new hnl (.list (rows.map fun r=>.int r.2 0))
      refine addl_at I'.hw (Hp.upd_same _ _ _) ?_ fun w2 hw2=>ss_nl (hK w2 _ _ ?_)
      · rw [List.length_map,List.length_map,← hkl];exact Nat.le_trans (Nat.add_le_add hzw hzk) (by decide)
      · have:=I'.more hw2 (kids (.br rows))
        rw [kids,List.map_map] at this
        exact this
theorem lg_gone (F:Env G A) {c:Ct} {v:Value} {k:Int} (hc:get cs one = some k) (q1:valueAt bvs one = some v) (hv:RCt H0 v c) (hzk:(kids c).length≤2 ^ 20) (hzw:w.length≤2 ^ 20) (hzb:bs.length≤2 ^ 20) (hzc:cs.length≤2 ^ 20) (I:LgI A π mk H0 w bs cs g wl bvs l H) (go:l "one" = some (.int one 0))
    (hK:∀ wl bvs l' H',LgI A π mk H0 (w++kids c) (del bs one) (del cs one) (g + 1) wl bvs l' H'→K .next l' H'):wpSs G false lgG l H K X:=by
  have g1:=I.s;have hp:=I.p
  refine ss_asgW (w_dpop (by mem_news) (by mem_news) hp.b (by rw [all2_len I.r];exact len_line hzb) q1 ?_)
  have I4:=I.box (one:=one) v
  have hp4:=I4.p;have g3:=I4.g
  generalize H.upd π.bx (.idict (PySem.without bvs one)) = H4 at I4 hp4 ⊢
  refine ss_exprW (w_dpop (by mem_news) (by mem_news) hp4.c (by rw [ints_len];exact len_line hzc) (ints_some hc) ?_)
  rw [ints_del]
  have I5:=I4.cnt (del cs one)
  generalize H4.upd π.ct (.idict (vints (del cs one))) = H5 at I5 ⊢
  refine ss_asg (by mem_news) ?_
  exact lg_kids F hv hzk hzw (I5.go (g + 1)) rfl fun wl l' H' I=>hK wl _ l' H' I
theorem lg_turn (F:Env G A) (hz:w.length≤2 ^ 20∧bs.length≤2 ^ 20∧cs.length≤2 ^ 20) (hl:w.getLast? = some one) (I:LgI A π mk H0 w bs cs g wl bvs l H)
    (hK:∀ w' bs' cs' g' wl bvs l' H',LgI A π mk H0 w' bs' cs' g' wl bvs l' H'→lgo n w' bs' cs' g' = some fin→K .next l' H'∧K .cont l' H') (e:lgo (n + 1) w bs cs g = some fin):wpSs G false lgB l H K X:=by
  rw [lgo_eq hz hl] at e
  have hzw:w.dropLast.length≤2 ^ 20:=by rw [List.length_dropLast];exact Nat.le_trans (Nat.sub_le ..) hz.1
  refine ss_asgW (w_pop (ev_loc I.wa) I.hw (by rw [List.length_map];exact len_line hz.1) (by rw [List.getLast?_map,hl];rfl) ?_)
  have I2:=I.pop (.int one 0)
  generalize H.upd wl (.list (w.map fun n=>Value.int n 0).dropLast) = H2 at I2 ⊢
  have g1:=I2.s;have hp2:=I2.p
  rcases all2_get I.r one with ⟨v,c,q1,q2,q3⟩ | ⟨q1,q2⟩
  · have hb:(!(valueAt bvs one).isSome) = false:=by rw [q1];rfl
    refine ss_iff0 (by mem_news) ?_
    cases hc:get cs one with
    | none=>rw [lgoB_no q2 hc] at e;cases e
    | some k =>
    rw [lgoB_some q2 hc] at e
    have hv:=ints_some hc
    refine ss_key (by mem_news) (by mem_news) (by mem_news) hp2.c (by rw [ints_len];exact len_line hz.2.2) ?_
    rw [ints_put]
    have I3:=I2.cnt (put cs one (max 0 (k - 1)))
    generalize H2.upd π.ct (.idict (vints (put cs one (max 0 (k - 1))))) = H3 at I3 ⊢
    have hp3:=I3.p
    have hc3:get (put cs one (max 0 (k - 1))) one = some (max 0 (k - 1)):=by rw [get_put,if_pos rfl]
    have hv:=ints_some hc3
    refine ss_if (b:=decide (max 0 (k - 1) = 0)) (by mem_news) (fun hm=>?_) fun hm=>?_
    · rw [if_pos (of_decide_eq_true hm)] at e
      by_cases hzk:(kids c).length≤2 ^ 20
      · rw [if_pos hzk] at e
        exact lg_gone F hc3 q1 q3 hzk hzw hz.2.1 (by rw [put_len _ _ _ _ hc];exact hz.2.2) I3 rfl fun wl bvs l' H' I=>(hK _ _ _ _ _ _ _ _ I e).1
      · rw [if_neg hzk] at e;cases e
    · rw [if_neg (of_decide_eq_false hm)] at e
      exact ss_nl (hK _ _ _ _ _ _ _ _ I3 e).1
  · rw [lgoB_none q2] at e
    have hb:(!(valueAt bvs one).isSome) = true:=by rw [q1];rfl
    exact ss_ift (by mem_news) (ss_cont (hK _ _ _ _ _ _ _ _ I2 e).2)
end
noncomputable def LgW (G:Gx) (X:XS) (Q:QS) (n:Nat) (l:Loc) (H:Hp):Prop:=whileN (fun l' H' K=>wpE G false lgC l' H' (fun v H1=>truthV v fun b=>K b H1) (fun C H'=>X C l' H')) (fun l' H' K=>wpSs G false lgB l' H' K X) Q n l H
section
variable {H0:Hp} {w:List Int} {bs:List (Int×Ct)} {cs:List (Int×Int)} {g:Int} {wl:Addr} {bvs:List (Int×Value)} {l:Loc} {X:XS} {Q:QS} {r:List (Int×Ct)×List (Int×Int)×Int} {n:Nat}
theorem lg_cond (I:LgI A π mk H0 w bs cs g wl bvs l H) {K:Bool→Hp→Prop} {X:XV} (q:∀ H1,LgI A π mk H0 w bs cs g wl bvs l H1→K (!w.isEmpty) H1):wpE G false lgC l H (fun v H1=>truthV v fun b=>K b H1) X:=by
  refine w_cmpW (w_ev (ev_loc I.wa) (w_list evl_nil (Nat.le_of_ble_eq_true rfl) fun e1 he1=>?_))
  have I1:=I.new he1 (.list [])
  refine ⟨.list (w.map PyData.int), .list [], .list I1.hw (rd_ints w), .list (Hp.upd_same _ _ _) .nil,shaped_ints w,rfl, ?_⟩
  rw [eqv_nil,List.isEmpty_map]
  exact q _ I1
theorem lg_step (F:Env G A) (fin:∀ l' H',l' "gone" = some (.int r.2.2 0)→PileR A H' π r.1 r.2.1 mk→Kp π.M H0 H'→Q .next l' H')
    (ih:∀ w bs cs g wl bvs l H,LgI A π mk H0 w bs cs g wl bvs l H→lgo n w bs cs g = some r→LgW G X Q n l H) (I:LgI A π mk H0 w bs cs g wl bvs l H) (e:lgo (n + 1) w bs cs g = some r):LgW G X Q (n + 1) l H:=by
  refine lg_cond I fun H1 I1=>?_
  cases hlast:w.getLast? with
  | none =>
    obtain rfl:w = []:=List.getLast?_eq_none_iff.1 hlast
    obtain rfl:=lgo_nil e
    exact fin _ _ I1.g ⟨bvs,I1.p,all2_imp (fun _ _ q=>⟨q.1,q.2.kp I1.k⟩) I1.r⟩ I1.k
  | some one =>
    have hem:w.isEmpty = false:=by cases w with | nil=>cases hlast | cons _ _=>rfl
    rw [hem]
    exact lg_turn F (lgo_z e) hlast I1 (fun w' bs1 cs1 g1 wl' bvs' l' H' I' e'=>have h:=ih w' bs1 cs1 g1 wl' bvs' l' H' I' e';⟨h,h⟩) e
theorem lgo_loop (F:Env G A) (fin:∀ l' H',l' "gone" = some (.int r.2.2 0)→PileR A H' π r.1 r.2.1 mk→Kp π.M H0 H'→Q .next l' H') (n:Nat) :
    ∀ w bs cs g wl bvs l H,LgI A π mk H0 w bs cs g wl bvs l H→lgo n w bs cs g = some r→LgW G X Q n l H :=
  Nat.rec (fun _ _ _ _ _ _ _ _ _ e=>nomatch e) (fun _ ih _ _ _ _ _ _ _ _=>lg_step F fin ih) n
end
noncomputable def C_let_go (G:Gx) (A:Ad):Prop:=∀ ⦃H:Hp⦄ ⦃π:PA⦄ ⦃bs:List (Int×Ct)⦄ ⦃cs:List (Int×Int)⦄ ⦃mk:Int⦄,PileR A H π bs cs mk→∀ ⦃i:Int⦄ ⦃c:Ct⦄,get bs i = some c→∀ ⦃n:Nat⦄ ⦃bs':List (Int×Ct)⦄ ⦃cs':List (Int×Int)⦄ ⦃g':Int⦄,lgo n [i] bs cs 0 = some (bs',cs',g')→∀ ⦃Q:QV⦄ ⦃X:XV⦄,
  (∀ H',PileR A H' π bs' cs' mk→Kp π.M H H'→Q (.int g' 0) H')→G.fn (A "Pile" "let_go") false [.ref π.x, .int i 0] H Q X
theorem let_go_ok (F:Env G A) (N:C_need G A) (h:PileR A H π bs cs mk) {i:Int} {c:Ct} (e:get bs i = some c) {n:Nat} {bs':List (Int×Ct)} {cs':List (Int×Int)} {g':Int} (hg:lgo n [i] bs cs 0 = some (bs',cs',g'))
    (q:∀ H',PileR A H' π bs' cs' mk→Kp π.M H H'→Q (.int g' 0) H'):wpF G false ["self", "box"] b_Pile_let_go [.ref π.x, .int i 0] H Q X:=by
  obtain ⟨bvs,p,r⟩:=id h.ex
  refine f_in rfl ?_
  refine ss_asgW (w_listW (wl_cons (w_meth (by mem_news) p.i p.n (by nest_cls) (by rfl) (by mem_news) (N h e (wl_nil ⟨Nat.le_of_ble_eq_true rfl,fun wl hwl=>?_⟩)))))
  refine ss_asg (by mem_news) ?_
  refine ss_while n ?_
  refine lgo_loop F (H0:=H) (r:=(bs',cs',g')) (fun l' H' g3 h' k'=>?_) n [i] bs cs 0 wl bvs _ _ ⟨rfl,rfl,rfl,Hp.upd_same _ _ _,hwl,p.new hwl _,r,kp_new hwl _⟩ hg
  exact ss_ret (ev_loc g3) (q H' h' k')
structure TabP (tab:Tab) (A:Ad):Prop where
  need:HasF tab (A "Pile" "need") ["self", "box"] b_Pile_need
  fresh:HasF tab (A "Pile" "fresh") ["self", "what"] b_Pile_fresh
  hold:HasF tab (A "Pile" "hold") ["self", "box"] b_Pile_hold
  leaf:HasF tab (A "Pile" "leaf") ["self", "number"] b_Pile_leaf
  content:HasF tab (A "Pile" "content") ["self", "box"] b_Pile_content
  branch:HasF tab (A "Pile" "branch") ["self", "rows"] b_Pile_branch
  let_go:HasF tab (A "Pile" "let_go") ["self", "box"] b_Pile_let_go
section
variable {g:Gx} {tab:Tab} (f:Env g A) (t:TabP tab A) (n:Nat)
include f t
theorem need_at:C_need (GG g tab (n + 1)) A:=fun _ _ _ _ _ h _ _ _ e _ _ _ q=>fn_gg t.need (need_ok (f.gg tab n) h e q)
theorem fresh_at:C_fresh (GG g tab (n + 1)) A:=fun _ _ _ _ _ h _ _ hv z1 z2 _ _ q=>fn_gg t.fresh (fresh_ok (f.gg tab n) h hv z1 z2 q)
theorem hold_at:C_hold (GG g tab (n + 2)) A:=fun _ _ _ _ _ h _ _ _ _ e ec z _ _ q=>fn_gg t.hold (hold_ok (f.gg tab _) (need_at f t n) h e ec z q)
theorem leaf_at:C_leaf (GG g tab (n + 2)) A:=fun _ _ _ _ _ h _ z1 z2 _ _ q=>fn_gg t.leaf (leaf_ok (f.gg tab _) (fresh_at f t n) h z1 z2 q)
theorem content_at:C_content (GG g tab (n + 2)) A:=fun _ _ _ _ _ h _ _ _ e zc _ _ _ q=>fn_gg t.content (content_ok (f.gg tab _) (need_at f t n) h e zc q)
theorem branch_at:C_branch (GG g tab (n + 3)) A:=fun _ _ _ _ _ h _ _ _ _ h1 h2 h3 h4 z1 z2 z3 _ _ q=>fn_gg t.branch (branch_ok (f.gg tab _) (need_at f t (n + 1)) (hold_at f t n) (fresh_at f t (n + 1)) h h1 h2 h3 h4 z1 z2 z3 q)
theorem let_go_at:C_let_go (GG g tab (n + 2)) A:=fun _ _ _ _ _ h _ _ e _ _ _ _ hg _ _ q=>fn_gg t.let_go (let_go_ok (f.gg tab _) (need_at f t n) h e hg q)
end
end
end Mine.St
end

section
open PySem PyProof.Rows
namespace Mine.St
open Mine
section
variable {A:Ad} {G:Gx} {H:Hp} {Q:QV} {X:XV}
noncomputable def LET:Str := "abcdefghijklmnopqrstuvwxyz"
structure Good (x:Str):Prop where
  lo:1≤x.cps.toList.length
  hi:x.cps.toList.length≤8
  cs:∀ c∈x.cps.toList,97≤c∧c≤122
theorem let_all:∀ k < 26,Txt.contains LET (chr1 (97 + k)) = true:=by decide +kernel
theorem let_has {c:Nat} (h:97≤c∧c≤122):Txt.contains LET (chr1 c) = true:=by
  have:=let_all (c - 97) (Nat.lt_of_le_of_lt (Nat.sub_le_sub_right h.2 97) (by decide))
  rwa [show 97 + (c - 97) = c from Nat.add_sub_cancel' h.1] at this
noncomputable def C_is_name (G:Gx) (A:Ad):Prop:=∀ ⦃H:Hp⦄ ⦃x:Str⦄ ⦃t:Tok⦄,Good x→∀ ⦃Q:QV⦄ ⦃X:XV⦄,(∀ H',Kp [] H H'→Q (.bool true) H')→G.fn (A "is_name" "") false [.str x t] H Q X
theorem is_name_ok (F:EnvS G A) {x:Str} {t:Tok} (hx:Good x) (q:∀ H',Kp [] H H'→Q (.bool true) H'):wpF G false ["thing"] b_is_name [.str x t] H Q X:=by
  have hlen:x.length = x.cps.toList.length:=rfl
  have h1:=hx.lo
  have h2:=hx.hi
  refine f_in rfl ?_
  refine ss_iff0 (ev_go (by mem_news) (ev_one (ev_not (b:=true) (ev_cmp2 ev_int (ev_lens (by mem_news) (Nat.le_trans h2 (by decide))) (cmp_le (decide_eq_true (by exact Int.ofNat_le.2 h1))) (by mem_news) (cmp_le (decide_eq_true (by exact Int.ofNat_le.2 h2)))) rfl))) ?_
  refine ss_retW (w_bfW (wl_cons (w_compS (fun _=>.bool true) (by mem_news) (Nat.le_trans h2 (by decide)) (fun c hc=>?_) fun b hb=>?_)))
  · have hc:=let_has (hx.cs c hc)
    exact ev_ins (ev_loc rfl) (by mem_news) hc
  · refine ⟨.inr (.inl rfl), ?_⟩
    conv=>whnf
    rw [Hp.upd_same]
    refine ⟨x.cps.toList.map fun _=>true,by simp, ?_⟩
    rw [show (x.cps.toList.map fun _=>true).all id = true by simp]
    exact q _ (kp_new hb _)
structure PathAt (H:Hp) (a:Addr) (xs:List Str):Prop where
  at_:∃ o,H a = some o∧chg o = false∧(o = .list (xs.map fun x=>Value.str x 0)∨o = .tup (xs.map fun x=>Value.str x 0))
  good:∀ x∈xs,Good x
  len:xs.length≤8
theorem PathAt.kp {M:List Addr} {H':Hp} {a:Addr} {xs:List Str} (h:PathAt H a xs) (k:Kp M H H'):PathAt H' a xs:=let ⟨o,h1,h2,h3⟩:=h.at_;⟨⟨o,k a o h1 (.inl h2),h2,h3⟩,h.good,h.len⟩
theorem path_list {a:Addr} {xs:List Str} (h:H a = some (.list (xs.map fun x=>Value.str x 0))) (g:∀ x∈xs,Good x) (z:xs.length≤8):PathAt H a xs:=⟨⟨_,h,rfl, .inl rfl⟩,g,z⟩
noncomputable def C_checked (G:Gx) (A:Ad):Prop:=∀ ⦃H:Hp⦄ ⦃a:Addr⦄ ⦃xs:List Str⦄,PathAt H a xs→∀ ⦃Q:QV⦄ ⦃X:XV⦄,(∀ b H',Kp [] H H'→H' b = some (.list (xs.map fun x=>Value.str x 0))→H b = none→Q (.ref b) H')→G.fn (A "checked" "") false [.ref a] H Q X
theorem checked_ok (F:EnvS G A) (N:C_is_name G A) {a:Addr} {xs:List Str} (hp:PathAt H a xs) (q:∀ b H',Kp [] H H'→H' b = some (.list (xs.map fun x=>Value.str x 0))→H b = none→Q (.ref b) H'):wpF G false ["path"] b_checked [.ref a] H Q X:=by
  obtain ⟨o,ho,hc,hs⟩:=hp.at_
  have hseq:seqO o = some (xs.map fun x=>Value.str x 0)∧seqI o = some (xs.map fun x=>Value.str x 0)∧isiObj .listOrTuple o = some true:=by rcases hs with rfl | rfl <;> exact ⟨rfl,rfl,rfl⟩
  have hz:=hp.len
  have hzz:(xs.map fun x=>Value.str x 0).length≤sizeLine:=by rw [List.length_map];exact Nat.le_trans hz (by decide)
  refine f_in rfl ?_
  refine ss_iff0 (ev_go (ev_not (ev_isir (by mem_news) ho hseq.2.2) rfl) (ev_one (ev_gt (ev_len (by mem_news) ho hseq.1) (by mem_news) (decide_eq_false (by rw [List.length_map];exact Int.not_lt.2 (Int.ofNat_le.2 ‹_›)))))) ?_
  refine ss_ifW (w_notW (w_bfW (wl_cons (w_compI (fun r acc H'=>Kp [] H H'∧(∃ rs,r = rs.map (fun x=>Value.str x 0)∧∀ x∈rs,Good x)∧∃ n,acc = List.replicate n (.bool true)) (by mem_news) ho hseq.2.1 hzz (fun r acc H' h=>h.1 a o ho (.inl hc)) ?_ ⟨Kp.refl _ _,⟨xs,rfl,hp.good⟩,0,rfl⟩ ?_))))
  · rintro v r acc H' ⟨kk,⟨rs,hrs,hg⟩,n,rfl⟩ K hK
    cases rs with
    | nil=>cases hrs
    | cons x rs =>
    cases hrs
    refine w_call (by mem_news) (by nest_cls) (by mem_news) (N (hg x (List.mem_cons_self ..)) fun H2 k2=>hK _ _ ⟨kk.trans k2,⟨rs,rfl,fun y hy=>hg y (List.mem_cons_of_mem _ hy)⟩,n + 1, ?_⟩)
    rw [List.replicate_succ',]
  · rintro acc H' ⟨kk, -,n,rfl⟩ c hcn
    refine wl_nil ⟨.inr (.inl rfl), ?_⟩
    conv=>whnf
    rw [Hp.upd_same]
    refine ⟨List.replicate n true,by simp, ?_⟩
    have k2:=kk.fresh (c:=c) (by
      cases e:H c with
      | none=>rfl
      | some p=>rw [kk c p e (.inr (by simp))] at hcn;cases hcn) (.list (List.replicate n (.bool true)))
    generalize H'.upd c (.list (List.replicate n (.bool true))) = H2 at *
    rw [show (List.replicate n true).all id = true by simp]
    refine ss_retW (r:=[]) (w_blist (by mem_news) (k2 a o ho (.inl hc)) hseq.2.1 hzz fun b hb=>?_)
    refine q _ _ (k2.trans (kp_new hb _)) (Hp.upd_same _ _ _) ?_
    cases e:H b with
    | none=>rfl
    | some p=>rw [k2 b p e (.inr (by simp))] at hb;cases hb
theorem good_ok {x:Str} (h:Good x):PyData.canLay0 (.str x) = true:=by
  show PyData.strOk x = true
  unfold PyData.strOk
  rw [← Array.all_toList,List.all_eq_true]
  intro c hc
  have:=h.cs c hc
  exact decide_eq_true (Nat.lt_of_le_of_lt this.2 (by decide))
theorem rd_strs {H:Hp}:∀ w:List Str,RdAll H (w.map fun n=>Value.str n 0) (w.map PyData.str)
  | []=>.nil
  | n :: w=>.cons (.str n 0) (rd_strs w)
theorem lay_strs:∀ w:List Str,(∀ x∈w,Good x)→PyData.canLayAll0 (w.map PyData.str) = true
  | [],_=>rfl
  | n :: w,h=>Bool.and_eq_true_iff.2 ⟨good_ok (h n (List.mem_cons_self ..)),lay_strs w fun x hx=>h x (List.mem_cons_of_mem _ hx)⟩
theorem depth_strs:∀ w:List Str,PyData.depthAll (w.map PyData.str)≤1
  | []=>Nat.zero_le 1
  | _ :: w=>Nat.max_le.2 ⟨Nat.zero_le 1,depth_strs w⟩
theorem shaped_strs {w:List Str} (h:∀ x∈w,Good x):SeqAt.shaped (.list (w.map PyData.str)) = true:=by
  refine Bool.and_eq_true_iff.2 ⟨lay_strs w h,decide_eq_true ?_⟩
  show PyData.depthAll (w.map PyData.str) + 1≤64
  exact Nat.le_trans (Nat.succ_le_succ (depth_strs w)) (by decide)
noncomputable def C_need_way (G:Gx) (A:Ad):Prop:=∀ ⦃H:Hp⦄ ⦃a:Addr⦄ ⦃xs:List Str⦄,PathAt H a xs→xs≠[]→∀ ⦃Q:QV⦄ ⦃X:XV⦄,(∀ b H',Kp [] H H'→H' b = some (.list (xs.map fun x=>Value.str x 0))→H b = none→Q (.ref b) H')→G.fn (A "need_way" "") false [.ref a] H Q X
theorem need_way_ok (F:EnvS G A) (N:C_checked G A) {a:Addr} {xs:List Str} (hp:PathAt H a xs) (hne:xs≠[]) (q:∀ b H',Kp [] H H'→H' b = some (.list (xs.map fun x=>Value.str x 0))→H b = none→Q (.ref b) H'):wpF G false ["path"] b_need_way [.ref a] H Q X:=by
  refine f_in rfl ?_
  refine ss_asgW (w_call (by mem_news) (by nest_cls) (by mem_news) (N hp fun b H1 k1 hb hn=>?_))
  refine ss_ifW (w_cmpW (w_ev (v:=.ref b) (by mem_news) (w_list evl_nil (Nat.le_of_ble_eq_true rfl) fun e1 he1=>?_)))
  have k2:Kp [] H1 (H1.upd e1 (.list [])):=kp_new he1 _
  refine ⟨.list (xs.map PyData.str), .list [], .list (k2.list hb) (rd_strs xs), .list (Hp.upd_same _ _ _) .nil,shaped_strs hp.good,rfl, ?_⟩
  rw [eqv_nil,show (xs.map PyData.str).isEmpty = false by cases xs with | nil=>exact absurd rfl hne | cons _ _=>rfl]
  exact ss_ret (r:=[]) (by mem_news) (q b _ (k1.trans k2) (k2.list hb) hn)
noncomputable def C_need_number (G:Gx) (A:Ad):Prop:=∀ ⦃H:Hp⦄ ⦃n:Int⦄ ⦃t:Tok⦄, -(10 ^ 30) < n→n < 10 ^ 30→∀ ⦃Q:QV⦄ ⦃X:XV⦄,Q .none H→G.fn (A "need_number" "") false [.int n t] H Q X
theorem need_number_ok (F:EnvS G A) {n:Int} {t:Tok} (h1:-(10 ^ 30) < n) (h2:n < 10 ^ 30) (q:Q .none H):wpF G false ["number"] b_need_number [.int n t] H Q X:=by
  refine f_in rfl ?_
  refine ss_iff0 (ev_go (by mem_news) (ev_go (by mem_news) (ev_one (ev_not (b:=true) (ev_cmp2 (ev_neg (by mem_news)) (by mem_news) (cmp_lt (decide_eq_true h1)) (by mem_news) (cmp_lt (decide_eq_true h2))) rfl)))) ?_
  exact ss_nl q
noncomputable def rowOf (rows:List (Str×Int)) (n:Str):Option Int:=(rows.find? fun r=>decide (r.1 = n)).map (·.2)
noncomputable def optV:Option Int→Value
  | some i=>.int i 0
  | none=>.none
noncomputable def C_box_of (G:Gx) (A:Ad):Prop:=∀ ⦃H:Hp⦄ ⦃rl:Addr⦄ ⦃xs:List Value⦄ ⦃rows:List (Str×Int)⦄ ⦃n:Str⦄ ⦃t:Tok⦄,H rl = some (.list xs)→All2 (RRow H) xs rows→∀ ⦃Q:QV⦄ ⦃X:XV⦄,Q (optV (rowOf rows n)) H→G.fn (A "box_of" "") false [.ref rl, .str n t] H Q X
theorem box_of_ok {rl:Addr} {xs:List Value} {rows:List (Str×Int)} {n:Str} {t:Tok} (hl:H rl = some (.list xs)) (hr:All2 (RRow H) xs rows) (q:Q (optV (rowOf rows n)) H):wpF G false ["rows", "name"] b_box_of [.ref rl, .str n t] H Q X:=by
  refine f_in rfl ?_
  refine ss_forI (fun r l' H'=>H' = H∧l' "name" = some (.str n t)∧∃ rs,All2 (RRow H) r rs∧rowOf rows n = rowOf rs n) (by mem_news) hl rfl (fun r l' H' h=>by rw [h.1];exact hl) ?_ ⟨rfl,rfl,rows,hr,rfl⟩ ?_
  · rintro v r l' H' ⟨rfl,g1,rs,hw,he⟩ K hK hR
    cases hw with
    | @cons _ row _ ws' e1 e2 =>
    obtain ⟨a,rfl,ha⟩:=e1
    refine ss_if (b:=decide (row.1 = n)) (by mem_news) (fun hb=>?_) fun hb=>ss_nl (hK _ _ ?_).1
    · refine ss_ret (by mem_news) (hR _ _ _ ?_)
      have:rowOf rows n = some row.2:=by rw [he];unfold rowOf;rw [List.find?_cons,hb];rfl
      rw [this] at q;exact q
    · refine ⟨rfl,g1,ws',e2, ?_⟩
      rw [he];unfold rowOf;rw [List.find?_cons,hb]
  · rintro l' H' ⟨rfl,g1,rs,hw,he⟩
    cases hw
    refine ss_ret (by mem_news) ?_
    rw [he] at q;exact q
noncomputable def lessS (a b:Str):Bool:=decide (a.cps.toList < b.cps.toList)
noncomputable def placedR (rows:List (Str×Int)) (n:Str) (b:Int):List (Str×Int):=rows.filter (fun r=>lessS r.1 n)++[(n,b)]++rows.filter (fun r=>lessS n r.1)
noncomputable def C_placed (G:Gx) (A:Ad):Prop:=∀ ⦃H:Hp⦄ ⦃rl:Addr⦄ ⦃xs:List Value⦄ ⦃rows:List (Str×Int)⦄ ⦃n:Str⦄ ⦃b:Int⦄,H rl = some (.list xs)→All2 (RRow H) xs rows→rows.length≤2 ^ 20→∀ ⦃Q:QV⦄ ⦃X:XV⦄,(∀ c ys H',Kp [] H H'→H' c = some (.list ys)→All2 (RRow H') ys (placedR rows n b)→Q (.ref c) H')→G.fn (A "placed" "") false [.ref rl, .str n 0, .int b 0] H Q X
theorem placed_ok {rl:Addr} {xs:List Value} {rows:List (Str×Int)} {n:Str} {b:Int} (hl:H rl = some (.list xs)) (hr:All2 (RRow H) xs rows) (hz:rows.length≤2 ^ 20)
    (q:∀ c ys H',Kp [] H H'→H' c = some (.list ys)→All2 (RRow H') ys (placedR rows n b)→Q (.ref c) H'):wpF G false ["rows", "name", "box"] b_placed [.ref rl, .str n 0, .int b 0] H Q X:=by
  have hzx:xs.length≤2 ^ 20:=by rw [all2_len hr];exact hz
  refine f_in rfl ?_
  refine ss_asgW (w_compA (fun r:Str×Int=>lessS r.1 n) id (by mem_news) hl rfl (len_line hzx) hr (fun v r e=>?_) (fun v r _ _=>ev_loc rfl) fun z1 h1 l1 c1 hc1=>?_)
  · obtain ⟨a,rfl,ha⟩:=e
    exact ev_one (ev_lts (by mem_news) (by mem_news) rfl)
  rw [List.map_id]
  have k1:Kp [] H (H.upd c1 (.list z1)):=kp_new hc1 _
  have e1:(H.upd c1 (.list z1)) c1 = some (.list z1):=Hp.upd_same _ _ _
  generalize H.upd c1 (.list z1) = H1 at k1 e1 ⊢
  refine ss_asgW (w_compA (fun r:Str×Int=>lessS n r.1) id (by mem_news) (k1.list hl) rfl (len_line hzx) (all2_imp (fun _ _ z=>RRow.kp k1 z) hr) (fun v r e=>?_) (fun v r _ _=>ev_loc rfl) fun z2 h2 l2 c2 hc2=>?_)
  · obtain ⟨a,rfl,ha⟩:=e
    exact ev_one (ev_gts (by mem_news) (by mem_news) rfl)
  rw [List.map_id]
  have k2:Kp [] H1 (H1.upd c2 (.list z2)):=kp_new hc2 _
  have e2:(H1.upd c2 (.list z2)) c2 = some (.list z2):=Hp.upd_same _ _ _
  have e1:=k2.list e1
  generalize H1.upd c2 (.list z2) = H2 at k2 e1 e2 ⊢
  refine ss_retW (w_binW (w_binW (w_ev (v:=.ref c1) (by mem_news) (w_listW (wl_cons (w_tup (by mem_news) (Nat.le_of_ble_eq_true rfl) fun t ht=>wl_nil ⟨Nat.le_of_ble_eq_true rfl,fun c3 hc3=>?_⟩))))))
  have k3:Kp [] H2 (H2.upd t (.tup [.str n 0, .int b 0])):=kp_new ht _
  have e3:(H2.upd t (.tup [.str n 0, .int b 0])) t = some (.tup [.str n 0, .int b 0]):=Hp.upd_same _ _ _
  have e1:=k3.list e1
  have e2:=k3.list e2
  generalize H2.upd t (.tup [.str n 0, .int b 0]) = H3 at k3 e1 e2 e3 hc3 ⊢
  have k4:Kp [] H3 (H3.upd c3 (.list [.ref t])):=kp_new hc3 _
  have e4:(H3.upd c3 (.list [.ref t])) c3 = some (.list [.ref t]):=Hp.upd_same _ _ _
  have e1:=k4.list e1
  have e2:=k4.list e2
  have e3:=k4.tup e3
  generalize H3.upd c3 (.list [.ref t]) = H4 at k4 e1 e2 e3 e4 ⊢
  refine addl_at e1 e4 (by simp only [List.length_singleton];exact Nat.le_trans (Nat.succ_le_succ (Nat.le_trans ‹z1.length≤xs.length› ‹_›)) (show 2 ^ 20 + 1≤_ by decide)) fun c4 hc4=>?_
  have k5:Kp [] H4 (H4.upd c4 (.list (z1++[.ref t]))):=kp_new hc4 _
  have e5:(H4.upd c4 (.list (z1++[.ref t]))) c4 = some (.list (z1++[.ref t])):=Hp.upd_same _ _ _
  have e2:=k5.list e2
  have e3:=k5.tup e3
  generalize H4.upd c4 (.list (z1++[.ref t])) = H5 at k5 e2 e3 e5 ⊢
  refine w_ev (v:=.ref c2) (by mem_news) (addl_at e5 e2 (by simp only [List.length_append,List.length_singleton];exact Nat.le_trans (Nat.add_le_add (Nat.succ_le_succ (Nat.le_trans ‹z1.length≤xs.length› ‹_›)) (Nat.le_trans ‹z2.length≤xs.length› ‹_›)) (show 2 ^ 20 + 1 + 2 ^ 20≤_ by decide)) fun c6 hc6=>?_)
  have k6:Kp [] H5 (H5.upd c6 (.list (z1++[.ref t]++z2))):=kp_new hc6 _
  have kk:=((((k1.trans k2).trans k3).trans k4).trans k5).trans k6
  refine q _ _ _ kk (Hp.upd_same _ _ _) ?_
  refine all2_append (all2_append (all2_imp (fun _ _ z=>RRow.kp kk z) h1) (.cons ⟨t,rfl,k6.tup e3⟩ .nil)) (all2_imp (fun _ _ z=>RRow.kp ((((k2.trans k3).trans k4).trans k5).trans k6) z) h2)
end
end Mine.St
end

section
open PySem PyProof.Rows
namespace Mine.St
open Mine
noncomputable def find (bs:List (Int×Ct)):Int→List Str→Option (Option Int)
  | box,[]=>some (some box)
  | box,n :: r=>match get bs box with
    | some (.leaf _)=>some none
    | some (.br rows)=>(match rowOf rows n with
      | some b=>find bs b r
      | none=>some none)
    | none=>none
noncomputable def wayAt (bs:List (Int×Ct)) (tree:Int) (xs:List Str) (k:Nat):Option (List (Str×Int)):=match find bs tree (xs.take k) with
  | some none=>some []
  | some (some b)=>(match get bs b with
    | some (.br rows)=>some rows
    | _=>none)
  | none=>none
noncomputable def build (W:Nat→List (Str×Int)) (N:Nat→Str):Nat→List (Int×Ct)→List (Int×Int)→Int→Int→Option (List (Int×Ct)×List (Int×Int)×Int×Int)
  | 0,bs,cs,mk,box=>some (bs,cs,mk,box)
  | j + 1,bs,cs,mk,box=>if bs.length≤2 ^ 20∧cs.length≤2 ^ 20∧(W j).length≤2 ^ 20∧(placedR (W j) (N j) box).length≤2 ^ 20∧((placedR (W j) (N j) box).all fun r=>(get bs r.2).isSome) = true then
      (match holdAll cs (placedR (W j) (N j) box) with
      | some cs'=>build W N j (put bs (mk + 1) (.br (placedR (W j) (N j) box))) (put cs' (mk + 1) 0) (mk + 1) (mk + 1)
      | none=>none) else none
end Mine.St
end

section
open PySem PyProof.Rows Mine
namespace Mine.St
noncomputable def allKids (bs:List (Int×Ct)):List Int:=bs.flatMap fun p=>kids p.2
section
variable {α:Type}
theorem del_keys (l:List (Int×α)) (i:Int):(del l i).map (·.1) = (l.map (·.1)).filter fun j=>decide (j≠i):=by
  unfold del;rw [List.filter_map];rfl
theorem put_keys {l:List (Int×α)} {i:Int} {b:α} (a:α) (h:get l i = some b):(put l i a).map (·.1) = l.map (·.1):=by
  unfold put
  rw [if_pos,List.map_map]
  · refine List.map_congr_left fun p _=>?_
    simp only [Function.comp]
    split <;> rfl
  · obtain ⟨p,hp,e⟩:=List.mem_map.1 (get_mem h)
    exact List.any_eq_true.2 ⟨p,hp,decide_eq_true e⟩
theorem get_of_key {l:List (Int×α)} {i:Int} (h:i∈l.map (·.1)):∃ a,get l i = some a:=by
  cases e:get l i with
  | some a=>exact ⟨a,rfl⟩
  | none =>
    unfold get at e
    rw [Option.map_eq_none_iff,List.find?_eq_none] at e
    obtain ⟨p,hp,q⟩:=List.mem_map.1 h
    exact absurd (decide_eq_true q) (e p hp)
theorem mem_of_get {l:List (Int×α)} {i:Int} {a:α} (h:get l i = some a):(i,a)∈l:=by
  unfold get at h
  obtain ⟨p,hp,rfl⟩:=Option.map_eq_some_iff.1 h
  have:=List.find?_some hp
  rw [decide_eq_true_iff] at this
  rw [← this]
  exact List.mem_of_find?_eq_some hp
theorem get_of_mem {l:List (Int×α)} (n:(l.map (·.1)).Nodup) {i:Int} {a:α} (h:(i,a)∈l):get l i = some a:=by
  induction l with
  | nil=>cases h
  | cons p l ih =>
    rw [List.map_cons,List.nodup_cons] at n
    rw [get_cons]
    rcases List.mem_cons.1 h with rfl | h
    · rw [if_pos rfl]
    · rw [if_neg,ih n.2 h]
      intro e
      exact n.1 (e ▸ List.mem_map.2 ⟨_,h,rfl⟩)
theorem del_none {l:List (Int×α)} {i:Int} (h:i ∉ l.map (·.1)):del l i = l:=by
  unfold del
  refine List.filter_eq_self.2 fun p hp=>decide_eq_true fun e=>h (e ▸ List.mem_map.2 ⟨p,hp,rfl⟩)
theorem asc_nodup {l:List Int} (h:l.Pairwise (· < ·)):l.Nodup:=h.imp fun q e=>absurd (e ▸ q) (Int.lt_irrefl _)
theorem del_put {l:List (Int×α)} (i:Int) (a:α):del (put l i a) i = del l i:=by
  unfold put
  split
  · rename_i h;clear h
    unfold del
    induction l with
    | nil=>rfl
    | cons p l ih =>
      rw [List.map_cons,List.filter_cons,List.filter_cons,ih]
      by_cases e:p.1 = i
      · rw [if_pos e,if_neg (by simp [e]),if_neg (by simp [e])]
      · rw [if_neg e]
  · unfold del
    rw [List.filter_append]
    simp
end
theorem perm_del {α:Type} {l:List (Int×α)} {i:Int} {c:α} (n:(l.map (·.1)).Nodup) (h:get l i = some c):l.Perm ((i,c) :: del l i):=by
  induction l with
  | nil=>cases h
  | cons p l ih =>
    rw [List.map_cons,List.nodup_cons] at n
    rw [get_cons] at h
    by_cases e:p.1 = i
    · rw [if_pos e] at h;cases h
      have:del (p :: l) i = l:=by
        unfold del
        rw [List.filter_cons,if_neg (by simp [e])]
        exact del_none (e ▸ n.1)
      rw [this,← e]
    · rw [if_neg e] at h
      have:del (p :: l) i = p :: del l i:=by
        unfold del
        rw [List.filter_cons,if_pos (by simp [e])]
      rw [this]
      exact ((ih n.2 h).cons p).trans (List.Perm.swap ..)
theorem kids_del {bs:List (Int×Ct)} {i:Int} {c:Ct} (n:(bs.map (·.1)).Nodup) (h:get bs i = some c):(allKids bs).Perm (kids c++allKids (del bs i)) :=
  (perm_del n h).flatMap_right _
structure PW (bs:List (Int×Ct)) (cs:List (Int×Int)) (mk:Int) (ext:List Int):Prop where
  keys:cs.map (·.1) = bs.map (·.1)
  asc:(bs.map (·.1)).Pairwise (· < ·)
  pos:∀ i∈bs.map (·.1),1≤i∧i≤mk
  down:∀ i c,get bs i = some c→∀ k∈kids c,k < i
  cnt:∀ i k,get cs i = some k→k = ((allKids bs++ext).count i:Nat)
  clo:∀ i∈allKids bs++ext,i∈bs.map (·.1)
section
variable {bs:List (Int×Ct)} {cs:List (Int×Int)} {mk:Int} {ext:List Int}
theorem PW.nd (h:PW bs cs mk ext):(bs.map (·.1)).Nodup:=asc_nodup h.asc
theorem PW.perm (h:PW bs cs mk ext) {ext':List Int} (p:ext.Perm ext'):PW bs cs mk ext' :=
  ⟨h.keys,h.asc,h.pos,h.down,fun i k e=>(h.cnt i k e).trans (by rw [(p.append_left _).count_eq]),fun i hi=>h.clo i ((p.append_left _).mem_iff.2 hi)⟩
theorem PW.len (h:PW bs cs mk ext):cs.length = bs.length:=by
  have:=congrArg List.length h.keys
  simpa using this
theorem PW.at_ (h:PW bs cs mk ext) {i:Int} (hi:i∈allKids bs++ext):∃ c k,get bs i = some c∧get cs i = some k∧1≤k:=by
  have h1:=h.clo i hi
  obtain ⟨c,hc⟩:=get_of_key h1
  obtain ⟨k,hk⟩:=get_of_key (h.keys ▸ h1)
  exact ⟨c,k,hc,hk,by rw [h.cnt i k hk];exact Int.ofNat_le.2 (List.count_pos_iff.2 hi)⟩
theorem get_sub {l l':List (Int×Ct)} (n:(l.map (·.1)).Nodup) (s:l'.Sublist l) {i:Int} {c:Ct} (h:get l' i = some c):get l i = some c:=get_of_mem n (s.subset (mem_of_get h))
theorem PW.drop {one:Int} {ext':List Int} {c:Ct} (h:PW bs cs mk ext) (hb:get bs one = some c) (hc:get cs one = some 1) (he:ext.Perm (one :: ext')) (a:Int):PW (del bs one) (del (put cs one a) one) mk (kids c++ext'):=by
  have P:(allKids bs++ext).Perm (one :: (allKids (del bs one)++(kids c++ext'))):=by
    refine ((kids_del h.nd hb).append he).trans ?_
    refine List.perm_middle.trans ?_
    refine List.Perm.cons _ ?_
    rw [← List.append_assoc]
    exact List.perm_append_comm.append_right _
  have hone:(allKids (del bs one)++(kids c++ext')).count one = 0:=by
    have:=h.cnt one 1 hc
    rw [P.count_eq,List.count_cons_self] at this
    exact (Nat.succ.inj (Int.ofNat_inj.1 (show ((1:Nat):Int) = _ from this))).symm
  rw [del_put]
  refine ⟨?_, ?_, ?_, ?_, ?_, ?_⟩
  · rw [del_keys,del_keys,h.keys]
  · rw [del_keys];exact h.asc.filter _
  · intro i hi
    rw [del_keys] at hi
    exact h.pos i (List.mem_filter.1 hi).1
  · intro i c' e
    rw [get_del] at e
    split at e
    · cases e
    · exact h.down i c' e
  · intro i k e
    rw [get_del] at e
    split at e
    · cases e
    · rename_i hi
      have:=h.cnt i k e
      rw [P.count_eq,List.count_cons_of_ne (fun q=>hi q.symm)] at this
      exact this
  · intro i hi
    rw [del_keys,List.mem_filter,decide_eq_true_iff]
    refine ⟨h.clo i (P.mem_iff.2 (List.mem_cons_of_mem _ hi)), ?_⟩
    rintro rfl
    exact absurd hi (List.count_eq_zero.1 hone)
theorem PW.less {one k:Int} {ext':List Int} (h:PW bs cs mk ext) (hc:get cs one = some k) (he:ext.Perm (one :: ext')):PW bs (put cs one (k - 1)) mk ext':=by
  have P:(allKids bs++ext).Perm (one :: (allKids bs++ext')):=(he.append_left _).trans List.perm_middle
  refine ⟨(put_keys _ hc).trans h.keys,h.asc,h.pos,h.down, ?_,fun i hi=>h.clo i (P.mem_iff.2 (List.mem_cons_of_mem _ hi))⟩
  intro i k' e
  rw [get_put] at e
  split at e
  · rename_i hi
    cases e;subst hi
    have:=h.cnt i k hc
    rw [P.count_eq,List.count_cons_self] at this
    rw [this,Int.natCast_add];exact Int.add_sub_cancel ..
  · rename_i hi
    have:=h.cnt i k' e
    rw [P.count_eq,List.count_cons_of_ne (fun q=>hi q.symm)] at this
    exact this
theorem PW.more {one k:Int} (h:PW bs cs mk ext) (hc:get cs one = some k):PW bs (put cs one (k + 1)) mk (one :: ext):=by
  have P:(allKids bs++one :: ext).Perm (one :: (allKids bs++ext)):=List.perm_middle
  refine ⟨(put_keys _ hc).trans h.keys,h.asc,h.pos,h.down, ?_,fun i hi=>?_⟩
  · intro i k' e
    rw [get_put] at e
    split at e
    · rename_i hi
      cases e;subst hi
      have:=h.cnt i k hc
      rw [P.count_eq,List.count_cons_self,this]
      rfl
    · rename_i hi
      rw [P.count_eq,List.count_cons_of_ne (fun q=>hi q.symm)]
      exact h.cnt i k' e
  · rcases List.mem_cons.1 (P.mem_iff.1 hi) with rfl | hi
    · rw [← h.keys];exact get_mem hc
    · exact h.clo i hi
structure LgR (mk:Int) (roots:List Int) (r:LgV) (w:List Int) (bs:List (Int×Ct)) (g:Int) (bs':List (Int×Ct)) (cs':List (Int×Int)):Prop where
  e:r = some (bs',cs',g + bs.length - bs'.length)
  pw:PW bs' cs' mk roots
  sub:bs'.Sublist bs
  al:(∀ i∈bs.map (·.1),i∈allKids bs++(w++roots))→∀ i∈bs'.map (·.1),i∈allKids bs'++roots
section
variable {roots w:List Int} {one g:Int} {c:Ct} {r:LgV} {bs':List (Int×Ct)} {cs':List (Int×Int)}
theorem perm_mid:(w++[one]++roots).Perm (one :: (w++roots)):=by rw [List.append_assoc];exact List.perm_middle
theorem lgr_gone (h:PW bs cs mk (w++[one]++roots)) (hc:get bs one = some c) (R:LgR mk roots r (w++kids c) (del bs one) (g + 1) bs' cs'):LgR mk roots r (w++[one]) bs g bs' cs' where
  e:=by
    have bl:(del bs one).length + 1 = bs.length:=by rw [(perm_del h.nd hc).length_eq];rfl
    have e:g + 1 + ((del bs one).length:Int) = g + (bs.length:Int):=by rw [← bl];exact (Int.add_right_comm ..).trans (Int.add_assoc ..)
    rw [R.e,e]
  pw:=R.pw
  sub:=R.sub.trans List.filter_sublist
  al:=fun q=>R.al fun i hi=>by
    rw [del_keys,List.mem_filter,decide_eq_true_iff] at hi
    rcases List.mem_cons.1 (((perm_mid.append_left _).trans List.perm_middle).mem_iff.1 (q i hi.1)) with r | r
    · exact absurd r hi.2
    · rcases List.mem_append.1 (((kids_del h.nd hc).append_right (w++roots)).mem_iff.1 r) with r | r
      · rcases List.mem_append.1 r with r | r
        · exact List.mem_append_right _ (List.mem_append_left _ (List.mem_append_right _ r))
        · exact List.mem_append_left _ r
      · rcases List.mem_append.1 r with r | r
        · exact List.mem_append_right _ (List.mem_append_left _ (List.mem_append_left _ r))
        · exact List.mem_append_right _ (List.mem_append_right _ r)
theorem lgr_less {k:Int} (h:PW bs cs mk (w++[one]++roots)) (hk:get cs one = some k) (hk2:0 < k - 1) (R:LgR mk roots r w bs g bs' cs'):LgR mk roots r (w++[one]) bs g bs' cs' where
  e:=R.e
  pw:=R.pw
  sub:=R.sub
  al:=fun q=>R.al fun i hi=>by
    rcases List.mem_cons.1 (((perm_mid.append_left _).trans List.perm_middle).mem_iff.1 (q i hi)) with rfl | r
    · have:=(h.less hk perm_mid).cnt i (k - 1) (by rw [get_put,if_pos rfl])
      rw [this] at hk2
      exact List.count_pos_iff.1 (Int.ofNat_lt.1 hk2)
    · exact r
end
theorem lgo_pw (roots:List Int) (n:Nat):∀ (w:List Int) (bs:List (Int×Ct)) (cs:List (Int×Int)) (g:Int),PW bs cs mk (w++roots)→w.length + (allKids bs).length < n→n≤2 ^ 20→bs.length≤2 ^ 20 →
    ∃ bs' cs',LgR mk roots (lgo n w bs cs g) w bs g bs' cs':=by
  induction n with
  | zero=>intro _ _ _ _ _ hn;exact absurd hn (Nat.not_lt_zero _)
  | succ n ih =>
    intro w bs cs g h hn hz hb
    have hw:w.length≤2 ^ 20:=Nat.le_trans (Nat.le_of_lt (Nat.lt_of_le_of_lt (Nat.le_add_right ..) hn)) hz
    have hz3:w.length≤2 ^ 20∧bs.length≤2 ^ 20∧cs.length≤2 ^ 20:=⟨hw,hb,by rw [h.len];exact hb⟩
    rcases List.eq_nil_or_concat w with rfl | ⟨w,one,rfl⟩
    · exact ⟨bs,cs,by show (if _ then some (bs,cs,g) else none) = _;rw [if_pos hz3,Int.add_sub_cancel],h,List.Sublist.refl _,fun q=>q⟩
    · rw [List.concat_eq_append] at *
      obtain ⟨c,k,hc,hk,hk1⟩:=h.at_ (i:=one) (by simp)
      have e0:max 0 (k - 1) = k - 1:=Int.max_eq_right (Int.sub_nonneg_of_le hk1)
      rw [lgo_eq hz3 List.getLast?_concat,lgoB_some hc hk,List.dropLast_concat,e0]
      rw [List.length_append,List.length_singleton,Nat.add_right_comm] at hn
      have hn:=Nat.lt_of_succ_lt_succ hn
      have hz:=Nat.le_of_succ_le hz
      by_cases e:k - 1 = 0
      · have pk:=(kids_del h.nd hc).length_eq
        rw [List.length_append] at pk
        rw [pk] at hn
        rw [if_pos e,if_pos (Nat.le_trans (Nat.le_trans (Nat.le_add_right ..) (Nat.le_of_lt (Nat.lt_of_le_of_lt (Nat.le_add_left ..) hn))) hz)]
        have dl:(del bs one).length≤2 ^ 20:=Nat.le_trans (List.length_filter_le ..) hb
        obtain ⟨bs',cs',R⟩:=ih (w++kids c) (del bs one) (del (put cs one (k - 1)) one) (g + 1)
          ((h.drop hc (Int.eq_of_sub_eq_zero e ▸ hk) perm_mid _).perm (by rw [← List.append_assoc];exact List.perm_append_comm.append_right _)) (by rw [List.length_append,Nat.add_assoc];exact hn) hz dl
        exact ⟨bs',cs',lgr_gone h hc R⟩
      · rw [if_neg e]
        obtain ⟨bs',cs',R⟩:=ih w bs (put cs one (k - 1)) g (h.less hk perm_mid) hn hz hb
        exact ⟨bs',cs',lgr_less h hk (Int.lt_iff_le_and_ne.2 ⟨Int.sub_nonneg_of_le hk1,fun q=>e q.symm⟩) R⟩
end
end Mine.St
end

section
open PySem PyProof.Rows Mine
namespace Mine.St
section
variable {bs:List (Int×Ct)} {cs:List (Int×Int)} {mk:Int} {ext:List Int}
theorem allKids_append (a b:List (Int×Ct)):allKids (a++b) = allKids a++allKids b:=by unfold allKids;rw [List.flatMap_append]
theorem mem_allKids {i k:Int} {c:Ct} (h:get bs i = some c) (hk:k∈kids c):k∈allKids bs:=List.mem_flatMap.2 ⟨_,mem_of_get h,hk⟩
theorem hold_pw:∀ (rows:List (Str×Int)) {cs:List (Int×Int)} {ext:List Int},PW bs cs mk ext→(∀ r∈rows,r.2∈bs.map (·.1))→∃ cs',holdAll cs rows = some cs'∧PW bs cs' mk (rows.map (·.2)++ext)
  | [],cs,ext,h,_=>⟨cs,rfl,h⟩
  | r :: rows,cs,ext,h,hr=>by
    obtain ⟨k,hk⟩:=get_of_key (l:=cs) (i:=r.2) (h.keys ▸ hr r (List.mem_cons_self ..))
    obtain ⟨cs',e,h'⟩:=hold_pw rows (h.more hk) fun q hq=>hr q (List.mem_cons_of_mem _ hq)
    refine ⟨cs',by unfold holdAll;rw [hk];exact e,h'.perm ?_⟩
    rw [List.map_cons,List.cons_append]
    exact List.perm_middle
theorem lt1 {a b:Int} (h:a≤b):a < b + 1:=Int.lt_add_one_of_le h
theorem no1 {a:Int} (h:a + 1≤a):False:=Int.not_le.2 (lt1 (Int.le_refl a)) h
theorem pos1 {a i:Int} (h:1≤i∧i≤a):1≤i∧i≤a + 1:=⟨h.1,Int.le_of_lt (lt1 h.2)⟩
theorem new1 {a i:Int} (h:0≤a) (e:i = a + 1):1≤i∧i≤a + 1:=by rw [e];exact ⟨Int.add_le_add_right h 1,Int.le_refl _⟩
theorem PW.notKey (h:PW bs cs mk ext):mk + 1 ∉ bs.map (·.1):=fun q=>no1 (h.pos _ q).2
theorem PW.notKeyC (h:PW bs cs mk ext):mk + 1 ∉ cs.map (·.1):=h.keys ▸ h.notKey
theorem PW.fresh {c:Ct} (h:PW bs cs mk (kids c++ext)) (h0:0≤mk):PW (bs++[(mk + 1,c)]) (cs++[(mk + 1,0)]) (mk + 1) ext:=by
  have ek:allKids (bs++[(mk + 1,c)]) = allKids bs++kids c:=by rw [allKids_append];simp [allKids]
  have hpos:∀ i∈bs.map (·.1),i≤mk:=fun i hi=>(h.pos i hi).2
  refine ⟨by simp [h.keys], ?_, ?_, ?_, ?_, ?_⟩
  · rw [List.map_append,List.pairwise_append]
    refine ⟨h.asc,by simp,fun a ha b hb=>?_⟩
    simp only [List.map_cons,List.map_nil,List.mem_singleton] at hb
    rw [hb];exact lt1 (hpos a ha)
  · intro i hi
    rw [List.map_append,List.mem_append] at hi
    rcases hi with hi | hi
    · exact pos1 (h.pos i hi)
    · simp only [List.map_cons,List.map_nil,List.mem_singleton] at hi
      exact new1 h0 hi
  · intro i c' e k hk
    rw [get_append] at e
    cases q:get bs i with
    | some c2=>rw [q] at e;cases e;exact h.down i _ q k hk
    | none =>
      rw [q,Option.none_or,get_cons] at e
      split at e
      · rename_i hi
        cases e
        have:=hpos k (h.clo k (by simp [hk]))
        simp only at hi
        rw [← hi];exact lt1 this
      · cases e
  · intro i k e
    rw [ek,List.append_assoc]
    rw [get_append] at e
    cases q:get cs i with
    | some c2=>rw [q] at e;cases e;exact h.cnt i _ q
    | none =>
      rw [q,Option.none_or,get_cons] at e
      split at e
      · rename_i hi
        cases e
        simp only at hi
        have:i ∉ allKids bs++(kids c++ext):=fun z=>by have:=hpos i (h.clo i z);rw [← hi] at this;exact no1 this
        rw [List.count_eq_zero.2 this];rfl
      · cases e
  · intro i hi
    rw [ek,List.append_assoc] at hi
    rw [List.map_append]
    exact List.mem_append_left _ (h.clo i hi)
noncomputable def newB (W:Nat→List (Str×Int)) (N:Nat→Str):Nat→Int→Int→List (Int×Ct)
  | 0,_,_=>[]
  | j + 1,mk,box=>(mk + 1, .br (placedR (W j) (N j) box)) :: newB W N j (mk + 1) (mk + 1)
noncomputable def topB (j:Nat) (mk box:Int):Int:=if j = 0 then box else mk + j
theorem placed_sub {rows:List (Str×Int)} {n:Str} {b:Int} {r:Str×Int} (h:r∈placedR rows n b):r∈rows∨r = (n,b):=by
  unfold placedR at h
  simp only [List.mem_append,List.mem_filter,List.mem_singleton] at h
  rcases h with (h | h) | h
  · exact .inl h.1
  · exact .inr h
  · exact .inl h.1
theorem placed_len (rows:List (Str×Int)) (n:Str) (b:Int):(placedR rows n b).length≤rows.length + 1:=by
  unfold placedR
  rw [List.length_append,List.length_append]
  have:(rows.filter fun r=>lessS r.1 n).length + (rows.filter fun r=>lessS n r.1).length≤rows.length:=by
    induction rows with
    | nil=>simp
    | cons r rows ih =>
      rw [List.filter_cons,List.filter_cons]
      cases h1:lessS r.1 n with
      | false =>
        cases h2:lessS n r.1 with
        | false=>simp only [List.length_cons,if_neg (Bool.false_ne_true)];exact Nat.le_succ_of_le ih
        | true=>simp only [List.length_cons,if_neg (Bool.false_ne_true),if_true];exact Nat.succ_le_succ ih
      | true =>
        cases h2:lessS n r.1 with
        | false=>simp only [List.length_cons,if_neg (Bool.false_ne_true),if_true];rw [Nat.add_right_comm];exact Nat.succ_le_succ ih
        | true =>
          unfold lessS at h1 h2
          rw [decide_eq_true_iff] at h1 h2
          exact absurd h2 (List.lt_asymm h1)
  simp only [List.length_singleton];rw [Nat.add_right_comm];exact Nat.succ_le_succ this
theorem placed_new (rows:List (Str×Int)) (n:Str) (b:Int):(n,b)∈placedR rows n b:=by unfold placedR;simp
theorem up1 (a:Int) (j:Nat):a + 1 + (j:Int) = a + ((j + 1:Nat):Int):=(Int.add_right_comm a 1 j).trans (Int.add_assoc a j 1)
theorem topB_eq (mk:Int) (j:Nat):topB j mk mk = mk + j:=by
  unfold topB
  split
  · rename_i q;subst q;exact (Int.add_zero mk).symm
  · rfl
theorem topB_succ (mk box:Int) (j:Nat):topB (j + 1) mk box = topB j (mk + 1) (mk + 1):=(if_neg (Nat.succ_ne_zero j)).trans ((up1 mk j).symm.trans (topB_eq (mk + 1) j).symm)
theorem fresh_al {c:Ct} {box:Int} (ha:∀ i∈bs.map (·.1),i≠box→i∈allKids bs++ext) (hb:box∈kids c):∀ i∈(bs++[(mk + 1,c)]).map (·.1),i≠mk + 1→i∈allKids (bs++[(mk + 1,c)])++ext:=fun i hi hne=>by
  rw [allKids_append]
  rw [List.map_append] at hi
  rcases List.mem_append.1 hi with hi | hi
  · by_cases e:i = box
    · exact List.mem_append_left _ (List.mem_append_right _ (List.mem_append_left _ (e ▸ hb)))
    · rcases List.mem_append.1 (ha i hi e) with q | q
      · exact List.mem_append_left _ (List.mem_append_left _ q)
      · exact List.mem_append_right _ q
  · exact absurd (List.mem_singleton.1 hi) hne
structure BuR (ext:List Int) (W:Nat→List (Str×Int)) (N:Nat→Str) (j:Nat) (bs:List (Int×Ct)) (mk box:Int) (r:Option (List (Int×Ct)×List (Int×Int)×Int×Int)) (cs':List (Int×Int)):Prop where
  e:r = some (bs++newB W N j mk box,cs',mk + j,topB j mk box)
  pw:PW (bs++newB W N j mk box) cs' (mk + j) ext
  top:topB j mk box∈(bs++newB W N j mk box).map (·.1)
  al:∀ i∈(bs++newB W N j mk box).map (·.1),i≠topB j mk box→i∈allKids (bs++newB W N j mk box)++ext
section
variable {W:Nat→List (Str×Int)} {N:Nat→Str} {R:Nat}
theorem BuR.zero {box:Int} (h:PW bs cs mk ext) (hx:box∈bs.map (·.1)) (ha:∀ i∈bs.map (·.1),i≠box→i∈allKids bs++ext):BuR ext W N 0 bs mk box (some (bs,cs,mk,box)) cs:=by
  have e:bs++newB W N 0 mk box = bs:=List.append_nil _
  have e0:mk + ((0:Nat):Int) = mk:=Int.add_zero _
  refine ⟨?_, ?_, ?_, ?_⟩
  · rw [e,e0];rfl
  · rw [e,e0];exact h
  · rw [e];exact hx
  · rw [e];exact ha
theorem BuR.succ {j:Nat} {box:Int} {r:Option (List (Int×Ct)×List (Int×Int)×Int×Int)} {cs':List (Int×Int)} (B:BuR ext W N j (bs++[(mk + 1, .br (placedR (W j) (N j) box))]) (mk + 1) (mk + 1) r cs'):BuR ext W N (j + 1) bs mk box r cs':=by
  have en:bs++newB W N (j + 1) mk box = bs++[(mk + 1, .br (placedR (W j) (N j) box))]++newB W N j (mk + 1) (mk + 1):=by rw [newB,List.append_assoc];rfl
  refine ⟨?_, ?_, ?_, ?_⟩
  · rw [en,topB_succ,← up1];exact B.e
  · rw [en,← up1];exact B.pw
  · rw [en,topB_succ];exact B.top
  · rw [en,topB_succ];exact B.al
theorem build_pw (j:Nat):∀ {bs:List (Int×Ct)} {cs:List (Int×Int)} {mk box:Int},PW bs cs mk ext→0≤mk→box∈bs.map (·.1)→(∀ k < j,∀ r∈W k,r.2∈bs.map (·.1))→(∀ k < j,(W k).length≤R)→R < 2 ^ 20→bs.length + j≤2 ^ 20 →
    (∀ i∈bs.map (·.1),i≠box→i∈allKids bs++ext)→∃ cs',BuR ext W N j bs mk box (build W N j bs cs mk box) cs':=by
  induction j with
  | zero=>intro bs cs mk box h _ hx _ _ _ _ ha;exact ⟨cs,BuR.zero h hx ha⟩
  | succ j ih =>
    intro bs cs mk box h h0 hx hW hR hz hl ha
    have hrows:∀ r∈placedR (W j) (N j) box,r.2∈bs.map (·.1):=fun r hr=>by
      rcases placed_sub hr with hr | rfl
      · exact hW j (Nat.lt_succ_self j) r hr
      · exact hx
    obtain ⟨cs',e1,p1⟩:=hold_pw (placedR (W j) (N j) box) h hrows
    obtain ⟨cs2,B⟩:=ih (PW.fresh (c:=.br (placedR (W j) (N j) box)) p1 h0) (Int.le_of_lt (Int.lt_add_one_of_le h0)) (box:=mk + 1) (by rw [List.map_append];exact List.mem_append_right _ (List.mem_singleton.2 rfl)) (fun k hk r hr=>by rw [List.map_append];exact List.mem_append_left _ (hW k (Nat.lt_succ_of_lt hk) r hr)) (fun k hk=>hR k (Nat.lt_succ_of_lt hk)) hz (by rw [List.length_append,List.length_singleton,Nat.add_right_comm];exact hl) (fresh_al ha (List.mem_map.2 ⟨_,placed_new ..,rfl⟩))
    refine ⟨cs2,BuR.succ ?_⟩
    have l2:=hR j (Nat.lt_succ_self j)
    have zb:=Nat.le_trans (Nat.le_add_right ..) hl
    have l3:((placedR (W j) (N j) box).all fun r=>(get bs r.2).isSome) = true:=List.all_eq_true.2 fun r hr=>by
      obtain ⟨c,hc⟩:=get_of_key (hrows r hr)
      rw [hc];rfl
    unfold build
    rw [if_pos ⟨zb,by rw [h.len];exact zb,Nat.le_trans l2 (Nat.le_of_lt hz),Nat.le_trans (placed_len ..) (Nat.le_trans (Nat.succ_le_succ l2) hz),l3⟩,e1]
    dsimp only
    rw [put_new _ h.notKey,put_new _ p1.notKeyC]
    exact B
end
theorem find_pw (h:PW bs cs mk ext):∀ (xs:List Str) {box:Int},box∈bs.map (·.1)→∃ r,find bs box xs = some r∧∀ b,r = some b→b∈bs.map (·.1)
  | [],box,hb=>⟨some box,rfl,fun b e=>by cases e;exact hb⟩
  | n :: r,box,hb=>by
    obtain ⟨c,hc⟩:=get_of_key hb
    unfold find
    rw [hc]
    cases c with
    | leaf m=>exact ⟨none,rfl,nofun⟩
    | br rows =>
      simp only
      cases q:rowOf rows n with
      | none=>exact ⟨none,rfl,nofun⟩
      | some b =>
        refine find_pw h r (h.clo b (List.mem_append_left _ (mem_allKids hc ?_)))
        unfold rowOf at q
        obtain ⟨p,hp,rfl⟩:=Option.map_eq_some_iff.1 q
        exact List.mem_map.2 ⟨p,List.mem_of_find?_eq_some hp,rfl⟩
theorem way_pw (h:PW bs cs mk ext) {tree:Int} {xs:List Str} {k:Nat} {rows:List (Str×Int)} (hw:wayAt bs tree xs k = some rows):∀ r∈rows,r.2∈bs.map (·.1):=by
  unfold wayAt at hw
  split at hw
  · cases hw;simp
  · split at hw
    · rename_i hb
      cases hw
      exact fun r hr=>h.clo _ (List.mem_append_left _ (mem_allKids hb (List.mem_map.2 ⟨r,hr,rfl⟩)))
    · cases hw
  · cases hw
theorem asc_len (l:List Int):∀ (a m:Int),a≤m + 1→l.Pairwise (· < ·)→(∀ i∈l,a≤i∧i≤m)→(l.length:Int) + a≤m + 1:=by
  induction l with
  | nil=>intro a m hm _ _;exact (Int.zero_add a).symm ▸ hm
  | cons x l ih =>
    intro a m hm hp hi
    have hx:=hi x (List.mem_cons_self ..)
    have:=ih (x + 1) m (Int.add_le_add_right hx.2 1) (List.pairwise_cons.1 hp).2 fun i hi'=>⟨(List.pairwise_cons.1 hp).1 i hi',(hi i (List.mem_cons_of_mem _ hi')).2⟩
    rw [Int.add_comm x 1,← Int.add_assoc] at this
    exact Int.le_trans (Int.add_le_add_left hx.1 _) this
theorem PW.count (h:PW bs cs mk ext) (h0:0≤mk):(bs.length:Int)≤mk:=by
  have:=asc_len (bs.map (·.1)) 1 mk (Int.add_le_add_right h0 1) h.asc h.pos
  rw [List.length_map] at this
  exact Int.le_of_add_le_add_right this
theorem kids_len {R:Nat} (h:∀ p∈bs,(kids p.2).length≤R):(allKids bs).length≤bs.length * R:=by
  unfold allKids
  induction bs with
  | nil=>simp
  | cons p bs ih =>
    rw [List.flatMap_cons,List.length_append,List.length_cons,Nat.add_mul,Nat.one_mul]
    rw [Nat.add_comm (kids p.2).length]
    exact Nat.add_le_add (ih fun q hq=>h q (List.mem_cons_of_mem _ hq)) (h p (List.mem_cons_self ..))
end
end Mine.St
end

section
open PySem PyProof.Rows Mine
namespace Mine.St
structure Sto where
  bs:List (Int×Ct)
  cs:List (Int×Int)
  made:Int
  tree:Int
  shots:List (Int×Int)
  last:Int
noncomputable def Sto.roots (s:Sto):List Int:=s.tree :: s.shots.map (·.2)
noncomputable def RowOk (R:Nat) (rows:List (Str×Int)):Prop:=rows.length≤R∧(rows.Pairwise fun a b=>lessS a.1 b.1 = true)∧∀ r∈rows,Good r.1
noncomputable def RowsOk (R:Nat) (bs:List (Int×Ct)):Prop:=∀ i rows,get bs i = some (.br rows)→RowOk R rows
structure SW (R:Nat) (s:Sto):Prop where
  pw:PW s.bs s.cs s.made s.roots
  al:∀ i∈s.bs.map (·.1),i∈allKids s.bs++s.roots
  rt:∀ i∈s.roots,∃ rows,get s.bs i = some (.br rows)
  sa:(s.shots.map (·.1)).Pairwise (· < ·)
  sp:∀ i∈s.shots.map (·.1),1≤i∧i≤s.last
  sl:0≤s.last
  ro:RowsOk R s.bs
section
variable {bs:List (Int×Ct)} {cs:List (Int×Int)} {mk:Int} {R:Nat} {s:Sto}
theorem SW.tin (h:SW R s):s.tree∈s.bs.map (·.1):=h.pw.clo _ (by simp [Sto.roots])
theorem SW.mk1 (h:SW R s):1≤s.made:=have q:=h.pw.pos _ h.tin;Int.le_trans q.1 q.2
theorem SW.len (h:SW R s):(s.bs.length:Int)≤s.made:=h.pw.count (Int.le_trans (by decide) h.mk1)
theorem lessS_trans {a b c:Str} (h1:lessS a b = true) (h2:lessS b c = true):lessS a c = true:=by
  unfold lessS at *
  rw [decide_eq_true_iff] at *
  exact List.lt_trans h1 h2
theorem placed_srt {rows:List (Str×Int)} (n:Str) (b:Int) (h:rows.Pairwise fun a b=>lessS a.1 b.1 = true):(placedR rows n b).Pairwise fun a b=>lessS a.1 b.1 = true:=by
  unfold placedR
  rw [List.append_assoc,List.pairwise_append]
  refine ⟨h.filter _, ?_,fun x hx y hy=>?_⟩
  · rw [List.singleton_append,List.pairwise_cons]
    exact ⟨fun y hy=>(List.mem_filter.1 hy).2,h.filter _⟩
  · have h1:=(List.mem_filter.1 hx).2
    rcases List.mem_append.1 hy with hy | hy
    · rw [List.mem_singleton.1 hy];exact h1
    · exact lessS_trans h1 (List.mem_filter.1 hy).2
theorem newB_rows {W:Nat→List (Str×Int)} {N:Nat→Str}:∀ (j:Nat) {mk box:Int},(∀ k < j,RowOk R (W k)∧Good (N k))→∀ p∈newB W N j mk box,∃ rows,p.2 = .br rows∧RowOk (R + 1) rows
  | 0,_,_,_,p,hp=>by cases hp
  | j + 1,mk,box,h,p,hp=>by
    rcases List.mem_cons.1 hp with rfl | hp
    · obtain ⟨⟨h1,h2,h3⟩,h4⟩:=h j (Nat.lt_succ_self j)
      refine ⟨_,rfl,Nat.le_trans (placed_len ..) (Nat.succ_le_succ h1),placed_srt _ _ h2,fun r hr=>?_⟩
      rcases placed_sub hr with hr | rfl
      · exact h3 r hr
      · exact h4
    · exact newB_rows j (fun k hk=>h k (Nat.lt_succ_of_lt hk)) p hp
theorem RowsOk.mono {R':Nat} (h:RowsOk R bs) (hR:R≤R'):RowsOk R' bs:=fun i rows e=>⟨Nat.le_trans (h i rows e).1 hR,(h i rows e).2⟩
theorem RowsOk.kids (h:RowsOk R bs) (n:(bs.map (·.1)).Nodup):∀ p∈bs,(Mine.St.kids p.2).length≤R:=by
  intro p hp
  obtain ⟨i,c⟩:=p
  cases c with
  | leaf m=>simp [Mine.St.kids]
  | br rows=>simpa [Mine.St.kids] using (h i rows (get_of_mem n hp)).1
theorem RowsOk.sub (h:RowsOk R bs) (n:(bs.map (·.1)).Nodup) {bs':List (Int×Ct)} (s:bs'.Sublist bs):RowsOk R bs':=fun i rows e=>h i rows (get_sub n s e)
theorem RowsOk.app (h:RowsOk R bs) {bs':List (Int×Ct)} (h':∀ p∈bs',∀ rows,p.2 = .br rows→RowOk R rows):RowsOk R (bs++bs'):=fun i rows e=>by
  rw [get_append] at e
  cases q:get bs i with
  | some c=>rw [q] at e;cases e;exact h i rows q
  | none=>rw [q,Option.none_or] at e;exact h' _ (mem_of_get e) rows rfl
structure Chg (bs:List (Int×Ct)) (cs:List (Int×Int)) (mk tree box:Int) (rest:List Int) (c:Ct) (k:Int) (c2:Ct) (n:Nat) (bs':List (Int×Ct)) (cs':List (Int×Int)):Prop where
  gc:get bs box = some c
  gk:get cs box = some k
  gc2:get bs tree = some c2
  go:lgo n [tree] bs (put cs box (k + 1)) 0 = some (bs',cs',(bs.length:Int) - bs'.length)
  pw:PW bs' cs' mk (box :: rest)
  sub:bs'.Sublist bs
  al:∀ i∈bs'.map (·.1),i∈allKids bs'++box :: rest
theorem lg_room (ro:RowsOk R bs) (nd:(bs.map (·.1)).Nodup) (hz:bs.length * (R + 1) + 2≤2 ^ 20):(allKids bs).length + 2≤2 ^ 20∧bs.length≤2 ^ 20 :=
  ⟨Nat.le_trans (Nat.add_le_add_right (Nat.le_trans (kids_len (ro.kids nd)) (Nat.mul_le_mul_left _ (Nat.le_succ R))) 2) hz,Nat.le_trans (Nat.le_mul_of_pos_right _ (Nat.succ_pos R)) (Nat.le_trans (Nat.le_add_right _ 2) hz)⟩
theorem one_lt (t:Int) (n:Nat):[t].length + n < n + 2:=by rw [List.length_singleton,Nat.add_comm];exact Nat.lt_succ_self _
theorem chg_ok {tree box:Int} {rest:List Int} (h:PW bs cs mk (tree :: rest)) (hx:box∈bs.map (·.1)) (al:∀ i∈bs.map (·.1),i≠box→i∈allKids bs++tree :: rest) (ro:RowsOk R bs) (hz:bs.length * (R + 1) + 2≤2 ^ 20) :
    ∃ c k c2 n bs' cs',Chg bs cs mk tree box rest c k c2 n bs' cs':=by
  obtain ⟨c,hc⟩:=get_of_key hx
  obtain ⟨k,hk⟩:=get_of_key (l:=cs) (h.keys ▸ hx)
  obtain ⟨c2,hc2⟩:=get_of_key (h.clo tree (List.mem_append_right _ (List.mem_cons_self ..)))
  have h2:=(h.more hk).perm (ext':=[tree]++(box :: rest)) (List.Perm.swap ..)
  obtain ⟨bs',cs',L⟩:=lgo_pw (box :: rest) ((allKids bs).length + 2) [tree] bs _ 0 h2 (one_lt ..) (lg_room ro h.nd hz).1 (lg_room ro h.nd hz).2
  refine ⟨c,k,c2,_,bs',cs',hc,hk,hc2,by rw [L.e,Int.zero_add],L.pw,L.sub,L.al fun i hi=>?_⟩
  by_cases q:i = box
  · exact List.mem_append_right _ (List.mem_cons_of_mem _ (q ▸ List.mem_cons_self ..))
  · rcases List.mem_append.1 (al i hi q) with r | r
    · exact List.mem_append_left _ r
    · rcases List.mem_cons.1 r with r | r
      · exact List.mem_append_right _ (r ▸ List.mem_cons_self ..)
      · exact List.mem_append_right _ (List.mem_cons_of_mem _ (List.mem_cons_of_mem _ r))
theorem sub_root {bs':List (Int×Ct)} {cs':List (Int×Int)} {ext:List Int} (n:(bs.map (·.1)).Nodup) (s:bs'.Sublist bs) (h:PW bs' cs' mk ext) {i:Int} (hi:i∈ext) {c:Ct} (e:get bs i = some c):get bs' i = some c:=by
  obtain ⟨c',e'⟩:=get_of_key (h.clo i (List.mem_append_right _ hi))
  rw [get_sub n s e'] at e
  rw [e',e]
theorem newB_top {W:Nat→List (Str×Int)} {N:Nat→Str}:∀ (j:Nat) {mk box:Int},j≠0→∃ rows,(mk + j,Ct.br rows)∈newB W N j mk box
  | 0,_,_,h=>absurd rfl h
  | 1,mk,box,_=>⟨_,List.mem_cons_self ..⟩
  | j + 2,mk,box,_=>by
    obtain ⟨rows,h⟩:=newB_top (W:=W) (N:=N) (j + 1) (mk:=mk + 1) (box:=mk + 1) (Nat.succ_ne_zero j)
    refine ⟨rows,List.mem_cons_of_mem _ ?_⟩
    rw [show mk + ((j + 2:Nat):Int) = mk + 1 + ((j + 1:Nat):Int) by rw [Int.add_assoc,Int.add_comm 1];rfl]
    exact h
theorem newB_len {W:Nat→List (Str×Int)} {N:Nat→Str}:∀ (j:Nat) (mk box:Int),(newB W N j mk box).length = j
  | 0,_,_=>rfl
  | j + 1,mk,box=>by rw [newB,List.length_cons,newB_len j]
noncomputable def finB (s:Sto) (c:Ct) (W:Nat→List (Str×Int)) (N:Nat→Str) (j:Nat):List (Int×Ct):=s.bs++[(s.made + 1,c)]++newB W N j (s.made + 1) (s.made + 1)
structure Made (R:Nat) (s:Sto) (c:Ct) (W:Nat→List (Str×Int)) (N:Nat→Str) (j:Nat) (cs0 cs1:List (Int×Int)) (k1:Int) (n:Nat) (s':Sto):Prop where
  bu:build W N j (s.bs++[(s.made + 1,c)]) (cs0++[(s.made + 1,0)]) (s.made + 1) (s.made + 1) = some (finB s c W N j,cs1,s'.made,s'.made)
  top:∃ c1,get (finB s c W N j) s'.made = some c1
  cnt:get cs1 s'.made = some k1
  len:cs1.length≤2 ^ 20
  old:∃ c2,get (finB s c W N j) s.tree = some c2
  go:lgo n [s.tree] (finB s c W N j) (put cs1 s'.made (k1 + 1)) 0 = some (s'.bs,s'.cs,(s.bs.length:Int) + 1 + j - s'.bs.length)
  sw:SW (R + 1) s'
  made:s'.made = s.made + 1 + j
  tree:s'.tree = s'.made
  shots:s'.shots = s.shots
  last:s'.last = s.last
  sub:s'.bs.Sublist (finB s c W N j)
theorem fit_l {a R:Nat} (h:a * (R + 2) + 2≤2 ^ 20):a≤2 ^ 20:=Nat.le_trans (Nat.le_mul_of_pos_right a (Nat.succ_pos _)) (Nat.le_trans (Nat.le_add_right _ 2) h)
theorem fit_r {a R:Nat} (h:(a + 1) * (R + 2) + 2≤2 ^ 20):R + 2≤2 ^ 20:=Nat.le_trans (Nat.le_mul_of_pos_left _ (Nat.succ_pos _)) (Nat.le_trans (Nat.le_add_right _ 2) h)
theorem fit_m {a b R:Nat} (hab:a≤b) (h:b * (R + 2) + 2≤2 ^ 20):a * (R + 2) + 2≤2 ^ 20:=Nat.le_trans (Nat.add_le_add_right (Nat.mul_le_mul_right _ hab) 2) h
theorem SW.mk0 (h:SW R s):0≤s.made:=Int.le_trans (by decide) h.mk1
theorem SW.lenN (h:SW R s):s.bs.length≤s.made.toNat:=(Int.le_toNat h.mk0).2 h.len
theorem SW.way (h:SW R s) {xs:List Str} {k:Nat} {rows:List (Str×Int)} (e:wayAt s.bs s.tree xs k = some rows):RowOk R rows:=by
  unfold wayAt at e
  split at e
  · cases e;exact ⟨Nat.zero_le _, .nil,by simp⟩
  · split at e
    · rename_i hb;cases e;exact h.ro _ _ hb
    · cases e
  · cases e
section
variable {c:Ct} {W:Nat→List (Str×Int)} {N:Nat→Str} {j:Nat}
theorem finB_len:(finB s c W N j).length = s.bs.length + 1 + j:=by
  unfold finB;rw [List.length_append,List.length_append,newB_len];rfl
theorem finB_ro (h:SW R s) (hc:∀ rows,c = .br rows→RowOk (R + 1) rows) (hw:∀ k < j,RowOk R (W k)∧Good (N k)):RowsOk (R + 1) (finB s c W N j) :=
  ((h.ro.mono (Nat.le_succ R)).app fun p hp rows e=>hc rows (by rw [List.mem_singleton.1 hp] at e;exact e)).app fun p hp rows e=>by
    obtain ⟨rows',e',q⟩:=newB_rows j hw p hp
    rw [e'] at e;cases e;exact q
theorem finB_top (hj:j≠0∨∃ rows,c = .br rows):∃ rows,(s.made + 1 + j,Ct.br rows)∈finB s c W N j:=by
  by_cases q:j = 0
  · subst q
    rcases hj with hj | ⟨rows,rfl⟩
    · exact absurd rfl hj
    · exact ⟨rows,List.mem_append_left _ (List.mem_append_right _ (by rw [show s.made + 1 + ((0:Nat):Int) = s.made + 1 from Int.add_zero _];exact List.mem_singleton.2 rfl))⟩
  · obtain ⟨rows,hr⟩:=newB_top (W:=W) (N:=N) j (mk:=s.made + 1) (box:=s.made + 1) q
    exact ⟨rows,List.mem_append_right _ hr⟩
theorem finB_al (h:SW R s):∀ i∈(s.bs++[(s.made + 1,c)]).map (·.1),i≠s.made + 1→i∈allKids (s.bs++[(s.made + 1,c)])++s.roots:=fun i hi hne=>by
  rw [allKids_append]
  rw [List.map_append] at hi
  rcases List.mem_append.1 hi with hi | hi
  · rcases List.mem_append.1 (h.al i hi) with r | r
    · exact List.mem_append_left _ (List.mem_append_left _ r)
    · exact List.mem_append_right _ r
  · exact absurd (List.mem_singleton.1 hi) hne
structure Blt (s:Sto) (c:Ct) (W:Nat→List (Str×Int)) (N:Nat→Str) (j:Nat) (cs0 cs1:List (Int×Int)):Prop where
  bu:build W N j (s.bs++[(s.made + 1,c)]) (cs0++[(s.made + 1,0)]) (s.made + 1) (s.made + 1) = some (finB s c W N j,cs1,s.made + 1 + j,s.made + 1 + j)
  pw:PW (finB s c W N j) cs1 (s.made + 1 + j) s.roots
  top:s.made + 1 + j∈(finB s c W N j).map (·.1)
  al:∀ i∈(finB s c W N j).map (·.1),i≠s.made + 1 + j→i∈allKids (finB s c W N j)++s.roots
theorem blt_ok (h:SW R s) {xs:List Str} (hW:∀ k < j,wayAt s.bs s.tree xs k = some (W k)) (hz:(s.made.toNat + j + 1) * (R + 2) + 2≤2 ^ 20) (hl:s.bs.length + 1 + j≤2 ^ 20) {cs0:List (Int×Int)} (h0:PW s.bs cs0 s.made (kids c++s.roots)):∃ cs1,Blt s c W N j cs0 cs1:=by
  obtain ⟨cs1,e1,p1,t1,a1⟩:=build_pw (W:=W) (N:=N) (R:=R) j (PW.fresh h0 h.mk0) (Int.le_of_lt (Int.lt_add_one_of_le h.mk0)) (box:=s.made + 1) (by simp) (fun k hk' r hr=>by rw [List.map_append];exact List.mem_append_left _ (way_pw h.pw (hW k hk') r hr)) (fun k hk'=>(h.way (hW k hk')).1) (Nat.lt_of_lt_of_le (Nat.lt_add_of_pos_right (by decide)) (fit_r hz)) (by rw [List.length_append];exact hl) (finB_al h)
  rw [topB_eq] at e1 t1 a1
  exact ⟨cs1,e1,p1,t1,a1⟩
end
theorem made_ok (h:SW R s) {c:Ct} (hc:∀ rows,c = .br rows→RowOk (R + 1) rows) {xs:List Str} {W:Nat→List (Str×Int)} {N:Nat→Str} {j:Nat} (hj:j≠0∨∃ rows,c = .br rows)
    (hW:∀ k < j,wayAt s.bs s.tree xs k = some (W k)) (hN:∀ k < j,Good (N k)) (hz:(s.made.toNat + j + 1) * (R + 2) + 2≤2 ^ 20) {cs0:List (Int×Int)} (h0:PW s.bs cs0 s.made (kids c++s.roots)) :
    ∃ cs1 k1 n s',Made R s c W N j cs0 cs1 k1 n s':=by
  have hb:s.bs.length + 1 + j≤s.made.toNat + j + 1:=by rw [Nat.add_right_comm];exact Nat.succ_le_succ (Nat.add_le_add_right h.lenN j)
  have hl:=Nat.le_trans hb (fit_l hz)
  obtain ⟨cs1,B⟩:=blt_ok (N:=N) h hW hz hl h0
  have ro1:=finB_ro h hc fun k hk'=>⟨h.way (hW k hk'),hN k hk'⟩
  obtain ⟨rows,hr⟩:=finB_top (s:=s) (W:=W) (N:=N) hj
  have hle:cs1.length≤2 ^ 20:=by rw [B.pw.len,finB_len];exact hl
  have hln:((finB s c W N j).length:Int) = (s.bs.length:Int) + 1 + j:=congrArg Int.ofNat finB_len
  have hzz:(finB s c W N j).length * (R + 1 + 1) + 2≤2 ^ 20:=by rw [finB_len];exact fit_m hb hz
  have hrt:∀ i∈s.shots.map (·.2),∃ rows,(i,Ct.br rows)∈finB s c W N j:=fun i hi=>by
    obtain ⟨rows,e⟩:=h.rt i (List.mem_cons_of_mem _ hi)
    exact ⟨rows,List.mem_append_left _ (List.mem_append_left _ (mem_of_get e))⟩
  obtain ⟨c1,k1,c2,n,bs',cs',g⟩:=chg_ok B.pw B.top B.al ro1 hzz
  have g4:=g.go
  rw [hln] at g4
  refine ⟨cs1,k1,n,⟨bs',cs',s.made + 1 + j,s.made + 1 + j,s.shots,s.last⟩,B.bu,⟨c1,g.gc⟩,g.gk,hle,⟨c2,g.gc2⟩,g4,⟨g.pw,g.al,fun i hi=>?_,h.sa,h.sp,h.sl,ro1.sub B.pw.nd g.sub⟩,rfl,rfl,rfl,rfl,g.sub⟩
  have sr:∀ rows,(i,Ct.br rows)∈finB s c W N j→∃ rows,get bs' i = some (.br rows):=fun rows hr=>⟨rows,sub_root B.pw.nd g.sub g.pw hi (get_of_mem B.pw.nd hr)⟩
  rcases List.mem_cons.1 hi with rfl | hi
  · exact sr rows hr
  · obtain ⟨rows,hr⟩:=hrt i hi
    exact sr rows hr
end
end Mine.St
end

section
open PySem PyProof.Rows Mine
namespace Mine.St
section
variable {R:Nat} {s:Sto}
theorem SW.snap (h:SW R s):∃ c k,get s.bs s.tree = some c∧get s.cs s.tree = some k∧SW R { s with cs:=put s.cs s.tree (k + 1),shots:=put s.shots (s.last + 1) s.tree,last:=s.last + 1 }:=by
  obtain ⟨c,hc⟩:=get_of_key h.tin
  obtain ⟨k,hk⟩:=get_of_key (l:=s.cs) (h.pw.keys ▸ h.tin)
  have e:put s.shots (s.last + 1) s.tree = s.shots++[(s.last + 1,s.tree)]:=put_new _ fun q=>no1 (h.sp _ q).2
  have er:(Sto.roots { s with cs:=put s.cs s.tree (k + 1),shots:=s.shots++[(s.last + 1,s.tree)],last:=s.last + 1 }) = s.tree :: (s.shots.map (·.2)++[s.tree]):=by simp [Sto.roots]
  refine ⟨c,k,hc,hk, ?_⟩
  rw [e]
  refine ⟨?_, ?_, ?_, ?_, ?_, ?_,h.ro⟩
  · rw [er]
    refine (h.pw.more hk).perm ?_
    refine List.Perm.cons _ ?_
    exact (List.perm_append_comm (l₁:=[s.tree])).trans (List.Perm.refl _)
  · intro i hi
    rw [er]
    have:=h.al i hi
    simp only [Sto.roots,List.mem_append,List.mem_cons] at this ⊢
    rcases this with r | r | r <;> simp [r]
  · rw [er]
    intro i hi
    refine h.rt i ?_
    simp only [Sto.roots,List.mem_append,List.mem_cons,List.not_mem_nil,or_false] at hi ⊢
    rcases hi with r | r | r <;> simp [r]
  · rw [List.map_append,List.pairwise_append]
    refine ⟨h.sa,by simp,fun a ha b hb=>?_⟩
    simp only [List.map_cons,List.map_nil,List.mem_singleton] at hb
    rw [hb];exact lt1 (h.sp a ha).2
  · intro i hi
    rw [List.map_append,List.mem_append] at hi
    show 1≤i∧i≤s.last + 1
    rcases hi with hi | hi
    · exact pos1 (h.sp i hi)
    · simp only [List.map_cons,List.map_nil,List.mem_singleton] at hi
      exact new1 h.sl hi
  · show 0≤s.last + 1
    exact Int.le_of_lt (lt1 h.sl)
theorem SW.room (h:SW R s) (hz:s.made.toNat * (R + 1) + 2≤2 ^ 20):s.bs.length * (R + 1) + 2≤2 ^ 20:=Nat.le_trans (Nat.add_le_add_right (Nat.mul_le_mul_right _ h.lenN) 2) hz
theorem SW.drop (h:SW R s) {n box:Int} (e:get s.shots n = some box) (hz:s.made.toNat * (R + 1) + 2≤2 ^ 20) :
    ∃ c N bs' cs',get s.bs box = some c∧lgo N [box] s.bs s.cs 0 = some (bs',cs',(s.bs.length:Int) - bs'.length)∧SW R { s with bs:=bs',cs:=cs',shots:=del s.shots n }∧bs'.Sublist s.bs:=by
  have hm:box∈s.roots:=List.mem_cons_of_mem _ (List.mem_map.2 ⟨_,mem_of_get e,rfl⟩)
  obtain ⟨c,hc⟩:=get_of_key (h.pw.clo box (List.mem_append_right _ hm))
  have pr:s.roots.Perm ([box]++(s.tree :: (del s.shots n).map (·.2))) :=
    (((perm_del (asc_nodup h.sa) e).map (fun p:Int×Int=>p.2)).cons s.tree).trans (List.Perm.swap box s.tree _)
  have rm:=lg_room h.ro h.pw.nd (h.room hz)
  obtain ⟨bs',cs',e1,e2,e3,e4⟩:=lgo_pw (s.tree :: (del s.shots n).map (·.2)) ((allKids s.bs).length + 2) [box] s.bs s.cs 0 (h.pw.perm pr) (one_lt ..) rm.1 rm.2
  refine ⟨c,_,bs',cs',hc,by rw [e1,Int.zero_add],⟨e2,e4 fun i hi=>?_,fun i hi=>?_, ?_,fun i hi=>?_,h.sl,h.ro.sub h.pw.nd e3⟩,e3⟩
  · have:=h.al i hi
    rw [List.mem_append,pr.mem_iff] at this
    exact List.mem_append.2 this
  · obtain ⟨rows,q⟩:=h.rt i (pr.mem_iff.2 (List.mem_append_right _ hi))
    exact ⟨rows,sub_root h.pw.nd e3 e2 hi q⟩
  · show ((del s.shots n).map (·.1)).Pairwise _
    rw [del_keys];exact h.sa.filter _
  · have hi:i∈(del s.shots n).map (·.1):=hi
    rw [del_keys] at hi
    exact h.sp i (List.mem_filter.1 hi).1
structure Bck (R:Nat) (s:Sto) (box:Int) (c:Ct) (k:Int) (c2:Ct) (n:Nat) (bs':List (Int×Ct)) (cs':List (Int×Int)):Prop where
  gc:get s.bs box = some c
  gk:get s.cs box = some k
  gc2:get s.bs s.tree = some c2
  go:lgo n [s.tree] s.bs (put s.cs box (k + 1)) 0 = some (bs',cs',(s.bs.length:Int) - bs'.length)
  sw:SW R { s with bs:=bs',cs:=cs',tree:=box }
  sub:bs'.Sublist s.bs
theorem SW.back (h:SW R s) {n box:Int} (e:get s.shots n = some box) (hz:s.made.toNat * (R + 1) + 2≤2 ^ 20) :
    ∃ c k c2 N bs' cs',Bck R s box c k c2 N bs' cs':=by
  have hm:box∈s.roots:=List.mem_cons_of_mem _ (List.mem_map.2 ⟨_,mem_of_get e,rfl⟩)
  obtain ⟨c,k,c2,N,bs',cs',g⟩:=chg_ok h.pw (h.pw.clo box (List.mem_append_right _ hm)) (fun i hi _=>h.al i hi) h.ro (h.room hz)
  refine ⟨c,k,c2,N,bs',cs',g.gc,g.gk,g.gc2,g.go,⟨g.pw,g.al,fun i hi=>?_,h.sa,h.sp,h.sl,h.ro.sub h.pw.nd g.sub⟩,g.sub⟩
  have:i∈s.roots:=(List.mem_cons.1 hi).elim (fun e=>e ▸ hm) fun hi=>List.mem_cons_of_mem _ hi
  obtain ⟨rows,q⟩:=h.rt i this
  exact ⟨rows,sub_root h.pw.nd g.sub g.pw hi q⟩
theorem sw_new:SW 0 ⟨[(1, .br [])],[(1,1)],1,1,[],0⟩:=by
  refine ⟨⟨rfl,by simp,by simp, ?_, ?_, ?_⟩, ?_, ?_,by simp,by simp,by simp, ?_⟩
  · intro i c e
    rw [get_cons] at e
    split at e
    · cases e;exact nofun
    · cases e
  · intro i k e
    rw [get_cons] at e
    split at e
    · rename_i q;cases e;simp only at q;subst q;rfl
    · cases e
  · intro i hi;simp [allKids,kids,Sto.roots] at hi;simp [hi]
  · intro i hi;simp [Sto.roots] at hi ⊢;simp [hi]
  · intro i hi;simp [Sto.roots] at hi;subst hi;exact ⟨[],rfl⟩
  · intro i rows e
    rw [get_cons] at e
    split at e
    · cases e;exact ⟨Nat.zero_le _, .nil,by simp⟩
    · cases e
end
end Mine.St
end

section
open PySem PyProof.Rows
namespace Mine.St
open Mine
structure SA where
  sx:Addr
  sd:Addr
  sh:Addr
  π:PA
noncomputable abbrev SA.M (σ:SA):List Addr:=[σ.sd,σ.sh,σ.π.d,σ.π.bx,σ.π.ct]
structure StoreR (A:Ad) (H:Hp) (σ:SA) (s:Sto):Prop where
  i:H σ.sx = some (.inst (A "Store" "") σ.sd)
  n:H σ.sd = some (.ns [("pile", .ref σ.π.x),("tree", .int s.tree 0),("shots", .ref σ.sh),("last", .int s.last 0)])
  st:H σ.sh = some (.idict (vints s.shots))
  p:PileR A H σ.π s.bs s.cs s.made
  n1:σ.sd≠σ.π.d
  n2:σ.sh≠σ.π.bx
  n3:σ.sh≠σ.π.ct
end Mine.St
end
section
open PySem PyProof.Rows Mine Mine.St
end

local macro_rules | `(tactic| got_up) => `(tactic| first | exact StoreR.i ‹_› | exact StoreR.n ‹_› | exact StoreR.st ‹_›)
section
open PySem PyProof.Rows
namespace Mine.St
open Mine
section
variable {A:Ad} {G:Gx} {H H':Hp} {σ:SA} {s s':Sto} {Q:QV} {X:XV}
theorem SA.sub (σ:SA):∀ a,a∈σ.π.M→a∈σ.M:=by
  intro a h
  simp only [PA.M,List.mem_cons,List.not_mem_nil,or_false] at h
  rcases h with rfl | rfl | rfl <;> simp [SA.M]
theorem StoreR.op (h:StoreR A H σ s) {bs:List (Int×Ct)} {cs:List (Int×Int)} {mk:Int} (p:PileR A H' σ.π bs cs mk) (k:Kp σ.π.M H H'):StoreR A H' σ { s with bs:=bs,cs:=cs,made:=mk }:=by
  obtain ⟨bvs,hp, -⟩:=h.p.ex
  have d1:σ.sd ∉ σ.π.M:=by
    simp only [PA.M,List.mem_cons,List.not_mem_nil,or_false]
    rintro (q | q | q)
    · exact h.n1 q
    · have:=h.n;rw [q,hp.b] at this;cases this
    · have:=h.n;rw [q,hp.c] at this;cases this
  have d2:σ.sh ∉ σ.π.M:=by
    simp only [PA.M,List.mem_cons,List.not_mem_nil,or_false]
    rintro (q | q | q)
    · have:=h.st;rw [q,hp.n] at this;cases this
    · exact h.n2 q
    · exact h.n3 q
  exact ⟨k _ _ h.i (.inl rfl),k _ _ h.n (.inr d1),k _ _ h.st (.inr d2),p,h.n1,h.n2,h.n3⟩
theorem StoreR.kp (h:StoreR A H σ s) {M:List Addr} (k:Kp M H H') (hM:∀ a∈σ.M,a ∉ M):StoreR A H' σ s :=
  ⟨k _ _ h.i (.inl rfl),k _ _ h.n (.inr (hM _ (by simp))),k _ _ h.st (.inr (hM _ (by simp))),h.p.kp k (hM _ (by simp)) (hM _ (by simp)) (hM _ (by simp)),h.n1,h.n2,h.n3⟩
theorem StoreR.kp0 (h:StoreR A H σ s) (k:Kp [] H H'):StoreR A H' σ s:=h.kp k fun _ _=>by simp
theorem Kp.up {M:List Addr} (k:Kp [] H H'):Kp M H H':=k.mono fun _ h=>by simp at h
noncomputable def viewB (s:Sto):Value→Option Int
  | .none=>some s.tree
  | .int n _=>get s.shots n
  | _=>none
noncomputable def C_top (G:Gx) (A:Ad):Prop:=∀ ⦃H:Hp⦄ ⦃σ:SA⦄ ⦃s:Sto⦄,StoreR A H σ s→∀ ⦃v:Value⦄ ⦃b:Int⦄,viewB s v = some b→∀ ⦃hm:Bool⦄ ⦃Q:QV⦄ ⦃X:XV⦄,Q (.int b 0) H→G.fn (A "Store" "top") hm [.ref σ.sx,v] H Q X
theorem top_ok (F:EnvS G A) (h:StoreR A H σ s) {v:Value} {b:Int} (hv:viewB s v = some b) {hm:Bool} (q:Q (.int b 0) H):wpF G hm ["self", "view"] b_Store_top [.ref σ.sx,v] H Q X:=by
  refine f_in rfl ?_
  cases v <;> try (cases hv;done)
  · cases hv
    refine ss_ift (by mem_news) ?_
    exact ss_ret (by mem_news) q
  · rename_i n t
    have hv:=ints_some (cs:=s.shots) hv
    have hb:(!(valueAt (vints s.shots) n).isSome) = false:=by rw [hv];rfl
    refine ss_iff0 (by mem_news) ?_
    refine ss_iff0 (by mem_news) ?_
    exact ss_ret (by mem_news) q
noncomputable def Short (bs:List (Int×Ct)):Prop:=∀ i rows,get bs i = some (.br rows)→rows.length≤2 ^ 20
noncomputable def C_found (G:Gx) (A:Ad):Prop:=∀ ⦃H:Hp⦄ ⦃σ:SA⦄ ⦃s:Sto⦄,StoreR A H σ s→Short s.bs→∀ ⦃box:Int⦄ ⦃nl:Addr⦄ ⦃xs:List Str⦄ ⦃r:Option Int⦄,H nl = some (.list (xs.map fun x=>Value.str x 0))→find s.bs box xs = some r→∀ ⦃Q:QV⦄ ⦃X:XV⦄,(∀ H',Kp [] H H'→Q (optV r) H')→G.fn (A "Store" "found") false [.ref σ.sx, .int box 0, .ref nl] H Q X
theorem found_ok (F:EnvS G A) (N:C_content G A) (B:C_box_of G A) (h:StoreR A H σ s) (hs:Short s.bs) {box:Int} {nl:Addr} {xs:List Str} {r:Option Int} (hn:H nl = some (.list (xs.map fun x=>Value.str x 0))) (hf:find s.bs box xs = some r)
    (q:∀ H',Kp [] H H'→Q (optV r) H'):wpF G false ["self", "box", "names"] b_Store_found [.ref σ.sx, .int box 0, .ref nl] H Q X:=by
  refine f_in rfl ?_
  refine ss_forI (fun rs l' H'=>Kp [] H H'∧l' "self" = some (.ref σ.sx)∧∃ b ys,l' "box" = some (.int b 0)∧rs = ys.map (fun x=>Value.str x 0)∧find s.bs b ys = some r) (by mem_news) hn rfl (fun r l' H' h=>h.1.list hn) ?_ ⟨Kp.refl _ _,rfl,box,xs,rfl,rfl,hf⟩ ?_
  · rintro v rs l' H' ⟨k,g1,b,ys,g2,hy,hf⟩ K hK hR
    cases ys with
    | nil=>cases hy
    | cons y ys =>
    cases hy
    have h':=h.kp0 k
    obtain ⟨bvs,p, -⟩:=id h'.p.ex
    unfold find at hf
    cases hg:get s.bs b with
    | none=>rw [hg] at hf;cases hf
    | some c =>
    rw [hg] at hf
    refine ss_asgW (w_meth (by mem_news) p.i p.n (by nest_cls) (by rfl) (by mem_news) (N h'.p hg (fun rows e=>len_line (hs b rows (e ▸ hg))) fun v H2 hv k2 _=>?_))
    cases c with
    | leaf m =>
      cases hf
      obtain ⟨a,rfl,ha⟩:=hv
      refine ss_ift (by mem_news) (ss_ret (by mem_news) (hR _ _ _ ?_))
      exact q _ (k.trans k2)
    | br rows =>
      dsimp only at hf
      obtain ⟨a,rl,zs,rfl,ha,hl,hr⟩:=hv
      refine ss_iff0 (by mem_news) ?_
      refine ss_asgW (w_call (by mem_news) (by nest_cls) (by mem_news) (B hl hr ?_))
      cases ho:rowOf rows y with
      | none =>
        rw [ho] at hf;cases hf
        refine ss_ift (by mem_news) (ss_ret (by mem_news) (hR _ _ _ ?_))
        exact q _ (k.trans k2)
      | some b2 =>
        rw [ho] at hf
        refine ss_iff0 (ev_is (v:=.int b2 0) (by mem_news) rfl) (ss_nl (hK _ _ ?_).1)
        exact ⟨k.trans k2,g1,b2,ys,rfl,rfl,hf⟩
  · rintro l' H' ⟨k,g1,b,ys,g2,hy,hf⟩
    cases ys with
    | cons _ _=>cases hy
    | nil =>
    cases hf
    exact ss_ret (by mem_news) (q _ k)
noncomputable def kindW (bs:List (Int×Ct)):Option Int→Value
  | none=>.none
  | some b=>match get bs b with
    | some (.leaf _)=>.str "leaf" 0
    | some (.br _)=>.str "branch" 0
    | none=>.none
noncomputable def ctW:Ct→Value
  | .leaf _=>.str "leaf" 0
  | .br _=>.str "branch" 0
theorem kind_some {bs:List (Int×Ct)} {b:Int} {c:Ct} (h:get bs b = some c):kindW bs (some b) = ctW c:=by
  show (match get bs b with | some (.leaf _)=>Value.str "leaf" 0 | some (.br _)=>.str "branch" 0 | none=>.none) = _
  rw [h];cases c <;> rfl
noncomputable def C_kind (G:Gx) (A:Ad):Prop:=∀ ⦃H:Hp⦄ ⦃σ:SA⦄ ⦃s:Sto⦄,StoreR A H σ s→Short s.bs→∀ ⦃v:Value⦄ ⦃b:Int⦄,viewB s v = some b→∀ ⦃a:Addr⦄ ⦃xs:List Str⦄ ⦃r:Option Int⦄,PathAt H a xs→find s.bs b xs = some r→(∀ b,r = some b→∃ c,get s.bs b = some c)→∀ ⦃Q:QV⦄ ⦃X:XV⦄,
  (∀ H',Kp [] H H'→Q (kindW s.bs r) H')→G.fn (A "Store" "kind") false [.ref σ.sx,v, .ref a] H Q X
theorem kind_ok (F:EnvS G A) (T:C_top G A) (C:C_checked G A) (D:C_found G A) (N:C_content G A) (h:StoreR A H σ s) (hs:Short s.bs) {v:Value} {b:Int} (hv:viewB s v = some b) {a:Addr} {xs:List Str} {r:Option Int} (hp:PathAt H a xs) (hf:find s.bs b xs = some r) (hr:∀ b,r = some b→∃ c,get s.bs b = some c)
    (q:∀ H',Kp [] H H'→Q (kindW s.bs r) H'):wpF G false ["self", "view", "path"] b_Store_kind [.ref σ.sx,v, .ref a] H Q X:=by
  refine f_in rfl ?_
  refine ss_asgW (w_methW (by mem_news) h.i h.n (by nest_cls) (by rfl) (wl_cons (w_meth (by mem_news) h.i h.n (by nest_cls) (by rfl) (by mem_news) (T h hv (wl_cons (w_call (by mem_news) (by nest_cls) (by mem_news) (C hp fun nl H1 k1 hn _=>wl_nil ?_)))))))
  have h1:=h.kp0 k1
  refine D h1 hs hn hf fun H2 k2=>?_
  have h2:=h1.kp0 k2
  cases r with
  | none =>
    refine ss_ift (by mem_news) (ss_ret (by mem_news) ?_)
    exact q _ (k1.trans k2)
  | some b =>
    refine ss_iff0 (ev_is (v:=.int b 0) (by mem_news) rfl) ?_
    obtain ⟨c,hc⟩:=hr b rfl
    obtain ⟨bvs,p, -⟩:=id h2.p.ex
    refine ss_retW (w_idxW (w_meth (by mem_news) p.i p.n (by nest_cls) (by rfl) (evl_cons (ev_loc (v:=.int b 0) rfl) evl_nil) (N h2.p hc (fun rows e=>len_line (hs b rows (e ▸ hc))) fun v H3 hv k3 _=>?_)))
    have q:=q _ ((k1.trans k2).trans k3)
    rw [kind_some hc] at q
    cases c with
    | leaf m =>
      obtain ⟨a,rfl,ha⟩:=hv
      exact w_ev ev_int (idx_at ha rfl rfl q)
    | br rows =>
      obtain ⟨a,rl,zs,rfl,ha, -⟩:=hv
      exact w_ev ev_int (idx_at ha rfl rfl q)
noncomputable def C_value (G:Gx) (A:Ad):Prop:=∀ ⦃H:Hp⦄ ⦃σ:SA⦄ ⦃s:Sto⦄,StoreR A H σ s→Short s.bs→∀ ⦃v:Value⦄ ⦃b:Int⦄,viewB s v = some b→∀ ⦃a:Addr⦄ ⦃xs:List Str⦄ ⦃r:Option Int⦄,PathAt H a xs→find s.bs b xs = some r→(∀ b,r = some b→∃ c,get s.bs b = some c)→∀ ⦃Q:QV⦄ ⦃X:XV⦄,
  (∀ b m,r = some b→get s.bs b = some (.leaf m)→∀ H',Kp [] H H'→Q (.int m 0) H')→(r = none→∀ H',Kp [] H H'→X (A "Nothing" "") H')→(∀ b rows,r = some b→get s.bs b = some (.br rows)→∀ H',Kp [] H H'→X (A "BranchThere" "") H')→G.fn (A "Store" "value") false [.ref σ.sx,v, .ref a] H Q X
theorem value_ok (F:EnvS G A) (T:C_top G A) (C:C_checked G A) (D:C_found G A) (N:C_content G A) (KK:C_kind G A) (h:StoreR A H σ s) (hs:Short s.bs) {v:Value} {b:Int} (hv:viewB s v = some b) {a:Addr} {xs:List Str} {r:Option Int} (hp:PathAt H a xs) (hf:find s.bs b xs = some r) (hr:∀ b,r = some b→∃ c,get s.bs b = some c)
    (q:∀ b m,r = some b→get s.bs b = some (.leaf m)→∀ H',Kp [] H H'→Q (.int m 0) H') (q1:r = none→∀ H',Kp [] H H'→X (A "Nothing" "") H') (q2:∀ b rows,r = some b→get s.bs b = some (.br rows)→∀ H',Kp [] H H'→X (A "BranchThere" "") H'):wpF G false ["self", "view", "path"] b_Store_value [.ref σ.sx,v, .ref a] H Q X:=by
  refine f_in rfl ?_
  refine ss_asgW (w_meth (by mem_news) h.i h.n (by nest_cls) (by rfl) (by mem_news) (KK h hs hv hp hf hr fun H1 k1=>?_))
  have h1:=h.kp0 k1
  cases r with
  | none=>exact ss_ift (by mem_news) (ss_raise rfl (by nest_cls) (by nest_cls) (q1 rfl _ k1))
  | some b2 =>
    obtain ⟨c,hc⟩:=hr b2 rfl
    rw [kind_some hc]
    cases c with
    | br rows =>
      refine ss_iff0 (by mem_news) ?_
      exact ss_ift (by mem_news) (ss_raise rfl (by nest_cls) (by nest_cls) (q2 _ _ rfl hc _ k1))
    | leaf m =>
      refine ss_iff0 (by mem_news) ?_
      refine ss_iff0 (by mem_news) ?_
      obtain ⟨bvs,p, -⟩:=id h1.p.ex
      refine ss_retW (w_idxW (w_methW (by mem_news) p.i p.n (by nest_cls) (by rfl) (wl_cons (w_methW (by mem_news) h1.i h1.n (by nest_cls) (by rfl) (wl_cons (w_meth (by mem_news) h1.i h1.n (by nest_cls) (by rfl) (by mem_news) (T h1 hv (wl_cons (w_call (by mem_news) (by nest_cls) (by mem_news) (C (hp.kp k1) fun nl H2 k2 hn _=>wl_nil ?_))))))))))
      have h2:=h1.kp0 k2
      refine D h2 hs hn hf fun H3 k3=>wl_nil ?_
      have h3:=h2.kp0 k3
      refine N h3.p hc (fun rows e=>by cases e) fun v H4 hv k4 _=>?_
      obtain ⟨a,rfl,ha⟩:=hv
      exact w_ev ev_int (idx_at ha rfl rfl (q _ _ rfl hc _ (((k1.trans k2).trans k3).trans k4)))
noncomputable def C_names (G:Gx) (A:Ad):Prop:=∀ ⦃H:Hp⦄ ⦃σ:SA⦄ ⦃s:Sto⦄,StoreR A H σ s→Short s.bs→∀ ⦃v:Value⦄ ⦃b:Int⦄,viewB s v = some b→∀ ⦃a:Addr⦄ ⦃xs:List Str⦄ ⦃r:Option Int⦄,PathAt H a xs→find s.bs b xs = some r→(∀ b,r = some b→∃ c,get s.bs b = some c)→∀ ⦃Q:QV⦄ ⦃X:XV⦄,
  (∀ b rows,r = some b→get s.bs b = some (.br rows)→∀ c H',Kp [] H H'→H' c = some (.list (rows.map fun r=>Value.str r.1 0))→H c = none→Q (.ref c) H')→(r = none→∀ H',Kp [] H H'→X (A "Nothing" "") H')→(∀ b m,r = some b→get s.bs b = some (.leaf m)→∀ H',Kp [] H H'→X (A "LeafThere" "") H')→G.fn (A "Store" "names") false [.ref σ.sx,v, .ref a] H Q X
theorem names_ok (F:EnvS G A) (T:C_top G A) (C:C_checked G A) (D:C_found G A) (N:C_content G A) (KK:C_kind G A) (h:StoreR A H σ s) (hs:Short s.bs) {v:Value} {b:Int} (hv:viewB s v = some b) {a:Addr} {xs:List Str} {r:Option Int} (hp:PathAt H a xs) (hf:find s.bs b xs = some r) (hr:∀ b,r = some b→∃ c,get s.bs b = some c)
    (q:∀ b rows,r = some b→get s.bs b = some (.br rows)→∀ c H',Kp [] H H'→H' c = some (.list (rows.map fun r=>Value.str r.1 0))→H c = none→Q (.ref c) H') (q1:r = none→∀ H',Kp [] H H'→X (A "Nothing" "") H') (q2:∀ b m,r = some b→get s.bs b = some (.leaf m)→∀ H',Kp [] H H'→X (A "LeafThere" "") H'):wpF G false ["self", "view", "path"] b_Store_names [.ref σ.sx,v, .ref a] H Q X:=by
  refine f_in rfl ?_
  refine ss_asgW (w_meth (by mem_news) h.i h.n (by nest_cls) (by rfl) (by mem_news) (KK h hs hv hp hf hr fun H1 k1=>?_))
  have h1:=h.kp0 k1
  cases r with
  | none=>exact ss_ift (by mem_news) (ss_raise rfl (by nest_cls) (by nest_cls) (q1 rfl _ k1))
  | some b2 =>
    obtain ⟨c,hc⟩:=hr b2 rfl
    rw [kind_some hc]
    cases c with
    | leaf m =>
      refine ss_iff0 (by mem_news) ?_
      exact ss_ift (by mem_news) (ss_raise rfl (by nest_cls) (by nest_cls) (q2 _ _ rfl hc _ k1))
    | br rows =>
      refine ss_iff0 (by mem_news) ?_
      refine ss_iff0 (by mem_news) ?_
      obtain ⟨bvs,p, -⟩:=id h1.p.ex
      refine ss_asgW (w_idxW (w_methW (by mem_news) p.i p.n (by nest_cls) (by rfl) (wl_cons (w_methW (by mem_news) h1.i h1.n (by nest_cls) (by rfl) (wl_cons (w_meth (by mem_news) h1.i h1.n (by nest_cls) (by rfl) (by mem_news) (T h1 hv (wl_cons (w_call (by mem_news) (by nest_cls) (by mem_news) (C (hp.kp k1) fun nl H2 k2 hn _=>wl_nil ?_))))))))))
      have h2:=h1.kp0 k2
      refine D h2 hs hn hf fun H3 k3=>wl_nil ?_
      have h3:=h2.kp0 k3
      refine N h3.p hc (fun rows' e=>by cases e;exact len_line (hs _ _ hc)) fun v H4 hv k4 _=>?_
      obtain ⟨a,rl,zs,rfl,ha,hl,hrr⟩:=hv
      refine w_ev ev_int (idx_at ha rfl rfl ?_)
      refine ss_retW (w_mapA (fun r:Str×Int=>.str r.1 0) (by mem_news) hl rfl (by rw [all2_len hrr];exact len_line (hs _ _ hc)) hrr (fun v row hv=>?_) fun nl hnl=>?_)
      · obtain ⟨b,rfl,hb⟩:=hv
        mem_news
      · have kk:=((k1.trans k2).trans k3).trans k4
        refine q _ _ rfl hc _ _ (kk.trans (kp_new hnl _)) (Hp.upd_same _ _ _) ?_
        cases e:H nl with
        | none=>rfl
        | some p=>rw [kk nl p e (.inr (by simp))] at hnl;cases hnl
end
end Mine.St
end

section
open PySem PyProof.Rows
namespace Mine
noncomputable def down:Nat→List Value
  | 0=>[]
  | j + 1=>.int (j:Int) 0 :: down j
theorem rsize_down (m:Nat):Builtin.Range.rangeSize ((m:Int) - 1) (-1) (-1) = m:=by
  unfold Builtin.Range.rangeSize
  rw [if_neg (by decide),show (- -1:Int) = 1 from rfl,Int.ediv_one]
  split
  · rw [Int.sub_add_cancel,Int.sub_neg,Int.sub_add_cancel]
  · exact Int.le_antisymm (Int.natCast_nonneg _) (Int.le_of_sub_le_sub_right (show (m:Int) - 1≤0 - 1 from Int.not_lt.1 ‹_›))
theorem down_map:∀ m:Nat,(List.range m).map (fun (k:Nat)=>Value.int ((m:Int) - 1 + (k:Int) * (-1)) 0) = down m
  | 0=>rfl
  | m + 1=>by
    rw [List.range_succ_eq_map,List.map_cons,List.map_map,down,← down_map m]
    congr 1
    · congr 1;show (m:Int) + 1 - 1 + 0 * -1 = m;rw [Int.add_sub_cancel,Int.zero_mul,Int.add_zero]
    · refine List.map_congr_left fun k _=>?_
      show Value.int _ 0 = Value.int _ 0
      congr 1
      show (m:Int) + 1 - 1 + ((k:Int) + 1) * -1 = m - 1 + k * -1
      rw [Int.add_sub_cancel,Int.add_mul,Int.one_mul,Int.add_comm ((k:Int) * -1),← Int.add_assoc];rfl
theorem rangeL_down (m:Nat):rangeL ((m:Int) - 1) (-1) (-1) = down m:=by
  unfold rangeL
  rw [rsize_down]
  exact down_map m
theorem small_down {m:Nat} (h:m < 2 ^ 60):Builtin.Range.small ((m:Int) - 1) (-1) (-1) = true:=by
  unfold Builtin.Range.small
  rw [rsize_down]
  simp [Builtin.Range.rangeFitsLong]
  have q:(m:Int) < 9223372036854775808:=Int.ofNat_lt.2 (Nat.lt_trans h (by decide))
  exact ⟨⟨Int.le_trans (show -9223372036854775808≤(0:Int) - 1 by decide) (Int.sub_le_sub_right (Int.natCast_nonneg m) 1),Int.lt_of_le_of_lt (Int.sub_le_self _ (by decide)) q⟩,q⟩
theorem take_slice {α:Type} (xs:List α) (k:Nat) (h:k≤xs.length):pySlice xs none (some (k:Int)) = xs.take k:=by
  unfold pySlice hiAt loAt cutAt
  dsimp only
  rw [if_neg (Int.not_lt.2 (Int.natCast_nonneg k))]
  simp [Nat.min_eq_left h]
theorem at_nat {α:Type} (xs:List α) (k:Nat):at? xs (k:Int) = xs[k]?:=by
  unfold at?
  rw [if_pos (Int.natCast_nonneg k)];rfl
theorem all2_at {α β:Type} {R:α→β→Prop} {a:List α} {b:List β} (h:All2 R a b):∀ {k:Nat} {y:β},b[k]? = some y→∃ x,a[k]? = some x∧R x y:=by
  induction h with
  | nil=>intro k y e;simp at e
  | cons h1 _ ih =>
    intro k y e
    cases k with
    | zero=>simp at e;subst e;exact ⟨_,by simp,h1⟩
    | succ k=>simp at e;obtain ⟨x,h2,h3⟩:=ih e;exact ⟨x,by simpa using h2,h3⟩
theorem rsize_one (m:Nat):Builtin.Range.rangeSize 1 (m:Int) 1 = ((m - 1:Nat):Int):=by
  unfold Builtin.Range.rangeSize
  rw [if_pos (by decide),Int.ediv_one]
  split
  · rw [Int.sub_add_cancel];exact (Int.ofNat_sub (Nat.le_of_lt (Int.ofNat_lt.1 ‹_›))).symm
  · rw [Nat.sub_eq_zero_of_le (Int.ofNat_le.1 (Int.not_lt.1 ‹_›))];rfl
theorem rangeL_one (m:Nat):rangeL 1 (m:Int) 1 = (List.range' 1 (m - 1)).map fun (k:Nat)=>Value.int (k:Int) 0:=by
  unfold rangeL
  rw [rsize_one,Int.toNat_natCast,List.range'_eq_map_range,List.map_map]
  refine List.map_congr_left fun k _=>?_
  show Value.int (1 + (k:Int) * 1) 0 = Value.int ((1 + k:Nat):Int) 0
  rw [Int.mul_one];rfl
theorem small_one {m:Nat} (h:m < 2 ^ 60):Builtin.Range.small 1 (m:Int) 1 = true:=by
  unfold Builtin.Range.small
  rw [rsize_one]
  simp [Builtin.Range.rangeFitsLong]
  have q:(m:Int) < 9223372036854775808:=Int.ofNat_lt.2 (Nat.lt_trans h (by decide))
  exact ⟨⟨q,Int.lt_of_le_of_lt (Int.ofNat_le.2 (Nat.sub_le m 1)) q⟩, .inr q⟩
theorem in1 {n i:Nat} (h1:1≤i) (h2:i < 1 + (n - 1)):i < n:=by
  cases n with
  | zero=>exact absurd h2 (Nat.not_lt.2 h1)
  | succ n=>exact Nat.add_comm 1 n ▸ h2
theorem dn60 {m:Nat} (h:m < 2 ^ 59):(m:Int) - 1 < 2 ^ 60:=Int.lt_of_le_of_lt (Int.sub_le_self _ (by decide)) (up60 (Nat.lt_trans h (by decide)))
theorem dl60 (m:Nat):-2 ^ 60 < (m:Int) - 1:=Int.lt_of_lt_of_le (show -2 ^ 60 < (0:Int) - 1 by decide) (Int.sub_le_sub_right (Int.natCast_nonneg m) 1)
section
variable {G:Gx} {l:Loc} {H:Hp} {Q:QS} {X:XS} {r:List Sm}
theorem ss_forR1 {x:Str} {e:Ex} {body:List Sm} {n:Nat} {t:Tok} (I:Nat→Loc→Hp→Prop) (he:Ev G false e l H (.int (n:Int) t)) (hz:n < 2 ^ 60)
    (hb:∀ i,1≤i→i < n→∀ l' H',I i l' H'→∀ K:QS,(∀ l' H',I (i + 1) l' H'→K .next l' H'∧K .cont l' H')→(∀ ρ l' H',Q (.ret ρ) l' H'→K (.ret ρ) l' H')→wpSs G false body (l'.upd x (.int (i:Int) 0)) H' K X)
    (h0:∀ c,H c = none→I 1 l (H.upd c (.range 1 n 1))) (hq:∀ l' H',I (1 + (n - 1)) l' H'→wpSs G false r l' H' Q X):wpSs G false (.for_ x (.bf .range [.int 1,e]) body :: r) l H Q X :=
  ss_forW (w_bfW (wl_cons (w_ev ev_int (wl_cons (w_ev he (wl_nil ⟨.inr (.inl rfl),up60 hz,lo60 n,by decide,by decide,fun c hc=>.inl ⟨rfl,by
    have h1:=h0 c hc
    have hcc:(H.upd c (.range 1 n 1)) c = some (.range 1 n 1):=Hp.upd_same _ _ _
    generalize H.upd c (.range 1 n 1) = H1 at *
    conv=>whnf
    rw [hcc]
    refine ⟨small_one hz, ?_⟩
    rw [rangeL_one]
    exact forG_ind I (n - 1) 1 (fun _ _ _ _=>trivial) (fun i h1 h2=>hb i h1 (in1 h1 h2)) hq _ _ h1⟩⟩))))))
theorem ss_forD {x:Str} {e1 e2 e3:Ex} {body:List Sm} {m:Nat} {t u v:Tok} (I:Nat→Loc→Hp→Prop) (h1:Ev G false e1 l H (.int ((m:Int) - 1) t)) (h2:Ev G false e2 l H (.int (-1) u)) (h3:Ev G false e3 l H (.int (-1) v)) (hz:m < 2 ^ 59)
    (hb:∀ i,i < m→∀ l' H',I (i + 1) l' H'→∀ K:QS,(∀ l' H',I i l' H'→K .next l' H'∧K .cont l' H')→(∀ ρ l' H',Q (.ret ρ) l' H'→K (.ret ρ) l' H')→wpSs G false body (l'.upd x (.int (i:Int) 0)) H' K X)
    (h0:∀ c,H c = none→I m l (H.upd c (.range ((m:Int) - 1) (-1) (-1)))) (hq:∀ l' H',I 0 l' H'→wpSs G false r l' H' Q X):wpSs G false (.for_ x (.bf .range [e1,e2,e3]) body :: r) l H Q X :=
  ss_forW (w_bfW (wl_cons (w_ev h1 (wl_cons (w_ev h2 (wl_cons (w_ev h3 (wl_nil ⟨.inr (.inl rfl),by decide,by decide,by decide,by decide,by decide,dn60 hz,dl60 m,fun c hc=>.inl ⟨rfl,by
    have h1:=h0 c hc
    have hcc:(H.upd c (.range ((m:Int) - 1) (-1) (-1))) c = some (.range ((m:Int) - 1) (-1) (-1)):=Hp.upd_same _ _ _
    generalize H.upd c (.range ((m:Int) - 1) (-1) (-1)) = H1 at *
    conv=>whnf
    rw [hcc]
    refine ⟨small_down (Nat.lt_trans hz (by decide)), ?_⟩
    rw [rangeL_down]
    refine forG_list (fun rs l' H'=>∃ j,j≤m∧rs = down j∧I j l' H') (fun _ _ _ _=>trivial) ?_ ?_ _ _ _ ⟨m,Nat.le_refl _,rfl,h1⟩
    · rintro w rs l' H' ⟨j,hj,e,hI⟩ K hK hR
      cases j with
      | zero=>cases e
      | succ j =>
        cases e
        exact hb j hj l' H' hI K (fun l2 H2 h2=>hK l2 H2 ⟨j,Nat.le_of_succ_le hj,rfl,h2⟩) hR
    · rintro l' H' ⟨j,hj,e,hI⟩
      cases j with
      | succ _=>cases e
      | zero=>exact hq l' H' hI⟩⟩))))))))
end
end Mine
namespace Mine.St
open Mine
section
variable {A:Ad} {G:Gx} {H H':Hp} {σ:SA} {s s':Sto} {Q:QV} {X:XV}
noncomputable def WayR (H:Hp) (fl:Addr) (v:Value) (rows:List (Str×Int)):Prop:=∃ l ys,v = .ref l∧l≠fl∧H l = some (.list ys)∧All2 (RRow H) ys rows
theorem WayR.kp {M:List Addr} {fl:Addr} (k:Kp M H H') {v:Value} {rows:List (Str×Int)} (h:WayR H fl v rows):WayR H' fl v rows:=let ⟨l,ys,e,n,h1,h2⟩:=h;⟨l,ys,e,n,k.list h1,all2_imp (fun _ _ q=>q.kp k) h2⟩
theorem RRow.other {v:Value} {r:Str×Int} (h:RRow H v r) {fl:Addr} {xs:List Value} (hf:H fl = some (.list xs)) (o:AObj):RRow (H.upd fl o) v r:=let ⟨a,e,q⟩:=h;⟨a,e,(Hp.upd_ne _ _ fun z=>by rw [z,hf] at q;cases q).trans q⟩
theorem WayR.other {fl:Addr} {v:Value} {rows:List (Str×Int)} (h:WayR H fl v rows) {xs:List Value} (hf:H fl = some (.list xs)) (o:AObj):WayR (H.upd fl o) fl v rows :=
  let ⟨l,ys,e,n,h1,h2⟩:=h;⟨l,ys,e,n,(Hp.upd_ne _ _ n).trans h1,all2_imp (fun _ _ q=>q.other hf o) h2⟩
theorem Kp.absent (k:Kp [] H H') {c:Addr} (h:H' c = Option.none):H c = Option.none:=by
  cases e:H c with
  | none=>rfl
  | some p=>rw [k c p e (.inr (by simp))] at h;cases h
noncomputable def C_ways (G:Gx) (A:Ad):Prop:=∀ ⦃H:Hp⦄ ⦃σ:SA⦄ ⦃s:Sto⦄,StoreR A H σ s→Short s.bs→∀ ⦃nl:Addr⦄ ⦃xs:List Str⦄,H nl = some (.list (xs.map fun x=>Value.str x 0))→xs.length≤8→∀ ⦃W:Nat→List (Str×Int)⦄,(∀ k < xs.length,wayAt s.bs s.tree xs k = some (W k))→∀ ⦃Q:QV⦄ ⦃X:XV⦄,
  (∀ fl ws H',Kp [] H H'→H' fl = some (.list ws)→All2 (WayR H' fl) ws ((List.range xs.length).map W)→Q (.ref fl) H')→G.fn (A "Store" "ways") false [.ref σ.sx, .ref nl] H Q X
theorem ways_ok (F:EnvS G A) (D:C_found G A) (N:C_content G A) (h:StoreR A H σ s) (hs:Short s.bs) {nl:Addr} {xs:List Str} (hn:H nl = some (.list (xs.map fun x=>Value.str x 0))) (hz:xs.length≤8) {W:Nat→List (Str×Int)} (hW:∀ k < xs.length,wayAt s.bs s.tree xs k = some (W k))
    (q:∀ fl ws H',Kp [] H H'→H' fl = some (.list ws)→All2 (WayR H' fl) ws ((List.range xs.length).map W)→Q (.ref fl) H'):wpF G false ["self", "names"] b_Store_ways [.ref σ.sx, .ref nl] H Q X:=by
  refine f_in rfl ?_
  refine ss_asgW (w_list evl_nil (Nat.le_of_ble_eq_true rfl) fun fl hfl=>?_)
  have hfl':=hfl
  have hl:(xs.map fun x=>Value.str x 0).length = xs.length:=List.length_map ..
  have k0:Kp [] H (H.upd fl (.list [])):=kp_new hfl _
  have f0:(H.upd fl (.list [])) fl = some (.list []):=Hp.upd_same _ _ _
  generalize H.upd fl (.list []) = H0 at k0 f0 ⊢
  have hn0:=k0.list hn
  refine ss_forR (n:=xs.length) (t:=0) (fun i l' H'=>Kp [] H H'∧Ls l' [("self", .ref σ.sx),("names", .ref nl),("found", .ref fl)]∧∃ ws,H' fl = some (.list ws)∧All2 (WayR H' fl) ws ((List.range i).map W)) (ev_cast (by mem_news) (by rw [hl])) (Nat.lt_of_le_of_lt ‹xs.length≤8› (by decide)) ?_ ?_ ?_
  · rintro i hi l' H' ⟨k,⟨g1,g2,g3, -⟩,ws,hf,hw⟩ K hK hR
    have h':=h.kp0 k
    have hn':=k.list hn
    refine ss_asgW (w_methW (by mem_news) h'.i h'.n (by nest_cls) (by rfl) (wl_cons (w_ev (v:=.int s.tree 0) (by mem_news) (wl_cons (w_to (by mem_news) (by mem_news) hn' rfl (by rw [hl];exact Nat.le_trans hz (by decide)) fun c hc=>wl_nil ?_)))))
    rw [take_slice _ _ (by rw [hl];exact Nat.le_of_lt ‹_›),← List.map_take]
    have k2:Kp [] H' (H'.upd c (.list ((xs.take i).map fun x=>Value.str x 0))):=kp_new hc _
    have e2:(H'.upd c (.list ((xs.take i).map fun x=>Value.str x 0))) c = some (.list ((xs.take i).map fun x=>Value.str x 0)):=Hp.upd_same _ _ _
    generalize H'.upd c (.list ((xs.take i).map fun x=>Value.str x 0)) = H2 at k2 e2 ⊢
    have hWi:=hW i hi
    unfold wayAt at hWi
    have hlw:ws.length≤sizeLine:=by rw [all2_len hw,List.length_map,List.length_range];exact Nat.le_trans (Nat.le_trans (Nat.le_of_lt hi) hz) (by decide)
    cases hfd:find s.bs s.tree (xs.take i) with
    | none=>rw [hfd] at hWi;cases hWi
    | some ro =>
    rw [hfd] at hWi
    refine D (h'.kp0 k2) hs e2 hfd fun H3 k3=>?_
    have h3:=(h'.kp0 k2).kp0 k3
    have k23:=k2.trans k3
    have fin:∀ (v:Value) (H4:Hp) (l4:Loc),Kp [] H3 H4→WayR H4 fl v (W i)→Ls l4 [("self", .ref σ.sx),("names", .ref nl),("found", .ref fl)]→K .next l4 (H4.upd fl (.list (ws++[v]))):=fun v H4 l4 k4 hv hl4=>by
      refine (hK _ _ ?_).1
      have kk:=k23.trans k4
      have e4:=kk.list hf
      refine ⟨(k.trans kk).fresh hfl' _,hl4,_,Hp.upd_same _ _ _, ?_⟩
      rw [List.range_succ,List.map_append]
      exact all2_append (all2_imp (fun _ _ z=>(WayR.kp kk z).other e4 _) hw) (.cons (hv.other e4 _) .nil)
    have ef:=k23.list hf
    cases ro with
    | none =>
      have hWi:W i = []:=by injection hWi with e;exact e.symm
      refine ss_ift (by mem_news) ?_
      refine ss_exprW (w_appendW (ev_loc g3) ef (w_list evl_nil (Nat.le_of_ble_eq_true rfl) fun c2 hc2=>?_))
      have k4:Kp [] H3 (H3.upd c2 (.list [])):=kp_new hc2 _
      refine app_at (k4.list ef) hlw (ss_nl (fin _ _ _ k4 ?_ ⟨g1,g2,g3,trivial⟩))
      refine ⟨c2,[],rfl,fun e=>?_,Hp.upd_same _ _ _,hWi ▸ .nil⟩
      rw [e,ef] at hc2;cases hc2
    | some b =>
      dsimp only at hWi
      cases hg:get s.bs b with
      | none=>rw [hg] at hWi;cases hWi
      | some ct =>
      rw [hg] at hWi
      cases ct with
      | leaf m=>cases hWi
      | br rows =>
      have hWi:W i = rows:=by injection hWi with e;exact e.symm
      refine ss_iff (ev_is (v:=.int b 0) (by mem_news) rfl) ?_
      obtain ⟨bvs,p, -⟩:=id h3.p.ex
      refine ss_exprW (w_appendW (ev_loc g3) ef (w_idxW (w_meth (by mem_news) p.i p.n (by nest_cls) (by rfl) (evl_cons (ev_loc (v:=.int b 0) rfl) evl_nil) (N h3.p hg (fun rows' e=>by cases e;exact len_line (hs _ _ hg)) fun v H4 hv k4 hnew=>?_))))
      obtain ⟨a,rl,zs,rfl,ha,hl2,hrr⟩:=hv
      refine w_ev ev_int (idx_at ha rfl rfl ?_)
      refine app_at (k4.list ef) hlw (ss_nl (fin _ _ _ k4 ⟨rl,zs,rfl,fun e=>?_,hl2,hWi ▸ hrr⟩ ⟨g1,g2,g3,trivial⟩))
      have:=hnew a rl _ rfl ha
      rw [e,ef] at this;cases this
  · intro c hc
    have k1:Kp [] H0 (H0.upd c (.range 0 xs.length 1)):=kp_new hc _
    exact ⟨k0.trans k1,⟨rfl,rfl,rfl,trivial⟩,[],k1.list f0, .nil⟩
  · rintro l' H' ⟨k,⟨g1,g2,g3, -⟩,ws,hf,hw⟩
    exact ss_ret (by mem_news) (q _ _ _ k hf hw)
end
end Mine.St
end

section
open PySem PyProof.Rows
namespace Mine.St
open Mine
section
variable {A:Ad} {G:Gx} {H H':Hp} {σ:SA} {s s':Sto} {Q:QV} {X:XV}
theorem StoreR.own (h:StoreR A H σ s) (tree last:Int):StoreR A (H.upd σ.sd (.ns [("pile", .ref σ.π.x),("tree", .int tree 0),("shots", .ref σ.sh),("last", .int last 0)])) σ { s with tree:=tree,last:=last }∧Kp σ.M H (H.upd σ.sd (.ns [("pile", .ref σ.π.x),("tree", .int tree 0),("shots", .ref σ.sh),("last", .int last 0)])):=by
  obtain ⟨bvs,hp,hr⟩:=h.p.ex
  have n1:σ.sx≠σ.sd:=fun e=>by have:=h.i;rw [e,h.n] at this;cases this
  have n2:σ.sh≠σ.sd:=fun e=>by have:=h.st;rw [e,h.n] at this;cases this
  have k:Kp [σ.sd] H (H.upd σ.sd (.ns [("pile", .ref σ.π.x),("tree", .int tree 0),("shots", .ref σ.sh),("last", .int last 0)])):=kp_upd h.n rfl (by simp) _
  have d2:σ.π.bx≠σ.sd:=fun e=>by have:=h.n;rw [← e,hp.b] at this;cases this
  have d3:σ.π.ct≠σ.sd:=fun e=>by have:=h.n;rw [← e,hp.c] at this;cases this
  exact ⟨⟨(Hp.upd_ne _ _ n1).trans h.i,Hp.upd_same _ _ _,(Hp.upd_ne _ _ n2).trans h.st,h.p.kp k (by simpa using fun e:σ.π.d = σ.sd=>h.n1 e.symm) (by simpa using d2) (by simpa using d3),h.n1,h.n2,h.n3⟩,k.mono (by simp)⟩
theorem StoreR.shot (h:StoreR A H σ s) (shots:List (Int×Int)):StoreR A (H.upd σ.sh (.idict (vints shots))) σ { s with shots:=shots }∧Kp σ.M H (H.upd σ.sh (.idict (vints shots))):=by
  obtain ⟨bvs,hp,hr⟩:=h.p.ex
  have n1:σ.sx≠σ.sh:=fun e=>by have:=h.i;rw [e,h.st] at this;cases this
  have n2:σ.sd≠σ.sh:=fun e=>by have:=h.st;rw [← e,h.n] at this;cases this
  have k:Kp [σ.sh] H (H.upd σ.sh (.idict (vints shots))):=kp_upd h.st rfl (by simp) _
  have d2:σ.π.d≠σ.sh:=fun e=>by have:=h.st;rw [← e,hp.n] at this;cases this
  exact ⟨⟨(Hp.upd_ne _ _ n1).trans h.i,(Hp.upd_ne _ _ n2).trans h.n,Hp.upd_same _ _ _,h.p.kp k (by simpa using d2) (by simpa using fun e:σ.π.bx = σ.sh=>h.n2 e.symm) (by simpa using fun e:σ.π.ct = σ.sh=>h.n3 e.symm),h.n1,h.n2,h.n3⟩,k.mono (by simp)⟩
noncomputable def C_changed (G:Gx) (A:Ad):Prop:=∀ ⦃H:Hp⦄ ⦃σ:SA⦄ ⦃s:Sto⦄,StoreR A H σ s→∀ ⦃box k:Int⦄ ⦃c c2:Ct⦄,get s.bs box = some c→get s.cs box = some k→s.cs.length≤2 ^ 20→get s.bs s.tree = some c2→∀ ⦃n:Nat⦄ ⦃g':Int⦄ ⦃bs':List (Int×Ct)⦄ ⦃cs':List (Int×Int)⦄,lgo n [s.tree] s.bs (put s.cs box (k + 1)) 0 = some (bs',cs',g')→∀ ⦃Q:QV⦄ ⦃X:XV⦄,
  (∀ H',StoreR A H' σ { s with bs:=bs',cs:=cs',tree:=box }→Kp σ.M H H'→Q (.int g' 0) H')→G.fn (A "Store" "changed") false [.ref σ.sx, .int box 0] H Q X
theorem changed_ok (F:EnvS G A) (N:C_hold G A) (L:C_let_go G A) (h:StoreR A H σ s) {box k:Int} {c c2:Ct} (hb:get s.bs box = some c) (hk:get s.cs box = some k) (hz:s.cs.length≤2 ^ 20) (ht:get s.bs s.tree = some c2) {n:Nat} {g':Int} {bs':List (Int×Ct)} {cs':List (Int×Int)} (hg:lgo n [s.tree] s.bs (put s.cs box (k + 1)) 0 = some (bs',cs',g'))
    (q:∀ H',StoreR A H' σ { s with bs:=bs',cs:=cs',tree:=box }→Kp σ.M H H'→Q (.int g' 0) H'):wpF G false ["self", "box"] b_Store_changed [.ref σ.sx, .int box 0] H Q X:=by
  refine f_in rfl ?_
  refine ss_asg (by mem_news) ?_
  obtain ⟨bvs,p, -⟩:=id h.p.ex
  refine ss_exprW (w_meth (by mem_news) p.i p.n (by nest_cls) (by rfl) (by mem_news) (N h.p hb hk (len_line hz) fun H1 p1 k1=>?_))
  have h1:=h.op p1 k1
  refine ss_set (by mem_news) (by mem_news) h1.i h1.n (by nest_cls) (by simp) ?_
  obtain ⟨h2,k2⟩:=h1.own box s.last
  obtain ⟨bvs2,p2, -⟩:=id h2.p.ex
  refine ss_retW (w_meth (x:=σ.π.x) (by mem_news) p2.i p2.n (by nest_cls) (by rfl) (by mem_news) (L h2.p ht hg fun H3 p3 k3=>?_))
  exact q _ (h2.op p3 k3) (((k1.mono σ.sub).trans k2).trans (k3.mono σ.sub))
noncomputable def leafAt (s:Sto) (xs:List Str) (k:Nat):Prop:=∃ b m,find s.bs s.tree (xs.take k) = some (some b)∧get s.bs b = some (.leaf m)
theorem way_or {R:Nat} (w:SW R s) (xs:List Str) (k:Nat):(∃ rows,wayAt s.bs s.tree xs k = some rows)∨leafAt s xs k:=by
  obtain ⟨r,hf,hr⟩:=find_pw w.pw (xs.take k) w.tin
  unfold wayAt
  rw [hf]
  cases r with
  | none=>exact .inl ⟨_,rfl⟩
  | some b =>
    obtain ⟨c,hc⟩:=get_of_key (hr b rfl)
    dsimp only
    rw [hc]
    cases c with
    | leaf m=>exact .inr ⟨b,m,hf,hc⟩
    | br rows=>exact .inl ⟨_,rfl⟩
theorem no_leaf0 {R:Nat} (w:SW R s) (xs:List Str):¬ leafAt s xs 0:=by
  rintro ⟨b,m,hf,hg⟩
  have:find s.bs s.tree (xs.take 0) = some (some s.tree):=rfl
  rw [this] at hf
  injection hf with e;injection e with e;subst e
  obtain ⟨rows,hr⟩:=w.rt s.tree (by simp [Sto.roots])
  rw [hr] at hg;cases hg
theorem SW.short {R:Nat} (w:SW R s) (hR:R≤2 ^ 20):Short s.bs:=fun i rows e=>Nat.le_trans (w.ro i rows e).1 hR
theorem SW.get_some {R:Nat} (w:SW R s) {xs:List Str} {r:Option Int} (hf:find s.bs s.tree xs = some r):∀ b,r = some b→∃ c,get s.bs b = some c:=by
  obtain ⟨r',hf',hr⟩:=find_pw w.pw xs w.tin
  rw [hf'] at hf
  injection hf with e;subst e
  exact fun b e=>get_of_key (hr b e)
theorem range_at {α:Type} {W:Nat→α} {n k:Nat} (h:k < n):((List.range n).map W)[k]? = some (W k):=by simp [h]
theorem Sto.eta (b9:s'.tree = s'.made) (b10:s'.shots = s.shots) (b11:s'.last = s.last):s' = { s with bs:=s'.bs,cs:=s'.cs,made:=s'.made,tree:=s'.made }:=by
  cases s'
  simp only at b9 b10 b11 ⊢
  subst b9 b10 b11
  rfl
structure RbI (A:Ad) (σ:SA) (s:Sto) (H0:Hp) (xs:List Str) (W:Nat→List (Str×Int)) (N:Nat→Str) (ws:List Value) (nl fl:Addr) (fin:List (Int×Ct)×List (Int×Int)×Int×Int) (i:Nat) (l:Loc) (H:Hp) (bs1:List (Int×Ct)) (cs2:List (Int×Int)) (mk1 box1:Int):Prop where
  h:StoreR A H σ { s with bs:=bs1,cs:=cs2,made:=mk1 }
  bu:build W N i bs1 cs2 mk1 box1 = some fin
  ls:Ls l [("self", .ref σ.sx),("names", .ref nl),("ways", .ref fl),("box", .int box1 0)]
  k:Kp σ.M H0 H
  n:H nl = some (.list (xs.map fun x=>Value.str x 0))
  f:H fl = some (.list ws)
  w:All2 (WayR H fl) ws ((List.range xs.length).map W)
noncomputable def rbB:List Sm:=[.asg "box" (.meth (.attr (.loc "self") "pile") "branch" [.call (.glob "placed") [.idx (.loc "ways") (.loc "k"), .idx (.loc "names") (.loc "k"), .loc "box"]])]
section
variable {xs:List Str} {W:Nat→List (Str×Int)} {N:Nat→Str} {ws:List Value} {nl fl:Addr} {fin:List (Int×Ct)×List (Int×Int)×Int×Int} {H0:Hp}
theorem rb_turn (F:EnvS G A) (C7:C_branch G A) (C8:C_placed G A) (hN:∀ k < xs.length,xs[k]? = some (N k)) {i:Nat} (hi:i < xs.length) {l:Loc} {bs1:List (Int×Ct)} {cs2:List (Int×Int)} {mk1 box1:Int} (I:RbI A σ s H0 xs W N ws nl fl fin (i + 1) l H bs1 cs2 mk1 box1) {K:QS}
    (hK:∀ l' H' bs1 cs2 mk1 box1,RbI A σ s H0 xs W N ws nl fl fin i l' H' bs1 cs2 mk1 box1→K .next l' H'):wpSs G false rbB (l.upd "k" (.int (i:Int) 0)) H K (fx X):=by
  have g1:=I.ls.1;have g2:=I.ls.2.1;have g3:=I.ls.2.2.1;have g4:=I.ls.2.2.2.1
  have h7:=I.h;have hn7:=I.n;have hf7:=I.f
  obtain ⟨bvs7,p7, -⟩:=id h7.p.ex
  have hbu:=I.bu
  unfold build at hbu
  split at hbu
  · rename_i hcond
    cases hho:holdAll cs2 (placedR (W i) (N i) box1) with
    | none=>rw [hho] at hbu;cases hbu
    | some cs3 =>
    rw [hho] at hbu
    obtain ⟨v,hv1,rl,ys,rfl, -,hl7,hr7⟩:=all2_at I.w (k:=i) (y:=W i) (range_at hi)
    have hnj:at? (xs.map fun x=>Value.str x 0) (i:Int) = some (.str (N i) 0):=by rw [at_nat,List.getElem?_map,hN i hi];rfl
    have hwj:at? ws (i:Int) = some (.ref rl):=by rw [at_nat];exact hv1
    refine ss_asgW (w_methW (x:=σ.π.x) (by mem_news) p7.i p7.n (by nest_cls) (by rfl) (wl_cons (w_call (by mem_news) (by nest_cls) (by mem_news) (C8 hl7 hr7 hcond.2.2.1 fun c zs H8 k8 hc8 hr8=>wl_nil ?_))))
    have h8:=h7.kp0 k8
    refine C7 h8.p hc8 hr8 (fun r hr=>Option.isSome_iff_exists.1 (List.all_eq_true.1 hcond.2.2.2.2 r hr)) hho (len_line hcond.1) (len_line hcond.2.1) (len_line hcond.2.2.2.1) fun H9 p9 k9=>?_
    have k89:Kp σ.M H H9:=k8.up.trans (k9.mono σ.sub)
    exact ss_nl (hK _ _ _ _ _ _ ⟨h8.op p9 k9,hbu,⟨g1,g2,g3,rfl,trivial⟩,I.k.trans k89,k89.list hn7,k89.list hf7,all2_imp (fun _ _ z=>WayR.kp k89 z) I.w⟩)
  · cases hbu
theorem rebuild_ok (F:EnvS G A) (C7:C_branch G A) (C8:C_placed G A) (C9:C_changed G A) {l:Loc} {j:Nat} {c:Ct} {cs0 cs1:List (Int×Int)} {k1:Int} {n R:Nat} (M:Made R s c W N j cs0 cs1 k1 n s') {e:Ex} (hj:j≤xs.length) (h8:xs.length≤8) (hN:∀ k < xs.length,xs[k]? = some (N k))
    (he:Ev G false e l H (.int ((j:Int) - 1) 0)) (h:StoreR A H σ { s with bs:=s.bs++[(s.made + 1,c)],cs:=cs0++[(s.made + 1,0)],made:=s.made + 1 }) (hL:Ls l [("self", .ref σ.sx),("names", .ref nl),("ways", .ref fl),("box", .int (s.made + 1) 0)])
    (kk:Kp σ.M H0 H) (hn:H nl = some (.list (xs.map fun x=>Value.str x 0))) (hf:H fl = some (.list ws)) (hw:All2 (WayR H fl) ws ((List.range xs.length).map W)) (q:∀ H1,StoreR A H1 σ s'→Kp σ.M H0 H1→Q (.int ((s.bs.length:Int) + 1 + j - s'.bs.length) 0) H1) :
    wpSs G false [.for_ "k" (.bf .range [e, .neg (.int 1), .neg (.int 1)]) rbB, .ret (.meth (.loc "self") "changed" [.loc "box"])] l H (fq Q) (fx X):=by
  refine ss_forD (m:=j) (t:=0) (u:=0) (v:=0) (fun i l' H'=>∃ bs1 cs2 mk1 box1,RbI A σ s H0 xs W N ws nl fl (finB s c W N j,cs1,s'.made,s'.made) i l' H' bs1 cs2 mk1 box1) he (ev_neg ev_int) (ev_neg ev_int) (Nat.lt_of_le_of_lt (Nat.le_trans hj h8) (by decide)) ?_ ?_ ?_
  · rintro i hi l' H7 ⟨bs1,cs2,mk1,box1,I⟩ K hK hR
    exact rb_turn F C7 C8 hN (Nat.lt_of_lt_of_le hi hj) I fun l' H' bs1 cs2 mk1 box1 I=>(hK l' H' ⟨bs1,cs2,mk1,box1,I⟩).1
  · intro c hc
    have k7:Kp [] H (H.upd c (.range ((j:Int) - 1) (-1) (-1))):=kp_new hc _
    exact ⟨_,_,_,_,h.kp0 k7,M.bu,hL,kk.trans k7.up,k7.list hn,k7.list hf,all2_imp (fun _ _ z=>WayR.kp k7 z) hw⟩
  · rintro l' H7 ⟨bs1,cs2,mk1,box1,I⟩
    have g1:=I.ls.1;have g4:=I.ls.2.2.2.1
    have h7:=I.h
    have hbu:=I.bu
    injection hbu with hbu;injection hbu with e1 hbu;injection hbu with e2 hbu;injection hbu with e3 e4
    subst e1 e2 e3 e4
    obtain ⟨c1,b2⟩:=M.top
    obtain ⟨c2,b5⟩:=M.old
    refine ss_retW (w_meth (by mem_news) h7.i h7.n (by nest_cls) (by rfl) (by mem_news) (C9 h7 b2 M.cnt M.len b5 M.go fun H8 h8 k8=>q _ ?_ (I.k.trans k8)))
    rw [Sto.eta M.tree M.shots M.last];exact h8
end
structure PutN (s:Sto) (xs:List Str) (m:Int) (s':Sto) (g:Int):Prop where
  other:¬ ∃ b,find s.bs s.tree xs = some (some b)∧get s.bs b = some (.leaf m)
  nobr:¬ ∃ b rows,find s.bs s.tree xs = some (some b)∧get s.bs b = some (.br rows)
  made:s'.made = s.made + 1 + xs.length
  tree:s'.tree = s'.made
  shots:s'.shots = s.shots
  last:s'.last = s.last
  gone:g = (s.bs.length:Int) + 1 + xs.length - s'.bs.length
  bs:∃ W N,(∀ k < xs.length,wayAt s.bs s.tree xs k = some (W k))∧(∀ k < xs.length,xs[k]? = some (N k))∧s'.bs.Sublist (s.bs++[(s.made + 1, .leaf m)]++newB W N xs.length (s.made + 1) (s.made + 1))
noncomputable def C_put (G:Gx) (A:Ad):Prop:=∀ ⦃H:Hp⦄ ⦃σ:SA⦄ ⦃s:Sto⦄,StoreR A H σ s→∀ ⦃R:Nat⦄,SW R s→(s.made.toNat + 9) * (R + 2) + 2≤2 ^ 20→∀ ⦃a:Addr⦄ ⦃xs:List Str⦄ ⦃m:Int⦄,PathAt H a xs→xs≠[]→-(10 ^ 30) < m→m < 10 ^ 30→∀ ⦃Q:QV⦄ ⦃X:XV⦄,
  (∀ b,find s.bs s.tree xs = some (some b)→get s.bs b = some (.leaf m)→∀ H',StoreR A H' σ s→Kp [] H H'→Q (.int 0 0) H') →
  (∀ s' g,PutN s xs m s' g→SW (R + 1) s'→∀ H',StoreR A H' σ s'→Kp σ.M H H'→Q (.int g 0) H') →
  ((∃ k,1≤k∧k < xs.length∧leafAt s xs k)→∀ H',StoreR A H' σ s→Kp [] H H'→X (A "LeafThere" "") H') →
  ((∀ k < xs.length,¬ leafAt s xs k)→(∃ b rows,find s.bs s.tree xs = some (some b)∧get s.bs b = some (.br rows))→∀ H',StoreR A H' σ s→Kp [] H H'→X (A "BranchThere" "") H')→G.fn (A "Store" "put") false [.ref σ.sx, .ref a, .int m 0] H Q X
noncomputable def wayW (s:Sto) (xs:List Str) (k:Nat):List (Str×Int):=(wayAt s.bs s.tree xs k).getD []
theorem wayW_at {xs:List Str} {k:Nat} (h:∃ rows,wayAt s.bs s.tree xs k = some rows):wayAt s.bs s.tree xs k = some (wayW s xs k):=by
  obtain ⟨rows,e⟩:=h
  unfold wayW;rw [e];rfl
noncomputable def nameN (xs:List Str) (k:Nat):Str:=xs.getD k ""
theorem nameN_at {xs:List Str}:∀ k < xs.length,xs[k]? = some (nameN xs k):=fun k hk=>by unfold nameN;rw [List.getD_eq_getElem?_getD,List.getElem?_eq_getElem hk];rfl
theorem len_strs (xs:List Str):(xs.map fun x=>Value.str x 0).length = xs.length:=List.length_map ..
noncomputable def putB:List Sm:=[.ite (.cmp (.meth (.loc "self") "kind" [.none, .slice (.loc "names") none (some (.loc "k"))]) .Eq (.str "leaf")) [.raise "LeafThere"] []]
theorem put_turn (F:EnvS G A) (C3:C_kind G A) (h:StoreR A H σ s) {R:Nat} (w:SW R s) (hs:Short s.bs) {xs:List Str} (hg:∀ x∈xs,Good x) (h8:xs.length≤8) {i:Nat} (hi:i < xs.length) {l:Loc} {nl:Addr} (k:Kp [] H H') (g1:l "self" = some (.ref σ.sx)) (g2:l "names" = some (.ref nl)) (hn:H' nl = some (.list (xs.map fun x=>Value.str x 0))) {K:QS}
    (go:¬ leafAt s xs i→∀ H4,Kp [] H H4→H4 nl = some (.list (xs.map fun x=>Value.str x 0))→K .next (l.upd "k" (.int (i:Int) 0)) H4)
    (bad:leafAt s xs i→∀ H4,StoreR A H4 σ s→Kp [] H H4→X (A "LeafThere" "") H4):wpSs G false putB (l.upd "k" (.int (i:Int) 0)) H' K (fx X):=by
  have h2:=h.kp0 k
  refine ss_ifW (w_cmpW (w_methW (by mem_news) h2.i h2.n (by nest_cls) (by rfl) (wl_cons (w_ev ev_none (wl_cons (w_to (by mem_news) (by mem_news) hn rfl (by rw [len_strs];exact Nat.le_trans h8 (by decide)) fun c hc=>wl_nil ?_))))))
  rw [take_slice _ _ (by rw [len_strs];exact Nat.le_of_lt hi),← List.map_take]
  have k2:Kp [] H' (H'.upd c (.list ((xs.take i).map fun x=>Value.str x 0))):=kp_new hc _
  have e2:(H'.upd c (.list ((xs.take i).map fun x=>Value.str x 0))) c = some (.list ((xs.take i).map fun x=>Value.str x 0)):=Hp.upd_same _ _ _
  generalize H'.upd c (.list ((xs.take i).map fun x=>Value.str x 0)) = H3 at k2 e2 ⊢
  obtain ⟨r,hf,hr⟩:=find_pw w.pw (xs.take i) w.tin
  refine C3 (h2.kp0 k2) hs (v:=.none) rfl (path_list e2 (fun x hx=>hg x (List.mem_of_mem_take hx)) (Nat.le_trans (List.length_take_le' ..) h8)) hf (w.get_some hf) fun H4 k4=>w_ev ev_str ?_
  have kk:=(k.trans k2).trans k4
  have hn4:=(k2.trans k4).list hn
  have go:¬ leafAt s xs i→wpSs G false [] (l.upd "k" (.int (i:Int) 0)) H4 (sq G false [] K (fx X)) (fx X):=fun hh=>ss_nl (Q:=sq G false [] K (fx X)) (go hh H4 kk hn4)
  cases r with
  | none=>exact go (by rintro ⟨b,m,hb, -⟩;rw [hf] at hb;cases hb)
  | some b =>
    obtain ⟨c,hc⟩:=get_of_key (hr b rfl)
    rw [kind_some hc]
    cases c with
    | br rows=>exact go (by rintro ⟨b',m,hb,hb2⟩;rw [hf] at hb;cases hb;rw [hc] at hb2;cases hb2)
    | leaf m'=>exact ss_raise (r:=[]) (Q:=sq G false [] K (fx X)) rfl (by nest_cls) (by nest_cls) (bad ⟨b,m',hf,hc⟩ _ (h.kp0 kk) kk)
theorem put_rest (F:EnvS G A) (C5:C_ways G A) (C6:C_leaf G A) (C7:C_branch G A) (C8:C_placed G A) (C9:C_changed G A) (h:StoreR A H' σ s) {R:Nat} (w:SW R s) (hz:(s.made.toNat + 9) * (R + 2) + 2≤2 ^ 20) {xs:List Str} {m:Int} (hg:∀ x∈xs,Good x) (h8:xs.length≤8) (hne:xs≠[])
    (hW:∀ k < xs.length,wayAt s.bs s.tree xs k = some (wayW s xs k)) (k4:Kp [] H H') {l:Loc} {nl:Addr} (g1:l "self" = some (.ref σ.sx)) (g2:l "names" = some (.ref nl)) (g3:l "number" = some (.int m 0)) (hn:H' nl = some (.list (xs.map fun x=>Value.str x 0)))
    (q:∀ cs1 k1 n s',Made R s (.leaf m) (wayW s xs) (nameN xs) xs.length s.cs cs1 k1 n s'→∀ H1,StoreR A H1 σ s'→Kp σ.M H H1→Q (.int ((s.bs.length:Int) + 1 + xs.length - s'.bs.length) 0) H1):wpSs G false (b_Store_put.drop 6) l H' (fq Q) (fx X):=by
  obtain ⟨cs1,k1,n,s',M⟩:=made_ok w (c:=.leaf m) (fun rows e=>by cases e) (N:=nameN xs) (.inl fun e=>hne (List.length_eq_zero_iff.1 e)) hW (fun k hk=>hg _ (List.mem_of_getElem? (nameN_at k hk))) (fit_m (Nat.add_le_add_left (Nat.succ_le_succ h8) _) hz) w.pw
  have zb:s.bs.length≤2 ^ 20:=Nat.le_trans w.lenN (fit_l (fit_m (Nat.le_add_right _ 9) hz))
  refine ss_asgW (w_meth (by mem_news) h.i h.n (by nest_cls) (by rfl) (by mem_news) (C5 h (w.short (Nat.le_trans (Nat.le_add_right _ 2) (fit_r hz))) hn h8 hW fun fl ws H5 k5 hfl hws=>?_))
  have h5:=h.kp0 k5
  obtain ⟨bvs,p5, -⟩:=id h5.p.ex
  refine ss_asgW (w_meth (x:=σ.π.x) (by mem_news) p5.i p5.n (by nest_cls) (by rfl) (by mem_news) (C6 h5.p (len_line zb) (by rw [w.pw.len];exact len_line zb) fun H6 p6 k6=>?_))
  rw [put_new _ w.pw.notKey,put_new _ w.pw.notKeyC] at p6
  have hn6:=k6.list (k5.list hn)
  exact rebuild_ok F C7 C8 C9 M (Nat.le_refl _) h8 nameN_at (ev_cast (ev_sub (ev_len (by mem_news) hn6 rfl) ev_int) (by rw [len_strs])) (h5.op p6 k6) ⟨g1,g2,rfl,rfl,trivial⟩ (((k4.trans k5).up).trans (k6.mono σ.sub)) hn6 (k6.list hfl) (all2_imp (fun _ _ z=>WayR.kp k6 z) hws) (q _ _ _ _ M)
theorem put_ok (F:EnvS G A) (C1:C_need_way G A) (C2:C_need_number G A) (C3:C_kind G A) (C4:C_value G A) (C5:C_ways G A) (C6:C_leaf G A) (C7:C_branch G A) (C8:C_placed G A) (C9:C_changed G A)
    (h:StoreR A H σ s) {R:Nat} (w:SW R s) (hz:(s.made.toNat + 9) * (R + 2) + 2≤2 ^ 20) {a:Addr} {xs:List Str} {m:Int} (hp:PathAt H a xs) (hne:xs≠[]) (m1:-(10 ^ 30) < m) (m2:m < 10 ^ 30)
    (q0:∀ b,find s.bs s.tree xs = some (some b)→get s.bs b = some (.leaf m)→∀ H',StoreR A H' σ s→Kp [] H H'→Q (.int 0 0) H')
    (q:∀ s' g,PutN s xs m s' g→SW (R + 1) s'→∀ H',StoreR A H' σ s'→Kp σ.M H H'→Q (.int g 0) H')
    (qL:(∃ k,1≤k∧k < xs.length∧leafAt s xs k)→∀ H',StoreR A H' σ s→Kp [] H H'→X (A "LeafThere" "") H')
    (qB:(∀ k < xs.length,¬ leafAt s xs k)→(∃ b rows,find s.bs s.tree xs = some (some b)∧get s.bs b = some (.br rows))→∀ H',StoreR A H' σ s→Kp [] H H'→X (A "BranchThere" "") H'):wpF G false ["self", "path", "number"] b_Store_put [.ref σ.sx, .ref a, .int m 0] H Q X:=by
  have hs:=w.short (Nat.le_trans (Nat.le_add_right _ 2) (fit_r hz))
  refine f_in rfl ?_
  refine ss_asgW (w_call (by mem_news) (by nest_cls) (by mem_news) (C1 hp hne fun nl H1 k1 hn _=>?_))
  refine ss_exprW (w_call (by mem_news) (by nest_cls) (by mem_news) (C2 m1 m2 ?_))
  refine ss_forR1 (n:=xs.length) (t:=0) (fun i l' H'=>Kp [] H H'∧Ls l' [("self", .ref σ.sx),("names", .ref nl),("number", .int m 0)]∧H' nl = some (.list (xs.map fun x=>Value.str x 0))∧∀ k,1≤k→k < i→¬ leafAt s xs k) (ev_cast (by mem_news) (by rw [len_strs])) (Nat.lt_of_le_of_lt hp.len (by decide)) ?_ ?_ ?_
  · rintro i hi1 hi l' H2 ⟨k,hL,hn,hno⟩ K hK hR
    refine put_turn F C3 h w hs hp.good hp.len hi k hL.1 hL.2.1 hn (fun hnl H4 k4 hn4=>(hK (l'.upd "k" (.int (i:Int) 0)) H4 ⟨k4,⟨hL.1,hL.2.1,hL.2.2.1,trivial⟩,hn4,fun j h1 h2=>?_⟩).1) fun hl=>qL ⟨i,hi1,hi,hl⟩
    rcases Nat.lt_succ_iff_lt_or_eq.1 h2 with e | rfl
    · exact hno j h1 e
    · exact hnl
  · intro c hc
    have k2:Kp [] H1 (H1.upd c (.range 1 xs.length 1)):=kp_new hc _
    exact ⟨k1.trans k2,⟨rfl,rfl,rfl,trivial⟩,k2.list hn,fun k h1 h2=>absurd h1 (Nat.not_le_of_lt h2)⟩
  · rintro l2 H2 ⟨k,hL,hn,hno⟩
    have g1:=hL.1;have g2:=hL.2.1;have g3:=hL.2.2.1
    have hno:∀ k < xs.length,¬ leafAt s xs k:=fun k hk=>by
      cases k with
      | zero=>exact no_leaf0 w xs
      | succ k=>exact hno (k + 1) (Nat.le_add_left 1 k) (by rw [Nat.add_sub_cancel' (Nat.le_trans (Nat.le_add_left 1 k) (Nat.le_of_lt hk))];exact hk)
    have hW:∀ k < xs.length,wayAt s.bs s.tree xs k = some (wayW s xs k):=fun k hk=>wayW_at ((way_or w xs k).resolve_right (hno k hk))
    have h2:=h.kp0 k
    obtain ⟨r,hf,hr⟩:=find_pw w.pw xs w.tin
    refine ss_asgW (w_meth (by mem_news) h2.i h2.n (by nest_cls) (by rfl) (by mem_news) (C3 h2 hs (v:=.none) rfl (path_list hn hp.good hp.len) hf (w.get_some hf) fun H3 k3=>?_))
    have kk:=k.trans k3
    have h3:=h.kp0 kk
    have hn:=k3.list hn
    have rest:(¬ ∃ b,find s.bs s.tree xs = some (some b)∧get s.bs b = some (.leaf m))→(¬ ∃ b rows,find s.bs s.tree xs = some (some b)∧get s.bs b = some (.br rows))→∀ {l4 H4},Kp [] H H4→l4 "self" = some (.ref σ.sx)→l4 "names" = some (.ref nl)→l4 "number" = some (.int m 0)→H4 nl = some (.list (xs.map fun x=>Value.str x 0))→wpSs G false (b_Store_put.drop 6) l4 H4 (fq Q) (fx X):=fun ho hb l4 H4 k4 e1 e2 e3 hn4 =>
      put_rest F C5 C6 C7 C8 C9 (h.kp0 k4) w hz hp.good hp.len hne hW k4 e1 e2 e3 hn4 fun cs1 k1 n s' M H1 h1 k1'=>q s' _ ⟨ho,hb,M.made,M.tree,M.shots,M.last,rfl,_,_,hW,nameN_at,M.sub⟩ M.sw _ h1 k1'
    cases r with
    | none =>
      refine ss_iff0 (ev_eqns (by mem_news) (by mem_news)) ?_
      refine ss_iff0 (ev_stop (ev_eqns (by mem_news) (by mem_news))) ?_
      exact rest (by rintro ⟨b,hb, -⟩;rw [hf] at hb;cases hb) (by rintro ⟨b,rows,hb, -⟩;rw [hf] at hb;cases hb) kk g1 g2 g3 hn
    | some b =>
      obtain ⟨c,hc⟩:=get_of_key (hr b rfl)
      rw [kind_some hc]
      cases c with
      | br rows =>
        exact ss_ift (by mem_news) (ss_raise rfl (by nest_cls) (by nest_cls) (qB hno ⟨b,rows,hf,hc⟩ _ h3 kk))
      | leaf m' =>
        refine ss_iff0 (by mem_news) ?_
        refine ss_ifW (w_bopW (wb_go (ev_eqs (p := "leaf") (t:=0) (by mem_news) (by mem_news) rfl) (wb_one (w_cmpW (w_meth (by mem_news) h3.i h3.n (by nest_cls) (by rfl) (by mem_news) (C4 h3 hs (v:=.none) rfl (path_list hn hp.good hp.len) hf (w.get_some hf) ?_ (fun e=>by cases e) (fun b' rows e e2=>by cases e;rw [hc] at e2;cases e2)))))))
        intro b' m2' e e2 H4 k4
        cases e
        rw [hc] at e2;cases e2
        refine w_ev (v:=.int m 0) (by mem_news) ?_
        show if decide (m' = m) = true then _ else _
        by_cases em:m' = m
        · subst em
          rw [decide_eq_true rfl]
          exact ss_ret (r:=[]) ev_int (q0 b hf hc _ (h3.kp0 k4) (kk.trans k4))
        · rw [decide_eq_false em]
          exact rest (by rintro ⟨b',hb,hb2⟩;rw [hf] at hb;cases hb;rw [hc] at hb2;cases hb2;exact em rfl) (by rintro ⟨b',rows,hb,hb2⟩;rw [hf] at hb;cases hb;rw [hc] at hb2;cases hb2) (kk.trans k4) g1 g2 g3 (k4.list hn)
end
end Mine.St
end

section
open PySem PyProof.Rows
namespace Mine.St
open Mine
section
variable {A:Ad} {G:Gx} {H H':Hp} {σ:SA} {s s':Sto} {Q:QV} {X:XV}
theorem sorted_keys {d:Addr} {kvs:List (Int×Value)} (hd:H d = some (.idict kvs)) (hz:kvs.length < 64) (ha:(kvs.map (·.1)).Pairwise (· < ·)) (q:∀ c,H c = none→Q (.ref c) (H.upd c (.list ((kvs.map (·.1)).map fun n=>Value.int n 0)))):bfV .sorted [.ref d] H Q:=by
  have hle:(kvs.map (·.1)).Pairwise (·≤·):=ha.imp fun h=>Int.le_of_lt h
  conv=>whnf
  rw [hd]
  refine ⟨hz,fun ms hp hs=>?_⟩
  rw [perm_eq hp hs hle]
  exact q
theorem vints_keys (cs:List (Int×Int)):(vints cs).map (·.1) = cs.map (·.1):=by unfold vints;rw [List.map_map];rfl
noncomputable def C_kept (G:Gx) (A:Ad):Prop:=∀ ⦃H:Hp⦄ ⦃π:PA⦄ ⦃bs:List (Int×Ct)⦄ ⦃cs:List (Int×Int)⦄ ⦃mk:Int⦄,PileR A H π bs cs mk→bs.length < 64→(bs.map (·.1)).Pairwise (· < ·)→∀ ⦃Q:QV⦄ ⦃X:XV⦄,(∀ c,H c = none→Q (.ref c) (H.upd c (.list ((bs.map (·.1)).map fun n=>Value.int n 0))))→G.fn (A "Pile" "kept") false [.ref π.x] H Q X
theorem kept_ok (F:Env G A) {π:PA} {bs:List (Int×Ct)} {cs:List (Int×Int)} {mk:Int} (h:PileR A H π bs cs mk) (hz:bs.length < 64) (ha:(bs.map (·.1)).Pairwise (· < ·)) (q:∀ c,H c = none→Q (.ref c) (H.upd c (.list ((bs.map (·.1)).map fun n=>Value.int n 0)))):wpF G false ["self"] b_Pile_kept [.ref π.x] H Q X:=by
  obtain ⟨bvs,p,r⟩:=h.ex
  rw [← all2_keys r] at ha q
  refine f_in rfl ?_
  refine ss_retW (w_bfW (wl_cons (w_ev (v:=.ref π.bx) (by mem_news) (wl_nil ⟨.inr (.inl rfl),sorted_keys p.b (by rw [all2_len r];exact hz) ha q⟩))))
noncomputable def C_shot_numbers (G:Gx) (A:Ad):Prop:=∀ ⦃H:Hp⦄ ⦃σ:SA⦄ ⦃s:Sto⦄,StoreR A H σ s→s.shots.length < 64→(s.shots.map (·.1)).Pairwise (· < ·)→∀ ⦃Q:QV⦄ ⦃X:XV⦄,(∀ c,H c = none→Q (.ref c) (H.upd c (.list ((s.shots.map (·.1)).map fun n=>Value.int n 0))))→G.fn (A "Store" "shot_numbers") false [.ref σ.sx] H Q X
theorem shot_numbers_ok (F:EnvS G A) (h:StoreR A H σ s) (hz:s.shots.length < 64) (ha:(s.shots.map (·.1)).Pairwise (· < ·)) (q:∀ c,H c = none→Q (.ref c) (H.upd c (.list ((s.shots.map (·.1)).map fun n=>Value.int n 0)))):wpF G false ["self"] b_Store_shot_numbers [.ref σ.sx] H Q X:=by
  rw [← vints_keys] at ha q
  refine f_in rfl ?_
  refine ss_retW (w_bfW (wl_cons (w_ev (v:=.ref σ.sh) (by mem_news) (wl_nil ⟨.inr (.inl rfl),sorted_keys h.st (by rw [ints_len];exact hz) ha q⟩))))
noncomputable def C_snap (G:Gx) (A:Ad):Prop:=∀ ⦃H:Hp⦄ ⦃σ:SA⦄ ⦃s:Sto⦄,StoreR A H σ s→∀ ⦃R:Nat⦄,SW R s→s.bs.length≤2 ^ 20→s.shots.length≤2 ^ 20→∀ ⦃Q:QV⦄ ⦃X:XV⦄,
  (∀ k,get s.cs s.tree = some k→SW R { s with cs:=put s.cs s.tree (k + 1),shots:=put s.shots (s.last + 1) s.tree,last:=s.last + 1 }→∀ H',StoreR A H' σ { s with cs:=put s.cs s.tree (k + 1),shots:=put s.shots (s.last + 1) s.tree,last:=s.last + 1 }→Kp σ.M H H'→Q (.int (s.last + 1) 0) H')→G.fn (A "Store" "snap") false [.ref σ.sx] H Q X
theorem snap_ok (F:EnvS G A) (N:C_hold G A) (h:StoreR A H σ s) {R:Nat} (w:SW R s) (hz:s.bs.length≤2 ^ 20) (hz2:s.shots.length≤2 ^ 20)
    (q:∀ k,get s.cs s.tree = some k→SW R { s with cs:=put s.cs s.tree (k + 1),shots:=put s.shots (s.last + 1) s.tree,last:=s.last + 1 }→∀ H',StoreR A H' σ { s with cs:=put s.cs s.tree (k + 1),shots:=put s.shots (s.last + 1) s.tree,last:=s.last + 1 }→Kp σ.M H H'→Q (.int (s.last + 1) 0) H'):wpF G false ["self"] b_Store_snap [.ref σ.sx] H Q X:=by
  obtain ⟨c,k,hc,hk,w'⟩:=w.snap
  refine f_in rfl ?_
  refine ss_set (by mem_news) (by mem_news) h.i h.n (by nest_cls) (by simp) ?_
  obtain ⟨h1,k1⟩:=h.own s.tree (s.last + 1)
  refine ss_key (d:=σ.sh) (n:=s.last + 1) (v:=.int s.tree 0) (t:=0) (by mem_news) (by mem_news) (by mem_news) h1.st (by rw [ints_len];exact len_line hz2) ?_
  rw [ints_put]
  obtain ⟨h2,k2⟩:=h1.shot (put s.shots (s.last + 1) s.tree)
  obtain ⟨bvs,p2, -⟩:=id h2.p.ex
  refine ss_exprW (w_meth (x:=σ.π.x) (vs:=[.int s.tree 0]) (by mem_news) p2.i p2.n (by nest_cls) (by rfl) (by mem_news) (N h2.p hc hk (by rw [w.pw.len];exact len_line hz) fun H3 p3 k3=>?_))
  have h3:=h2.op p3 k3
  exact ss_ret (v:=.int (s.last + 1) 0) (by mem_news) (q k hk w' _ h3 ((k1.trans k2).trans (k3.mono σ.sub)))
noncomputable def C_shot (G:Gx) (A:Ad):Prop:=∀ ⦃H:Hp⦄ ⦃σ:SA⦄ ⦃s:Sto⦄,StoreR A H σ s→∀ ⦃n b:Int⦄ ⦃t:Tok⦄,get s.shots n = some b→∀ ⦃Q:QV⦄ ⦃X:XV⦄,Q (.int b 0) H→G.fn (A "Store" "shot") false [.ref σ.sx, .int n t] H Q X
theorem shot_ok (F:EnvS G A) (T:C_top G A) (h:StoreR A H σ s) {n b:Int} {t:Tok} (e:get s.shots n = some b) (q:Q (.int b 0) H):wpF G false ["self", "number"] b_Store_shot [.ref σ.sx, .int n t] H Q X:=by
  refine f_in rfl ?_
  refine ss_iff0 (by mem_news) ?_
  exact ss_retW (w_meth (by mem_news) h.i h.n (by nest_cls) (by rfl) (by mem_news) (T h (v:=.int n t) e q))
noncomputable def C_drop (G:Gx) (A:Ad):Prop:=∀ ⦃H:Hp⦄ ⦃σ:SA⦄ ⦃s:Sto⦄,StoreR A H σ s→∀ ⦃R:Nat⦄,SW R s→s.made.toNat * (R + 1) + 2≤2 ^ 20→s.shots.length≤2 ^ 20→∀ ⦃n b:Int⦄ ⦃t:Tok⦄,get s.shots n = some b→∀ ⦃Q:QV⦄ ⦃X:XV⦄,
  (∀ bs' cs',SW R { s with bs:=bs',cs:=cs',shots:=del s.shots n }→bs'.Sublist s.bs→∀ H',StoreR A H' σ { s with bs:=bs',cs:=cs',shots:=del s.shots n }→Kp σ.M H H'→Q (.int ((s.bs.length:Int) - bs'.length) 0) H')→G.fn (A "Store" "drop") false [.ref σ.sx, .int n t] H Q X
theorem drop_ok (F:EnvS G A) (N:C_shot G A) (L:C_let_go G A) (h:StoreR A H σ s) {R:Nat} (w:SW R s) (hz:s.made.toNat * (R + 1) + 2≤2 ^ 20) (hz2:s.shots.length≤2 ^ 20) {n b:Int} {t:Tok} (e:get s.shots n = some b)
    (q:∀ bs' cs',SW R { s with bs:=bs',cs:=cs',shots:=del s.shots n }→bs'.Sublist s.bs→∀ H',StoreR A H' σ { s with bs:=bs',cs:=cs',shots:=del s.shots n }→Kp σ.M H H'→Q (.int ((s.bs.length:Int) - bs'.length) 0) H'):wpF G false ["self", "shot"] b_Store_drop [.ref σ.sx, .int n t] H Q X:=by
  obtain ⟨c,k,bs',cs',hc,hg,w',hsub⟩:=w.drop e hz
  refine f_in rfl ?_
  refine ss_asgW (w_meth (by mem_news) h.i h.n (by nest_cls) (by rfl) (by mem_news) (N h e ?_))
  refine ss_exprW (w_dpop (a:=σ.sh) (k:=n) (t:=t) (by mem_news) (by mem_news) h.st (by rw [ints_len];exact len_line hz2) (ints_some e) ?_)
  rw [ints_del]
  obtain ⟨h1,k1⟩:=h.shot (del s.shots n)
  obtain ⟨bvs,p1, -⟩:=id h1.p.ex
  refine ss_retW (w_meth (x:=σ.π.x) (vs:=[.int b 0]) (by mem_news) p1.i p1.n (by nest_cls) (by rfl) (by mem_news) (L h1.p hc hg fun H2 p2 k2=>?_))
  exact q bs' cs' w' hsub _ (h1.op p2 k2) (k1.trans (k2.mono σ.sub))
noncomputable def C_back (G:Gx) (A:Ad):Prop:=∀ ⦃H:Hp⦄ ⦃σ:SA⦄ ⦃s:Sto⦄,StoreR A H σ s→∀ ⦃R:Nat⦄,SW R s→s.made.toNat * (R + 1) + 2≤2 ^ 20→∀ ⦃n b:Int⦄ ⦃t:Tok⦄,get s.shots n = some b→∀ ⦃Q:QV⦄ ⦃X:XV⦄,
  (∀ bs' cs',SW R { s with bs:=bs',cs:=cs',tree:=b }→bs'.Sublist s.bs→∀ H',StoreR A H' σ { s with bs:=bs',cs:=cs',tree:=b }→Kp σ.M H H'→Q (.int ((s.bs.length:Int) - bs'.length) 0) H')→G.fn (A "Store" "back") false [.ref σ.sx, .int n t] H Q X
theorem back_ok (F:EnvS G A) (N:C_shot G A) (L:C_changed G A) (h:StoreR A H σ s) {R:Nat} (w:SW R s) (hz:s.made.toNat * (R + 1) + 2≤2 ^ 20) {n b:Int} {t:Tok} (e:get s.shots n = some b)
    (q:∀ bs' cs',SW R { s with bs:=bs',cs:=cs',tree:=b }→bs'.Sublist s.bs→∀ H',StoreR A H' σ { s with bs:=bs',cs:=cs',tree:=b }→Kp σ.M H H'→Q (.int ((s.bs.length:Int) - bs'.length) 0) H'):wpF G false ["self", "shot"] b_Store_back [.ref σ.sx, .int n t] H Q X:=by
  obtain ⟨c,k,c2,m,bs',cs',g1,g2,g3,g4,w',hsub⟩:=w.back e hz
  refine f_in rfl ?_
  refine ss_retW (w_methW (by mem_news) h.i h.n (by nest_cls) (by rfl) (wl_cons (w_meth (by mem_news) h.i h.n (by nest_cls) (by rfl) (by mem_news) (N h e (wl_nil ?_)))))
  exact L h g1 g2 (by rw [w.pw.len];exact Nat.le_trans (Nat.le_mul_of_pos_right _ (Nat.succ_pos R)) (Nat.le_of_add_right_le (w.room hz))) g3 g4 fun H1 h1 k1=>q bs' cs' w' hsub _ h1 k1
noncomputable def withoutR (rows:List (Str×Int)) (n:Str):List (Str×Int):=rows.filter fun r=>!decide (r.1 = n)
noncomputable def C_without (G:Gx) (A:Ad):Prop:=∀ ⦃H:Hp⦄ ⦃rl:Addr⦄ ⦃xs:List Value⦄ ⦃rows:List (Str×Int)⦄ ⦃n:Str⦄,H rl = some (.list xs)→All2 (RRow H) xs rows→rows.length≤2 ^ 20→∀ ⦃Q:QV⦄ ⦃X:XV⦄,(∀ c ys H',Kp [] H H'→H' c = some (.list ys)→All2 (RRow H') ys (withoutR rows n)→Q (.ref c) H')→G.fn (A "without" "") false [.ref rl, .str n 0] H Q X
theorem without_ok {rl:Addr} {xs:List Value} {rows:List (Str×Int)} {n:Str} (hl:H rl = some (.list xs)) (hr:All2 (RRow H) xs rows) (hz:rows.length≤2 ^ 20)
    (q:∀ c ys H',Kp [] H H'→H' c = some (.list ys)→All2 (RRow H') ys (withoutR rows n)→Q (.ref c) H'):wpF G false ["rows", "name"] b_without [.ref rl, .str n 0] H Q X:=by
  have hzx:xs.length≤2 ^ 20:=by rw [all2_len hr];exact hz
  refine f_in rfl ?_
  refine ss_retW (w_compA (fun r:Str×Int=>!decide (r.1 = n)) id (by mem_news) hl rfl (len_line hzx) hr (fun v r e=>?_) (fun v r _ _=>ev_loc rfl) fun z1 h1 l1 c1 hc1=>?_)
  · obtain ⟨a,rfl,ha⟩:=e
    exact ev_one (ev_nes (by mem_news) (by mem_news) rfl)
  rw [List.map_id]
  have k1:Kp [] H (H.upd c1 (.list z1)):=kp_new hc1 _
  exact q _ _ _ k1 (Hp.upd_same _ _ _) (all2_imp (fun _ _ z=>RRow.kp k1 z) h1)
theorem find_pre {bs:List (Int×Ct)}:∀ (xs:List Str) {box b:Int},find bs box xs = some (some b)→∀ k < xs.length,∃ b' rows,find bs box (xs.take k) = some (some b')∧get bs b' = some (.br rows)
  | [],_,_,_,k,hk=>by simp at hk
  | n :: r,box,b,h,k,hk=>by
    unfold find at h
    cases hg:get bs box with
    | none=>rw [hg] at h;cases h
    | some c =>
    rw [hg] at h
    cases c with
    | leaf m=>cases h
    | br rows =>
    dsimp only at h
    cases k with
    | zero=>exact ⟨box,rows,rfl,hg⟩
    | succ k =>
      cases ho:rowOf rows n with
      | none=>rw [ho] at h;cases h
      | some b2 =>
        rw [ho] at h
        obtain ⟨b',rows',h1,h2⟩:=find_pre r h k (by simpa using hk)
        refine ⟨b',rows', ?_,h2⟩
        rw [List.take_succ_cons,find,hg]
        dsimp only
        rw [ho];exact h1
structure CutN (s:Sto) (xs:List Str) (s':Sto) (g:Int):Prop where
  made:s'.made = s.made + xs.length
  tree:s'.tree = s'.made
  shots:s'.shots = s.shots
  last:s'.last = s.last
  gone:g = (s.bs.length:Int) + xs.length - s'.bs.length
  bs:∃ W N,(∀ k < xs.length,wayAt s.bs s.tree xs k = some (W k))∧(∀ k < xs.length,xs[k]? = some (N k))∧s'.bs.Sublist (s.bs++[(s.made + 1, .br (withoutR (W (xs.length - 1)) (N (xs.length - 1))))]++newB W N (xs.length - 1) (s.made + 1) (s.made + 1))
theorem at_last {α:Type} {xs:List α} {n:Nat} (h:xs.length = n + 1):at? xs (-1) = xs[n]?:=by
  have e:-1 + ((n + 1:Nat):Int) = n:=(congrArg (-1 + ·) (congrArg Int.ofNat (Nat.add_comm n 1))).trans (Int.neg_add_cancel_left 1 n)
  unfold at?
  rw [if_neg (by decide),h,if_pos (show -((n + 1:Nat):Int)≤-1 from Int.neg_le_neg (Int.ofNat_le.2 (Nat.le_add_left 1 n))),e];rfl
noncomputable def C_cut (G:Gx) (A:Ad):Prop:=∀ ⦃H:Hp⦄ ⦃σ:SA⦄ ⦃s:Sto⦄,StoreR A H σ s→∀ ⦃R:Nat⦄,SW R s→(s.made.toNat + 9) * (R + 2) + 2≤2 ^ 20→∀ ⦃a:Addr⦄ ⦃xs:List Str⦄,PathAt H a xs→xs≠[]→∀ ⦃Q:QV⦄ ⦃X:XV⦄,
  (∀ s' g,(∃ b,find s.bs s.tree xs = some (some b))→CutN s xs s' g→SW (R + 1) s'→∀ H',StoreR A H' σ s'→Kp σ.M H H'→Q (.int g 0) H') →
  (find s.bs s.tree xs = some none→∀ H',StoreR A H' σ s→Kp [] H H'→X (A "Nothing" "") H')→G.fn (A "Store" "cut") false [.ref σ.sx, .ref a] H Q X
theorem way_pre {xs:List Str} {b:Int} (hf:find s.bs s.tree xs = some (some b)):∀ k < xs.length,wayAt s.bs s.tree xs k = some (wayW s xs k):=fun k hk=>by
  obtain ⟨b',rows,h1,h2⟩:=find_pre xs hf k hk
  refine wayW_at ⟨rows, ?_⟩
  unfold wayAt;rw [h1];dsimp only;rw [h2]
theorem cut_rest (F:EnvS G A) (FW:G.glob "without" = some (.ref (A "without" ""))∧G.init (A "without" "") = none) (C4:C_without G A) (C5:C_ways G A) (C7:C_branch G A) (C8:C_placed G A) (C9:C_changed G A)
    (h:StoreR A H' σ s) {R:Nat} (w:SW R s) (hz:(s.made.toNat + 9) * (R + 2) + 2≤2 ^ 20) {xs:List Str} (hg:∀ x∈xs,Good x) (h8:xs.length≤8) {j:Nat} (hj:xs.length = j + 1)
    (hW:∀ k < xs.length,wayAt s.bs s.tree xs k = some (wayW s xs k)) (kk:Kp [] H H') {l:Loc} {nl:Addr} (g1:l "self" = some (.ref σ.sx)) (g2:l "names" = some (.ref nl)) (hn:H' nl = some (.list (xs.map fun x=>Value.str x 0)))
    (q:∀ cs0 cs1 k1 n s',Made R s (.br (withoutR (wayW s xs j) (nameN xs j))) (wayW s xs) (nameN xs) j cs0 cs1 k1 n s'→∀ H1,StoreR A H1 σ s'→Kp σ.M H H1→Q (.int ((s.bs.length:Int) + 1 + j - s'.bs.length) 0) H1):wpSs G false (b_Store_cut.drop 2) l H' (fq Q) (fx X):=by
  have hjl:j < xs.length:=hj ▸ Nat.lt_succ_self j
  have hR:=Nat.le_trans (Nat.le_add_right _ 2) (fit_r hz)
  have hlast:=hW j hjl
  have hsub:∀ r∈withoutR (wayW s xs j) (nameN xs j),r∈wayW s xs j:=fun r hr=>(List.mem_filter.1 hr).1
  have hkey:∀ r∈withoutR (wayW s xs j) (nameN xs j),r.2∈s.bs.map (·.1):=fun r hr=>way_pw w.pw hlast r (hsub r hr)
  have hway:=w.way hlast
  have hwl:(withoutR (wayW s xs j) (nameN xs j)).length≤R:=Nat.le_trans (List.length_filter_le ..) hway.1
  obtain ⟨cs0,ho,p0⟩:=hold_pw (withoutR (wayW s xs j) (nameN xs j)) w.pw hkey
  obtain ⟨cs1,k1',n,s',M⟩:=made_ok w (c:=.br (withoutR (wayW s xs j) (nameN xs j))) (by intro rows e;cases e;exact ⟨Nat.le_succ_of_le hwl,hway.2.1.filter _,fun r hr=>hway.2.2 r (hsub r hr)⟩) (N:=nameN xs) (.inr ⟨_,rfl⟩) (fun k hk=>hW k (Nat.lt_trans hk hjl)) (fun k hk=>hg _ (List.mem_of_getElem? (nameN_at k (Nat.lt_trans hk hjl)))) (fit_m (Nat.add_le_add_left (Nat.succ_le_succ (Nat.le_of_lt (Nat.lt_of_lt_of_le hjl h8))) _) hz) p0
  refine ss_asgW (w_meth (by mem_news) h.i h.n (by nest_cls) (by rfl) (by mem_news) (C5 h (w.short hR) hn h8 hW fun fl ws H5 k5 hfl hws=>?_))
  have h5:=h.kp0 k5
  have hn5:=k5.list hn
  obtain ⟨bvs,p5, -⟩:=id h5.p.ex
  have zb:s.bs.length≤2 ^ 20:=Nat.le_trans w.lenN (fit_l (fit_m (Nat.le_add_right _ 9) hz))
  obtain ⟨v,hv1,rl,ys,rfl, -,hl7,hr7⟩:=all2_at hws (k:=j) (y:=wayW s xs j) (range_at hjl)
  have hnj:at? (xs.map fun x=>Value.str x 0) (-1) = some (.str (nameN xs j) 0):=by rw [at_last ((len_strs xs).trans hj),List.getElem?_map,nameN_at _ hjl];rfl
  have hwj:at? ws (-1) = some (.ref rl):=by rw [at_last (n:=j) (by rw [all2_len hws,List.length_map,List.length_range,hj])];exact hv1
  refine ss_asgW (w_methW (x:=σ.π.x) (by mem_news) p5.i p5.n (by nest_cls) (by rfl) (wl_cons (w_call (ev_glob FW.1) FW.2 (vs:=[.ref rl, .str (nameN xs j) 0]) (evl_cons (ev_at (ev_loc rfl) (ev_neg ev_int) hfl rfl hwj) (evl_cons (ev_at (ev_loc g2) (ev_neg ev_int) hn5 rfl hnj) evl_nil)) (C4 hl7 hr7 (Nat.le_trans hway.1 hR) fun c zs H6 k6 hc6 hr6=>wl_nil ?_))))
  have h6:=h5.kp0 k6
  refine C7 h6.p hc6 hr6 (fun r hr=>get_of_key (hkey r hr)) ho (len_line zb) (by rw [w.pw.len];exact len_line zb) (len_line (Nat.le_trans hwl hR)) fun H7 p7 k7=>?_
  rw [put_new _ w.pw.notKey,put_new _ p0.notKeyC] at p7
  have k67:Kp σ.M H5 H7:=k6.up.trans (k7.mono σ.sub)
  exact rebuild_ok F C7 C8 C9 M (Nat.le_of_lt hjl) h8 nameN_at (ev_cast (ev_sub (ev_len (ev_loc g2) (k67.list hn5) rfl) ev_int) (by rw [len_strs,hj];congr 1;exact (Int.add_sub_add_right (j:Int) 1 1))) (h6.op p7 k7) ⟨g1,g2,rfl,rfl,trivial⟩ (((kk.trans k5).up).trans k67) (k67.list hn5) (k67.list hfl) (all2_imp (fun _ _ z=>WayR.kp k67 z) hws) (q _ _ _ _ _ M)
theorem cut_ok (F:EnvS G A) (FW:G.glob "without" = some (.ref (A "without" ""))∧G.init (A "without" "") = none) (C1:C_need_way G A) (C3:C_found G A) (C4:C_without G A) (C5:C_ways G A) (C7:C_branch G A) (C8:C_placed G A) (C9:C_changed G A)
    (h:StoreR A H σ s) {R:Nat} (w:SW R s) (hz:(s.made.toNat + 9) * (R + 2) + 2≤2 ^ 20) {a:Addr} {xs:List Str} (hp:PathAt H a xs) (hne:xs≠[])
    (q:∀ s' g,(∃ b,find s.bs s.tree xs = some (some b))→CutN s xs s' g→SW (R + 1) s'→∀ H',StoreR A H' σ s'→Kp σ.M H H'→Q (.int g 0) H')
    (qN:find s.bs s.tree xs = some none→∀ H',StoreR A H' σ s→Kp [] H H'→X (A "Nothing" "") H'):wpF G false ["self", "path"] b_Store_cut [.ref σ.sx, .ref a] H Q X:=by
  obtain ⟨j,hj⟩:=Nat.exists_eq_succ_of_ne_zero fun e=>hne (List.length_eq_zero_iff.1 e)
  have hj:xs.length = j + 1:=hj
  refine f_in rfl ?_
  refine ss_asgW (w_call (by mem_news) (by nest_cls) (by mem_news) (C1 hp hne fun nl H1 k1 hn _=>?_))
  obtain ⟨r,hf,hr⟩:=find_pw w.pw xs w.tin
  have h1:=h.kp0 k1
  refine ss_ifW (w_cmpW (w_meth (vs:=[.int s.tree 0, .ref nl]) (by mem_news) h1.i h1.n (by nest_cls) (by rfl) (by mem_news) (C3 h1 (w.short (Nat.le_trans (Nat.le_add_right _ 2) (fit_r hz))) hn hf fun H2 k2=>w_ev ev_none ?_)))
  have kk:=k1.trans k2
  have h2:=h.kp0 kk
  cases r with
  | none=>exact cmp_is rfl (tv_t (ss_raise rfl (by nest_cls) (by nest_cls) (qN hf _ h2 kk)))
  | some b =>
  refine cmp_is rfl (tv_f (ss_sq ?_))
  have hW:=way_pre hf
  refine cut_rest F FW C4 C5 C7 C8 C9 h2 w hz hp.good hp.len hj hW kk rfl rfl (k2.list hn) fun cs0 cs1 k1 n s' M H1 h1 k1'=>q s' _ ⟨b,hf⟩ ⟨?_,M.tree,M.shots,M.last, ?_,_,_,hW,nameN_at, ?_⟩ M.sw _ h1 k1'
  · rw [M.made,hj];exact up1 _ j
  · rw [hj,up1]
  · rw [hj];exact M.sub
end
end Mine.St
end

section
open PySem PyProof.Rows
namespace Mine.St
open Mine
section
variable {A:Ad} {G:Gx} {H H':Hp} {σ:SA} {s s':Sto} {Q:QV} {X:XV}
noncomputable def C_pinit (G:Gx) (A:Ad):Prop:=∀ ⦃H:Hp⦄ ⦃x d:Addr⦄,H d = none→H x = none→d≠x→∀ ⦃Q:QV⦄ ⦃X:XV⦄,(∀ H' π,π.x = x→PileR A H' π [] [] 0→Kp [] H H'→(∀ a∈π.M,H a = none)→Q .none H')→G.fn (A "Pile" "__init__") false [.ref x] ((H.upd d (.ns [])).upd x (.inst (A "Pile" "") d)) Q X
theorem kp_two {x d:Addr} (hd:H d = none) (hx:H x = none) (o o':AObj):Kp [] H ((H.upd d o).upd x o'):=fun c p hc _=>by
  rw [Hp.upd_ne _ _ (fun e=>by rw [e,hx] at hc;cases hc),Hp.upd_ne _ _ (fun e=>by rw [e,hd] at hc;cases hc)];exact hc
theorem kp_mine {H0:Hp} {d:Addr} (h:Kp [] H0 H) (hd:H0 d = none) (o:AObj):Kp [] H0 (H.upd d o):=h.fresh hd o
theorem pinit_ok (F:Env G A) {x d:Addr} (hd:H d = none) (hx:H x = none) (hdx:d≠x) (q:∀ H' π,π.x = x→PileR A H' π [] [] 0→Kp [] H H'→(∀ a∈π.M,H a = none)→Q .none H'):wpF G false ["self"] b_Pile___init__ [.ref x] ((H.upd d (.ns [])).upd x (.inst (A "Pile" "") d)) Q X:=by
  have k1:=kp_two hd hx (.ns []) (.inst (A "Pile" "") d)
  have i1:((H.upd d (.ns [])).upd x (.inst (A "Pile" "") d)) x = some (.inst (A "Pile" "") d):=Hp.upd_same _ _ _
  have n1:((H.upd d (.ns [])).upd x (.inst (A "Pile" "") d)) d = some (.ns []):=by rw [Hp.upd_ne _ _ hdx,Hp.upd_same]
  generalize (H.upd d (.ns [])).upd x (.inst (A "Pile" "") d) = H1 at *
  refine f_in rfl ?_
  refine ss_setW (w_dict0 fun bx hbx=>w_ev (v:=.ref x) (by mem_news) ?_)
  have k2:Kp [] H1 (H1.upd bx (.idict [])):=kp_new hbx _
  have b2:(H1.upd bx (.idict [])) bx = some (.idict []):=Hp.upd_same _ _ _
  have i2:=k2 _ _ i1 (.inl rfl)
  have n2:=k2 _ _ n1 (.inr (by simp))
  have dbx:d≠bx:=fun e=>by rw [← e,n1] at hbx;cases hbx
  have xbx:x≠bx:=fun e=>by rw [← e,i1] at hbx;cases hbx
  have hbx0:=k1.absent hbx
  have k12:=k1.trans k2
  generalize H1.upd bx (.idict []) = H2 at *
  refine setattr_at i2 n2 (by nest_cls) (by simp) ?_
  have k3:=kp_mine k12 hd (.ns (stored [] (Str.ofString "boxes") (.ref bx)))
  have i3:=(Hp.upd_ne H2 (.ns (stored [] (Str.ofString "boxes") (.ref bx))) hdx.symm).trans i2
  have n3:(H2.upd d (.ns (stored [] (Str.ofString "boxes") (.ref bx)))) d = some (.ns [("boxes", .ref bx)]):=Hp.upd_same _ _ _
  have b3:=(Hp.upd_ne H2 (.ns (stored [] (Str.ofString "boxes") (.ref bx))) dbx.symm).trans b2
  generalize H2.upd d (.ns (stored [] (Str.ofString "boxes") (.ref bx))) = H3 at *
  refine ss_setW (w_dict0 fun ct hct=>w_ev (v:=.ref x) (by mem_news) ?_)
  have k4:Kp [] H3 (H3.upd ct (.idict [])):=kp_new hct _
  have c4:(H3.upd ct (.idict [])) ct = some (.idict []):=Hp.upd_same _ _ _
  have i4:=k4 _ _ i3 (.inl rfl)
  have n4:=k4 _ _ n3 (.inr (by simp))
  have b4:=k4 _ _ b3 (.inr (by simp))
  have dct:d≠ct:=fun e=>by rw [← e,n3] at hct;cases hct
  have bct:bx≠ct:=fun e=>by rw [← e,b3] at hct;cases hct
  have hct0:=k3.absent hct
  have k34:=k3.trans k4
  generalize H3.upd ct (.idict []) = H4 at *
  refine setattr_at i4 n4 (by nest_cls) (by simp) ?_
  have k5:=kp_mine k34 hd (.ns (stored [("boxes", .ref bx)] (Str.ofString "counts") (.ref ct)))
  have i5:=(Hp.upd_ne H4 (.ns (stored [("boxes", .ref bx)] (Str.ofString "counts") (.ref ct))) hdx.symm).trans i4
  have n5:(H4.upd d (.ns (stored [("boxes", .ref bx)] (Str.ofString "counts") (.ref ct)))) d = some (.ns [("boxes", .ref bx),("counts", .ref ct)]):=Hp.upd_same _ _ _
  have b5:=(Hp.upd_ne H4 (.ns (stored [("boxes", .ref bx)] (Str.ofString "counts") (.ref ct))) dbx.symm).trans b4
  have c5:=(Hp.upd_ne H4 (.ns (stored [("boxes", .ref bx)] (Str.ofString "counts") (.ref ct))) dct.symm).trans c4
  generalize H4.upd d (.ns (stored [("boxes", .ref bx)] (Str.ofString "counts") (.ref ct))) = H5 at *
  refine ss_set ev_int (by mem_news) i5 n5 (by nest_cls) (by simp) (ss_nl ?_)
  refine q _ ⟨x,d,bx,ct⟩ rfl ⟨[],⟨(Hp.upd_ne _ _ hdx.symm).trans i5,Hp.upd_same _ _ _,(Hp.upd_ne _ _ dbx.symm).trans b5,(Hp.upd_ne _ _ dct.symm).trans c5,bct⟩, .nil⟩ (kp_mine k5 hd _) ?_
  intro a ha
  simp only [PA.M,List.mem_cons,List.not_mem_nil,or_false] at ha
  rcases ha with rfl | rfl | rfl
  · exact hd
  · exact hbx0
  · exact hct0
noncomputable def sto0:Sto:=⟨[(1, .br [])],[(1,1)],1,1,[],0⟩
noncomputable def C_sinit (G:Gx) (A:Ad):Prop:=∀ ⦃H:Hp⦄ ⦃x d:Addr⦄,H d = none→H x = none→d≠x→∀ ⦃Q:QV⦄ ⦃X:XV⦄,(∀ H' σ,σ.sx = x→StoreR A H' σ sto0→Kp [] H H'→(∀ a∈σ.M,H a = none)→Q .none H')→G.fn (A "Store" "__init__") false [.ref x] ((H.upd d (.ns [])).upd x (.inst (A "Store" "") d)) Q X
theorem sinit_ok (F:EnvS G A) (P:C_pinit G A) (B:C_branch G A) (N:C_hold G A) {x d:Addr} (hd:H d = none) (hx:H x = none) (hdx:d≠x) (q:∀ H' σ,σ.sx = x→StoreR A H' σ sto0→Kp [] H H'→(∀ a∈σ.M,H a = none)→Q .none H'):wpF G false ["self"] b_Store___init__ [.ref x] ((H.upd d (.ns [])).upd x (.inst (A "Store" "") d)) Q X:=by
  have k1:=kp_two hd hx (.ns []) (.inst (A "Store" "") d)
  have i1:((H.upd d (.ns [])).upd x (.inst (A "Store" "") d)) x = some (.inst (A "Store" "") d):=Hp.upd_same _ _ _
  have n1:((H.upd d (.ns [])).upd x (.inst (A "Store" "") d)) d = some (.ns []):=by rw [Hp.upd_ne _ _ hdx,Hp.upd_same]
  generalize (H.upd d (.ns [])).upd x (.inst (A "Store" "") d) = H1 at *
  refine f_in rfl ?_
  refine ss_setW (w_new (by mem_news) (by nest_cls) evl_nil fun pd px hpd hpx hne=>P hpd hpx hne fun H2 π hπ p2 k2 hM=>⟨rfl,w_ev (v:=.ref x) (by mem_news) ?_⟩)
  subst hπ
  have i2:=k2 _ _ i1 (.inl rfl)
  have n2:=k2 _ _ n1 (.inr (by simp))
  have dM:∀ a∈π.M,a≠d:=fun a ha e=>by rw [← e,hM a ha] at n1;cases n1
  have hM0:∀ a∈π.M,H a = none:=fun a ha=>k1.absent (hM a ha)
  have k12:=k1.trans k2
  refine setattr_at i2 n2 (by nest_cls) (by simp) ?_
  have kd:Kp [d] H2 (H2.upd d (.ns (stored [] (Str.ofString "pile") (.ref π.x)))):=kp_upd n2 rfl (by simp) _
  have k3:=kp_mine k12 hd (.ns (stored [] (Str.ofString "pile") (.ref π.x)))
  have i3:=(Hp.upd_ne H2 (.ns (stored [] (Str.ofString "pile") (.ref π.x))) hdx.symm).trans i2
  have n3:(H2.upd d (.ns (stored [] (Str.ofString "pile") (.ref π.x)))) d = some (.ns [("pile", .ref π.x)]):=Hp.upd_same _ _ _
  have p3:=p2.kp kd (by simpa using dM π.d (by simp)) (by simpa using dM π.bx (by simp)) (by simpa using dM π.ct (by simp))
  generalize H2.upd d (.ns (stored [] (Str.ofString "pile") (.ref π.x))) = H3 at *
  obtain ⟨bv3,q3, -⟩:=id p3.ex
  refine ss_setW (w_methW (x:=π.x) (by mem_news) q3.i q3.n (by nest_cls) (by rfl) (wl_cons (w_list evl_nil (Nat.le_of_ble_eq_true rfl) fun c hc=>wl_nil ?_)))
  have k4:Kp [] H3 (H3.upd c (.list [])):=kp_new hc _
  refine B (p3.kp0 k4) (rows:=[]) (Hp.upd_same _ _ _) .nil (by simp) rfl (by simp [sizeLine]) (by simp [sizeLine]) (by simp [sizeLine]) fun H5 p5 k5=>w_ev (v:=.ref x) (by mem_news) ?_
  have kM:∀ a o,H3 a = some o→a ∉ π.M→H5 a = some o:=fun a o e hn=>k5 a o (k4 a o e (.inr (by simp))) (.inr hn)
  have i5:=k5 _ _ (k4 _ _ i3 (.inl rfl)) (.inl rfl)
  have n5:=kM d _ n3 fun e=>dM d e rfl
  have k35:Kp [] H H5:=fun a o e _=>kM a o (k3 a o e (.inr (by simp))) fun hm=>by rw [hM0 a hm] at e;cases e
  refine setattr_at i5 n5 (by nest_cls) (by simp) ?_
  have kd:Kp [d] H5 (H5.upd d (.ns (stored [("pile", .ref π.x)] (Str.ofString "tree") (.int (0 + 1) 0)))):=kp_upd n5 rfl (by simp) _
  have k6:=kp_mine k35 hd (.ns (stored [("pile", .ref π.x)] (Str.ofString "tree") (.int (0 + 1) 0)))
  have i6:=(Hp.upd_ne H5 (.ns (stored [("pile", .ref π.x)] (Str.ofString "tree") (.int (0 + 1) 0))) hdx.symm).trans i5
  have n6:(H5.upd d (.ns (stored [("pile", .ref π.x)] (Str.ofString "tree") (.int (0 + 1) 0)))) d = some (.ns [("pile", .ref π.x),("tree", .int (0 + 1) 0)]):=Hp.upd_same _ _ _
  have p6:=p5.kp kd (by simpa using dM π.d (by simp)) (by simpa using dM π.bx (by simp)) (by simpa using dM π.ct (by simp))
  generalize H5.upd d (.ns (stored [("pile", .ref π.x)] (Str.ofString "tree") (.int (0 + 1) 0))) = H6 at *
  obtain ⟨bv6,q6, -⟩:=id p6.ex
  refine ss_exprW (w_meth (x:=π.x) (vs:=[.int (0 + 1) 0]) (by mem_news) q6.i q6.n (by nest_cls) (by rfl) (by mem_news) (N p6 (i:=0 + 1) (c:=.br []) (k:=0) rfl rfl (by decide) fun H7 p7 k7=>?_))
  have i7:=k7 _ _ i6 (.inl rfl)
  have n7:=k7 _ _ n6 (.inr fun e=>dM d e rfl)
  have k67:Kp [] H H7:=fun a o e _=>k7 a o (k6 a o e (.inr (by simp))) (.inr fun hm=>by rw [hM0 a hm] at e;cases e)
  refine ss_setW (w_dict0 fun sh hsh=>w_ev (v:=.ref x) (by mem_news) ?_)
  have k8:Kp [] H7 (H7.upd sh (.idict [])):=kp_new hsh _
  have s8:(H7.upd sh (.idict [])) sh = some (.idict []):=Hp.upd_same _ _ _
  have i8:=k8 _ _ i7 (.inl rfl)
  have n8:=k8 _ _ n7 (.inr (by simp))
  have p8:=p7.kp0 k8
  have dsh:d≠sh:=fun e=>by rw [← e,n7] at hsh;cases hsh
  have hsh0:=k67.absent hsh
  obtain ⟨bv7,q7, -⟩:=id p7.ex
  have nb:sh≠π.bx:=fun e=>by rw [e,q7.b] at hsh;cases hsh
  have nc:sh≠π.ct:=fun e=>by rw [e,q7.c] at hsh;cases hsh
  have k78:=k67.trans k8
  generalize H7.upd sh (.idict []) = H8 at *
  refine setattr_at i8 n8 (by nest_cls) (by simp) ?_
  have kd:Kp [d] H8 (H8.upd d (.ns (stored [("pile", .ref π.x),("tree", .int (0 + 1) 0)] (Str.ofString "shots") (.ref sh)))):=kp_upd n8 rfl (by simp) _
  have k9:=kp_mine k78 hd (.ns (stored [("pile", .ref π.x),("tree", .int (0 + 1) 0)] (Str.ofString "shots") (.ref sh)))
  have i9:=(Hp.upd_ne H8 (.ns (stored [("pile", .ref π.x),("tree", .int (0 + 1) 0)] (Str.ofString "shots") (.ref sh))) hdx.symm).trans i8
  have n9:(H8.upd d (.ns (stored [("pile", .ref π.x),("tree", .int (0 + 1) 0)] (Str.ofString "shots") (.ref sh)))) d = some (.ns [("pile", .ref π.x),("tree", .int (0 + 1) 0),("shots", .ref sh)]):=Hp.upd_same _ _ _
  have s9:=(Hp.upd_ne H8 (.ns (stored [("pile", .ref π.x),("tree", .int (0 + 1) 0)] (Str.ofString "shots") (.ref sh))) dsh.symm).trans s8
  have p9:=p8.kp kd (by simpa using dM π.d (by simp)) (by simpa using dM π.bx (by simp)) (by simpa using dM π.ct (by simp))
  generalize H8.upd d (.ns (stored [("pile", .ref π.x),("tree", .int (0 + 1) 0)] (Str.ofString "shots") (.ref sh))) = H9 at *
  refine ss_set ev_int (by mem_news) i9 n9 (by nest_cls) (by simp) (ss_nl ?_)
  have kd:Kp [d] H9 (H9.upd d (.ns (stored [("pile", .ref π.x),("tree", .int (0 + 1) 0),("shots", .ref sh)] (Str.ofString "last") (.int 0 0)))):=kp_upd n9 rfl (by simp) _
  refine q _ ⟨x,d,sh,π⟩ rfl ⟨(Hp.upd_ne _ _ hdx.symm).trans i9,Hp.upd_same _ _ _,(Hp.upd_ne _ _ dsh.symm).trans s9,p9.kp kd (by simpa using dM π.d (by simp)) (by simpa using dM π.bx (by simp)) (by simpa using dM π.ct (by simp)),(dM π.d (by simp)).symm,nb,nc⟩ (kp_mine k9 hd _) ?_
  intro a ha
  simp only [SA.M,List.mem_cons,List.not_mem_nil,or_false] at ha
  rcases ha with rfl | rfl | rfl | rfl | rfl
  · exact hd
  · exact hsh0
  · exact hM0 _ (by simp)
  · exact hM0 _ (by simp)
  · exact hM0 _ (by simp)
structure TabS (tab:Tab) (A:Ad):Prop where
  p:TabP tab A
  is_name:HasF tab (A "is_name" "") ["thing"] b_is_name
  checked:HasF tab (A "checked" "") ["path"] b_checked
  box_of:HasF tab (A "box_of" "") ["rows", "name"] b_box_of
  placed:HasF tab (A "placed" "") ["rows", "name", "box"] b_placed
  need_way:HasF tab (A "need_way" "") ["path"] b_need_way
  need_number:HasF tab (A "need_number" "") ["number"] b_need_number
  pinit:HasF tab (A "Pile" "__init__") ["self"] b_Pile___init__
  sinit:HasF tab (A "Store" "__init__") ["self"] b_Store___init__
  top:HasF tab (A "Store" "top") ["self", "view"] b_Store_top
  found:HasF tab (A "Store" "found") ["self", "box", "names"] b_Store_found
  ways:HasF tab (A "Store" "ways") ["self", "names"] b_Store_ways
  changed:HasF tab (A "Store" "changed") ["self", "box"] b_Store_changed
  put:HasF tab (A "Store" "put") ["self", "path", "number"] b_Store_put
  kind:HasF tab (A "Store" "kind") ["self", "view", "path"] b_Store_kind
  value:HasF tab (A "Store" "value") ["self", "view", "path"] b_Store_value
  names:HasF tab (A "Store" "names") ["self", "view", "path"] b_Store_names
section
variable {g:Gx} {tab:Tab} (f:EnvS g A) (t:TabS tab A) (n:Nat)
include f t
theorem is_name_at:C_is_name (GG g tab (n + 1)) A:=fun _ _ _ hx _ _ q=>fn_gg t.is_name (is_name_ok (f.gg tab n) hx q)
theorem checked_at:C_checked (GG g tab (n + 2)) A:=fun _ _ _ hp _ _ q=>fn_gg t.checked (checked_ok (f.gg tab _) (is_name_at f t n) hp q)
theorem need_way_at:C_need_way (GG g tab (n + 3)) A:=fun _ _ _ hp hne _ _ q=>fn_gg t.need_way (need_way_ok (f.gg tab _) (checked_at f t n) hp hne q)
theorem need_number_at:C_need_number (GG g tab (n + 1)) A:=fun _ _ _ h1 h2 _ _ q=>fn_gg t.need_number (need_number_ok (f.gg tab _) h1 h2 q)
omit f in
theorem box_of_at:C_box_of (GG g tab (n + 1)) A:=fun _ _ _ _ _ _ h1 h2 _ _ q=>fn_gg t.box_of (box_of_ok h1 h2 q)
omit f in
theorem placed_at:C_placed (GG g tab (n + 1)) A:=fun _ _ _ _ _ _ h1 h2 h3 _ _ q=>fn_gg t.placed (placed_ok h1 h2 h3 q)
theorem top_at:C_top (GG g tab (n + 1)) A:=fun _ _ _ h _ _ hv _ _ _ q=>fn_gg t.top (top_ok (f.gg tab _) h hv q)
theorem found_at:C_found (GG g tab (n + 3)) A:=fun _ _ _ h hs _ _ _ _ hn hf _ _ q=>fn_gg t.found (found_ok (f.gg tab _) (content_at f.p t.p n) (box_of_at t (n + 1)) h hs hn hf q)
theorem kind_at:C_kind (GG g tab (n + 4)) A:=fun _ _ _ h hs _ _ hv _ _ _ hp hf hr _ _ q=>fn_gg t.kind (kind_ok (f.gg tab _) (top_at f t (n + 2)) (checked_at f t (n + 1)) (found_at f t n) (content_at f.p t.p (n + 1)) h hs hv hp hf hr q)
theorem value_at:C_value (GG g tab (n + 5)) A:=fun _ _ _ h hs _ _ hv _ _ _ hp hf hr _ _ q q1 q2=>fn_gg t.value (value_ok (f.gg tab _) (top_at f t (n + 3)) (checked_at f t (n + 2)) (found_at f t (n + 1)) (content_at f.p t.p (n + 2)) (kind_at f t n) h hs hv hp hf hr q q1 q2)
theorem names_at:C_names (GG g tab (n + 5)) A:=fun _ _ _ h hs _ _ hv _ _ _ hp hf hr _ _ q q1 q2=>fn_gg t.names (names_ok (f.gg tab _) (top_at f t (n + 3)) (checked_at f t (n + 2)) (found_at f t (n + 1)) (content_at f.p t.p (n + 2)) (kind_at f t n) h hs hv hp hf hr q q1 q2)
theorem ways_at:C_ways (GG g tab (n + 4)) A:=fun _ _ _ h hs _ _ hn hz _ hW _ _ q=>fn_gg t.ways (ways_ok (f.gg tab _) (found_at f t n) (content_at f.p t.p (n + 1)) h hs hn hz hW q)
theorem changed_at:C_changed (GG g tab (n + 3)) A:=fun _ _ _ h _ _ _ _ h1 h2 h3 h4 _ _ _ _ h5 _ _ q=>fn_gg t.changed (changed_ok (f.gg tab _) (hold_at f.p t.p n) (let_go_at f.p t.p n) h h1 h2 h3 h4 h5 q)
theorem put_at:C_put (GG g tab (n + 6)) A:=fun _ _ _ h _ w hz _ _ _ hp hne m1 m2 _ _ q0 q qL qB=>fn_gg t.put (put_ok (f.gg tab _) (need_way_at f t (n + 2)) (need_number_at f t (n + 4)) (kind_at f t (n + 1)) (value_at f t n) (ways_at f t (n + 1)) (leaf_at f.p t.p (n + 3)) (branch_at f.p t.p (n + 2)) (placed_at t (n + 4)) (changed_at f t (n + 2)) h w hz hp hne m1 m2 q0 q qL qB)
theorem pinit_at:C_pinit (GG g tab (n + 1)) A:=fun _ _ _ hd hx hne _ _ q=>fn_gg t.pinit (pinit_ok (f.p.gg tab _) hd hx hne q)
theorem sinit_at:C_sinit (GG g tab (n + 4)) A:=fun _ _ _ hd hx hne _ _ q=>fn_gg t.sinit (sinit_ok (f.gg tab _) (pinit_at f t (n + 2)) (branch_at f.p t.p n) (hold_at f.p t.p (n + 1)) hd hx hne q)
end
end
end Mine.St
end

section
open PySem PyProof.Rows
namespace Mine.Lw
open Mine Mine.St
structure LEnv (G:Gx) (A:Ad) (fs:List Str):Prop where
  fn:∀ {x:Str},has x fs = true→G.glob x = some (.ref (A x ""))∧G.init (A x "") = none
theorem LEnv.gg {g:Gx} {A:Ad} {fs:List Str} (f:LEnv g A fs) (tab:Tab) (n:Nat):LEnv (GG g tab n) A fs:=by
  cases n <;> exact ⟨f.fn⟩
end Mine.Lw
end
section
open PySem PyProof.Rows Mine Mine.St Mine.Lw
end
open Mine.Lw
local macro_rules | `(tactic| nest_cls) => `(tactic| first | exact (LEnv.fn ‹_› rfl).1 | exact (LEnv.fn ‹_› rfl).2)
section
open PySem PyProof.Rows
namespace Mine.Lw
open Mine Mine.St
section
variable {A:Ad} {G:Gx} {H H':Hp} {Q:QV} {X:XV} {fs:List Str}
theorem join_chars:∀ cs:List Nat,(Str.join "" (cs.map chr1)).cps.toList = cs
  | []=>rfl
  | [c]=>rfl
  | c :: d :: r=>by
    have ih:=join_chars (d :: r)
    show ((chr1 c++("" : Str))++Str.join "" ((d :: r).map chr1)).cps.toList = _
    show ((chr1 c).cps++("" : Str).cps++(Str.join "" ((d :: r).map chr1)).cps).toList = _
    rw [Array.toList_append,ih];rfl
theorem tjoin (cs:List Nat):(Txt.join "" (cs.map chr1)).cps.toList = cs:=by
  show (Builtin.Str.glued "" (cs.map chr1)).cps.toList = cs
  rw [StrLaws.glued_eq_join];exact join_chars cs
theorem fold_len:∀ (cs:List Nat) (a:Nat),(cs.map chr1).foldl (fun n x=>n + x.length + ("" : Str).length) a = a + cs.length
  | [],a=>rfl
  | c :: r,a=>by
    rw [List.map_cons,List.foldl_cons,fold_len r]
    exact Nat.add_right_comm a 1 r.length
theorem join_ok {cs:List Nat} (h:cs.length≤100):JoinOk "" (cs.map chr1) = true:=by
  unfold JoinOk
  rw [← Array.foldl_toList,fold_len]
  simp [Builtin.Str.tooLong,sizeLine]
  exact Nat.le_trans h (by decide)
theorem strs_chars:∀ cs:List Nat,strsOf ((cs.map chr1).map fun x=>Value.str x 0) = some (cs.map chr1)
  | []=>rfl
  | c :: r=>by
    rw [List.map_cons,List.map_cons,strsOf,strs_chars r];rfl
theorem let_at:∀ k < 26,at? LET.cps.toList ((k:Nat):Int) = some (97 + k):=by decide +kernel
theorem at_lt {α:Type} {xs:List α} {k:Int} (h0:0≤k) (h1:k < xs.length):∃ v,at? xs k = some v∧v∈xs:=by
  have h2:k.toNat < xs.length:=(Int.toNat_lt h0).2 h1
  refine ⟨xs[k.toNat], ?_,List.getElem_mem h2⟩
  unfold at?
  rw [if_pos h0,List.getElem?_eq_getElem h2]
theorem mod_lt (a:Int) {b:Int} (h:0 < b):0≤a % b∧a % b < b:=⟨Int.emod_nonneg _ (Int.ne_of_gt h),Int.emod_lt_of_pos _ h⟩
theorem app_cps (a b:Str):(a++b).cps.toList = a.cps.toList++b.cps.toList:=by
  show (a.cps++b.cps).toList = _
  simp
theorem lt26 (a:Int):(a % 26).toNat < 26:=(Int.toNat_lt (mod_lt a (by decide)).1).2 (mod_lt a (b:=26) (by decide)).2
theorem letAt (a:Int):at? LET.cps.toList (a % 26) = some (97 + (a % 26).toNat):=by
  have:=let_at _ (lt26 a)
  rwa [Int.toNat_of_nonneg (mod_lt a (b:=26) (by decide)).1] at this
theorem let_good (a:Int):97≤97 + (a % 26).toNat∧97 + (a % 26).toNat≤122:=⟨Nat.le_add_right _ _,Nat.add_le_add_left (Nat.le_of_lt_succ (lt26 a)) 97⟩
theorem line100 {n:Nat} (h:n≤100):n≤sizeLine:=Nat.le_trans h (by decide)
end
end Mine.Lw
end

section
open PySem PyProof.Rows
namespace Mine.L5
open Mine Mine.St Mine.Lw
noncomputable def b_Store_changes:List Sm:=[.asg "waiting" (.list [.tup [.list [], .meth (.loc "self") "top" [.loc "one"], .meth (.loc "self") "top" [.loc "other"]]]), .asg "found" (.list []), .asg "looked" (.int 0), .while_ (.cmp (.loc "waiting") .NotEq (.list [])) [.asg "place" (.bm .pop (.loc "waiting") []), .ite (.cmp (.idx (.loc "place") (.int 1)) .Eq (.idx (.loc "place") (.int 2))) [.cont] [], .asg "looked" (.bin .Add (.loc "looked") (.int 1)), .asg "left" (.meth (.loc "self") "both" [.idx (.loc "place") (.int 1)]), .asg "right" (.meth (.loc "self") "both" [.idx (.loc "place") (.int 2)]), .ite (.cmp (.idx (.loc "left") (.int 0)) .NotEq (.idx (.loc "right") (.int 0))) [.expr (.bm .append (.loc "found") [.tup [.idx (.loc "place") (.int 0), .idx (.loc "left") (.int 0), .idx (.loc "right") (.int 0)]])] [], .for_ "name" (.bf .sortedSet []) [.expr (.bm .append (.loc "waiting") [.tup [.bin .Add (.idx (.loc "place") (.int 0)) (.list [.loc "name"]), .call (.glob "box_of") [.idx (.loc "left") (.int 1), .loc "name"], .call (.glob "box_of") [.idx (.loc "right") (.int 1), .loc "name"]]])]], .ret (.tup [.bf .sortedKey0 [.loc "found"], .loc "looked"])]
noncomputable def b__law_cell_at:List Sm:=[.ite (.cmp (.loc "_law_k") .Lt (.bf .len [.loc "_law_script"])) [.ret (.idx (.loc "_law_script") (.loc "_law_k"))] [], .ret (.int 0)]
noncomputable def b__law_word_by:List Sm:=[.asg "_law_letters" (.str "abcdefghijklmnopqrstuvwxyz"), .ret (.bm .join (.str "") [.comp (.idx (.loc "_law_letters") (.bin .Mod (.bin .Add (.bin .FloorDiv (.loc "_law_cell") (.int 8)) (.bin .Mult (.loc "_law_k") (.bin .Add (.int 1) (.bin .Mod (.bin .FloorDiv (.loc "_law_cell") (.int 208)) (.int 25))))) (.int 26))) "_law_k" (.bf .range [.bin .Mod (.loc "_law_cell") (.int 8)]) []])]
noncomputable def b__law_paths:List Sm:=[.asg "_law_one" (.bin .Add (.loc "_law_word") (.str "a")), .asg "_law_two" (.bin .Add (.loc "_law_word") (.str "b")), .asg "_law_other" (.bin .Add (.loc "_law_word") (.str "c")), .asg "_law_good" (.list [.list [.loc "_law_one"], .list [.loc "_law_one", .loc "_law_two"], .list [.loc "_law_other"], .list [.loc "_law_other", .loc "_law_one"], .list [.loc "_law_other", .loc "_law_two", .loc "_law_one"], .list [.loc "_law_two"], .list [.loc "_law_one", .loc "_law_other"], .list [.loc "_law_one", .loc "_law_two", .loc "_law_two"], .list []]), .asg "_law_bad" (.list [.str "ab", .none, .list [.str "A"], .list [.loc "_law_one", .str ""], .bin .Mult (.list [.loc "_law_one"]) (.int 9), .list [.loc "_law_one", .int 3], .list [.bin .Add (.loc "_law_word") (.slice (.str "abcdefghi") none (some (.bin .Sub (.int 9) (.bf .len [.loc "_law_word"]))))]]), .ret (.bin .Add (.bin .Add (.loc "_law_good") (.loc "_law_bad")) (.list [.dict [] [], .dict [.loc "_law_one"] [.bool true], .list [.none], .list [.loc "_law_one", .list [.loc "_law_two"]], .list [.loc "_law_one", .dict [] []]]))]
noncomputable def b__law_asked:List Sm:=[.ite (.cmp (.loc "_law_way") .Eq (.int 0)) [.expr (.meth (.loc "_law_store") "put" [.loc "_law_path", .loc "_law_number"])] [.ite (.cmp (.loc "_law_way") .Eq (.int 1)) [.expr (.meth (.loc "_law_store") "cut" [.loc "_law_path"])] [.ite (.cmp (.loc "_law_way") .Eq (.int 2)) [.expr (.meth (.loc "_law_store") "drop" [.loc "_law_view"])] [.ite (.cmp (.loc "_law_way") .Eq (.int 3)) [.expr (.meth (.loc "_law_store") "back" [.loc "_law_view"])] [.ite (.cmp (.loc "_law_way") .Eq (.int 4)) [.expr (.meth (.loc "_law_store") "value" [.loc "_law_view", .loc "_law_path"])] [.ite (.cmp (.loc "_law_way") .Eq (.int 5)) [.expr (.meth (.loc "_law_store") "names" [.loc "_law_view", .loc "_law_path"])] [.ite (.cmp (.loc "_law_way") .Eq (.int 6)) [.expr (.meth (.loc "_law_store") "kind" [.loc "_law_view", .loc "_law_path"])] [.ite (.cmp (.loc "_law_way") .Eq (.int 7)) [.expr (.meth (.loc "_law_store") "changes" [.none, .loc "_law_view"])] [.ite (.cmp (.loc "_law_way") .Eq (.int 8)) [.expr (.meth (.loc "_law_store") "changes" [.loc "_law_view", .int 1])] [.expr (.meth (.loc "_law_store") "top" [.loc "_law_view"])]]]]]]]]]]
noncomputable def b__law_told:List Sm:=[.try_ [.expr (.call (.glob "_law_asked") [.loc "_law_store", .loc "_law_way", .loc "_law_path", .loc "_law_number", .loc "_law_view"])] [.mk "SnapError" (some "e") [.asg "_law_word" (.bin .Add (.bin .Mult (.str "path ") (.bf .int [.isi (.loc "e") (.cls "BadPath")])) (.bin .Mult (.str "number ") (.bf .int [.isi (.loc "e") (.cls "BadNumber")]))), .asg "_law_word" (.bin .Add (.bin .Add (.loc "_law_word") (.bin .Mult (.str "leaf ") (.bf .int [.isi (.loc "e") (.cls "LeafThere")]))) (.bin .Mult (.str "branch ") (.bf .int [.isi (.loc "e") (.cls "BranchThere")]))), .asg "_law_word" (.bin .Add (.bin .Add (.loc "_law_word") (.bin .Mult (.str "nothing ") (.bf .int [.isi (.loc "e") (.cls "Nothing")]))) (.bin .Mult (.str "shot ") (.bf .int [.isi (.loc "e") (.cls "NoShot")]))), .ret (.bin .Add (.bin .Add (.loc "_law_word") (.bin .Mult (.str "box ") (.bf .int [.isi (.loc "e") (.cls "NoBox")]))) (.bin .Mult (.str "value") (.bf .int [.isi (.loc "e") .valueError])))]], .ret (.str "")]
noncomputable def b__law_due_of_view:List Sm:=[.ite (.bop false [.cmp (.loc "_law_view") .Lt (.int 0), .bop true [.cmp (.loc "_law_view") .Eq (.int 0), .cmp (.loc "_law_way") .Lt (.int 4)]]) [.ret (.str "shot")] [], .ite (.bop false [.cmp (.loc "_law_way") .Eq (.int 2), .cmp (.loc "_law_way") .Eq (.int 3), .cmp (.loc "_law_way") .Gt (.int 6)]) [.ret (.str "")] [], .ite (.cmp (.loc "_law_at") .Gt (.int 8)) [.ret (.str "path")] [], .ite (.cmp (.loc "_law_way") .Eq (.int 6)) [.ret (.str "")] [], .ite (.cmp (.loc "_law_at") .In (.list [.int 3, .int 4, .int 5, .int 6, .int 7])) [.ret (.str "nothing")] [], .ite (.bop true [.cmp (.loc "_law_way") .Eq (.int 4), .cmp (.loc "_law_at") .In (.list [.int 0, .int 8])]) [.ret (.str "branch")] [], .ite (.bop true [.cmp (.loc "_law_way") .Eq (.int 5), .cmp (.loc "_law_at") .In (.list [.int 1, .int 2])]) [.ret (.str "leaf")] [], .ret (.str "")]
noncomputable def b__law_due:List Sm:=[.ite (.cmp (.loc "_law_way") .Gt (.int 1)) [.ret (.call (.glob "_law_due_of_view") [.loc "_law_way", .loc "_law_at", .loc "_law_view"])] [], .ite (.cmp (.loc "_law_at") .GtE (.int 8)) [.ret (.str "path")] [], .ite (.cmp (.loc "_law_way") .Eq (.int 1)) [.ret (.idx (.list [.str "", .str "nothing"]) (.bf .int [.cmp (.loc "_law_at") .Gt (.int 2)]))] [], .ite (.cmp (.loc "_law_number") .Gt (.int 4)) [.ret (.str "number")] [], .ite (.cmp (.loc "_law_at") .In (.list [.int 3, .int 4, .int 7])) [.ret (.str "leaf")] [], .ret (.idx (.list [.str "", .str "branch"]) (.bf .int [.cmp (.loc "_law_at") .Eq (.int 0)]))]
noncomputable def b_law:List Sm:=[.asg "_law_word" (.call (.glob "_law_word_by") [.call (.glob "_law_cell_at") [.loc "_law_script", .int 4]]), .asg "_law_paths_here" (.call (.glob "_law_paths") [.loc "_law_word"]), .asg "_law_store" (.call (.glob "Store") []), .expr (.meth (.loc "_law_store") "put" [.idx (.loc "_law_paths_here") (.int 1), .int 5]), .expr (.meth (.loc "_law_store") "put" [.idx (.loc "_law_paths_here") (.int 2), .neg (.int 7)]), .expr (.meth (.loc "_law_store") "snap" []), .expr (.meth (.loc "_law_store") "drop" [.meth (.loc "_law_store") "snap" []]), .asg "_law_way" (.idx (.list [.int 0, .int 0, .int 0, .int 0, .int 0, .int 0, .int 1, .int 2, .int 3, .int 4, .int 5, .int 6, .int 7, .int 8, .int 9]) (.bin .Mod (.call (.glob "_law_cell_at") [.loc "_law_script", .int 0]) (.int 15))), .asg "_law_at" (.idx (.bin .Add (.bf .list [.bf .range [.int 21]]) (.list [.int 3, .int 4, .int 7, .int 0, .int 5, .int 3, .int 4])) (.bin .Mod (.call (.glob "_law_cell_at") [.loc "_law_script", .int 1]) (.int 28))), .asg "_law_number" (.idx (.bin .Add (.bf .list [.bf .range [.int 13]]) (.list [.int 0, .int 1, .int 2, .int 3, .int 4, .int 0, .int 1])) (.bin .Mod (.call (.glob "_law_cell_at") [.loc "_law_script", .int 2]) (.int 20))), .asg "_law_told_here" (.idx (.list [.int 0, .int 3, .neg (.int 4), .bin .Sub (.bin .Pow (.int 10) (.int 30)) (.int 1), .bin .Sub (.int 1) (.bin .Pow (.int 10) (.int 30)), .bin .Pow (.int 10) (.int 30), .neg (.bin .Pow (.int 10) (.int 30)), .bool true, .str "5", .none, .list [.int 1], .tup [.int 1], .dict [] []]) (.loc "_law_number")), .asg "_law_view" (.bin .Mod (.call (.glob "_law_cell_at") [.loc "_law_script", .int 3]) (.int 11)), .asg "_law_asked_here" (.idx (.list [.none, .int 1, .int 2, .int 0, .int 3, .bool true, .str "1", .neg (.int 1), .list [.int 1], .tup [.int 1], .dict [] []]) (.loc "_law_view")), .asg "_law_due_here" (.call (.glob "_law_due") [.loc "_law_way", .loc "_law_at", .loc "_law_number", .idx (.list [.loc "_law_view", .neg (.int 1)]) (.bf .int [.cmp (.loc "_law_view") .Gt (.int 1)])]), .asg "_law_before" (.tup [.meth (.attr (.loc "_law_store") "pile") "kept" [], .attr (.attr (.loc "_law_store") "pile") "made", .meth (.loc "_law_store") "top" [.none], .meth (.loc "_law_store") "shot_numbers" [], .meth (.loc "_law_store") "top" [.int 1]]), .ite (.cmp (.loc "_law_due_here") .Eq (.str "")) [.ret (.cmp (.call (.glob "_law_told") [.loc "_law_store", .loc "_law_way", .idx (.loc "_law_paths_here") (.loc "_law_at"), .loc "_law_told_here", .loc "_law_asked_here"]) .Eq (.str ""))] [], .ite (.cmp (.call (.glob "_law_told") [.loc "_law_store", .loc "_law_way", .idx (.loc "_law_paths_here") (.loc "_law_at"), .loc "_law_told_here", .loc "_law_asked_here"]) .NotEq (.bin .Add (.loc "_law_due_here") (.str " value"))) [.ret (.bool false)] [], .ret (.cmp (.loc "_law_before") .Eq (.tup [.meth (.attr (.loc "_law_store") "pile") "kept" [], .attr (.attr (.loc "_law_store") "pile") "made", .meth (.loc "_law_store") "top" [.none], .meth (.loc "_law_store") "shot_numbers" [], .meth (.loc "_law_store") "top" [.int 1]]))]
noncomputable abbrev FS:List Str:=["_law_cell_at", "_law_word_by", "_law_paths", "_law_asked", "_law_told", "_law_due_of_view", "_law_due"]
section
variable {A:Ad} {G:Gx} {H H':Hp} {Q:QV} {X:XV} {l:Loc} {hm:Bool} {x y z:Ex} {a b c:Int} {t u v:Tok}
theorem not_t {b:Bool} (h:(!b) = true):b = false:=by cases b <;> first | rfl | cases h
theorem not_f {b:Bool} (h:(!b) = false):b = true:=by cases b <;> first | rfl | cases h
noncomputable def nv (Q:QV):QV:=fun v H1=>truthV v fun b=>Q (.bool (!b)) H1
theorem w_notN {x:Ex} (q:wpE G hm x l H (nv Q) X):wpE G hm (.not x) l H Q X:=q
theorem nv_f (q:Q (.bool true) H):nv Q (.bool false) H:=q
theorem Kp.none0 (k:Kp [] H H') {c:Addr} (hc:H' c = none):H c = none:=by
  cases e:H c with
  | none=>rfl
  | some p=>rw [k c p e (.inr List.not_mem_nil)] at hc;cases hc
theorem Kp.at0 (k:Kp [] H H') {a:Addr} {o:AObj} (h:H a = some o):H' a = some o:=k a o h (.inr List.not_mem_nil)
noncomputable def Rz (G:Gx) (A:Ad) (c m:Str) (args:List Value) (H:Hp) (e:Str):Prop:=∀ ⦃Q:QV⦄ ⦃X:XV⦄,(∀ H',Kp [] H H'→X (A e "") H')→G.fn (A c m) false args H Q X
noncomputable def goodB (x:Str):Bool:=(decide (1≤(x.length:Int)) && decide ((x.length:Int)≤8)) && x.cps.toList.all fun c=>Txt.contains LET (chr1 c)
noncomputable def nmB:Value→Bool
  | .str x _=>goodB x
  | _=>false
inductive Thing (H:Hp):Value→Prop where
  | str (x:Str):x.length≤1000→Thing H (.str x 0)
  | int (i:Int):Thing H (.int i 0)
  | none:Thing H .none
  | ref {a:Addr} {o:AObj}:H a = some o→isiObj .str o = some false→Thing H (.ref a)
theorem Thing.kp {w:Value} (h:Thing H w) (k:Kp [] H H'):Thing H' w:=by
  cases h with
  | str x h=>exact .str x h
  | int i=>exact .int i
  | none=>exact .none
  | ref h i=>exact .ref (Kp.at0 k h) i
noncomputable def isS:Value→Bool
  | .str _ _=>true
  | _=>false
theorem ev_isS {w:Value} (h:Thing H w) (he:Ev G hm x l H w):Ev G hm (.isi x .str) l H (.bool (isS w)):=by
  cases h with
  | str x h=>exact ev_isi he rfl
  | int i=>exact ev_isi he rfl
  | none=>exact ev_isi he rfl
  | ref h i=>exact ev_isir he h i
theorem ev_between (hx:Ev G hm x l H (.int a t)) (hy:Ev G hm y l H (.int b u)) (hz:Ev G hm z l H (.int c v)):Ev G hm (.cmp2 x .LtE y .LtE z) l H (.bool (decide (a≤b) && decide (b≤c))):=by
  cases h1:decide (a≤b) with
  | true=>exact ev_cmp2 hx hy (cmp_le h1) hz fun Q q=>q
  | false =>
    refine .mk fun Q X q=>hx.run (fun a H1=>wpE G hm y l H1 (fun b H2=>cmpV .LtE a b H2 fun c H3=>truthV c fun r =>
      if r then wpE G hm z l H3 (fun d H4=>cmpV .LtE b d H4 Q) X else Q (.bool false) H3) X) X (hy.run (fun b H2=>cmpV .LtE (.int a t) b H2 fun c H3=>truthV c fun r =>
      if r then wpE G hm z l H3 (fun d H4=>cmpV .LtE b d H4 Q) X else Q (.bool false) H3) X ?_)
    have hq:∀ Q:QV,Q (.bool false) H→cmpV .LtE (.int a t) (.int b u) H Q:=fun Q q=>by
      show Q (.bool (decide (a≤b))) H
      rw [h1];exact q
    exact hq _ q
theorem w_signs {src let':Ex} {s:Str} {p:Str} (he:Ev G false src l H (.str p 0)) (hz:p.length≤1000) (hl:∀ (l:Loc) c,Ev G false let' (ca l s (.str (chr1 c) 0)) H (.str LET 0)) (q:∀ H',Kp [] H H'→Q (.bool (p.cps.toList.all fun c=>Txt.contains LET (chr1 c))) H') :
    wpE G false (.bf .all [.comp (.cmp (.loc s) .In let') s src []]) l H Q X:=by
  refine w_bfW (wl_cons (w_compS (fun c=>.bool (Txt.contains LET (chr1 c))) he (Nat.le_trans hz (by decide)) (fun c hc=>ev_ins (ev_loc (v:=.str (chr1 c) 0) (by unfold ca;simp [Loc.upd])) (hl l c) rfl) fun b hb=>?_))
  refine wl_nil ⟨.inr (.inl rfl), ?_⟩
  have k1:=kp_new (M:=[]) hb (.list (p.cps.toList.map fun c=>Value.bool (Txt.contains LET (chr1 c))))
  have e1:=Hp.upd_same H b (.list (p.cps.toList.map fun c=>Value.bool (Txt.contains LET (chr1 c))))
  generalize H.upd b (.list (p.cps.toList.map fun c=>Value.bool (Txt.contains LET (chr1 c)))) = H1 at k1 e1 ⊢
  conv=>whnf
  rw [e1]
  refine ⟨p.cps.toList.map fun c=>Txt.contains LET (chr1 c),by rw [List.map_map];rfl, ?_⟩
  rw [List.all_map]
  exact q _ k1
noncomputable def C_isn (G:Gx) (A:Ad):Prop:=∀ ⦃H:Hp⦄ ⦃w:Value⦄,Thing H w→∀ ⦃Q:QV⦄ ⦃X:XV⦄,(∀ H',Kp [] H H'→Q (.bool (nmB w)) H')→G.fn (A "is_name" "") false [w] H Q X
theorem isn_ok (F:EnvS G A) {w:Value} (h:Thing H w) (q:∀ H',Kp [] H H'→Q (.bool (nmB w)) H'):wpF G false ["thing"] b_is_name [w] H Q X:=by
  refine f_in rfl ?_
  cases hs:isS w with
  | false =>
    refine ss_ift (ev_stop (k:=false) (ev_not (ev_isS h (ev_loc rfl)) (by rw [hs]))) (ss_ret ev_bool ?_)
    have:nmB w = false:=by cases w <;> first | rfl | cases hs
    rw [← this];exact q _ (Kp.refl _ _)
  | true =>
    cases h with
    | str p hp =>
      have hp':p.length≤sizeLine:=Nat.le_trans hp (by decide)
      refine ss_if (b:=!(decide (1≤(p.length:Int)) && decide ((p.length:Int)≤8))) (ev_go (ev_not (ev_isi (ev_loc rfl) rfl) rfl) (ev_one (ev_not (ev_between ev_int (ev_lens (ev_loc rfl) hp') (ev_glob F.most)) rfl))) (fun hb=>?_) fun hb=>ss_sq ?_
      · refine ss_ret ev_bool ?_
        have q:=q _ (Kp.refl _ _)
        have:nmB (.str p 0) = false:=by show goodB p = false;unfold goodB;rw [not_t hb];rfl
        rw [this] at q;exact q
      · refine ss_retW (w_signs (ev_loc rfl) hp (fun l c=>ev_glob F.letters) fun H' k'=>?_)
        have q:=q H' k'
        have hb:=not_f hb
        have:nmB (.str p 0) = p.cps.toList.all fun c=>Txt.contains LET (chr1 c):=by show goodB p = _;unfold goodB;rw [hb,Bool.true_and]
        rw [this] at q;exact q
    | _=>cases hs
theorem w_allNm {xn:Str} (F:EnvS G A) (C:C_isn G A) {src:Ex} {ad:Addr} {xs:List Value} (he:Ev G false src l H (.ref ad)) (ha:H ad = some (.list xs)) (hz:xs.length≤2000) (ht:∀ v∈xs,Thing H v) (q:∀ H',Kp [] H H'→Q (.bool (xs.all nmB)) H') :
    wpE G false (.bf .all [.comp (.call (.glob "is_name") [.loc xn]) xn src []]) l H Q X:=by
  refine w_bfW (wl_cons (w_compI (fun r acc H'=>Kp [] H H'∧∃ done,xs = done++r∧acc = done.map fun v=>Value.bool (nmB v)) he ha rfl (Nat.le_trans hz (by decide)) (fun r acc H' h=>Kp.at0 h.1 ha) ?_ ⟨Kp.refl _ _,[],rfl,rfl⟩ ?_))
  · rintro w r acc H' ⟨k,done,hd,rfl⟩ K hK
    refine w_call (by mem_news) (by nest_cls) (evl_cons (ev_loc (v:=w) (by unfold ca;simp [Loc.upd])) evl_nil) (C ((ht w (by rw [hd];exact List.mem_append_right _ (.head _))).kp k) fun H2 k2=>hK _ _ ⟨k.trans k2,done++[w],by rw [hd,List.append_assoc];rfl,by rw [List.map_append];rfl⟩)
  · rintro acc H' ⟨k,done,hd,rfl⟩ d hdn
    rw [List.append_nil] at hd
    subst hd
    refine wl_nil ⟨.inr (.inl rfl), ?_⟩
    have k1:=k.trans (kp_new (M:=[]) hdn (.list (xs.map fun v=>Value.bool (nmB v))))
    have e1:=Hp.upd_same H' d (.list (xs.map fun v=>Value.bool (nmB v)))
    generalize H'.upd d (.list (xs.map fun v=>Value.bool (nmB v))) = H1 at k1 e1 ⊢
    conv=>whnf
    rw [e1]
    refine ⟨xs.map nmB,by rw [List.map_map];rfl, ?_⟩
    rw [List.all_map]
    exact q _ k1
inductive BadP (H:Hp):Value→Prop where
  | str (x:Str):BadP H (.str x 0)
  | none:BadP H .none
  | ref {a:Addr} {o:AObj}:H a = some o→isiObj .listOrTuple o = some false→BadP H (.ref a)
  | long {a:Addr} {xs:List Value}:H a = some (.list xs)→8 < xs.length→BadP H (.ref a)
  | bad {a:Addr} {xs:List Value}:H a = some (.list xs)→xs.length≤8→(∀ v∈xs,Thing H v)→xs.all nmB = false→BadP H (.ref a)
theorem BadP.kp {w:Value} (h:BadP H w) (k:Kp [] H H'):BadP H' w:=by
  cases h with
  | str x=>exact .str x
  | none=>exact .none
  | ref h i=>exact .ref (Kp.at0 k h) i
  | long h i=>exact .long (Kp.at0 k h) i
  | bad h i t n=>exact .bad (Kp.at0 k h) i (fun v hv=>(t v hv).kp k) n
noncomputable def C_chkX (G:Gx) (A:Ad):Prop:=∀ ⦃H:Hp⦄ ⦃w:Value⦄,BadP H w→Rz G A "checked" "" [w] H "BadPath"
theorem chkX_ok (F:EnvS G A) (N:C_isn G A) {w:Value} (h:BadP H w) (q:∀ H',Kp [] H H'→X (A "BadPath" "") H'):wpF G false ["path"] b_checked [w] H Q X:=by
  refine f_in rfl ?_
  have no:Ev G false (.isi (.loc "path") .listOrTuple) (fun x=>((["path"]:List Str).zip [w]).lookup x) H (.bool false)→wpSs G false b_checked (fun x=>((["path"]:List Str).zip [w]).lookup x) H (fq Q) (fx X):=fun he =>
    ss_ift (ev_stop (k:=false) (ev_not he rfl)) (ss_raise rfl (by nest_cls) (by nest_cls) (q _ (Kp.refl _ _)))
  cases h with
  | str x=>exact no (ev_isi (ev_loc rfl) rfl)
  | none=>exact no (ev_isi (ev_loc rfl) rfl)
  | ref h i=>exact no (ev_isir (ev_loc rfl) h i)
  | @long ad xs h i =>
    exact ss_ift (ev_go (ev_not (ev_isir (ev_loc rfl) h rfl) rfl) (ev_one (ev_gt (ev_len (ev_loc rfl) h rfl) (by mem_news) (decide_eq_true (Int.ofNat_lt.2 i))))) (ss_raise rfl (by nest_cls) (by nest_cls) (q _ (Kp.refl _ _)))
  | @bad ad xs h i t n =>
    refine ss_iff0 (ev_go (ev_not (ev_isir (ev_loc rfl) h rfl) rfl) (ev_one (ev_gt (ev_len (ev_loc rfl) h rfl) (by mem_news) (decide_eq_false (Int.not_lt.2 (Int.ofNat_le.2 i)))))) ?_
    refine ss_ifW (w_notN (w_allNm F N (ev_loc rfl) h (Nat.le_trans i (by decide)) t fun H1 k1=>?_))
    rw [n]
    exact nv_f (tv_t (ss_raise rfl (by nest_cls) (by nest_cls) (q _ k1)))
noncomputable def BadW (H:Hp) (w:Value):Prop:=BadP H w∨∃ a,w = .ref a∧PathAt H a []
noncomputable def C_nwX (G:Gx) (A:Ad):Prop:=∀ ⦃H:Hp⦄ ⦃w:Value⦄,BadW H w→Rz G A "need_way" "" [w] H "BadPath"
theorem nwX_ok (F:EnvS G A) (C:C_checked G A) (N:C_chkX G A) {w:Value} (h:BadW H w) (q:∀ H',Kp [] H H'→X (A "BadPath" "") H'):wpF G false ["path"] b_need_way [w] H Q X:=by
  refine f_in rfl ?_
  rcases h with h | ⟨a,rfl,h⟩
  · exact ss_asgW (w_call (by mem_news) (by nest_cls) (evl_cons (ev_loc rfl) evl_nil) (N h fun H' k=>q H' k))
  · refine ss_asgW (w_call (by mem_news) (by nest_cls) (evl_cons (ev_loc rfl) evl_nil) (C h fun b H1 k1 hb hn=>?_))
    refine ss_ifW (w_cmpW (w_ev (v:=.ref b) (by mem_news) (w_list evl_nil (Nat.le_of_ble_eq_true rfl) fun e1 he1=>?_)))
    have k2:Kp [] H1 (H1.upd e1 (.list [])):=kp_new he1 _
    exact ⟨.list [], .list [], .list (k2.list hb) .nil, .list (Hp.upd_same _ _ _) .nil,rfl,rfl,tv_t (ss_raise rfl (by nest_cls) (by nest_cls) (q _ (k1.trans k2)))⟩
inductive NInt (H:Hp):Value→Prop where
  | bool (b:Bool):NInt H (.bool b)
  | none:NInt H .none
  | str (x:Str):NInt H (.str x 0)
  | ref {a:Addr} {o:AObj}:H a = some o→isiObj .bool o = some false→isiObj .int o = some false→NInt H (.ref a)
theorem NInt.kp {w:Value} (h:NInt H w) (k:Kp [] H H'):NInt H' w:=by
  cases h with
  | bool b=>exact .bool b
  | none=>exact .none
  | str x=>exact .str x
  | ref h i j=>exact .ref (Kp.at0 k h) i j
theorem ev_nint {w:Value} (h:NInt H w) (he:Ev G hm x l H w) {r:List Ex}:Ev G hm (.bop false (.isi x .bool :: .not (.isi x .int) :: r)) l H (.bool true):=by
  have two:∀ {e:Ex},Ev G hm e l H (.bool true)→Ev G hm (.bop false (e :: r)) l H (.bool true):=fun h=>ev_stop (k:=false) h
  cases h with
  | bool b=>exact ev_stop (k:=false) (ev_isi he rfl)
  | none=>exact ev_go (ev_isi he rfl) (two (ev_not (ev_isi he rfl) rfl))
  | str x=>exact ev_go (ev_isi he rfl) (two (ev_not (ev_isi he rfl) rfl))
  | ref h i j=>exact ev_go (ev_isir he h i) (two (ev_not (ev_isir he h j) rfl))
noncomputable def BadM (H:Hp) (w:Value):Prop:=NInt H w∨∃ i,w = .int i 0∧(i≤-(10 ^ 30)∨10 ^ 30≤i)
theorem BadM.kp {w:Value} (h:BadM H w) (k:Kp [] H H'):BadM H' w:=h.imp (fun h=>h.kp k) id
noncomputable def C_nnX (G:Gx) (A:Ad):Prop:=∀ ⦃H:Hp⦄ ⦃w:Value⦄,BadM H w→Rz G A "need_number" "" [w] H "BadNumber"
theorem ev_far (hx:Ev G hm x l H (.int a t)) (hy:Ev G hm y l H (.int b u)) (hz:Ev G hm z l H (.int c v)):Ev G hm (.cmp2 x .Lt y .Lt z) l H (.bool (decide (a < b) && decide (b < c))):=by
  cases h1:decide (a < b) with
  | true=>exact ev_cmp2 hx hy (cmp_lt h1) hz fun Q q=>q
  | false =>
    refine .mk fun Q X q=>hx.run (fun a H1=>wpE G hm y l H1 (fun b H2=>cmpV .Lt a b H2 fun c H3=>truthV c fun r =>
      if r then wpE G hm z l H3 (fun d H4=>cmpV .Lt b d H4 Q) X else Q (.bool false) H3) X) X (hy.run (fun b H2=>cmpV .Lt (.int a t) b H2 fun c H3=>truthV c fun r =>
      if r then wpE G hm z l H3 (fun d H4=>cmpV .Lt b d H4 Q) X else Q (.bool false) H3) X ?_)
    have hq:∀ Q:QV,Q (.bool false) H→cmpV .Lt (.int a t) (.int b u) H Q:=fun Q q=>by
      show Q (.bool (decide (a < b))) H
      rw [h1];exact q
    exact hq _ q
theorem nnX_ok (F:EnvS G A) {w:Value} (h:BadM H w) (q:∀ H',Kp [] H H'→X (A "BadNumber" "") H'):wpF G false ["number"] b_need_number [w] H Q X:=by
  refine f_in rfl ?_
  rcases h with h | ⟨i,rfl,h⟩
  · exact ss_ift (ev_nint h (ev_loc rfl)) (ss_raise rfl (by nest_cls) (by nest_cls) (q _ (Kp.refl _ _)))
  · have e:(decide (-(10 ^ 30) < i) && decide (i < 10 ^ 30)) = false:=by
      rcases h with h | h
      · rw [decide_eq_false (Int.not_lt.2 h)];rfl
      · rw [decide_eq_false (p:=i < 10 ^ 30) (Int.not_lt.2 h),Bool.and_false]
    exact ss_ift (ev_go (by mem_news) (ev_go (by mem_news) (ev_one (ev_not (ev_far (ev_neg (by mem_news)) (ev_loc rfl) (by mem_news)) (by rw [e];rfl))))) (ss_raise rfl (by nest_cls) (by nest_cls) (q _ (Kp.refl _ _)))
variable {σ:SA} {s:Sto}
noncomputable def BadV (s:Sto) (H:Hp) (w:Value):Prop:=(NInt H w∧w≠.none)∨∃ i,w = .int i 0∧get s.shots i = none
theorem BadV.kp {w:Value} (h:BadV s H w) (k:Kp [] H H'):BadV s H' w:=h.imp (fun h=>⟨h.1.kp k,h.2⟩) id
noncomputable def C_topX (G:Gx) (A:Ad):Prop:=∀ ⦃H:Hp⦄ ⦃σ:SA⦄ ⦃s:Sto⦄,StoreR A H σ s→∀ ⦃w:Value⦄,BadV s H w→Rz G A "Store" "top" [.ref σ.sx,w] H "NoShot"
theorem topX_ok (F:EnvS G A) (h:StoreR A H σ s) {w:Value} (hw:BadV s H w) (q:∀ H',Kp [] H H'→X (A "NoShot" "") H'):wpF G false ["self", "view"] b_Store_top [.ref σ.sx,w] H Q X:=by
  refine f_in rfl ?_
  rcases hw with ⟨hw,hn⟩ | ⟨i,rfl,hw⟩
  · refine ss_iff0 (ev_is (b:=false) (ev_loc (v:=w) rfl) (by cases hw <;> first | rfl | exact absurd rfl hn)) ?_
    exact ss_ift (ev_nint hw (ev_loc rfl)) (ss_raise rfl (by nest_cls) (by nest_cls) (q _ (Kp.refl _ _)))
  · refine ss_iff0 (by mem_news) ?_
    exact ss_ift (ev_go (by mem_news) (ev_go (by mem_news) (ev_one (ev_notin (by mem_news) (by mem_news) h.st (by rw [St.ints_get,hw];rfl))))) (ss_raise rfl (by nest_cls) (by nest_cls) (q _ (Kp.refl _ _)))
noncomputable def C_shotX (G:Gx) (A:Ad):Prop:=∀ ⦃H:Hp⦄ ⦃σ:SA⦄ ⦃s:Sto⦄,StoreR A H σ s→∀ ⦃w:Value⦄,BadV s H w∨w = .none→Rz G A "Store" "shot" [.ref σ.sx,w] H "NoShot"
theorem shotX_ok (F:EnvS G A) (T:C_topX G A) (h:StoreR A H σ s) {w:Value} (hw:BadV s H w∨w = .none) (q:∀ H',Kp [] H H'→X (A "NoShot" "") H'):wpF G false ["self", "number"] b_Store_shot [.ref σ.sx,w] H Q X:=by
  refine f_in rfl ?_
  rcases hw with hw | rfl
  · refine ss_iff0 (ev_is (b:=false) (ev_loc (v:=w) rfl) ?_) (ss_retW (w_meth (by mem_news) h.i h.n (by nest_cls) (by rfl) (evl_cons (ev_loc rfl) evl_nil) (T h hw fun H' k=>q H' k)))
    rcases hw with ⟨hw,hn⟩ | ⟨i,rfl,hw⟩
    · cases hw <;> first | rfl | exact absurd rfl hn
    · rfl
  · exact ss_ift (by mem_news) (ss_raise rfl (by nest_cls) (by nest_cls) (q _ (Kp.refl _ _)))
noncomputable def C_drX (G:Gx) (A:Ad) (m:Str):Prop:=∀ ⦃H:Hp⦄ ⦃σ:SA⦄ ⦃s:Sto⦄,StoreR A H σ s→∀ ⦃w:Value⦄,BadV s H w∨w = .none→Rz G A "Store" m [.ref σ.sx,w] H "NoShot"
theorem dropX_ok (F:EnvS G A) (T:C_shotX G A) (h:StoreR A H σ s) {w:Value} (hw:BadV s H w∨w = .none) (q:∀ H',Kp [] H H'→X (A "NoShot" "") H'):wpF G false ["self", "shot"] b_Store_drop [.ref σ.sx,w] H Q X :=
  f_in rfl (ss_asgW (w_meth (by mem_news) h.i h.n (by nest_cls) (by rfl) (evl_cons (ev_loc rfl) evl_nil) (T h hw fun H' k=>q H' k)))
theorem backX_ok (F:EnvS G A) (T:C_shotX G A) (h:StoreR A H σ s) {w:Value} (hw:BadV s H w∨w = .none) (q:∀ H',Kp [] H H'→X (A "NoShot" "") H'):wpF G false ["self", "shot"] b_Store_back [.ref σ.sx,w] H Q X :=
  f_in rfl (ss_retW (w_methW (by mem_news) h.i h.n (by nest_cls) (by rfl) (wl_cons (w_meth (by mem_news) h.i h.n (by nest_cls) (by rfl) (evl_cons (ev_loc rfl) evl_nil) (T h hw fun H' k=>q H' k)))))
inductive RdX (s:Sto) (H:Hp):Value→Value→Str→Prop where
  | view {v p:Value}:BadV s H v→RdX s H v p "NoShot"
  | path {v p:Value} {b:Int}:viewB s v = some b→BadP H p→RdX s H v p "BadPath"
noncomputable def C_rdX (G:Gx) (A:Ad) (m:Str):Prop:=∀ ⦃H:Hp⦄ ⦃σ:SA⦄ ⦃s:Sto⦄,StoreR A H σ s→∀ ⦃v p:Value⦄ ⦃e:Str⦄,RdX s H v p e→Rz G A "Store" m [.ref σ.sx,v,p] H e
theorem kindX_ok (F:EnvS G A) (T:C_top G A) (TX:C_topX G A) (N:C_chkX G A) (h:StoreR A H σ s) {v p:Value} {e:Str} (hr:RdX s H v p e) (q:∀ H',Kp [] H H'→X (A e "") H'):wpF G false ["self", "view", "path"] b_Store_kind [.ref σ.sx,v,p] H Q X:=by
  refine f_in rfl ?_
  cases hr with
  | view hv=>exact ss_asgW (w_methW (by mem_news) h.i h.n (by nest_cls) (by rfl) (wl_cons (w_meth (by mem_news) h.i h.n (by nest_cls) (by rfl) (evl_cons (ev_loc rfl) evl_nil) (TX h hv fun H' k=>q H' k))))
  | path hv hp=>exact ss_asgW (w_methW (by mem_news) h.i h.n (by nest_cls) (by rfl) (wl_cons (w_meth (by mem_news) h.i h.n (by nest_cls) (by rfl) (evl_cons (ev_loc rfl) evl_nil) (T h hv (wl_cons (w_call (by mem_news) (by nest_cls) (evl_cons (ev_loc rfl) evl_nil) (N hp fun H' k=>q H' k)))))))
theorem valueX_ok (F:EnvS G A) (K:C_rdX G A "kind") (h:StoreR A H σ s) {v p:Value} {e:Str} (hr:RdX s H v p e) (q:∀ H',Kp [] H H'→X (A e "") H'):wpF G false ["self", "view", "path"] b_Store_value [.ref σ.sx,v,p] H Q X :=
  f_in rfl (ss_asgW (w_meth (by mem_news) h.i h.n (by nest_cls) (by rfl) (evl_cons (ev_loc rfl) (evl_cons (ev_loc rfl) evl_nil)) (K h hr fun H' k=>q H' k)))
theorem namesX_ok (F:EnvS G A) (K:C_rdX G A "kind") (h:StoreR A H σ s) {v p:Value} {e:Str} (hr:RdX s H v p e) (q:∀ H',Kp [] H H'→X (A e "") H'):wpF G false ["self", "view", "path"] b_Store_names [.ref σ.sx,v,p] H Q X :=
  f_in rfl (ss_asgW (w_meth (by mem_news) h.i h.n (by nest_cls) (by rfl) (evl_cons (ev_loc rfl) (evl_cons (ev_loc rfl) evl_nil)) (K h hr fun H' k=>q H' k)))
inductive PuX (H:Hp):Value→Value→Str→Prop where
  | path {p n:Value}:BadW H p→PuX H p n "BadPath"
  | num {a:Addr} {xs:List Str} {n:Value}:PathAt H a xs→xs≠[]→BadM H n→PuX H (.ref a) n "BadNumber"
noncomputable def C_putX (G:Gx) (A:Ad):Prop:=∀ ⦃H:Hp⦄ ⦃sx:Addr⦄ ⦃p n:Value⦄ ⦃e:Str⦄,PuX H p n e→Rz G A "Store" "put" [.ref sx,p,n] H e
theorem putX_ok (F:EnvS G A) (W:C_need_way G A) (WX:C_nwX G A) (NX:C_nnX G A) {sx:Addr} {p n:Value} {e:Str} (hp:PuX H p n e) (q:∀ H',Kp [] H H'→X (A e "") H'):wpF G false ["self", "path", "number"] b_Store_put [.ref sx,p,n] H Q X:=by
  refine f_in rfl ?_
  cases hp with
  | path h=>exact ss_asgW (w_call (by mem_news) (by nest_cls) (evl_cons (ev_loc rfl) evl_nil) (WX h fun H' k=>q H' k))
  | num h hn hm =>
    refine ss_asgW (w_call (by mem_news) (by nest_cls) (evl_cons (ev_loc rfl) evl_nil) (W h hn fun b H1 k1 hb hn=>?_))
    exact ss_exprW (w_call (by mem_news) (by nest_cls) (evl_cons (ev_loc rfl) evl_nil) (NX (hm.kp k1) fun H' k=>q H' (k1.trans k)))
noncomputable def C_cutX (G:Gx) (A:Ad):Prop:=∀ ⦃H:Hp⦄ ⦃sx:Addr⦄ ⦃p:Value⦄,BadW H p→Rz G A "Store" "cut" [.ref sx,p] H "BadPath"
theorem cutX_ok (F:EnvS G A) (WX:C_nwX G A) {sx:Addr} {p:Value} (hp:BadW H p) (q:∀ H',Kp [] H H'→X (A "BadPath" "") H'):wpF G false ["self", "path"] b_Store_cut [.ref sx,p] H Q X :=
  f_in rfl (ss_asgW (w_call (by mem_news) (by nest_cls) (evl_cons (ev_loc rfl) evl_nil) (WX hp fun H' k=>q H' k)))
end
end Mine.L5
end

section
open PySem PyProof.Rows
namespace Mine.L5
open Mine Mine.St Mine.Lw
section
variable {A:Ad} {G:Gx} {H H':Hp} {Q:QV} {X:XV} {l:Loc} {hm:Bool} {x y z:Ex} {σ:SA} {s:Sto}
noncomputable def chC:Ex:=.cmp (.loc "waiting") .NotEq (.list [])
noncomputable def chB:List Sm:=(match b_Store_changes with
  | [_,_,_, .while_ _ b,_]=>b
  | _=>[])
noncomputable def ch0:Sm:=.ite (.cmp (.idx (.loc "place") (.int 1)) .Eq (.idx (.loc "place") (.int 2))) [.cont] []
theorem ne_one {w a e:Addr} {i j:Int} (hw:H w = some (.list [.ref a])) (ha:H a = some (.tup [.ref e, .int i 0, .int j 0])) (he:H e = some (.list [])) {c:Addr} (hc:H c = some (.list [])) (q:Q (.bool true) H):cmpV .NotEq (.ref w) (.ref c) H Q :=
  ⟨.list [.tuple [.list [], .int i, .int j]], .list [], .list hw (.cons (.tup ha (.cons (.list he .nil) (.cons (.int i 0) (.cons (.int j 0) .nil)))) .nil), .list hc .nil,rfl,rfl,q⟩
theorem ne_nil {w c:Addr} (hw:H w = some (.list [])) (hc:H c = some (.list [])) (q:Q (.bool false) H):cmpV .NotEq (.ref w) (.ref c) H Q :=
  ⟨.list [], .list [], .list hw .nil, .list hc .nil,rfl,rfl,q⟩
theorem sq_cont {r:List Sm} {Q:QS} {X:XS} (q:Q .cont l H):sq G hm r Q X .cont l H:=q
noncomputable def C_chg (G:Gx) (A:Ad):Prop:=∀ ⦃H:Hp⦄ ⦃σ:SA⦄ ⦃s:Sto⦄,StoreR A H σ s→∀ ⦃v w:Value⦄ ⦃b:Int⦄,viewB s v = some b→viewB s w = some b→(∃ T,H T = some .tab)→∀ ⦃Q:QV⦄ ⦃X:XV⦄,(∀ r H',Kp [] H H'→Q r H')→G.fn (A "Store" "changes") false [.ref σ.sx,v,w] H Q X
theorem chg_ok (F:EnvS G A) (T:C_top G A) (h:StoreR A H σ s) {v w:Value} {b:Int} (hv:viewB s v = some b) (hw:viewB s w = some b) {tb:Addr} (ht:H tb = some .tab) (q:∀ r H',Kp [] H H'→Q r H'):wpF G false ["self", "one", "other"] b_Store_changes [.ref σ.sx,v,w] H Q X:=by
  refine f_in rfl ?_
  refine ss_asgW (w_listW (wl_cons (w_tupW (wl_cons (w_list evl_nil (Nat.le_of_ble_eq_true rfl) fun e0 he0=>?_)))))
  have k1:=kp_new (M:=[]) he0 (.list [])
  have f0:=Hp.upd_same H e0 (.list [])
  generalize H.upd e0 (.list []) = H1 at k1 f0 ⊢
  have h1:=h.kp0 k1
  refine wl_cons (w_meth (by mem_news) h1.i h1.n (by nest_cls) (by rfl) (evl_cons (ev_loc rfl) evl_nil) (T h1 hv (wl_cons (w_meth (by mem_news) h1.i h1.n (by nest_cls) (by rfl) (evl_cons (ev_loc rfl) evl_nil) (T h1 hw (wl_nil ⟨Nat.le_of_ble_eq_true rfl,fun tp htp=>?_⟩))))))
  have k2:=kp_new (M:=[]) htp (.tup [.ref e0, .int b 0, .int b 0])
  have f1:=Hp.upd_same H1 tp (.tup [.ref e0, .int b 0, .int b 0])
  generalize H1.upd tp (.tup [.ref e0, .int b 0, .int b 0]) = H2 at k2 f1 ⊢
  have f0:=k2.list f0
  refine wl_nil ⟨Nat.le_of_ble_eq_true rfl,fun wl hwl=>?_⟩
  have k3:=kp_new (M:=[]) hwl (.list [.ref tp])
  have f2:=Hp.upd_same H2 wl (.list [.ref tp])
  generalize H2.upd wl (.list [.ref tp]) = H3 at k3 f2 ⊢
  have f0:=k3.list f0
  have f1:=k3.tup f1
  refine ss_asgW (w_list evl_nil (Nat.le_of_ble_eq_true rfl) fun fl hfl=>?_)
  have k4:=kp_new (M:=[]) hfl (.list [])
  have f3:=Hp.upd_same H3 fl (.list [])
  generalize H3.upd fl (.list []) = H4 at k4 f3 ⊢
  have f0:=k4.list f0
  have f1:=k4.tup f1
  have f2:=k4.list f2
  have n1:H wl = none:=Kp.none0 (k1.trans k2) hwl
  have n2:H fl = none:=Kp.none0 ((k1.trans k2).trans k3) hfl
  have n3:wl≠fl:=fun z=>by rw [z] at f2;rw [f2] at f3;cases f3
  have kk:=((k1.trans k2).trans k3).trans k4
  refine ss_asg ev_int ?_
  refine ss_while 2 ?_
  show wpE G false chC _ H4 _ _
  refine w_cmpW (w_ev (v:=.ref wl) (ev_loc rfl) (w_list evl_nil (Nat.le_of_ble_eq_true rfl) fun e5 he5=>?_))
  have k5:=kp_new (M:=[]) he5 (.list [])
  have f5:=Hp.upd_same H4 e5 (.list [])
  generalize H4.upd e5 (.list []) = H5 at k5 f5 ⊢
  refine ne_one (k5.list f2) (k5.tup f1) (k5.list f0) f5 (tv_t ?_)
  refine ss_asgW (w_pop (ev_loc rfl) (k5.list f2) (Nat.le_of_ble_eq_true rfl) rfl ?_)
  have k6:∀ a o,H a = some o→(H5.upd wl (.list [])) a = some o:=fun a o e=>by
    rw [Hp.upd_ne _ _ fun z=>by rw [z,n1] at e;cases e]
    exact Kp.at0 (kk.trans k5) e
  have k6:Kp [] H (H5.upd wl (.list [])):=fun a o e _=>k6 a o e
  have ne:tp≠wl:=fun z=>by rw [z] at f1;rw [f1] at f2;cases f2
  have g1:(H5.upd wl (.list [])) tp = some (.tup [.ref e0, .int b 0, .int b 0]):=(Hp.upd_ne _ _ ne).trans (k5.tup f1)
  have g2:=Hp.upd_same H5 wl (.list [])
  have g3:(H5.upd wl (.list [])) fl = some (.list []):=(Hp.upd_ne _ _ n3.symm).trans (k5.list f3)
  have g4:=Kp.at0 k6 ht
  show wpSs G false (ch0 :: _) _ (H5.upd wl (.list [])) _ _
  generalize H5.upd wl (.list []) = H6 at k6 g1 g2 g3 g4 ⊢
  refine ss_ift (ev_eq (ev_at (ev_loc rfl) ev_int g1 rfl rfl) (ev_at (ev_loc rfl) ev_int g1 rfl rfl) (decide_eq_true rfl)) ?_
  refine ss_cont (sq_cont ?_)
  show wpE G false chC _ H6 _ _
  refine w_cmpW (w_ev (v:=.ref wl) (ev_loc rfl) (w_list evl_nil (Nat.le_of_ble_eq_true rfl) fun e7 he7=>?_))
  have k7:=kp_new (M:=[]) he7 (.list [])
  have f7:=Hp.upd_same H6 e7 (.list [])
  generalize H6.upd e7 (.list []) = H7 at k7 f7 ⊢
  refine ne_nil (k7.list g2) f7 (tv_f ?_)
  refine sq_next (ss_retW (w_tupW (wl_cons (w_bfW (wl_cons (w_ev (v:=.ref fl) (ev_loc rfl) (wl_nil ⟨.inr (.inl rfl), ?_⟩)))))))
  conv=>whnf
  rw [k7.list g3]
  refine ⟨rfl,⟨tb,Kp.at0 k7 g4⟩,fun c8 hc8=>?_⟩
  refine wl_cons (w_ev (v:=.int 0 0) (ev_loc rfl) (wl_nil ⟨Nat.le_of_ble_eq_true rfl,fun c9 hc9=>?_⟩))
  exact q _ _ (((k6.trans k7).trans (kp_new hc8 _)).trans (kp_new hc9 _))
inductive ChX (s:Sto) (H:Hp):Value→Value→Prop where
  | one {v w:Value}:BadV s H v→ChX s H v w
  | two {v w:Value} {b:Int}:viewB s v = some b→BadV s H w→ChX s H v w
noncomputable def C_chgX (G:Gx) (A:Ad):Prop:=∀ ⦃H:Hp⦄ ⦃σ:SA⦄ ⦃s:Sto⦄,StoreR A H σ s→∀ ⦃v w:Value⦄,ChX s H v w→Rz G A "Store" "changes" [.ref σ.sx,v,w] H "NoShot"
theorem chgX_ok (F:EnvS G A) (T:C_top G A) (TX:C_topX G A) (h:StoreR A H σ s) {v w:Value} (hx:ChX s H v w) (q:∀ H',Kp [] H H'→X (A "NoShot" "") H'):wpF G false ["self", "one", "other"] b_Store_changes [.ref σ.sx,v,w] H Q X:=by
  refine f_in rfl ?_
  refine ss_asgW (w_listW (wl_cons (w_tupW (wl_cons (w_list evl_nil (Nat.le_of_ble_eq_true rfl) fun e0 he0=>?_)))))
  have k1:=kp_new (M:=[]) he0 (.list [])
  generalize H.upd e0 (.list []) = H1 at k1 ⊢
  have h1:=h.kp0 k1
  cases hx with
  | one hv=>exact wl_cons (w_meth (by mem_news) h1.i h1.n (by nest_cls) (by rfl) (evl_cons (ev_loc rfl) evl_nil) (TX h1 (hv.kp k1) fun H' k=>q H' (k1.trans k)))
  | two hv hw=>exact wl_cons (w_meth (by mem_news) h1.i h1.n (by nest_cls) (by rfl) (evl_cons (ev_loc rfl) evl_nil) (T h1 hv (wl_cons (w_meth (by mem_news) h1.i h1.n (by nest_cls) (by rfl) (evl_cons (ev_loc rfl) evl_nil) (TX h1 (hw.kp k1) fun H' k=>q H' (k1.trans k))))))
end
end Mine.L5
end

section
open PySem PyProof.Rows
namespace Mine.L5
open Mine Mine.St Mine.Lw
section
variable {A:Ad} {G:Gx} {H H':Hp} {Q:QV} {X:XV} {l:Loc} {hm:Bool} {x y z:Ex} {σ:SA} {s:Sto}
noncomputable def vI (ns:List Int):List Value:=ns.map fun n=>Value.int n 0
theorem at_ns {ns:List Int} {k:Nat} (h:k < ns.length):at? (vI ns) (k:Int) = some (.int (ns.getD k 0) 0):=by
  unfold at? vI
  rw [if_pos (Int.natCast_nonneg k),Int.toNat_natCast,List.getElem?_map,List.getD_eq_getElem?_getD,List.getElem?_eq_getElem h];rfl
noncomputable def C_cell (G:Gx) (A:Ad):Prop:=∀ ⦃H:Hp⦄ ⦃a:Addr⦄ ⦃ns:List Int⦄,H a = some (.rlist (vI ns))→∀ ⦃k:Nat⦄ ⦃t:Tok⦄ ⦃Q:QV⦄ ⦃X:XV⦄,Q (.int (ns.getD k 0) 0) H→G.fn (A "_law_cell_at" "") false [.ref a, .int (k:Int) t] H Q X
theorem cell_ok {a:Addr} {ns:List Int} (ha:H a = some (.rlist (vI ns))) {k:Nat} {t:Tok} (q:Q (.int (ns.getD k 0) 0) H):wpF G false ["_law_script", "_law_k"] b__law_cell_at [.ref a, .int (k:Int) t] H Q X:=by
  refine f_in rfl ?_
  refine ss_if (b:=decide ((k:Int) < (vI ns).length)) (ev_lt (ev_loc rfl) (ev_len (ev_loc rfl) ha rfl) rfl) (fun hb=>?_) fun hb=>ss_sq ?_
  · have hk:k < ns.length:=by have:=of_decide_eq_true hb;rw [vI,List.length_map] at this;exact Int.ofNat_lt.1 this
    exact ss_ret (ev_at (ev_loc rfl) (ev_loc rfl) ha rfl (at_ns hk)) q
  · have hk:ns.length≤k:=by have:=of_decide_eq_false hb;rw [vI,List.length_map] at this;exact Int.ofNat_le.1 (Int.not_lt.1 this)
    rw [List.getD_eq_getElem?_getD,List.getElem?_eq_none hk] at q
    exact ss_ret ev_int q
theorem ev_cell (LE:LEnv G A FS) (C:C_cell G A) {a:Addr} {ns:List Int} (ha:H a = some (.rlist (vI ns))) {x e:Ex} {k:Nat} {t:Tok} (hx:Ev G false x l H (.ref a)) (he:Ev G false e l H (.int (k:Int) t)):Ev G false (.call (.glob "_law_cell_at") [x,e]) l H (.int (ns.getD k 0) 0) :=
  .mk fun Q X q=>w_call (by mem_news) (by nest_cls) (evl_cons hx (evl_cons he evl_nil)) (C ha q)
structure Wd (w:Str):Prop where
  hi:w.cps.toList.length≤7
  cs:∀ c∈w.cps.toList,97≤c∧c≤122
noncomputable def wls (c:Int) (n:Nat):List Nat:=(List.range n).map fun (j:Nat)=>97 + ((c / 8 + (j:Int) * (1 + c / 208 % 25)) % 26).toNat
theorem wls_len (c:Int) (n:Nat):(wls c n).length = n:=by unfold wls;rw [List.length_map,List.length_range]
noncomputable def wlV (c:Int):Value→Value
  | .int i _=>.str (chr1 (97 + ((c / 8 + i * (1 + c / 208 % 25)) % 26).toNat)) 0
  | v=>v
theorem wls_map (c:Int) (n:Nat):(((List.range n).map fun (i:Nat)=>Value.int (i:Int) 0).filter fun _=>true).map (wlV c) = ((wls c n).map chr1).map fun x=>Value.str x 0:=by
  unfold wls
  rw [List.filter_eq_self.2 fun _ _=>rfl,List.map_map,List.map_map,List.map_map];rfl
noncomputable def C_word (G:Gx) (A:Ad):Prop:=∀ ⦃H:Hp⦄ ⦃c:Int⦄ ⦃t:Tok⦄ ⦃Q:QV⦄ ⦃X:XV⦄,(∀ w H',Wd w→Kp [] H H'→Q (.str w 0) H')→G.fn (A "_law_word_by" "") false [.int c t] H Q X
theorem word_ok {c:Int} {t:Tok} (q:∀ w H',Wd w→Kp [] H H'→Q (.str w 0) H'):wpF G false ["_law_cell"] b__law_word_by [.int c t] H Q X:=by
  have m8:=mod_lt c (b:=8) (by decide)
  obtain ⟨n,hn⟩:=Int.eq_ofNat_of_zero_le m8.1
  have hn:c % 8 = (n:Int):=hn
  have n7:n≤7:=Nat.le_of_lt_succ (Int.ofNat_lt.1 (hn ▸ m8.2))
  have n100:n≤100:=Nat.le_trans n7 (by decide)
  refine f_in rfl (ss_asg ev_str ?_)
  refine ss_retW (w_joinW ev_str (w_compr (fun _=>true) (wlV c) (k:=n) (t:=0) (ev_cast (ev_mod (ev_loc rfl) ev_int (by decide)) (by rw [hn])) (line100 n100) (fun i hi H1 _=>ev_all0) (fun i hi H1 _ _=>?_) fun r b hr hb hne=>?_))
  · exact ev_chr (ev_loc rfl) (ev_mod (ev_add (ev_div (ev_loc rfl) ev_int (by decide) (by decide)) (ev_mul (ev_loc rfl) (ev_add ev_int (ev_mod (ev_div (ev_loc rfl) ev_int (by decide) (by decide)) ev_int (by decide))) (.inl (Nat.lt_of_lt_of_le hi (Nat.le_trans n100 (by decide)))))) ev_int (by decide)) (letAt _) (by decide +kernel)
  · rw [wls_map]
    have k1:Kp [] H (H.upd r (.range 0 n 1)):=kp_new hr _
    have k2:=k1.trans (kp_new (M:=[]) (c:=b) (by rw [Hp.upd_ne _ _ hne];exact hb) (.list (((wls c n).map chr1).map fun x=>Value.str x 0)))
    refine join_at (Hp.upd_same _ _ _) (strs_chars _) (join_ok (by rw [wls_len];exact n100)) (q _ _ ⟨?_,fun d hd=>?_⟩ k2)
    · rw [tjoin,wls_len];exact n7
    · rw [tjoin] at hd
      obtain ⟨j,_,rfl⟩:=List.mem_map.1 hd
      exact let_good _
noncomputable def wd (k:Nat):Str:=(["", "path", "number", "leaf", "branch", "nothing", "shot"]:List Str).getD k ""
noncomputable def exN (k:Nat):Str:=(["", "BadPath", "BadNumber", "LeafThere", "BranchThere", "Nothing", "NoShot"]:List Str).getD k ""
noncomputable def dueV (w a v:Int):Nat :=
  if v < 0∨(v = 0∧w < 4) then 6 else if w = 2∨w = 3∨6 < w then 0 else if 8 < a then 1 else if w = 6 then 0 else if a∈([3,4,5,6,7]:List Int) then 5 else if w = 4∧a∈([0,8]:List Int) then 4 else if w = 5∧a∈([1,2]:List Int) then 3 else 0
noncomputable def dueN (w a n v:Int):Nat :=
  if 1 < w then dueV w a v else if 8≤a then 1 else if w = 1 then (if 2 < a then 5 else 0) else if 4 < n then 2 else if a∈([3,4,7]:List Int) then 3 else if a = 0 then 4 else 0
theorem ev_or2 {p r:Prop} [Decidable p] [Decidable r] (hx:Ev G hm x l H (.bool (decide p))) (hy:Ev G hm y l H (.bool (decide r))):Ev G hm (.bop false [x,y]) l H (.bool (decide (p∨r))):=by
  by_cases h:p
  · rw [decide_eq_true h] at hx
    rw [decide_eq_true (Or.inl h)]
    exact ev_stop (k:=false) hx
  · rw [decide_eq_false h] at hx
    have:decide (p∨r) = decide r:=by
      by_cases h2:r
      · rw [decide_eq_true h2,decide_eq_true (Or.inr h2)]
      · rw [decide_eq_false h2,decide_eq_false fun z=>z.elim h h2]
    rw [this]
    exact ev_go hx (ev_one hy)
theorem ev_and2 {p r:Prop} [Decidable p] [Decidable r] (hx:Ev G hm x l H (.bool (decide p))) (hy:Ev G hm y l H (.bool (decide r))):Ev G hm (.bop true [x,y]) l H (.bool (decide (p∧r))):=by
  by_cases h:p
  · rw [decide_eq_true h] at hx
    have:decide (p∧r) = decide r:=by
      by_cases h2:r
      · rw [decide_eq_true h2,decide_eq_true ⟨h,h2⟩]
      · rw [decide_eq_false h2,decide_eq_false fun z=>h2 z.2]
    rw [this]
    exact ev_go hx (ev_one hy)
  · rw [decide_eq_false h] at hx
    rw [decide_eq_false fun z=>h z.1]
    exact ev_stop (k:=true) hx
theorem ev_or3 {p r u:Prop} [Decidable p] [Decidable r] [Decidable u] (hx:Ev G hm x l H (.bool (decide p))) (hy:Ev G hm y l H (.bool (decide r))) (hz:Ev G hm z l H (.bool (decide u))):Ev G hm (.bop false [x,y,z]) l H (.bool (decide (p∨r∨u))):=by
  by_cases h:p
  · rw [decide_eq_true h] at hx
    rw [decide_eq_true (Or.inl h)]
    exact ev_stop (k:=false) hx
  · rw [decide_eq_false h] at hx
    have:decide (p∨r∨u) = decide (r∨u):=by
      by_cases h2:r∨u
      · rw [decide_eq_true h2,decide_eq_true (Or.inr h2)]
      · rw [decide_eq_false h2,decide_eq_false fun z=>z.elim h h2]
    rw [this]
    exact ev_go hx (ev_or2 hy hz)
theorem w_inl {ns:List Int} {a:Int} {t:Tok} {es:List Ex} (hx:Ev G hm x l H (.int a t)) (hl:EvL G hm es l H (vI ns)) (hz:(vI ns).length≤sizeLine) (q:∀ H',Kp [] H H'→Q (.bool (decide (a∈ns))) H'):wpE G hm (.cmp x .In (.list es)) l H Q X :=
  w_cmpW (w_ev hx (w_list hl hz fun c hc=>in_ints (t:=t) (k:=fun r=>Q (.bool r) _) (Hp.upd_same _ _ _) (q _ (kp_new hc _))))
theorem w_pick {p r:Str} {b:Bool} (hx:∀ H',Ev G hm x l H' (.bool b)) (q:∀ H',Kp [] H H'→Q (.str (if b then r else p) 0) H'):wpE G hm (.idx (.list [.str p, .str r]) (.bf .int [x])) l H Q X :=
  w_idxW (w_list (evl_cons ev_str (evl_cons ev_str evl_nil)) (Nat.le_of_ble_eq_true rfl) fun c hc=>w_ev (ev_intb (hx _)) (by
    have:=q _ (kp_new (M:=[]) hc (.list [.str p 0, .str r 0]))
    cases b <;> exact idx_at (Hp.upd_same _ _ _) rfl rfl this))
theorem ss_ifd {p:Prop} [Decidable p] {c:Ex} {t f r:List Sm} {Q:QS} {X:XS} (hc:Ev G hm c l H (.bool (decide p))) (ht:p→wpSs G hm t l H (sq G hm r Q X) X) (hf:¬ p→wpSs G hm f l H (sq G hm r Q X) X):wpSs G hm (.ite c t f :: r) l H Q X :=
  ss_if hc (fun h=>ht (of_decide_eq_true h)) fun h=>hf (of_decide_eq_false h)
noncomputable def C_dueV (G:Gx) (A:Ad):Prop:=∀ ⦃H:Hp⦄ ⦃w a v:Int⦄ ⦃Q:QV⦄ ⦃X:XV⦄,(∀ H',Kp [] H H'→Q (.str (wd (dueV w a v)) 0) H')→G.fn (A "_law_due_of_view" "") false [.int w 0, .int a 0, .int v 0] H Q X
theorem tv_d {p:Prop} [Decidable p] {t f:Prop} (ht:p→t) (hf:¬ p→f):truthV (.bool (decide p)) fun b=>if b = true then t else f:=by
  by_cases h:p
  · rw [decide_eq_true h];exact tv_t (ht h)
  · rw [decide_eq_false h];exact tv_f (hf h)
theorem dueV_ok {w a v:Int} (q:∀ H',Kp [] H H'→Q (.str (wd (dueV w a v)) 0) H'):wpF G false ["_law_way", "_law_at", "_law_view"] b__law_due_of_view [.int w 0, .int a 0, .int v 0] H Q X:=by
  unfold dueV at q
  refine f_in rfl ?_
  refine ss_ifd (ev_or2 (ev_lt (ev_loc rfl) ev_int rfl) (ev_and2 (ev_eq (ev_loc rfl) ev_int rfl) (ev_lt (ev_loc rfl) ev_int rfl))) (fun h=>?_) fun h=>ss_sq ?_
  · rw [if_pos h] at q;exact ss_ret ev_str (q _ (Kp.refl _ _))
  rw [if_neg h] at q
  refine ss_ifd (ev_or3 (ev_eq (ev_loc rfl) ev_int rfl) (ev_eq (ev_loc rfl) ev_int rfl) (ev_gt (ev_loc rfl) ev_int rfl)) (fun h=>?_) fun h=>ss_sq ?_
  · rw [if_pos h] at q;exact ss_ret ev_str (q _ (Kp.refl _ _))
  rw [if_neg h] at q
  refine ss_ifd (ev_gt (ev_loc rfl) ev_int rfl) (fun h=>?_) fun h=>ss_sq ?_
  · rw [if_pos h] at q;exact ss_ret ev_str (q _ (Kp.refl _ _))
  rw [if_neg h] at q
  refine ss_ifd (ev_eq (ev_loc rfl) ev_int rfl) (fun h=>?_) fun h=>ss_sq ?_
  · rw [if_pos h] at q;exact ss_ret ev_str (q _ (Kp.refl _ _))
  rw [if_neg h] at q
  refine ss_ifW (w_inl (ns:=[3,4,5,6,7]) (ev_loc rfl) (by mem_news) (Nat.le_of_ble_eq_true rfl) fun H1 k1=>tv_d (fun h=>?_) fun h=>ss_sq ?_)
  · rw [if_pos h] at q;exact ss_ret ev_str (q _ k1)
  rw [if_neg h] at q
  refine ss_ifW (w_bopW (wb_cons (w_ev (ev_eq (ev_loc rfl) ev_int rfl) ?_)))
  have last:∀ H2,Kp [] H H2→(∀ H',Kp [] H H'→Q (.str (wd (if w = 5∧a∈([1,2]:List Int) then 3 else 0)) 0) H')→wpSs G false [.ite (.bop true [.cmp (.loc "_law_way") .Eq (.int 5), .cmp (.loc "_law_at") .In (.list [.int 1, .int 2])]) [.ret (.str "leaf")] [], .ret (.str "")] (fun x=>((["_law_way", "_law_at", "_law_view"]:List Str).zip [Value.int w 0, .int a 0, .int v 0]).lookup x) H2 (fq Q) (fx X):=fun H2 k2 q=>by
    refine ss_ifW (w_bopW (wb_cons (w_ev (ev_eq (ev_loc rfl) ev_int rfl) ?_)))
    by_cases h5:w = 5
    · rw [decide_eq_true h5]
      refine bo_go (k:=true) (wb_one (w_inl (ns:=[1,2]) (ev_loc rfl) (by mem_news) (Nat.le_of_ble_eq_true rfl) fun H3 k3=>?_))
      by_cases ha:a∈([1,2]:List Int)
      · rw [if_pos ⟨h5,ha⟩] at q;rw [decide_eq_true ha];exact tv_t (ss_ret ev_str (q _ (k2.trans k3)))
      · rw [if_neg fun z=>ha z.2] at q;rw [decide_eq_false ha];exact tv_f (ss_sq (ss_ret ev_str (q _ (k2.trans k3))))
    · rw [if_neg fun z=>h5 z.1] at q
      rw [decide_eq_false h5]
      exact bo_stop (k:=true) (tv_f (ss_sq (ss_ret ev_str (q _ k2))))
  by_cases h4:w = 4
  · rw [decide_eq_true h4]
    refine bo_go (k:=true) (wb_one (w_inl (ns:=[0,8]) (ev_loc rfl) (by mem_news) (Nat.le_of_ble_eq_true rfl) fun H3 k3=>?_))
    by_cases ha:a∈([0,8]:List Int)
    · rw [if_pos ⟨h4,ha⟩] at q;rw [decide_eq_true ha];exact tv_t (ss_ret ev_str (q _ (k1.trans k3)))
    · rw [if_neg fun z=>ha z.2] at q;rw [decide_eq_false ha];exact tv_f (ss_sq (last _ (k1.trans k3) q))
  · rw [if_neg fun z=>h4 z.1] at q
    rw [decide_eq_false h4]
    exact bo_stop (k:=true) (tv_f (ss_sq (last _ k1 q)))
noncomputable def C_due (G:Gx) (A:Ad):Prop:=∀ ⦃H:Hp⦄ ⦃w a n v:Int⦄ ⦃Q:QV⦄ ⦃X:XV⦄,(∀ H',Kp [] H H'→Q (.str (wd (dueN w a n v)) 0) H')→G.fn (A "_law_due" "") false [.int w 0, .int a 0, .int n 0, .int v 0] H Q X
theorem due_ok (LE:LEnv G A FS) (C:C_dueV G A) {w a n v:Int} (q:∀ H',Kp [] H H'→Q (.str (wd (dueN w a n v)) 0) H'):wpF G false ["_law_way", "_law_at", "_law_number", "_law_view"] b__law_due [.int w 0, .int a 0, .int n 0, .int v 0] H Q X:=by
  unfold dueN at q
  refine f_in rfl ?_
  refine ss_ifd (ev_gt (ev_loc rfl) ev_int rfl) (fun h=>?_) fun h=>ss_sq ?_
  · rw [if_pos h] at q;exact ss_retW (w_call (by mem_news) (by nest_cls) (by mem_news) (C fun H' k=>q H' k))
  rw [if_neg h] at q
  refine ss_ifd (ev_ge (ev_loc rfl) ev_int rfl) (fun h=>?_) fun h=>ss_sq ?_
  · rw [if_pos h] at q;exact ss_ret ev_str (q _ (Kp.refl _ _))
  rw [if_neg h] at q
  refine ss_ifd (ev_eq (ev_loc rfl) ev_int rfl) (fun h=>?_) fun h=>ss_sq ?_
  · rw [if_pos h] at q
    refine ss_retW (w_pick (b:=decide (2 < a)) (fun H'=>ev_gt (ev_loc rfl) ev_int rfl) fun H' k=>?_)
    have:=q H' k
    by_cases h2:2 < a
    · rw [if_pos h2] at this;rw [decide_eq_true h2];exact this
    · rw [if_neg h2] at this;rw [decide_eq_false h2];exact this
  rw [if_neg h] at q
  refine ss_ifd (ev_gt (ev_loc rfl) ev_int rfl) (fun h=>?_) fun h=>ss_sq ?_
  · rw [if_pos h] at q;exact ss_ret ev_str (q _ (Kp.refl _ _))
  rw [if_neg h] at q
  refine ss_ifW (w_inl (ns:=[3,4,7]) (ev_loc rfl) (by mem_news) (Nat.le_of_ble_eq_true rfl) fun H1 k1=>tv_d (fun h=>?_) fun h=>ss_sq ?_)
  · rw [if_pos h] at q;exact ss_ret ev_str (q _ k1)
  rw [if_neg h] at q
  refine ss_retW (w_pick (b:=decide (a = 0)) (fun H'=>ev_eq (ev_loc rfl) ev_int rfl) fun H' k=>?_)
  have:=q H' (k1.trans k)
  by_cases h2:a = 0
  · rw [if_pos h2] at this;rw [decide_eq_true h2];exact this
  · rw [if_neg h2] at this;rw [decide_eq_false h2];exact this
end
end Mine.L5
end

section
open PySem PyProof.Rows
namespace Mine.L5
open Mine Mine.St Mine.Lw
section
variable {A:Ad} {G:Gx} {H H':Hp} {Q:QV} {X:XV} {l:Loc} {hm:Bool} {x y z:Ex} {σ:SA} {s:Sto} {one two other:Str}
theorem up9 {P:Nat→Prop} (h0:P 0) (h1:P 1) (h2:P 2) (h3:P 3) (h4:P 4) (h5:P 5) (h6:P 6) (h7:P 7) (h8:P 8) (h9:P 9) (i:Nat) (hi:i≤9):P i:=by
  iterate 9 (cases i with | zero=>assumption | succ i=>?_)
  cases i with
  | zero=>exact h9
  | succ i=>exact absurd hi (Nat.not_le_of_lt (Nat.lt_of_lt_of_le (by decide:9 < 10) (Nat.le_add_left 10 i)))
theorem up8 {P:Nat→Prop} (h0:P 0) (h1:P 1) (h2:P 2) (h3:P 3) (h4:P 4) (h5:P 5) (h6:P 6) (h7:P 7) (h8:P 8) (i:Nat) (hi:i≤8):P i :=
  up9 (P:=fun i=>i≤8→P i) (fun _=>h0) (fun _=>h1) (fun _=>h2) (fun _=>h3) (fun _=>h4) (fun _=>h5) (fun _=>h6) (fun _=>h7) (fun _=>h8) (fun z=>absurd z (by decide)) i (Nat.le_succ_of_le hi) hi
theorem up7 {P:Nat→Prop} (h0:P 0) (h1:P 1) (h2:P 2) (h3:P 3) (h4:P 4) (h5:P 5) (h6:P 6) (h7:P 7) (i:Nat) (hi:i≤7):P i :=
  up8 (P:=fun i=>i≤7→P i) (fun _=>h0) (fun _=>h1) (fun _=>h2) (fun _=>h3) (fun _=>h4) (fun _=>h5) (fun _=>h6) (fun _=>h7) (fun z=>absurd z (by decide)) i (Nat.le_succ_of_le hi) hi
structure Nm3 (one two other:Str):Prop where
  g1:Good one
  g2:Good two
  g3:Good other
  n12:one≠two
  n13:one≠other
  n23:two≠other
  lt:lessS one other = true
structure S5 (s:Sto) (one two other:Str):Prop where
  w:SW 2 s
  made:s.made = 6
  tree:s.tree = 6
  shots:s.shots = [(1,6)]
  g6:get s.bs 6 = some (.br [(one,3),(other,5)])
  g3:get s.bs 3 = some (.br [(two,2)])
  g2:get s.bs 2 = some (.leaf 5)
  g5:get s.bs 5 = some (.leaf (-7))
noncomputable def gp (one two other:Str) (i:Nat):List Str:=([[one],[one,two],[other],[other,one],[other,two,one],[two],[one,other],[one,two,two],[]]:List (List Str)).getD i []
noncomputable def fr (i:Nat):Option Int:=([some 3,some 2,some 5,none,none,none,none,none,some 6]:List (Option Int)).getD i none
theorem row_hit {n:Str} {b:Int} {r:List (Str×Int)}:rowOf ((n,b) :: r) n = some b:=by
  unfold rowOf
  rw [List.find?_cons,decide_eq_true (show (n,b).1 = n from rfl)];rfl
theorem row_miss {n m:Str} {b:Int} {r:List (Str×Int)} (h:m≠n):rowOf ((m,b) :: r) n = rowOf r n:=by
  unfold rowOf
  rw [List.find?_cons,decide_eq_false (show ¬ (m,b).1 = n from h)]
theorem find_br {bs:List (Int×Ct)} {i b:Int} {rows:List (Str×Int)} {n:Str} {r:List Str} {z:Option (Option Int)} (h:get bs i = some (.br rows)) (hr:rowOf rows n = some b) (hz:find bs b r = z):find bs i (n :: r) = z:=by
  rw [find,h];dsimp only;rw [hr];exact hz
theorem find_no {bs:List (Int×Ct)} {i:Int} {rows:List (Str×Int)} {n:Str} {r:List Str} (h:get bs i = some (.br rows)) (hr:rowOf rows n = none):find bs i (n :: r) = some none:=by
  rw [find,h];dsimp only;rw [hr]
theorem find_lf {bs:List (Int×Ct)} {i m:Int} {n:Str} {r:List Str} (h:get bs i = some (.leaf m)):find bs i (n :: r) = some none:=by
  rw [find,h]
section
variable (f:S5 s one two other) (m:Nm3 one two other)
include f m
theorem r61:rowOf [(one,3),(other,5)] one = some 3:=row_hit
theorem r63:rowOf [(one,3),(other,5)] other = some 5:=(row_miss m.n13).trans row_hit
theorem r62:rowOf [(one,3),(other,5)] two = none:=(row_miss m.n12).trans ((row_miss (Ne.symm m.n23)).trans rfl)
theorem r32:rowOf [(two,2)] two = some 2:=row_hit
theorem r33:rowOf [(two,2)] other = none:=(row_miss m.n23).trans rfl
theorem fnd:∀ i,i≤8→find s.bs 6 (gp one two other i) = some (fr i) :=
  up8 (find_br f.g6 (r61 f m) rfl) (find_br f.g6 (r61 f m) (find_br f.g3 (r32 f m) rfl)) (find_br f.g6 (r63 f m) rfl) (find_br f.g6 (r63 f m) (find_lf f.g5)) (find_br f.g6 (r63 f m) (find_lf f.g5)) (find_no f.g6 (r62 f m))
    (find_br f.g6 (r61 f m) (find_no f.g3 (r33 f m))) (find_br f.g6 (r61 f m) (find_br f.g3 (r32 f m) (find_lf f.g2))) rfl
end
theorem fr_leaf (f:S5 s one two other) {i:Nat} (hi:i≤8) {b k:Int} (h:fr i = some b) (hg:get s.bs b = some (.leaf k)):i = 1∨i = 2 :=
  up8 (P:=fun i=>fr i = some b→i = 1∨i = 2) (fun h=>by cases h;rw [f.g3] at hg;cases hg) (fun _=>.inl rfl) (fun _=>.inr rfl) (fun h=>nomatch h) (fun h=>nomatch h) (fun h=>nomatch h) (fun h=>nomatch h) (fun h=>nomatch h) (fun h=>by cases h;rw [f.g6] at hg;cases hg) i hi h
theorem fr_br (f:S5 s one two other) {i:Nat} (hi:i≤8) {b:Int} {rows:List (Str×Int)} (h:fr i = some b) (hg:get s.bs b = some (.br rows)):i = 0∨i = 8 :=
  up8 (P:=fun i=>fr i = some b→i = 0∨i = 8) (fun _=>.inl rfl) (fun h=>by cases h;rw [f.g2] at hg;cases hg) (fun h=>by cases h;rw [f.g5] at hg;cases hg) (fun h=>nomatch h) (fun h=>nomatch h) (fun h=>nomatch h) (fun h=>nomatch h) (fun h=>nomatch h) (fun _=>.inr rfl) i hi h
theorem fr_none {i:Nat} (hi:i≤8) (h:fr i = none):(i:Int)∈([3,4,5,6,7]:List Int) :=
  up8 (P:=fun i=>fr i = none→(i:Int)∈([3,4,5,6,7]:List Int)) (fun h=>nomatch h) (fun h=>nomatch h) (fun h=>nomatch h) (fun _=>by decide) (fun _=>by decide) (fun _=>by decide) (fun _=>by decide) (fun _=>by decide) (fun h=>nomatch h) i hi h
theorem gp_len:∀ i,i≤8→(gp one two other i).length = ([1,2,1,2,3,1,2,3,0]:List Nat).getD i 0:=up8 rfl rfl rfl rfl rfl rfl rfl rfl rfl
theorem gp_pos:∀ i,i≤7→(gp one two other i).length≠0:=up7 Nat.one_ne_zero (Nat.succ_ne_zero 1) Nat.one_ne_zero (Nat.succ_ne_zero 1) (Nat.succ_ne_zero 2) Nat.one_ne_zero (Nat.succ_ne_zero 1) (Nat.succ_ne_zero 2)
theorem gp_ne {i:Nat} (hi:i≤7):gp one two other i≠[]:=fun e=>gp_pos (one:=one) (two:=two) (other:=other) i hi (by rw [e];rfl)
theorem way_leaf {xs:List Str} {k:Nat} (h:leafAt s xs k):wayAt s.bs s.tree xs k = none:=by
  obtain ⟨b,m,h1,h2⟩:=h
  unfold wayAt
  rw [h1];dsimp only;rw [h2]
theorem leaf_in (f:S5 s one two other) (m:Nm3 one two other) {i:Nat} (h:i = 3∨i = 4∨i = 7):∃ k,k < (gp one two other i).length∧leafAt s (gp one two other i) k:=by
  have a2:=fnd f m 2 (by decide)
  have a1:=fnd f m 1 (by decide)
  rw [← f.tree] at a1 a2
  rcases h with rfl | rfl | rfl
  · exact ⟨1,Nat.lt_of_lt_of_le (by decide) (Nat.le_refl 2),5, -7,a2,f.g5⟩
  · exact ⟨1,Nat.lt_of_lt_of_le (by decide) (Nat.le_refl 3),5, -7,a2,f.g5⟩
  · exact ⟨2,Nat.lt_of_lt_of_le (by decide) (Nat.le_refl 3),2,5,a1,f.g2⟩
theorem leaf_at (f:S5 s one two other) (m:Nm3 one two other) {i:Nat} (hi:i≤7) {k:Nat} (h1:1≤k) (h2:k < (gp one two other i).length) (h:leafAt s (gp one two other i) k):i = 3∨i = 4∨i = 7:=by
  have no:∀ (r:List Str),¬ leafAt s (one :: r) 1:=fun r ⟨b,n,e1,e2⟩=>by
    have a0:=fnd f m 0 (by decide)
    rw [← f.tree] at a0
    have e1:find s.bs s.tree [one] = some (some b):=e1
    have a0:find s.bs s.tree [one] = some (some 3):=a0
    rw [a0] at e1;cases e1
    rw [f.g3] at e2;cases e2
  have z0:∀ {P:Prop},k < 1→P:=fun h=>absurd h (Nat.not_lt.2 h1)
  have z1:∀ {r:List Str} {P:Prop},k < 2→leafAt s (one :: r) k→P:=fun h hl=>by
    obtain rfl:k = 1:=Nat.le_antisymm (Nat.le_of_lt_succ h) h1
    exact absurd hl (no _)
  exact up7 (P:=fun i=>k < (gp one two other i).length→leafAt s (gp one two other i) k→i = 3∨i = 4∨i = 7) (fun h _=>z0 h) (fun h hl=>z1 h hl) (fun h _=>z0 h) (fun _ _=>.inl rfl) (fun _ _=>.inr (.inl rfl)) (fun h _=>z0 h) (fun h hl=>z1 h hl) (fun _ _=>.inr (.inr rfl)) i hi h2 h
structure PathV (H:Hp) (one two other:Str) (i:Nat) (v:Value):Prop where
  good:i≤8→∃ a,v = .ref a∧PathAt H a (gp one two other i)
  bad:8 < i→BadP H v
structure NumV (H:Hp) (n:Nat) (v:Value):Prop where
  good:n≤4→∃ m,v = .int m 0∧-(10 ^ 30) < m∧m < 10 ^ 30
  bad:4 < n→BadM H v
structure ViewV (s:Sto) (H:Hp) (k:Nat) (v:Value):Prop where
  none:k = 0→v = .none
  one:k = 1→v = .int 1 0
  bad:1 < k→BadV s H v
noncomputable def vq (k:Nat):Int:=if k≤1 then (k:Int) else -1
structure C5 (G:Gx) (A:Ad):Prop where
  top:C_top G A
  topX:C_topX G A
  put:C_put G A
  putX:C_putX G A
  cut:C_cut G A
  cutX:C_cutX G A
  drop:C_drop G A
  dropX:C_drX G A "drop"
  back:C_back G A
  backX:C_drX G A "back"
  value:C_value G A
  valueX:C_rdX G A "value"
  names:C_names G A
  namesX:C_rdX G A "names"
  kind:C_kind G A
  kindX:C_rdX G A "kind"
  chg:C_chg G A
  chgX:C_chgX G A
structure Cx (A:Ad) (H:Hp) (σ:SA) (s:Sto) (one two other:Str) (i n k:Nat) (pv nv vv:Value):Prop where
  st:StoreR A H σ s
  f:S5 s one two other
  m:Nm3 one two other
  p:PathV H one two other i pv
  n:NumV H n nv
  v:ViewV s H k vv
  tab:∃ T,H T = some .tab
structure Res (A:Ad) (H:Hp) (σ:SA) (d:Nat) (Q:QV) (X:XV):Prop where
  ok:d = 0→∀ r H',Kp σ.M H H'→Q r H'
  ex:d≠0→∀ H',Kp [] H H'→X (A (exN d) "") H'
theorem view_ok (f:S5 s one two other) {k:Nat} (hk:k≤1) {vv:Value} (h:ViewV s H k vv):viewB s vv = some 6:=by
  cases k with
  | zero=>rw [h.none rfl];exact congrArg some f.tree
  | succ k =>
    obtain rfl:k = 0:=Nat.le_zero.1 (Nat.le_of_succ_le_succ hk)
    rw [h.one rfl];show get s.shots 1 = some 6;rw [f.shots];rfl
theorem S5.short (f:S5 s one two other):Short s.bs:=f.w.short (by decide)
variable {i n k:Nat} {pv nv vv:Value}
theorem S5.room (f:S5 s one two other):(s.made.toNat + 9) * (2 + 2) + 2≤2 ^ 20:=by rw [f.made];decide
theorem S5.room2 (f:S5 s one two other):s.made.toNat * (2 + 1) + 2≤2 ^ 20:=by rw [f.made];decide
theorem S5.get_some (f:S5 s one two other) {xs:List Str} {r:Option Int} (h:find s.bs 6 xs = some r):∀ b,r = some b→∃ c,get s.bs b = some c:=f.w.get_some (f.tree.symm ▸ h)
theorem c8 {i:Nat}:8≤i ↔ (8:Int)≤(i:Int):=Int.ofNat_le.symm
theorem c9 {i:Nat}:8 < i ↔ (8:Int) < (i:Int):=Int.ofNat_lt.symm
theorem c4 {i:Nat}:4 < i ↔ (4:Int) < (i:Int):=Int.ofNat_lt.symm
theorem put_due {i n:Nat}:dueN 0 i n (vq k) = if 8≤(i:Int) then 1 else if 4 < (n:Int) then 2 else if (i:Int)∈([3,4,7]:List Int) then 3 else if (i:Int) = 0 then 4 else 0:=rfl
theorem i37 {i:Nat}:(i:Int)∈([3,4,7]:List Int) ↔ i = 3∨i = 4∨i = 7:=by
  rw [List.mem_cons,List.mem_cons,List.mem_cons]
  constructor
  · rintro (h | h | h | h)
    · exact .inl (Int.ofNat.inj h)
    · exact .inr (.inl (Int.ofNat.inj h))
    · exact .inr (.inr (Int.ofNat.inj h))
    · cases h
  · rintro (rfl | rfl | rfl)
    · exact .inl rfl
    · exact .inr (.inl rfl)
    · exact .inr (.inr (.inl rfl))
theorem way0 (C:C5 G A) (c:Cx A H σ s one two other i n k pv nv vv) (R:Res A H σ (dueN 0 i n (vq k)) Q X):G.fn (A "Store" "put") false [.ref σ.sx,pv,nv] H Q X:=by
  rw [put_due] at R
  by_cases h8:8≤i
  · rw [if_pos (c8.1 h8)] at R
    refine C.putX (.path ?_) (R.ex (by decide))
    rcases Nat.lt_or_ge 8 i with h | h
    · exact .inl (c.p.bad h)
    · obtain rfl:i = 8:=Nat.le_antisymm h h8
      exact .inr (c.p.good (Nat.le_refl 8))
  have h7:i≤7:=Nat.le_of_lt_succ (Nat.lt_of_not_le h8)
  rw [if_neg (fun z=>h8 (c8.2 z))] at R
  obtain ⟨a,rfl,ha⟩:=c.p.good (Nat.le_succ_of_le h7)
  by_cases h4:4 < n
  · rw [if_pos (c4.1 h4)] at R
    exact C.putX (.num ha (gp_ne h7) (c.n.bad h4)) (R.ex (by decide))
  rw [if_neg (fun z=>h4 (c4.2 z))] at R
  obtain ⟨m,rfl,m1,m2⟩:=c.n.good (Nat.le_of_not_lt h4)
  have fd:=fnd c.f c.m i (Nat.le_succ_of_le h7)
  rw [← c.f.tree] at fd
  have i8:=Nat.le_succ_of_le h7
  refine C.put c.st c.f.w c.f.room ha (gp_ne h7) m1 m2 (fun b hb hg H' _ k'=>?_) (fun s' g pn _ H' _ k'=>?_) (fun ⟨kk,z1,z2,hl⟩ H' _ k'=>?_) (fun hn ⟨b,rows,hb,hg⟩ H' _ k'=>?_)
  · rw [fd] at hb
    injection hb with hb
    have:=fr_leaf c.f i8 hb hg
    rcases this with rfl | rfl <;> exact R.ok rfl _ _ k'.up
  · refine R.ok ?_ _ _ k'
    rw [if_neg,if_neg]
    · intro z
      obtain rfl:i = 0:=Int.ofNat.inj z
      exact pn.nobr ⟨3,_,fd,c.f.g3⟩
    · intro z
      obtain ⟨kk,hk,hl⟩:=leaf_in c.f c.m (i37.1 z)
      obtain ⟨W,N,hW, -⟩:=pn.bs
      have:=hW kk hk
      rw [way_leaf hl] at this;cases this
  · have:=leaf_at c.f c.m h7 z1 z2 hl
    rw [if_pos (i37.2 this)] at R
    exact R.ex (by decide) _ k'
  · rw [fd] at hb
    injection hb with hb
    rcases fr_br c.f i8 hb hg with rfl | rfl
    · exact R.ex (d:=4) (by decide) _ k'
    · exact absurd h7 (by decide)
theorem way1 (C:C5 G A) (c:Cx A H σ s one two other i n k pv nv vv) (R:Res A H σ (dueN 1 i n (vq k)) Q X):G.fn (A "Store" "cut") false [.ref σ.sx,pv] H Q X:=by
  have R:Res A H σ (if 8≤(i:Int) then 1 else if 2 < (i:Int) then 5 else 0) Q X:=R
  by_cases h8:8≤i
  · rw [if_pos (c8.1 h8)] at R
    refine C.cutX ?_ (R.ex (by decide))
    rcases Nat.lt_or_ge 8 i with h | h
    · exact .inl (c.p.bad h)
    · obtain rfl:i = 8:=Nat.le_antisymm h h8
      exact .inr (c.p.good (Nat.le_refl 8))
  have h7:i≤7:=Nat.le_of_lt_succ (Nat.lt_of_not_le h8)
  rw [if_neg (fun z=>h8 (c8.2 z))] at R
  obtain ⟨a,rfl,ha⟩:=c.p.good (Nat.le_succ_of_le h7)
  have fd:=fnd c.f c.m i (Nat.le_succ_of_le h7)
  rw [← c.f.tree] at fd
  refine C.cut c.st c.f.w c.f.room ha (gp_ne h7) (fun s' g ⟨b,hb⟩ _ _ H' _ k'=>?_) (fun hb H' _ k'=>?_)
  · rw [fd] at hb
    injection hb with hb
    exact up7 (P:=fun i=>fr i = some b→Res A H σ (if 2 < (i:Int) then 5 else 0) Q X→Q (.int g 0) H') (fun _ R=>R.ok rfl _ _ k') (fun _ R=>R.ok rfl _ _ k') (fun _ R=>R.ok rfl _ _ k') (fun h=>nomatch h) (fun h=>nomatch h) (fun h=>nomatch h) (fun h=>nomatch h) (fun h=>nomatch h) i h7 hb R
  · rw [fd] at hb
    injection hb with hb
    have R:Res A H σ 5 Q X:=by
      rw [if_pos] at R
      · exact R
      · have:=fr_none (Nat.le_succ_of_le h7) hb
        revert this
        generalize (i:Int) = j
        intro hj
        rcases List.mem_cons.1 hj with rfl | hj
        · decide
        rcases List.mem_cons.1 hj with rfl | hj
        · decide
        rcases List.mem_cons.1 hj with rfl | hj
        · decide
        rcases List.mem_cons.1 hj with rfl | hj
        · decide
        rw [List.mem_singleton.1 hj];decide
    exact R.ex (by decide) _ k'
theorem view_cases (k:Nat):(1 < k∧vq k = -1)∨(k = 0∧vq k = 0)∨(k = 1∧vq k = 1):=by
  cases k with
  | zero=>exact .inr (.inl ⟨rfl,rfl⟩)
  | succ k=>cases k with
  | zero=>exact .inr (.inr ⟨rfl,rfl⟩)
  | succ k=>exact .inl ⟨Nat.lt_of_lt_of_le (by decide:1 < 2) (Nat.le_add_left 2 k),if_neg (Nat.not_le_of_lt (Nat.lt_of_lt_of_le (by decide:1 < 2) (Nat.le_add_left 2 k)))⟩
theorem way2 (C:C5 G A) (c:Cx A H σ s one two other i n k pv nv vv) (R:Res A H σ (dueN 2 i n (vq k)) Q X):G.fn (A "Store" "drop") false [.ref σ.sx,vv] H Q X:=by
  rcases view_cases k with ⟨h,e⟩ | ⟨h,e⟩ | ⟨h,e⟩
  · rw [e] at R;exact C.dropX c.st (.inl (c.v.bad h)) (R.ex (d:=6) (by decide))
  · rw [e] at R;exact C.dropX c.st (.inr (c.v.none h)) (R.ex (d:=6) (by decide))
  · rw [e] at R
    rw [c.v.one h]
    exact C.drop c.st c.f.w c.f.room2 (by rw [c.f.shots];decide) (b:=6) (by rw [c.f.shots];rfl) fun bs' cs' _ _ H' _ k'=>R.ok rfl _ _ k'
theorem way3 (C:C5 G A) (c:Cx A H σ s one two other i n k pv nv vv) (R:Res A H σ (dueN 3 i n (vq k)) Q X):G.fn (A "Store" "back") false [.ref σ.sx,vv] H Q X:=by
  rcases view_cases k with ⟨h,e⟩ | ⟨h,e⟩ | ⟨h,e⟩
  · rw [e] at R;exact C.backX c.st (.inl (c.v.bad h)) (R.ex (d:=6) (by decide))
  · rw [e] at R;exact C.backX c.st (.inr (c.v.none h)) (R.ex (d:=6) (by decide))
  · rw [e] at R
    rw [c.v.one h]
    exact C.back c.st c.f.w c.f.room2 (b:=6) (by rw [c.f.shots];rfl) fun bs' cs' _ _ H' _ k'=>R.ok rfl _ _ k'
theorem rd_way (c:Cx A H σ s one two other i n k pv nv vv) {w:Int} (hw:3 < w) (h6:w≤6) (R:Res A H σ (dueN w i n (vq k)) Q X) :
    (∃ e,RdX s H vv pv e∧∀ H',Kp [] H H'→X (A e "") H')∨(viewB s vv = some 6∧i≤8∧∃ a,pv = .ref a∧PathAt H a (gp one two other i)):=by
  have e:dueN w i n (vq k) = dueV w i (vq k):=if_pos (Int.lt_trans (by decide) hw)
  rw [e] at R
  rcases Nat.lt_or_ge 1 k with h | h
  · rw [(view_cases k).resolve_right (fun z=>by rcases z with ⟨z,_⟩ | ⟨z,_⟩ <;> rw [z] at h <;> revert h <;> decide) |>.2] at R
    exact .inl ⟨_, .view (c.v.bad h),R.ex (d:=6) (by decide)⟩
  · have hv:=view_ok c.f h c.v
    rcases Nat.lt_or_ge 8 i with h8 | h8
    · refine .inl ⟨_, .path hv (c.p.bad h8), ?_⟩
      have:dueV w i (vq k) = 1:=by
        unfold dueV
        rw [if_neg,if_neg,if_pos (c9.1 h8)]
        · rintro (z | z | z)
          · rw [z] at hw;exact absurd hw (by decide)
          · rw [z] at hw;exact absurd hw (by decide)
          · exact absurd z (Int.not_lt.2 h6)
        · rintro (z | ⟨_,z⟩)
          · rw [show vq k = (k:Int) from if_pos h] at z;exact absurd z (Int.not_lt.2 (Int.natCast_nonneg k))
          · exact absurd z (Int.not_lt.2 hw)
      rw [this] at R
      exact R.ex (by decide)
    · exact .inr ⟨hv,h8,c.p.good h8⟩
theorem Res.read {w:Int} {d:Nat} (R:Res A H σ (dueN w i n (vq k)) Q X) (hk:viewB s vv = some 6) (c:ViewV s H k vv) (h0:dueN w i n 0 = d) (h1:dueN w i n 1 = d) (hb:BadV s H vv→viewB s vv = none):Res A H σ d Q X:=by
  rcases view_cases k with ⟨h,e⟩ | ⟨h,e⟩ | ⟨h,e⟩
  · rw [hb (c.bad h)] at hk;cases hk
  · rw [e,h0] at R;exact R
  · rw [e,h1] at R;exact R
theorem bad_view {vv:Value} (h:BadV s H vv):viewB s vv = none:=by
  rcases h with ⟨h,hn⟩ | ⟨i,rfl,h⟩
  · cases h <;> first | rfl | exact absurd rfl hn
  · exact h
theorem due5 {w i n v:Int} (hw:(1 < w∧¬ w = 2∧¬ w = 3∧¬ 6 < w∧¬ w = 6)∧¬ v < 0∧¬ w < 4) (h8:¬ 8 < i) (hi:i∈([3,4,5,6,7]:List Int)):dueN w i n v = 5:=by
  unfold dueN dueV
  rw [if_pos hw.1.1,if_neg (fun z=>z.elim hw.2.1 fun z=>hw.2.2 z.2),if_neg (fun z=>z.elim hw.1.2.1 fun z=>z.elim hw.1.2.2.1 hw.1.2.2.2.1),if_neg h8,if_neg hw.1.2.2.2.2,if_pos hi]
theorem way4 (C:C5 G A) (c:Cx A H σ s one two other i n k pv nv vv) (R:Res A H σ (dueN 4 i n (vq k)) Q X):G.fn (A "Store" "value") false [.ref σ.sx,vv,pv] H Q X:=by
  rcases rd_way c (by decide) (by decide) R with ⟨e,h,q⟩ | ⟨hv,h8,a,rfl,ha⟩
  · exact C.valueX c.st h q
  · have fd:=fnd c.f c.m i h8
    have rd:∀ {d},dueN 4 i n 0 = d→dueN 4 i n 1 = d→Res A H σ d Q X:=fun h0 h1=>R.read hv c.v h0 h1 bad_view
    refine C.value c.st c.f.short hv ha fd (c.f.get_some fd) (fun b m hb hg H' k'=>?_) (fun hb H' k'=>?_) (fun b rows hb hg H' k'=>?_)
    · rcases fr_leaf c.f h8 hb hg with rfl | rfl <;> exact (rd (d:=0) rfl rfl).ok rfl _ _ k'.up
    · have hm:=fr_none h8 hb
      have h9:¬ 8 < (i:Int):=Int.not_lt.2 (Int.ofNat_le.2 h8)
      exact (rd (d:=5) (due5 (by decide) h9 hm) (due5 (by decide) h9 hm)).ex (by decide) _ k'
    · rcases fr_br c.f h8 hb hg with rfl | rfl <;> exact (rd (d:=4) rfl rfl).ex (by decide) _ k'
theorem way5 (C:C5 G A) (c:Cx A H σ s one two other i n k pv nv vv) (R:Res A H σ (dueN 5 i n (vq k)) Q X):G.fn (A "Store" "names") false [.ref σ.sx,vv,pv] H Q X:=by
  rcases rd_way c (by decide) (by decide) R with ⟨e,h,q⟩ | ⟨hv,h8,a,rfl,ha⟩
  · exact C.namesX c.st h q
  · have fd:=fnd c.f c.m i h8
    have rd:∀ {d},dueN 5 i n 0 = d→dueN 5 i n 1 = d→Res A H σ d Q X:=fun h0 h1=>R.read hv c.v h0 h1 bad_view
    refine C.names c.st c.f.short hv ha fd (c.f.get_some fd) (fun b rows hb hg r H' k' _ _=>?_) (fun hb H' k'=>?_) (fun b m hb hg H' k'=>?_)
    · rcases fr_br c.f h8 hb hg with rfl | rfl <;> exact (rd (d:=0) rfl rfl).ok rfl _ _ k'.up
    · have hm:=fr_none h8 hb
      have h9:¬ 8 < (i:Int):=Int.not_lt.2 (Int.ofNat_le.2 h8)
      exact (rd (d:=5) (due5 (by decide) h9 hm) (due5 (by decide) h9 hm)).ex (by decide) _ k'
    · rcases fr_leaf c.f h8 hb hg with rfl | rfl <;> exact (rd (d:=3) rfl rfl).ex (by decide) _ k'
theorem way6 (C:C5 G A) (c:Cx A H σ s one two other i n k pv nv vv) (R:Res A H σ (dueN 6 i n (vq k)) Q X):G.fn (A "Store" "kind") false [.ref σ.sx,vv,pv] H Q X:=by
  rcases rd_way c (by decide) (by decide) R with ⟨e,h,q⟩ | ⟨hv,h8,a,rfl,ha⟩
  · exact C.kindX c.st h q
  · have fd:=fnd c.f c.m i h8
    refine C.kind c.st c.f.short hv ha fd (c.f.get_some fd) fun H' k'=>?_
    have h8':¬ 8 < (i:Int):=Int.not_lt.2 (Int.ofNat_le.2 h8)
    have e0:∀ v:Int,0≤v→dueN 6 i n v = 0:=fun v hv=>by
      show (if v < 0∨(v = 0∧(6:Int) < 4) then 6 else if (6:Int) = 2∨(6:Int) = 3∨(6:Int) < 6 then 0 else if 8 < (i:Int) then 1 else if (6:Int) = 6 then 0 else _) = 0
      rw [if_neg (by rintro (z | ⟨_,z⟩);exact absurd z (Int.not_lt.2 hv);exact absurd z (by decide)),if_neg (by decide),if_neg h8',if_pos rfl]
    exact (R.read hv c.v (e0 0 (by decide)) (e0 1 (by decide)) bad_view).ok rfl _ _ k'.up
theorem top_way (c:Cx A H σ s one two other i n k pv nv vv) {w:Int} (hw:6 < w) (R:Res A H σ (dueN w i n (vq k)) Q X):(BadV s H vv∧∀ H',Kp [] H H'→X (A "NoShot" "") H')∨(viewB s vv = some 6∧∀ r H',Kp [] H H'→Q r H'):=by
  have e:dueN w i n (vq k) = dueV w i (vq k):=if_pos (Int.lt_trans (by decide) hw)
  rw [e] at R
  rcases Nat.lt_or_ge 1 k with h | h
  · rw [show vq k = -1 from if_neg (Nat.not_le_of_lt h)] at R
    exact .inl ⟨c.v.bad h,R.ex (d:=6) (by decide)⟩
  · refine .inr ⟨view_ok c.f h c.v,fun r H' k'=>R.ok ?_ _ _ k'.up⟩
    unfold dueV
    rw [if_neg,if_pos (.inr (.inr hw))]
    rintro (z | ⟨_,z⟩)
    · rw [show vq k = (k:Int) from if_pos h] at z;exact absurd z (Int.not_lt.2 (Int.natCast_nonneg k))
    · exact absurd (Int.lt_trans hw z) (by decide)
theorem way7 (C:C5 G A) (c:Cx A H σ s one two other i n k pv nv vv) (R:Res A H σ (dueN 7 i n (vq k)) Q X):G.fn (A "Store" "changes") false [.ref σ.sx, .none,vv] H Q X:=by
  have h0:viewB s .none = some 6:=congrArg some c.f.tree
  rcases top_way c (by decide) R with ⟨h,q⟩ | ⟨h,q⟩
  · exact C.chgX c.st (.two h0 h) q
  · exact C.chg c.st h0 h c.tab q
theorem way8 (C:C5 G A) (c:Cx A H σ s one two other i n k pv nv vv) (R:Res A H σ (dueN 8 i n (vq k)) Q X):G.fn (A "Store" "changes") false [.ref σ.sx,vv, .int 1 0] H Q X:=by
  have h0:viewB s (.int 1 0) = some 6:=by show get s.shots 1 = some 6;rw [c.f.shots];rfl
  rcases top_way c (by decide) R with ⟨h,q⟩ | ⟨h,q⟩
  · exact C.chgX c.st (.one h) q
  · exact C.chg c.st h h0 c.tab q
theorem way9 (C:C5 G A) (c:Cx A H σ s one two other i n k pv nv vv) (R:Res A H σ (dueN 9 i n (vq k)) Q X):G.fn (A "Store" "top") false [.ref σ.sx,vv] H Q X:=by
  rcases top_way c (by decide) R with ⟨h,q⟩ | ⟨h,q⟩
  · exact C.topX c.st h q
  · exact C.top c.st h (q _ _ (Kp.refl _ _))
end
end Mine.L5
end

section
open PySem PyProof.Rows
namespace Mine.L5
open Mine Mine.St Mine.Lw
section
variable {A:Ad} {G:Gx} {H H':Hp} {Q:QV} {X:XV} {l:Loc} {hm:Bool} {x y z:Ex} {σ:SA} {s:Sto} {one two other:Str} {i n k w:Nat} {pv nv vv:Value}
noncomputable def C_asked (G:Gx) (A:Ad):Prop:=∀ ⦃H:Hp⦄ ⦃σ:SA⦄ ⦃s:Sto⦄ ⦃one two other:Str⦄ ⦃i n k w:Nat⦄ ⦃pv nv vv:Value⦄,w≤9→Cx A H σ s one two other i n k pv nv vv→∀ ⦃Q:QV⦄ ⦃X:XV⦄,Res A H σ (dueN w i n (vq k)) Q X→G.fn (A "_law_asked" "") false [.ref σ.sx, .int w 0,pv,nv,vv] H Q X
theorem Res.un {d:Nat} {Q':QV} {X':XV} (R:Res A H σ d Q X) (h:∀ r H',Q .none H'→Q' r H') (hx:∀ C H',X C H'→X' C H'):Res A H σ d Q' X':=⟨fun e r H' k=>h r H' (R.ok e .none H' k),fun e H' k=>hx _ _ (R.ex e H' k)⟩
theorem asked_ok (F:EnvS G A) (C:C5 G A) (hw:w≤9) (c:Cx A H σ s one two other i n k pv nv vv):Res A H σ (dueN w i n (vq k)) Q X→wpF G false ["_law_store", "_law_way", "_law_path", "_law_number", "_law_view"] b__law_asked [.ref σ.sx, .int w 0,pv,nv,vv] H Q X:=by
  have no:∀ {w j:Int} {t f:List Sm} {Q:QS} {X:XS} {r:List Sm},decide (w = j) = false→wpSs G false f (fun x=>((["_law_store", "_law_way", "_law_path", "_law_number", "_law_view"]:List Str).zip [Value.ref σ.sx, .int w 0,pv,nv,vv]).lookup x) H (sq G false r Q X) X →
      wpSs G false (.ite (.cmp (.loc "_law_way") .Eq (.int j)) t f :: r) (fun x=>((["_law_store", "_law_way", "_law_path", "_law_number", "_law_view"]:List Str).zip [Value.ref σ.sx, .int w 0,pv,nv,vv]).lookup x) H Q X:=fun h q=>ss_iff (ev_eq (ev_loc rfl) ev_int h) q
  have yes:∀ {w j:Int} {t f:List Sm} {Q:QS} {X:XS} {r:List Sm},decide (w = j) = true→wpSs G false t (fun x=>((["_law_store", "_law_way", "_law_path", "_law_number", "_law_view"]:List Str).zip [Value.ref σ.sx, .int w 0,pv,nv,vv]).lookup x) H (sq G false r Q X) X →
      wpSs G false (.ite (.cmp (.loc "_law_way") .Eq (.int j)) t f :: r) (fun x=>((["_law_store", "_law_way", "_law_path", "_law_number", "_law_view"]:List Str).zip [Value.ref σ.sx, .int w 0,pv,nv,vv]).lookup x) H Q X:=fun h q=>ss_ift (ev_eq (ev_loc rfl) ev_int h) q
  refine up9 (P:=fun w=>Res A H σ (dueN w i n (vq k)) Q X→wpF G false ["_law_store", "_law_way", "_law_path", "_law_number", "_law_view"] b__law_asked [.ref σ.sx, .int w 0,pv,nv,vv] H Q X) ?_ ?_ ?_ ?_ ?_ ?_ ?_ ?_ ?_ ?_ w hw <;> intro R <;> refine f_in rfl ?_
  · exact yes rfl (ss_exprW (w_meth (ev_loc rfl) c.st.i c.st.n (by nest_cls) (by rfl) (evl_cons (ev_loc rfl) (evl_cons (ev_loc rfl) evl_nil)) (way0 C c (R.un (fun _ _ q=>q) fun _ _ q=>q))))
  · exact no rfl (yes rfl (ss_exprW (w_meth (ev_loc rfl) c.st.i c.st.n (by nest_cls) (by rfl) (evl_cons (ev_loc rfl) evl_nil) (way1 C c (R.un (fun _ _ q=>q) fun _ _ q=>q)))))
  · exact no rfl (no rfl (yes rfl (ss_exprW (w_meth (ev_loc rfl) c.st.i c.st.n (by nest_cls) (by rfl) (evl_cons (ev_loc rfl) evl_nil) (way2 C c (R.un (fun _ _ q=>q) fun _ _ q=>q))))))
  · exact no rfl (no rfl (no rfl (yes rfl (ss_exprW (w_meth (ev_loc rfl) c.st.i c.st.n (by nest_cls) (by rfl) (evl_cons (ev_loc rfl) evl_nil) (way3 C c (R.un (fun _ _ q=>q) fun _ _ q=>q)))))))
  · exact no rfl (no rfl (no rfl (no rfl (yes rfl (ss_exprW (w_meth (ev_loc rfl) c.st.i c.st.n (by nest_cls) (by rfl) (evl_cons (ev_loc rfl) (evl_cons (ev_loc rfl) evl_nil)) (way4 C c (R.un (fun _ _ q=>q) fun _ _ q=>q))))))))
  · exact no rfl (no rfl (no rfl (no rfl (no rfl (yes rfl (ss_exprW (w_meth (ev_loc rfl) c.st.i c.st.n (by nest_cls) (by rfl) (evl_cons (ev_loc rfl) (evl_cons (ev_loc rfl) evl_nil)) (way5 C c (R.un (fun _ _ q=>q) fun _ _ q=>q)))))))))
  · exact no rfl (no rfl (no rfl (no rfl (no rfl (no rfl (yes rfl (ss_exprW (w_meth (ev_loc rfl) c.st.i c.st.n (by nest_cls) (by rfl) (evl_cons (ev_loc rfl) (evl_cons (ev_loc rfl) evl_nil)) (way6 C c (R.un (fun _ _ q=>q) fun _ _ q=>q))))))))))
  · exact no rfl (no rfl (no rfl (no rfl (no rfl (no rfl (no rfl (yes rfl (ss_exprW (w_meth (ev_loc rfl) c.st.i c.st.n (by nest_cls) (by rfl) (evl_cons ev_none (evl_cons (ev_loc rfl) evl_nil)) (way7 C c (R.un (fun _ _ q=>q) fun _ _ q=>q)))))))))))
  · exact no rfl (no rfl (no rfl (no rfl (no rfl (no rfl (no rfl (no rfl (yes rfl (ss_exprW (w_meth (ev_loc rfl) c.st.i c.st.n (by nest_cls) (by rfl) (evl_cons (ev_loc rfl) (evl_cons ev_int evl_nil)) (way8 C c (R.un (fun _ _ q=>q) fun _ _ q=>q))))))))))))
  · exact no rfl (no rfl (no rfl (no rfl (no rfl (no rfl (no rfl (no rfl (no rfl (ss_exprW (w_meth (ev_loc rfl) c.st.i c.st.n (by nest_cls) (by rfl) (evl_cons (ev_loc rfl) evl_nil) (way9 C c (R.un (fun _ _ q=>q) fun _ _ q=>q))))))))))))
theorem wh_named {c y:Str} {body:List Sm} {hs:List Hd} {C D:Addr} {Q:QS} {X:XS} (hg:G.glob c = some (.ref D)) (he:G.isExc D = true) (hsub:G.sub C D = true) (q:∀ e,H e = none→wpSs G true body (l.upd y (.ref e)) (H.upd e (.exc C)) (fun f l' H'=>Q f (l'.del y) (H'.del e)) (fun _ _ _=>False)):wpH G (.mk c (some y) body :: hs) C l H Q X:=by
  show (match G.glob c with | some (.ref D)=>_ | _=>False)
  rw [hg]
  refine ⟨he, ?_⟩
  rw [hsub]
  exact q
theorem del_upd {e:Addr} {o:AObj} (h:H e = none):(H.upd e o).del e = H:=by
  funext b
  show (if b = e then none else (if b = e then some o else H b)) = H b
  split
  · rename_i q;rw [q,h]
  · rfl
theorem ev_isx {C D:Addr} {e:Addr} {cn:Str} (he:Ev G hm x l H (.ref e)) (hh:H e = some (.exc C)) (hc:G.isExc C = true) (hg:G.glob cn = some (.ref D)) (hd:G.isExc D = true):Ev G hm (.isi x (.cls cn)) l H (.bool (G.sub C D)):=.mk fun Q X q=>he.run (fun v H1=>isiV G v (.cls cn) H1 Q) X (by
  conv=>whnf
  rw [hh]
  refine ⟨hc, ?_⟩
  show (match G.glob cn with | some (.ref D)=>_ | _=>False)
  rw [hg]
  exact ⟨hd,q⟩)
theorem ev_isv {C:Addr} {e:Addr} (he:Ev G hm x l H (.ref e)) (hh:H e = some (.exc C)) (hc:G.isExc C = true):Ev G hm (.isi x .valueError) l H (.bool true):=.mk fun Q X q=>he.run (fun v H1=>isiV G v .valueError H1 Q) X (by
  conv=>whnf
  rw [hh]
  exact ⟨hc,q⟩)
noncomputable abbrev EXD:List Str:=["BadPath", "BadNumber", "LeafThere", "BranchThere", "Nothing", "NoShot", "NoBox"]
structure SubX (G:Gx) (A:Ad):Prop where
  chk:(([1,2,3,4,5,6]:List Nat).all fun d=>G.sub (A (exN d) "") (A "SnapError" "") && EXD.all fun x=>G.sub (A (exN d) "") (A x "") == decide (exN d = x)) = true
theorem SubX.gg {g:Gx} (f:SubX g A) (tab:Tab) (n:Nat):SubX (GG g tab n) A:=by cases n <;> exact ⟨f.chk⟩
theorem mem6 {d:Nat} (h:d≠0) (h6:d≤6):d∈([1,2,3,4,5,6]:List Nat):=by
  rcases Nat.lt_or_ge d 1 with z | z
  · exact absurd (Nat.lt_one_iff.1 z) h
  · exact (by decide:∀ d < 7,1≤d→d∈([1,2,3,4,5,6]:List Nat)) d (Nat.lt_succ_of_le h6) z
theorem SubX.at_ (U:SubX G A) {d:Nat} (h:d≠0) (h6:d≤6):G.sub (A (exN d) "") (A "SnapError" "") = true∧∀ x∈EXD,G.sub (A (exN d) "") (A x "") = decide (exN d = x):=by
  have:=List.all_eq_true.1 U.chk d (mem6 h h6)
  obtain ⟨h1,h2⟩:=Bool.and_eq_true_iff.1 this
  exact ⟨h1,fun x hx=>beq_iff_eq.1 (List.all_eq_true.1 h2 x hx)⟩
theorem exc_at (F:EnvS G A) {d:Nat} (h:d≠0) (h6:d≤6):G.isExc (A (exN d) "") = true:=by
  have hm:=mem6 h h6
  rcases List.mem_cons.1 hm with rfl | hm
  · exact (F.ex rfl).2
  rcases List.mem_cons.1 hm with rfl | hm
  · exact (F.ex rfl).2
  rcases List.mem_cons.1 hm with rfl | hm
  · exact (F.ex rfl).2
  rcases List.mem_cons.1 hm with rfl | hm
  · exact (F.ex rfl).2
  rcases List.mem_cons.1 hm with rfl | hm
  · exact (F.ex rfl).2
  rw [List.mem_singleton.1 hm]
  exact (F.ex rfl).2
noncomputable def mb (p e c:Str):Str:=Txt.mul p (if decide (e = c) = true then 1 else 0)
noncomputable def t1 (e:Str):Str:=mb "path " e "BadPath"++mb "number " e "BadNumber"
noncomputable def t2 (e:Str):Str:=t1 e++mb "leaf " e "LeafThere"++mb "branch " e "BranchThere"
noncomputable def t3 (e:Str):Str:=t2 e++mb "nothing " e "Nothing"++mb "shot " e "NoShot"
noncomputable def t4 (e:Str):Str:=t3 e++mb "box " e "NoBox"++Txt.mul "value" 1
theorem tell6:∀ d∈([1,2,3,4,5,6]:List Nat),t4 (exN d) = wd d++" value" := by decide +kernel
theorem mb_len (p e c:Str):(mb p e c).length≤p.length:=by
  unfold mb
  split
  · exact Nat.le_refl _
  · exact Nat.zero_le _
theorem cat_len {p r:Str} {a b:Nat} (h1:p.length≤a) (h2:r.length≤b):(p++r).length≤a + b:=Nat.le_trans (Nat.le_of_eq (show (p.cps++r.cps).size = p.cps.size + r.cps.size from Array.size_append)) (Nat.add_le_add h1 h2)
theorem cat_line {p r:Str} {a b:Nat} (h1:p.length≤a) (h2:r.length≤b) (h:a + b≤1000):p.length + r.length≤sizeLine:=Nat.le_trans (Nat.add_le_add h1 h2) (Nat.le_trans h (by decide))
theorem one_le (b:Bool):(if b = true then (1:Int) else 0)≤1000∧-1000≤(if b = true then (1:Int) else 0):=by cases b <;> exact ⟨by decide,by decide⟩
theorem t1_len (e:Str):(t1 e).length≤12:=cat_len (a:=5) (b:=7) (mb_len _ _ _) (mb_len _ _ _)
theorem t2_len (e:Str):(t2 e).length≤24:=cat_len (a:=17) (b:=7) (cat_len (b:=5) (t1_len e) (mb_len _ _ _)) (mb_len _ _ _)
theorem t3_len (e:Str):(t3 e).length≤37:=cat_len (a:=32) (b:=5) (cat_len (b:=8) (t2_len e) (mb_len _ _ _)) (mb_len _ _ _)
noncomputable def C_told (G:Gx) (A:Ad):Prop:=∀ ⦃H:Hp⦄ ⦃σ:SA⦄ ⦃s:Sto⦄ ⦃one two other:Str⦄ ⦃i n k w:Nat⦄ ⦃pv nv vv:Value⦄,w≤9→Cx A H σ s one two other i n k pv nv vv→∀ ⦃d:Nat⦄,dueN w i n (vq k) = d→d≤6→∀ ⦃Q:QV⦄ ⦃X:XV⦄,(d = 0→∀ H',Kp σ.M H H'→Q (.str "" 0) H')→(d≠0→∀ H',Kp [] H H'→Q (.str (wd d++" value") 0) H')→G.fn (A "_law_told" "") false [.ref σ.sx, .int w 0,pv,nv,vv] H Q X
theorem told_ok (F:EnvS G A) (LE:LEnv G A FS) (U:SubX G A) (C:C_asked G A) (hw:w≤9) (c:Cx A H σ s one two other i n k pv nv vv) {d:Nat} (hd:dueN w i n (vq k) = d) (h6:d≤6) (q0:d = 0→∀ H',Kp σ.M H H'→Q (.str "" 0) H') (q1:d≠0→∀ H',Kp [] H H'→Q (.str (wd d++" value") 0) H') :
    wpF G false ["_law_store", "_law_way", "_law_path", "_law_number", "_law_view"] b__law_told [.ref σ.sx, .int w 0,pv,nv,vv] H Q X:=by
  refine f_in rfl ?_
  refine ss_tryW (ss_exprW (w_call (by mem_news) (by nest_cls) (evl_cons (ev_loc rfl) (evl_cons (ev_loc rfl) (evl_cons (ev_loc rfl) (evl_cons (ev_loc rfl) (evl_cons (ev_loc rfl) evl_nil))))) (C hw c ⟨fun e r H' k'=>?_,fun e H' k'=>?_⟩)))
  · exact ss_nl (Q:=sq G false [.ret (.str "")] (fq Q) (fx X)) (sq_next (ss_ret ev_str (q0 (hd ▸ e) H' k')))
  rw [hd] at e ⊢
  have he:=exc_at F e h6
  obtain ⟨u1,u2⟩:=U.at_ e h6
  refine ⟨rfl,he,wh_named (F.ex (x := "SnapError") rfl).1 (F.ex (x := "SnapError") rfl).2 u1 fun ea hea=>?_⟩
  have hx:=Hp.upd_same H' ea (.exc (A (exN d) ""))
  have q:=q1 e _ k'
  rw [← del_upd (o:=.exc (A (exN d) "")) hea,← tell6 d (mem6 e h6)] at q
  generalize H'.upd ea (.exc (A (exN d) "")) = H1 at hx q ⊢
  have part:∀ {l:Loc} (p cn:Str),l "e" = some (.ref ea)→p.length≤1000→G.glob cn = some (.ref (A cn ""))→G.isExc (A cn "") = true→cn∈EXD→Ev G true (.bin .Mult (.str p) (.bf .int [.isi (.loc "e") (.cls cn)])) l H1 (.str (mb p (exN d) cn) 0):=fun p cn hl hp hg hi hm =>
    ev_rep ev_str (ev_intb (ev_cast (ev_isx (ev_loc hl) hx he hg hi) (by rw [u2 cn hm]))) hp (one_le _).1 (one_le _).2
  refine ss_asg (v:=.str (t1 (exN d)) 0) (ev_cat (part "path " "BadPath" rfl (by decide +kernel) (F.ex rfl).1 (F.ex rfl).2 (by decide +kernel)) (part "number " "BadNumber" rfl (by decide +kernel) (F.ex rfl).1 (F.ex rfl).2 (by decide +kernel)) (cat_line (a:=5) (b:=7) (mb_len _ _ _) (mb_len _ _ _) (by decide))) ?_
  refine ss_asg (v:=.str (t2 (exN d)) 0) (ev_cat (ev_cat (ev_loc rfl) (part "leaf " "LeafThere" rfl (by decide +kernel) (F.ex rfl).1 (F.ex rfl).2 (by decide +kernel)) (cat_line (b:=5) (t1_len _) (mb_len _ _ _) (by decide))) (part "branch " "BranchThere" rfl (by decide +kernel) (F.ex rfl).1 (F.ex rfl).2 (by decide +kernel)) (cat_line (b:=7) (cat_len (b:=5) (t1_len _) (mb_len _ _ _)) (mb_len _ _ _) (by decide))) ?_
  refine ss_asg (v:=.str (t3 (exN d)) 0) (ev_cat (ev_cat (ev_loc rfl) (part "nothing " "Nothing" rfl (by decide +kernel) (F.ex rfl).1 (F.ex rfl).2 (by decide +kernel)) (cat_line (b:=8) (t2_len _) (mb_len _ _ _) (by decide))) (part "shot " "NoShot" rfl (by decide +kernel) (F.ex rfl).1 (F.ex rfl).2 (by decide +kernel)) (cat_line (b:=5) (cat_len (b:=8) (t2_len _) (mb_len _ _ _)) (mb_len _ _ _) (by decide))) ?_
  refine ss_ret (r:=[]) (v:=.str (t4 (exN d)) 0) (ev_cat (ev_cat (ev_loc rfl) (part "box " "NoBox" rfl (by decide +kernel) F.p.nobox F.p.nobe (by decide +kernel)) (cat_line (b:=4) (t3_len _) (mb_len _ _ _) (by decide))) (ev_rep ev_str (ev_intb (b:=true) (ev_isv (ev_loc rfl) hx he)) (by decide +kernel) (by decide) (by decide)) (cat_line (b:=5) (cat_len (b:=4) (t3_len _) (mb_len _ _ _)) (Nat.le_of_ble_eq_true (by decide +kernel)) (by decide))) ?_
  exact q
end
end Mine.L5
end

section
open PySem PyProof.Rows
namespace Mine.L5
open Mine Mine.St Mine.Lw
section
variable {A:Ad} {G:Gx} {H H':Hp} {Q:QV} {X:XV} {l:Loc} {hm:Bool} {x y z:Ex} {σ:SA} {s:Sto} {one two other:Str}
structure Mk (G:Gx) (hm:Bool) (l:Loc) (e:Ex) (P:Hp→Value→Prop):Prop where
  kp:∀ H H' v,Kp [] H H'→P H v→P H' v
  run:∀ (H:Hp) (Q:QV) (X:XV),(∀ v H',Kp [] H H'→P H' v→Q v H')→wpE G hm e l H Q X
inductive Mks (G:Gx) (hm:Bool) (l:Loc):List Ex→List (Hp→Value→Prop)→Prop where
  | nil:Mks G hm l [] []
  | cons {e:Ex} {es:List Ex} {P:Hp→Value→Prop} {Ps:List (Hp→Value→Prop)}:Mk G hm l e P→Mks G hm l es Ps→Mks G hm l (e :: es) (P :: Ps)
theorem Mks.kp {es:List Ex} {Ps:List (Hp→Value→Prop)} (h:Mks G hm l es Ps) (k:Kp [] H H') {vs:List Value} (a:All2 (fun (P:Hp→Value→Prop) v=>P H v) Ps vs):All2 (fun (P:Hp→Value→Prop) v=>P H' v) Ps vs:=by
  induction h generalizing vs with
  | nil=>cases a;exact .nil
  | cons h1 _ ih=>cases a with | cons a1 a2=>exact .cons (h1.kp _ _ _ k a1) (ih a2)
theorem Mks.run {es:List Ex} {Ps:List (Hp→Value→Prop)} (h:Mks G hm l es Ps):∀ (H:Hp) (Q:List Value→Hp→Prop) (X:XV),(∀ vs H',Kp [] H H'→All2 (fun (P:Hp→Value→Prop) v=>P H' v) Ps vs→Q vs H')→wpEs G hm es l H Q X:=by
  induction h with
  | nil=>exact fun H Q X q=>wl_nil (q [] H (Kp.refl _ _) .nil)
  | cons h1 _ ih =>
    intro H Q X q
    refine wl_cons (h1.run H _ X fun v H1 k1 p1=>ih H1 _ X fun vs H2 k2 a2=>q _ H2 (k1.trans k2) (.cons (h1.kp _ _ _ k2 p1) a2))
theorem w_mks {es:List Ex} {Ps:List (Hp→Value→Prop)} (h:Mks G hm l es Ps) (hz:Ps.length≤100) (q:∀ c vs H',Kp [] H H'→H' c = some (.list vs)→All2 (fun (P:Hp→Value→Prop) v=>P H' v) Ps vs→Q (.ref c) H'):wpE G hm (.list es) l H Q X :=
  w_listW (h.run H _ X fun vs H1 k1 a1=>⟨by rw [← all2_len a1];exact Nat.le_trans hz (by decide),fun c hc=>q c vs _ (k1.trans (kp_new hc _)) (Hp.upd_same _ _ _) (h.kp (kp_new hc _) a1)⟩)
theorem all2_at {α β:Type} {R:α→β→Prop} {as:List α} {bs:List β} (h:All2 R as bs):∀ (i:Nat) (a:α),as[i]? = some a→∃ b,bs[i]? = some b∧R a b:=by
  induction h with
  | nil=>exact fun i a e=>by cases e
  | @cons a b as bs h1 _ ih =>
    intro i
    cases i with
    | zero=>exact fun c e=>⟨b,rfl,by cases e;exact h1⟩
    | succ i=>exact fun c e=>ih i c e
theorem at_nat {α:Type} {xs:List α} {i:Nat} {v:α} (h:xs[i]? = some v):at? xs (i:Int) = some v:=by
  unfold at?
  rw [if_pos (Int.natCast_nonneg i),Int.toNat_natCast];exact h
theorem mk_ev {e:Ex} {v:Value} {P:Hp→Value→Prop} (he:∀ H,Ev G hm e l H v) (kp:∀ H H' v,Kp [] H H'→P H v→P H' v) (p:∀ H,P H v):Mk G hm l e P:=⟨kp,fun H Q X q=>w_ev (he H) (q v H (Kp.refl _ _) (p H))⟩
theorem mk_list {es:List Ex} {vs:List Value} {P:Hp→Value→Prop} (he:∀ H,EvL G hm es l H vs) (hz:vs.length≤100) (kp:∀ H H' v,Kp [] H H'→P H v→P H' v) (p:∀ (H:Hp) c,H c = some (.list vs)→P H (.ref c)):Mk G hm l (.list es) P :=
  ⟨kp,fun H Q X q=>w_list (he H) (Nat.le_trans hz (by decide)) fun c hc=>q _ _ (kp_new hc _) (p _ c (Hp.upd_same _ _ _))⟩
theorem mk_tup {es:List Ex} {vs:List Value} {P:Hp→Value→Prop} (he:∀ H,EvL G hm es l H vs) (hz:vs.length≤100) (kp:∀ H H' v,Kp [] H H'→P H v→P H' v) (p:∀ (H:Hp) c,H c = some (.tup vs)→P H (.ref c)):Mk G hm l (.tup es) P :=
  ⟨kp,fun H Q X q=>w_tup (he H) (Nat.le_trans hz (by decide)) fun c hc=>q _ _ (kp_new hc _) (p _ c (Hp.upd_same _ _ _))⟩
theorem mk_dict {P:Hp→Value→Prop} (kp:∀ H H' v,Kp [] H H'→P H v→P H' v) (p:∀ (H:Hp) c,H c = some (.idict [])→P H (.ref c)):Mk G hm l (.dict [] []) P :=
  ⟨kp,fun H Q X q=>w_dict0 fun c hc=>q _ _ (kp_new hc _) (p _ c (Hp.upd_same _ _ _))⟩
theorem mk_mks {es:List Ex} {Ps:List (Hp→Value→Prop)} {P:Hp→Value→Prop} (h:Mks G hm l es Ps) (hz:Ps.length≤100) (kp:∀ H H' v,Kp [] H H'→P H v→P H' v) (p:∀ (H:Hp) c vs,H c = some (.list vs)→All2 (fun (P:Hp→Value→Prop) v=>P H v) Ps vs→P H (.ref c)):Mk G hm l (.list es) P :=
  ⟨kp,fun H Q X q=>w_mks h hz fun c vs H' k h1 h2=>q _ _ k (p H' c vs h1 h2)⟩
theorem PathV.kp {i:Nat} {v:Value} (k:Kp [] H H') (h:PathV H one two other i v):PathV H' one two other i v:=⟨fun hi=>let ⟨a,e,p⟩:=h.good hi;⟨a,e,p.kp k⟩,fun hi=>(h.bad hi).kp k⟩
noncomputable def vS (xs:List Str):List Value:=xs.map fun x=>Value.str x 0
theorem gp_good (m:Nm3 one two other) {i:Nat} (hi:i≤8):∀ x∈gp one two other i,Good x:=by
  intro x hx
  have:x = one∨x = two∨x = other:=up8 (P:=fun i=>x∈gp one two other i→x = one∨x = two∨x = other) (fun hx=>.inl (List.mem_singleton.1 hx)) (fun hx=>(List.mem_cons.1 hx).imp id fun h=>.inl (List.mem_singleton.1 h)) (fun hx=>.inr (.inr (List.mem_singleton.1 hx)))
    (fun hx=>(List.mem_cons.1 hx).elim (fun h=>.inr (.inr h)) fun h=>.inl (List.mem_singleton.1 h)) (fun hx=>(List.mem_cons.1 hx).elim (fun h=>.inr (.inr h)) fun h=>(List.mem_cons.1 h).elim (fun h=>.inr (.inl h)) fun h=>.inl (List.mem_singleton.1 h)) (fun hx=>.inr (.inl (List.mem_singleton.1 hx)))
    (fun hx=>(List.mem_cons.1 hx).imp id fun h=>.inr (List.mem_singleton.1 h)) (fun hx=>(List.mem_cons.1 hx).imp id fun h=>.inl ((List.mem_cons.1 h).elim id fun h=>List.mem_singleton.1 h)) (fun hx=>absurd hx List.not_mem_nil) i hi hx
  rcases this with rfl | rfl | rfl
  · exact m.g1
  · exact m.g2
  · exact m.g3
theorem gp_le (i:Nat) (hi:i≤8):(gp one two other i).length≤8:=by
  rw [gp_len i hi]
  exact (by decide:∀ i < 9,([1,2,1,2,3,1,2,3,0]:List Nat).getD i 0≤8) i (Nat.lt_succ_of_le hi)
noncomputable abbrev PV (one two other:Str) (i:Nat):Hp→Value→Prop:=fun H v=>PathV H one two other i v
theorem mk_good (m:Nm3 one two other) {i:Nat} (hi:i≤8) {es:List Ex} (he:∀ H,EvL G hm es l H (vS (gp one two other i))):Mk G hm l (.list es) (PV one two other i) :=
  mk_list he (by unfold vS;rw [List.length_map];exact Nat.le_trans (gp_le i hi) (by decide)) (fun _ _ _ k h=>PathV.kp k h) fun H c hc =>
    ⟨fun _=>⟨c,rfl,path_list hc (gp_good m hi) (gp_le i hi)⟩,fun h=>absurd h (Nat.not_lt.2 hi)⟩
theorem pv_bad {i:Nat} (hi:8 < i) {v:Value} (h:BadP H v):PathV H one two other i v:=⟨fun z=>absurd hi (Nat.not_lt.2 z),fun _=>h⟩
theorem bad_list {c:Addr} {vs:List Value} (hc:H c = some (.list vs)) (hz:vs.length≤8) (ht:∀ v∈vs,Thing H v) (hb:∃ v∈vs,nmB v = false):BadP H (.ref c):=.bad hc hz ht (by
  obtain ⟨v,hv,e⟩:=hb
  rw [List.all_eq_false]
  exact ⟨v,hv,by rw [e];decide⟩)
theorem thing1 {a:Value} (h:Thing H a):∀ v∈[a],Thing H v:=fun v hv=>by rw [List.mem_singleton.1 hv];exact h
theorem thing2 {a b:Value} (h:Thing H a) (h2:Thing H b):∀ v∈[a,b],Thing H v:=fun v hv=>(List.mem_cons.1 hv).elim (fun e=>by rw [e];exact h) fun hv=>by rw [List.mem_singleton.1 hv];exact h2
theorem thing_good {x:Str} (h:Good x):Thing H (.str x 0):=.str x (Nat.le_trans h.hi (by decide))
theorem mk_bad1 {i:Nat} (hi:8 < i) {e:Ex} {v:Value} (he:∀ H,Ev G hm e l H v) (ht:∀ H,Thing H v) (hb:nmB v = false):Mk G hm l (.list [e]) (PV one two other i) :=
  mk_list (vs:=[v]) (fun H=>evl_cons (he H) evl_nil) (Nat.le_of_ble_eq_true rfl) (fun _ _ _ k h=>PathV.kp k h) fun H c hc=>pv_bad hi (bad_list hc (Nat.le_of_ble_eq_true rfl) (thing1 (ht H)) ⟨v, .head _,hb⟩)
theorem mk_bad2 (g1:Good one) {i:Nat} (hi:8 < i) {e e2:Ex} {v:Value} (he:∀ H,Ev G hm e l H (.str one 0)) (he2:∀ H,Ev G hm e2 l H v) (ht:∀ H,Thing H v) (hb:nmB v = false):Mk G hm l (.list [e,e2]) (PV one two other i) :=
  mk_list (vs:=[.str one 0,v]) (fun H=>evl_cons (he H) (evl_cons (he2 H) evl_nil)) (Nat.le_of_ble_eq_true rfl) (fun _ _ _ k h=>PathV.kp k h) fun H c hc=>pv_bad hi (bad_list hc (Nat.le_of_ble_eq_true rfl) (thing2 (thing_good g1) (ht H)) ⟨v, .tail _ (.head _),hb⟩)
theorem mk_bad3 (g1:Good one) {i:Nat} (hi:8 < i) {e e2:Ex} (he:∀ H,Ev G hm e l H (.str one 0)) (he2:Mk G hm l e2 fun H v=>Thing H v∧nmB v = false):Mk G hm l (.list [e,e2]) (PV one two other i) :=
  mk_mks (Ps:=[fun H v=>v = .str one 0,fun H v=>Thing H v∧nmB v = false]) (.cons (mk_ev he (fun _ _ _ _ h=>h) fun _=>rfl) (.cons he2 .nil)) (Nat.le_of_ble_eq_true rfl) (fun _ _ _ k h=>PathV.kp k h) fun H c vs hc ha=>by
    cases ha with
    | cons h1 ha=>cases ha with
      | cons h2 ha=>cases ha;subst h1;exact pv_bad hi (bad_list hc (Nat.le_of_ble_eq_true rfl) (thing2 (thing_good g1) h2.1) ⟨_, .tail _ (.head _),h2.2⟩)
theorem w_mulL {e:Ex} {v:Value} (he:Ev G hm e l H v) {n:Int} {vs:List Value} (hn:n≤1000) (h0:-1000≤n) (hv:(List.replicate n.toNat [v]).flatten = vs) (q:∀ c H',Kp [] H H'→H' c = some (.list vs)→Q (.ref c) H'):wpE G hm (.bin .Mult (.list [e]) (.int n)) l H Q X:=by
  refine w_binW (w_list (evl_cons he evl_nil) (Nat.le_of_ble_eq_true rfl) fun c hc=>w_ev ev_int ?_)
  have k1:=kp_new (M:=[]) hc (.list [v])
  have e1:=Hp.upd_same H c (.list [v])
  generalize H.upd c (.list [v]) = H1 at k1 e1 ⊢
  conv=>whnf
  rw [e1]
  refine ⟨hn,h0,Nat.le_of_ble_eq_true rfl,fun d hd=>?_⟩
  rw [hv]
  exact q d _ (k1.trans (kp_new hd _)) (Hp.upd_same _ _ _)
theorem mk_nine {e:Ex} (he:∀ H,Ev G hm e l H (.str one 0)):Mk G hm l (.bin .Mult (.list [e]) (.int 9)) (PV one two other 13) :=
  ⟨fun _ _ _ k h=>PathV.kp k h,fun H Q X q=>w_mulL (he H) (vs:=List.replicate 9 (.str one 0)) (by decide) (by decide) rfl fun c H' k hc=>q _ _ k (pv_bad (by decide) (.long hc (Nat.le_of_ble_eq_true rfl)))⟩
theorem mk_dict1 {e:Ex} (he:∀ H,Ev G hm e l H (.str one 0)):Mk G hm l (.dict [e] [.bool true]) (PV one two other 17) :=
  ⟨fun _ _ _ k h=>PathV.kp k h,fun H Q X q=>(evl_cons (he H) evl_nil).run (fun a H1=>wpEs G hm [.bool true] l H1 (fun b H2=>dictV a b H2 Q) X) X ((evl_cons ev_bool evl_nil).run (fun b H2=>dictV [.str one 0] b H2 Q) X
    (.inr ⟨[one],rfl,List.nodup_cons.2 ⟨List.not_mem_nil,List.nodup_nil⟩,rfl,Nat.le_of_ble_eq_true rfl,by simp,fun c hc=>q _ _ (kp_new hc _) (pv_bad (by decide) (.ref (Hp.upd_same _ _ _) rfl))⟩))⟩
theorem app1_good {w:Str} (h:Wd w) {c:Nat} (hc:97≤c∧c≤122) {t:Str} (ht:t.cps.toList = [c]):Good (w++t):=by
  refine ⟨?_, ?_,fun d hd=>?_⟩
  · rw [app_cps,ht,List.length_append];exact Nat.le_add_left 1 _
  · rw [app_cps,ht,List.length_append];exact Nat.succ_le_succ h.hi
  · rw [app_cps,ht] at hd
    rcases List.mem_append.1 hd with hd | hd
    · exact h.cs d hd
    · rw [List.mem_singleton.1 hd];exact hc
theorem app1_ne {w t u:Str} (h:t.cps.toList≠u.cps.toList):w++t≠w++u:=fun e=>by
  have:=congrArg (fun s:Str=>s.cps.toList) e
  rw [app_cps,app_cps] at this
  exact h (List.append_cancel_left this)
theorem lt_app (p:List Nat) {a b:Nat} (h:a < b):p++[a] < p++[b]:=by
  induction p with
  | nil=>exact List.Lex.rel h
  | cons c p ih=>exact List.Lex.cons ih
theorem nm3 {w:Str} (h:Wd w):Nm3 (w++"a") (w++"b") (w++"c") where
  g1:=app1_good h (c:=97) (by decide) rfl
  g2:=app1_good h (c:=98) (by decide) rfl
  g3:=app1_good h (c:=99) (by decide) rfl
  n12:=app1_ne (by decide)
  n13:=app1_ne (by decide)
  n23:=app1_ne (by decide)
  lt:=by
    unfold lessS
    rw [app_cps,app_cps]
    exact decide_eq_true (lt_app _ (by decide))
noncomputable def w9 (w:Str):Str:=w++⟨(pySlice (Str.ofString "abcdefghi").cps.toList none (some (9 - (w.length:Int)))).toArray⟩
theorem slice9:∀ n:Nat,n≤7→(pySlice (Str.ofString "abcdefghi").cps.toList none (some (9 - (n:Int)))).length = 9 - n:=by decide +kernel
theorem w9_len {w:Str} (h:Wd w):(w9 w).length = 9:=by
  have hw:w.length≤7:=h.hi
  show (w9 w).cps.size = 9
  rw [← Array.length_toList,w9,app_cps,List.length_append]
  show w.cps.toList.length + ((pySlice (Str.ofString "abcdefghi").cps.toList none (some (9 - (w.length:Int)))).toArray.toList).length = 9
  rw [List.toList_toArray,slice9 w.length hw]
  exact Nat.add_sub_cancel' (Nat.le_trans hw (by decide))
theorem w9_bad {w:Str} (h:Wd w):nmB (.str (w9 w) 0) = false:=by
  show goodB (w9 w) = false
  unfold goodB
  rw [w9_len h];rfl
noncomputable def C_paths (G:Gx) (A:Ad):Prop:=∀ ⦃H:Hp⦄ ⦃w:Str⦄,Wd w→∀ ⦃Q:QV⦄ ⦃X:XV⦄,(∀ c vs H',Kp [] H H'→H' c = some (.list vs)→All2 (fun (P:Hp→Value→Prop) v=>P H' v) ((List.range 21).map (PV (w++"a") (w++"b") (w++"c"))) vs→Q (.ref c) H')→G.fn (A "_law_paths" "") false [.str w 0] H Q X
theorem all2_kp {one two other:Str} (k:Kp [] H H') (L:List Nat):∀ {vs:List Value},All2 (fun (P:Hp→Value→Prop) v=>P H v) (L.map (PV one two other)) vs→All2 (fun (P:Hp→Value→Prop) v=>P H' v) (L.map (PV one two other)) vs:=by
  induction L with
  | nil=>intro vs a;cases a;exact .nil
  | cons i L ih=>intro vs a;cases a with | cons a1 a2=>exact .cons (PathV.kp k a1) (ih a2)
theorem paths_ok {w:Str} (h:Wd w) (q:∀ c vs H',Kp [] H H'→H' c = some (.list vs)→All2 (fun (P:Hp→Value→Prop) v=>P H' v) ((List.range 21).map (PV (w++"a") (w++"b") (w++"c"))) vs→Q (.ref c) H'):wpF G false ["_law_word"] b__law_paths [.str w 0] H Q X:=by
  have m:=nm3 h
  have z1:w.length + 1≤sizeLine:=Nat.le_trans (Nat.succ_le_succ h.hi) (by decide)
  refine f_in rfl ?_
  refine ss_asg (v:=.str (w++"a") 0) (ev_cat (ev_loc rfl) ev_str z1) ?_
  refine ss_asg (v:=.str (w++"b") 0) (ev_cat (ev_loc rfl) ev_str z1) ?_
  refine ss_asg (v:=.str (w++"c") 0) (ev_cat (ev_loc rfl) ev_str z1) ?_
  refine ss_asgW (w_mks (Ps:=(List.range 9).map (PV (w++"a") (w++"b") (w++"c"))) (.cons (mk_good m (i:=0) (by decide) fun H=>by mem_news) (.cons (mk_good m (i:=1) (by decide) fun H=>by mem_news) (.cons (mk_good m (i:=2) (by decide) fun H=>by mem_news) (.cons (mk_good m (i:=3) (by decide) fun H=>by mem_news) (.cons (mk_good m (i:=4) (by decide) fun H=>by mem_news) (.cons (mk_good m (i:=5) (by decide) fun H=>by mem_news) (.cons (mk_good m (i:=6) (by decide) fun H=>by mem_news) (.cons (mk_good m (i:=7) (by decide) fun H=>by mem_news) (.cons (mk_good m (i:=8) (by decide) fun H=>by mem_news) .nil))))))))) (Nat.le_of_ble_eq_true rfl) fun c1 v1 H1 k1 e1 a1=>?_)
  refine ss_asgW (w_mks (Ps:=([9,10,11,12,13,14,15]:List Nat).map (PV (w++"a") (w++"b") (w++"c"))) (.cons (mk_ev (fun H=>ev_str) (fun _ _ _ k h=>PathV.kp k h) fun H=>pv_bad (by decide) (.str _)) (.cons (mk_ev (fun H=>ev_none) (fun _ _ _ k h=>PathV.kp k h) fun H=>pv_bad (by decide) .none)
    (.cons (mk_bad1 (by decide) (fun H=>ev_str) (fun H=>.str _ (by decide +kernel)) (by decide +kernel)) (.cons (mk_bad2 m.g1 (by decide) (fun H=>ev_loc rfl) (fun H=>ev_str) (fun H=>.str _ (by decide +kernel)) (by decide +kernel)) (.cons (mk_nine fun H=>ev_loc rfl) (.cons (mk_bad2 m.g1 (by decide) (fun H=>ev_loc rfl) (fun H=>ev_int) (fun H=>.int _) rfl)
    (.cons (mk_bad1 (v:=.str (w9 w) 0) (by decide) (fun H=>ev_cat (ev_loc rfl) (ev_to ev_str (ev_sub ev_int (ev_lens (ev_loc rfl) (Nat.le_trans h.hi (by decide)))) (by decide +kernel)) ?_) (fun H=>.str _ (by rw [w9_len h];decide)) (w9_bad h)) .nil))))))) (Nat.le_of_ble_eq_true rfl) fun c2 v2 H2 k2 e2 a2=>?_)
  · have:=w9_len h
    exact Nat.le_trans (Nat.le_of_eq (((Array.size_append (xs:=w.cps)).symm).trans this)) (by decide)
  have e1:=k2.list e1
  have a1:=all2_kp k2 _ a1
  refine ss_retW (w_binW (w_addl (ev_loc rfl) (ev_loc rfl) e1 e2 (by rw [← all2_len a1,← all2_len a2];exact Nat.le_of_ble_eq_true rfl) fun c3 hc3=>?_))
  have k3:=kp_new (M:=[]) hc3 (.list (v1++v2))
  have e3:=Hp.upd_same H2 c3 (.list (v1++v2))
  generalize H2.upd c3 (.list (v1++v2)) = H3 at k3 e3 ⊢
  refine w_mks (Ps:=([16,17,18,19,20]:List Nat).map (PV (w++"a") (w++"b") (w++"c"))) (.cons (mk_dict (fun _ _ _ k h=>PathV.kp k h) fun H c hc=>pv_bad (by decide) (.ref hc rfl)) (.cons (mk_dict1 fun H=>ev_loc rfl) (.cons (mk_bad1 (by decide) (fun H=>ev_none) (fun H=>.none) rfl)
    (.cons (mk_bad3 m.g1 (by decide) (fun H=>ev_loc rfl) (mk_list (fun H=>evl_cons (ev_loc rfl) evl_nil) (Nat.le_of_ble_eq_true rfl) (fun _ _ _ k h=>⟨h.1.kp k,h.2⟩) fun H c hc=>⟨.ref hc rfl,rfl⟩)) (.cons (mk_bad3 m.g1 (by decide) (fun H=>ev_loc rfl) (mk_dict (fun _ _ _ k h=>⟨h.1.kp k,h.2⟩) fun H c hc=>⟨.ref hc rfl,rfl⟩)) .nil))))) (Nat.le_of_ble_eq_true rfl) fun c4 v4 H4 k4 e4 a4=>?_
  have e3:=k4.list e3
  have a1:=all2_kp (k3.trans k4) _ a1
  have a2:=all2_kp (k3.trans k4) _ a2
  have aa:=all2_append (all2_append a1 a2) a4
  refine addl_at e3 e4 (by rw [← all2_len (all2_append a1 a2),← all2_len a4];exact Nat.le_of_ble_eq_true rfl) fun c5 hc5=>?_
  have k5:=kp_new (M:=[]) hc5 (.list (v1++v2++v4))
  exact q c5 _ _ ((((k1.trans k2).trans k3).trans k4).trans k5) (Hp.upd_same _ _ _) (all2_kp k5 (List.range 21) aa)
end
end Mine.L5
end

section
open PySem PyProof.Rows
namespace Mine.L5
open Mine Mine.St Mine.Lw
section
variable {W:Nat→List (Str×Int)} {N:Nat→Str} {s s':Sto} {R R':Nat} {c0:Ct} {j:Nat} {one two other:Str}
theorem sub_one (j i:Nat):j + 1 - 1 - (i + 1) = j - 1 - i:=by
  show j - (i + 1) = j - 1 - i
  rw [Nat.sub_sub,Nat.add_comm 1 i]
theorem sub_up {i j:Nat} (h:i + 1≤j):j - i = j - (i + 1) + 1:=by omega
theorem not_le1 {a b:Int} (h:b≤a) (e:a + 1 = b):False:=Int.lt_irrefl a (Int.lt_of_lt_of_le (Int.lt_succ a) (e ▸ h))
theorem not_le2 {a b:Int} {i:Nat} (h:b≤a) (e:b = a + 1 + 1 + (i:Int)):False:=by omega
theorem ne_up {a:Int} {i:Nat}:a + 1 + (i:Int)≠a:=by omega
theorem newB_at:∀ (j:Nat) {mk:Int} {p:Int×Ct},p∈newB W N j mk mk→∃ i,i < j∧p = (mk + 1 + (i:Int), .br (placedR (W (j - 1 - i)) (N (j - 1 - i)) (mk + (i:Int))))
  | 0,_,_,h=>nomatch h
  | j + 1,mk,p,h=>by
    rcases List.mem_cons.1 h with rfl | h
    · exact ⟨0,Nat.succ_pos j,by rw [show j + 1 - 1 - 0 = j from rfl,Int.natCast_zero,Int.add_zero,Int.add_zero]⟩
    · obtain ⟨i,hi,rfl⟩:=newB_at j h
      refine ⟨i + 1,Nat.succ_lt_succ hi, ?_⟩
      rw [sub_one,← up1 (mk + 1) i,← up1 mk i]
structure Nw (s:Sto) (c0:Ct) (W:Nat→List (Str×Int)) (N:Nat→Str) (j:Nat) (s':Sto):Prop where
  sub:s'.bs.Sublist (s.bs++[(s.made + 1,c0)]++newB W N j (s.made + 1) (s.made + 1))
  tree:s'.tree = s.made + 1 + (j:Int)
theorem nw_mem (n:Nw s c0 W N j s') {p:Int×Ct} (hp:p∈s'.bs):p∈s.bs∨p = (s.made + 1,c0)∨∃ i,i < j∧p = (s.made + 1 + 1 + (i:Int), .br (placedR (W (j - 1 - i)) (N (j - 1 - i)) (s.made + 1 + (i:Int)))):=by
  rcases List.mem_append.1 (n.sub.subset hp) with h | h
  · rcases List.mem_append.1 h with h | h
    · exact .inl h
    · exact .inr (.inl (List.mem_singleton.1 h))
  · exact .inr (.inr (newB_at j h))
theorem nw_like (w:SW R s) (n:Nw s c0 W N j s') {i:Int} {c c':Ct} (h:get s.bs i = some c) (h':get s'.bs i = some c'):c = c':=by
  have hi:=(w.pw.pos i (get_mem h)).2
  rcases nw_mem n (mem_of_get h') with e | e | ⟨k,_,e⟩
  · have:=get_of_mem (asc_nodup w.pw.asc) e
    rw [h] at this;cases this;rfl
  · injection e with e _;exact (not_le1 hi e.symm).elim
  · injection e with e _;exact (not_le2 hi e).elim
theorem nw_new (w:SW R s) (n:Nw s c0 W N j s') {i:Nat} (hi:i < j) (h:s.made + 1 + 1 + (i:Int)∈s'.bs.map (·.1)):get s'.bs (s.made + 1 + 1 + (i:Int)) = some (.br (placedR (W (j - 1 - i)) (N (j - 1 - i)) (s.made + 1 + (i:Int)))):=by
  obtain ⟨c,hc⟩:=get_of_key h
  rcases nw_mem n (mem_of_get hc) with e | e | ⟨k,_,e⟩
  · exact (not_le2 (w.pw.pos _ (List.mem_map.2 ⟨_,e,rfl⟩)).2 rfl).elim
  · injection e with e _;exact absurd e ne_up
  · injection e with e1 e2
    obtain rfl:i = k:=Int.ofNat.inj (Int.add_left_cancel e1)
    rw [hc,e2]
theorem nw_down (w:SW R s) (w':SW R' s') (n:Nw s c0 W N j s') {i:Nat} (hi:i < j) (h:s.made + 1 + 1 + (i:Int)∈s'.bs.map (·.1)):s.made + 1 + (i:Int)∈s'.bs.map (·.1) :=
  w'.pw.clo _ (List.mem_append_left _ (mem_allKids (nw_new w n hi h) (List.mem_map.2 ⟨_,placed_new _ _ _,rfl⟩)))
theorem nw_all (w:SW R s) (w':SW R' s') (n:Nw s c0 W N j s'):∀ i,i≤j→s.made + 1 + (((j - i:Nat)):Int)∈s'.bs.map (·.1)
  | 0,_=>by
    have:=w'.tin
    rw [n.tree] at this;exact this
  | i + 1,hi=>by
    have h:=nw_all w w' n i (Nat.le_of_succ_le hi)
    rw [sub_up hi,← up1 (s.made + 1)] at h
    exact nw_down w w' n (Nat.sub_lt (Nat.lt_of_lt_of_le (Nat.succ_pos i) hi) (Nat.succ_pos i)) h
theorem nw_ex (w:SW R s) (w':SW R' s') (n:Nw s c0 W N j s'):get s'.bs (s.made + 1) = some c0∧∀ i < j,get s'.bs (s.made + 1 + 1 + (i:Int)) = some (.br (placedR (W (j - 1 - i)) (N (j - 1 - i)) (s.made + 1 + (i:Int)))):=by
  have at_:∀ i≤j,s.made + 1 + (i:Int)∈s'.bs.map (·.1):=fun i hi=>by
    have:=nw_all w w' n (j - i) (Nat.sub_le _ _)
    rw [Nat.sub_sub_self hi] at this;exact this
  refine ⟨?_,fun i hi=>nw_new w n hi ?_⟩
  · have h0:=at_ 0 (Nat.zero_le _)
    rw [Int.natCast_zero,Int.add_zero] at h0
    obtain ⟨c,hc⟩:=get_of_key h0
    rcases nw_mem n (mem_of_get hc) with e | e | ⟨k,_,e⟩
    · exact absurd (w.pw.pos _ (List.mem_map.2 ⟨_,e,rfl⟩)).2 (Int.not_le.2 (Int.lt_succ _))
    · injection e with _ e;rw [hc,e]
    · injection e with e _;exact absurd e.symm ne_up
  · have:=at_ (i + 1) hi
    rw [← up1 (s.made + 1) i] at this;exact this
theorem PutN.nw {xs:List Str} {m g:Int} (p:PutN s xs m s' g):∃ W N,(∀ k < xs.length,wayAt s.bs s.tree xs k = some (W k))∧(∀ k < xs.length,xs[k]? = some (N k))∧Nw s (.leaf m) W N xs.length s':=by
  obtain ⟨W,N,h1,h2,h3⟩:=p.bs
  exact ⟨W,N,h1,h2,h3,by rw [p.tree,p.made]⟩
structure P1 (s:Sto) (one two:Str):Prop where
  w:SW 1 s
  made:s.made = 4
  tree:s.tree = 4
  shots:s.shots = []
  last:s.last = 0
  g4:get s.bs 4 = some (.br [(one,3)])
  g3:get s.bs 3 = some (.br [(two,2)])
  g2:get s.bs 2 = some (.leaf 5)
theorem put1 {g:Int} (p:PutN sto0 [one,two] 5 s g) (w:SW 1 s):P1 s one two:=by
  obtain ⟨W,N,hW,hN,nw⟩:=PutN.nw p
  have W0:([]:List (Str×Int)) = W 0:=Option.some.inj (hW 0 (Nat.le_of_ble_eq_true rfl))
  have W1:([]:List (Str×Int)) = W 1:=Option.some.inj (hW 1 (Nat.le_of_ble_eq_true rfl))
  have N0:one = N 0:=Option.some.inj (hN 0 (Nat.le_of_ble_eq_true rfl))
  have N1:two = N 1:=Option.some.inj (hN 1 (Nat.le_of_ble_eq_true rfl))
  obtain ⟨e0,e1⟩:=nw_ex sw_new w nw
  refine ⟨w,p.made,p.tree.trans p.made,p.shots,p.last, ?_, ?_,e0⟩
  · have:=e1 1 (Nat.le_of_ble_eq_true rfl)
    have:get s.bs 4 = some (.br (placedR (W 0) (N 0) 3)):=this
    rw [← W0,← N0] at this;exact this
  · have:=e1 0 (Nat.le_of_ble_eq_true rfl)
    have:get s.bs 3 = some (.br (placedR (W 1) (N 1) 2)):=this
    rw [← W1,← N1] at this;exact this
theorem less_irr (a:Str):lessS a a = false:=decide_eq_false (List.lt_irrefl _)
theorem placed_two (h:lessS one other = true) (a b:Int):placedR [(one,a)] other b = [(one,a),(other,b)]:=by
  have h2:lessS other one = false:=by
    cases e:lessS other one with
    | false=>rfl
    | true=>rw [← less_irr one];exact (lessS_trans h e).symm
  unfold placedR
  rw [List.filter_cons,List.filter_cons]
  show (if lessS one other = true then _ else _)++_++(if lessS other one = true then _ else _) = _
  rw [if_pos h,if_neg (by rw [h2];decide)];rfl
theorem below {R:Nat} (w:SW R s') (h6:get s'.bs 6 = some (.br [(one,3),(other,5)])) (like:∀ i c c',get s.bs i = some c→get s'.bs i = some c'→c = c') (g3:get s.bs 3 = some (.br [(two,2)])) (g2:get s.bs 2 = some (.leaf 5)):get s'.bs 3 = some (.br [(two,2)])∧get s'.bs 2 = some (.leaf 5):=by
  obtain ⟨c3,h3⟩:=get_of_key (w.pw.clo _ (List.mem_append_left _ (mem_allKids (k:=3) h6 (.head _))))
  have:=like _ _ _ g3 h3
  subst this
  obtain ⟨c2,h2⟩:=get_of_key (w.pw.clo _ (List.mem_append_left _ (mem_allKids (k:=2) h3 (.head _))))
  have:=like _ _ _ g2 h2
  subst this
  exact ⟨h3,h2⟩
structure P2 (s:Sto) (one two other:Str) (sh:List (Int×Int)) (n:Int):Prop where
  w:SW 2 s
  made:s.made = 6
  tree:s.tree = 6
  shots:s.shots = sh
  last:s.last = n
  g6:get s.bs 6 = some (.br [(one,3),(other,5)])
  g3:get s.bs 3 = some (.br [(two,2)])
  g2:get s.bs 2 = some (.leaf 5)
  g5:get s.bs 5 = some (.leaf (-7))
theorem put2 (lt:lessS one other = true) {g:Int} (h:P1 s one two) (p:PutN s [other] (-7) s' g) (w:SW 2 s'):P2 s' one two other [] 0:=by
  obtain ⟨W,N,hW,hN,nw⟩:=PutN.nw p
  have W0:[(one,3)] = W 0:=Option.some.inj (by
    rw [← hW 0 (Nat.le_of_ble_eq_true rfl)]
    show _ = (match get s.bs s.tree with | some (.br rows)=>some rows | _=>none)
    rw [h.tree,h.g4])
  have N0:other = N 0:=Option.some.inj (hN 0 (Nat.le_of_ble_eq_true rfl))
  obtain ⟨e0,e1⟩:=nw_ex h.w w nw
  rw [h.made] at e0 e1
  have e1:=e1 0 (Nat.le_of_ble_eq_true rfl)
  have e1:get s'.bs 6 = some (.br (placedR (W 0) (N 0) 5)):=e1
  rw [← W0,← N0,placed_two lt] at e1
  obtain ⟨g3,g2⟩:=below w e1 (fun i c c' a b=>nw_like h.w nw a b) h.g3 h.g2
  have hm:s'.made = 6:=by rw [p.made,h.made];rfl
  exact ⟨w,hm,p.tree.trans hm,p.shots.trans h.shots,p.last.trans h.last,e1,g3,g2,e0⟩
theorem P2.mv {sh sh':List (Int×Int)} {n n':Int} {cs:List (Int×Int)} (h:P2 s one two other sh n) (w:SW 2 { s with cs:=cs,shots:=sh',last:=n' }):P2 { s with cs:=cs,shots:=sh',last:=n' } one two other sh' n':=⟨w,h.made,h.tree,rfl,rfl,h.g6,h.g3,h.g2,h.g5⟩
theorem dropped {sh sh':List (Int×Int)} {n:Int} {bs:List (Int×Ct)} {cs:List (Int×Int)} (h:P2 s one two other sh n) (w:SW 2 { s with bs:=bs,cs:=cs,shots:=sh' }) (sub:bs.Sublist s.bs) (hs:sh' = [(1,6)]):S5 { s with bs:=bs,cs:=cs,shots:=sh' } one two other:=by
  have like:∀ i c c',get s.bs i = some c→get bs i = some c'→c = c':=fun i c c' a b=>by
    have:=get_sub h.w.pw.nd sub b
    rw [a] at this;cases this;rfl
  obtain ⟨c6,h6⟩:=get_of_key w.tin
  rw [show Sto.tree { s with bs:=bs,cs:=cs,shots:=sh' } = 6 from h.tree] at h6
  have:=like _ _ _ h.g6 h6
  subst this
  obtain ⟨g3,g2⟩:=below (s:=s) w h6 like h.g3 h.g2
  obtain ⟨c5,h5⟩:=get_of_key (w.pw.clo _ (List.mem_append_left _ (mem_allKids (k:=5) h6 (.tail _ (.head _)))))
  have:=like _ _ _ h.g5 h5
  subst this
  exact ⟨w,h.made,h.tree,hs,h6,g3,g2,h5⟩
end
end Mine.L5
end

section
open PySem PyProof.Rows
namespace Mine.L5
open Mine Mine.St Mine.Lw
section
variable {A:Ad} {G:Gx} {H H':Hp} {Q:QV} {X:XV} {l:Loc} {hm:Bool} {x y z:Ex} {σ:SA} {s:Sto} {one two other:Str} {i n k w:Nat} {pv nv vv:Value}
theorem NumV.kp {v:Value} (k:Kp [] H H') (h:NumV H n v):NumV H' n v:=⟨h.good,fun z=>(h.bad z).kp k⟩
theorem num_good (hn:n≤4) {m:Int} (h1:-(10 ^ 30) < m) (h2:m < 10 ^ 30):NumV H n (.int m 0):=⟨fun _=>⟨m,rfl,h1,h2⟩,fun z=>absurd hn (Nat.not_le_of_lt z)⟩
theorem num_bad (hn:4 < n) {v:Value} (h:BadM H v):NumV H n v:=⟨fun z=>absurd z (Nat.not_le_of_lt hn),fun _=>h⟩
noncomputable abbrev NV (n:Nat):Hp→Value→Prop:=fun H v=>NumV H n v
noncomputable def numE:List Ex:=[.int 0, .int 3, .neg (.int 4), .bin .Sub (.bin .Pow (.int 10) (.int 30)) (.int 1), .bin .Sub (.int 1) (.bin .Pow (.int 10) (.int 30)), .bin .Pow (.int 10) (.int 30), .neg (.bin .Pow (.int 10) (.int 30)), .bool true, .str "5", .none, .list [.int 1], .tup [.int 1], .dict [] []]
theorem ev_e30:Ev G hm (.bin .Pow (.int 10) (.int 30)) l H (.int (10 ^ 30) 0):=ev_cast (ev_pow ev_int ev_int (by decide) (by decide) (by decide)) rfl
theorem mk_numg (hn:n≤4) {e:Ex} {m:Int} (he:∀ H,Ev G hm e l H (.int m 0)) (h1:-(10 ^ 30) < m) (h2:m < 10 ^ 30):Mk G hm l e (NV n):=mk_ev he (fun _ _ _ k h=>NumV.kp k h) fun _=>num_good hn h1 h2
theorem mk_numb (hn:4 < n) {e:Ex} {v:Value} (he:∀ H,Ev G hm e l H v) (h:∀ H,BadM H v):Mk G hm l e (NV n):=mk_ev he (fun _ _ _ k h=>NumV.kp k h) fun H=>num_bad hn (h H)
theorem mk_nums:Mks G hm l numE ((List.range 13).map NV) :=
  .cons (mk_numg (by decide) (fun H=>ev_int) (by decide +kernel) (by decide +kernel)) (.cons (mk_numg (by decide) (fun H=>ev_int) (by decide +kernel) (by decide +kernel)) (.cons (mk_numg (by decide) (fun H=>ev_neg ev_int) (by decide +kernel) (by decide +kernel))
  (.cons (mk_numg (by decide) (fun H=>ev_sub ev_e30 ev_int) (by decide +kernel) (by decide +kernel)) (.cons (mk_numg (by decide) (fun H=>ev_sub ev_int ev_e30) (by decide +kernel) (by decide +kernel))
  (.cons (mk_numb (by decide) (fun H=>ev_e30) fun H=>.inr ⟨_,rfl, .inr (by decide +kernel)⟩) (.cons (mk_numb (by decide) (fun H=>ev_neg ev_e30) fun H=>.inr ⟨_,rfl, .inl (by decide +kernel)⟩)
  (.cons (mk_numb (by decide) (fun H=>ev_bool) fun H=>.inl (.bool _)) (.cons (mk_numb (by decide) (fun H=>ev_str) fun H=>.inl (.str _)) (.cons (mk_numb (by decide) (fun H=>ev_none) fun H=>.inl .none)
  (.cons (mk_list (fun H=>evl_cons ev_int evl_nil) (Nat.le_of_ble_eq_true rfl) (fun _ _ _ k h=>NumV.kp k h) fun H c hc=>num_bad (by decide) (.inl (.ref hc rfl rfl)))
  (.cons (mk_tup (fun H=>evl_cons ev_int evl_nil) (Nat.le_of_ble_eq_true rfl) (fun _ _ _ k h=>NumV.kp k h) fun H c hc=>num_bad (by decide) (.inl (.ref hc rfl rfl)))
  (.cons (mk_dict (fun _ _ _ k h=>NumV.kp k h) fun H c hc=>num_bad (by decide) (.inl (.ref hc rfl rfl))) .nil))))))))))))
theorem ViewV.kp {v:Value} (kk:Kp [] H H') (h:ViewV s H k v):ViewV s H' k v:=⟨h.none,h.one,fun z=>(h.bad z).kp kk⟩
theorem view_bad (hk:1 < k) {v:Value} (h:BadV s H v):ViewV s H k v:=⟨fun z=>by rw [z] at hk;exact absurd hk (by decide),fun z=>by rw [z] at hk;exact absurd hk (by decide),fun _=>h⟩
noncomputable abbrev VV (s:Sto) (k:Nat):Hp→Value→Prop:=fun H v=>ViewV s H k v
noncomputable def viewE:List Ex:=[.none, .int 1, .int 2, .int 0, .int 3, .bool true, .str "1", .neg (.int 1), .list [.int 1], .tup [.int 1], .dict [] []]
theorem mk_vw {e:Ex} {v:Value} (he:∀ H,Ev G hm e l H v) (h:∀ H,ViewV s H k v):Mk G hm l e (VV s k):=mk_ev he (fun _ _ _ k h=>ViewV.kp k h) h
theorem mk_vwi (f:S5 s one two other) (hk:1 < k) {e:Ex} {i:Int} (he:∀ H,Ev G hm e l H (.int i 0)) (h:get [((1:Int),(6:Int))] i = none):Mk G hm l e (VV s k):=mk_vw he fun H=>view_bad hk (.inr ⟨i,rfl,by rw [f.shots];exact h⟩)
theorem mk_views (f:S5 s one two other):Mks G hm l viewE ((List.range 11).map (VV s)) :=
  .cons (mk_vw (fun H=>ev_none) fun H=>⟨fun _=>rfl,fun z=>(nomatch z),fun z=>absurd z (by decide)⟩) (.cons (mk_vw (fun H=>ev_int) fun H=>⟨fun z=>(nomatch z),fun _=>rfl,fun z=>absurd z (by decide)⟩)
  (.cons (mk_vwi f (by decide) (fun H=>ev_int) rfl) (.cons (mk_vwi f (by decide) (fun H=>ev_int) rfl) (.cons (mk_vwi f (by decide) (fun H=>ev_int) rfl)
  (.cons (mk_vw (fun H=>ev_bool) fun H=>view_bad (by decide) (.inl ⟨.bool _,by simp⟩)) (.cons (mk_vw (fun H=>ev_str) fun H=>view_bad (by decide) (.inl ⟨.str _,by simp⟩)) (.cons (mk_vwi f (by decide) (fun H=>ev_neg ev_int) rfl)
  (.cons (mk_list (fun H=>evl_cons ev_int evl_nil) (Nat.le_of_ble_eq_true rfl) (fun _ _ _ k h=>ViewV.kp k h) fun H c hc=>view_bad (by decide) (.inl ⟨.ref hc rfl rfl,by simp⟩))
  (.cons (mk_tup (fun H=>evl_cons ev_int evl_nil) (Nat.le_of_ble_eq_true rfl) (fun _ _ _ k h=>ViewV.kp k h) fun H c hc=>view_bad (by decide) (.inl ⟨.ref hc rfl rfl,by simp⟩))
  (.cons (mk_dict (fun _ _ _ k h=>ViewV.kp k h) fun H c hc=>view_bad (by decide) (.inl ⟨.ref hc rfl rfl,by simp⟩)) .nil))))))))))
theorem w_pickM {es:List Ex} {P:Nat→Hp→Value→Prop} {m j:Nat} {e:Ex} (h:Mks G hm l es ((List.range m).map P)) (hm':m≤100) (hj:j < m) (he:∀ H',Kp [] H H'→Ev G hm e l H' (.int (j:Int) 0)) (q:∀ v H',Kp [] H H'→P j H' v→Q v H'):wpE G hm (.idx (.list es) e) l H Q X:=by
  refine w_idxW (w_mks h (by rw [List.length_map,List.length_range];exact hm') fun c vs H1 k1 e1 a1=>w_ev (he H1 k1) ?_)
  obtain ⟨v,hv,hp⟩:=all2_at a1 j (P j) (by rw [List.getElem?_map,List.getElem?_range hj];rfl)
  exact idx_at e1 rfl (at_nat hv) (q v H1 k1 hp)
theorem pick_int {L:List Int} {hi:Nat} (h:∀ n∈L,0≤n∧n≤(hi:Int)) (c:Int) {b:Int} (hb:0 < b) (hl:b = (L.length:Int)):∃ w:Nat,w≤hi∧at? (vI L) (c % b) = some (.int w 0):=by
  have m:=mod_lt c hb
  obtain ⟨v,h1,h2⟩:=at_lt (xs:=vI L) m.1 (by unfold vI;rw [List.length_map,← hl];exact m.2)
  obtain ⟨n,hn,rfl⟩:=List.mem_map.1 h2
  obtain ⟨n0,n1⟩:=h n hn
  obtain ⟨w,rfl⟩:=Int.eq_ofNat_of_zero_le n0
  exact ⟨w,Int.ofNat_le.1 n1,h1⟩
theorem ev_cellm (LE:LEnv G A FS) (C:C_cell G A) {a:Addr} {ns:List Int} (ha:H a = some (.rlist (vI ns))) (hl:l "_law_script" = some (.ref a)) {j:Nat} {b:Int} (hb:0 < b):Ev G false (.bin .Mod (.call (.glob "_law_cell_at") [.loc "_law_script", .int (j:Int)]) (.int b)) l H (.int (ns.getD j 0 % b) 0) :=
  ev_mod (ev_cell LE C ha (ev_loc hl) ev_int) ev_int hb
theorem w_pickL (LE:LEnv G A FS) (C:C_cell G A) {a:Addr} {ns:List Int} (ha:H a = some (.rlist (vI ns))) (hl:l "_law_script" = some (.ref a)) {L:List Int} {es:List Ex} (he:∀ H,EvL G false es l H (vI L)) (hz:(vI L).length≤100) {hi:Nat} (h:∀ n∈L,0≤n∧n≤(hi:Int)) {j:Nat} {b:Int} (hb:0 < b) (hlen:b = (L.length:Int))
    (q:∀ w H',w≤hi→Kp [] H H'→Q (.int (w:Nat) 0) H'):wpE G false (.idx (.list es) (.bin .Mod (.call (.glob "_law_cell_at") [.loc "_law_script", .int (j:Int)]) (.int b))) l H Q X:=by
  obtain ⟨w,hw,e⟩:=pick_int h (ns.getD j 0) hb hlen
  refine w_idxW (w_list (he H) (Nat.le_trans hz (by decide)) fun c hc=>?_)
  have k1:=kp_new (M:=[]) hc (.list (vI L))
  have e1:=Hp.upd_same H c (.list (vI L))
  generalize H.upd c (.list (vI L)) = H1 at k1 e1 ⊢
  exact w_ev (ev_cellm LE C (Kp.at0 k1 ha) hl hb) (idx_at e1 rfl e (q w H1 hw k1))
theorem w_pickR (LE:LEnv G A FS) (C:C_cell G A) {a:Addr} {ns:List Int} (ha:H a = some (.rlist (vI ns))) (hl:l "_law_script" = some (.ref a)) {m:Int} {L0 L:List Int} {es:List Ex} (m1:m < 2 ^ 60) (m2:-(2 ^ 60) < m) (hs:Builtin.Range.small 0 m 1 = true) (hr:rangeL 0 m 1 = vI L0) (he:∀ H,EvL G false es l H (vI L)) (hz0:(vI L0).length≤100) (hz:(vI L).length≤100) {hi:Nat} (h:∀ n∈L0++L,0≤n∧n≤(hi:Int)) {j:Nat} {b:Int} (hb:0 < b) (hlen:b = ((L0++L).length:Int))
    (q:∀ w H',w≤hi→Kp [] H H'→Q (.int (w:Nat) 0) H'):wpE G false (.idx (.bin .Add (.bf .list [.bf .range [.int m]]) (.list es)) (.bin .Mod (.call (.glob "_law_cell_at") [.loc "_law_script", .int (j:Int)]) (.int b))) l H Q X:=by
  obtain ⟨w,hw,e⟩:=pick_int h (ns.getD j 0) hb hlen
  have e:at? (vI L0++vI L) (ns.getD j 0 % b) = some (.int w 0):=by unfold vI at e ⊢;rw [← List.map_append];exact e
  refine w_idxW (w_binW (w_bfW (wl_cons (w_range ev_int m1 m2 fun r hr0=>wl_nil ⟨.inr (.inl rfl), ?_⟩))))
  have k1:=kp_new (M:=[]) hr0 (.range 0 m 1)
  have e1:=Hp.upd_same H r (.range 0 m 1)
  generalize H.upd r (.range 0 m 1) = H1 at k1 e1 ⊢
  conv=>whnf
  rw [e1]
  refine ⟨hs, ?_⟩
  rw [hr]
  refine ⟨Nat.le_trans hz0 (by decide),fun c2 hc2=>?_⟩
  have k2:=kp_new (M:=[]) hc2 (.list (vI L0))
  have e2:=Hp.upd_same H1 c2 (.list (vI L0))
  generalize H1.upd c2 (.list (vI L0)) = H2 at k2 e2 ⊢
  refine w_list (he H2) (Nat.le_trans hz (by decide)) fun c3 hc3=>?_
  have k3:=kp_new (M:=[]) hc3 (.list (vI L))
  have e3:=Hp.upd_same H2 c3 (.list (vI L))
  generalize H2.upd c3 (.list (vI L)) = H3 at k3 e3 ⊢
  refine addl_at (k3.list e2) e3 (Nat.le_trans (Nat.add_le_add hz0 hz) (by decide)) fun c4 hc4=>?_
  have k4:=kp_new (M:=[]) hc4 (.list (vI L0++vI L))
  have e4:=Hp.upd_same H3 c4 (.list (vI L0++vI L))
  generalize H3.upd c4 (.list (vI L0++vI L)) = H4 at k4 e4 ⊢
  have kk:=((k1.trans k2).trans k3).trans k4
  exact w_ev (ev_cellm LE C (Kp.at0 kk ha) hl hb) (idx_at e4 rfl e (q w H4 hw kk))
end
end Mine.L5
end

section
open PySem PyProof.Rows
namespace Mine.L5
open Mine Mine.St Mine.Lw
section
variable {A:Ad} {G:Gx} {H H':Hp} {Q:QV} {X:XV} {l:Loc} {hm:Bool} {x y z:Ex} {σ:SA} {s:Sto} {one two other:Str} {i n k w:Nat} {pv nv vv:Value}
theorem find0 (xs:List Str) (h:xs≠[]):find sto0.bs sto0.tree xs = some none:=by
  cases xs with
  | nil=>exact absurd rfl h
  | cons x r=>rfl
theorem do_put1 (C:C_put G A) (h:StoreR A H σ sto0) {a:Addr} (hp:PathAt H a [one,two]) (q:∀ r s' H',P1 s' one two→StoreR A H' σ s'→Kp σ.M H H'→Q r H'):G.fn (A "Store" "put") false [.ref σ.sx, .ref a, .int 5 0] H Q X:=by
  have f0:=find0 [one,two] (by simp)
  refine C h sw_new (by decide) hp (by simp) (by decide +kernel) (by decide +kernel) (fun b hb _ _ _ _=>?_) (fun s' g pn w H' h' k'=>q _ s' H' (put1 pn w) h' k') (fun ⟨k,z1,z2,hl⟩=>?_) (fun _ ⟨b,_,hb,_⟩ _ _ _=>?_)
  · rw [f0] at hb;cases hb
  · obtain rfl:k = 1:=Nat.le_antisymm (Nat.le_of_lt_succ z2) z1
    obtain ⟨b,m,h1,_⟩:=hl
    have:=find0 [one] (by simp)
    rw [show ([one,two]:List Str).take 1 = [one] from rfl,this] at h1;cases h1
  · rw [f0] at hb;cases hb
theorem do_put2 (C:C_put G A) (m:Nm3 one two other) (p:P1 s one two) (h:StoreR A H σ s) {a:Addr} (hp:PathAt H a [other]) (q:∀ r s' H',P2 s' one two other [] 0→StoreR A H' σ s'→Kp σ.M H H'→Q r H'):G.fn (A "Store" "put") false [.ref σ.sx, .ref a, .int (-7) 0] H Q X:=by
  have f0:find s.bs s.tree [other] = some none:=find_no (by rw [p.tree];exact p.g4) ((row_miss m.n13).trans rfl)
  refine C h p.w (by rw [p.made];decide) hp (by simp) (by decide +kernel) (by decide +kernel) (fun b hb _ _ _ _=>?_) (fun s' g pn w H' h' k'=>q _ s' H' (put2 m.lt p pn w) h' k') (fun ⟨k,z1,z2,hl⟩=>?_) (fun _ ⟨b,_,hb,_⟩ _ _ _=>?_)
  · rw [f0] at hb;cases hb
  · exact absurd z2 (Nat.not_lt.2 z1)
  · rw [f0] at hb;cases hb
theorem P2.len {sh:List (Int×Int)} {n:Int} (p:P2 s one two other sh n):s.bs.length≤2 ^ 20:=Nat.le_trans p.w.lenN (by rw [p.made];decide)
theorem do_snap (C:C_snap G A) {sh:List (Int×Int)} {n:Int} (p:P2 s one two other sh n) (hz:sh.length≤2 ^ 20) (h:StoreR A H σ s) (q:∀ s' H',P2 s' one two other (put sh (n + 1) 6) (n + 1)→StoreR A H' σ s'→Kp σ.M H H'→Q (.int (n + 1) 0) H'):G.fn (A "Store" "snap") false [.ref σ.sx] H Q X:=by
  refine C h p.w p.len (by rw [p.shots];exact hz) fun k hk w' H' h' k'=>?_
  have e:put s.shots (s.last + 1) s.tree = put sh (n + 1) 6:=by rw [p.shots,p.last,p.tree]
  have e2:s.last + 1 = n + 1:=by rw [p.last]
  rw [e,e2] at w' h'
  rw [e2]
  exact q _ H' (p.mv w') h' k'
theorem do_drop (C:C_drop G A) (p:P2 s one two other [(1,6),(2,6)] 2) (h:StoreR A H σ s) (q:∀ r s' H',S5 s' one two other→StoreR A H' σ s'→Kp σ.M H H'→Q r H'):G.fn (A "Store" "drop") false [.ref σ.sx, .int 2 0] H Q X :=
  C h p.w (by rw [p.made];decide) (by rw [p.shots];decide) (n:=2) (b:=6) (by rw [p.shots];rfl) fun bs' cs' w' sub H' h' k'=>q _ _ H' (dropped p w' sub (by rw [p.shots];rfl)) h' k'
structure Bef (H:Hp) (ks:List Int) (c:Addr):Prop where
  at_:∃ kl sl,H c = some (.tup [.ref kl, .int 6 0, .int 6 0, .ref sl, .int 6 0])∧H kl = some (.list (vI ks))∧H sl = some (.list (vI [1]))
theorem Bef.kp {ks:List Int} {c:Addr} (b:Bef H ks c) (k:Kp [] H H'):Bef H' ks c:=let ⟨kl,sl,h1,h2,h3⟩:=b.at_;⟨kl,sl,k.tup h1,k.list h2,k.list h3⟩
theorem bef_rd {ks:List Int} {c:Addr} (b:Bef H ks c):Rd H (.ref c) (.tuple [.list (ks.map PyData.int), .int 6, .int 6, .list [.int 1], .int 6]):=let ⟨_,_,h1,h2,h3⟩:=b.at_
  .tup h1 (.cons (.list h2 (rd_ints ks)) (.cons (.int _ _) (.cons (.int _ _) (.cons (.list h3 (rd_ints [1])) (.cons (.int _ _) .nil)))))
theorem bef_lay (ks:List Int):PyData.canLay0 (.tuple [.list (ks.map PyData.int), .int 6, .int 6, .list [.int 1], .int 6]) = true:=by
  show (PyData.canLayAll0 (ks.map PyData.int) && _) = true
  rw [lay_ints];rfl
theorem bef_shaped (ks:List Int):SeqAt.shaped (.tuple [.list (ks.map PyData.int), .int 6, .int 6, .list [.int 1], .int 6]) = true:=by
  refine Bool.and_eq_true_iff.2 ⟨bef_lay ks,decide_eq_true ?_⟩
  show max (PyData.depthAll (ks.map PyData.int) + 1) _ + 1≤64
  exact Nat.succ_le_succ (Nat.max_le.2 ⟨Nat.le_trans (Nat.succ_le_succ (depth_ints ks)) (by decide),by decide⟩)
theorem bef_eq {ks:List Int} {c d:Addr} (b:Bef H ks c) (b2:Bef H ks d) (q:Q (.bool true) H):cmpV .Eq (.ref c) (.ref d) H Q:=by
  refine ⟨_,_,bef_rd b,bef_rd b2,bef_shaped ks,bef_shaped ks, ?_⟩
  rw [SeqAt.eqv_refl _ (bef_lay ks)];exact q
noncomputable def befE:List Ex:=[.meth (.attr (.loc "_law_store") "pile") "kept" [], .attr (.attr (.loc "_law_store") "pile") "made", .meth (.loc "_law_store") "top" [.none], .meth (.loc "_law_store") "shot_numbers" [], .meth (.loc "_law_store") "top" [.int 1]]
theorem ev_pile (F:EnvS G A) (h:StoreR A H σ s) (g:l "_law_store" = some (.ref σ.sx)):Ev G hm (.attr (.loc "_law_store") "pile") l H (.ref σ.π.x) :=
  ev_attr (v:=.ref σ.π.x) (ev_loc g) h.i h.n (by nest_cls) rfl rfl
theorem w_bef (F:EnvS G A) (CK:C_kept G A) (CS:C_shot_numbers G A) (CT:C_top G A) (f:S5 s one two other) (h:StoreR A H σ s) (g:l "_law_store" = some (.ref σ.sx)) (q:∀ c H',Kp [] H H'→Bef H' (s.bs.map (·.1)) c→Q (.ref c) H'):wpE G false (.tup befE) l H Q X:=by
  obtain ⟨bvs,p, -⟩:=id h.p.ex
  have zb:s.bs.length < 64:=Nat.lt_of_le_of_lt f.w.lenN (by rw [f.made];decide)
  refine w_tupW (wl_cons (w_meth (x:=σ.π.x) (ev_pile F h g) p.i p.n (by nest_cls) (by rfl) evl_nil (CK h.p zb f.w.pw.asc fun kl hkl=>?_)))
  have k1:=kp_new (M:=[]) hkl (.list (vI (s.bs.map (·.1))))
  have e1:=Hp.upd_same H kl (.list (vI (s.bs.map (·.1))))
  show wpEs G false _ l (H.upd kl (.list (vI (s.bs.map (·.1))))) _ _
  generalize H.upd kl (.list (vI (s.bs.map (·.1)))) = H1 at k1 e1 ⊢
  have h1:=h.kp0 k1
  obtain ⟨bvs1,p1, -⟩:=id h1.p.ex
  refine wl_cons (w_ev (v:=.int s.made 0) (ev_attr (ev_pile F h1 g) p1.i p1.n (by nest_cls) rfl rfl) ?_)
  refine wl_cons (w_meth (ev_loc g) h1.i h1.n (by nest_cls) (by rfl) (evl_cons ev_none evl_nil) (CT h1 (v:=.none) (b:=6) (congrArg some f.tree) ?_))
  refine wl_cons (w_meth (ev_loc g) h1.i h1.n (by nest_cls) (by rfl) evl_nil (CS h1 (by rw [f.shots];decide) (by rw [f.shots];exact List.pairwise_singleton _ _) fun sl hsl=>?_))
  rw [f.shots]
  have k2:=kp_new (M:=[]) hsl (.list (vI [1]))
  have e2:=Hp.upd_same H1 sl (.list (vI [1]))
  show wpEs G false _ l (H1.upd sl (.list (vI [1]))) _ _
  generalize H1.upd sl (.list (vI [1])) = H2 at k2 e2 ⊢
  have h2:=h1.kp0 k2
  refine wl_cons (w_meth (ev_loc g) h2.i h2.n (by nest_cls) (by rfl) (evl_cons ev_int evl_nil) (CT h2 (v:=.int 1 0) (b:=6) (by show get s.shots 1 = some 6;rw [f.shots];rfl) ?_))
  refine wl_nil ⟨Nat.le_of_ble_eq_true rfl,fun c hc=>?_⟩
  rw [f.made]
  have k3:=kp_new (M:=[]) hc (.tup [.ref kl, .int 6 0, .int 6 0, .ref sl, .int 6 0])
  exact q c _ ((k1.trans k2).trans k3) ⟨kl,sl,Hp.upd_same _ _ _,k3.list (k2.list e1),k3.list e2⟩
structure CL (G:Gx) (A:Ad):Prop where
  cell:C_cell G A
  word:C_word G A
  paths:C_paths G A
  sinit:C_sinit G A
  put:C_put G A
  snap:C_snap G A
  drop:C_drop G A
  due:C_due G A
  told:C_told G A
  kept:C_kept G A
  shots:C_shot_numbers G A
  top:C_top G A
theorem due_le (w a n v:Int):dueN w a n v≤6:=by
  unfold dueN dueV
  repeat' split
  all_goals decide
theorem wd_nil:∀ d≤6,wd d = ""→d = 0:=by decide +kernel
theorem cmp_nes {p r:Str} {t u:Tok} {b:Bool} (h:decide (p = r) = b) (q:Q (.bool (!b)) H):cmpV .NotEq (.str p t) (.str r u) H Q:=by subst h;exact q
theorem wd_line:∀ d≤6,(wd d).length + (Str.ofString " value").length≤100:=by decide +kernel
theorem w_vq (hl:l "_law_view" = some (.int (k:Int) 0)) (q:∀ H',Kp [] H H'→Q (.int (vq k) 0) H'):wpE G hm (.idx (.list [.loc "_law_view", .neg (.int 1)]) (.bf .int [.cmp (.loc "_law_view") .Gt (.int 1)])) l H Q X :=
  w_idxW (w_list (vs:=[.int (k:Int) 0, .int (-1) 0]) (evl_cons (ev_loc hl) (evl_cons (ev_neg ev_int) evl_nil)) (Nat.le_of_ble_eq_true rfl) fun c hc=>w_ev (ev_intb (ev_gt (ev_loc hl) ev_int rfl)) (by
    have q:=q _ (kp_new (M:=[]) hc (.list [.int (k:Int) 0, .int (-1) 0]))
    unfold vq at q
    by_cases h:k≤1
    · rw [if_pos h] at q
      rw [decide_eq_false (show ¬ (1:Int) < (k:Int) from Int.not_lt.2 (Int.ofNat_le.2 h))]
      exact idx_at (Hp.upd_same _ _ _) rfl rfl q
    · rw [if_neg h] at q
      rw [decide_eq_true (show (1:Int) < (k:Int) from Int.ofNat_lt.2 (Nat.lt_of_not_le h))]
      exact idx_at (Hp.upd_same _ _ _) rfl rfl q))
noncomputable def toldE:Ex:=.call (.glob "_law_told") [.loc "_law_store", .loc "_law_way", .idx (.loc "_law_paths_here") (.loc "_law_at"), .loc "_law_told_here", .loc "_law_asked_here"]
noncomputable def endB:List Sm:=[.ite (.cmp (.loc "_law_due_here") .Eq (.str "")) [.ret (.cmp toldE .Eq (.str ""))] [], .ite (.cmp toldE .NotEq (.bin .Add (.loc "_law_due_here") (.str " value"))) [.ret (.bool false)] [], .ret (.cmp (.loc "_law_before") .Eq (.tup befE))]
structure Lc (l:Loc) (sx pl bf:Addr) (i w:Nat) (nv vv:Value) (d:Nat):Prop where
  st:l "_law_store" = some (.ref sx)
  pl:l "_law_paths_here" = some (.ref pl)
  at_:l "_law_at" = some (.int (i:Int) 0)
  way:l "_law_way" = some (.int (w:Int) 0)
  nv:l "_law_told_here" = some nv
  vv:l "_law_asked_here" = some vv
  due:l "_law_due_here" = some (.str (wd d) 0)
  bf:l "_law_before" = some (.ref bf)
theorem end_ok (F:EnvS G A) (LE:LEnv G A FS) (C:CL G A) {pl bf tb:Addr} (ht:H tb = some .tab) {vs:List Value} (L:Lc l σ.sx pl bf i w nv vv (dueN w i n (vq k))) (hw:w≤9) (c:Cx A H σ s one two other i n k pv nv vv) (hpl:H pl = some (.list vs)) (hv:vs[i]? = some pv) (hb:Bef H (s.bs.map (·.1)) bf) (q:∀ H',H' tb = some .tab→Q (.bool true) H'):wpSs G false endB l H (fq Q) (fx X):=by
  have h6:=due_le w i n (vq k)
  have args:EvL G false [.loc "_law_store", .loc "_law_way", .idx (.loc "_law_paths_here") (.loc "_law_at"), .loc "_law_told_here", .loc "_law_asked_here"] l H [.ref σ.sx, .int w 0,pv,nv,vv] :=
    evl_cons (ev_loc L.st) (evl_cons (ev_loc L.way) (evl_cons (ev_at (ev_loc L.pl) (ev_loc L.at_) hpl rfl (at_nat hv)) (evl_cons (ev_loc L.nv) (evl_cons (ev_loc L.vv) evl_nil))))
  generalize hd:dueN w i n (vq k) = d at h6 L
  by_cases h0:d = 0
  · subst h0
    refine ss_ift (ev_eqs (ev_loc L.due) ev_str (by decide +kernel)) (ss_retW (w_cmpW (w_call (by mem_news) (by nest_cls) args (C.told hw c hd h6 (fun _ H' k'=>w_ev ev_str (cmp_eqs (decide_eq_true rfl) (q H' (k' _ _ ht (.inl rfl))))) fun e=>absurd rfl e))))
  · refine ss_iff0 (ev_eqs (ev_loc L.due) ev_str (decide_eq_false fun z=>h0 (wd_nil d h6 z))) ?_
    refine ss_ifW (w_cmpW (w_call (by mem_news) (by nest_cls) args (C.told hw c hd h6 (fun e=>absurd e h0) fun _ H' k'=>?_)))
    refine w_ev (ev_cat (ev_loc L.due) ev_str (Nat.le_trans (wd_line d h6) (by decide))) (cmp_nes (decide_eq_true rfl) (tv_f (ss_sq ?_)))
    have h':=c.st.kp0 k'
    exact ss_retW (w_cmpW (w_ev (ev_loc L.bf) (w_bef F C.kept C.shots C.top c.f h' L.st fun c2 H2 k2 b2=>bef_eq ((hb.kp k').kp k2) b2 (q H2 (Kp.at0 (k'.trans k2) ht)))))
theorem law_rest (F:EnvS G A) (LE:LEnv G A FS) (C:CL G A) (f:S5 s one two other) (m:Nm3 one two other) (h:StoreR A H σ s) {a pl tb:Addr} {ns:List Int} {vs:List Value} (ha:H a = some (.rlist (vI ns))) (ht:H tb = some .tab) (hp:H pl = some (.list vs)) (hv:All2 (fun (P:Hp→Value→Prop) v=>P H v) ((List.range 21).map (PV one two other)) vs)
    (l1:l "_law_script" = some (.ref a)) (l2:l "_law_paths_here" = some (.ref pl)) (l3:l "_law_store" = some (.ref σ.sx)) (q:∀ H',H' tb = some .tab→Q (.bool true) H'):wpSs G false (b_law.drop 7) l H (fq Q) (fx X):=by
  refine ss_asgW (w_pickL LE C.cell ha l1 (L:=[0,0,0,0,0,0,1,2,3,4,5,6,7,8,9]) (hi:=9) (j:=0) (fun H=>by mem_news) (Nat.le_of_ble_eq_true rfl) (by decide) (by decide) rfl fun w H1 hw k1=>?_)
  refine ss_asgW (w_pickR LE C.cell (Kp.at0 k1 ha) l1 (L0:=[0,1,2,3,4,5,6,7,8,9,10,11,12,13,14,15,16,17,18,19,20]) (L:=[3,4,7,0,5,3,4]) (m:=21) (hi:=20) (j:=1) (by decide) (by decide) (by decide) rfl (fun H=>by mem_news) (Nat.le_of_ble_eq_true rfl) (Nat.le_of_ble_eq_true rfl) (by decide) (by decide) rfl fun i H2 hi k2=>?_)
  have k02:=k1.trans k2
  refine ss_asgW (w_pickR LE C.cell (Kp.at0 k02 ha) l1 (L0:=[0,1,2,3,4,5,6,7,8,9,10,11,12]) (L:=[0,1,2,3,4,0,1]) (m:=13) (hi:=12) (j:=2) (by decide) (by decide) (by decide) rfl (fun H=>by mem_news) (Nat.le_of_ble_eq_true rfl) (Nat.le_of_ble_eq_true rfl) (by decide) (by decide) rfl fun n H3 hn k3=>?_)
  have k03:=k02.trans k3
  refine ss_asgW (w_pickM (j:=n) mk_nums (by decide) (Nat.lt_succ_of_le hn) (fun _ _=>ev_loc rfl) fun nv H4 k4 p4=>?_)
  have k04:=k03.trans k4
  have m11:=mod_lt (ns.getD 3 0) (b:=11) (by decide)
  obtain ⟨k,hk⟩:=Int.eq_ofNat_of_zero_le m11.1
  have hk:ns.getD 3 0 % 11 = (k:Int):=hk
  have hk11:k < 11:=Int.ofNat_lt.1 (hk ▸ m11.2)
  refine ss_asg (v:=.int (k:Int) 0) (ev_cast (ev_cellm LE C.cell (Kp.at0 k04 ha) (by exact l1) (j:=3) (b:=11) (by decide)) (by rw [hk])) ?_
  refine ss_asgW (w_pickM (j:=k) (mk_views f) (by decide) hk11 (fun _ _=>ev_loc rfl) fun vv H5 k5 p5=>?_)
  have k05:=k04.trans k5
  refine ss_asgW (w_callW (by mem_news) (by nest_cls) (wl_cons (w_ev (v:=.int (w:Int) 0) (ev_loc rfl) (wl_cons (w_ev (v:=.int (i:Int) 0) (ev_loc rfl) (wl_cons (w_ev (v:=.int (n:Int) 0) (ev_loc rfl) (wl_cons (w_vq rfl fun H6 k6=>wl_nil (C.due fun H7 k7=>?_))))))))))
  have k07:=(k05.trans k6).trans k7
  have h7:=h.kp0 k07
  refine ss_asgW (w_bef F C.kept C.shots C.top f h7 l3 fun bf H8 k8 b8=>?_)
  have k08:=k07.trans k8
  obtain ⟨pv,hpv,pp⟩:=all2_at (all2_kp k08 _ hv) i (PV one two other i) (by rw [List.getElem?_map,List.getElem?_range (Nat.lt_succ_of_le hi)];rfl)
  exact end_ok F LE C (Kp.at0 k08 ht) (i:=i) (w:=w) (n:=n) (k:=k) ⟨l3,l2,rfl,rfl,rfl,rfl,rfl,rfl⟩ hw ⟨h.kp0 k08,f,m,pp,NumV.kp (((k5.trans k6).trans k7).trans k8) p4,ViewV.kp ((k6.trans k7).trans k8) p5,tb,Kp.at0 k08 ht⟩ (k08.list hp) hpv b8 q
theorem kp_fr {M:List Addr} (k:Kp M H H') (fr:∀ a∈M,H a = none):Kp [] H H':=fun a o e _=>k a o e (.inr fun z=>by rw [fr a z] at e;cases e)
theorem law_ok (F:EnvS G A) (LE:LEnv G A FS) (C:CL G A) {a tb:Addr} {ns:List Int} (ha:H a = some (.rlist (vI ns))) (ht:H tb = some .tab) (q:∀ H',H' tb = some .tab→Q (.bool true) H'):wpF G false ["_law_script"] b_law [.ref a] H Q X:=by
  refine f_in rfl ?_
  refine ss_asgW (w_call (by mem_news) (by nest_cls) (evl_cons (ev_cell LE C.cell ha (ev_loc rfl) (k:=4) ev_int) evl_nil) (C.word fun w H1 hw k1=>?_))
  refine ss_asgW (w_call (by mem_news) (by nest_cls) (evl_cons (ev_loc rfl) evl_nil) (C.paths hw fun pl vs H2 k2 e2 a2=>?_))
  have m:=nm3 hw
  generalize w++Str.ofString "a" = one at m a2
  generalize w++Str.ofString "b" = two at m a2
  generalize w++Str.ofString "c" = other at m a2
  have k02:=k1.trans k2
  have ha:=Kp.at0 k02 ha
  have ht:=Kp.at0 k02 ht
  refine ss_asgW (w_new (by mem_news) (by nest_cls) evl_nil fun sd sx hsd hsx hne=>C.sinit hsd hsx hne fun H3 σ hσ h3 k3 fr=>⟨rfl, ?_⟩)
  subst hσ
  obtain ⟨v1,i1,g1,b1⟩:=all2_at a2 1 (PV one two other 1) rfl
  obtain ⟨a1,rfl,p1⟩:=g1 (by decide)
  obtain ⟨v2,i2,g2,b2⟩:=all2_at a2 2 (PV one two other 2) rfl
  obtain ⟨a3,rfl,p2⟩:=g2 (by decide)
  have path:∀ {l:Loc} {H':Hp} {j:Nat} {v:Value},l "_law_paths_here" = some (.ref pl)→Kp [] H2 H'→vs[j]? = some v→Ev G false (.idx (.loc "_law_paths_here") (.int (j:Int))) l H' v:=fun hl k hj=>ev_at (ev_loc hl) ev_int (k.list e2) rfl (at_nat hj)
  refine ss_exprW (w_meth (vs:=[.ref a1, .int 5 0]) (ev_loc rfl) h3.i h3.n (by nest_cls) (by rfl) (evl_cons (path (j:=1) rfl k3 i1) (evl_cons ev_int evl_nil)) (do_put1 C.put h3 (p1.kp k3) fun _ s4 H4 P4 h4 k4=>?_))
  have k4:Kp σ.M H2 H4:=k3.up.trans k4
  refine ss_exprW (w_meth (vs:=[.ref a3, .int (-7) 0]) (ev_loc rfl) h4.i h4.n (by nest_cls) (by rfl) (evl_cons (path (j:=2) rfl (kp_fr k4 fr) i2) (evl_cons (ev_neg ev_int) evl_nil)) (do_put2 C.put m P4 h4 (p2.kp k4) fun _ s5 H5 P5 h5 k5=>?_))
  have k5:=k4.trans k5
  refine ss_exprW (w_meth (ev_loc rfl) h5.i h5.n (by nest_cls) (by rfl) evl_nil (do_snap C.snap P5 (by decide) h5 fun s6 H6 P6 h6 k6=>?_))
  have k6:=k5.trans k6
  refine ss_exprW (w_methW (ev_loc rfl) h6.i h6.n (by nest_cls) (by rfl) (wl_cons (w_meth (ev_loc rfl) h6.i h6.n (by nest_cls) (by rfl) evl_nil (do_snap C.snap P6 (by decide) h6 fun s7 H7 P7 h7 k7=>wl_nil (do_drop C.drop P7 h7 fun _ s8 H8 P8 h8 k8=>?_)))))
  have k8:=kp_fr ((k6.trans k7).trans k8) fr
  exact law_rest F LE C P8 m h8 (Kp.at0 k8 ha) (Kp.at0 k8 ht) (k8.list e2) (all2_kp k8 _ a2) rfl rfl rfl q
end
end Mine.L5
end

section
open PySem PyProof.Rows
namespace Mine.L5
open Mine Mine.St Mine.Lw
section
variable {A:Ad}
structure TabL (tab:Tab) (A:Ad):Prop where
  s:TabS tab A
  kept:HasF tab (A "Pile" "kept") ["self"] b_Pile_kept
  without:HasF tab (A "without" "") ["rows", "name"] b_without
  cut:HasF tab (A "Store" "cut") ["self", "path"] b_Store_cut
  snap:HasF tab (A "Store" "snap") ["self"] b_Store_snap
  shot:HasF tab (A "Store" "shot") ["self", "number"] b_Store_shot
  drop:HasF tab (A "Store" "drop") ["self", "shot"] b_Store_drop
  back:HasF tab (A "Store" "back") ["self", "shot"] b_Store_back
  shot_numbers:HasF tab (A "Store" "shot_numbers") ["self"] b_Store_shot_numbers
  changes:HasF tab (A "Store" "changes") ["self", "one", "other"] b_Store_changes
  cell_at:HasF tab (A "_law_cell_at" "") ["_law_script", "_law_k"] b__law_cell_at
  word_by:HasF tab (A "_law_word_by" "") ["_law_cell"] b__law_word_by
  paths:HasF tab (A "_law_paths" "") ["_law_word"] b__law_paths
  asked:HasF tab (A "_law_asked" "") ["_law_store", "_law_way", "_law_path", "_law_number", "_law_view"] b__law_asked
  told:HasF tab (A "_law_told" "") ["_law_store", "_law_way", "_law_path", "_law_number", "_law_view"] b__law_told
  due_of_view:HasF tab (A "_law_due_of_view" "") ["_law_way", "_law_at", "_law_view"] b__law_due_of_view
  due:HasF tab (A "_law_due" "") ["_law_way", "_law_at", "_law_number", "_law_view"] b__law_due
  law:HasF tab (A "law" "") ["_law_script"] b_law
structure EL (G:Gx) (A:Ad):Prop where
  s:EnvS G A
  l:LEnv G A FS
  u:SubX G A
  w:G.glob "without" = some (.ref (A "without" ""))∧G.init (A "without" "") = none
theorem EL.gg {g:Gx} (f:EL g A) (tab:Tab) (n:Nat):EL (GG g tab n) A:=⟨f.s.gg tab n,f.l.gg tab n,f.u.gg tab n,by cases n <;> exact f.w⟩
section
variable {g:Gx} {tab:Tab} (f:EL g A) (t:TabL tab A) (n:Nat)
include f t
theorem kept_at:C_kept (GG g tab (n + 1)) A:=fun _ _ _ _ _ h hz ha _ _ q=>fn_gg t.kept (kept_ok (f.s.p.gg tab _) h hz ha q)
theorem shot_numbers_at:C_shot_numbers (GG g tab (n + 1)) A:=fun _ _ _ h hz ha _ _ q=>fn_gg t.shot_numbers (shot_numbers_ok (f.s.gg tab _) h hz ha q)
theorem snap_at:C_snap (GG g tab (n + 3)) A:=fun _ _ _ h _ w z1 z2 _ _ q=>fn_gg t.snap (snap_ok (f.s.gg tab _) (hold_at f.s.p t.s.p n) h w z1 z2 q)
theorem shot_at:C_shot (GG g tab (n + 2)) A:=fun _ _ _ h _ _ _ e _ _ q=>fn_gg t.shot (shot_ok (f.s.gg tab _) (top_at f.s t.s n) h e q)
theorem drop_at:C_drop (GG g tab (n + 3)) A:=fun _ _ _ h _ w z1 z2 _ _ _ e _ _ q=>fn_gg t.drop (drop_ok (f.s.gg tab _) (shot_at f t n) (let_go_at f.s.p t.s.p n) h w z1 z2 e q)
theorem back_at:C_back (GG g tab (n + 4)) A:=fun _ _ _ h _ w z1 _ _ _ e _ _ q=>fn_gg t.back (back_ok (f.s.gg tab _) (shot_at f t (n + 1)) (changed_at f.s t.s n) h w z1 e q)
omit f in
theorem without_at:C_without (GG g tab (n + 1)) A:=fun _ _ _ _ _ h1 h2 h3 _ _ q=>fn_gg t.without (without_ok h1 h2 h3 q)
theorem cut_at:C_cut (GG g tab (n + 5)) A:=fun _ _ _ h _ w hz _ _ hp hne _ _ q qN=>fn_gg t.cut (cut_ok (f.s.gg tab _) ((f.gg tab _).w) (need_way_at f.s t.s (n + 1)) (found_at f.s t.s (n + 1)) (without_at t (n + 3)) (ways_at f.s t.s n) (branch_at f.s.p t.s.p (n + 1)) (placed_at t.s (n + 3)) (changed_at f.s t.s (n + 1)) h w hz hp hne q qN)
theorem isn_at:C_isn (GG g tab (n + 1)) A:=fun _ _ h _ _ q=>fn_gg t.s.is_name (isn_ok (f.s.gg tab _) h q)
theorem chkX_at:C_chkX (GG g tab (n + 2)) A:=fun _ _ h _ _ q=>fn_gg t.s.checked (chkX_ok (f.s.gg tab _) (isn_at f t n) h q)
theorem nwX_at:C_nwX (GG g tab (n + 3)) A:=fun _ _ h _ _ q=>fn_gg t.s.need_way (nwX_ok (f.s.gg tab _) (checked_at f.s t.s n) (chkX_at f t n) h q)
theorem nnX_at:C_nnX (GG g tab (n + 1)) A:=fun _ _ h _ _ q=>fn_gg t.s.need_number (nnX_ok (f.s.gg tab _) h q)
theorem topX_at:C_topX (GG g tab (n + 1)) A:=fun _ _ _ h _ hw _ _ q=>fn_gg t.s.top (topX_ok (f.s.gg tab _) h hw q)
theorem shotX_at:C_shotX (GG g tab (n + 2)) A:=fun _ _ _ h _ hw _ _ q=>fn_gg t.shot (shotX_ok (f.s.gg tab _) (topX_at f t n) h hw q)
theorem dropX_at:C_drX (GG g tab (n + 3)) A "drop" := fun _ _ _ h _ hw _ _ q=>fn_gg t.drop (dropX_ok (f.s.gg tab _) (shotX_at f t n) h hw q)
theorem backX_at:C_drX (GG g tab (n + 3)) A "back" := fun _ _ _ h _ hw _ _ q=>fn_gg t.back (backX_ok (f.s.gg tab _) (shotX_at f t n) h hw q)
theorem kindX_at:C_rdX (GG g tab (n + 3)) A "kind" := fun _ _ _ h _ _ _ hr _ _ q=>fn_gg t.s.kind (kindX_ok (f.s.gg tab _) (top_at f.s t.s (n + 1)) (topX_at f t (n + 1)) (chkX_at f t n) h hr q)
theorem valueX_at:C_rdX (GG g tab (n + 4)) A "value" := fun _ _ _ h _ _ _ hr _ _ q=>fn_gg t.s.value (valueX_ok (f.s.gg tab _) (kindX_at f t n) h hr q)
theorem namesX_at:C_rdX (GG g tab (n + 4)) A "names" := fun _ _ _ h _ _ _ hr _ _ q=>fn_gg t.s.names (namesX_ok (f.s.gg tab _) (kindX_at f t n) h hr q)
theorem putX_at:C_putX (GG g tab (n + 4)) A:=fun _ _ _ _ _ h _ _ q=>fn_gg t.s.put (putX_ok (f.s.gg tab _) (need_way_at f.s t.s n) (nwX_at f t n) (nnX_at f t (n + 2)) h q)
theorem cutX_at:C_cutX (GG g tab (n + 4)) A:=fun _ _ _ h _ _ q=>fn_gg t.cut (cutX_ok (f.s.gg tab _) (nwX_at f t n) h q)
theorem chg_at:C_chg (GG g tab (n + 2)) A:=fun _ _ _ h _ _ _ hv hw ht _ _ q=>fn_gg t.changes (let ⟨_,ht⟩:=ht;chg_ok (f.s.gg tab _) (top_at f.s t.s n) h hv hw ht q)
theorem chgX_at:C_chgX (GG g tab (n + 2)) A:=fun _ _ _ h _ _ hx _ _ q=>fn_gg t.changes (chgX_ok (f.s.gg tab _) (top_at f.s t.s n) (topX_at f t n) h hx q)
omit f in
theorem cell_at:C_cell (GG g tab (n + 1)) A:=fun _ _ _ ha _ _ _ _ q=>fn_gg t.cell_at (cell_ok ha q)
omit f in
theorem word_at:C_word (GG g tab (n + 1)) A:=fun _ _ _ _ _ q=>fn_gg t.word_by (word_ok q)
omit f in
theorem paths_at:C_paths (GG g tab (n + 1)) A:=fun _ _ hw _ _ q=>fn_gg t.paths (paths_ok hw q)
omit f in
theorem dueV_at:C_dueV (GG g tab (n + 1)) A:=fun _ _ _ _ _ _ q=>fn_gg t.due_of_view (dueV_ok q)
theorem due_at:C_due (GG g tab (n + 2)) A:=fun _ _ _ _ _ _ _ q=>fn_gg t.due (due_ok (f.l.gg tab _) (dueV_at t n) q)
theorem asked_at:C_asked (GG g tab (n + 9)) A:=fun _ _ _ _ _ _ _ _ _ _ _ _ _ hw c _ _ R=>fn_gg t.asked (asked_ok (f.s.gg tab _) ⟨top_at f.s t.s (n + 7),topX_at f t (n + 7),put_at f.s t.s (n + 2),putX_at f t (n + 4),cut_at f t (n + 3),cutX_at f t (n + 4),drop_at f t (n + 5),dropX_at f t (n + 5),back_at f t (n + 4),backX_at f t (n + 5),
  value_at f.s t.s (n + 3),valueX_at f t (n + 4),names_at f.s t.s (n + 3),namesX_at f t (n + 4),kind_at f.s t.s (n + 4),kindX_at f t (n + 5),chg_at f t (n + 6),chgX_at f t (n + 6)⟩ hw c R)
theorem told_at:C_told (GG g tab (n + 10)) A:=fun _ _ _ _ _ _ _ _ _ _ _ _ _ hw c _ hd h6 _ _ q0 q1=>fn_gg t.told (told_ok (f.s.gg tab _) (f.l.gg tab _) ((f.gg tab _).u) (asked_at f t n) hw c hd h6 q0 q1)
theorem law_tells {a T:Addr} {ns:List Int} {H:Hp} (hs:H a = some (.rlist (ns.map fun n=>Value.int n 0))) (ht:H T = some .tab):(GG g tab 13).fn (A "law" "") false [.ref a] H (fun v H=>v = .bool true∧H T = some .tab) (fun _ _=>False) :=
  fn_gg t.law (law_ok (f.s.gg tab 12) (f.l.gg tab 12) ⟨cell_at t 11,word_at t 11,paths_at t 11,sinit_at f.s t.s 8,put_at f.s t.s 6,snap_at f t 9,drop_at f t 9,due_at f t 10,told_at f t 2,kept_at f t 11,shot_numbers_at f t 11,top_at f.s t.s 11⟩ hs ht fun _ h=>⟨rfl,h⟩)
end
end
end Mine.L5
end

end

section
open PySem PyProof.Rows PySem.Calls
set_option maxHeartbeats 4000000
set_option linter.unusedVariables false
namespace Mine.L5
open Mine Mine.Lw
noncomputable abbrev fd_is_name:FuncData:=(fo (stA 13) "is_name" (Value.str (Str.ofString "snaptree.paths") 326) 122)
noncomputable abbrev fd_checked:FuncData:=(fo (stA 14) "checked" (Value.str (Str.ofString "snaptree.paths") 326) 127)
noncomputable abbrev fd_Pile___init__:FuncData:=(fo (inA 16 0) "Pile.__init__" (Value.str (Str.ofString "snaptree.pile") 344) 141)
noncomputable abbrev fd_Pile_need:FuncData:=(fo (inA 16 1) "Pile.need" (Value.str (Str.ofString "snaptree.pile") 344) 148)
noncomputable abbrev fd_Pile_fresh:FuncData:=(fo (inA 16 2) "Pile.fresh" (Value.str (Str.ofString "snaptree.pile") 344) 155)
noncomputable abbrev fd_Pile_leaf:FuncData:=(fo (inA 16 3) "Pile.leaf" (Value.str (Str.ofString "snaptree.pile") 344) 162)
noncomputable abbrev fd_Pile_branch:FuncData:=(fo (inA 16 4) "Pile.branch" (Value.str (Str.ofString "snaptree.pile") 344) 169)
noncomputable abbrev fd_Pile_content:FuncData:=(fo (inA 16 5) "Pile.content" (Value.str (Str.ofString "snaptree.pile") 344) 176)
noncomputable abbrev fd_Pile_hold:FuncData:=(fo (inA 16 6) "Pile.hold" (Value.str (Str.ofString "snaptree.pile") 344) 183)
noncomputable abbrev fd_Pile_let_go:FuncData:=(fo (inA 16 8) "Pile.let_go" (Value.str (Str.ofString "snaptree.pile") 344) 195)
noncomputable abbrev fd_Pile_kept:FuncData:=(fo (inA 16 9) "Pile.kept" (Value.str (Str.ofString "snaptree.pile") 344) 202)
noncomputable abbrev fd_box_of:FuncData:=(fo (stA 18) "box_of" (Value.str (Str.ofString "snaptree.rows") 447) 216)
noncomputable abbrev fd_without:FuncData:=(fo (stA 19) "without" (Value.str (Str.ofString "snaptree.rows") 447) 221)
noncomputable abbrev fd_placed:FuncData:=(fo (stA 20) "placed" (Value.str (Str.ofString "snaptree.rows") 447) 226)
noncomputable abbrev fd_need_way:FuncData:=(fo (stA 23) "need_way" (Value.str (Str.ofString "snaptree.store") 470) 233)
noncomputable abbrev fd_need_number:FuncData:=(fo (stA 24) "need_number" (Value.str (Str.ofString "snaptree.store") 470) 240)
noncomputable abbrev fd_Store___init__:FuncData:=(fo (inA 25 0) "Store.__init__" (Value.str (Str.ofString "snaptree.store") 470) 254)
noncomputable abbrev fd_Store_top:FuncData:=(fo (inA 25 1) "Store.top" (Value.str (Str.ofString "snaptree.store") 470) 261)
noncomputable abbrev fd_Store_found:FuncData:=(fo (inA 25 2) "Store.found" (Value.str (Str.ofString "snaptree.store") 470) 268)
noncomputable abbrev fd_Store_ways:FuncData:=(fo (inA 25 3) "Store.ways" (Value.str (Str.ofString "snaptree.store") 470) 275)
noncomputable abbrev fd_Store_changed:FuncData:=(fo (inA 25 4) "Store.changed" (Value.str (Str.ofString "snaptree.store") 470) 282)
noncomputable abbrev fd_Store_put:FuncData:=(fo (inA 25 5) "Store.put" (Value.str (Str.ofString "snaptree.store") 470) 289)
noncomputable abbrev fd_Store_cut:FuncData:=(fo (inA 25 6) "Store.cut" (Value.str (Str.ofString "snaptree.store") 470) 296)
noncomputable abbrev fd_Store_snap:FuncData:=(fo (inA 25 7) "Store.snap" (Value.str (Str.ofString "snaptree.store") 470) 303)
noncomputable abbrev fd_Store_shot:FuncData:=(fo (inA 25 8) "Store.shot" (Value.str (Str.ofString "snaptree.store") 470) 310)
noncomputable abbrev fd_Store_drop:FuncData:=(fo (inA 25 9) "Store.drop" (Value.str (Str.ofString "snaptree.store") 470) 317)
noncomputable abbrev fd_Store_back:FuncData:=(fo (inA 25 10) "Store.back" (Value.str (Str.ofString "snaptree.store") 470) 324)
noncomputable abbrev fd_Store_shot_numbers:FuncData:=(fo (inA 25 11) "Store.shot_numbers" (Value.str (Str.ofString "snaptree.store") 470) 331)
noncomputable abbrev fd_Store_kind:FuncData:=(fo (inA 25 12) "Store.kind" (Value.str (Str.ofString "snaptree.store") 470) 338)
noncomputable abbrev fd_Store_value:FuncData:=(fo (inA 25 13) "Store.value" (Value.str (Str.ofString "snaptree.store") 470) 345)
noncomputable abbrev fd_Store_names:FuncData:=(fo (inA 25 14) "Store.names" (Value.str (Str.ofString "snaptree.store") 470) 350)
noncomputable abbrev fd_Store_changes:FuncData:=(fo (inA 25 16) "Store.changes" (Value.str (Str.ofString "snaptree.store") 470) 362)
noncomputable abbrev fd__law_cell_at:FuncData:=(fo (stA 27) "_law_cell_at" (Value.str (Str.ofString "law_uf040010_05") 667) 376)
noncomputable abbrev fd__law_word_by:FuncData:=(fo (stA 28) "_law_word_by" (Value.str (Str.ofString "law_uf040010_05") 667) 381)
noncomputable abbrev fd__law_paths:FuncData:=(fo (stA 29) "_law_paths" (Value.str (Str.ofString "law_uf040010_05") 667) 388)
noncomputable abbrev fd__law_asked:FuncData:=(fo (stA 30) "_law_asked" (Value.str (Str.ofString "law_uf040010_05") 667) 395)
noncomputable abbrev fd__law_told:FuncData:=(fo (stA 31) "_law_told" (Value.str (Str.ofString "law_uf040010_05") 667) 402)
noncomputable abbrev fd__law_due_of_view:FuncData:=(fo (stA 32) "_law_due_of_view" (Value.str (Str.ofString "law_uf040010_05") 667) 409)
noncomputable abbrev fd__law_due:FuncData:=(fo (stA 33) "_law_due" (Value.str (Str.ofString "law_uf040010_05") 667) 416)
noncomputable abbrev fd_law:FuncData:=(fo (stA 34) "law" (Value.str (Str.ofString "law_uf040010_05") 667) 423)
theorem d_is_name {P:Pm} {G:Gx} {n:Nat} (Y:PmOk P) (B:BltOk P) (GO:GxOk P G) (FN:SndFn P G n) (hm:Bool):SS P G n hm (scOf (stA 13)) (bodyOf (stA 13)) St.b_is_name:=(ss_cons (s1_if (st_bop (sts_more (st_not (st_of_se (se_isi Y B GO rfl rfl rfl rfl rfl (se_loc rfl)) rfl)) (sts_one (st_not (st_cmp2 Y se_int (se_bf Y B rfl rfl rfl rfl (ses_cons rfl (se_loc rfl) ses_nil)) (se_glob Y GO rfl) rfl))))) (ss_cons (s1_ret se_bool) ss_nil) ss_nil) (ss_cons (s1_ret (se_bf Y B rfl rfl rfl rfl (ses_cons rfl (se_comp rfl rfl (se_loc rfl) (se_cmp Y (se_loc rfl) (se_glob Y GO rfl) rfl) STall.nil) ses_nil))) ss_nil))
theorem at_is_name {P:Pm} (Y:PmOk P) (B:BltOk P) (hK:P.K = KK P.w.params) (hl:P.lam = LAM):RowOk P (123,(["thing"],St.b_is_name)) :=
  row1 (fd:=fd_is_name) (body:=bodyOf (stA 13)) Y hK hl (by kernel_rfl) (by kernel_rfl) (by kernel_rfl) ⟨rfl,rfl,rfl⟩ (fun GO FN hm=>d_is_name Y B GO FN hm) (fun _=>rfl)
theorem d_checked {P:Pm} {G:Gx} {n:Nat} (Y:PmOk P) (B:BltOk P) (GO:GxOk P G) (FN:SndFn P G n) (hm:Bool):SS P G n hm (scOf (stA 14)) (bodyOf (stA 14)) St.b_checked:=(ss_cons (s1_if (st_bop (sts_more (st_not (st_of_se (se_isi_lt Y B rfl rfl rfl rfl (se_loc rfl)) rfl)) (sts_one (st_cmp Y (se_bf Y B rfl rfl rfl rfl (ses_cons rfl (se_loc rfl) ses_nil)) (se_glob Y GO rfl) rfl)))) (ss_cons (s1_raise Y GO rfl) ss_nil) ss_nil) (ss_cons (s1_if (st_not (st_of_se (se_bf Y B rfl rfl rfl rfl (ses_cons rfl (se_comp rfl rfl (se_loc rfl) (se_call Y GO FN rfl (se_glob Y GO rfl) (ses_cons rfl (se_loc rfl) ses_nil)) STall.nil) ses_nil)) rfl)) (ss_cons (s1_raise Y GO rfl) ss_nil) ss_nil) (ss_cons (s1_ret (se_bf Y B rfl rfl rfl rfl (ses_cons rfl (se_loc rfl) ses_nil))) ss_nil)))
theorem at_checked {P:Pm} (Y:PmOk P) (B:BltOk P) (hK:P.K = KK P.w.params) (hl:P.lam = LAM):RowOk P (128,(["path"],St.b_checked)) :=
  row1 (fd:=fd_checked) (body:=bodyOf (stA 14)) Y hK hl (by kernel_rfl) (by kernel_rfl) (by kernel_rfl) ⟨rfl,rfl,rfl⟩ (fun GO FN hm=>d_checked Y B GO FN hm) (fun _=>rfl)
theorem d_Pile___init__ {P:Pm} {G:Gx} {n:Nat} (Y:PmOk P) (B:BltOk P) (GO:GxOk P G) (FN:SndFn P G n) (hm:Bool):SS P G n hm (scOf (inA 16 0)) (bodyOf (inA 16 0)) St.b_Pile___init__:=(ss_cons (s1_asgAttr Y GO (se_loc rfl) se_dict0) (ss_cons (s1_asgAttr Y GO (se_loc rfl) se_dict0) (ss_cons (s1_asgAttr Y GO (se_loc rfl) se_int) ss_nil)))
theorem at_Pile___init__ {P:Pm} (Y:PmOk P) (B:BltOk P) (hK:P.K = KK P.w.params) (hl:P.lam = LAM):RowOk P (142,(["self"],St.b_Pile___init__)) :=
  row1 (fd:=fd_Pile___init__) (body:=bodyOf (inA 16 0)) Y hK hl (by kernel_rfl) (by kernel_rfl) (by kernel_rfl) ⟨rfl,rfl,rfl⟩ (fun GO FN hm=>d_Pile___init__ Y B GO FN hm) (fun _=>rfl)
theorem d_Pile_need {P:Pm} {G:Gx} {n:Nat} (Y:PmOk P) (B:BltOk P) (GO:GxOk P G) (FN:SndFn P G n) (hm:Bool):SS P G n hm (scOf (inA 16 1)) (bodyOf (inA 16 1)) St.b_Pile_need:=(ss_cons (s1_if (st_bop (sts_more (st_of_se (se_isi Y B GO rfl rfl rfl rfl rfl (se_loc rfl)) rfl) (sts_more (st_not (st_of_se (se_isi Y B GO rfl rfl rfl rfl rfl (se_loc rfl)) rfl)) (sts_one (st_cmp Y (se_loc rfl) (se_attr Y GO rfl (se_loc rfl)) rfl))))) (ss_cons (s1_raise Y GO rfl) ss_nil) ss_nil) (ss_cons (s1_ret (se_loc rfl)) ss_nil))
theorem at_Pile_need {P:Pm} (Y:PmOk P) (B:BltOk P) (hK:P.K = KK P.w.params) (hl:P.lam = LAM):RowOk P (149,(["self", "box"],St.b_Pile_need)) :=
  row2 (fd:=fd_Pile_need) (body:=bodyOf (inA 16 1)) Y hK hl (by kernel_rfl) (by kernel_rfl) (by kernel_rfl) ⟨rfl,rfl,rfl⟩ (fun GO FN hm=>d_Pile_need Y B GO FN hm) (fun _ _=>rfl)
theorem d_Pile_fresh {P:Pm} {G:Gx} {n:Nat} (Y:PmOk P) (B:BltOk P) (GO:GxOk P G) (FN:SndFn P G n) (hm:Bool):SS P G n hm (scOf (inA 16 2)) (bodyOf (inA 16 2)) St.b_Pile_fresh:=(ss_cons (s1_asgAttr Y GO (se_loc rfl) (se_bin (se_attr Y GO rfl (se_loc rfl)) se_int)) (ss_cons (s1_asgIdx Y (se_attr Y GO rfl (se_loc rfl)) (se_attr Y GO rfl (se_loc rfl)) (se_loc rfl)) (ss_cons (s1_asgIdx Y (se_attr Y GO rfl (se_loc rfl)) (se_attr Y GO rfl (se_loc rfl)) se_int) (ss_cons (s1_ret (se_attr Y GO rfl (se_loc rfl))) ss_nil))))
theorem at_Pile_fresh {P:Pm} (Y:PmOk P) (B:BltOk P) (hK:P.K = KK P.w.params) (hl:P.lam = LAM):RowOk P (156,(["self", "what"],St.b_Pile_fresh)) :=
  row2 (fd:=fd_Pile_fresh) (body:=bodyOf (inA 16 2)) Y hK hl (by kernel_rfl) (by kernel_rfl) (by kernel_rfl) ⟨rfl,rfl,rfl⟩ (fun GO FN hm=>d_Pile_fresh Y B GO FN hm) (fun _ _=>rfl)
theorem d_Pile_leaf {P:Pm} {G:Gx} {n:Nat} (Y:PmOk P) (B:BltOk P) (GO:GxOk P G) (FN:SndFn P G n) (hm:Bool):SS P G n hm (scOf (inA 16 3)) (bodyOf (inA 16 3)) St.b_Pile_leaf:=(ss_cons (s1_ret (se_meth Y GO FN rfl rfl rfl (Nat.le_of_ble_eq_true rfl) (se_loc rfl) (ses_cons rfl (se_tup (ses_cons rfl se_str (ses_cons rfl (se_loc rfl) ses_nil))) ses_nil))) ss_nil)
theorem at_Pile_leaf {P:Pm} (Y:PmOk P) (B:BltOk P) (hK:P.K = KK P.w.params) (hl:P.lam = LAM):RowOk P (163,(["self", "number"],St.b_Pile_leaf)) :=
  row2 (fd:=fd_Pile_leaf) (body:=bodyOf (inA 16 3)) Y hK hl (by kernel_rfl) (by kernel_rfl) (by kernel_rfl) ⟨rfl,rfl,rfl⟩ (fun GO FN hm=>d_Pile_leaf Y B GO FN hm) (fun _ _=>rfl)
theorem d_Pile_branch {P:Pm} {G:Gx} {n:Nat} (Y:PmOk P) (B:BltOk P) (GO:GxOk P G) (FN:SndFn P G n) (hm:Bool):SS P G n hm (scOf (inA 16 4)) (bodyOf (inA 16 4)) St.b_Pile_branch:=(ss_cons (s1_for rfl rfl (se_loc rfl) (ss_cons (s1_expr rfl (se_meth Y GO FN rfl rfl rfl (Nat.le_of_ble_eq_true rfl) (se_loc rfl) (ses_cons rfl (se_idx1 (se_loc rfl) se_int rfl) ses_nil))) ss_nil)) (ss_cons (s1_for rfl rfl (se_loc rfl) (ss_cons (s1_expr rfl (se_meth Y GO FN rfl rfl rfl (Nat.le_of_ble_eq_true rfl) (se_loc rfl) (ses_cons rfl (se_idx1 (se_loc rfl) se_int rfl) ses_nil))) ss_nil)) (ss_cons (s1_ret (se_meth Y GO FN rfl rfl rfl (Nat.le_of_ble_eq_true rfl) (se_loc rfl) (ses_cons rfl (se_tup (ses_cons rfl se_str (ses_cons rfl (se_bf Y B rfl rfl rfl rfl (ses_cons rfl (se_loc rfl) ses_nil)) ses_nil))) ses_nil))) ss_nil)))
theorem at_Pile_branch {P:Pm} (Y:PmOk P) (B:BltOk P) (hK:P.K = KK P.w.params) (hl:P.lam = LAM):RowOk P (170,(["self", "rows"],St.b_Pile_branch)) :=
  row2 (fd:=fd_Pile_branch) (body:=bodyOf (inA 16 4)) Y hK hl (by kernel_rfl) (by kernel_rfl) (by kernel_rfl) ⟨rfl,rfl,rfl⟩ (fun GO FN hm=>d_Pile_branch Y B GO FN hm) (fun _ _=>rfl)
theorem d_Pile_content {P:Pm} {G:Gx} {n:Nat} (Y:PmOk P) (B:BltOk P) (GO:GxOk P G) (FN:SndFn P G n) (hm:Bool):SS P G n hm (scOf (inA 16 5)) (bodyOf (inA 16 5)) St.b_Pile_content:=(ss_cons (s1_asg rfl rfl (se_idx1 (se_attr Y GO rfl (se_loc rfl)) (se_meth Y GO FN rfl rfl rfl (Nat.le_of_ble_eq_true rfl) (se_loc rfl) (ses_cons rfl (se_loc rfl) ses_nil)) rfl)) (ss_cons (s1_if (st_cmp Y (se_idx1 (se_loc rfl) se_int rfl) se_str rfl) (ss_cons (s1_ret (se_tup (ses_cons rfl se_str (ses_cons rfl (se_bf Y B rfl rfl rfl rfl (ses_cons rfl (se_idx1 (se_loc rfl) se_int rfl) ses_nil)) ses_nil)))) ss_nil) ss_nil) (ss_cons (s1_ret (se_loc rfl)) ss_nil)))
theorem at_Pile_content {P:Pm} (Y:PmOk P) (B:BltOk P) (hK:P.K = KK P.w.params) (hl:P.lam = LAM):RowOk P (177,(["self", "box"],St.b_Pile_content)) :=
  row2 (fd:=fd_Pile_content) (body:=bodyOf (inA 16 5)) Y hK hl (by kernel_rfl) (by kernel_rfl) (by kernel_rfl) ⟨rfl,rfl,rfl⟩ (fun GO FN hm=>d_Pile_content Y B GO FN hm) (fun _ _=>rfl)
theorem d_Pile_hold {P:Pm} {G:Gx} {n:Nat} (Y:PmOk P) (B:BltOk P) (GO:GxOk P G) (FN:SndFn P G n) (hm:Bool):SS P G n hm (scOf (inA 16 6)) (bodyOf (inA 16 6)) St.b_Pile_hold:=(ss_cons (s1_expr rfl (se_meth Y GO FN rfl rfl rfl (Nat.le_of_ble_eq_true rfl) (se_loc rfl) (ses_cons rfl (se_loc rfl) ses_nil))) (ss_cons (s1_asgIdx Y (se_attr Y GO rfl (se_loc rfl)) (se_loc rfl) (se_bin (se_idx1 (se_attr Y GO rfl (se_loc rfl)) (se_loc rfl) rfl) se_int)) ss_nil))
theorem at_Pile_hold {P:Pm} (Y:PmOk P) (B:BltOk P) (hK:P.K = KK P.w.params) (hl:P.lam = LAM):RowOk P (184,(["self", "box"],St.b_Pile_hold)) :=
  row2 (fd:=fd_Pile_hold) (body:=bodyOf (inA 16 6)) Y hK hl (by kernel_rfl) (by kernel_rfl) (by kernel_rfl) ⟨rfl,rfl,rfl⟩ (fun GO FN hm=>d_Pile_hold Y B GO FN hm) (fun _ _=>rfl)
theorem d_Pile_let_go {P:Pm} {G:Gx} {n:Nat} (Y:PmOk P) (B:BltOk P) (GO:GxOk P G) (FN:SndFn P G n) (hm:Bool):SS P G n hm (scOf (inA 16 8)) (bodyOf (inA 16 8)) St.b_Pile_let_go:=(ss_cons (s1_asg rfl rfl (se_list (ses_cons rfl (se_meth Y GO FN rfl rfl rfl (Nat.le_of_ble_eq_true rfl) (se_loc rfl) (ses_cons rfl (se_loc rfl) ses_nil)) ses_nil))) (ss_cons (s1_asg rfl rfl se_int) (ss_cons (s1_while (st_cmp Y (se_loc rfl) (se_list ses_nil) rfl) (ss_cons (s1_asg rfl rfl (se_bm rfl rfl rfl rfl (Nat.le_of_ble_eq_true rfl) (se_loc rfl) ses_nil)) (ss_cons (s1_if (st_cmp Y (se_loc rfl) (se_attr Y GO rfl (se_loc rfl)) rfl) (ss_cons s1_cont ss_nil) ss_nil) (ss_cons (s1_asgIdx Y (se_attr Y GO rfl (se_loc rfl)) (se_loc rfl) (se_bf Y B rfl rfl rfl rfl (ses_cons rfl se_int (ses_cons rfl (se_bin (se_idx1 (se_attr Y GO rfl (se_loc rfl)) (se_loc rfl) rfl) se_int) ses_nil)))) (ss_cons (s1_if (st_cmp Y (se_idx1 (se_attr Y GO rfl (se_loc rfl)) (se_loc rfl) rfl) se_int rfl) (ss_cons (s1_asg rfl rfl (se_bm rfl rfl rfl rfl (Nat.le_of_ble_eq_true rfl) (se_attr Y GO rfl (se_loc rfl)) (ses_cons rfl (se_loc rfl) ses_nil))) (ss_cons (s1_expr rfl (se_bm rfl rfl rfl rfl (Nat.le_of_ble_eq_true rfl) (se_attr Y GO rfl (se_loc rfl)) (ses_cons rfl (se_loc rfl) ses_nil))) (ss_cons (s1_asg rfl rfl (se_bin (se_loc rfl) se_int)) (ss_cons (s1_if (st_cmp Y (se_idx1 (se_loc rfl) se_int rfl) se_str rfl) (ss_cons (s1_asg rfl rfl (se_bin (se_loc rfl) (se_comp rfl rfl (se_idx1 (se_loc rfl) se_int rfl) (se_idx1 (se_loc rfl) se_int rfl) STall.nil))) ss_nil) ss_nil) ss_nil)))) ss_nil) ss_nil))))) (ss_cons (s1_ret (se_loc rfl)) ss_nil))))
theorem at_Pile_let_go {P:Pm} (Y:PmOk P) (B:BltOk P) (hK:P.K = KK P.w.params) (hl:P.lam = LAM):RowOk P (196,(["self", "box"],St.b_Pile_let_go)) :=
  row2 (fd:=fd_Pile_let_go) (body:=bodyOf (inA 16 8)) Y hK hl (by kernel_rfl) (by kernel_rfl) (by kernel_rfl) ⟨rfl,rfl,rfl⟩ (fun GO FN hm=>d_Pile_let_go Y B GO FN hm) (fun _ _=>rfl)
theorem d_Pile_kept {P:Pm} {G:Gx} {n:Nat} (Y:PmOk P) (B:BltOk P) (GO:GxOk P G) (FN:SndFn P G n) (hm:Bool):SS P G n hm (scOf (inA 16 9)) (bodyOf (inA 16 9)) St.b_Pile_kept:=(ss_cons (s1_ret (se_bf Y B rfl rfl rfl rfl (ses_cons rfl (se_attr Y GO rfl (se_loc rfl)) ses_nil))) ss_nil)
theorem at_Pile_kept {P:Pm} (Y:PmOk P) (B:BltOk P) (hK:P.K = KK P.w.params) (hl:P.lam = LAM):RowOk P (203,(["self"],St.b_Pile_kept)) :=
  row1 (fd:=fd_Pile_kept) (body:=bodyOf (inA 16 9)) Y hK hl (by kernel_rfl) (by kernel_rfl) (by kernel_rfl) ⟨rfl,rfl,rfl⟩ (fun GO FN hm=>d_Pile_kept Y B GO FN hm) (fun _=>rfl)
theorem d_box_of {P:Pm} {G:Gx} {n:Nat} (Y:PmOk P) (B:BltOk P) (GO:GxOk P G) (FN:SndFn P G n) (hm:Bool):SS P G n hm (scOf (stA 18)) (bodyOf (stA 18)) St.b_box_of:=(ss_cons (s1_for rfl rfl (se_loc rfl) (ss_cons (s1_if (st_cmp Y (se_idx1 (se_loc rfl) se_int rfl) (se_loc rfl) rfl) (ss_cons (s1_ret (se_idx1 (se_loc rfl) se_int rfl)) ss_nil) ss_nil) ss_nil)) (ss_cons (s1_ret se_none) ss_nil))
theorem at_box_of {P:Pm} (Y:PmOk P) (B:BltOk P) (hK:P.K = KK P.w.params) (hl:P.lam = LAM):RowOk P (217,(["rows", "name"],St.b_box_of)) :=
  row2 (fd:=fd_box_of) (body:=bodyOf (stA 18)) Y hK hl (by kernel_rfl) (by kernel_rfl) (by kernel_rfl) ⟨rfl,rfl,rfl⟩ (fun GO FN hm=>d_box_of Y B GO FN hm) (fun _ _=>rfl)
theorem d_without {P:Pm} {G:Gx} {n:Nat} (Y:PmOk P) (B:BltOk P) (GO:GxOk P G) (FN:SndFn P G n) (hm:Bool):SS P G n hm (scOf (stA 19)) (bodyOf (stA 19)) St.b_without:=(ss_cons (s1_ret (se_comp rfl rfl (se_loc rfl) (se_loc rfl) (STall.cons (st_cmp Y (se_idx1 (se_loc rfl) se_int rfl) (se_loc rfl) rfl) STall.nil))) ss_nil)
theorem at_without {P:Pm} (Y:PmOk P) (B:BltOk P) (hK:P.K = KK P.w.params) (hl:P.lam = LAM):RowOk P (222,(["rows", "name"],St.b_without)) :=
  row2 (fd:=fd_without) (body:=bodyOf (stA 19)) Y hK hl (by kernel_rfl) (by kernel_rfl) (by kernel_rfl) ⟨rfl,rfl,rfl⟩ (fun GO FN hm=>d_without Y B GO FN hm) (fun _ _=>rfl)
theorem d_placed {P:Pm} {G:Gx} {n:Nat} (Y:PmOk P) (B:BltOk P) (GO:GxOk P G) (FN:SndFn P G n) (hm:Bool):SS P G n hm (scOf (stA 20)) (bodyOf (stA 20)) St.b_placed:=(ss_cons (s1_asgComp rfl rfl rfl (se_loc rfl) (se_loc rfl) (STall.cons (st_cmp Y (se_idx1 (se_loc rfl) se_int rfl) (se_loc rfl) rfl) STall.nil)) (ss_cons (s1_asgComp rfl rfl rfl (se_loc rfl) (se_loc rfl) (STall.cons (st_cmp Y (se_idx1 (se_loc rfl) se_int rfl) (se_loc rfl) rfl) STall.nil)) (ss_cons (s1_ret (se_bin (se_bin (se_loc rfl) (se_list (ses_cons rfl (se_tup (ses_cons rfl (se_loc rfl) (ses_cons rfl (se_loc rfl) ses_nil))) ses_nil))) (se_loc rfl))) ss_nil)))
theorem at_placed {P:Pm} (Y:PmOk P) (B:BltOk P) (hK:P.K = KK P.w.params) (hl:P.lam = LAM):RowOk P (227,(["rows", "name", "box"],St.b_placed)) :=
  row3 (fd:=fd_placed) (body:=bodyOf (stA 20)) Y hK hl (by kernel_rfl) (by kernel_rfl) (by kernel_rfl) ⟨rfl,rfl,rfl⟩ (fun GO FN hm=>d_placed Y B GO FN hm) (fun _ _ _=>rfl)
theorem d_need_way {P:Pm} {G:Gx} {n:Nat} (Y:PmOk P) (B:BltOk P) (GO:GxOk P G) (FN:SndFn P G n) (hm:Bool):SS P G n hm (scOf (stA 23)) (bodyOf (stA 23)) St.b_need_way:=(ss_cons (s1_asg rfl rfl (se_call Y GO FN rfl (se_glob Y GO rfl) (ses_cons rfl (se_loc rfl) ses_nil))) (ss_cons (s1_if (st_cmp Y (se_loc rfl) (se_list ses_nil) rfl) (ss_cons (s1_raise Y GO rfl) ss_nil) ss_nil) (ss_cons (s1_ret (se_loc rfl)) ss_nil)))
theorem at_need_way {P:Pm} (Y:PmOk P) (B:BltOk P) (hK:P.K = KK P.w.params) (hl:P.lam = LAM):RowOk P (234,(["path"],St.b_need_way)) :=
  row1 (fd:=fd_need_way) (body:=bodyOf (stA 23)) Y hK hl (by kernel_rfl) (by kernel_rfl) (by kernel_rfl) ⟨rfl,rfl,rfl⟩ (fun GO FN hm=>d_need_way Y B GO FN hm) (fun _=>rfl)
theorem d_need_number {P:Pm} {G:Gx} {n:Nat} (Y:PmOk P) (B:BltOk P) (GO:GxOk P G) (FN:SndFn P G n) (hm:Bool):SS P G n hm (scOf (stA 24)) (bodyOf (stA 24)) St.b_need_number:=(ss_cons (s1_if (st_bop (sts_more (st_of_se (se_isi Y B GO rfl rfl rfl rfl rfl (se_loc rfl)) rfl) (sts_more (st_not (st_of_se (se_isi Y B GO rfl rfl rfl rfl rfl (se_loc rfl)) rfl)) (sts_one (st_not (st_cmp2 Y (se_neg (se_glob Y GO rfl)) (se_loc rfl) (se_glob Y GO rfl) rfl)))))) (ss_cons (s1_raise Y GO rfl) ss_nil) ss_nil) ss_nil)
theorem at_need_number {P:Pm} (Y:PmOk P) (B:BltOk P) (hK:P.K = KK P.w.params) (hl:P.lam = LAM):RowOk P (241,(["number"],St.b_need_number)) :=
  row1 (fd:=fd_need_number) (body:=bodyOf (stA 24)) Y hK hl (by kernel_rfl) (by kernel_rfl) (by kernel_rfl) ⟨rfl,rfl,rfl⟩ (fun GO FN hm=>d_need_number Y B GO FN hm) (fun _=>rfl)
theorem d_Store___init__ {P:Pm} {G:Gx} {n:Nat} (Y:PmOk P) (B:BltOk P) (GO:GxOk P G) (FN:SndFn P G n) (hm:Bool):SS P G n hm (scOf (inA 25 0)) (bodyOf (inA 25 0)) St.b_Store___init__:=(ss_cons (s1_asgAttr Y GO (se_loc rfl) (se_call Y GO FN rfl (se_glob Y GO rfl) ses_nil)) (ss_cons (s1_asgAttr Y GO (se_loc rfl) (se_meth Y GO FN rfl rfl rfl (Nat.le_of_ble_eq_true rfl) (se_attr Y GO rfl (se_loc rfl)) (ses_cons rfl (se_list ses_nil) ses_nil))) (ss_cons (s1_expr rfl (se_meth Y GO FN rfl rfl rfl (Nat.le_of_ble_eq_true rfl) (se_attr Y GO rfl (se_loc rfl)) (ses_cons rfl (se_attr Y GO rfl (se_loc rfl)) ses_nil))) (ss_cons (s1_asgAttr Y GO (se_loc rfl) se_dict0) (ss_cons (s1_asgAttr Y GO (se_loc rfl) se_int) ss_nil)))))
theorem at_Store___init__ {P:Pm} (Y:PmOk P) (B:BltOk P) (hK:P.K = KK P.w.params) (hl:P.lam = LAM):RowOk P (255,(["self"],St.b_Store___init__)) :=
  row1 (fd:=fd_Store___init__) (body:=bodyOf (inA 25 0)) Y hK hl (by kernel_rfl) (by kernel_rfl) (by kernel_rfl) ⟨rfl,rfl,rfl⟩ (fun GO FN hm=>d_Store___init__ Y B GO FN hm) (fun _=>rfl)
theorem d_Store_top {P:Pm} {G:Gx} {n:Nat} (Y:PmOk P) (B:BltOk P) (GO:GxOk P G) (FN:SndFn P G n) (hm:Bool):SS P G n hm (scOf (inA 25 1)) (bodyOf (inA 25 1)) St.b_Store_top:=(ss_cons (s1_if (st_cmp Y (se_loc rfl) se_none rfl) (ss_cons (s1_ret (se_attr Y GO rfl (se_loc rfl))) ss_nil) ss_nil) (ss_cons (s1_if (st_bop (sts_more (st_of_se (se_isi Y B GO rfl rfl rfl rfl rfl (se_loc rfl)) rfl) (sts_more (st_not (st_of_se (se_isi Y B GO rfl rfl rfl rfl rfl (se_loc rfl)) rfl)) (sts_one (st_cmp Y (se_loc rfl) (se_attr Y GO rfl (se_loc rfl)) rfl))))) (ss_cons (s1_raise Y GO rfl) ss_nil) ss_nil) (ss_cons (s1_ret (se_idx1 (se_attr Y GO rfl (se_loc rfl)) (se_loc rfl) rfl)) ss_nil)))
theorem at_Store_top {P:Pm} (Y:PmOk P) (B:BltOk P) (hK:P.K = KK P.w.params) (hl:P.lam = LAM):RowOk P (262,(["self", "view"],St.b_Store_top)) :=
  row2 (fd:=fd_Store_top) (body:=bodyOf (inA 25 1)) Y hK hl (by kernel_rfl) (by kernel_rfl) (by kernel_rfl) ⟨rfl,rfl,rfl⟩ (fun GO FN hm=>d_Store_top Y B GO FN hm) (fun _ _=>rfl)
theorem d_Store_found {P:Pm} {G:Gx} {n:Nat} (Y:PmOk P) (B:BltOk P) (GO:GxOk P G) (FN:SndFn P G n) (hm:Bool):SS P G n hm (scOf (inA 25 2)) (bodyOf (inA 25 2)) St.b_Store_found:=(ss_cons (s1_for rfl rfl (se_loc rfl) (ss_cons (s1_asg rfl rfl (se_meth Y GO FN rfl rfl rfl (Nat.le_of_ble_eq_true rfl) (se_attr Y GO rfl (se_loc rfl)) (ses_cons rfl (se_loc rfl) ses_nil))) (ss_cons (s1_if (st_cmp Y (se_idx1 (se_loc rfl) se_int rfl) se_str rfl) (ss_cons (s1_ret se_none) ss_nil) ss_nil) (ss_cons (s1_asg rfl rfl (se_call Y GO FN rfl (se_glob Y GO rfl) (ses_cons rfl (se_idx1 (se_loc rfl) se_int rfl) (ses_cons rfl (se_loc rfl) ses_nil)))) (ss_cons (s1_if (st_cmp Y (se_loc rfl) se_none rfl) (ss_cons (s1_ret se_none) ss_nil) ss_nil) ss_nil))))) (ss_cons (s1_ret (se_loc rfl)) ss_nil))
theorem at_Store_found {P:Pm} (Y:PmOk P) (B:BltOk P) (hK:P.K = KK P.w.params) (hl:P.lam = LAM):RowOk P (269,(["self", "box", "names"],St.b_Store_found)) :=
  row3 (fd:=fd_Store_found) (body:=bodyOf (inA 25 2)) Y hK hl (by kernel_rfl) (by kernel_rfl) (by kernel_rfl) ⟨rfl,rfl,rfl⟩ (fun GO FN hm=>d_Store_found Y B GO FN hm) (fun _ _ _=>rfl)
theorem d_Store_ways {P:Pm} {G:Gx} {n:Nat} (Y:PmOk P) (B:BltOk P) (GO:GxOk P G) (FN:SndFn P G n) (hm:Bool):SS P G n hm (scOf (inA 25 3)) (bodyOf (inA 25 3)) St.b_Store_ways:=(ss_cons (s1_asg rfl rfl (se_list ses_nil)) (ss_cons (s1_for rfl rfl (se_bf Y B rfl rfl rfl rfl (ses_cons rfl (se_bf Y B rfl rfl rfl rfl (ses_cons rfl (se_loc rfl) ses_nil)) ses_nil)) (ss_cons (s1_asg rfl rfl (se_meth Y GO FN rfl rfl rfl (Nat.le_of_ble_eq_true rfl) (se_loc rfl) (ses_cons rfl (se_attr Y GO rfl (se_loc rfl)) (ses_cons rfl (se_slice (se_loc rfl) so_none (so_some (se_loc rfl))) ses_nil)))) (ss_cons (s1_if (st_cmp Y (se_loc rfl) se_none rfl) (ss_cons (s1_expr rfl (se_bm rfl rfl rfl rfl (Nat.le_of_ble_eq_true rfl) (se_loc rfl) (ses_cons rfl (se_list ses_nil) ses_nil))) ss_nil) (ss_cons (s1_expr rfl (se_bm rfl rfl rfl rfl (Nat.le_of_ble_eq_true rfl) (se_loc rfl) (ses_cons rfl (se_idx1 (se_meth Y GO FN rfl rfl rfl (Nat.le_of_ble_eq_true rfl) (se_attr Y GO rfl (se_loc rfl)) (ses_cons rfl (se_loc rfl) ses_nil)) se_int rfl) ses_nil))) ss_nil)) ss_nil))) (ss_cons (s1_ret (se_loc rfl)) ss_nil)))
theorem at_Store_ways {P:Pm} (Y:PmOk P) (B:BltOk P) (hK:P.K = KK P.w.params) (hl:P.lam = LAM):RowOk P (276,(["self", "names"],St.b_Store_ways)) :=
  row2 (fd:=fd_Store_ways) (body:=bodyOf (inA 25 3)) Y hK hl (by kernel_rfl) (by kernel_rfl) (by kernel_rfl) ⟨rfl,rfl,rfl⟩ (fun GO FN hm=>d_Store_ways Y B GO FN hm) (fun _ _=>rfl)
theorem d_Store_changed {P:Pm} {G:Gx} {n:Nat} (Y:PmOk P) (B:BltOk P) (GO:GxOk P G) (FN:SndFn P G n) (hm:Bool):SS P G n hm (scOf (inA 25 4)) (bodyOf (inA 25 4)) St.b_Store_changed:=(ss_cons (s1_asg rfl rfl (se_attr Y GO rfl (se_loc rfl))) (ss_cons (s1_expr rfl (se_meth Y GO FN rfl rfl rfl (Nat.le_of_ble_eq_true rfl) (se_attr Y GO rfl (se_loc rfl)) (ses_cons rfl (se_loc rfl) ses_nil))) (ss_cons (s1_asgAttr Y GO (se_loc rfl) (se_loc rfl)) (ss_cons (s1_ret (se_meth Y GO FN rfl rfl rfl (Nat.le_of_ble_eq_true rfl) (se_attr Y GO rfl (se_loc rfl)) (ses_cons rfl (se_loc rfl) ses_nil))) ss_nil))))
theorem at_Store_changed {P:Pm} (Y:PmOk P) (B:BltOk P) (hK:P.K = KK P.w.params) (hl:P.lam = LAM):RowOk P (283,(["self", "box"],St.b_Store_changed)) :=
  row2 (fd:=fd_Store_changed) (body:=bodyOf (inA 25 4)) Y hK hl (by kernel_rfl) (by kernel_rfl) (by kernel_rfl) ⟨rfl,rfl,rfl⟩ (fun GO FN hm=>d_Store_changed Y B GO FN hm) (fun _ _=>rfl)
theorem d_Store_put {P:Pm} {G:Gx} {n:Nat} (Y:PmOk P) (B:BltOk P) (GO:GxOk P G) (FN:SndFn P G n) (hm:Bool):SS P G n hm (scOf (inA 25 5)) (bodyOf (inA 25 5)) St.b_Store_put:=(ss_cons (s1_asg rfl rfl (se_call Y GO FN rfl (se_glob Y GO rfl) (ses_cons rfl (se_loc rfl) ses_nil))) (ss_cons (s1_expr rfl (se_call Y GO FN rfl (se_glob Y GO rfl) (ses_cons rfl (se_loc rfl) ses_nil))) (ss_cons (s1_for rfl rfl (se_bf Y B rfl rfl rfl rfl (ses_cons rfl se_int (ses_cons rfl (se_bf Y B rfl rfl rfl rfl (ses_cons rfl (se_loc rfl) ses_nil)) ses_nil))) (ss_cons (s1_if (st_cmp Y (se_meth Y GO FN rfl rfl rfl (Nat.le_of_ble_eq_true rfl) (se_loc rfl) (ses_cons rfl se_none (ses_cons rfl (se_slice (se_loc rfl) so_none (so_some (se_loc rfl))) ses_nil))) se_str rfl) (ss_cons (s1_raise Y GO rfl) ss_nil) ss_nil) ss_nil)) (ss_cons (s1_asg rfl rfl (se_meth Y GO FN rfl rfl rfl (Nat.le_of_ble_eq_true rfl) (se_loc rfl) (ses_cons rfl se_none (ses_cons rfl (se_loc rfl) ses_nil)))) (ss_cons (s1_if (st_cmp Y (se_loc rfl) se_str rfl) (ss_cons (s1_raise Y GO rfl) ss_nil) ss_nil) (ss_cons (s1_if (st_bop (sts_more (st_cmp Y (se_loc rfl) se_str rfl) (sts_one (st_cmp Y (se_meth Y GO FN rfl rfl rfl (Nat.le_of_ble_eq_true rfl) (se_loc rfl) (ses_cons rfl se_none (ses_cons rfl (se_loc rfl) ses_nil))) (se_loc rfl) rfl)))) (ss_cons (s1_ret se_int) ss_nil) ss_nil) (ss_cons (s1_asg rfl rfl (se_meth Y GO FN rfl rfl rfl (Nat.le_of_ble_eq_true rfl) (se_loc rfl) (ses_cons rfl (se_loc rfl) ses_nil))) (ss_cons (s1_asg rfl rfl (se_meth Y GO FN rfl rfl rfl (Nat.le_of_ble_eq_true rfl) (se_attr Y GO rfl (se_loc rfl)) (ses_cons rfl (se_loc rfl) ses_nil))) (ss_cons (s1_for rfl rfl (se_bf Y B rfl rfl rfl rfl (ses_cons rfl (se_bin (se_bf Y B rfl rfl rfl rfl (ses_cons rfl (se_loc rfl) ses_nil)) se_int) (ses_cons rfl (se_neg se_int) (ses_cons rfl (se_neg se_int) ses_nil)))) (ss_cons (s1_asg rfl rfl (se_meth Y GO FN rfl rfl rfl (Nat.le_of_ble_eq_true rfl) (se_attr Y GO rfl (se_loc rfl)) (ses_cons rfl (se_call Y GO FN rfl (se_glob Y GO rfl) (ses_cons rfl (se_idx1 (se_loc rfl) (se_loc rfl) rfl) (ses_cons rfl (se_idx1 (se_loc rfl) (se_loc rfl) rfl) (ses_cons rfl (se_loc rfl) ses_nil)))) ses_nil))) ss_nil)) (ss_cons (s1_ret (se_meth Y GO FN rfl rfl rfl (Nat.le_of_ble_eq_true rfl) (se_loc rfl) (ses_cons rfl (se_loc rfl) ses_nil))) ss_nil))))))))))
theorem at_Store_put {P:Pm} (Y:PmOk P) (B:BltOk P) (hK:P.K = KK P.w.params) (hl:P.lam = LAM):RowOk P (290,(["self", "path", "number"],St.b_Store_put)) :=
  row3 (fd:=fd_Store_put) (body:=bodyOf (inA 25 5)) Y hK hl (by kernel_rfl) (by kernel_rfl) (by kernel_rfl) ⟨rfl,rfl,rfl⟩ (fun GO FN hm=>d_Store_put Y B GO FN hm) (fun _ _ _=>rfl)
theorem d_Store_cut {P:Pm} {G:Gx} {n:Nat} (Y:PmOk P) (B:BltOk P) (GO:GxOk P G) (FN:SndFn P G n) (hm:Bool):SS P G n hm (scOf (inA 25 6)) (bodyOf (inA 25 6)) St.b_Store_cut:=(ss_cons (s1_asg rfl rfl (se_call Y GO FN rfl (se_glob Y GO rfl) (ses_cons rfl (se_loc rfl) ses_nil))) (ss_cons (s1_if (st_cmp Y (se_meth Y GO FN rfl rfl rfl (Nat.le_of_ble_eq_true rfl) (se_loc rfl) (ses_cons rfl (se_attr Y GO rfl (se_loc rfl)) (ses_cons rfl (se_loc rfl) ses_nil))) se_none rfl) (ss_cons (s1_raise Y GO rfl) ss_nil) ss_nil) (ss_cons (s1_asg rfl rfl (se_meth Y GO FN rfl rfl rfl (Nat.le_of_ble_eq_true rfl) (se_loc rfl) (ses_cons rfl (se_loc rfl) ses_nil))) (ss_cons (s1_asg rfl rfl (se_meth Y GO FN rfl rfl rfl (Nat.le_of_ble_eq_true rfl) (se_attr Y GO rfl (se_loc rfl)) (ses_cons rfl (se_call Y GO FN rfl (se_glob Y GO rfl) (ses_cons rfl (se_idx1 (se_loc rfl) (se_neg se_int) rfl) (ses_cons rfl (se_idx1 (se_loc rfl) (se_neg se_int) rfl) ses_nil))) ses_nil))) (ss_cons (s1_for rfl rfl (se_bf Y B rfl rfl rfl rfl (ses_cons rfl (se_bin (se_bf Y B rfl rfl rfl rfl (ses_cons rfl (se_loc rfl) ses_nil)) se_int) (ses_cons rfl (se_neg se_int) (ses_cons rfl (se_neg se_int) ses_nil)))) (ss_cons (s1_asg rfl rfl (se_meth Y GO FN rfl rfl rfl (Nat.le_of_ble_eq_true rfl) (se_attr Y GO rfl (se_loc rfl)) (ses_cons rfl (se_call Y GO FN rfl (se_glob Y GO rfl) (ses_cons rfl (se_idx1 (se_loc rfl) (se_loc rfl) rfl) (ses_cons rfl (se_idx1 (se_loc rfl) (se_loc rfl) rfl) (ses_cons rfl (se_loc rfl) ses_nil)))) ses_nil))) ss_nil)) (ss_cons (s1_ret (se_meth Y GO FN rfl rfl rfl (Nat.le_of_ble_eq_true rfl) (se_loc rfl) (ses_cons rfl (se_loc rfl) ses_nil))) ss_nil))))))
theorem at_Store_cut {P:Pm} (Y:PmOk P) (B:BltOk P) (hK:P.K = KK P.w.params) (hl:P.lam = LAM):RowOk P (297,(["self", "path"],St.b_Store_cut)) :=
  row2 (fd:=fd_Store_cut) (body:=bodyOf (inA 25 6)) Y hK hl (by kernel_rfl) (by kernel_rfl) (by kernel_rfl) ⟨rfl,rfl,rfl⟩ (fun GO FN hm=>d_Store_cut Y B GO FN hm) (fun _ _=>rfl)
theorem d_Store_snap {P:Pm} {G:Gx} {n:Nat} (Y:PmOk P) (B:BltOk P) (GO:GxOk P G) (FN:SndFn P G n) (hm:Bool):SS P G n hm (scOf (inA 25 7)) (bodyOf (inA 25 7)) St.b_Store_snap:=(ss_cons (s1_asgAttr Y GO (se_loc rfl) (se_bin (se_attr Y GO rfl (se_loc rfl)) se_int)) (ss_cons (s1_asgIdx Y (se_attr Y GO rfl (se_loc rfl)) (se_attr Y GO rfl (se_loc rfl)) (se_attr Y GO rfl (se_loc rfl))) (ss_cons (s1_expr rfl (se_meth Y GO FN rfl rfl rfl (Nat.le_of_ble_eq_true rfl) (se_attr Y GO rfl (se_loc rfl)) (ses_cons rfl (se_attr Y GO rfl (se_loc rfl)) ses_nil))) (ss_cons (s1_ret (se_attr Y GO rfl (se_loc rfl))) ss_nil))))
theorem at_Store_snap {P:Pm} (Y:PmOk P) (B:BltOk P) (hK:P.K = KK P.w.params) (hl:P.lam = LAM):RowOk P (304,(["self"],St.b_Store_snap)) :=
  row1 (fd:=fd_Store_snap) (body:=bodyOf (inA 25 7)) Y hK hl (by kernel_rfl) (by kernel_rfl) (by kernel_rfl) ⟨rfl,rfl,rfl⟩ (fun GO FN hm=>d_Store_snap Y B GO FN hm) (fun _=>rfl)
theorem d_Store_shot {P:Pm} {G:Gx} {n:Nat} (Y:PmOk P) (B:BltOk P) (GO:GxOk P G) (FN:SndFn P G n) (hm:Bool):SS P G n hm (scOf (inA 25 8)) (bodyOf (inA 25 8)) St.b_Store_shot:=(ss_cons (s1_if (st_cmp Y (se_loc rfl) se_none rfl) (ss_cons (s1_raise Y GO rfl) ss_nil) ss_nil) (ss_cons (s1_ret (se_meth Y GO FN rfl rfl rfl (Nat.le_of_ble_eq_true rfl) (se_loc rfl) (ses_cons rfl (se_loc rfl) ses_nil))) ss_nil))
theorem at_Store_shot {P:Pm} (Y:PmOk P) (B:BltOk P) (hK:P.K = KK P.w.params) (hl:P.lam = LAM):RowOk P (311,(["self", "number"],St.b_Store_shot)) :=
  row2 (fd:=fd_Store_shot) (body:=bodyOf (inA 25 8)) Y hK hl (by kernel_rfl) (by kernel_rfl) (by kernel_rfl) ⟨rfl,rfl,rfl⟩ (fun GO FN hm=>d_Store_shot Y B GO FN hm) (fun _ _=>rfl)
theorem d_Store_drop {P:Pm} {G:Gx} {n:Nat} (Y:PmOk P) (B:BltOk P) (GO:GxOk P G) (FN:SndFn P G n) (hm:Bool):SS P G n hm (scOf (inA 25 9)) (bodyOf (inA 25 9)) St.b_Store_drop:=(ss_cons (s1_asg rfl rfl (se_meth Y GO FN rfl rfl rfl (Nat.le_of_ble_eq_true rfl) (se_loc rfl) (ses_cons rfl (se_loc rfl) ses_nil))) (ss_cons (s1_expr rfl (se_bm rfl rfl rfl rfl (Nat.le_of_ble_eq_true rfl) (se_attr Y GO rfl (se_loc rfl)) (ses_cons rfl (se_loc rfl) ses_nil))) (ss_cons (s1_ret (se_meth Y GO FN rfl rfl rfl (Nat.le_of_ble_eq_true rfl) (se_attr Y GO rfl (se_loc rfl)) (ses_cons rfl (se_loc rfl) ses_nil))) ss_nil)))
theorem at_Store_drop {P:Pm} (Y:PmOk P) (B:BltOk P) (hK:P.K = KK P.w.params) (hl:P.lam = LAM):RowOk P (318,(["self", "shot"],St.b_Store_drop)) :=
  row2 (fd:=fd_Store_drop) (body:=bodyOf (inA 25 9)) Y hK hl (by kernel_rfl) (by kernel_rfl) (by kernel_rfl) ⟨rfl,rfl,rfl⟩ (fun GO FN hm=>d_Store_drop Y B GO FN hm) (fun _ _=>rfl)
theorem d_Store_back {P:Pm} {G:Gx} {n:Nat} (Y:PmOk P) (B:BltOk P) (GO:GxOk P G) (FN:SndFn P G n) (hm:Bool):SS P G n hm (scOf (inA 25 10)) (bodyOf (inA 25 10)) St.b_Store_back:=(ss_cons (s1_ret (se_meth Y GO FN rfl rfl rfl (Nat.le_of_ble_eq_true rfl) (se_loc rfl) (ses_cons rfl (se_meth Y GO FN rfl rfl rfl (Nat.le_of_ble_eq_true rfl) (se_loc rfl) (ses_cons rfl (se_loc rfl) ses_nil)) ses_nil))) ss_nil)
theorem at_Store_back {P:Pm} (Y:PmOk P) (B:BltOk P) (hK:P.K = KK P.w.params) (hl:P.lam = LAM):RowOk P (325,(["self", "shot"],St.b_Store_back)) :=
  row2 (fd:=fd_Store_back) (body:=bodyOf (inA 25 10)) Y hK hl (by kernel_rfl) (by kernel_rfl) (by kernel_rfl) ⟨rfl,rfl,rfl⟩ (fun GO FN hm=>d_Store_back Y B GO FN hm) (fun _ _=>rfl)
theorem d_Store_shot_numbers {P:Pm} {G:Gx} {n:Nat} (Y:PmOk P) (B:BltOk P) (GO:GxOk P G) (FN:SndFn P G n) (hm:Bool):SS P G n hm (scOf (inA 25 11)) (bodyOf (inA 25 11)) St.b_Store_shot_numbers:=(ss_cons (s1_ret (se_bf Y B rfl rfl rfl rfl (ses_cons rfl (se_attr Y GO rfl (se_loc rfl)) ses_nil))) ss_nil)
theorem at_Store_shot_numbers {P:Pm} (Y:PmOk P) (B:BltOk P) (hK:P.K = KK P.w.params) (hl:P.lam = LAM):RowOk P (332,(["self"],St.b_Store_shot_numbers)) :=
  row1 (fd:=fd_Store_shot_numbers) (body:=bodyOf (inA 25 11)) Y hK hl (by kernel_rfl) (by kernel_rfl) (by kernel_rfl) ⟨rfl,rfl,rfl⟩ (fun GO FN hm=>d_Store_shot_numbers Y B GO FN hm) (fun _=>rfl)
theorem d_Store_kind {P:Pm} {G:Gx} {n:Nat} (Y:PmOk P) (B:BltOk P) (GO:GxOk P G) (FN:SndFn P G n) (hm:Bool):SS P G n hm (scOf (inA 25 12)) (bodyOf (inA 25 12)) St.b_Store_kind:=(ss_cons (s1_asg rfl rfl (se_meth Y GO FN rfl rfl rfl (Nat.le_of_ble_eq_true rfl) (se_loc rfl) (ses_cons rfl (se_meth Y GO FN rfl rfl rfl (Nat.le_of_ble_eq_true rfl) (se_loc rfl) (ses_cons rfl (se_loc rfl) ses_nil)) (ses_cons rfl (se_call Y GO FN rfl (se_glob Y GO rfl) (ses_cons rfl (se_loc rfl) ses_nil)) ses_nil)))) (ss_cons (s1_if (st_cmp Y (se_loc rfl) se_none rfl) (ss_cons (s1_ret se_none) ss_nil) ss_nil) (ss_cons (s1_ret (se_idx1 (se_meth Y GO FN rfl rfl rfl (Nat.le_of_ble_eq_true rfl) (se_attr Y GO rfl (se_loc rfl)) (ses_cons rfl (se_loc rfl) ses_nil)) se_int rfl)) ss_nil)))
theorem at_Store_kind {P:Pm} (Y:PmOk P) (B:BltOk P) (hK:P.K = KK P.w.params) (hl:P.lam = LAM):RowOk P (339,(["self", "view", "path"],St.b_Store_kind)) :=
  row3 (fd:=fd_Store_kind) (body:=bodyOf (inA 25 12)) Y hK hl (by kernel_rfl) (by kernel_rfl) (by kernel_rfl) ⟨rfl,rfl,rfl⟩ (fun GO FN hm=>d_Store_kind Y B GO FN hm) (fun _ _ _=>rfl)
theorem d_Store_value {P:Pm} {G:Gx} {n:Nat} (Y:PmOk P) (B:BltOk P) (GO:GxOk P G) (FN:SndFn P G n) (hm:Bool):SS P G n hm (scOf (inA 25 13)) (bodyOf (inA 25 13)) St.b_Store_value:=(ss_cons (s1_asg rfl rfl (se_meth Y GO FN rfl rfl rfl (Nat.le_of_ble_eq_true rfl) (se_loc rfl) (ses_cons rfl (se_loc rfl) (ses_cons rfl (se_loc rfl) ses_nil)))) (ss_cons (s1_if (st_cmp Y (se_loc rfl) se_none rfl) (ss_cons (s1_raise Y GO rfl) ss_nil) ss_nil) (ss_cons (s1_if (st_cmp Y (se_loc rfl) se_str rfl) (ss_cons (s1_raise Y GO rfl) ss_nil) ss_nil) (ss_cons (s1_ret (se_idx1 (se_meth Y GO FN rfl rfl rfl (Nat.le_of_ble_eq_true rfl) (se_attr Y GO rfl (se_loc rfl)) (ses_cons rfl (se_meth Y GO FN rfl rfl rfl (Nat.le_of_ble_eq_true rfl) (se_loc rfl) (ses_cons rfl (se_meth Y GO FN rfl rfl rfl (Nat.le_of_ble_eq_true rfl) (se_loc rfl) (ses_cons rfl (se_loc rfl) ses_nil)) (ses_cons rfl (se_call Y GO FN rfl (se_glob Y GO rfl) (ses_cons rfl (se_loc rfl) ses_nil)) ses_nil))) ses_nil)) se_int rfl)) ss_nil))))
theorem at_Store_value {P:Pm} (Y:PmOk P) (B:BltOk P) (hK:P.K = KK P.w.params) (hl:P.lam = LAM):RowOk P (346,(["self", "view", "path"],St.b_Store_value)) :=
  row3 (fd:=fd_Store_value) (body:=bodyOf (inA 25 13)) Y hK hl (by kernel_rfl) (by kernel_rfl) (by kernel_rfl) ⟨rfl,rfl,rfl⟩ (fun GO FN hm=>d_Store_value Y B GO FN hm) (fun _ _ _=>rfl)
theorem d_Store_names {P:Pm} {G:Gx} {n:Nat} (Y:PmOk P) (B:BltOk P) (GO:GxOk P G) (FN:SndFn P G n) (hm:Bool):SS P G n hm (scOf (inA 25 14)) (bodyOf (inA 25 14)) St.b_Store_names:=(ss_cons (s1_asg rfl rfl (se_meth Y GO FN rfl rfl rfl (Nat.le_of_ble_eq_true rfl) (se_loc rfl) (ses_cons rfl (se_loc rfl) (ses_cons rfl (se_loc rfl) ses_nil)))) (ss_cons (s1_if (st_cmp Y (se_loc rfl) se_none rfl) (ss_cons (s1_raise Y GO rfl) ss_nil) ss_nil) (ss_cons (s1_if (st_cmp Y (se_loc rfl) se_str rfl) (ss_cons (s1_raise Y GO rfl) ss_nil) ss_nil) (ss_cons (s1_asg rfl rfl (se_idx1 (se_meth Y GO FN rfl rfl rfl (Nat.le_of_ble_eq_true rfl) (se_attr Y GO rfl (se_loc rfl)) (ses_cons rfl (se_meth Y GO FN rfl rfl rfl (Nat.le_of_ble_eq_true rfl) (se_loc rfl) (ses_cons rfl (se_meth Y GO FN rfl rfl rfl (Nat.le_of_ble_eq_true rfl) (se_loc rfl) (ses_cons rfl (se_loc rfl) ses_nil)) (ses_cons rfl (se_call Y GO FN rfl (se_glob Y GO rfl) (ses_cons rfl (se_loc rfl) ses_nil)) ses_nil))) ses_nil)) se_int rfl)) (ss_cons (s1_ret (se_comp rfl rfl (se_loc rfl) (se_idx1 (se_loc rfl) se_int rfl) STall.nil)) ss_nil)))))
theorem at_Store_names {P:Pm} (Y:PmOk P) (B:BltOk P) (hK:P.K = KK P.w.params) (hl:P.lam = LAM):RowOk P (351,(["self", "view", "path"],St.b_Store_names)) :=
  row3 (fd:=fd_Store_names) (body:=bodyOf (inA 25 14)) Y hK hl (by kernel_rfl) (by kernel_rfl) (by kernel_rfl) ⟨rfl,rfl,rfl⟩ (fun GO FN hm=>d_Store_names Y B GO FN hm) (fun _ _ _=>rfl)
theorem d_Store_changes {P:Pm} {G:Gx} {n:Nat} (Y:PmOk P) (B:BltOk P) (GO:GxOk P G) (FN:SndFn P G n) (hm:Bool):SS P G n hm (scOf (inA 25 16)) (bodyOf (inA 25 16)) b_Store_changes:=(ss_cons (s1_asg rfl rfl (se_list (ses_cons rfl (se_tup (ses_cons rfl (se_list ses_nil) (ses_cons rfl (se_meth Y GO FN rfl rfl rfl (Nat.le_of_ble_eq_true rfl) (se_loc rfl) (ses_cons rfl (se_loc rfl) ses_nil)) (ses_cons rfl (se_meth Y GO FN rfl rfl rfl (Nat.le_of_ble_eq_true rfl) (se_loc rfl) (ses_cons rfl (se_loc rfl) ses_nil)) ses_nil)))) ses_nil))) (ss_cons (s1_asg rfl rfl (se_list ses_nil)) (ss_cons (s1_asg rfl rfl se_int) (ss_cons (s1_while (st_cmp Y (se_loc rfl) (se_list ses_nil) rfl) (ss_cons (s1_asg rfl rfl (se_bm rfl rfl rfl rfl (Nat.le_of_ble_eq_true rfl) (se_loc rfl) ses_nil)) (ss_cons (s1_if (st_cmp Y (se_idx1 (se_loc rfl) se_int rfl) (se_idx1 (se_loc rfl) se_int rfl) rfl) (ss_cons s1_cont ss_nil) ss_nil) (ss_cons (s1_asg rfl rfl (se_bin (se_loc rfl) se_int)) (ss_cons (s1_asg rfl rfl (se_meth Y GO FN rfl rfl rfl (Nat.le_of_ble_eq_true rfl) (se_loc rfl) (ses_cons rfl (se_idx1 (se_loc rfl) se_int rfl) ses_nil))) (ss_cons (s1_asg rfl rfl (se_meth Y GO FN rfl rfl rfl (Nat.le_of_ble_eq_true rfl) (se_loc rfl) (ses_cons rfl (se_idx1 (se_loc rfl) se_int rfl) ses_nil))) (ss_cons (s1_if (st_cmp Y (se_idx1 (se_loc rfl) se_int rfl) (se_idx1 (se_loc rfl) se_int rfl) rfl) (ss_cons (s1_expr rfl (se_bm rfl rfl rfl rfl (Nat.le_of_ble_eq_true rfl) (se_loc rfl) (ses_cons rfl (se_tup (ses_cons rfl (se_idx1 (se_loc rfl) se_int rfl) (ses_cons rfl (se_idx1 (se_loc rfl) se_int rfl) (ses_cons rfl (se_idx1 (se_loc rfl) se_int rfl) ses_nil)))) ses_nil))) ss_nil) ss_nil) (ss_cons (s1_for rfl rfl se_never (ss_cons (s1_expr rfl (se_bm rfl rfl rfl rfl (Nat.le_of_ble_eq_true rfl) (se_loc rfl) (ses_cons rfl (se_tup (ses_cons rfl (se_bin (se_idx1 (se_loc rfl) se_int rfl) (se_list (ses_cons rfl (se_loc rfl) ses_nil))) (ses_cons rfl (se_call Y GO FN rfl (se_glob Y GO rfl) (ses_cons rfl (se_idx1 (se_loc rfl) se_int rfl) (ses_cons rfl (se_loc rfl) ses_nil))) (ses_cons rfl (se_call Y GO FN rfl (se_glob Y GO rfl) (ses_cons rfl (se_idx1 (se_loc rfl) se_int rfl) (ses_cons rfl (se_loc rfl) ses_nil))) ses_nil)))) ses_nil))) ss_nil)) ss_nil)))))))) (ss_cons (s1_ret (se_tup (ses_cons rfl (se_key0 Y B rfl rfl rfl (fun _=>rfl) (fun _=>rfl) (se_loc rfl)) (ses_cons rfl (se_loc rfl) ses_nil)))) ss_nil)))))
theorem at_Store_changes {P:Pm} (Y:PmOk P) (B:BltOk P) (hK:P.K = KK P.w.params) (hl:P.lam = LAM):RowOk P (363,(["self", "one", "other"],b_Store_changes)) :=
  row3 (fd:=fd_Store_changes) (body:=bodyOf (inA 25 16)) Y hK hl (by kernel_rfl) (by kernel_rfl) (by kernel_rfl) ⟨rfl,rfl,rfl⟩ (fun GO FN hm=>d_Store_changes Y B GO FN hm) (fun _ _ _=>rfl)
theorem d__law_cell_at {P:Pm} {G:Gx} {n:Nat} (Y:PmOk P) (B:BltOk P) (GO:GxOk P G) (FN:SndFn P G n) (hm:Bool):SS P G n hm (scOf (stA 27)) (bodyOf (stA 27)) b__law_cell_at:=(ss_cons (s1_if (st_cmp Y (se_loc rfl) (se_bf Y B rfl rfl rfl rfl (ses_cons rfl (se_loc rfl) ses_nil)) rfl) (ss_cons (s1_ret (se_idx1 (se_loc rfl) (se_loc rfl) rfl)) ss_nil) ss_nil) (ss_cons (s1_ret se_int) ss_nil))
theorem at__law_cell_at {P:Pm} (Y:PmOk P) (B:BltOk P) (hK:P.K = KK P.w.params) (hl:P.lam = LAM):RowOk P (377,(["_law_script", "_law_k"],b__law_cell_at)) :=
  row2 (fd:=fd__law_cell_at) (body:=bodyOf (stA 27)) Y hK hl (by kernel_rfl) (by kernel_rfl) (by kernel_rfl) ⟨rfl,rfl,rfl⟩ (fun GO FN hm=>d__law_cell_at Y B GO FN hm) (fun _ _=>rfl)
theorem d__law_word_by {P:Pm} {G:Gx} {n:Nat} (Y:PmOk P) (B:BltOk P) (GO:GxOk P G) (FN:SndFn P G n) (hm:Bool):SS P G n hm (scOf (stA 28)) (bodyOf (stA 28)) b__law_word_by:=(ss_cons (s1_asg rfl rfl se_str) (ss_cons (s1_ret (se_bm rfl rfl rfl rfl (Nat.le_of_ble_eq_true rfl) se_str (ses_cons rfl (se_comp rfl rfl (se_bf Y B rfl rfl rfl rfl (ses_cons rfl (se_bin (se_loc rfl) se_int) ses_nil)) (se_idx1 (se_loc rfl) (se_bin (se_bin (se_bin (se_loc rfl) se_int) (se_bin (se_loc rfl) (se_bin se_int (se_bin (se_bin (se_loc rfl) se_int) se_int)))) se_int) rfl) STall.nil) ses_nil))) ss_nil))
theorem at__law_word_by {P:Pm} (Y:PmOk P) (B:BltOk P) (hK:P.K = KK P.w.params) (hl:P.lam = LAM):RowOk P (382,(["_law_cell"],b__law_word_by)) :=
  row1 (fd:=fd__law_word_by) (body:=bodyOf (stA 28)) Y hK hl (by kernel_rfl) (by kernel_rfl) (by kernel_rfl) ⟨rfl,rfl,rfl⟩ (fun GO FN hm=>d__law_word_by Y B GO FN hm) (fun _=>rfl)
theorem d__law_paths {P:Pm} {G:Gx} {n:Nat} (Y:PmOk P) (B:BltOk P) (GO:GxOk P G) (FN:SndFn P G n) (hm:Bool):SS P G n hm (scOf (stA 29)) (bodyOf (stA 29)) b__law_paths:=(ss_cons (s1_asg rfl rfl (se_bin (se_loc rfl) se_str)) (ss_cons (s1_asg rfl rfl (se_bin (se_loc rfl) se_str)) (ss_cons (s1_asg rfl rfl (se_bin (se_loc rfl) se_str)) (ss_cons (s1_asg rfl rfl (se_list (ses_cons rfl (se_list (ses_cons rfl (se_loc rfl) ses_nil)) (ses_cons rfl (se_list (ses_cons rfl (se_loc rfl) (ses_cons rfl (se_loc rfl) ses_nil))) (ses_cons rfl (se_list (ses_cons rfl (se_loc rfl) ses_nil)) (ses_cons rfl (se_list (ses_cons rfl (se_loc rfl) (ses_cons rfl (se_loc rfl) ses_nil))) (ses_cons rfl (se_list (ses_cons rfl (se_loc rfl) (ses_cons rfl (se_loc rfl) (ses_cons rfl (se_loc rfl) ses_nil)))) (ses_cons rfl (se_list (ses_cons rfl (se_loc rfl) ses_nil)) (ses_cons rfl (se_list (ses_cons rfl (se_loc rfl) (ses_cons rfl (se_loc rfl) ses_nil))) (ses_cons rfl (se_list (ses_cons rfl (se_loc rfl) (ses_cons rfl (se_loc rfl) (ses_cons rfl (se_loc rfl) ses_nil)))) (ses_cons rfl (se_list ses_nil) ses_nil))))))))))) (ss_cons (s1_asg rfl rfl (se_list (ses_cons rfl se_str (ses_cons rfl se_none (ses_cons rfl (se_list (ses_cons rfl se_str ses_nil)) (ses_cons rfl (se_list (ses_cons rfl (se_loc rfl) (ses_cons rfl se_str ses_nil))) (ses_cons rfl (se_bin (se_list (ses_cons rfl (se_loc rfl) ses_nil)) se_int) (ses_cons rfl (se_list (ses_cons rfl (se_loc rfl) (ses_cons rfl se_int ses_nil))) (ses_cons rfl (se_list (ses_cons rfl (se_bin (se_loc rfl) (se_slice se_str so_none (so_some (se_bin se_int (se_bf Y B rfl rfl rfl rfl (ses_cons rfl (se_loc rfl) ses_nil)))))) ses_nil)) ses_nil))))))))) (ss_cons (s1_ret (se_bin (se_bin (se_loc rfl) (se_loc rfl)) (se_list (ses_cons rfl se_dict0 (ses_cons rfl (se_dictn rfl) (ses_cons rfl (se_list (ses_cons rfl se_none ses_nil)) (ses_cons rfl (se_list (ses_cons rfl (se_loc rfl) (ses_cons rfl (se_list (ses_cons rfl (se_loc rfl) ses_nil)) ses_nil))) (ses_cons rfl (se_list (ses_cons rfl (se_loc rfl) (ses_cons rfl se_dict0 ses_nil))) ses_nil)))))))) ss_nil))))))
theorem at__law_paths {P:Pm} (Y:PmOk P) (B:BltOk P) (hK:P.K = KK P.w.params) (hl:P.lam = LAM):RowOk P (389,(["_law_word"],b__law_paths)) :=
  row1 (fd:=fd__law_paths) (body:=bodyOf (stA 29)) Y hK hl (by kernel_rfl) (by kernel_rfl) (by kernel_rfl) ⟨rfl,rfl,rfl⟩ (fun GO FN hm=>d__law_paths Y B GO FN hm) (fun _=>rfl)
theorem d__law_asked {P:Pm} {G:Gx} {n:Nat} (Y:PmOk P) (B:BltOk P) (GO:GxOk P G) (FN:SndFn P G n) (hm:Bool):SS P G n hm (scOf (stA 30)) (bodyOf (stA 30)) b__law_asked:=(ss_cons (s1_if (st_cmp Y (se_loc rfl) se_int rfl) (ss_cons (s1_expr rfl (se_meth Y GO FN rfl rfl rfl (Nat.le_of_ble_eq_true rfl) (se_loc rfl) (ses_cons rfl (se_loc rfl) (ses_cons rfl (se_loc rfl) ses_nil)))) ss_nil) (ss_cons (s1_if (st_cmp Y (se_loc rfl) se_int rfl) (ss_cons (s1_expr rfl (se_meth Y GO FN rfl rfl rfl (Nat.le_of_ble_eq_true rfl) (se_loc rfl) (ses_cons rfl (se_loc rfl) ses_nil))) ss_nil) (ss_cons (s1_if (st_cmp Y (se_loc rfl) se_int rfl) (ss_cons (s1_expr rfl (se_meth Y GO FN rfl rfl rfl (Nat.le_of_ble_eq_true rfl) (se_loc rfl) (ses_cons rfl (se_loc rfl) ses_nil))) ss_nil) (ss_cons (s1_if (st_cmp Y (se_loc rfl) se_int rfl) (ss_cons (s1_expr rfl (se_meth Y GO FN rfl rfl rfl (Nat.le_of_ble_eq_true rfl) (se_loc rfl) (ses_cons rfl (se_loc rfl) ses_nil))) ss_nil) (ss_cons (s1_if (st_cmp Y (se_loc rfl) se_int rfl) (ss_cons (s1_expr rfl (se_meth Y GO FN rfl rfl rfl (Nat.le_of_ble_eq_true rfl) (se_loc rfl) (ses_cons rfl (se_loc rfl) (ses_cons rfl (se_loc rfl) ses_nil)))) ss_nil) (ss_cons (s1_if (st_cmp Y (se_loc rfl) se_int rfl) (ss_cons (s1_expr rfl (se_meth Y GO FN rfl rfl rfl (Nat.le_of_ble_eq_true rfl) (se_loc rfl) (ses_cons rfl (se_loc rfl) (ses_cons rfl (se_loc rfl) ses_nil)))) ss_nil) (ss_cons (s1_if (st_cmp Y (se_loc rfl) se_int rfl) (ss_cons (s1_expr rfl (se_meth Y GO FN rfl rfl rfl (Nat.le_of_ble_eq_true rfl) (se_loc rfl) (ses_cons rfl (se_loc rfl) (ses_cons rfl (se_loc rfl) ses_nil)))) ss_nil) (ss_cons (s1_if (st_cmp Y (se_loc rfl) se_int rfl) (ss_cons (s1_expr rfl (se_meth Y GO FN rfl rfl rfl (Nat.le_of_ble_eq_true rfl) (se_loc rfl) (ses_cons rfl se_none (ses_cons rfl (se_loc rfl) ses_nil)))) ss_nil) (ss_cons (s1_if (st_cmp Y (se_loc rfl) se_int rfl) (ss_cons (s1_expr rfl (se_meth Y GO FN rfl rfl rfl (Nat.le_of_ble_eq_true rfl) (se_loc rfl) (ses_cons rfl (se_loc rfl) (ses_cons rfl se_int ses_nil)))) ss_nil) (ss_cons (s1_expr rfl (se_meth Y GO FN rfl rfl rfl (Nat.le_of_ble_eq_true rfl) (se_loc rfl) (ses_cons rfl (se_loc rfl) ses_nil))) ss_nil)) ss_nil)) ss_nil)) ss_nil)) ss_nil)) ss_nil)) ss_nil)) ss_nil)) ss_nil)) ss_nil)
theorem at__law_asked {P:Pm} (Y:PmOk P) (B:BltOk P) (hK:P.K = KK P.w.params) (hl:P.lam = LAM):RowOk P (396,(["_law_store", "_law_way", "_law_path", "_law_number", "_law_view"],b__law_asked)) :=
  row5 (fd:=fd__law_asked) (body:=bodyOf (stA 30)) Y hK hl (by kernel_rfl) (by kernel_rfl) (by kernel_rfl) ⟨rfl,rfl,rfl⟩ (fun GO FN hm=>d__law_asked Y B GO FN hm) (fun _ _ _ _ _=>rfl)
theorem d__law_told {P:Pm} {G:Gx} {n:Nat} (Y:PmOk P) (B:BltOk P) (GO:GxOk P G) (FN:SndFn P G n) (hm:Bool):SS P G n hm (scOf (stA 31)) (bodyOf (stA 31)) b__law_told:=(ss_cons (s1_try Y GO (ss_cons (s1_expr rfl (se_call Y GO FN rfl (se_glob Y GO rfl) (ses_cons rfl (se_loc rfl) (ses_cons rfl (se_loc rfl) (ses_cons rfl (se_loc rfl) (ses_cons rfl (se_loc rfl) (ses_cons rfl (se_loc rfl) ses_nil))))))) ss_nil) (SH.as rfl rfl (ss_cons (s1_asg rfl rfl (se_bin (se_bin se_str (se_bf Y B rfl rfl rfl rfl (ses_cons rfl (se_isi_cls Y B GO rfl rfl rfl (se_loc rfl)) ses_nil))) (se_bin se_str (se_bf Y B rfl rfl rfl rfl (ses_cons rfl (se_isi_cls Y B GO rfl rfl rfl (se_loc rfl)) ses_nil))))) (ss_cons (s1_asg rfl rfl (se_bin (se_bin (se_loc rfl) (se_bin se_str (se_bf Y B rfl rfl rfl rfl (ses_cons rfl (se_isi_cls Y B GO rfl rfl rfl (se_loc rfl)) ses_nil)))) (se_bin se_str (se_bf Y B rfl rfl rfl rfl (ses_cons rfl (se_isi_cls Y B GO rfl rfl rfl (se_loc rfl)) ses_nil))))) (ss_cons (s1_asg rfl rfl (se_bin (se_bin (se_loc rfl) (se_bin se_str (se_bf Y B rfl rfl rfl rfl (ses_cons rfl (se_isi_cls Y B GO rfl rfl rfl (se_loc rfl)) ses_nil)))) (se_bin se_str (se_bf Y B rfl rfl rfl rfl (ses_cons rfl (se_isi_cls Y B GO rfl rfl rfl (se_loc rfl)) ses_nil))))) (ss_cons (s1_ret (se_bin (se_bin (se_loc rfl) (se_bin se_str (se_bf Y B rfl rfl rfl rfl (ses_cons rfl (se_isi_cls Y B GO rfl rfl rfl (se_loc rfl)) ses_nil)))) (se_bin se_str (se_bf Y B rfl rfl rfl rfl (ses_cons rfl (se_isi Y B GO rfl rfl rfl rfl rfl (se_loc rfl)) ses_nil))))) ss_nil)))) SH.nil)) (ss_cons (s1_ret se_str) ss_nil))
theorem at__law_told {P:Pm} (Y:PmOk P) (B:BltOk P) (hK:P.K = KK P.w.params) (hl:P.lam = LAM):RowOk P (403,(["_law_store", "_law_way", "_law_path", "_law_number", "_law_view"],b__law_told)) :=
  row5 (fd:=fd__law_told) (body:=bodyOf (stA 31)) Y hK hl (by kernel_rfl) (by kernel_rfl) (by kernel_rfl) ⟨rfl,rfl,rfl⟩ (fun GO FN hm=>d__law_told Y B GO FN hm) (fun _ _ _ _ _=>rfl)
theorem d__law_due_of_view {P:Pm} {G:Gx} {n:Nat} (Y:PmOk P) (B:BltOk P) (GO:GxOk P G) (FN:SndFn P G n) (hm:Bool):SS P G n hm (scOf (stA 32)) (bodyOf (stA 32)) b__law_due_of_view:=(ss_cons (s1_if (st_bop (sts_more (st_cmp Y (se_loc rfl) se_int rfl) (sts_one (st_bop (sts_more (st_cmp Y (se_loc rfl) se_int rfl) (sts_one (st_cmp Y (se_loc rfl) se_int rfl))))))) (ss_cons (s1_ret se_str) ss_nil) ss_nil) (ss_cons (s1_if (st_bop (sts_more (st_cmp Y (se_loc rfl) se_int rfl) (sts_more (st_cmp Y (se_loc rfl) se_int rfl) (sts_one (st_cmp Y (se_loc rfl) se_int rfl))))) (ss_cons (s1_ret se_str) ss_nil) ss_nil) (ss_cons (s1_if (st_cmp Y (se_loc rfl) se_int rfl) (ss_cons (s1_ret se_str) ss_nil) ss_nil) (ss_cons (s1_if (st_cmp Y (se_loc rfl) se_int rfl) (ss_cons (s1_ret se_str) ss_nil) ss_nil) (ss_cons (s1_if (st_cmp Y (se_loc rfl) (se_list (ses_cons rfl se_int (ses_cons rfl se_int (ses_cons rfl se_int (ses_cons rfl se_int (ses_cons rfl se_int ses_nil)))))) rfl) (ss_cons (s1_ret se_str) ss_nil) ss_nil) (ss_cons (s1_if (st_bop (sts_more (st_cmp Y (se_loc rfl) se_int rfl) (sts_one (st_cmp Y (se_loc rfl) (se_list (ses_cons rfl se_int (ses_cons rfl se_int ses_nil))) rfl)))) (ss_cons (s1_ret se_str) ss_nil) ss_nil) (ss_cons (s1_if (st_bop (sts_more (st_cmp Y (se_loc rfl) se_int rfl) (sts_one (st_cmp Y (se_loc rfl) (se_list (ses_cons rfl se_int (ses_cons rfl se_int ses_nil))) rfl)))) (ss_cons (s1_ret se_str) ss_nil) ss_nil) (ss_cons (s1_ret se_str) ss_nil))))))))
theorem at__law_due_of_view {P:Pm} (Y:PmOk P) (B:BltOk P) (hK:P.K = KK P.w.params) (hl:P.lam = LAM):RowOk P (410,(["_law_way", "_law_at", "_law_view"],b__law_due_of_view)) :=
  row3 (fd:=fd__law_due_of_view) (body:=bodyOf (stA 32)) Y hK hl (by kernel_rfl) (by kernel_rfl) (by kernel_rfl) ⟨rfl,rfl,rfl⟩ (fun GO FN hm=>d__law_due_of_view Y B GO FN hm) (fun _ _ _=>rfl)
theorem d__law_due {P:Pm} {G:Gx} {n:Nat} (Y:PmOk P) (B:BltOk P) (GO:GxOk P G) (FN:SndFn P G n) (hm:Bool):SS P G n hm (scOf (stA 33)) (bodyOf (stA 33)) b__law_due:=(ss_cons (s1_if (st_cmp Y (se_loc rfl) se_int rfl) (ss_cons (s1_ret (se_call Y GO FN rfl (se_glob Y GO rfl) (ses_cons rfl (se_loc rfl) (ses_cons rfl (se_loc rfl) (ses_cons rfl (se_loc rfl) ses_nil))))) ss_nil) ss_nil) (ss_cons (s1_if (st_cmp Y (se_loc rfl) se_int rfl) (ss_cons (s1_ret se_str) ss_nil) ss_nil) (ss_cons (s1_if (st_cmp Y (se_loc rfl) se_int rfl) (ss_cons (s1_ret (se_idx1 (se_list (ses_cons rfl se_str (ses_cons rfl se_str ses_nil))) (se_bf Y B rfl rfl rfl rfl (ses_cons rfl (se_cmp Y (se_loc rfl) se_int rfl) ses_nil)) rfl)) ss_nil) ss_nil) (ss_cons (s1_if (st_cmp Y (se_loc rfl) se_int rfl) (ss_cons (s1_ret se_str) ss_nil) ss_nil) (ss_cons (s1_if (st_cmp Y (se_loc rfl) (se_list (ses_cons rfl se_int (ses_cons rfl se_int (ses_cons rfl se_int ses_nil)))) rfl) (ss_cons (s1_ret se_str) ss_nil) ss_nil) (ss_cons (s1_ret (se_idx1 (se_list (ses_cons rfl se_str (ses_cons rfl se_str ses_nil))) (se_bf Y B rfl rfl rfl rfl (ses_cons rfl (se_cmp Y (se_loc rfl) se_int rfl) ses_nil)) rfl)) ss_nil))))))
theorem at__law_due {P:Pm} (Y:PmOk P) (B:BltOk P) (hK:P.K = KK P.w.params) (hl:P.lam = LAM):RowOk P (417,(["_law_way", "_law_at", "_law_number", "_law_view"],b__law_due)) :=
  row4 (fd:=fd__law_due) (body:=bodyOf (stA 33)) Y hK hl (by kernel_rfl) (by kernel_rfl) (by kernel_rfl) ⟨rfl,rfl,rfl⟩ (fun GO FN hm=>d__law_due Y B GO FN hm) (fun _ _ _ _=>rfl)
theorem d_law {P:Pm} {G:Gx} {n:Nat} (Y:PmOk P) (B:BltOk P) (GO:GxOk P G) (FN:SndFn P G n) (hm:Bool):SS P G n hm (scOf (stA 34)) (bodyOf (stA 34)) b_law:=(ss_cons (s1_asg rfl rfl (se_call Y GO FN rfl (se_glob Y GO rfl) (ses_cons rfl (se_call Y GO FN rfl (se_glob Y GO rfl) (ses_cons rfl (se_loc rfl) (ses_cons rfl se_int ses_nil))) ses_nil))) (ss_cons (s1_asg rfl rfl (se_call Y GO FN rfl (se_glob Y GO rfl) (ses_cons rfl (se_loc rfl) ses_nil))) (ss_cons (s1_asg rfl rfl (se_call Y GO FN rfl (se_glob Y GO rfl) ses_nil)) (ss_cons (s1_expr rfl (se_meth Y GO FN rfl rfl rfl (Nat.le_of_ble_eq_true rfl) (se_loc rfl) (ses_cons rfl (se_idx1 (se_loc rfl) se_int rfl) (ses_cons rfl se_int ses_nil)))) (ss_cons (s1_expr rfl (se_meth Y GO FN rfl rfl rfl (Nat.le_of_ble_eq_true rfl) (se_loc rfl) (ses_cons rfl (se_idx1 (se_loc rfl) se_int rfl) (ses_cons rfl (se_neg se_int) ses_nil)))) (ss_cons (s1_expr rfl (se_meth Y GO FN rfl rfl rfl (Nat.le_of_ble_eq_true rfl) (se_loc rfl) ses_nil)) (ss_cons (s1_expr rfl (se_meth Y GO FN rfl rfl rfl (Nat.le_of_ble_eq_true rfl) (se_loc rfl) (ses_cons rfl (se_meth Y GO FN rfl rfl rfl (Nat.le_of_ble_eq_true rfl) (se_loc rfl) ses_nil) ses_nil))) (ss_cons (s1_asg rfl rfl (se_idx1 (se_list (ses_cons rfl se_int (ses_cons rfl se_int (ses_cons rfl se_int (ses_cons rfl se_int (ses_cons rfl se_int (ses_cons rfl se_int (ses_cons rfl se_int (ses_cons rfl se_int (ses_cons rfl se_int (ses_cons rfl se_int (ses_cons rfl se_int (ses_cons rfl se_int (ses_cons rfl se_int (ses_cons rfl se_int (ses_cons rfl se_int ses_nil)))))))))))))))) (se_bin (se_call Y GO FN rfl (se_glob Y GO rfl) (ses_cons rfl (se_loc rfl) (ses_cons rfl se_int ses_nil))) se_int) rfl)) (ss_cons (s1_asg rfl rfl (se_idx1 (se_bin (se_bf Y B rfl rfl rfl rfl (ses_cons rfl (se_bf Y B rfl rfl rfl rfl (ses_cons rfl se_int ses_nil)) ses_nil)) (se_list (ses_cons rfl se_int (ses_cons rfl se_int (ses_cons rfl se_int (ses_cons rfl se_int (ses_cons rfl se_int (ses_cons rfl se_int (ses_cons rfl se_int ses_nil))))))))) (se_bin (se_call Y GO FN rfl (se_glob Y GO rfl) (ses_cons rfl (se_loc rfl) (ses_cons rfl se_int ses_nil))) se_int) rfl)) (ss_cons (s1_asg rfl rfl (se_idx1 (se_bin (se_bf Y B rfl rfl rfl rfl (ses_cons rfl (se_bf Y B rfl rfl rfl rfl (ses_cons rfl se_int ses_nil)) ses_nil)) (se_list (ses_cons rfl se_int (ses_cons rfl se_int (ses_cons rfl se_int (ses_cons rfl se_int (ses_cons rfl se_int (ses_cons rfl se_int (ses_cons rfl se_int ses_nil))))))))) (se_bin (se_call Y GO FN rfl (se_glob Y GO rfl) (ses_cons rfl (se_loc rfl) (ses_cons rfl se_int ses_nil))) se_int) rfl)) (ss_cons (s1_asg rfl rfl (se_idx1 (se_list (ses_cons rfl se_int (ses_cons rfl se_int (ses_cons rfl (se_neg se_int) (ses_cons rfl (se_bin (se_bin se_int se_int) se_int) (ses_cons rfl (se_bin se_int (se_bin se_int se_int)) (ses_cons rfl (se_bin se_int se_int) (ses_cons rfl (se_neg (se_bin se_int se_int)) (ses_cons rfl se_bool (ses_cons rfl se_str (ses_cons rfl se_none (ses_cons rfl (se_list (ses_cons rfl se_int ses_nil)) (ses_cons rfl (se_tup (ses_cons rfl se_int ses_nil)) (ses_cons rfl se_dict0 ses_nil)))))))))))))) (se_loc rfl) rfl)) (ss_cons (s1_asg rfl rfl (se_bin (se_call Y GO FN rfl (se_glob Y GO rfl) (ses_cons rfl (se_loc rfl) (ses_cons rfl se_int ses_nil))) se_int)) (ss_cons (s1_asg rfl rfl (se_idx1 (se_list (ses_cons rfl se_none (ses_cons rfl se_int (ses_cons rfl se_int (ses_cons rfl se_int (ses_cons rfl se_int (ses_cons rfl se_bool (ses_cons rfl se_str (ses_cons rfl (se_neg se_int) (ses_cons rfl (se_list (ses_cons rfl se_int ses_nil)) (ses_cons rfl (se_tup (ses_cons rfl se_int ses_nil)) (ses_cons rfl se_dict0 ses_nil)))))))))))) (se_loc rfl) rfl)) (ss_cons (s1_asg rfl rfl (se_call Y GO FN rfl (se_glob Y GO rfl) (ses_cons rfl (se_loc rfl) (ses_cons rfl (se_loc rfl) (ses_cons rfl (se_loc rfl) (ses_cons rfl (se_idx1 (se_list (ses_cons rfl (se_loc rfl) (ses_cons rfl (se_neg se_int) ses_nil))) (se_bf Y B rfl rfl rfl rfl (ses_cons rfl (se_cmp Y (se_loc rfl) se_int rfl) ses_nil)) rfl) ses_nil)))))) (ss_cons (s1_asg rfl rfl (se_tup (ses_cons rfl (se_meth Y GO FN rfl rfl rfl (Nat.le_of_ble_eq_true rfl) (se_attr Y GO rfl (se_loc rfl)) ses_nil) (ses_cons rfl (se_attr Y GO rfl (se_attr Y GO rfl (se_loc rfl))) (ses_cons rfl (se_meth Y GO FN rfl rfl rfl (Nat.le_of_ble_eq_true rfl) (se_loc rfl) (ses_cons rfl se_none ses_nil)) (ses_cons rfl (se_meth Y GO FN rfl rfl rfl (Nat.le_of_ble_eq_true rfl) (se_loc rfl) ses_nil) (ses_cons rfl (se_meth Y GO FN rfl rfl rfl (Nat.le_of_ble_eq_true rfl) (se_loc rfl) (ses_cons rfl se_int ses_nil)) ses_nil))))))) (ss_cons (s1_if (st_cmp Y (se_loc rfl) se_str rfl) (ss_cons (s1_ret (se_cmp Y (se_call Y GO FN rfl (se_glob Y GO rfl) (ses_cons rfl (se_loc rfl) (ses_cons rfl (se_loc rfl) (ses_cons rfl (se_idx1 (se_loc rfl) (se_loc rfl) rfl) (ses_cons rfl (se_loc rfl) (ses_cons rfl (se_loc rfl) ses_nil)))))) se_str rfl)) ss_nil) ss_nil) (ss_cons (s1_if (st_cmp Y (se_call Y GO FN rfl (se_glob Y GO rfl) (ses_cons rfl (se_loc rfl) (ses_cons rfl (se_loc rfl) (ses_cons rfl (se_idx1 (se_loc rfl) (se_loc rfl) rfl) (ses_cons rfl (se_loc rfl) (ses_cons rfl (se_loc rfl) ses_nil)))))) (se_bin (se_loc rfl) se_str) rfl) (ss_cons (s1_ret se_bool) ss_nil) ss_nil) (ss_cons (s1_ret (se_cmp Y (se_loc rfl) (se_tup (ses_cons rfl (se_meth Y GO FN rfl rfl rfl (Nat.le_of_ble_eq_true rfl) (se_attr Y GO rfl (se_loc rfl)) ses_nil) (ses_cons rfl (se_attr Y GO rfl (se_attr Y GO rfl (se_loc rfl))) (ses_cons rfl (se_meth Y GO FN rfl rfl rfl (Nat.le_of_ble_eq_true rfl) (se_loc rfl) (ses_cons rfl se_none ses_nil)) (ses_cons rfl (se_meth Y GO FN rfl rfl rfl (Nat.le_of_ble_eq_true rfl) (se_loc rfl) ses_nil) (ses_cons rfl (se_meth Y GO FN rfl rfl rfl (Nat.le_of_ble_eq_true rfl) (se_loc rfl) (ses_cons rfl se_int ses_nil)) ses_nil)))))) rfl)) ss_nil))))))))))))))))))
theorem at_law {P:Pm} (Y:PmOk P) (B:BltOk P) (hK:P.K = KK P.w.params) (hl:P.lam = LAM):RowOk P (424,(["_law_script"],b_law)) :=
  row1 (fd:=fd_law) (body:=bodyOf (stA 34)) Y hK hl (by kernel_rfl) (by kernel_rfl) (by kernel_rfl) ⟨rfl,rfl,rfl⟩ (fun GO FN hm=>d_law Y B GO FN hm) (fun _=>rfl)
noncomputable def tabL:List (Addr×(List Str×List Sm)):=[((123:Addr),((["thing"]:List Str),St.b_is_name)),((128:Addr),((["path"]:List Str),St.b_checked)),((142:Addr),((["self"]:List Str),St.b_Pile___init__)),((149:Addr),((["self", "box"]:List Str),St.b_Pile_need)),((156:Addr),((["self", "what"]:List Str),St.b_Pile_fresh)),((163:Addr),((["self", "number"]:List Str),St.b_Pile_leaf)),((170:Addr),((["self", "rows"]:List Str),St.b_Pile_branch)),((177:Addr),((["self", "box"]:List Str),St.b_Pile_content)),((184:Addr),((["self", "box"]:List Str),St.b_Pile_hold)),((196:Addr),((["self", "box"]:List Str),St.b_Pile_let_go)),((203:Addr),((["self"]:List Str),St.b_Pile_kept)),((217:Addr),((["rows", "name"]:List Str),St.b_box_of)),((222:Addr),((["rows", "name"]:List Str),St.b_without)),((227:Addr),((["rows", "name", "box"]:List Str),St.b_placed)),((234:Addr),((["path"]:List Str),St.b_need_way)),((241:Addr),((["number"]:List Str),St.b_need_number)),((255:Addr),((["self"]:List Str),St.b_Store___init__)),((262:Addr),((["self", "view"]:List Str),St.b_Store_top)),((269:Addr),((["self", "box", "names"]:List Str),St.b_Store_found)),((276:Addr),((["self", "names"]:List Str),St.b_Store_ways)),((283:Addr),((["self", "box"]:List Str),St.b_Store_changed)),((290:Addr),((["self", "path", "number"]:List Str),St.b_Store_put)),((297:Addr),((["self", "path"]:List Str),St.b_Store_cut)),((304:Addr),((["self"]:List Str),St.b_Store_snap)),((311:Addr),((["self", "number"]:List Str),St.b_Store_shot)),((318:Addr),((["self", "shot"]:List Str),St.b_Store_drop)),((325:Addr),((["self", "shot"]:List Str),St.b_Store_back)),((332:Addr),((["self"]:List Str),St.b_Store_shot_numbers)),((339:Addr),((["self", "view", "path"]:List Str),St.b_Store_kind)),((346:Addr),((["self", "view", "path"]:List Str),St.b_Store_value)),((351:Addr),((["self", "view", "path"]:List Str),St.b_Store_names)),((363:Addr),((["self", "one", "other"]:List Str),b_Store_changes)),((377:Addr),((["_law_script", "_law_k"]:List Str),b__law_cell_at)),((382:Addr),((["_law_cell"]:List Str),b__law_word_by)),((389:Addr),((["_law_word"]:List Str),b__law_paths)),((396:Addr),((["_law_store", "_law_way", "_law_path", "_law_number", "_law_view"]:List Str),b__law_asked)),((403:Addr),((["_law_store", "_law_way", "_law_path", "_law_number", "_law_view"]:List Str),b__law_told)),((410:Addr),((["_law_way", "_law_at", "_law_view"]:List Str),b__law_due_of_view)),((417:Addr),((["_law_way", "_law_at", "_law_number", "_law_view"]:List Str),b__law_due)),((424:Addr),((["_law_script"]:List Str),b_law))]
noncomputable def tab:Tab:=fun f=>tabL.lookup f
theorem tab_ok {P:Pm} (Y:PmOk P) (B:BltOk P) (hK:P.K = KK P.w.params) (hl:P.lam = LAM):TabOk P tab:=tabOk_of (L:=tabL) (.cons (at_is_name Y B hK hl) (.cons (at_checked Y B hK hl) (.cons (at_Pile___init__ Y B hK hl) (.cons (at_Pile_need Y B hK hl) (.cons (at_Pile_fresh Y B hK hl) (.cons (at_Pile_leaf Y B hK hl) (.cons (at_Pile_branch Y B hK hl) (.cons (at_Pile_content Y B hK hl) (.cons (at_Pile_hold Y B hK hl) (.cons (at_Pile_let_go Y B hK hl) (.cons (at_Pile_kept Y B hK hl) (.cons (at_box_of Y B hK hl) (.cons (at_without Y B hK hl) (.cons (at_placed Y B hK hl) (.cons (at_need_way Y B hK hl) (.cons (at_need_number Y B hK hl) (.cons (at_Store___init__ Y B hK hl) (.cons (at_Store_top Y B hK hl) (.cons (at_Store_found Y B hK hl) (.cons (at_Store_ways Y B hK hl) (.cons (at_Store_changed Y B hK hl) (.cons (at_Store_put Y B hK hl) (.cons (at_Store_cut Y B hK hl) (.cons (at_Store_snap Y B hK hl) (.cons (at_Store_shot Y B hK hl) (.cons (at_Store_drop Y B hK hl) (.cons (at_Store_back Y B hK hl) (.cons (at_Store_shot_numbers Y B hK hl) (.cons (at_Store_kind Y B hK hl) (.cons (at_Store_value Y B hK hl) (.cons (at_Store_names Y B hK hl) (.cons (at_Store_changes Y B hK hl) (.cons (at__law_cell_at Y B hK hl) (.cons (at__law_word_by Y B hK hl) (.cons (at__law_paths Y B hK hl) (.cons (at__law_asked Y B hK hl) (.cons (at__law_told Y B hK hl) (.cons (at__law_due_of_view Y B hK hl) (.cons (at__law_due Y B hK hl) (.cons (at_law Y B hK hl) RowsOk.nil))))))))))))))))))))))))))))))))))))))))
end Mine.L5
end

section
open PySem PySem.W PyProof.Rows PySem.Challenge
set_option maxHeartbeats 0
namespace Mine.L5
theorem holds_of {names:List Str} (h:LawTellsT KK names tab 424 360):rw_uf040010_05.Holds :=
  holds_law said fun said=>holds_open (q:=view) (d:=lawD) (kwd:=[]) left (Hook.of hook) (Hook.keeps hook) (fun s e=>xl_of s (Bool.and_eq_true_iff.mp e).1) XL.keeps (by kernel_rfl) (by kernel_rfl) (by kernel_rfl) (fun s e=>recFacts_of (Bool.and_eq_true_iff.mp e).2) (by rfl) said (by decide +kernel) ⟨rfl,rfl,rfl,rfl,rfl,by decide +kernel⟩ (by w_witness2) (by
  intro w s₀ s₁ mg mb G Y fa o pm cd doc dV kV ho hd hcd hD hmg hg args vals as hpre hlay hrd hwl hlo
  have KX:=km_in_of Y
  have hT:=km_tabs_of Y 360 (.head _)
  clear ho hd hcd hD
  refine Ground.open G ?_
  intro T B D TE TW
  wrow_args hpre hlay hrd hwl hlo
  rename_i hL ra w1 r0 hI hr hc hc'
  have hcd:codeHdIn (KK w.params) 362 360 = true:=by kernel_rfl
  have ct:=((codeHd_of_K KX hcd).tab hT).isCodeTable
  refine law_runsT (K:=KK) (names:=names) (tab:=tab) (c:=362) (T:=360) KX T hT hcd (by kernel_rfl) hmg rfl (by kernel_rfl) tab_ok hL hI hc h fun s' h1 h2 h3 h4=>⟨.inl ⟨.bool true, .bool true,[],rfl,fun _=>rfl, .bool true,by kernel_rfl,fun _=>⟨.nil,fun _ h=>(nomatch h)⟩⟩,⟨fun b o e=>?_,fun b o e=>?_⟩,h2, .of_eq (h1.trans hg)⟩
  · by_cases hb:b = 360
    · subst hb
      rw [hT] at e
      cases e
      obtain ⟨ps,hP⟩:=h4
      exact .inr (.inl ⟨ct,rfl,#[],ps,rfl,by rw [Array.empty_append];exact hP⟩)
    · exact .inl (h3 b o hb e)
  · by_cases hb:b = 360
    · subst hb
      obtain ⟨ps,hP⟩:=h4
      exact ⟨_,hP⟩
    · exact ⟨o,h3 b o hb e⟩)
end Mine.L5
end

section
open PySem PyProof.Rows
set_option maxHeartbeats 0
namespace Mine.L5
open Mine Mine.St Mine.Lw
noncomputable def ae (c m:Str) (a:Addr):(Str×Str)×Addr:=((c,m),a)
noncomputable def adL:List ((Str×Str)×Addr):=[ae "SnapError" "" 31,ae "BadPath" "" 44,ae "BadNumber" "" 56,ae "Nothing" "" 68,ae "LeafThere" "" 80,ae "BranchThere" "" 92,ae "NoShot" "" 104,ae "NoBox" "" 116,ae "Pile" "" 206,ae "Store" "" 366,ae "_wall" "" 21,ae "is_name" "" 123,ae "checked" "" 128,ae "Pile" "__init__" 142,ae "Pile" "need" 149,ae "Pile" "fresh" 156,ae "Pile" "leaf" 163,ae "Pile" "branch" 170,ae "Pile" "content" 177,ae "Pile" "hold" 184,ae "Pile" "holders" 191,ae "Pile" "let_go" 196,ae "Pile" "kept" 203,ae "box_of" "" 217,ae "without" "" 222,ae "placed" "" 227,ae "need_way" "" 234,ae "need_number" "" 241,ae "Store" "__init__" 255,ae "Store" "top" 262,ae "Store" "found" 269,ae "Store" "ways" 276,ae "Store" "changed" 283,ae "Store" "put" 290,ae "Store" "cut" 297,ae "Store" "snap" 304,ae "Store" "shot" 311,ae "Store" "drop" 318,ae "Store" "back" 325,ae "Store" "shot_numbers" 332,ae "Store" "kind" 339,ae "Store" "value" 346,ae "Store" "names" 351,ae "Store" "both" 358,ae "Store" "changes" 363,ae "_law_cell_at" "" 377,ae "_law_word_by" "" 382,ae "_law_paths" "" 389,ae "_law_asked" "" 396,ae "_law_told" "" 403,ae "_law_due_of_view" "" 410,ae "_law_due" "" 417,ae "law" "" 424]
noncomputable def ad:Ad:=fun c m=>(adL.lookup (c,m)).getD 0
noncomputable def names:List Str:=["SnapError", "BadPath", "BadNumber", "Nothing", "LeafThere", "BranchThere", "NoShot", "NoBox"]
noncomputable def Al (P:Str→Prop):List Str→Prop
  | []=>True
  | x :: r=>P x∧Al P r
theorem has_al {P:Str→Prop} {m:Str}:∀ {L:List Str},has m L = true→Al P L→P m
  | [],h,_=>by cases h
  | x :: r,h,⟨h1,h2⟩=>by
    have h:(decide (x = m) || has m r) = true:=h
    rw [Bool.or_eq_true] at h
    rcases h with h | h
    · rw [← of_decide_eq_true h];exact h1
    · exact has_al h h2
theorem el (p:Params):EL (gOf (KK p) names) ad where
  s:={
    p:=⟨by kernel_rfl,by kernel_rfl,fun h=>has_al (P:=fun m=>(gOf (KK p) names).meth (ad "Pile" "") m = some (ad "Pile" m)) h ⟨by kernel_rfl,by kernel_rfl,by kernel_rfl,by kernel_rfl,by kernel_rfl,by kernel_rfl,by kernel_rfl,by kernel_rfl,by kernel_rfl,trivial⟩,fun h=>has_al (P:=fun a=>(gOf (KK p) names).fld (ad "Pile" "") a = true) h ⟨by kernel_rfl,by kernel_rfl,by kernel_rfl,trivial⟩⟩
    ex:=fun h=>has_al (P:=fun x=>(gOf (KK p) names).glob x = some (.ref (ad x ""))∧(gOf (KK p) names).isExc (ad x "") = true) h ⟨⟨by kernel_rfl,by kernel_rfl⟩,⟨by kernel_rfl,by kernel_rfl⟩,⟨by kernel_rfl,by kernel_rfl⟩,⟨by kernel_rfl,by kernel_rfl⟩,⟨by kernel_rfl,by kernel_rfl⟩,⟨by kernel_rfl,by kernel_rfl⟩,⟨by kernel_rfl,by kernel_rfl⟩,trivial⟩
    fn:=fun h=>has_al (P:=fun x=>(gOf (KK p) names).glob x = some (.ref (ad x ""))∧(gOf (KK p) names).init (ad x "") = none) h ⟨⟨by kernel_rfl,by kernel_rfl⟩,⟨by kernel_rfl,by kernel_rfl⟩,⟨by kernel_rfl,by kernel_rfl⟩,⟨by kernel_rfl,by kernel_rfl⟩,⟨by kernel_rfl,by kernel_rfl⟩,⟨by kernel_rfl,by kernel_rfl⟩,trivial⟩
    letters:=by kernel_rfl
    most:=by kernel_rfl
    bound:=by kernel_rfl
    pile:=by kernel_rfl
    ipile:=by kernel_rfl
    store:=by kernel_rfl
    istore:=by kernel_rfl
    sm:=fun h=>has_al (P:=fun m=>(gOf (KK p) names).meth (ad "Store" "") m = some (ad "Store" m)) h ⟨by kernel_rfl,by kernel_rfl,by kernel_rfl,by kernel_rfl,by kernel_rfl,by kernel_rfl,by kernel_rfl,by kernel_rfl,by kernel_rfl,by kernel_rfl,by kernel_rfl,by kernel_rfl,by kernel_rfl,by kernel_rfl,by kernel_rfl,by kernel_rfl,trivial⟩
    sf:=fun h=>has_al (P:=fun a=>(gOf (KK p) names).fld (ad "Store" "") a = true) h ⟨by kernel_rfl,by kernel_rfl,by kernel_rfl,by kernel_rfl,trivial⟩ }
  l:=⟨fun h=>has_al (P:=fun x=>(gOf (KK p) names).glob x = some (.ref (ad x ""))∧(gOf (KK p) names).init (ad x "") = none) h ⟨⟨by kernel_rfl,by kernel_rfl⟩,⟨by kernel_rfl,by kernel_rfl⟩,⟨by kernel_rfl,by kernel_rfl⟩,⟨by kernel_rfl,by kernel_rfl⟩,⟨by kernel_rfl,by kernel_rfl⟩,⟨by kernel_rfl,by kernel_rfl⟩,⟨by kernel_rfl,by kernel_rfl⟩,trivial⟩⟩
  u:=⟨by kernel_rfl⟩
  w:=⟨by kernel_rfl,by kernel_rfl⟩
theorem tl:TabL tab ad where
  s:={
    p:=⟨by unfold HasF;kernel_rfl,by unfold HasF;kernel_rfl,by unfold HasF;kernel_rfl,by unfold HasF;kernel_rfl,by unfold HasF;kernel_rfl,by unfold HasF;kernel_rfl,by unfold HasF;kernel_rfl⟩
    is_name:=by unfold HasF;kernel_rfl
    checked:=by unfold HasF;kernel_rfl
    box_of:=by unfold HasF;kernel_rfl
    placed:=by unfold HasF;kernel_rfl
    need_way:=by unfold HasF;kernel_rfl
    need_number:=by unfold HasF;kernel_rfl
    pinit:=by unfold HasF;kernel_rfl
    sinit:=by unfold HasF;kernel_rfl
    top:=by unfold HasF;kernel_rfl
    found:=by unfold HasF;kernel_rfl
    ways:=by unfold HasF;kernel_rfl
    changed:=by unfold HasF;kernel_rfl
    put:=by unfold HasF;kernel_rfl
    kind:=by unfold HasF;kernel_rfl
    value:=by unfold HasF;kernel_rfl
    names:=by unfold HasF;kernel_rfl }
  kept:=by unfold HasF;kernel_rfl
  without:=by unfold HasF;kernel_rfl
  cut:=by unfold HasF;kernel_rfl
  snap:=by unfold HasF;kernel_rfl
  shot:=by unfold HasF;kernel_rfl
  drop:=by unfold HasF;kernel_rfl
  back:=by unfold HasF;kernel_rfl
  shot_numbers:=by unfold HasF;kernel_rfl
  changes:=by unfold HasF;kernel_rfl
  cell_at:=by unfold HasF;kernel_rfl
  word_by:=by unfold HasF;kernel_rfl
  paths:=by unfold HasF;kernel_rfl
  asked:=by unfold HasF;kernel_rfl
  told:=by unfold HasF;kernel_rfl
  due_of_view:=by unfold HasF;kernel_rfl
  due:=by unfold HasF;kernel_rfl
  law:=by unfold HasF;kernel_rfl
end Mine.L5
end

theorem PySem.Challenge.cw_uf040010_05_holds : PySem.Challenge.rw_uf040010_05.Holds :=
  Mine.L5.holds_of fun p a ns hn _=>Mine.L5.law_tells (Mine.L5.el p) Mine.L5.tl (H:=Mine.hOfT a 360 ns) (by unfold Mine.hOfT;exact if_pos rfl) (by unfold Mine.hOfT;exact (if_neg hn.symm).trans (if_pos rfl))
